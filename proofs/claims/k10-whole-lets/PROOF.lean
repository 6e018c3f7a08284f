import PyProof.Rows.All
import Wide.All
import OpenK.AllK
import Wide.FinOn
import HandS.ForMost
import HandS.ForExc
import HandS.TupAny
import HandS.TupMul
import HandS.TupLe
import HandS.Flow
import HandS.Style
import HandS.StrMore
import HandS.RevRange
import HandS.AnyAll
import KE.KDictKeyed
import KE.DataEq
import HandS.ExcIs
import KE.RegKIsAll
import HandS.IsInst
import HandS.TupSets
import HandS.More
import KE.KSortTupG
import KE.KDictCopyH
import KE.KDictSum
import KE.KIsAll
import HandS.Text
import HandS.Call
import HandS.Conv
import PySem.Challenge.RW_quiltyard_k10_whole_lets
set_option Elab.async false
set_option linter.all false
set_option maxRecDepth 100000
set_option maxHeartbeats 4000000
/-! Plain data and what stands for it over two heaps. -/
namespace QY
open PySem PySem.Spec PyProof.Rows L2

/-- plain data -/
inductive D where
  | non | bl (b : Bool) | int (i : Int) | str (s : Str) | lst (xs : List D) | tup (xs : List D)
  | dct (ks vs : List D) | scr (ns : List Int) | obj (c : Nat) (vs : List D) | exc (c : Nat) (vs : List D) | cls (c : Nat) | ty (n : String) | ptr (a : Nat) | dat (b : Nat) (ks vs : List D)
/-- how a computation ends -/
inductive R (α : Type) where
  | ok (a : α) | ex (c : Nat) (vs : List D) | er
def R.bind {α β : Type} (r : R α) (f : α → R β) : R β := match r with
  | .ok a => f a
  | .ex c vs => .ex c vs
  | .er => .er
@[simp] theorem R.bind_ok {α β : Type} (a : α) (f : α → R β) : (R.ok a).bind f = f a := (rfl)
@[simp] theorem R.bind_er {α β : Type} (f : α → R β) : (R.er : R α).bind f = .er := (rfl)
@[simp] theorem R.bind_ex {α β : Type} (c : Nat) (vs : List D) (f : α → R β) : (R.ex c vs : R α).bind f = .ex c vs := (rfl)
/-- what of the world the data lean on -/
structure Kap where
  P : Program
  w : World
  K : PySem.W.Frag
  cls : Nat → Addr
  fld : Nat → List Str
  exc : Nat → Addr
def ExPhi (c : Value) (od : Option Addr) (a : Addr) : Heap → Prop := fun h => ∃ (oe : Obj) (vs : Array Value), h.get? a = some oe ∧ oe.cls = c ∧ oe.dict = od ∧ oe.data = .fields vs
/-- data as a key of a dict -/
def nk : D → Option NestedKey
  | .non => some .none
  | .int i => some (.num i)
  | .bl b => some (.num (if b then 1 else 0))
  | .str s => some (.text s)
  | .tup xs => (nkAll xs).map .tup
  | _ => none
where nkAll : List D → Option (List NestedKey)
  | [] => some []
  | x :: xs => (nk x).bind fun k => (nkAll xs).map fun ks => k :: ks
/-- a dict's object, its entries -/
def DPhi (κ : Kap) (a : Addr) (xs : List (NestedKey × Addr × V)) : Heap → Prop := fun h =>
  ∃ ys : List (NestedKey × Addr × Value), Paired (fun p q => p.1 = q.1 ∧ p.2.1 = q.2.1 ∧ RelV p.2.2 q.2.2) xs ys ∧
    ∃ o es ep, h.get? a = some o ∧ o.ExactDict ∧ o.data = .dict es ep ∧ es.toList = ys.map (entryOfKey (nestedKind κ.P κ.w)) ∧ (ys.map (·.1)).Nodup ∧ xs.length ≤ sizeLine ∧ (a == sysModules) = false
mutual
/-- v stands for d in H -/
inductive Rep (κ : Kap) (H : Hp) : V → D → Prop
  | non : Rep κ H .non .non
  | bl (b : Bool) : Rep κ H (.bl b) (.bl b)
  | int (i : Int) : Rep κ H (.int i) (.int i)
  | str (s : Str) : Rep κ H (.str s) (.str s)
  | lst {a : Addr} {vs : List V} {ds : List D} : H a = some (.lst vs) → Reps κ H vs ds → Rep κ H (.ref a) (.lst ds)
  | tup {a : Addr} {vs : List V} {ds : List D} : H a = some (.tup vs) → Reps κ H vs ds → Rep κ H (.ref a) (.tup ds)
  | scr {a : Addr} {ns : List Int} : SqL κ.K H a (ns.map V.int) → Rep κ H (.ref a) (.scr ns)
  | dct {a : Addr} {xs : List (NestedKey × Addr × V)} {ks vs : List D} : H a = some (.ext (DPhi κ a xs)) → Reps κ H (xs.map fun x => V.ref x.2.1) ks → Reps κ H (xs.map fun x => x.2.2) vs → ks.map nk = xs.map (fun x => some x.1) → Rep κ H (.ref a) (.dct ks vs)
  | obj {a dx : Addr} {c : Nat} {vs : List V} {ds : List D} : H a = some (.ins (κ.cls c) dx ((κ.fld c).zip vs)) → vs.length = (κ.fld c).length → Reps κ H vs ds → Rep κ H (.ref a) (.obj c ds)
  | exc0 {a : Addr} {c : Nat} : H a = some (.ext (ExPhi (.ref (κ.exc c)) none a)) → Rep κ H (.ref a) (.exc c [])
  | exc1 {a dx : Addr} {c : Nat} {v : V} {d : D} : H a = some (.ext (ExPhi (.ref (κ.exc c)) (some dx) a)) → H dx = some (.xd [("row", v)]) → Rep κ H v d → Rep κ H (.ref a) (.exc c [d])
  | cls (c : Nat) : Rep κ H (.ref (κ.exc c)) (.cls c)
  | ty (n : String) : Rep κ H (.ty n) (.ty n)
  | ptr (a : Addr) : Rep κ H (.ref a) (.ptr a)
  | dat {a : Addr} {xs : List (NestedKey × Addr × V)} {ks vs : List D} : H a = some (.ext (DPhi κ a xs)) → Reps κ H (xs.map fun x => V.ref x.2.1) ks → Reps κ H (xs.map fun x => x.2.2) vs → ks.map nk = xs.map (fun x => some x.1) → Rep κ H (.ref a) (.dat a ks vs)
inductive Reps (κ : Kap) (H : Hp) : List V → List D → Prop
  | nil : Reps κ H [] []
  | cons {v : V} {vs : List V} {d : D} {ds : List D} : Rep κ H v d → Reps κ H vs ds → Reps κ H (v :: vs) (d :: ds)
end
def Ex (H H' : Hp) : Prop := ∀ a o, H a = some o → H' a = some o
theorem Ex.refl (H : Hp) : Ex H H := fun _ _ h => h
theorem Ex.trans {H H1 H2 : Hp} (a : Ex H H1) (b : Ex H1 H2) : Ex H H2 := fun x o h => b x o (a x o h)
theorem Ex.new {H : Hp} {p : Addr} {o : HO} (h : H p = none) : Ex H (upd H p o) := fun a u e => by
  rw [upd_ne (ne_of_none e h)]
  exact e
theorem Ex.none {H H' : Hp} (e : Ex H H') {a : Addr} (h : H' a = none) : H a = none := by
  cases q : H a with
  | none => rfl
  | some o => rw [e a o q] at h; cases h
theorem Ex.rd {H H' : Hp} {a : Addr} {u : HO} (e : Ex H H') (h : Rd H a u) : Rd H' a u := by
  rcases h with h | ⟨o, h⟩
  · exact Or.inl (e a _ h)
  · exact Or.inr ⟨o, e a _ h⟩
theorem Ex.l {K : PySem.W.Frag} {H H' : Hp} {a : Addr} {xs : List V} (e : Ex H H') (h : SqL K H a xs) : SqL K H' a xs := by
  rcases h with h | h
  · exact Or.inl (e.rd h)
  · exact Or.inr h
mutual
theorem Rep.mono {κ : Kap} {H H' : Hp} (e : Ex H H') : ∀ {v : V} {d : D}, Rep κ H v d → Rep κ H' v d
  | _, _, .non => .non
  | _, _, .bl b => .bl b
  | _, _, .int i => .int i
  | _, _, .str s => .str s
  | _, _, .lst h r => .lst (e _ _ h) (Reps.mono e r)
  | _, _, .tup h r => .tup (e _ _ h) (Reps.mono e r)
  | _, _, .scr h => .scr (e.l h)
  | _, _, .dct h r s q => .dct (e _ _ h) (Reps.mono e r) (Reps.mono e s) q
  | _, _, .obj h l r => .obj (e _ _ h) l (Reps.mono e r)
  | _, _, .exc0 h => .exc0 (e _ _ h)
  | _, _, .exc1 h h2 r => .exc1 (e _ _ h) (e _ _ h2) (Rep.mono e r)
  | _, _, .cls c => .cls c
  | _, _, .ty n => .ty n
  | _, _, .ptr a => .ptr a
  | _, _, .dat h r s q => .dat (e _ _ h) (Reps.mono e r) (Reps.mono e s) q
theorem Reps.mono {κ : Kap} {H H' : Hp} (e : Ex H H') : ∀ {vs : List V} {ds : List D}, Reps κ H vs ds → Reps κ H' vs ds
  | _, _, .nil => .nil
  | _, _, .cons r s => .cons (Rep.mono e r) (Reps.mono e s)
end
theorem Reps.length {κ : Kap} {H : Hp} : ∀ {vs : List V} {ds : List D}, Reps κ H vs ds → vs.length = ds.length
  | _, _, .nil => rfl
  | _, _, .cons _ s => by rw [List.length_cons, List.length_cons, s.length]
theorem Reps.append {κ : Kap} {H : Hp} : ∀ {vs ws : List V} {ds es : List D}, Reps κ H vs ds → Reps κ H ws es → Reps κ H (vs ++ ws) (ds ++ es)
  | _, _, _, _, .nil, s => s
  | _, _, _, _, .cons r t, s => .cons r (t.append s)
theorem Reps.get {κ : Kap} {H : Hp} : ∀ {vs : List V} {ds : List D} {i : Nat} {d : D}, Reps κ H vs ds → ds[i]? = some d → ∃ v, vs[i]? = some v ∧ Rep κ H v d
  | _, _, _, _, .nil, e => by simp at e
  | _, _, 0, _, .cons r _, e => by simp at e; subst e; exact ⟨_, rfl, r⟩
  | _, _, i + 1, d, .cons _ t, e => by
    obtain ⟨v, h1, h2⟩ := Reps.get (i := i) (d := d) t (by simpa using e)
    exact ⟨v, by simpa using h1, h2⟩
theorem Reps.getV {κ : Kap} {H : Hp} : ∀ {vs : List V} {ds : List D} {i : Nat} {v : V}, Reps κ H vs ds → vs[i]? = some v → ∃ d, ds[i]? = some d ∧ Rep κ H v d
  | _, _, _, _, .nil, e => by simp at e
  | _, _, 0, _, .cons r _, e => by simp at e; subst e; exact ⟨_, rfl, r⟩
  | _, _, i + 1, d, .cons _ t, e => by
    obtain ⟨v, h1, h2⟩ := Reps.getV (i := i) (v := d) t (by simpa using e)
    exact ⟨v, by simpa using h1, h2⟩
theorem Reps.drop {κ : Kap} {H : Hp} : ∀ {vs : List V} {ds : List D} (n : Nat), Reps κ H vs ds → Reps κ H (vs.drop n) (ds.drop n)
  | _, _, 0, r => r
  | _, _, _ + 1, .nil => .nil
  | _, _, n + 1, .cons _ t => Reps.drop n t
theorem Reps.take {κ : Kap} {H : Hp} : ∀ {vs : List V} {ds : List D} (n : Nat), Reps κ H vs ds → Reps κ H (vs.take n) (ds.take n)
  | _, _, 0, _ => .nil
  | _, _, _ + 1, .nil => .nil
  | _, _, n + 1, .cons r t => .cons r (Reps.take n t)
theorem Reps.reverse {κ : Kap} {H : Hp} : ∀ {vs : List V} {ds : List D}, Reps κ H vs ds → Reps κ H vs.reverse ds.reverse
  | _, _, .nil => .nil
  | _, _, .cons r t => by
    rw [List.reverse_cons, List.reverse_cons]
    exact t.reverse.append (.cons r .nil)
theorem Reps.eraseIdx {κ : Kap} {H : Hp} : ∀ {vs : List V} {ds : List D} (n : Nat), Reps κ H vs ds → Reps κ H (vs.eraseIdx n) (ds.eraseIdx n)
  | _, _, _, .nil => .nil
  | _, _, 0, .cons _ t => t
  | _, _, n + 1, .cons r t => .cons r (Reps.eraseIdx n t)
theorem Reps.set {κ : Kap} {H : Hp} {v : V} {d : D} (q : Rep κ H v d) : ∀ {vs : List V} {ds : List D} (n : Nat), Reps κ H vs ds → Reps κ H (vs.set n v) (ds.set n d)
  | _, _, _, .nil => .nil
  | _, _, 0, .cons _ t => .cons q t
  | _, _, n + 1, .cons r t => .cons r (Reps.set q n t)
theorem Reps.flat {κ : Kap} {H : Hp} {vs : List V} {ds : List D} (h : Reps κ H vs ds) : ∀ k : Nat, Reps κ H (List.replicate k vs).flatten (List.replicate k ds).flatten
  | 0 => .nil
  | k + 1 => by
    rw [List.replicate_succ, List.flatten_cons, List.replicate_succ, List.flatten_cons]
    exact h.append (h.flat k)
theorem Reps.ints {κ : Kap} {H : Hp} : ∀ (ns : List Int), Reps κ H (ns.map V.int) (ns.map D.int)
  | [] => .nil
  | _ :: r => .cons (.int _) (Reps.ints r)
theorem Reps.strs {κ : Kap} {H : Hp} : ∀ (ns : List Str), Reps κ H (ns.map V.str) (ns.map D.str)
  | [] => .nil
  | _ :: r => .cons (.str _) (Reps.strs r)
theorem Reps.ints_of {κ : Kap} {H : Hp} : ∀ {vs : List V} (ns : List Int), Reps κ H vs (ns.map D.int) → vs = ns.map V.int
  | _, [], .nil => rfl
  | _, _ :: r, .cons h t => by cases h; rw [Reps.ints_of r t]; rfl
theorem Reps.strs_of {κ : Kap} {H : Hp} : ∀ {vs : List V} (ns : List Str), Reps κ H vs (ns.map D.str) → vs = ns.map V.str
  | _, [], .nil => rfl
  | _, _ :: r, .cons h t => by cases h; rw [Reps.strs_of r t]; rfl
theorem Reps.bls_of {κ : Kap} {H : Hp} : ∀ {vs : List V} (ns : List Bool), Reps κ H vs (ns.map D.bl) → vs = ns.map V.bl
  | _, [], .nil => rfl
  | _, _ :: r, .cons h t => by cases h; rw [Reps.bls_of r t]; rfl

/-! ### two heaps: what is frozen, and all -/
structure Grow (H0 H H0' H' : Hp) : Prop where
  a : Ex H0 H0'
  b : Ex H H'
  c : Ex H0' H'
  d : ∀ p o, H p = some o → H0 p = none → H0' p = none
theorem Grow.refl {H0 H : Hp} (e : Ex H0 H) : Grow H0 H H0 H := ⟨.refl _, .refl _, e, fun _ _ _ h => h⟩
theorem Grow.trans {A B A1 B1 A2 B2 : Hp} (g : Grow A B A1 B1) (k : Grow A1 B1 A2 B2) : Grow A B A2 B2 :=
  ⟨g.a.trans k.a, g.b.trans k.b, k.c, fun p o h n => k.d p o (g.b p o h) (g.d p o h n)⟩
theorem upd_some {H : Hp} {p b : Addr} {o u : HO} (h : upd H p o b = some u) : (b = p ∧ u = o) ∨ (b ≠ p ∧ H b = some u) := by
  by_cases e : b = p
  · rw [e, upd_same] at h
    exact .inl ⟨e, (Option.some.inj h).symm⟩
  · rw [upd_ne e] at h
    exact .inr ⟨e, h⟩
/-- a new object, frozen at once -/
theorem Grow.new {H0 H : Hp} {p : Addr} {o : HO} (e : Ex H0 H) (h : H p = none) : Grow H0 H (upd H0 p o) (upd H p o) where
  a := Ex.new (e.none h)
  b := Ex.new h
  c := fun b u q => by
    rcases upd_some q with ⟨rfl, rfl⟩ | ⟨n, q⟩
    · exact upd_same
    · rw [upd_ne n]; exact e _ _ q
  d := fun q u hq hn => by rw [upd_ne (ne_of_none hq h)]; exact hn
/-- a new object, not frozen -/
theorem Grow.own {H0 H : Hp} {p : Addr} {o : HO} (e : Ex H0 H) (h : H p = none) : Grow H0 H H0 (upd H p o) where
  a := .refl _
  b := Ex.new h
  c := e.trans (Ex.new h)
  d := fun _ _ _ hn => hn
/-- what a def has filled and alone knows -/
def Own (κ : Kap) (H0 : Hp) (a : Addr) (ho : Option HO) : D → Prop
  | .lst ds => ∃ vs, ho = some (.lst vs) ∧ Reps κ H0 vs ds
  | .dct ks vs => ∃ xs, ho = some (.ext (DPhi κ a xs)) ∧ Reps κ H0 (xs.map fun x => V.ref x.2.1) ks ∧ Reps κ H0 (xs.map fun x => x.2.2) vs ∧ ks.map nk = xs.map fun x => some x.1
  | .dat b ks vs => b = a ∧ ∃ xs, ho = some (.ext (DPhi κ a xs)) ∧ Reps κ H0 (xs.map fun x => V.ref x.2.1) ks ∧ Reps κ H0 (xs.map fun x => x.2.2) vs ∧ ks.map nk = xs.map fun x => some x.1
  | _ => False
theorem Own.sm {κ : Kap} {H0 : Hp} {a : Addr} {ho : Option HO} {d : D} (h : Own κ H0 a ho d) : ∃ o, ho = some o := by
  cases d with
  | lst ds => obtain ⟨vs, e, _⟩ := h; exact ⟨_, e⟩
  | dct ks vs => obtain ⟨xs, e, _⟩ := h; exact ⟨_, e⟩
  | dat b ks vs => obtain ⟨_, xs, e, _⟩ := h; exact ⟨_, e⟩
  | _ => exact h.elim
theorem Own.mono {κ : Kap} {H0 H1 : Hp} (e : Ex H0 H1) {a : Addr} {ho : Option HO} {d : D} (h : Own κ H0 a ho d) : Own κ H1 a ho d := by
  cases d with
  | lst ds => obtain ⟨vs, q, r⟩ := h; exact ⟨vs, q, r.mono e⟩
  | dct ks vs => obtain ⟨xs, q, r, s, t⟩ := h; exact ⟨xs, q, r.mono e, s.mono e, t⟩
  | dat b ks vs => obtain ⟨z, xs, q, r, s, t⟩ := h; exact ⟨z, xs, q, r.mono e, s.mono e, t⟩
  | _ => exact h.elim
/-- frozen now -/
theorem Own.rep {κ : Kap} {H0 : Hp} {a : Addr} {o : HO} {d : D} (h : Own κ H0 a (some o) d) (n : H0 a = none) : Rep κ (upd H0 a o) (.ref a) d := by
  cases d with
  | lst ds =>
    obtain ⟨vs, q, r⟩ := h
    cases q
    exact .lst upd_same (r.mono (Ex.new n))
  | dct ks vs =>
    obtain ⟨xs, q, r, s, t⟩ := h
    cases q
    exact .dct upd_same (r.mono (Ex.new n)) (s.mono (Ex.new n)) t
  | dat b ks vs =>
    obtain ⟨rfl, xs, q, r, s, t⟩ := h
    cases q
    exact .dat upd_same (r.mono (Ex.new n)) (s.mono (Ex.new n)) t
  | _ => exact h.elim
/-- borrowed: frozen, or owned by someone -/
def Bor (κ : Kap) (H0 H : Hp) (v : V) (d : D) : Prop := Rep κ H0 v d ∨ ∃ a, v = .ref a ∧ H0 a = none ∧ Own κ H0 a (H a) d
theorem Bor.grow {κ : Kap} {H0 H H0' H' : Hp} {v : V} {d : D} (b : Bor κ H0 H v d) (g : Grow H0 H H0' H') : Bor κ H0' H' v d := by
  rcases b with r | ⟨a, e, n, o⟩
  · exact .inl (r.mono g.a)
  · obtain ⟨u, hu⟩ := o.sm
    exact .inr ⟨a, e, g.d a u hu n, by rw [g.b a u hu]; rw [hu] at o; exact o.mono g.a⟩
theorem Bor.lst {κ : Kap} {H0 H : Hp} {v : V} {ds : List D} (e : Ex H0 H) (b : Bor κ H0 H v (.lst ds)) : ∃ a vs, v = .ref a ∧ H a = some (.lst vs) ∧ Reps κ H0 vs ds := by
  rcases b with r | ⟨a, rfl, n, vs, q, r⟩
  · cases r with
    | lst h r => exact ⟨_, _, rfl, e _ _ h, r⟩
  · exact ⟨a, vs, rfl, q, r⟩
theorem Bor.tup {κ : Kap} {H0 H : Hp} {v : V} {ds : List D} (e : Ex H0 H) (b : Bor κ H0 H v (.tup ds)) : ∃ a vs, v = .ref a ∧ H a = some (.tup vs) ∧ Reps κ H0 vs ds := by
  rcases b with r | ⟨a, rfl, n, o⟩
  · cases r with
    | tup h r => exact ⟨_, _, rfl, e _ _ h, r⟩
  · exact o.elim
theorem Bor.flat {κ : Kap} {H0 H : Hp} {v : V} {d : D} (b : Bor κ H0 H v d) (h : ∀ a ho, ¬ Own κ H0 a ho d) : Rep κ H0 v d := by
  rcases b with r | ⟨a, _, _, o⟩
  · exact r
  · exact (h _ _ o).elim

/-! ### slots -/
inductive B where
  | no | fz (d : D) | ow (d : D)
abbrev Env' := List B
structure Slots (κ : Kap) (H0 H : Hp) (σ : L2.St) (ρ : List B) : Prop where
  len : σ.length = ρ.length
  fz : ∀ (i : Nat) (d : D), ρ[i]? = some (B.fz d) → ∃ v, σ[i]? = some (some v) ∧ Rep κ H0 v d
  ow : ∀ (i : Nat) (d : D), ρ[i]? = some (B.ow d) → ∃ a, σ[i]? = some (some (V.ref a)) ∧ H0 a = none ∧ Own κ H0 a (H a) d
  ap : ∀ (i j : Nat) (d e : D) (a : Addr), i ≠ j → ρ[i]? = some (B.ow d) → ρ[j]? = some (B.ow e) → σ[i]? = some (some (V.ref a)) → σ[j]? = some (some (V.ref a)) → False
theorem Slots.grow {κ : Kap} {H0 H H0' H' : Hp} {σ : L2.St} {ρ : List B} (S : Slots κ H0 H σ ρ) (g : Grow H0 H H0' H') : Slots κ H0' H' σ ρ where
  len := S.len
  fz := fun i d e => let ⟨v, h, r⟩ := S.fz i d e; ⟨v, h, r.mono g.a⟩
  ow := fun i d e => by
    obtain ⟨a, h, n, o⟩ := S.ow i d e
    obtain ⟨u, hu⟩ := o.sm
    exact ⟨a, h, g.d a u hu n, by rw [g.b a u hu]; rw [hu] at o; exact o.mono g.a⟩
  ap := S.ap
end QY

/-! Meanings as readings; the nodes. -/
namespace QY
open PySem PySem.Spec PyProof.Rows L2

abbrev EV := List B → R D
abbrev PP := Hp → Hp → Hp → V → D → Prop
def ExD (κ : Kap) (H0 : Hp) (dx : Option Addr) : List D → Prop
  | [] => dx = none
  | [d] => ∃ a v, dx = some a ∧ H0 a = some (.xd [("row", v)]) ∧ Rep κ H0 v d
  | _ => False
theorem ExD.mono {κ : Kap} {H0 H1 : Hp} (e : Ex H0 H1) {dx : Option Addr} : ∀ {vs : List D}, ExD κ H0 dx vs → ExD κ H1 dx vs
  | [], h => h
  | [_], ⟨a, v, h1, h2, h3⟩ => ⟨a, v, h1, e _ _ h2, h3.mono e⟩
  | _ :: _ :: _, h => h
def Fin (κ : Kap) (W : WX) (P : PP) (σ : L2.St) (H0 H : Hp) (r : R D) (Q : VK) : Prop := match r with
  | .ok d => ∀ v H0' H', Grow H0 H H0' H' → P H H0' H' v d → Q v H'
  | .ex c vs => ∀ dx H0' H', Grow H0 H H0' H' → ExD κ H0' dx vs → W (.ref (κ.exc c)) dx σ H'
  | .er => False
def FinO (P : PP) (H0 H : Hp) (r : Option D) (Q : VK) : Prop := match r with
  | some d => ∀ v H0' H', Grow H0 H H0' H' → P H H0' H' v d → Q v H'
  | none => False
def FinA (κ : Kap) (W : WX) (P : Hp → Hp → List V → List D → Prop) (σ : L2.St) (H0 H : Hp) (r : R (List D)) (Q : List V → Hp → Prop) : Prop := match r with
  | .ok d => ∀ v H0' H', Grow H0 H H0' H' → P H0' H' v d → Q v H'
  | .ex c vs => ∀ dx H0' H', Grow H0 H H0' H' → ExD κ H0' dx vs → W (.ref (κ.exc c)) dx σ H'
  | .er => False
def FinT (κ : Kap) (W : WX) (σ : L2.St) (H0 H : Hp) (r : R Bool) (Q : Bool → Hp → Prop) : Prop := match r with
  | .ok b => ∀ H0' H', Grow H0 H H0' H' → Q b H'
  | .ex c vs => ∀ dx H0' H', Grow H0 H H0' H' → ExD κ H0' dx vs → W (.ref (κ.exc c)) dx σ H'
  | .er => False
def R.of {α : Type} : Option α → R α
  | some a => .ok a
  | none => .er
@[simp] theorem R.of_some {α : Type} (a : α) : R.of (some a) = .ok a := (rfl)
@[simp] theorem R.of_none {α : Type} : (R.of (none : Option α)) = .er := (rfl)
def PR (κ : Kap) : PP := fun _ H0 _ v d => Rep κ H0 v d
def PB (κ : Kap) : PP := fun _ H0 H v d => Bor κ H0 H v d
/-- a list is a new one -/
def PX (κ : Kap) : PP := fun Hs H0 H v d => match d with
  | .dct _ _ => ∃ a, v = .ref a ∧ Hs a = none ∧ H0 a = none ∧ Own κ H0 a (H a) d
  | .lst _ => ∃ a, v = .ref a ∧ Hs a = none ∧ H0 a = none ∧ Own κ H0 a (H a) d
  | .dat _ _ _ => ∃ a, v = .ref a ∧ Hs a = none ∧ H0 a = none ∧ Own κ H0 a (H a) d
  | _ => Rep κ H0 v d
def isL : D → Bool
  | .lst _ => true
  | .dct _ _ => true
  | .dat _ _ _ => true
  | _ => false
def PM (P : PP) : Prop := ∀ Hs Hs' H0 H v d, Ex Hs Hs' → P Hs' H0 H v d → P Hs H0 H v d
theorem pmR {κ : Kap} : PM (PR κ) := fun _ _ _ _ _ _ _ h => h
theorem pmB {κ : Kap} : PM (PB κ) := fun _ _ _ _ _ _ _ h => h
theorem pmX {κ : Kap} : PM (PX κ) := fun Hs Hs' H0 H v d e h => by
  cases d with
  | lst ds => obtain ⟨a, h1, h2, h3⟩ := h; exact ⟨a, h1, e.none h2, h3⟩
  | dct ks vs => obtain ⟨a, h1, h2, h3⟩ := h; exact ⟨a, h1, e.none h2, h3⟩
  | dat b ks vs => obtain ⟨a, h1, h2, h3⟩ := h; exact ⟨a, h1, e.none h2, h3⟩
  | _ => exact h
def tP (κ : Kap) (W : WX) (P : PP) (f : EV) : TE := fun σ H Q => ∃ ρ H0, Ex H0 H ∧ Slots κ H0 H σ ρ ∧ Fin κ W P σ H0 H (f ρ) Q
def tA (κ : Kap) (W : WX) (P : Hp → Hp → List V → List D → Prop) (f : List B → R (List D)) : TA := fun σ H Q => ∃ ρ H0, Ex H0 H ∧ Slots κ H0 H σ ρ ∧ FinA κ W P σ H0 H (f ρ) Q
def tT (κ : Kap) (W : WX) (f : List B → R Bool) : TT := fun σ H Q => ∃ ρ H0, Ex H0 H ∧ Slots κ H0 H σ ρ ∧ FinT κ W σ H0 H (f ρ) Q
section
variable {κ : Kap} {W : WX} {P P' : PP} {σ : L2.St} {H0 H H01 H1 : Hp} {Q Q' : VK}
theorem Fin.mono {r : R D} (q : ∀ v H, Q v H → Q' v H) (h : Fin κ W P σ H0 H r Q) : Fin κ W P σ H0 H r Q' := by
  cases r with
  | ok d => exact fun v a b g p => q _ _ (h v a b g p)
  | ex c vs => exact h
  | er => exact h
theorem Fin.grow {r : R D} (pm : PM P) (g : Grow H0 H H01 H1) (h : Fin κ W P σ H0 H r Q) : Fin κ W P σ H01 H1 r Q := by
  cases r with
  | ok d => exact fun v a b k p => h v a b (g.trans k) (pm _ _ _ _ _ _ g.b p)
  | ex c vs => exact fun dx a b k p => h dx a b (g.trans k) p
  | er => exact h
theorem FinT.grow {r : R Bool} {Q : Bool → Hp → Prop} (g : Grow H0 H H01 H1) (h : FinT κ W σ H0 H r Q) : FinT κ W σ H01 H1 r Q := by
  cases r with
  | ok d => exact fun a b k => h a b (g.trans k)
  | ex c vs => exact fun dx a b k p => h dx a b (g.trans k) p
  | er => exact h
theorem FinA.grow {r : R (List D)} {P : Hp → Hp → List V → List D → Prop} {Q : List V → Hp → Prop} (g : Grow H0 H H01 H1) (h : FinA κ W P σ H0 H r Q) : FinA κ W P σ H01 H1 r Q := by
  cases r with
  | ok d => exact fun v a b k p => h v a b (g.trans k) p
  | ex c vs => exact fun dx a b k p => h dx a b (g.trans k) p
  | er => exact h
theorem FinO.of {r : Option D} (h : Fin κ W P σ H0 H (R.of r) Q) : FinO P H0 H r Q := by
  cases r with
  | some d => exact h
  | none => exact h
/-- one part, then the rest, in whatever reading -/
theorem tP_bind {α : Type} {f : EV} {g : D → R α} {ρ : List B} {Z : L2.St → Hp → Hp → R α → Prop} (E : Ex H0 H) (S : Slots κ H0 H σ ρ) (h : Z σ H0 H ((f ρ).bind g))
    (zg : ∀ H01 H1 r, Grow H0 H H01 H1 → Z σ H0 H r → Z σ H01 H1 r) (zx : ∀ c vs, Z σ H0 H (.ex c vs) → ∀ dx H0' H', Grow H0 H H0' H' → ExD κ H0' dx vs → W (.ref (κ.exc c)) dx σ H') (ze : ¬ Z σ H0 H .er) :
    tP κ W P f σ H (fun v H1 => ∃ H01 d, Grow H0 H H01 H1 ∧ P H H01 H1 v d ∧ Z σ H01 H1 (g d)) := by
  refine ⟨ρ, H0, E, S, ?_⟩
  cases e : f ρ with
  | ok d =>
    rw [e] at h
    exact fun v a b k p => ⟨a, d, k, p, zg a b _ k h⟩
  | ex c vs =>
    rw [e] at h
    exact zx c vs h
  | er =>
    rw [e] at h
    exact ze h
theorem fin_bind {f : EV} {g : D → R D} {ρ : List B} (pm : PM P') (E : Ex H0 H) (S : Slots κ H0 H σ ρ) (h : Fin κ W P' σ H0 H ((f ρ).bind g) Q) :
    tP κ W P f σ H (fun v H1 => ∃ H01 d, Grow H0 H H01 H1 ∧ P H H01 H1 v d ∧ Fin κ W P' σ H01 H1 (g d) Q) :=
  tP_bind (Z := fun σ H0 H r => Fin κ W P' σ H0 H r Q) E S h (fun _ _ _ k z => z.grow pm k) (fun _ _ z => z) fun z => z
theorem finT_bind {f : EV} {g : D → R Bool} {ρ : List B} {Q : Bool → Hp → Prop} (E : Ex H0 H) (S : Slots κ H0 H σ ρ) (h : FinT κ W σ H0 H ((f ρ).bind g) Q) :
    tP κ W P f σ H (fun v H1 => ∃ H01 d, Grow H0 H H01 H1 ∧ P H H01 H1 v d ∧ FinT κ W σ H01 H1 (g d) Q) :=
  tP_bind (Z := fun σ H0 H r => FinT κ W σ H0 H r Q) E S h (fun _ _ _ k z => z.grow k) (fun _ _ z => z) fun z => z
theorem finA_bind {f : EV} {g : D → R (List D)} {ρ : List B} {PL : Hp → Hp → List V → List D → Prop} {Q : List V → Hp → Prop} (E : Ex H0 H) (S : Slots κ H0 H σ ρ) (h : FinA κ W PL σ H0 H ((f ρ).bind g) Q) :
    tP κ W P f σ H (fun v H1 => ∃ H01 d, Grow H0 H H01 H1 ∧ P H H01 H1 v d ∧ FinA κ W PL σ H01 H1 (g d) Q) :=
  tP_bind (Z := fun σ H0 H r => FinA κ W PL σ H0 H r Q) E S h (fun _ _ _ k z => z.grow k) (fun _ _ z => z) fun z => z
/-- a test first -/
theorem finB_bind {f : List B → R Bool} {g : Bool → R D} {ρ : List B} (pm : PM P') (E : Ex H0 H) (S : Slots κ H0 H σ ρ) (h : Fin κ W P' σ H0 H ((f ρ).bind g) Q) :
    tT κ W f σ H (fun b H1 => ∃ H01, Grow H0 H H01 H1 ∧ Fin κ W P' σ H01 H1 (g b) Q) := by
  refine ⟨ρ, H0, E, S, ?_⟩
  cases e : f ρ with
  | ok d =>
    rw [e] at h
    exact fun a b k => ⟨a, k, h.grow pm k⟩
  | ex c vs => rw [e] at h; exact h
  | er => rw [e] at h; exact h
theorem finBT_bind {f : List B → R Bool} {g : Bool → R Bool} {ρ : List B} {Q : Bool → Hp → Prop} (E : Ex H0 H) (S : Slots κ H0 H σ ρ) (h : FinT κ W σ H0 H ((f ρ).bind g) Q) :
    tT κ W f σ H (fun b H1 => ∃ H01, Grow H0 H H01 H1 ∧ FinT κ W σ H01 H1 (g b) Q) := by
  refine ⟨ρ, H0, E, S, ?_⟩
  cases e : f ρ with
  | ok d =>
    rw [e] at h
    exact fun a b k => ⟨a, k, h.grow k⟩
  | ex c vs => rw [e] at h; exact h
  | er => rw [e] at h; exact h
end
section
variable {X : Cx} {κ : Kap} {W : WX} {e a b : Expr} {f fa fb : EV} {pos : Pos}
theorem PE_weak {t t' : TE} (p : PE X e t) (h : ∀ σ H Q, t' σ H Q → t σ H Q) : PE X e t' := ⟨fun pins s σ H Q I q => p.run pins s σ H Q I (h σ H Q q)⟩
theorem PT_weak {t t' : TT} (p : PT X e t) (h : ∀ σ H Q, t' σ H Q → t σ H Q) : PT X e t' := ⟨fun pins s σ H Q I q => p.run pins s σ H Q I (h σ H Q q)⟩
theorem PW_weak {t t' : TT} (p : PW X e t) (h : ∀ σ H Q, t' σ H Q → t σ H Q) : PW X e t' := ⟨fun wh pins s σ H Q I q => p.run wh pins s σ H Q I (h σ H Q q)⟩
theorem PA_weak {es : List Expr} {t t' : TA} (p : PA X es t) (h : ∀ σ H Q, t' σ H Q → t σ H Q) : PA X es t' := ⟨fun pos pins s σ H Q I q => p.run pos pins s σ H Q I (h σ H Q q)⟩
theorem PS_weak {st : Stmt} {t t' : TS} (p : PS X st t) (h : ∀ D σ H, t' D σ H → t D σ H) : PS X st t' := ⟨fun pins s σ H D I q => p.run pins s σ H D I (h D σ H q)⟩
theorem PSs_weak {st : List Stmt} {t t' : TS} (p : PSs X st t) (h : ∀ D σ H, t' D σ H → t D σ H) : PSs X st t' := ⟨fun pins s σ H D I q => p.run pins s σ H D I (h D σ H q)⟩
/-- a new list is frozen -/
theorem PX_freeze {Hs H0 H : Hp} {v : V} {d : D} (h : PX κ Hs H0 H v d) (c : Ex H0 H) : ∃ H0', Ex H0 H0' ∧ Ex H0' H ∧ (∀ p o, Hs p = some o → H0 p = none → H0' p = none) ∧ Rep κ H0' v d := by
  cases d with
  | lst ds =>
    obtain ⟨a, rfl, n, n0, o⟩ := h
    obtain ⟨u, hu⟩ := o.sm
    rw [hu] at o
    refine ⟨upd H0 a u, Ex.new n0, fun b w q => ?_, fun p w q m => ?_, o.rep n0⟩
    · rcases upd_some q with ⟨rfl, rfl⟩ | ⟨_, q⟩
      · exact hu
      · exact c _ _ q
    · rw [upd_ne (ne_of_none q n)]
      exact m
  | dct ks vs =>
    obtain ⟨a, rfl, n, n0, o⟩ := h
    obtain ⟨u, hu⟩ := o.sm
    rw [hu] at o
    refine ⟨upd H0 a u, Ex.new n0, fun b w q => ?_, fun p w q m => ?_, o.rep n0⟩
    · rcases upd_some q with ⟨rfl, rfl⟩ | ⟨_, q⟩
      · exact hu
      · exact c _ _ q
    · rw [upd_ne (ne_of_none q n)]
      exact m
  | dat b0 ks vs =>
    obtain ⟨a, rfl, n, n0, o⟩ := h
    obtain ⟨u, hu⟩ := o.sm
    rw [hu] at o
    refine ⟨upd H0 a u, Ex.new n0, fun b w q => ?_, fun p w q m => ?_, o.rep n0⟩
    · rcases upd_some q with ⟨rfl, rfl⟩ | ⟨_, q⟩
      · exact hu
      · exact c _ _ q
    · rw [upd_ne (ne_of_none q n)]
      exact m
  | _ => exact ⟨H0, .refl _, c, fun _ _ _ m => m, h⟩
theorem n_XR (h : PE X e (tP κ W (PX κ) f)) : PE X e (tP κ W (PR κ) f) := PE_weak h fun σ H Q ⟨ρ, H0, E, S, q⟩ => ⟨ρ, H0, E, S, by
  cases r : f ρ with
  | ok d =>
    rw [r] at q
    intro v H0' H' g p
    obtain ⟨H0'', e1, e2, e3, rp⟩ := PX_freeze p g.c
    exact q v H0'' H' ⟨g.a.trans e1, g.b, e2, fun p o hp n => e3 p o hp (g.d p o hp n)⟩ rp
  | ex c vs => rw [r] at q; exact q
  | er => rw [r] at q; exact q⟩
theorem n_RB (h : PE X e (tP κ W (PR κ) f)) : PE X e (tP κ W (PB κ) f) := PE_weak h fun σ H Q ⟨ρ, H0, E, S, q⟩ => ⟨ρ, H0, E, S, by
  cases r : f ρ with
  | ok d => rw [r] at q; exact fun v H0' H' g p => q v H0' H' g (.inl p)
  | ex c vs => rw [r] at q; exact q
  | er => rw [r] at q; exact q⟩
theorem n_XB (h : PE X e (tP κ W (PX κ) f)) : PE X e (tP κ W (PB κ) f) := n_RB (n_XR h)

/-! ### names, constants -/
def eVar (i : Nat) : EV := fun ρ => match ρ[i]? with | some (.fz d) => .ok d | _ => .er
def eVarB (i : Nat) : EV := fun ρ => match ρ[i]? with | some (.fz d) => .ok d | some (.ow d) => .ok d | _ => .er
def eCon (d : D) : EV := fun _ => .ok d
theorem n_var {i : Nat} {x : Str} (hN : X.N[i]? = some x) (hv : Vis X.env.scope x) (h1 : (x == ("__debug__" : Str)) = false) (h2 : (x == ("__classdict__" : Str)) = false) : PE X (.Name x pos) (tP κ W (PR κ) (eVar i)) :=
  PE_weak (pe_var hN hv h1 h2) fun σ H Q ⟨ρ, H0, E, S, q⟩ => by
    unfold eVar at q
    split at q
    · rename_i d hd
      obtain ⟨v, hs, r⟩ := S.fz i d hd
      exact ⟨v, hs, q v H0 H (.refl E) r⟩
    · exact q.elim
theorem n_varB {i : Nat} {x : Str} (hN : X.N[i]? = some x) (hv : Vis X.env.scope x) (h1 : (x == ("__debug__" : Str)) = false) (h2 : (x == ("__classdict__" : Str)) = false) : PE X (.Name x pos) (tP κ W (PB κ) (eVarB i)) :=
  PE_weak (pe_var hN hv h1 h2) fun σ H Q ⟨ρ, H0, E, S, q⟩ => by
    unfold eVarB at q
    split at q
    · rename_i d hd
      obtain ⟨v, hs, r⟩ := S.fz i d hd
      exact ⟨v, hs, q v H0 H (.refl E) (.inl r)⟩
    · rename_i d hd
      obtain ⟨a, hs, n, o⟩ := S.ow i d hd
      exact ⟨_, hs, q _ H0 H (.refl E) (.inr ⟨a, rfl, n, o⟩)⟩
    · exact q.elim
theorem n_con {v : V} {d : D} (h : PE X e (tC v)) (r : ∀ H0, Rep κ H0 v d) : PE X e (tP κ W (PR κ) (eCon d)) := PE_weak h fun σ H Q ⟨ρ, H0, E, S, q⟩ => q v H0 H (.refl E) (r H0)

/-! ### two operands -/
def rG (κ : Kap) (P : PP) (g : D → D → Option D) : R2 := fun x y H Q => ∃ H0 dx dy, Ex H0 H ∧ Bor κ H0 H x dx ∧ Bor κ H0 H y dy ∧ FinO P H0 H (g dx dy) Q
def e2 (g : D → D → Option D) (fa fb : EV) : EV := fun ρ => (fa ρ).bind fun x => (fb ρ).bind fun y => R.of (g x y)
theorem op2 {P : PP} (pm : PM P) {g : D → D → Option D} {r : R2} (hr : ∀ x y H Q, rG κ P g x y H Q → r x y H Q) {σ : L2.St} {H : Hp} {Q : VK} (h : tP κ W P (e2 g fa fb) σ H Q) : tOp r (tP κ W (PB κ) fa) (tP κ W (PB κ) fb) σ H Q := by
  obtain ⟨ρ, H0, E, S, q⟩ := h
  have h1 := fin_bind (P := PB κ) pm E S q
  obtain ⟨ρ1, H01, E1, S1, q1⟩ := h1
  refine ⟨ρ1, H01, E1, S1, q1.mono fun v H1 ⟨H02, d, g1, p1, q2⟩ => ?_⟩
  obtain ⟨ρ2, H03, E2, S2, q3⟩ := fin_bind (P := PB κ) pm g1.c (S.grow g1) q2
  refine ⟨ρ2, H03, E2, S2, q3.mono fun u H2 ⟨H04, d2, g2, p2, q4⟩ => ?_⟩
  exact hr _ _ _ _ ⟨H04, d, d2, g2.c, p1.grow g2, p2, FinO.of q4⟩
theorem n_bin {op : Operator} {P : PP} (pm : PM P) {g : D → D → Option D} (ho : OpR X (binaryOp op) (rG κ P g)) (ha : PE X a (tP κ W (PB κ) fa)) (hb : PE X b (tP κ W (PB κ) fb)) :
    PE X (.BinOp a op b pos) (tP κ W P (e2 g fa fb)) := PE_weak (pe_op ho ha hb) fun _ _ _ h => op2 pm (fun _ _ _ _ z => z) h
theorem n_cmp {op : CmpOp} {g : D → D → Option D} (ho : OpR X (compareOp op) (rG κ (PR κ) g)) (ha : PE X a (tP κ W (PB κ) fa)) (hb : PE X b (tP κ W (PB κ) fb)) (hm : behindInMarks op b = false) :
    PE X (.Compare a [op] [b] pos) (tP κ W (PR κ) (e2 g fa fb)) := PE_weak (pe_cmpR ho ha hb hm) fun _ _ _ h => op2 pmR (fun _ _ _ _ z => z) h
/-- a bool of a comparison -/
def bl? : D → R Bool
  | .bl b => .ok b
  | _ => .er
def tst (f : EV) : List B → R Bool := fun ρ => (f ρ).bind bl?
theorem tst_P {σ : L2.St} {H : Hp} {Q : Bool → Hp → Prop} (h : tT κ W (tst f) σ H Q) : tP κ W (PR κ) f σ H (fun x H' => ∃ k, x = .bl k ∧ Q k H') := by
  obtain ⟨ρ, H0, E, S, q⟩ := h
  obtain ⟨ρ1, H01, E1, S1, q1⟩ := finT_bind (P := PR κ) E S q
  refine ⟨ρ1, H01, E1, S1, q1.mono fun v H1 ⟨H02, d, g1, p1, q2⟩ => ?_⟩
  cases d with
  | bl b => cases p1; exact ⟨b, rfl, q2 _ _ (.refl g1.c)⟩
  | _ => exact q2.elim
theorem n_cmpT {op : CmpOp} {g : D → D → Option D} (ho : OpR X (compareOp op) (rG κ (PR κ) g)) (ha : PE X a (tP κ W (PB κ) fa)) (hb : PE X b (tP κ W (PB κ) fb)) (hm : behindInMarks op b = false) :
    PT X (.Compare a [op] [b] pos) (tT κ W (tst (e2 g fa fb))) := PT_weak (pt_cmpR ho ha hb hm) fun σ H Q h => op2 pmR (fun _ _ _ _ z => z) (tst_P h)
/-- a op b op' c -/
def e3 (g g' : D → D → Option D) (fa fb fc : EV) : EV := fun ρ => (fa ρ).bind fun x => (fb ρ).bind fun y => (R.of (g x y)).bind fun z => match z with
  | .bl true => (fc ρ).bind fun w => R.of (g' y w)
  | .bl false => .ok (.bl false)
  | _ => .er
theorem op3 {g g' : D → D → Option D} {fc : EV} {σ : L2.St} {H : Hp} {Q : VK} (h : tP κ W (PR κ) (e3 g g' fa fb fc) σ H Q) :
    tChain (rG κ (PR κ) g) (rG κ (PR κ) g') (tP κ W (PB κ) fa) (tP κ W (PB κ) fb) (tP κ W (PB κ) fc) σ H Q := by
  obtain ⟨ρ, H0, E, S, q⟩ := h
  obtain ⟨ρ1, H01, E1, S1, q1⟩ := fin_bind (P := PB κ) pmR E S q
  refine ⟨ρ1, H01, E1, S1, q1.mono fun v H1 ⟨H02, d, g1, p1, q2⟩ => ?_⟩
  obtain ⟨ρ2, H03, E2, S2, q3⟩ := fin_bind (P := PB κ) pmR g1.c (S.grow g1) q2
  refine ⟨ρ2, H03, E2, S2, q3.mono fun u H2 ⟨H04, d2, g2, p2, q4⟩ => ?_⟩
  refine ⟨H04, d, d2, g2.c, p1.grow g2, p2, ?_⟩
  cases e : g d d2 with
  | none => rw [e] at q4; exact q4.elim
  | some z =>
    rw [e] at q4
    intro v' H0' H' k r
    cases z with
    | bl c =>
      cases r
      refine ⟨c, rfl, ?_⟩
      cases c with
      | false => exact q4 _ _ _ k (.bl false)
      | true =>
        have S3 := ((S.grow g1).grow g2).grow k
        obtain ⟨ρ5, H05, E5, S5, q5⟩ := fin_bind (P := PB κ) pmR k.c S3 (q4.grow pmR k)
        refine ⟨ρ5, H05, E5, S5, q5.mono fun u' H5 ⟨H06, d3, g3, p3, q6⟩ => ?_⟩
        exact ⟨H06, d2, d3, g3.c, (p2.grow k).grow g3, p3, FinO.of q6⟩
    | _ => exact q4.elim
theorem n_chain {op op' : CmpOp} {g g' : D → D → Option D} {c : Expr} {fc : EV} (ho : OpR X (compareOp op) (rG κ (PR κ) g)) (ho' : OpR X (compareOp op') (rG κ (PR κ) g')) (ha : PE X a (tP κ W (PB κ) fa)) (hb : PE X b (tP κ W (PB κ) fb)) (hc : PE X c (tP κ W (PB κ) fc)) (hm : lastMarks [op, op'] [b, c] = false) :
    PE X (.Compare a [op, op'] [b, c] pos) (tP κ W (PR κ) (e3 g g' fa fb fc)) := PE_weak (pe_chain ho ho' ha hb hc hm) fun _ _ _ h => op3 h
theorem n_chainT {op op' : CmpOp} {g g' : D → D → Option D} {c : Expr} {fc : EV} (ho : OpR X (compareOp op) (rG κ (PR κ) g)) (ho' : OpR X (compareOp op') (rG κ (PR κ) g')) (ha : PE X a (tP κ W (PB κ) fa)) (hb : PE X b (tP κ W (PB κ) fb)) (hc : PE X c (tP κ W (PB κ) fc)) (hm : lastMarks [op, op'] [b, c] = false) :
    PT X (.Compare a [op, op'] [b, c] pos) (tT κ W (tst (e3 g g' fa fb fc))) := PT_weak (pt_chain ho ho' ha hb hc hm) fun σ H Q h => op3 (tst_P h)

/-! ### truth, not, and, or, if -/
def LIM : Nat := 16777216
theorem lim_eq : sizeLine = LIM := sizeLine_eq
def truD : D → Option Bool
  | .non => some false
  | .bl b => some b
  | .int i => some (i != 0)
  | .str s => if s.length ≤ LIM then some ((s.length : Int) != 0) else none
  | .lst ds => some !ds.isEmpty
  | .tup ds => some !ds.isEmpty
  | .scr ns => some !ns.isEmpty
  | _ => none
theorem Reps.emp {H : Hp} {vs : List V} {ds : List D} (h : Reps κ H vs ds) : (!vs.isEmpty) = !ds.isEmpty := by cases h <;> rfl
theorem truV_of {H0 H : Hp} {x : V} {d : D} {k : Bool} (E : Ex H0 H) (b : Bor κ H0 H x d) (h : truD d = some k) : TruV κ.K x H k := by
  cases d with
  | non => cases b.flat (fun _ _ h => h); exact (Option.some.inj h).symm
  | bl c => cases b.flat (fun _ _ h => h); exact (Option.some.inj h).symm
  | int i => cases b.flat (fun _ _ h => h); exact (Option.some.inj h).symm
  | str s =>
    cases b.flat (fun _ _ h => h)
    have h : (if s.length ≤ LIM then some ((s.length : Int) != 0) else none) = some k := h
    split at h
    · exact ⟨by rw [lim_eq]; assumption, (Option.some.inj h).symm⟩
    · cases h
  | lst ds =>
    obtain ⟨a, vs, rfl, e, r⟩ := b.lst E
    exact .inl ⟨vs, .of e, by rw [← Option.some.inj h, r.emp]⟩
  | tup ds =>
    obtain ⟨a, vs, rfl, e, r⟩ := b.tup E
    exact .inr (.inl ⟨vs, .of e, by rw [← Option.some.inj h, r.emp]⟩)
  | scr ns =>
    cases b.flat (fun _ _ h => h) with
    | scr q => exact .inl ⟨_, E.l q, by rw [← Option.some.inj h]; cases ns <;> rfl⟩
  | _ => cases h
def tru (f : EV) : List B → R Bool := fun ρ => (f ρ).bind fun d => R.of (truD d)
theorem tru_P {σ : L2.St} {H : Hp} {Q : Bool → Hp → Prop} (h : tT κ W (tru f) σ H Q) : tP κ W (PB κ) f σ H (fun x H' => ∃ k, TruV κ.K x H' k ∧ Q k H') := by
  obtain ⟨ρ, H0, E, S, q⟩ := h
  obtain ⟨ρ1, H01, E1, S1, q1⟩ := finT_bind (P := PB κ) E S q
  refine ⟨ρ1, H01, E1, S1, q1.mono fun v H1 ⟨H02, d, g1, p1, q2⟩ => ?_⟩
  cases e : truD d with
  | none => rw [e] at q2; exact q2.elim
  | some k => rw [e] at q2; exact ⟨k, truV_of g1.c p1 e, q2 _ _ (.refl g1.c)⟩
theorem n_truth (hK : X.K = κ.K) (ha : PE X a (tP κ W (PB κ) fa)) (he : ∀ whole, isTrue a X.env whole = (do let v ← whole; standAt a.pos; holding [v] (truthy v))) : PT X a (tT κ W (tru fa)) :=
  PT_weak (pt_truth ha he) fun σ H Q h => by rw [hK]; exact tru_P h
def bNot (f : List B → R Bool) : List B → R Bool := fun ρ => (f ρ).bind fun b => .ok !b
def bAnd (f g : List B → R Bool) : List B → R Bool := fun ρ => (f ρ).bind fun b => match b with | true => g ρ | false => .ok false
def bOr (f g : List B → R Bool) : List B → R Bool := fun ρ => (f ρ).bind fun b => match b with | true => .ok true | false => g ρ
variable {ba bb : List B → R Bool} {rest : List Expr}
theorem n_notT (ha : PT X a (tT κ W ba)) : PT X (.UnaryOp .Not a pos) (tT κ W (bNot ba)) := PT_weak (pt_not ha) fun σ H Q ⟨ρ, H0, E, S, q⟩ => by
  obtain ⟨ρ1, H01, E1, S1, q1⟩ := finBT_bind E S q
  refine ⟨ρ1, H01, E1, S1, ?_⟩
  cases r : ba ρ1 with
  | ok b =>
    rw [r] at q1
    exact fun H0' H' g => let ⟨H02, g2, z⟩ := q1 H0' H' g; z _ _ (.refl g2.c)
  | ex c vs => rw [r] at q1; exact q1
  | er => rw [r] at q1; exact q1
theorem FinT.monoQ {σ : L2.St} {H0 H : Hp} {r : R Bool} {Q Q' : Bool → Hp → Prop} (q : ∀ v H, Q v H → Q' v H) (h : FinT κ W σ H0 H r Q) : FinT κ W σ H0 H r Q' := by
  cases r with
  | ok d => exact fun a b g => q _ _ (h a b g)
  | ex c vs => exact h
  | er => exact h
theorem and_T {σ : L2.St} {H : Hp} {Q : Bool → Hp → Prop} (h : tT κ W (bAnd ba bb) σ H Q) : tAnd (tT κ W ba) (tT κ W bb) σ H Q := by
  obtain ⟨ρ, H0, E, S, q⟩ := h
  obtain ⟨ρ1, H01, E1, S1, q1⟩ := finBT_bind E S q
  refine ⟨ρ1, H01, E1, S1, q1.monoQ fun b H1 ⟨H02, g1, q2⟩ => ?_⟩
  cases b with
  | true => rw [if_pos rfl]; exact ⟨ρ, H02, g1.c, S.grow g1, q2⟩
  | false => rw [if_neg Bool.false_ne_true]; exact q2 _ _ (.refl g1.c)
theorem or_T {σ : L2.St} {H : Hp} {Q : Bool → Hp → Prop} (h : tT κ W (bOr ba bb) σ H Q) : tOr (tT κ W ba) (tT κ W bb) σ H Q := by
  obtain ⟨ρ, H0, E, S, q⟩ := h
  obtain ⟨ρ1, H01, E1, S1, q1⟩ := finBT_bind E S q
  refine ⟨ρ1, H01, E1, S1, q1.monoQ fun b H1 ⟨H02, g1, q2⟩ => ?_⟩
  cases b with
  | true => rw [if_pos rfl]; exact q2 _ _ (.refl g1.c)
  | false => rw [if_neg Bool.false_ne_true]; exact ⟨ρ, H02, g1.c, S.grow g1, q2⟩
theorem n_andW (ha : PT X a (tT κ W ba)) (hb : PW X (.BoolOp .And (b :: rest) pos) (tT κ W bb)) : PW X (.BoolOp .And (a :: b :: rest) pos) (tT κ W (bAnd ba bb)) := PW_weak (pw_and ha hb) fun _ _ _ h => and_T h
theorem n_orW (ha : PT X a (tT κ W ba)) (hb : PW X (.BoolOp .Or (b :: rest) pos) (tT κ W bb)) : PW X (.BoolOp .Or (a :: b :: rest) pos) (tT κ W (bOr ba bb)) := PW_weak (pw_or ha hb) fun _ _ _ h => or_T h
/-- as values, by truth -/
def eAnd (f g : EV) : EV := fun ρ => (f ρ).bind fun x => (R.of (truD x)).bind fun b => match b with | true => g ρ | false => .ok x
def eOr (f g : EV) : EV := fun ρ => (f ρ).bind fun x => (R.of (truD x)).bind fun b => match b with | true => .ok x | false => g ρ
def eNot (f : EV) : EV := fun ρ => (f ρ).bind fun x => (R.of (truD x)).bind fun b => .ok (.bl !b)
theorem n_andV (hK : X.K = κ.K) (ha : PE X a (tP κ W (PR κ) fa)) (hb : PE X (.BoolOp .And (b :: rest) pos) (tP κ W (PR κ) fb)) : PE X (.BoolOp .And (a :: b :: rest) pos) (tP κ W (PR κ) (eAnd fa fb)) :=
  PE_weak (pe_andT ha hb) fun σ H Q ⟨ρ, H0, E, S, q⟩ => by
    rw [hK]
    obtain ⟨ρ1, H01, E1, S1, q1⟩ := fin_bind (P := PR κ) pmR E S q
    refine ⟨ρ1, H01, E1, S1, q1.mono fun v H1 ⟨H02, d, g1, p1, q2⟩ => ?_⟩
    cases e : truD d with
    | none => rw [e] at q2; exact q2.elim
    | some k =>
      rw [e] at q2
      refine ⟨k, truV_of g1.c (.inl p1) e, ?_⟩
      cases k with
      | true => rw [if_pos rfl]; exact ⟨ρ, H02, g1.c, S.grow g1, q2⟩
      | false => rw [if_neg Bool.false_ne_true]; exact q2 _ _ _ (.refl g1.c) p1
theorem n_orV (hK : X.K = κ.K) (ha : PE X a (tP κ W (PR κ) fa)) (hb : PE X (.BoolOp .Or (b :: rest) pos) (tP κ W (PR κ) fb)) : PE X (.BoolOp .Or (a :: b :: rest) pos) (tP κ W (PR κ) (eOr fa fb)) :=
  PE_weak (pe_orT ha hb) fun σ H Q ⟨ρ, H0, E, S, q⟩ => by
    rw [hK]
    obtain ⟨ρ1, H01, E1, S1, q1⟩ := fin_bind (P := PR κ) pmR E S q
    refine ⟨ρ1, H01, E1, S1, q1.mono fun v H1 ⟨H02, d, g1, p1, q2⟩ => ?_⟩
    cases e : truD d with
    | none => rw [e] at q2; exact q2.elim
    | some k =>
      rw [e] at q2
      refine ⟨k, truV_of g1.c (.inl p1) e, ?_⟩
      cases k with
      | true => rw [if_pos rfl]; exact q2 _ _ _ (.refl g1.c) p1
      | false => rw [if_neg Bool.false_ne_true]; exact ⟨ρ, H02, g1.c, S.grow g1, q2⟩
theorem n_notV (hK : X.K = κ.K) (ha : PE X a (tP κ W (PB κ) fa)) : PE X (.UnaryOp .Not a pos) (tP κ W (PR κ) (eNot fa)) :=
  PE_weak (pe_notT ha) fun σ H Q ⟨ρ, H0, E, S, q⟩ => by
    rw [hK]
    obtain ⟨ρ1, H01, E1, S1, q1⟩ := fin_bind (P := PB κ) pmR E S q
    refine ⟨ρ1, H01, E1, S1, q1.mono fun v H1 ⟨H02, d, g1, p1, q2⟩ => ?_⟩
    cases e : truD d with
    | none => rw [e] at q2; exact q2.elim
    | some k => rw [e] at q2; exact ⟨k, truV_of g1.c p1 e, q2 _ _ _ (.refl g1.c) (.bl _)⟩
def eIf (t : List B → R Bool) (f g : EV) : EV := fun ρ => (t ρ).bind fun b => match b with | true => f ρ | false => g ρ
theorem n_if {c : Expr} {P : PP} (pm : PM P) (hc : PT X c (tT κ W ba)) (ha : PE X a (tP κ W P fa)) (hb : PE X b (tP κ W P fb)) : PE X (.IfExp c a b pos) (tP κ W P (eIf ba fa fb)) :=
  PE_weak (pe_ifExp hc ha hb) fun σ H Q ⟨ρ, H0, E, S, q⟩ => by
    obtain ⟨ρ1, H01, E1, S1, q1⟩ := finB_bind pm E S q
    refine ⟨ρ1, H01, E1, S1, q1.monoQ fun b H1 ⟨H02, g1, q2⟩ => ?_⟩
    cases b with
    | true => rw [if_pos rfl]; exact ⟨ρ, H02, g1.c, S.grow g1, q2⟩
    | false => rw [if_neg Bool.false_ne_true]; exact ⟨ρ, H02, g1.c, S.grow g1, q2⟩
end
end QY

/-! Operations on data. -/
namespace QY
open PySem PySem.Spec PyProof.Rows L2

theorem OpR_weak {X : Cx} {f : Value → Value → Sem Value} {r r' : R2} (h : OpR X f r) (q : ∀ x y H Q, r' x y H Q → r x y H Q) : OpR X f r' :=
  fun pins s σ H x y v u Q I rx ry z => h pins s σ H x y v u Q I rx ry (q x y H Q z)
/-- by cases on the data -/
theorem OpR_of {X : Cx} {f : Value → Value → Sem Value} {κ : Kap} {P : PP} {g : D → D → Option D}
    (h : ∀ (dx dy : D) (d : D), g dx dy = some d → OpR X f (fun x y H Q => ∃ H0, Ex H0 H ∧ Bor κ H0 H x dx ∧ Bor κ H0 H y dy ∧ ∀ v H0' H', Grow H0 H H0' H' → P H H0' H' v d → Q v H')) : OpR X f (rG κ P g) := by
  intro pins s σ H x y v u Q I rx ry ⟨H0, dx, dy, E, bx, bY, q⟩
  cases e : g dx dy with
  | none => rw [e] at q; exact q.elim
  | some d => rw [e] at q; exact h dx dy d e pins s σ H x y v u Q I rx ry ⟨H0, E, bx, bY, q⟩

/-! ### + -/
def addD : D → D → Option D
  | .int a, .int b => some (.int (a + b))
  | .str a, .str b => if a.length + b.length ≤ LIM then some (.str (a ++ b)) else none
  | .lst a, .lst b => if a.length + b.length ≤ LIM then some (.lst (a ++ b)) else none
  | .tup a, .tup b => if a.length + b.length ≤ LIM then some (.tup (a ++ b)) else none
  | _, _ => none
section
variable {X : Cx} {κ : Kap}
theorem newL {H0 H : Hp} {vs : List V} {ds : List D} {Q : VK} (E : Ex H0 H) (r : Reps κ H0 vs ds) (q : ∀ v H0' H', Grow H0 H H0' H' → PX κ H H0' H' v (.lst ds) → Q v H') : ∀ p, H p = none → Q (.ref p) (upd H p (.lst vs)) := fun p hp =>
  q _ _ _ (Grow.own E hp) ⟨p, rfl, hp, E.none hp, vs, upd_same, r⟩
theorem newT {H0 H : Hp} {vs : List V} {ds : List D} {Q : VK} (E : Ex H0 H) (r : Reps κ H0 vs ds) (q : ∀ v H0' H', Grow H0 H H0' H' → Rep κ H0' v (.tup ds) → Q v H') : ∀ p, H p = none → Q (.ref p) (upd H p (.tup vs)) := fun p hp =>
  q _ _ _ (Grow.new E hp) (.tup upd_same (r.mono (Ex.new (E.none hp))))
theorem o_add (hK : X.K = κ.K) : OpR X (binaryOp .Add) (rG κ (PX κ) addD) := OpR_of fun dx dy d e => by
  unfold addD at e
  split at e
  · cases e
    exact OpR_weak op_add fun x y H Q ⟨H0, E, bx, bY, q⟩ => by
      cases bx.flat (fun _ _ h => h); cases bY.flat (fun _ _ h => h)
      exact ⟨_, _, rfl, rfl, q _ _ _ (.refl E) (.int _)⟩
  · split at e
    · rename_i hz
      cases e
      exact OpR_weak op_add_str fun x y H Q ⟨H0, E, bx, bY, q⟩ => by
        cases bx.flat (fun _ _ h => h); cases bY.flat (fun _ _ h => h)
        exact ⟨_, _, rfl, rfl, by rw [lim_eq]; exact hz, q _ _ _ (.refl E) (.str _)⟩
    · cases e
  · split at e
    · rename_i hz
      cases e
      exact OpR_weak op_cat fun x y H Q ⟨H0, E, bx, bY, q⟩ => by
        obtain ⟨a, vs, rfl, ea, ra⟩ := bx.lst E
        obtain ⟨b, ws, rfl, eb, rb⟩ := bY.lst E
        exact ⟨a, b, vs, ws, rfl, rfl, ea, eb, by rw [lim_eq, ra.length, rb.length]; exact hz, newL E (ra.append rb) q⟩
    · cases e
  · split at e
    · rename_i hz
      cases e
      exact OpR_weak op_catA fun x y H Q ⟨H0, E, bx, bY, q⟩ => by
        have rx := bx.flat (fun _ _ h => h)
        have ry := bY.flat (fun _ _ h => h)
        cases rx with
        | tup ea ra =>
          cases ry with
          | tup eb rb =>
            rename_i a b a' b' vs ws
            rw [hK]
            refine ⟨_, _, _, _, rfl, rfl, SqT.of (E _ _ ea), SqT.of (E _ _ eb), by rw [lim_eq, ra.length, rb.length]; exact hz, fun e => ?_, fun _ e => ?_, fun _ _ => newT E (ra.append rb) q⟩
            · subst e; cases ra; exact q _ _ _ (.refl E) (.tup eb rb)
            · subst e; cases rb; refine q _ _ _ (.refl E) ?_; show Rep κ H0 _ (D.tup (_ ++ [])); rw [List.append_nil]; exact .tup ea ra
    · cases e
  · cases e
/-! ### - * // % -/
def subD : D → D → Option D
  | .int a, .int b => some (.int (a - b))
  | _, _ => none
theorem o_sub : OpR X (binaryOp .Sub) (rG κ (PX κ) subD) := OpR_of fun dx dy d e => by
  unfold subD at e
  split at e
  · cases e
    exact OpR_weak op_sub fun x y H Q ⟨H0, E, bx, bY, q⟩ => by
      cases bx.flat (fun _ _ h => h); cases bY.flat (fun _ _ h => h)
      exact ⟨_, _, rfl, rfl, q _ _ _ (.refl E) (.int _)⟩
  · cases e
def reps (x : Str) (n : Nat) : Str := ⟨((List.replicate n x.cps.toList).flatten).toArray⟩
theorem txt_mul (x : Str) (n : Int) : Txt.mul x n = reps x n.toNat := by
  have f0 : ∀ (m : Nat) (acc : Array Nat), List.foldl (fun x1 x2 => x1 ++ x2) acc (List.replicate m x.cps) = acc ++ ((List.replicate m x.cps.toList).flatten).toArray := by
    intro m
    induction m with
    | zero => intro acc; simp
    | succ m ih => intro acc; rw [List.replicate_succ, List.foldl_cons, ih, List.replicate_succ, List.flatten_cons]; apply Array.ext'; simp
  unfold Txt.mul reps
  split
  · rename_i h
    have : n.toNat = 0 := by omega
    rw [this]; rfl
  · split
    · rename_i h1 h2
      rw [Bool.or_eq_true] at h2
      rcases h2 with h2 | h2
      · have : n = 1 := by simpa using h2
        subst this
        apply Str.ext'
        apply Array.ext'
        simp
      · have : x.cps.toList = [] := by
          have : x.length = 0 := by simpa using h2
          have : x.cps.size = 0 := this
          apply List.eq_nil_of_length_eq_zero
          simpa using this
        apply Str.ext'
        apply Array.ext'
        rw [this]
        simp
    · apply Str.ext'
      have := f0 n.toNat #[]
      simpa using this
/-- (mark,) * n -/
def mulD : D → D → Option D
  | .int a, .int b => if (-(2 ^ 64) < a ∧ a < 2 ^ 64) ∨ (-(2 ^ 64) < b ∧ b < 2 ^ 64) then some (.int (a * b)) else none
  | .str a, .int b => if -(2 ^ 30) < b ∧ b < 2 ^ 30 ∧ a.length * b.toNat ≤ LIM then some (.str (reps a b.toNat)) else none
  | .lst a, .int b => if -(2 ^ 30) < b ∧ b < 2 ^ 30 ∧ a.length * b.toNat ≤ LIM then some (.lst (List.replicate b.toNat a).flatten) else none
  | .tup a, .int b => if a.isEmpty = false ∧ 2 ≤ b ∧ b ≤ 1000 ∧ a.length ≤ 1000 then some (.tup (List.replicate b.toNat a).flatten) else none
  | _, _ => none
theorem mulOk_of {x : Str} {n : Int} (h1 : -(2 ^ 30) < n) (h2 : n < 2 ^ 30) (h3 : x.length * n.toNat ≤ LIM) : MulOk x n := by
  refine ⟨?_, fun h4 _ => ?_, fun _ _ => ?_⟩
  · rw [Bool.or_eq_false_iff]
    exact ⟨decide_eq_false (by omega), decide_eq_false (by omega)⟩
  · have h5 : (0 : Int) < n := by omega
    have h6 : (x.length : Int) ≤ (2 ^ 63 - 1) / n := by
      refine (Int.le_ediv_iff_mul_le h5).mpr ?_
      have h7 : ((x.length * n.toNat : Nat) : Int) ≤ (LIM : Int) := Int.ofNat_le.mpr h3
      have h8 : ((x.length * n.toNat : Nat) : Int) = (x.length : Int) * n := by
        rw [Int.natCast_mul, Int.toNat_of_nonneg (by omega)]
      have h9 : (LIM : Int) = 16777216 := rfl
      omega
    omega
  · show decide (x.length * n.toNat > sizeLine) = false
    rw [lim_eq]
    exact decide_eq_false (by omega)
theorem op_mulS : OpR X (binaryOp .Mult) (fun x y H Q => ∃ z n, x = .str z ∧ y = .int n ∧ MulOk z n ∧ Q (.str (reps z n.toNat)) H) := by
  intro pins s σ H x y v u Q I rx ry ⟨z, n, e1, e2, ok, q⟩
  subst e1 e2
  obtain ⟨t, rfl⟩ := rx
  obtain ⟨t', rfl⟩ := ry
  exact SB.mul ok fun t'' k => ⟨.str (reps z n.toNat), H, I.tok _, ⟨_, by rw [txt_mul]⟩, q⟩
theorem o_mul (hK : X.K = κ.K) : OpR X (binaryOp .Mult) (rG κ (PX κ) mulD) := OpR_of fun dx dy d e => by
  unfold mulD at e
  split at e
  · split at e
    · rename_i hz
      cases e
      exact OpR_weak op_mul fun x y H Q ⟨H0, E, bx, bY, q⟩ => by
        cases bx.flat (fun _ _ h => h); cases bY.flat (fun _ _ h => h)
        exact ⟨_, _, rfl, rfl, hz, q _ _ _ (.refl E) (.int _)⟩
    · cases e
  · split at e
    · rename_i hz
      cases e
      exact OpR_weak op_mulS fun x y H Q ⟨H0, E, bx, bY, q⟩ => by
        cases bx.flat (fun _ _ h => h); cases bY.flat (fun _ _ h => h)
        exact ⟨_, _, rfl, rfl, mulOk_of hz.1 hz.2.1 hz.2.2, q _ _ _ (.refl E) (.str _)⟩
    · cases e
  · split at e
    · rename_i hz
      cases e
      exact OpR_weak op_rep fun x y H Q ⟨H0, E, bx, bY, q⟩ => by
        obtain ⟨a, vs, rfl, ea, ra⟩ := bx.lst E
        cases bY.flat (fun _ _ h => h)
        obtain ⟨h1, h2, h3⟩ := hz
        exact ⟨a, _, vs, rfl, rfl, ea, by omega, by omega, by rw [lim_eq, ra.length]; exact h3, newL E (ra.flat _) q⟩
    · cases e
  · split at e
    · rename_i hz
      cases e
      exact OpR_weak op_repT fun x y H Q ⟨H0, E, bx, bY, q⟩ => by
        have rx := bx.flat (fun _ _ h => h)
        cases bY.flat (fun _ _ h => h)
        cases rx with
        | tup ea ra =>
          obtain ⟨h1, h2, h3, h4⟩ := hz
          rw [hK]
          refine ⟨_, _, _, rfl, rfl, SqT.of (E _ _ ea), fun z => ?_, h2, h3, by rw [ra.length]; exact h4, newT E (ra.flat _) q⟩
          subst z; cases ra; cases h1
    · cases e
  · cases e
def fdivD : D → D → Option D
  | .int a, .int b => if 0 < b ∧ b < 1073741824 then some (.int (a / b)) else none
  | _, _ => none
theorem o_fdiv : OpR X (binaryOp .FloorDiv) (rG κ (PX κ) fdivD) := OpR_of fun dx dy d e => by
  unfold fdivD at e
  split at e
  · split at e
    · rename_i hz
      cases e
      exact OpR_weak op_fdiv fun x y H Q ⟨H0, E, bx, bY, q⟩ => by
        cases bx.flat (fun _ _ h => h); cases bY.flat (fun _ _ h => h)
        exact ⟨_, _, rfl, rfl, hz, q _ _ _ (.refl E) (.int _)⟩
    · cases e
  · cases e
def modD : D → D → Option D
  | .int a, .int b => if 0 < b then some (.int (a % b)) else none
  | _, _ => none
theorem o_mod : OpR X (binaryOp .Mod) (rG κ (PX κ) modD) := OpR_of fun dx dy d e => by
  unfold modD at e
  split at e
  · split at e
    · rename_i hz
      cases e
      exact OpR_weak op_mod fun x y H Q ⟨H0, E, bx, bY, q⟩ => by
        cases bx.flat (fun _ _ h => h); cases bY.flat (fun _ _ h => h)
        exact ⟨_, _, rfl, rfl, hz, q _ _ _ (.refl E) (.int _)⟩
    · cases e
  · cases e
/-! ### == != -/
mutual
def toPy : D → PyData
  | .non => .none | .bl b => .bool b | .int i => .int i | .str s => .str s
  | .lst xs => .list (toPys xs) | .tup xs => .tuple (toPys xs)
  | .dct _ _ => .dict [] | .scr _ => .dict [] | .obj _ _ => .dict [] | .exc _ _ => .dict [] | .cls _ => .dict [] | .ty _ => .dict [] | .ptr _ => .dict [] | .dat _ _ _ => .dict []
def toPys : List D → List PyData
  | [] => []
  | x :: xs => toPy x :: toPys xs
end
mutual
theorem Rep.dp {H : Hp} : ∀ {v : V} {d : D}, (toPy d).plain = true → Rep κ H v d → Dp κ.K H v (toPy d)
  | _, _, _, .non => .non
  | _, _, _, .bl b => .bl b
  | _, _, _, .int i => .int i
  | _, _, _, .str s => .str s
  | _, _, h, .lst e r => .lst (.of e) (Reps.dp h r)
  | _, _, h, .tup e r => .tup (.of e) (Reps.dp h r)
  | _, _, h, .scr _ => by cases h
  | _, _, h, .dct _ _ _ _ => by cases h
  | _, _, h, .obj _ _ _ => by cases h
  | _, _, h, .exc0 _ => by cases h
  | _, _, h, .exc1 _ _ _ => by cases h
  | _, _, h, .cls _ => by cases h
  | _, _, h, .ty _ => by cases h
  | _, _, h, .ptr _ => by cases h
  | _, _, h, .dat _ _ _ _ => by cases h
theorem Reps.dp {H : Hp} : ∀ {vs : List V} {ds : List D}, PyData.plainAll (toPys ds) = true → Reps κ H vs ds → DpAll κ.K H vs (toPys ds)
  | _, _, _, .nil => .nil
  | _, _, h, .cons r s => by
    have h' := Bool.and_eq_true_iff.mp h
    exact .cons (Rep.dp h'.1 r) (Reps.dp h'.2 s)
end
theorem Bor.dp {H0 H : Hp} {v : V} {d : D} (E : Ex H0 H) (b : Bor κ H0 H v d) (h : (toPy d).plain = true) : Dp κ.K H v (toPy d) := by
  rcases b with r | ⟨a, rfl, n, o⟩
  · exact (r.mono E).dp h
  · cases d with
    | lst ds =>
      obtain ⟨vs, e, r⟩ := o
      exact .lst (.of e) ((r.mono E).dp h)
    | dct ks vs => cases h
    | dat b ks vs => cases h
    | _ => exact o.elim
def okEq (a b : PyData) : Bool := a.plain && b.plain && decide (min a.depth b.depth ≤ 60)
def eqD (a b : D) : Option D := if okEq (toPy a) (toPy b) then some (.bl (PyData.eqv (toPy a) (toPy b))) else none
def neD (a b : D) : Option D := if okEq (toPy a) (toPy b) then some (.bl (!PyData.eqv (toPy a) (toPy b))) else none
theorem o_eq (hK : X.K = κ.K) (hu : X.A.units + 64 < cLine) : OpR X (compareOp .Eq) (rG κ (PR κ) eqD) := OpR_of fun dx dy d e => by
  unfold eqD at e
  split at e
  · rename_i hz
    cases e
    unfold okEq at hz
    simp only [Bool.and_eq_true, decide_eq_true_eq] at hz
    obtain ⟨⟨h1, h2⟩, h3⟩ := hz
    intro pins s σ H x y v u Q I rx ry ⟨H0, E, bx, bY, q⟩
    obtain ⟨as, r1⟩ := Dp.reads I _ x v (by rw [hK]; exact bx.dp E h1) rx
    obtain ⟨bs, r2⟩ := Dp.reads I _ y u (by rw [hK]; exact bY.dp E h2) ry
    exact SeqAt.eq_plain r1 r2 h1 h2 (by omega) ⟨.bl _, H, I, rfl, q _ _ _ (.refl E) (.bl _)⟩
  · cases e
theorem o_ne (hK : X.K = κ.K) (hu : X.A.units + 64 < cLine) : OpR X (compareOp .NotEq) (rG κ (PR κ) neD) := OpR_of fun dx dy d e => by
  unfold neD at e
  split at e
  · rename_i hz
    cases e
    unfold okEq at hz
    simp only [Bool.and_eq_true, decide_eq_true_eq] at hz
    obtain ⟨⟨h1, h2⟩, h3⟩ := hz
    intro pins s σ H x y v u Q I rx ry ⟨H0, E, bx, bY, q⟩
    obtain ⟨as, r1⟩ := Dp.reads I _ x v (by rw [hK]; exact bx.dp E h1) rx
    obtain ⟨bs, r2⟩ := Dp.reads I _ y u (by rw [hK]; exact bY.dp E h2) ry
    exact SeqAt.ne_plain r1 r2 h1 h2 (by omega) ⟨.bl _, H, I, rfl, q _ _ _ (.refl E) (.bl _)⟩
  · cases e
/-! ### order -/
def asInts : List D → Option (List Int)
  | [] => some []
  | .int i :: r => (asInts r).map fun t => i :: t
  | _ :: _ => none
theorem asInts_map : ∀ ns : List Int, asInts (ns.map D.int) = some ns
  | [] => rfl
  | n :: r => by show (asInts (r.map D.int)).map _ = _; rw [asInts_map r]; rfl
theorem asInts_of : ∀ {ds : List D} {ns : List Int}, asInts ds = some ns → ds = ns.map D.int
  | [], _, h => by cases h; rfl
  | .int i :: r, ns, h => by
    have h : (asInts r).map (fun t => i :: t) = some ns := h
    cases e : asInts r with
    | none => rw [e] at h; cases h
    | some t => rw [e] at h; cases h; rw [asInts_of e]; rfl
  | .non :: _, _, h => by cases h
  | .bl _ :: _, _, h => by cases h
  | .str _ :: _, _, h => by cases h
  | .lst _ :: _, _, h => by cases h
  | .tup _ :: _, _, h => by cases h
  | .dct _ _ :: _, _, h => by cases h
  | .scr _ :: _, _, h => by cases h
  | .obj _ _ :: _, _, h => by cases h
  | .exc _ _ :: _, _, h => by cases h
  | .cls _ :: _, _, h => by cases h
  | .ty _ :: _, _, h => by cases h
  | .ptr _ :: _, _, h => by cases h
  | .dat _ _ _ :: _, _, h => by cases h
def ltD : D → D → Option D
  | .int a, .int b => some (.bl (decide (a < b)))
  | .str a, .str b => some (.bl (decide (a.cps.toList < b.cps.toList)))
  | .tup a, .tup b => match asInts a, asInts b with
    | some ns, some ms => some (.bl (HT.lexLt ns ms))
    | _, _ => none
  | _, _ => none
theorem o_lt (hK : X.K = κ.K) (hu : X.A.units + 64 < cLine) : OpR X (compareOp .Lt) (rG κ (PR κ) ltD) := OpR_of fun dx dy d e => by
  unfold ltD at e
  split at e
  · cases e
    exact OpR_weak op_lt fun x y H Q ⟨H0, E, bx, bY, q⟩ => by
      cases bx.flat (fun _ _ h => h); cases bY.flat (fun _ _ h => h)
      exact ⟨_, _, rfl, rfl, q _ _ _ (.refl E) (.bl _)⟩
  · cases e
    exact OpR_weak op_lt_str fun x y H Q ⟨H0, E, bx, bY, q⟩ => by
      cases bx.flat (fun _ _ h => h); cases bY.flat (fun _ _ h => h)
      exact ⟨_, _, rfl, rfl, q _ _ _ (.refl E) (.bl _)⟩
  · split at e
    · rename_i h1 h2
      cases e
      have h1 := asInts_of h1
      have h2 := asInts_of h2
      subst h1 h2
      exact OpR_weak (op_ltT (by omega)) fun x y H Q ⟨H0, E, bx, bY, q⟩ => by
        have rx := bx.flat (fun _ _ h => h)
        have ry := bY.flat (fun _ _ h => h)
        cases rx with
        | tup ea ra =>
          cases ry with
          | tup eb rb =>
            have := ra.ints_of _
            have := rb.ints_of _
            subst_vars
            rw [hK]
            exact ⟨_, _, _, _, rfl, rfl, SqT.of (E _ _ ea), SqT.of (E _ _ eb), q _ _ _ (.refl E) (.bl _)⟩
    · cases e
  · cases e
def cmpI (p : Int → Int → Bool) : D → D → Option D
  | .int a, .int b => some (.bl (p a b))
  | _, _ => none
theorem o_cmpI {op : CmpOp} {p : Int → Int → Bool} (h : OpR X (compareOp op) (rI0 fun i j => .bl (p i j))) : OpR X (compareOp op) (rG κ (PR κ) (cmpI p)) := OpR_of fun dx dy d e => by
  unfold cmpI at e
  split at e
  · cases e
    exact OpR_weak h fun x y H Q ⟨H0, E, bx, bY, q⟩ => by
      cases bx.flat (fun _ _ h => h); cases bY.flat (fun _ _ h => h)
      exact ⟨_, _, rfl, rfl, q _ _ _ (.refl E) (.bl _)⟩
  · cases e
theorem lexAt_shift {e r : Nat → Bool} {z : Bool} : ∀ (k i : Nat), Ob.lexAt e r z (i + 1) k = Ob.lexAt (fun j => e (j + 1)) (fun j => r (j + 1)) z i k
  | 0, _ => rfl
  | k + 1, i => by
    show (if e (i + 1) = true then Ob.lexAt e r z (i + 1 + 1) k else r (i + 1)) = (if e (i + 1) = true then Ob.lexAt (fun j => e (j + 1)) (fun j => r (j + 1)) z (i + 1) k else r (i + 1))
    rw [lexAt_shift k (i + 1)]
theorem lexLe_at : ∀ ns ms : List Int, Ob.lexAt (fun j => decide (ns.getD j 0 = ms.getD j 0)) (fun j => decide (ns.getD j 0 ≤ ms.getD j 0)) (decide (ns.length ≤ ms.length)) 0 (min ns.length ms.length) = lexLeI ns ms
  | [], ms => by
    show decide (0 ≤ ms.length) = true
    exact decide_eq_true (Nat.zero_le _)
  | _ :: _, [] => by
    show decide (_ + 1 ≤ 0) = false
    exact decide_eq_false (by omega)
  | x :: xs, y :: ys => by
    have ih := lexLe_at xs ys
    have e : min (x :: xs).length (y :: ys).length = min xs.length ys.length + 1 := by simp only [List.length_cons]; omega
    rw [e, Ob.lexAt_succ, lexAt_shift]
    show (if decide (x = y) = true then Ob.lexAt (fun j => decide (xs.getD j 0 = ys.getD j 0)) (fun j => decide (xs.getD j 0 ≤ ys.getD j 0)) (decide (xs.length + 1 ≤ ys.length + 1)) 0 (min xs.length ys.length) else decide (x ≤ y)) = (if x = y then lexLeI xs ys else decide (x ≤ y))
    have e2 : decide (xs.length + 1 ≤ ys.length + 1) = decide (xs.length ≤ ys.length) := by rw [decide_eq_decide]; omega
    rw [e2, ih]
    by_cases h : x = y
    · rw [if_pos (decide_eq_true h), if_pos h]
    · rw [if_neg (by rw [decide_eq_false h]; exact Bool.false_ne_true), if_neg h]
def leD : D → D → Option D
  | .int a, .int b => some (.bl (decide (a ≤ b)))
  | .tup a, .tup b => match asInts a, asInts b with
    | some ns, some ms => some (.bl (lexLeI ns ms))
    | _, _ => none
  | _, _ => none
theorem o_le (hK : X.K = κ.K) (hu : X.A.units + 64 < cLine) : OpR X (compareOp .LtE) (rG κ (PR κ) leD) := OpR_of fun dx dy d e => by
  unfold leD at e
  split at e
  · cases e
    exact OpR_weak op_le fun x y H Q ⟨H0, E, bx, bY, q⟩ => by
      cases bx.flat (fun _ _ h => h); cases bY.flat (fun _ _ h => h)
      exact ⟨_, _, rfl, rfl, q _ _ _ (.refl E) (.bl _)⟩
  · split at e
    · rename_i h1 h2
      cases e
      have h1 := asInts_of h1
      have h2 := asInts_of h2
      subst h1 h2
      exact OpR_weak (op_leT (by omega)) fun x y H Q ⟨H0, E, bx, bY, q⟩ => by
        have rx := bx.flat (fun _ _ h => h)
        have ry := bY.flat (fun _ _ h => h)
        cases rx with
        | tup ea ra =>
          cases ry with
          | tup eb rb =>
            have := ra.ints_of _
            have := rb.ints_of _
            subst_vars
            rw [hK]
            exact ⟨_, _, _, _, rfl, rfl, SqT.of (E _ _ ea), SqT.of (E _ _ eb), by rw [lexLe_at]; exact q _ _ _ (.refl E) (.bl _)⟩
    · cases e
  · cases e
def gtD : D → D → Option D := cmpI fun i j => decide (j < i)
def geD : D → D → Option D := cmpI fun i j => decide (j ≤ i)
theorem o_gt : OpR X (compareOp .Gt) (rG κ (PR κ) gtD) := o_cmpI op_gt
theorem o_ge : OpR X (compareOp .GtE) (rG κ (PR κ) geD) := o_cmpI op_ge
/-! ### in, is -/
def okIn (x : PyData) (xs : List PyData) : Bool := x.plain && PyData.plainAll xs && decide (min (PyData.depthAll xs) x.depth ≤ 60)
def inD (neg : Bool) : D → D → Option D
  | .str a, .str b => if a.cps.size = 1 then some (.bl (if neg then !decide (a.cps.getD 0 0 ∈ b.cps.toList) else decide (a.cps.getD 0 0 ∈ b.cps.toList))) else none
  | x, .lst xs => if okIn (toPy x) (toPys xs) then some (.bl (if neg then !((toPys xs).any fun y => PyData.eqv y (toPy x)) else (toPys xs).any fun y => PyData.eqv y (toPy x))) else none
  | x, .tup xs => if okIn (toPy x) (toPys xs) then some (.bl (if neg then !((toPys xs).any fun y => PyData.eqv y (toPy x)) else (toPys xs).any fun y => PyData.eqv y (toPy x))) else none
  | _, _ => none
theorem sign_of {a : Str} (h : a.cps.size = 1) : a = ⟨#[a.cps.getD 0 0]⟩ := by
  obtain ⟨⟨l⟩⟩ := a
  match l, h with
  | [c], _ => rfl
theorem in_data {neg : Bool} {op : CmpOp} (hop : op = if neg then .NotIn else .In) (hK : X.K = κ.K) (hu : X.A.units + 64 < cLine) {dx : D} {xs : List D} {dy : D} (hy : dy = .lst xs ∨ dy = .tup xs) (hz : okIn (toPy dx) (toPys xs) = true) :
    OpR X (compareOp op) (fun x y H Q => ∃ H0, Ex H0 H ∧ Bor κ H0 H x dx ∧ Bor κ H0 H y dy ∧ ∀ v H0' H', Grow H0 H H0' H' → PR κ H H0' H' v (.bl (if neg then !((toPys xs).any fun y => PyData.eqv y (toPy dx)) else (toPys xs).any fun y => PyData.eqv y (toPy dx))) → Q v H') := by
  unfold okIn at hz
  simp only [Bool.and_eq_true, decide_eq_true_eq] at hz
  obtain ⟨⟨h1, h2⟩, h3⟩ := hz
  intro pins s σ H x y v u Q I rx ry ⟨H0, E, bx, bY, q⟩
  obtain ⟨as, r1⟩ := Dp.reads I _ x v (by rw [hK]; exact bx.dp E h1) rx
  subst hop
  rcases hy with rfl | rfl
  · obtain ⟨bs, r2⟩ := Dp.reads I _ y u (by rw [hK]; exact bY.dp E h2) ry
    cases neg with
    | false => exact SeqAt.in_list_data r2 r1 h2 h1 (by omega) ⟨.bl _, H, I, rfl, q _ _ _ (.refl E) (.bl _)⟩
    | true => exact SeqAt.notIn_list_data r2 r1 h2 h1 (by omega) ⟨.bl _, H, I, rfl, q _ _ _ (.refl E) (.bl _)⟩
  · obtain ⟨bs, r2⟩ := Dp.reads I _ y u (by rw [hK]; exact bY.dp E h2) ry
    cases neg with
    | false => exact SeqAt.in_tuple_data r2 r1 h2 h1 (by omega) ⟨.bl _, H, I, rfl, q _ _ _ (.refl E) (.bl _)⟩
    | true => exact SeqAt.notIn_tuple_data r2 r1 h2 h1 (by omega) ⟨.bl _, H, I, rfl, q _ _ _ (.refl E) (.bl _)⟩
theorem o_in' {neg : Bool} {op : CmpOp} (hop : op = if neg then .NotIn else .In) (hK : X.K = κ.K) (hu : X.A.units + 64 < cLine) : OpR X (compareOp op) (rG κ (PR κ) (inD neg)) := OpR_of fun dx dy d e => by
  unfold inD at e
  split at e
  · split at e
    · rename_i a b hz
      cases e
      have ha := sign_of hz
      generalize a.cps.getD 0 0 = c at ha ⊢
      subst ha
      subst hop
      cases neg with
      | false =>
        exact OpR_weak op_in_sign fun x y H Q ⟨H0, E, bx, bY, q⟩ => by
          cases bx.flat (fun _ _ h => h); cases bY.flat (fun _ _ h => h)
          exact ⟨_, _, rfl, rfl, q _ _ _ (.refl E) (.bl _)⟩
      | true =>
        exact OpR_weak op_notIn_sign fun x y H Q ⟨H0, E, bx, bY, q⟩ => by
          cases bx.flat (fun _ _ h => h); cases bY.flat (fun _ _ h => h)
          exact ⟨_, _, rfl, rfl, q _ _ _ (.refl E) (.bl _)⟩
    · cases e
  · split at e
    · rename_i hz
      cases e
      exact in_data hop hK hu (.inl rfl) hz
    · cases e
  · split at e
    · rename_i hz
      cases e
      exact in_data hop hK hu (.inr rfl) hz
    · cases e
  · cases e
theorem o_in (hK : X.K = κ.K) (hu : X.A.units + 64 < cLine) : OpR X (compareOp .In) (rG κ (PR κ) (inD false)) := o_in' rfl hK hu
theorem o_nin (hK : X.K = κ.K) (hu : X.A.units + 64 < cLine) : OpR X (compareOp .NotIn) (rG κ (PR κ) (inD true)) := o_in' rfl hK hu
/-- x is None -/
def isD (neg : Bool) : D → D → Option D
  | .non, .non => some (.bl (!neg))
  | _, .non => some (.bl neg)
  | _, _ => none
theorem Rep.nn {H : Hp} {v : V} {d : D} (r : Rep κ H v d) (h : d ≠ .non) : v ≠ .non := by
  cases r <;> first | (intro z; cases z; done) | exact absurd rfl h
theorem o_is' {neg : Bool} {op : CmpOp} (h : OpR X (compareOp op) (fun x y H Q => y = .non ∧ Q (.bl (if neg then !decide (x = .non) else decide (x = .non))) H)) : OpR X (compareOp op) (rG κ (PR κ) (isD neg)) := OpR_of fun dx dy d e => by
  have hy : dy = .non := by
    unfold isD at e
    split at e <;> first | rfl | cases e
  subst hy
  refine OpR_weak h fun x y H Q ⟨H0, E, bx, bY, q⟩ => ?_
  cases bY.flat (fun _ _ h => h)
  refine ⟨rfl, ?_⟩
  by_cases hx : dx = .non
  · subst hx
    cases bx.flat (fun _ _ h => h)
    cases e
    refine q _ _ _ (.refl E) ?_
    cases neg <;> exact .bl _
  · have hv : x ≠ .non := by
      rcases bx with r | ⟨a, rfl, _⟩
      · exact r.nn hx
      · intro z; cases z
    have hd : d = .bl neg := by
      unfold isD at e
      split at e
      · exact absurd rfl hx
      · exact (Option.some.inj e).symm
      · cases e
    subst hd
    rw [decide_eq_false hv]
    refine q _ _ _ (.refl E) ?_
    cases neg <;> exact .bl _
theorem o_is : OpR X (compareOp .Is) (rG κ (PR κ) (isD false)) := o_is' op_isN
theorem o_isnot : OpR X (compareOp .IsNot) (rG κ (PR κ) (isD true)) := o_is' op_notN
end
end QY

/-! Subscripts, slices, displays, calls, methods. -/
namespace QY
open PySem PySem.Spec PyProof.Rows L2
section
variable {X : Cx} {κ : Kap} {W : WX} {P : PP} {e a b : Expr} {es : List Expr} {f fa fb : EV} {pos : Pos}

/-! ### subscripts -/
def ixD : D → D → Option D
  | .lst ds, .int i => atI ds i
  | .tup ds, .int i => atI ds i
  | .str s, .int i => if s.length ≤ LIM then (atI s.cps.toList i).map fun c => .str ⟨#[c]⟩ else none
  | .scr ns, .int i => (atI ns i).map .int
  | _, _ => none
theorem Reps.atI {H : Hp} {vs : List V} {ds : List D} {i : Int} {d : D} (r : Reps κ H vs ds) (h : L2.atI ds i = some d) : ∃ v, L2.atI vs i = some v ∧ Rep κ H v d := by
  unfold L2.atI at h ⊢
  rw [r.length]
  cases e : ixN ds.length i with
  | none => rw [e] at h; cases h
  | some j =>
    rw [e] at h
    exact r.get h
theorem IxR_weak {r r' : R2} (h : IxR X r) (q : ∀ x y H Q, r' x y H Q → r x y H Q) : IxR X r' :=
  fun value slice pins s σ H x y v u Q I rx ry z hs => h value slice pins s σ H x y v u Q I rx ry (q x y H Q z) hs
theorem atI_map {α β : Type} (g : α → β) (xs : List α) (i : Int) : L2.atI (xs.map g) i = (L2.atI xs i).map g := by
  unfold L2.atI
  rw [List.length_map]
  cases ixN xs.length i with
  | none => rfl
  | some j => show (xs.map g)[j]? = (xs[j]?).map g; rw [List.getElem?_map]
theorem o_ix (hK : X.K = κ.K) : IxR X (rG κ (PR κ) ixD) := IxR_weak ix_seq fun x y H Q ⟨H0, dx, dy, E, bx, bY, q⟩ => by
  rw [hK]
  cases e : ixD dx dy with
  | none => rw [e] at q; exact q.elim
  | some d =>
    rw [e] at q
    unfold ixD at e
    split at e
    · cases bY.flat (fun _ _ h => h)
      obtain ⟨p, vs, rfl, ea, ra⟩ := bx.lst E
      obtain ⟨v, h1, h2⟩ := ra.atI e
      exact .inl ⟨p, vs, _, v, rfl, rfl, .of ea, h1, q _ _ _ (.refl E) h2⟩
    · cases bY.flat (fun _ _ h => h)
      obtain ⟨p, vs, rfl, ea, ra⟩ := bx.tup E
      obtain ⟨v, h1, h2⟩ := ra.atI e
      exact .inr (.inl ⟨p, vs, _, v, rfl, rfl, .of ea, h1, q _ _ _ (.refl E) h2⟩)
    · split at e
      · rename_i s i hz
        cases bY.flat (fun _ _ h => h)
        cases bx.flat (fun _ _ h => h)
        cases e2 : L2.atI s.cps.toList i with
        | none => rw [e2] at e; cases e
        | some c =>
          rw [e2] at e
          cases e
          exact .inr (.inr ⟨s, i, c, rfl, rfl, by rw [lim_eq]; exact hz, e2, q _ _ _ (.refl E) (.str _)⟩)
      · cases e
    · rename_i ns i
      cases bY.flat (fun _ _ h => h)
      cases bx.flat (fun _ _ h => h) with
      | scr hs =>
        cases e2 : L2.atI ns i with
        | none => rw [e2] at e; cases e
        | some c =>
          rw [e2] at e
          cases e
          exact .inl ⟨_, _, i, .int c, rfl, rfl, E.l hs, by rw [atI_map, e2]; rfl, q _ _ _ (.refl E) (.int _)⟩
    · cases e
theorem n_ix (hK : X.K = κ.K) (ha : PE X a (tP κ W (PB κ) fa)) (hb : PE X b (tP κ W (PB κ) fb)) (hs : PlainIx b) : PE X (.Subscript a b pos) (tP κ W (PR κ) (e2 ixD fa fb)) :=
  PE_weak (pe_ix (o_ix hK) ha hb hs) fun _ _ _ h => op2 pmR (fun _ _ _ _ z => z) h

/-! ### slices -/
def cutL {α : Type} (xs : List α) (lo hi : Option Int) : List α := (xs.drop (HT.sIx xs.length 0 lo)).take (HT.sIx xs.length xs.length hi - HT.sIx xs.length 0 lo)
def slD : D → Option Int → Option Int → Option D
  | .lst ds, lo, hi => some (.lst (cutL ds lo hi))
  | .tup ds, lo, hi => some (.tup (cutL ds lo hi))
  | .str s, lo, hi => if s.length ≤ LIM then some (.str (cutS s lo hi)) else none
  | _, _, _ => none
theorem Reps.cut {H : Hp} {vs : List V} {ds : List D} (r : Reps κ H vs ds) (lo hi : Option Int) : Reps κ H (cutV vs lo hi) (cutL ds lo hi) := by
  unfold cutV cutL
  rw [r.length]
  exact (r.drop _).take _
def rS (κ : Kap) : V → Option Int → Option Int → Hp → VK → Prop := fun x lo hi H Q => ∃ H0 dx, Ex H0 H ∧ Bor κ H0 H x dx ∧ FinO (PX κ) H0 H (slD dx lo hi) Q
theorem SlR_weak {r r' : V → Option Int → Option Int → Hp → VK → Prop} (h : SlR X r) (q : ∀ x lo hi H Q, r' x lo hi H Q → r x lo hi H Q) : SlR X r' :=
  fun pins s σ H x v vl vu lo hi sl Q I rx hs pl pu z => h pins s σ H x v vl vu lo hi sl Q I rx hs pl pu (q x lo hi H Q z)
theorem o_sl (hK : X.K = κ.K) : SlR X (rS κ) := SlR_weak (sl_list.or (sl_tupA.or sl_str)) fun x lo hi H Q ⟨H0, dx, E, bx, q⟩ => by
  rw [hK]
  cases e : slD dx lo hi with
  | none => rw [e] at q; exact q.elim
  | some d =>
    rw [e] at q
    unfold slD at e
    split at e
    · cases e
      obtain ⟨p, vs, rfl, ea, ra⟩ := bx.lst E
      exact .inl ⟨p, vs, rfl, .of ea, newL E (ra.cut lo hi) q⟩
    · cases e
      have rx := bx.flat (fun _ _ h => h)
      cases rx with
      | tup ea ra =>
        refine .inr (.inl ⟨_, _, rfl, .of (E _ _ ea), fun ⟨h1, h2⟩ => ?_, fun _ => newT E (ra.cut lo hi) q⟩)
        refine q _ _ _ (.refl E) ?_
        refine Eq.mp (congrArg (fun z => Rep κ H0 _ (D.tup z)) ?_) (Rep.tup ea ra)
        symm
        unfold cutL
        rw [← ra.length, h1, h2, ra.length]
        simp
    · split at e
      · rename_i hz
        cases e
        cases bx.flat (fun _ _ h => h)
        exact .inr (.inr ⟨_, rfl, by rw [lim_eq]; exact hz, q _ _ _ (.refl E) (.str _)⟩)
      · cases e
    · cases e
def int? : D → R (Option Int)
  | .int i => .ok (some i)
  | _ => .er
/-- a slice's bound -/
def oPart : Option EV → List B → R (Option Int)
  | none, _ => .ok none
  | some f, ρ => (f ρ).bind int?
def eSl (fa : EV) (lo hi : Option EV) : EV := fun ρ => (fa ρ).bind fun x => (oPart lo ρ).bind fun l => (oPart hi ρ).bind fun h => R.of (slD x l h)
def tO (κ : Kap) (W : WX) (o : Option EV) : TO := fun σ H Q => ∃ ρ H0, Ex H0 H ∧ Slots κ H0 H σ ρ ∧ (match oPart o ρ with
  | .ok b => ∀ H0' H', Grow H0 H H0' H' → Q b H'
  | .ex c vs => ∀ dx H0' H', Grow H0 H H0' H' → ExD κ H0' dx vs → W (.ref (κ.exc c)) dx σ H'
  | .er => False)
theorem PO_weak {o : Option Expr} {t t' : TO} (p : PO X o t) (h : ∀ σ H Q, t' σ H Q → t σ H Q) : PO X o t' := ⟨fun pins s σ H Q I q => p.run pins s σ H Q I (h σ H Q q)⟩
theorem n_poN : PO X none (tO κ W none) := PO_weak po_none fun σ H Q ⟨ρ, H0, E, S, q⟩ => q _ _ (.refl E)
theorem n_poS (h : PE X e (tP κ W (PR κ) f)) : PO X (some e) (tO κ W (some f)) := PO_weak (po_some h) fun σ H Q ⟨ρ, H0, E, S, q⟩ => by
  refine ⟨ρ, H0, E, S, ?_⟩
  have q : (match (f ρ).bind int? with
    | .ok b => ∀ H0' H', Grow H0 H H0' H' → Q b H'
    | .ex c vs => ∀ dx H0' H', Grow H0 H H0' H' → ExD κ H0' dx vs → W (.ref (κ.exc c)) dx σ H'
    | .er => False) := q
  cases r : f ρ with
  | ok d =>
    rw [r] at q
    intro v H0' H' g p
    cases d with
    | int i => cases p; exact ⟨i, rfl, q _ _ g⟩
    | _ => exact q.elim
  | ex c vs => rw [r] at q; exact q
  | er => rw [r] at q; exact q
theorem tO_bind {α : Type} {o : Option EV} {g : Option Int → R D} {ρ : List B} {σ : L2.St} {H0 H : Hp} {Q : VK} (pm : PM P) (E : Ex H0 H) (S : Slots κ H0 H σ ρ) (h : Fin κ W P σ H0 H ((oPart o ρ).bind g) Q) :
    tO κ W o σ H (fun b H1 => ∃ H01, Grow H0 H H01 H1 ∧ Fin κ W P σ H01 H1 (g b) Q) := by
  refine ⟨ρ, H0, E, S, ?_⟩
  cases e : oPart o ρ with
  | ok d => rw [e] at h; exact fun a b k => ⟨a, k, h.grow pm k⟩
  | ex c vs => rw [e] at h; exact h
  | er => rw [e] at h; exact h
theorem tO_mono {o : Option EV} {σ : L2.St} {H : Hp} {Q Q' : Option Int → Hp → Prop} (q : ∀ v H, Q v H → Q' v H) (h : tO κ W o σ H Q) : tO κ W o σ H Q' := by
  obtain ⟨ρ, H0, E, S, z⟩ := h
  refine ⟨ρ, H0, E, S, ?_⟩
  cases e : oPart o ρ with
  | ok d => rw [e] at z; exact fun a b k => q _ _ (z a b k)
  | ex c vs => rw [e] at z; exact z
  | er => rw [e] at z; exact z
theorem n_sl {lo hi : Option Expr} {ol oh : Option EV} {p2 : Pos} (hK : X.K = κ.K) (he : PE X e (tP κ W (PB κ) f)) (hl : PO X lo (tO κ W ol)) (hh : PO X hi (tO κ W oh)) :
    PE X (.Subscript e (.Slice lo hi none p2) pos) (tP κ W (PX κ) (eSl f ol oh)) := PE_weak (pe_slice (o_sl hK) he hl hh) fun σ H Q ⟨ρ, H0, E, S, q⟩ => by
  obtain ⟨ρ1, H01, E1, S1, q1⟩ := fin_bind (P := PB κ) pmX E S q
  refine ⟨ρ1, H01, E1, S1, q1.mono fun v H1 ⟨H02, d, g1, p1, q2⟩ => ?_⟩
  refine tO_mono (fun l H2 z => ?_) (tO_bind (α := D) pmX g1.c (S.grow g1) q2)
  obtain ⟨H03, g2, q3⟩ := z
  refine tO_mono (fun h H3 z => ?_) (tO_bind (α := D) pmX g2.c ((S.grow g1).grow g2) q3)
  obtain ⟨H04, g3, q4⟩ := z
  exact ⟨H04, d, g3.c, (p1.grow g2).grow g3, FinO.of q4⟩
/-! ### [::-1] -/
def revS (s : Str) : Str := ⟨s.cps.toList.reverse.toArray⟩
theorem revS_eq (x : Str) (u : Tok) : Txt.sliceBy x none none (-1, u) = revS x := by
  apply Str.ext'
  apply Array.ext'
  show _ = x.cps.toList.reverse
  rw [PyProof.Rows.step_rev_list]
  apply List.ext_getElem
  · simp [Str.length]
  · intro i h1 h2
    have hl : i < x.cps.size := by simpa [Str.length] using h1
    have hl2 : x.cps.size - 1 - i < x.cps.size := by omega
    simp [Str.length, Array.getD, hl2]
def tRevS (te : TE) : TE := fun σ H Q => te σ H fun x H1 => ∃ z, x = .str z ∧ z.length ≤ sizeLine ∧ Q (.str (revS z)) H1
theorem pe_revS {e : Expr} {te : TE} {k : Nat} {p1 p2 p3 pos : Pos} (he : PE X e te) : PE X (.Subscript e (.Slice none none (some (.UnaryOp .USub (.Constant (.int 1) k p1) p2)) p3) pos) (tRevS te) := by
  refine ⟨fun pins s σ H Q I h => ?_⟩
  refine Subscript_ (thn (he.run pins s σ H _ I h) fun v s1 ⟨x, H1, I1, r1, q1⟩ => ?_)
  obtain ⟨z, ex, hz, q⟩ := q1
  subst ex
  obtain ⟨t, rfl⟩ := r1
  have hst : PO X (some (.UnaryOp .USub (.Constant (.int 1) k p1) p2)) (tPart (tUn (rU fun i => .int (-i)) (tC (.int 1)))) := po_some (pe_un un_neg pe_int)
  refine wpAny_Slice (thn (po_none.run pins s1 σ H1 (fun o H2 => o = none ∧ H2 = H1) I1 ⟨rfl, rfl⟩) fun vl s2 ⟨l, H2, I2, pl, el, e2⟩ => ?_)
  subst el e2
  refine thn (po_none.run pins s2 σ H2 (fun o H3 => o = none ∧ H3 = H2) I2 ⟨rfl, rfl⟩) fun vu s3 ⟨u, H3, I3, pu, eu, e3⟩ => ?_
  subst eu e3
  refine thn (hst.run pins s3 σ H3 (fun o H4 => o = some (-1) ∧ H4 = H3) I3 ⟨1, rfl, -1, rfl, rfl, rfl⟩) fun vs s4 ⟨o, H4, I4, ps, eo, e4⟩ => ?_
  subst eo e4
  have I5 : Inv X pins σ H4 { s4 with heap := s4.heap.push { cls := .type "slice", data := .fields #[vl, vu, vs] } } := I4.kept (t' := s4.toks) fun b ob q => Heap.get?_push_of_some _ q
  show wpAny (model X.prog X.w) X.A (subscriptTail e (.Slice none none (some (.UnaryOp .USub (.Constant (.int 1) k p1) p2)) p3) (.str z t) (.ref s4.heap.objs.size)) (EP X pins σ Q) X.xe { s4 with heap := s4.heap.push { cls := .type "slice", data := .fields #[vl, vu, vs] } }
  refine tail_any (ops := [.str z t, .ref s4.heap.objs.size]) (typeIs_str _ z t) F.slot_str_getitem.lookup ?_ (by with_unfolding_all rfl)
  obtain ⟨os, hos, hcs, hds⟩ := Heap.IsSliceOf.new s4.heap vl vu vs
  obtain ⟨l, rfl, hl⟩ := IsPart.raw pl
  obtain ⟨u, rfl, hu⟩ := IsPart.raw pu
  obtain ⟨st, rfl, hst2⟩ := IsPart.raw ps
  obtain rfl : l = none := by cases l with | none => rfl | some _ => cases hl
  obtain rfl : u = none := by cases u with | none => rfl | some _ => cases hu
  obtain ⟨tk, rfl⟩ : ∃ tk, st = some (-1, tk) := by
    cases st with
    | none => cases hst2
    | some y => obtain ⟨y1, y2⟩ := y; cases hst2; exact ⟨y2, rfl⟩
  refine wpAny_getItem_str_slice (l := none) (u := none) (st := some (-1, tk)) ⟨os, hos, hcs, hds⟩ rfl ?_
  have e := revS_eq z tk
  have hn : ((((some ((-1 : Int), tk)).map (·.1)).getD 1 == 1 && (slicePicked z none none (some (-1, tk))).length == z.length) = true) = False := by
    have : ((((some ((-1 : Int), tk)).map (·.1)).getD 1 == 1)) = false := rfl
    rw [this]; simp
  unfold Txt.sliceBy at e
  rw [if_neg (by rw [hn]; exact id)] at e
  show Made.post (if ((((some ((-1 : Int), tk)).map (·.1)).getD 1 == 1 && (slicePicked z none none (some (-1, tk))).length == z.length) = true) then Made.val (.str z t) else Made.str ⟨((slicePicked z none none (some (-1, tk))).filterMap (z.cps[·]?)).toArray⟩) (EP X pins σ Q) _
  rw [if_neg (by rw [hn]; exact id), e]
  refine ⟨?_, .str _, H4, I5.tok _, ⟨_, rfl⟩, q⟩
  show z.cps.toList.reverse.toArray.size ≤ sizeLine
  rw [List.size_toArray, List.length_reverse, Array.length_toList]
  exact hz
def revD : D → Option D
  | .lst ds => some (.lst ds.reverse)
  | .str s => if s.length ≤ LIM then some (.str (revS s)) else none
  | _ => none
def e1 (g : D → Option D) (f : EV) : EV := fun ρ => (f ρ).bind fun x => R.of (g x)
theorem PE_or {t t' : TE} (h : PE X e t) (h' : PE X e t') : PE X e (fun σ H Q => t σ H Q ∨ t' σ H Q) := ⟨fun pins s σ H Q I q => q.elim (h.run pins s σ H Q I) (h'.run pins s σ H Q I)⟩
theorem n_rev {k : Nat} {p1 p2 p3 : Pos} (hK : X.K = κ.K) (he : PE X e (tP κ W (PB κ) f)) : PE X (.Subscript e (.Slice none none (some (.UnaryOp .USub (.Constant (.int 1) k p1) p2)) p3) pos) (tP κ W (PX κ) (e1 revD f)) :=
  PE_weak (PE_or (pe_revL he) (pe_revS he)) fun σ H Q ⟨ρ, H0, E, S, q⟩ => by
    have q' : Fin κ W (PX κ) σ H0 H ((f ρ).bind fun x => R.of (revD x)) Q := q
    have z := fin_bind (P := PB κ) pmX E S q'
    cases r : f ρ with
    | ok d =>
      obtain ⟨ρ1, H01, E1, S1, q1⟩ := z
      have pick : (∃ s, d = .str s) ∨ ¬ ∃ s, d = .str s := Classical.em _
      rcases pick with ⟨s, rfl⟩ | hn
      · refine .inr ⟨ρ, H0, E, S, ?_⟩
        rw [r]
        intro v H0' H' g p
        cases p.flat (fun _ _ h => h)
        rw [r] at q'
        have q' : Fin κ W (PX κ) σ H0 H (R.of (if s.length ≤ LIM then some (D.str (revS s)) else none)) Q := q'
        split at q'
        · rename_i hz
          exact ⟨s, rfl, by rw [lim_eq]; exact hz, q' _ _ _ g (.str _)⟩
        · exact q'.elim
      · refine .inl ⟨ρ, H0, E, S, ?_⟩
        rw [r]
        intro v H0' H' g p
        rw [r] at q'
        cases d with
        | lst ds =>
          obtain ⟨a, vs, rfl, ea, ra⟩ := Bor.lst g.c p
          rw [hK]
          exact ⟨a, vs, rfl, .of ea, newL g.c ra.reverse fun w H1 H2 k p => q' w H1 H2 (g.trans k) (pmX _ _ _ _ _ _ g.b p)⟩
        | str s => exact (hn ⟨s, rfl⟩).elim
        | _ => exact q'.elim
    | ex c vs =>
      rw [r] at q'
      exact .inl ⟨ρ, H0, E, S, by rw [r]; exact q'⟩
    | er => rw [r] at q'; exact q'.elim
end
end QY

/-! Argument lists, displays, calls of built-ins and methods, own defs. -/
namespace QY
open PySem PySem.Spec PyProof.Rows L2

inductive Bors (κ : Kap) (H0 H : Hp) : List V → List D → Prop
  | nil : Bors κ H0 H [] []
  | cons {v : V} {vs : List V} {d : D} {ds : List D} : Bor κ H0 H v d → Bors κ H0 H vs ds → Bors κ H0 H (v :: vs) (d :: ds)
theorem Bors.grow {κ : Kap} {H0 H H0' H' : Hp} (g : Grow H0 H H0' H') : ∀ {vs : List V} {ds : List D}, Bors κ H0 H vs ds → Bors κ H0' H' vs ds
  | _, _, .nil => .nil
  | _, _, .cons r s => .cons (r.grow g) (s.grow g)
abbrev PLR (κ : Kap) : Hp → Hp → List V → List D → Prop := fun H0 _ vs ds => Reps κ H0 vs ds
abbrev PLB (κ : Kap) : Hp → Hp → List V → List D → Prop := fun H0 H vs ds => Bors κ H0 H vs ds
abbrev AV := List B → R (List D)
def aNil : AV := fun _ => .ok []
def aCons (f : EV) (g : AV) : AV := fun ρ => (f ρ).bind fun x => (g ρ).bind fun xs => .ok (x :: xs)
section
variable {X : Cx} {κ : Kap} {W : WX} {P : PP} {e a b : Expr} {es : List Expr} {f fa fb : EV} {fs : AV} {pos : Pos}
theorem FinA.mono {σ : L2.St} {H0 H : Hp} {r : R (List D)} {PL : Hp → Hp → List V → List D → Prop} {Q Q' : List V → Hp → Prop} (q : ∀ v H, Q v H → Q' v H) (h : FinA κ W PL σ H0 H r Q) : FinA κ W PL σ H0 H r Q' := by
  cases r with
  | ok d => exact fun v a b g p => q _ _ (h v a b g p)
  | ex c vs => exact h
  | er => exact h
theorem n_aNil {PL : Hp → Hp → List V → List D → Prop} (hp : ∀ H0 H, PL H0 H [] []) : PA X [] (tA κ W PL aNil) := PA_weak pa_nil fun σ H Q ⟨ρ, H0, E, S, q⟩ => q _ _ _ (.refl E) (hp _ _)
theorem aBind {PL : Hp → Hp → List V → List D → Prop} {g : List D → R (List D)} {ρ : List B} {σ : L2.St} {H0 H : Hp} {Q : List V → Hp → Prop} (E : Ex H0 H) (S : Slots κ H0 H σ ρ) (h : FinA κ W PL σ H0 H ((fs ρ).bind g) Q) :
    tA κ W PL fs σ H (fun vs H1 => ∃ H01 ds, Grow H0 H H01 H1 ∧ PL H01 H1 vs ds ∧ FinA κ W PL σ H01 H1 (g ds) Q) := by
  refine ⟨ρ, H0, E, S, ?_⟩
  cases e : fs ρ with
  | ok d => rw [e] at h; exact fun v a b k p => ⟨a, d, k, p, h.grow k⟩
  | ex c vs => rw [e] at h; exact h
  | er => rw [e] at h; exact h
theorem n_aCons {P1 : PP} {PL : Hp → Hp → List V → List D → Prop} (hp : ∀ Hs H0 H H0' H' v vs d ds, P1 Hs H0 H v d → Grow H0 H H0' H' → PL H0' H' vs ds → PL H0' H' (v :: vs) (d :: ds))
    (ha : PE X e (tP κ W P1 f)) (hr : PA X es (tA κ W PL fs)) (hs : starEach (e :: es) X.env = (false, eval e X.env) :: starEach es X.env) : PA X (e :: es) (tA κ W PL (aCons f fs)) :=
  PA_weak (pa_cons ha hr hs) fun σ H Q ⟨ρ, H0, E, S, q⟩ => by
    obtain ⟨ρ1, H01, E1, S1, q1⟩ := finA_bind (P := P1) E S q
    refine ⟨ρ1, H01, E1, S1, q1.mono fun v H1 ⟨H02, d, g1, p1, q2⟩ => ?_⟩
    obtain ⟨ρ2, H03, E2, S2, q3⟩ := aBind g1.c (S.grow g1) q2
    refine ⟨ρ2, H03, E2, S2, q3.mono fun vs H2 ⟨H04, ds, g2, p2, q4⟩ => ?_⟩
    exact q4 _ _ _ (.refl g2.c) (hp _ _ _ _ _ _ _ _ _ p1 g2 p2)
theorem n_aConsR (ha : PE X e (tP κ W (PR κ) f)) (hr : PA X es (tA κ W (PLR κ) fs)) (hs : starEach (e :: es) X.env = (false, eval e X.env) :: starEach es X.env) : PA X (e :: es) (tA κ W (PLR κ) (aCons f fs)) :=
  n_aCons (fun _ _ _ _ _ _ _ _ _ p g q => .cons (p.mono g.a) q) ha hr hs
theorem n_aConsB (ha : PE X e (tP κ W (PB κ) f)) (hr : PA X es (tA κ W (PLB κ) fs)) (hs : starEach (e :: es) X.env = (false, eval e X.env) :: starEach es X.env) : PA X (e :: es) (tA κ W (PLB κ) (aCons f fs)) :=
  n_aCons (fun _ _ _ _ _ _ _ _ _ p g q => .cons (p.grow g) q) ha hr hs
/-- a list of arguments, then the rest -/
theorem fin_aBind {PL : Hp → Hp → List V → List D → Prop} {g : List D → R D} {ρ : List B} {σ : L2.St} {H0 H : Hp} {Q : VK} (pm : PM P) (E : Ex H0 H) (S : Slots κ H0 H σ ρ) (h : Fin κ W P σ H0 H ((fs ρ).bind g) Q) :
    tA κ W PL fs σ H (fun vs H1 => ∃ H01 ds, Grow H0 H H01 H1 ∧ PL H01 H1 vs ds ∧ Fin κ W P σ H01 H1 (g ds) Q) := by
  refine ⟨ρ, H0, E, S, ?_⟩
  cases e : fs ρ with
  | ok d => rw [e] at h; exact fun v a b k p => ⟨a, d, k, p, h.grow pm k⟩
  | ex c vs => rw [e] at h; exact h
  | er => rw [e] at h; exact h
theorem tA_mono {PL : Hp → Hp → List V → List D → Prop} {σ : L2.St} {H : Hp} {Q Q' : List V → Hp → Prop} (q : ∀ v H, Q v H → Q' v H) (h : tA κ W PL fs σ H Q) : tA κ W PL fs σ H Q' := by
  obtain ⟨ρ, H0, E, S, z⟩ := h
  exact ⟨ρ, H0, E, S, z.mono q⟩
/-! ### displays -/
def eLst (fs : AV) : EV := fun ρ => (fs ρ).bind fun ds => if ds.length ≤ LIM then .ok (.lst ds) else .er
def eTup (fs : AV) : EV := fun ρ => (fs ρ).bind fun ds => if ds.length ≤ LIM then .ok (.tup ds) else .er
theorem n_lst (h : PA X es (tA κ W (PLR κ) fs)) : PE X (.List es pos) (tP κ W (PX κ) (eLst fs)) := PE_weak (pe_lst h) fun σ H Q ⟨ρ, H0, E, S, q⟩ => by
  refine tA_mono (fun vs H1 z => ?_) (fin_aBind (PL := PLR κ) pmX E S q)
  obtain ⟨H01, ds, g, r, z⟩ := z
  have r : Reps κ H01 vs ds := r
  by_cases hl : ds.length ≤ LIM
  · rw [if_pos hl] at z
    exact ⟨by rw [lim_eq, r.length]; exact hl, newL g.c r z⟩
  · rw [if_neg hl] at z; exact z.elim
theorem n_tup {x1 : Nat} (h : PA X es (tA κ W (PLR κ) fs)) : PE X (.Tuple es x1 pos) (tP κ W (PR κ) (eTup fs)) := PE_weak (pe_tup h) fun σ H Q ⟨ρ, H0, E, S, q⟩ => by
  refine tA_mono (fun vs H1 z => ?_) (fin_aBind (PL := PLR κ) pmR E S q)
  obtain ⟨H01, ds, g, r, z⟩ := z
  have r : Reps κ H01 vs ds := r
  by_cases hl : ds.length ≤ LIM
  · rw [if_pos hl] at z
    exact ⟨by rw [lim_eq, r.length]; exact hl, newT g.c r z⟩
  · rw [if_neg hl] at z; exact z.elim
/-! ### built-ins by name -/
def rC (κ : Kap) (P : PP) (g : List D → Option D) : List V → Hp → VK → Prop := fun vs H Q => ∃ H0 ds, Ex H0 H ∧ Bors κ H0 H vs ds ∧ FinO P H0 H (g ds) Q
def eCallB (g : List D → Option D) (fs : AV) : EV := fun ρ => (fs ρ).bind fun ds => R.of (g ds)
theorem callB_weak {g : List D → Option D} (pm : PM P) {σ : L2.St} {H : Hp} {Q : VK} (h : tP κ W P (eCallB g fs) σ H Q) : tCB (rC κ P g) (tA κ W (PLB κ) fs) σ H Q := by
  obtain ⟨ρ, H0, E, S, q⟩ := h
  refine tA_mono (fun vs H1 z => ?_) (fin_aBind (PL := PLB κ) pm E S q)
  obtain ⟨H01, ds, g1, r, z⟩ := z
  exact ⟨H01, ds, g1.c, r, FinO.of z⟩
theorem CallR_weak {f : Value} {r r' : List V → Hp → VK → Prop} (h : CallR X f r) (q : ∀ vs H Q, r' vs H Q → r vs H Q) : CallR X f r' :=
  fun pins s σ H xs us Q I rx z => h pins s σ H xs us Q I rx (q xs H Q z)
theorem CallR_of {f : Value} {g : List D → Option D}
    (h : ∀ (ds : List D) (d : D), g ds = some d → CallR X f (fun vs H Q => ∃ H0, Ex H0 H ∧ Bors κ H0 H vs ds ∧ ∀ v H0' H', Grow H0 H H0' H' → P H H0' H' v d → Q v H')) : CallR X f (rC κ P g) := by
  intro pins s σ H xs us Q I rx ⟨H0, ds, E, bx, q⟩
  cases e : g ds with
  | none => rw [e] at q; exact q.elim
  | some d => rw [e] at q; exact h ds d e pins s σ H xs us Q I rx ⟨H0, E, bx, q⟩
theorem n_callB {id : String} {x : Str} {p : Pos} {g : List D → Option D} (pm : PM P) (hc : CallR X (.builtin id) (rC κ P g)) (hg : Gl X x) (hm : X.mg x = none) (hv : bootBuiltins x = some (.builtin id)) (ha : PA X (e :: es) (tA κ W (PLB κ) fs))
    (hn : x ≠ "__name__") (hdb : (x == ("__debug__" : Str)) = false) (he : starEach (e :: es) X.env = (false, eval e X.env) :: starEach es X.env) (hpl : (backTo pos (starEach es X.env)).any (·.1) = false) :
    PE X (.Call (.Name x p) (e :: es) [] pos) (tP κ W P (eCallB g fs)) := PE_weak (pe_callB hc hg hm hv ha hn hdb he hpl) fun _ _ _ h => callB_weak pm h
theorem n_callTy {T : String} {x : Str} {p : Pos} {g : List D → Option D} (pm : PM P) (hc : CallR X (.type T) (rC κ P g)) (hg : Gl X x) (hm : X.mg x = none) (hv : bootBuiltins x = some (.type T)) (ha : PA X (e :: es) (tA κ W (PLB κ) fs))
    (hn : x ≠ "__name__") (hdb : (x == ("__debug__" : Str)) = false) (he : starEach (e :: es) X.env = (false, eval e X.env) :: starEach es X.env) (hpl : (backTo pos (starEach es X.env)).any (·.1) = false) :
    PE X (.Call (.Name x p) (e :: es) [] pos) (tP κ W P (eCallB g fs)) := PE_weak (pe_callTy hc hg hm hv ha hn hdb he hpl) fun _ _ _ h => callB_weak pm h
theorem Bors.one {H0 H : Hp} {vs : List V} {d : D} (b : Bors κ H0 H vs [d]) : ∃ v, vs = [v] ∧ Bor κ H0 H v d := by
  cases b with
  | cons b r => cases r; exact ⟨_, rfl, b⟩
theorem Bors.two {H0 H : Hp} {vs : List V} {d d' : D} (b : Bors κ H0 H vs [d, d']) : ∃ v v', vs = [v, v'] ∧ Bor κ H0 H v d ∧ Bor κ H0 H v' d' := by
  cases b with
  | cons b r =>
    cases r with
    | cons b' r => cases r; exact ⟨_, _, rfl, b, b'⟩
def lenD : List D → Option D
  | [.str s] => if s.length ≤ LIM then some (.int s.length) else none
  | [.lst ds] => some (.int ds.length)
  | [.tup ds] => some (.int ds.length)
  | [.scr ns] => some (.int ns.length)
  | _ => none
theorem c_len (hK : X.K = κ.K) : CallR X (.builtin "len") (rC κ (PR κ) lenD) := CallR_of fun ds d e => by
  unfold lenD at e
  split at e
  · split at e
    · rename_i hz
      cases e
      exact CallR_weak call_len fun vs H Q ⟨H0, E, bb, q⟩ => by
        obtain ⟨v, rfl, b⟩ := bb.one
        cases b.flat (fun _ _ h => h)
        exact ⟨_, _, rfl, ⟨by rw [lim_eq]; exact hz, rfl⟩, q _ _ _ (.refl E) (.int _)⟩
    · cases e
  · cases e
    exact CallR_weak call_len fun vs H Q ⟨H0, E, bb, q⟩ => by
      obtain ⟨v, rfl, b⟩ := bb.one
      obtain ⟨p, ws, rfl, ea, ra⟩ := b.lst E
      exact ⟨_, _, rfl, .inl ⟨ws, by rw [hK]; exact .of ea, ra.length.symm⟩, q _ _ _ (.refl E) (.int _)⟩
  · cases e
    exact CallR_weak call_len fun vs H Q ⟨H0, E, bb, q⟩ => by
      obtain ⟨v, rfl, b⟩ := bb.one
      obtain ⟨p, ws, rfl, ea, ra⟩ := b.tup E
      exact ⟨_, _, rfl, .inr ⟨ws, by rw [hK]; exact .of ea, ra.length.symm⟩, q _ _ _ (.refl E) (.int _)⟩
  · cases e
    exact CallR_weak call_len fun vs H Q ⟨H0, E, bb, q⟩ => by
      obtain ⟨v, rfl, b⟩ := bb.one
      cases b.flat (fun _ _ h => h) with
      | scr hs => exact ⟨_, _, rfl, .inl ⟨_, by rw [hK]; exact E.l hs, by rw [List.length_map]⟩, q _ _ _ (.refl E) (.int _)⟩
  · cases e
def asBls : List D → Option (List Bool)
  | [] => some []
  | .bl b :: r => (asBls r).map fun t => b :: t
  | _ :: _ => none
theorem asBls_map : ∀ ns : List Bool, asBls (ns.map D.bl) = some ns
  | [] => rfl
  | n :: r => by show (asBls (r.map D.bl)).map _ = _; rw [asBls_map r]; rfl
theorem asBls_of : ∀ {ds : List D} {ns : List Bool}, asBls ds = some ns → ds = ns.map D.bl
  | [], _, h => by cases h; rfl
  | .bl i :: r, ns, h => by
    have h : (asBls r).map (fun t => i :: t) = some ns := h
    cases e : asBls r with
    | none => rw [e] at h; cases h
    | some t => rw [e] at h; cases h; rw [asBls_of e]; rfl
  | .non :: _, _, h => by cases h
  | .int _ :: _, _, h => by cases h
  | .str _ :: _, _, h => by cases h
  | .lst _ :: _, _, h => by cases h
  | .tup _ :: _, _, h => by cases h
  | .dct _ _ :: _, _, h => by cases h
  | .scr _ :: _, _, h => by cases h
  | .obj _ _ :: _, _, h => by cases h
  | .exc _ _ :: _, _, h => by cases h
  | .cls _ :: _, _, h => by cases h
  | .ty _ :: _, _, h => by cases h
  | .ptr _ :: _, _, h => by cases h
  | .dat _ _ _ :: _, _, h => by cases h
def asStrs : List D → Option (List Str)
  | [] => some []
  | .str b :: r => (asStrs r).map fun t => b :: t
  | _ :: _ => none
theorem asStrs_map : ∀ ns : List Str, asStrs (ns.map D.str) = some ns
  | [] => rfl
  | n :: r => by show (asStrs (r.map D.str)).map _ = _; rw [asStrs_map r]; rfl
theorem asStrs_of : ∀ {ds : List D} {ns : List Str}, asStrs ds = some ns → ds = ns.map D.str
  | [], _, h => by cases h; rfl
  | .str i :: r, ns, h => by
    have h : (asStrs r).map (fun t => i :: t) = some ns := h
    cases e : asStrs r with
    | none => rw [e] at h; cases h
    | some t => rw [e] at h; cases h; rw [asStrs_of e]; rfl
  | .non :: _, _, h => by cases h
  | .int _ :: _, _, h => by cases h
  | .bl _ :: _, _, h => by cases h
  | .lst _ :: _, _, h => by cases h
  | .tup _ :: _, _, h => by cases h
  | .dct _ _ :: _, _, h => by cases h
  | .scr _ :: _, _, h => by cases h
  | .obj _ _ :: _, _, h => by cases h
  | .exc _ _ :: _, _, h => by cases h
  | .cls _ :: _, _, h => by cases h
  | .ty _ :: _, _, h => by cases h
  | .ptr _ :: _, _, h => by cases h
  | .dat _ _ _ :: _, _, h => by cases h
def allD : List D → Option D
  | [.lst ds] => (asBls ds).map fun bs => .bl (bs.all id)
  | _ => none
def anyD : List D → Option D
  | [.lst ds] => (asBls ds).map fun bs => .bl (bs.any id)
  | _ => none
theorem c_all (hK : X.K = κ.K) (hc : X.calm = true) : CallR X (.builtin "all") (rC κ (PR κ) allD) := CallR_of fun ds d e => by
  unfold allD at e
  split at e
  · rename_i ds
    cases e2 : asBls ds with
    | none => rw [e2] at e; cases e
    | some bs =>
      rw [e2] at e
      cases e
      obtain rfl := asBls_of e2
      exact CallR_weak (cr_all hc) fun vs H Q ⟨H0, E, bb, q⟩ => by
        obtain ⟨v, rfl, b⟩ := bb.one
        obtain ⟨p, ws, rfl, ea, ra⟩ := b.lst E
        obtain rfl := ra.bls_of _
        exact ⟨p, bs, rfl, by rw [hK]; exact .of ea, q _ _ _ (.refl E) (.bl _)⟩
  · cases e
theorem c_any (hK : X.K = κ.K) (hc : X.calm = true) : CallR X (.builtin "any") (rC κ (PR κ) anyD) := CallR_of fun ds d e => by
  unfold anyD at e
  split at e
  · rename_i ds
    cases e2 : asBls ds with
    | none => rw [e2] at e; cases e
    | some bs =>
      rw [e2] at e
      cases e
      obtain rfl := asBls_of e2
      exact CallR_weak (cr_any hc) fun vs H Q ⟨H0, E, bb, q⟩ => by
        obtain ⟨v, rfl, b⟩ := bb.one
        obtain ⟨p, ws, rfl, ea, ra⟩ := b.lst E
        obtain rfl := ra.bls_of _
        exact ⟨p, bs, rfl, by rw [hK]; exact .of ea, q _ _ _ (.refl E) (.bl _)⟩
  · cases e
def listD : List D → Option D
  | [.lst ds] => some (.lst ds)
  | [.tup ds] => some (.lst ds)
  | _ => none
theorem c_list (hK : X.K = κ.K) : CallR X (.type "list") (rC κ (PX κ) listD) := CallR_of fun ds d e => by
  unfold listD at e
  split at e
  · cases e
    exact CallR_weak call_list_of fun vs H Q ⟨H0, E, bb, q⟩ => by
      obtain ⟨v, rfl, b⟩ := bb.one
      obtain ⟨p, ws, rfl, ea, ra⟩ := b.lst E
      exact ⟨p, ws, rfl, .inl (by rw [hK]; exact .of ea), newL E ra q⟩
  · cases e
    exact CallR_weak call_list_of fun vs H Q ⟨H0, E, bb, q⟩ => by
      obtain ⟨v, rfl, b⟩ := bb.one
      obtain ⟨p, ws, rfl, ea, ra⟩ := b.tup E
      exact ⟨p, ws, rfl, .inr (by rw [hK]; exact .of ea), newL E ra q⟩
  · cases e
def tupleD : List D → Option D
  | [.lst ds] => some (.tup ds)
  | [.tup ds] => some (.tup ds)
  | _ => none
theorem c_tuple (hK : X.K = κ.K) : CallR X (.type "tuple") (rC κ (PR κ) tupleD) := CallR_of fun ds d e => by
  unfold tupleD at e
  split at e
  · cases e
    exact CallR_weak call_tuple_of fun vs H Q ⟨H0, E, bb, q⟩ => by
      obtain ⟨v, rfl, b⟩ := bb.one
      obtain ⟨p, ws, rfl, ea, ra⟩ := b.lst E
      exact ⟨p, ws, rfl, .inl ⟨by rw [hK]; exact .of ea, newT E ra q⟩⟩
  · cases e
    exact CallR_weak call_tuple_of fun vs H Q ⟨H0, E, bb, q⟩ => by
      obtain ⟨v, rfl, b⟩ := bb.one
      have rx := b.flat (fun _ _ h => h)
      cases rx with
      | tup ea ra => exact ⟨_, _, rfl, .inr ⟨by rw [hK]; exact .of (E _ _ ea), q _ _ _ (.refl E) (.tup ea ra)⟩⟩
  · cases e
def intD : List D → Option D
  | [.bl b] => some (.int (if b then 1 else 0))
  | [.int i] => some (.int i)
  | [.str s] => if s.length ≤ 640 then (PySem.intText? s).map .int else none
  | _ => none
theorem c_int : CallR X (.type "int") (rC κ (PR κ) intD) := CallR_of fun ds d e => by
  unfold intD at e
  split at e
  · cases e
    exact CallR_weak call_int1 fun vs H Q ⟨H0, E, bb, q⟩ => by
      obtain ⟨v, rfl, b⟩ := bb.one
      cases b.flat (fun _ _ h => h)
      exact .inr ⟨_, rfl, q _ _ _ (.refl E) (.int _)⟩
  · cases e
    exact CallR_weak call_int1 fun vs H Q ⟨H0, E, bb, q⟩ => by
      obtain ⟨v, rfl, b⟩ := bb.one
      cases b.flat (fun _ _ h => h)
      exact .inl ⟨_, rfl, q _ _ _ (.refl E) (.int _)⟩
  · split at e
    · rename_i s hz
      cases e2 : PySem.intText? s with
      | none => rw [e2] at e; cases e
      | some n =>
        rw [e2] at e
        cases e
        exact CallR_weak call_int_str fun vs H Q ⟨H0, E, bb, q⟩ => by
          obtain ⟨v, rfl, b⟩ := bb.one
          cases b.flat (fun _ _ h => h)
          exact ⟨s, n, rfl, e2, hz, q _ _ _ (.refl E) (.int _)⟩
    · cases e
  · cases e
def strD : List D → Option D
  | [.int i] => if i.natAbs < 2 ^ 64 then some (.str (toString i)) else none
  | _ => none
theorem c_str : CallR X (.type "str") (rC κ (PR κ) strD) := CallR_of fun ds d e => by
  unfold strD at e
  split at e
  · split at e
    · rename_i i hz
      cases e
      exact CallR_weak call_str_int fun vs H Q ⟨H0, E, bb, q⟩ => by
        obtain ⟨v, rfl, b⟩ := bb.one
        cases b.flat (fun _ _ h => h)
        refine ⟨i, rfl, ?_, q _ _ _ (.refl E) (.str _)⟩
        by_cases h0 : i.natAbs = 0
        · rw [h0]; decide
        · have := (Nat.log2_lt h0).mpr (Nat.lt_of_lt_of_le hz (Nat.pow_le_pow_right (by decide) (by decide : 64 ≤ 1920)))
          exact this
    · cases e
  · cases e
/-- the greatest, the least -/
def maxI : List Int → Int
  | [] => 0
  | [x] => x
  | x :: y :: r => if maxI (y :: r) > x then maxI (y :: r) else x
def minI : List Int → Int
  | [] => 0
  | [x] => x
  | x :: y :: r => if minI (y :: r) < x then minI (y :: r) else x
theorem maxI_mem : ∀ (x : Int) (r : List Int), maxI (x :: r) ∈ x :: r ∧ ∀ y ∈ x :: r, y ≤ maxI (x :: r)
  | x, [] => ⟨by simp [maxI], by simp [maxI]⟩
  | x, y :: r => by
    obtain ⟨h1, h2⟩ := maxI_mem y r
    have e : maxI (x :: y :: r) = if maxI (y :: r) > x then maxI (y :: r) else x := rfl
    rw [e]
    split
    · rename_i h
      refine ⟨List.mem_cons_of_mem _ h1, fun z hz => ?_⟩
      rcases List.mem_cons.mp hz with rfl | hz
      · omega
      · exact h2 z hz
    · refine ⟨List.mem_cons_self, fun z hz => ?_⟩
      rcases List.mem_cons.mp hz with rfl | hz
      · omega
      · have := h2 z hz; omega
theorem minI_mem : ∀ (x : Int) (r : List Int), minI (x :: r) ∈ x :: r ∧ ∀ y ∈ x :: r, minI (x :: r) ≤ y
  | x, [] => ⟨by simp [minI], by simp [minI]⟩
  | x, y :: r => by
    obtain ⟨h1, h2⟩ := minI_mem y r
    have e : minI (x :: y :: r) = if minI (y :: r) < x then minI (y :: r) else x := rfl
    rw [e]
    split
    · rename_i h
      refine ⟨List.mem_cons_of_mem _ h1, fun z hz => ?_⟩
      rcases List.mem_cons.mp hz with rfl | hz
      · omega
      · exact h2 z hz
    · refine ⟨List.mem_cons_self, fun z hz => ?_⟩
      rcases List.mem_cons.mp hz with rfl | hz
      · omega
      · have := h2 z hz; omega
def maxD : List D → Option D
  | [.int i, .int j] => some (.int (if j > i then j else i))
  | [.lst ds] => match asInts ds with
    | some (n :: ns) => some (.int (maxI (n :: ns)))
    | _ => none
  | _ => none
def minD : List D → Option D
  | [.int i, .int j] => some (.int (if j < i then j else i))
  | [.lst ds] => match asInts ds with
    | some (n :: ns) => some (.int (minI (n :: ns)))
    | _ => none
  | _ => none
theorem c_max (hK : X.K = κ.K) (hc : X.calm = true) : CallR X (.builtin "max") (rC κ (PR κ) maxD) := CallR_of fun ds d e => by
  unfold maxD at e
  split at e
  · cases e
    exact CallR_weak (call_max2 hc) fun vs H Q ⟨H0, E, bb, q⟩ => by
      obtain ⟨v, v', rfl, b, b'⟩ := bb.two
      cases b.flat (fun _ _ h => h); cases b'.flat (fun _ _ h => h)
      exact ⟨_, _, rfl, q _ _ _ (.refl E) (.int _)⟩
  · split at e
    · rename_i ds n ns h
      cases e
      obtain rfl := asInts_of h
      exact CallR_weak (cr_max hc) fun vs H Q ⟨H0, E, bb, q⟩ => by
        obtain ⟨v, rfl, b⟩ := bb.one
        obtain ⟨p, ws, rfl, ea, ra⟩ := b.lst E
        obtain rfl := ra.ints_of _
        refine ⟨p, n :: ns, rfl, by rw [hK]; exact .of ea, by simp, fun m h1 h2 => ?_⟩
        obtain ⟨k1, k2⟩ := maxI_mem n ns
        have : m = maxI (n :: ns) := by
          have := h2 _ k1
          have := k2 _ h1
          omega
        subst this
        exact q _ _ _ (.refl E) (.int _)
    · cases e
  · cases e
theorem c_min (hK : X.K = κ.K) (hc : X.calm = true) : CallR X (.builtin "min") (rC κ (PR κ) minD) := CallR_of fun ds d e => by
  unfold minD at e
  split at e
  · cases e
    exact CallR_weak (call_min2 hc) fun vs H Q ⟨H0, E, bb, q⟩ => by
      obtain ⟨v, v', rfl, b, b'⟩ := bb.two
      cases b.flat (fun _ _ h => h); cases b'.flat (fun _ _ h => h)
      exact ⟨_, _, rfl, q _ _ _ (.refl E) (.int _)⟩
  · split at e
    · rename_i ds n ns h
      cases e
      obtain rfl := asInts_of h
      exact CallR_weak (cr_min hc) fun vs H Q ⟨H0, E, bb, q⟩ => by
        obtain ⟨v, rfl, b⟩ := bb.one
        obtain ⟨p, ws, rfl, ea, ra⟩ := b.lst E
        obtain rfl := ra.ints_of _
        refine ⟨p, n :: ns, rfl, by rw [hK]; exact .of ea, by simp, fun m h1 h2 => ?_⟩
        obtain ⟨k1, k2⟩ := minI_mem n ns
        have : m = minI (n :: ns) := by
          have := h2 _ k1
          have := k2 _ h1
          omega
        subst this
        exact q _ _ _ (.refl E) (.int _)
    · cases e
  · cases e

/-! ### methods of built-in types -/
def tyD (T : String) : D → Bool
  | .str _ => T == "str"
  | .lst _ => T == "list"
  | _ => false
def rM (κ : Kap) (P : PP) (g : D → List D → Option D) : V → List V → Hp → VK → Prop := fun x vs H Q => ∃ H0 dx ds, Ex H0 H ∧ Bor κ H0 H x dx ∧ Bors κ H0 H vs ds ∧ FinO P H0 H (g dx ds) Q
def eMeth (T : String) (g : D → List D → Option D) (f : EV) (fs : AV) : EV := fun ρ => (f ρ).bind fun x => if tyD T x then (fs ρ).bind fun ds => R.of (g x ds) else .er
theorem tyV_of {T : String} {H0 H : Hp} {v : V} {d : D} (E : Ex H0 H) (b : Bor κ H0 H v d) (h : tyD T d = true) : tyV κ.K T v H := by
  cases d with
  | str s => cases b.flat (fun _ _ h => h); exact eq_of_beq h
  | lst ds => obtain ⟨p, ws, rfl, ea, ra⟩ := b.lst E; exact .inl ⟨eq_of_beq h, ws, .of ea⟩
  | _ => cases h
theorem n_meth {T id : String} {o : Expr} {name : Str} {apos cpos : Pos} {g : D → List D → Option D} (hK : X.K = κ.K) (pm : PM P) (pa : PlainAttrs T) (slot : Slot T name id) (hty : typeOf (.builtin id) = pure (.type "method_descriptor"))
    (hm : MtR X id (rM κ P g)) (ho : PE X o (tP κ W (PB κ) f)) (ha : PA X (e :: es) (tA κ W (PLB κ) fs)) (hbase : attributeBase o name X.env (eval o X.env) = eval o X.env)
    (hfew : ((backTo cpos (starEach (e :: es) X.env)).all (fun x => !x.1) && (backToKw cpos (keywordEach [] X.env)).all (fun x => x.1.isSome)
      && decide ((e :: es).length + ([] : List Keyword).length + (if ([] : List Keyword).isEmpty then 0 else 1) < 30)) = true)
    (hline : (apos.endLine == cpos.line) = true) (hs : starEach (e :: es) X.env = (false, eval e X.env) :: starEach es X.env) (hplain : (backTo cpos (starEach es X.env)).any (·.1) = false) :
    PE X (.Call (.Attribute o name apos) (e :: es) [] cpos) (tP κ W P (eMeth T g f fs)) := PE_weak (pe_bm pa slot hty hm ho ha hbase hfew hline hs hplain) fun σ H Q ⟨ρ, H0, E, S, q⟩ => by
  rw [hK]
  obtain ⟨ρ1, H01, E1, S1, q1⟩ := fin_bind (P := PB κ) pm E S q
  refine ⟨ρ1, H01, E1, S1, q1.mono fun v H1 ⟨H02, d, g1, p1, q2⟩ => ?_⟩
  by_cases ht : tyD T d = true
  · rw [if_pos ht] at q2
    refine ⟨tyV_of g1.c p1 ht, tA_mono (fun vs H2 z => ?_) (fin_aBind (PL := PLB κ) pm g1.c (S.grow g1) q2)⟩
    obtain ⟨H03, ds, g2, r, z⟩ := z
    exact ⟨H03, d, ds, g2.c, p1.grow g2, r, FinO.of z⟩
  · rw [if_neg ht] at q2; exact q2.elim
theorem MtR_of {id : String} {g : D → List D → Option D}
    (h : ∀ (dx : D) (ds : List D) (d : D), g dx ds = some d → MtR X id (fun x vs H Q => ∃ H0, Ex H0 H ∧ Bor κ H0 H x dx ∧ Bors κ H0 H vs ds ∧ ∀ v H0' H', Grow H0 H H0' H' → P H H0' H' v d → Q v H')) : MtR X id (rM κ P g) := by
  intro pins s σ H x xs v us Q I rv rx ⟨H0, dx, ds, E, bv, bx, q⟩
  cases e : g dx ds with
  | none => rw [e] at q; exact q.elim
  | some d => rw [e] at q; exact h dx ds d e pins s σ H x xs v us Q I rv rx ⟨H0, E, bv, bx, q⟩
theorem MtR_weak {id : String} {r r' : V → List V → Hp → VK → Prop} (h : MtR X id r) (q : ∀ x vs H Q, r' x vs H Q → r x vs H Q) : MtR X id r' :=
  fun pins s σ H x xs v us Q I rv rx z => h pins s σ H x xs v us Q I rv rx (q x xs H Q z)
def joinD : D → List D → Option D
  | .str s, [.lst ds] => match asStrs ds with
    | some ys => if (ys.map (·.length)).sum + ys.length * s.length ≤ LIM then some (.str (Txt.join s ys)) else none
    | none => none
  | _, _ => none
theorem m_join (hK : X.K = κ.K) : MtR X "str.join" (rM κ (PR κ) joinD) := MtR_of fun dx ds d e => by
  unfold joinD at e
  split at e
  · split at e
    · split at e
      · rename_i h hz
        cases e
        obtain rfl := asStrs_of h
        exact MtR_weak mt_join fun x vs H Q ⟨H0, E, bv, bx, q⟩ => by
          obtain ⟨v, rfl, b⟩ := bx.one
          cases bv.flat (fun _ _ h => h)
          obtain ⟨p, ws, rfl, ea, ra⟩ := b.lst E
          obtain rfl := ra.strs_of _
          exact ⟨_, p, _, rfl, rfl, .inl (by rw [hK]; exact .of ea), hz, q _ _ _ (.refl E) (.str _)⟩
      · cases e
    · cases e
  · cases e
def splitD : D → List D → Option D
  | .str s, [.str t] => if t.length ≠ 0 ∧ s.length + 2 ≤ LIM then some (.lst ((Txt.split s t).map .str)) else none
  | _, _ => none
theorem m_split : MtR X "str.split" (rM κ (PX κ) splitD) := MtR_of fun dx ds d e => by
  unfold splitD at e
  split at e
  · split at e
    · rename_i hz
      cases e
      exact MtR_weak mt_split fun x vs H Q ⟨H0, E, bv, bx, q⟩ => by
        obtain ⟨v, rfl, b⟩ := bx.one
        cases bv.flat (fun _ _ h => h)
        cases b.flat (fun _ _ h => h)
        exact ⟨_, _, rfl, rfl, by simpa using hz.1, by rw [lim_eq]; exact hz.2, newL E (Reps.strs _) q⟩
    · cases e
  · cases e
def stripD : D → List D → Option D
  | .str s, [.str t] => if s.length ≤ LIM then some (.str (Txt.stripChars s t)) else none
  | _, _ => none
theorem m_strip : MtR X "str.strip" (rM κ (PR κ) stripD) := MtR_of fun dx ds d e => by
  unfold stripD at e
  split at e
  · split at e
    · rename_i hz
      cases e
      exact MtR_weak mt_stripChars fun x vs H Q ⟨H0, E, bv, bx, q⟩ => by
        obtain ⟨v, rfl, b⟩ := bx.one
        cases bv.flat (fun _ _ h => h)
        cases b.flat (fun _ _ h => h)
        exact ⟨_, _, rfl, rfl, by rw [lim_eq]; exact hz, q _ _ _ (.refl E) (.str _)⟩
    · cases e
  · cases e
end
end QY

/-! What is walked, targets, list comprehensions, calls of own defs. -/
namespace QY
open PySem PySem.Spec PyProof.Rows L2

def ItOk (κ : Kap) (J : It) (H0 : Hp) (ds : List D) : Prop := ∀ H, Ex H0 H → ∀ i, (∀ d, ds[i]? = some d → J.go i H ∧ ∀ x H', J.yld i H x H' → H' = H ∧ Rep κ H0 x d) ∧ (ds.length ≤ i → J.stop i H)
def FinI (κ : Kap) (W : WX) (σ : L2.St) (H0 H : Hp) (r : R (List D)) (Q : It → Hp → Prop) : Prop := match r with
  | .ok ds => ∀ J H0' H', Grow H0 H H0' H' → ItOk κ J H0' ds → Q J H'
  | .ex c vs => ∀ dx H0' H', Grow H0 H H0' H' → ExD κ H0' dx vs → W (.ref (κ.exc c)) dx σ H'
  | .er => False
def tI (κ : Kap) (W : WX) (f : AV) : TI := fun σ H Q => ∃ ρ H0, Ex H0 H ∧ Slots κ H0 H σ ρ ∧ FinI κ W σ H0 H (f ρ) Q
def itemsD : D → Option (List D)
  | .lst ds => some ds
  | .tup ds => some ds
  | .str s => some (s.cps.toList.map fun c => .str ⟨#[c]⟩)
  | .scr ns => some (ns.map .int)
  | _ => none
def eIter (f : EV) : AV := fun ρ => (f ρ).bind fun d => R.of (itemsD d)
section
variable {X : Cx} {κ : Kap} {W : WX} {P : PP} {tg e a b : Expr} {es : List Expr} {f fa fb : EV} {fs : AV} {pos : Pos}
theorem PI_weak {w w' : TI} (p : PI X tg e w) (h : ∀ σ H Q, w' σ H Q → w σ H Q) : PI X tg e w' := ⟨fun pins s σ H Q I q => p.run pins s σ H Q I (h σ H Q q)⟩
theorem PI_or {w w' : TI} (p : PI X tg e w) (p' : PI X tg e w') : PI X tg e (fun σ H Q => w σ H Q ∨ w' σ H Q) := ⟨fun pins s σ H Q I q => q.elim (p.run pins s σ H Q I) (p'.run pins s σ H Q I)⟩
theorem FinI.grow {σ : L2.St} {H0 H H01 H1 : Hp} {r : R (List D)} {Q : It → Hp → Prop} (g : Grow H0 H H01 H1) (h : FinI κ W σ H0 H r Q) : FinI κ W σ H01 H1 r Q := by
  cases r with
  | ok d => exact fun v a b k p => h v a b (g.trans k) p
  | ex c vs => exact fun dx a b k p => h dx a b (g.trans k) p
  | er => exact h
theorem finI_bind {g : D → R (List D)} {ρ : List B} {σ : L2.St} {H0 H : Hp} {Q : It → Hp → Prop} (E : Ex H0 H) (S : Slots κ H0 H σ ρ) (h : FinI κ W σ H0 H ((f ρ).bind g) Q) :
    tP κ W P f σ H (fun v H1 => ∃ H01 d, Grow H0 H H01 H1 ∧ P H H01 H1 v d ∧ FinI κ W σ H01 H1 (g d) Q) :=
  tP_bind (Z := fun σ H0 H r => FinI κ W σ H0 H r Q) E S h (fun _ _ _ k z => z.grow k) (fun _ _ z => z) fun z => z
theorem itl_ok {H0 : Hp} {p : Addr} {vs : List V} {ds : List D} (h : SqL κ.K H0 p vs) (r : Reps κ H0 vs ds) : ItOk κ (Itl κ.K p) H0 ds := fun H E i => by
  refine ⟨fun d hd => ?_, fun hl => ⟨vs, E.l h, by rw [r.length]; exact hl⟩⟩
  obtain ⟨v, hv, rv⟩ := r.get hd
  refine ⟨⟨vs, v, E.l h, hv⟩, fun x H' ⟨e1, e2⟩ => ⟨e1, ?_⟩⟩
  have := e2 vs (E.l h)
  rw [hv] at this
  cases this
  exact rv
theorem Ex.t {K : PySem.W.Frag} {H H' : Hp} {a : Addr} {xs : List V} (e : Ex H H') (h : SqT K H a xs) : SqT K H' a xs := by
  rcases h with h | h
  · exact Or.inl (e.rd h)
  · exact Or.inr h
theorem itt_ok {H0 : Hp} {p : Addr} {vs : List V} {ds : List D} (h : SqT κ.K H0 p vs) (r : Reps κ H0 vs ds) : ItOk κ (Itt κ.K p) H0 ds := fun H E i => by
  refine ⟨fun d hd => ?_, fun hl => ⟨vs, E.t h, by rw [r.length]; exact hl⟩⟩
  obtain ⟨v, hv, rv⟩ := r.get hd
  refine ⟨⟨vs, v, E.t h, hv⟩, fun x H' ⟨e1, e2⟩ => ⟨e1, ?_⟩⟩
  have := e2 vs (E.t h)
  rw [hv] at this
  cases this
  exact rv
theorem its_ok {H0 : Hp} {s : Str} : ItOk κ (Its s) H0 (s.cps.toList.map fun c => .str ⟨#[c]⟩) := fun H E i => by
  refine ⟨fun d hd => ?_, fun hl => by show s.cps.size ≤ i; simpa using hl⟩
  rw [List.getElem?_map] at hd
  cases hc : s.cps.toList[i]? with
  | none => rw [hc] at hd; cases hd
  | some c =>
    rw [hc] at hd
    cases hd
    have hi : i < s.cps.toList.length := (List.getElem?_eq_some_iff.mp hc).1
    refine ⟨by show i < s.cps.size; simpa using hi, fun x H' ⟨e1, c', e2, e3⟩ => ⟨e1, ?_⟩⟩
    have : s.cps[i]? = some c := by rw [← Array.getElem?_toList]; exact hc
    rw [this] at e2
    cases e2
    subst e3
    exact .str _
theorem itr_ok {H0 : Hp} {lo : Int} {n : Nat} : ItOk κ (Itr lo n) H0 ((List.range n).map fun i => .int (lo + (i : Nat))) := fun H E i => by
  refine ⟨fun d hd => ?_, fun hl => by show n ≤ i; simpa using hl⟩
  rw [List.getElem?_map] at hd
  by_cases hi : i < n
  · rw [List.getElem?_range hi] at hd
    cases hd
    exact ⟨hi, fun x H' ⟨e1, e2⟩ => ⟨e1, by subst e2; exact .int _⟩⟩
  · rw [List.getElem?_eq_none (by simpa using hi)] at hd
    cases hd
theorem n_iter (hK : X.K = κ.K) (h : PE X e (tP κ W (PR κ) f)) : PI X tg e (tI κ W (eIter f)) := PI_weak (PI_or (pi_list h) (PI_or (pi_tup h) (pi_str h))) fun σ H Q ⟨ρ, H0, E, S, q⟩ => by
  have q' : FinI κ W σ H0 H ((f ρ).bind fun d => R.of (itemsD d)) Q := q
  rw [hK]
  cases r : f ρ with
  | ok d =>
    rw [r] at q'
    cases d with
    | lst ds =>
      refine .inl ⟨ρ, H0, E, S, ?_⟩
      rw [r]
      intro v H0' H' g p
      cases p with
      | lst ea ra => exact ⟨_, rfl, ⟨_, .of (g.c _ _ ea)⟩, q' _ _ _ g (itl_ok (.of ea) ra)⟩
    | scr ns =>
      refine .inl ⟨ρ, H0, E, S, ?_⟩
      rw [r]
      intro v H0' H' g p
      cases p with
      | scr hs => exact ⟨_, rfl, ⟨_, g.c.l hs⟩, q' _ _ _ g (itl_ok hs (Reps.ints ns))⟩
    | tup ds =>
      refine .inr (.inl ⟨ρ, H0, E, S, ?_⟩)
      rw [r]
      intro v H0' H' g p
      cases p with
      | tup ea ra => exact ⟨_, rfl, ⟨_, .of (g.c _ _ ea)⟩, q' _ _ _ g (itt_ok (.of ea) ra)⟩
    | str s =>
      refine .inr (.inr ⟨ρ, H0, E, S, ?_⟩)
      rw [r]
      intro v H0' H' g p
      cases p
      exact ⟨s, rfl, q' _ _ _ g its_ok⟩
    | _ => exact q'.elim
  | ex c vs =>
    rw [r] at q'
    exact .inl ⟨ρ, H0, E, S, by rw [r]; exact q'⟩
  | er => rw [r] at q'; exact q'.elim
/-- range(..) -/
def rngD : List D → Option (List D)
  | [.int j] => if -(2 ^ 62) ≤ j ∧ j < 2 ^ 62 then some ((List.range j.toNat).map fun i => .int ((0 : Int) + (i : Nat))) else none
  | [.int i, .int j] => if -(2 ^ 62) ≤ i ∧ i < 2 ^ 62 ∧ -(2 ^ 62) ≤ j ∧ j < 2 ^ 62 then some ((List.range (j - i).toNat).map fun k => .int (i + (k : Nat))) else none
  | _ => none
def eRng (fs : AV) : AV := fun ρ => (fs ρ).bind fun ds => R.of (rngD ds)
theorem finI_aBind {g : List D → R (List D)} {ρ : List B} {σ : L2.St} {H0 H : Hp} {Q : It → Hp → Prop} {PL : Hp → Hp → List V → List D → Prop} (E : Ex H0 H) (S : Slots κ H0 H σ ρ) (h : FinI κ W σ H0 H ((fs ρ).bind g) Q) :
    tA κ W PL fs σ H (fun vs H1 => ∃ H01 ds, Grow H0 H H01 H1 ∧ PL H01 H1 vs ds ∧ FinI κ W σ H01 H1 (g ds) Q) := by
  refine ⟨ρ, H0, E, S, ?_⟩
  cases e : fs ρ with
  | ok d => rw [e] at h; exact fun v a b k p => ⟨a, d, k, p, h.grow k⟩
  | ex c vs => rw [e] at h; exact h
  | er => rw [e] at h; exact h
theorem n_rng1 {p : Pos} (hg : Gl X "range") (hm : X.mg "range" = none) (ha : PA X [a] (tA κ W (PLR κ) fs)) (hs : starEach [a] X.env = [(false, eval a X.env)]) (h1 : ∀ ρ ds, fs ρ = .ok ds → ds.length = 1) : PI X tg (.Call (.Name "range" p) [a] [] pos) (tI κ W (eRng fs)) :=
  PI_weak (pi_range1 hg hm ha hs) fun σ H Q ⟨ρ, H0, E, S, q⟩ => by
    refine ⟨ρ, H0, E, S, ?_⟩
    have q : FinI κ W σ H0 H ((fs ρ).bind fun ds => R.of (rngD ds)) Q := q
    cases e : fs ρ with
    | ok ds =>
      have hl := h1 ρ ds e
      rw [e] at q
      intro vs H0' H' g r
      have q : FinI κ W σ H0 H (R.of (rngD ds)) Q := q
      unfold rngD at q
      split at q
      · split at q
        · rename_i hz
          cases r with
          | cons r r2 =>
            cases r; cases r2
            exact ⟨_, rfl, hz.1, hz.2, q _ _ _ g itr_ok⟩
        · exact q.elim
      · cases hl
      · exact q.elim
    | ex c vs => rw [e] at q; exact q
    | er => rw [e] at q; exact q
theorem n_rng2 {p : Pos} (hg : Gl X "range") (hm : X.mg "range" = none) (ha : PA X [a, b] (tA κ W (PLR κ) fs)) (hs : starEach [a, b] X.env = [(false, eval a X.env), (false, eval b X.env)]) (hs2 : starEach [b] X.env = [(false, eval b X.env)]) (h1 : ∀ ρ ds, fs ρ = .ok ds → ds.length = 2) :
    PI X tg (.Call (.Name "range" p) [a, b] [] pos) (tI κ W (eRng fs)) :=
  PI_weak (pi_range2 hg hm ha hs hs2) fun σ H Q ⟨ρ, H0, E, S, q⟩ => by
    refine ⟨ρ, H0, E, S, ?_⟩
    have q : FinI κ W σ H0 H ((fs ρ).bind fun ds => R.of (rngD ds)) Q := q
    cases e : fs ρ with
    | ok ds =>
      have hl := h1 ρ ds e
      rw [e] at q
      intro vs H0' H' g r
      have q : FinI κ W σ H0 H (R.of (rngD ds)) Q := q
      unfold rngD at q
      split at q
      · cases hl
      · split at q
        · rename_i hz
          cases r with
          | cons r r2 =>
            cases r2 with
            | cons r2 r3 =>
              cases r; cases r2; cases r3
              exact ⟨_, _, rfl, hz, q _ _ _ g itr_ok⟩
        · exact q.elim
      · exact q.elim
    | ex c vs => rw [e] at q; exact q
    | er => rw [e] at q; exact q

/-! ### targets -/
inductive Tgt where
  | nm (i : Nat) | tp (is : List Nat)
def Tgt.slots : Tgt → List Nat
  | .nm i => [i]
  | .tp is => is
def setAll : List Nat → List D → List B → Option (List B)
  | [], [], ρ => some ρ
  | i :: is, d :: ds, ρ => setAll is ds (ρ.set i (.fz d))
  | _, _, _ => none
def bindT : Tgt → D → List B → Option (List B)
  | .nm i, d, ρ => some (ρ.set i (.fz d))
  | .tp is, .tup ds, ρ => setAll is ds ρ
  | _, _, _ => none
/-- the owned slots stay -/
def OwS (ρ ρ' : List B) (σ σ' : L2.St) : Prop := ∀ (i : Nat) (d : D), ρ'[i]? = some (B.ow d) → ρ[i]? = some (B.ow d) ∧ σ'[i]? = σ[i]?
theorem OwS.trans {ρ ρ1 ρ2 : List B} {σ σ1 σ2 : L2.St} (a : OwS ρ ρ1 σ σ1) (b : OwS ρ1 ρ2 σ1 σ2) : OwS ρ ρ2 σ σ2 := fun i d h => by
  obtain ⟨h1, e1⟩ := b i d h
  obtain ⟨h2, e2⟩ := a i d h1
  exact ⟨h2, e1.trans e2⟩
theorem Slots.set {H0 H : Hp} {σ : L2.St} {ρ : List B} (S : Slots κ H0 H σ ρ) (i : Nat) {v : V} {d : D} (r : Rep κ H0 v d) : Slots κ H0 H (σ.set i (some v)) (ρ.set i (.fz d)) where
  len := by rw [List.length_set, List.length_set]; exact S.len
  fz := fun j d' h => by
    by_cases hj : i = j
    · subst hj
      by_cases hl : i < ρ.length
      · rw [List.getElem?_set_self hl] at h
        cases h
        exact ⟨v, by rw [List.getElem?_set_self (by rw [S.len]; exact hl)], r⟩
      · rw [List.getElem?_eq_none (by simpa using hl)] at h; cases h
    · rw [List.getElem?_set_ne hj] at h ⊢
      exact S.fz j d' h
  ow := fun j d' h => by
    by_cases hj : i = j
    · subst hj
      by_cases hl : i < ρ.length
      · rw [List.getElem?_set_self hl] at h
        cases h
      · rw [List.getElem?_eq_none (by simpa using hl)] at h; cases h
    · rw [List.getElem?_set_ne hj] at h ⊢
      exact S.ow j d' h
  ap := fun j k d' e' a hjk h1 h2 h3 h4 => by
    have key : ∀ (j : Nat) (d : D), (ρ.set i (B.fz d))[j]? = some (B.ow d') ∨ (ρ.set i (B.fz d))[j]? = some (B.ow e') → j ≠ i := fun j d h hj => by
      subst hj
      by_cases hl : j < ρ.length
      · rcases h with h | h <;> (rw [List.getElem?_set_self hl] at h; cases h)
      · rcases h with h | h <;> (rw [List.getElem?_eq_none (by simpa using hl)] at h; cases h)
    have n1 := key j _ (.inl h1)
    have n2 := key k _ (.inr h2)
    rw [List.getElem?_set_ne n1.symm] at h1 h3
    rw [List.getElem?_set_ne n2.symm] at h2 h4
    exact S.ap j k d' e' a hjk h1 h2 h3 h4
theorem ows_set {ρ : List B} {σ : L2.St} (i : Nat) (v : Option V) (b : B) (hb : ∀ d, b ≠ .ow d) : OwS ρ (ρ.set i b) σ (σ.set i v) := fun j d h => by
  have n1 : i ≠ j := fun hj => by
    subst hj
    by_cases hl : i < ρ.length
    · rw [List.getElem?_set_self hl] at h; exact hb d (Option.some.inj h)
    · rw [List.getElem?_eq_none (by simpa using hl)] at h; cases h
  rw [List.getElem?_set_ne n1] at h ⊢
  exact ⟨h, rfl⟩
theorem wipe_get {σ : L2.St} {i : Nat} : ∀ {vs : List Nat}, (wipe σ vs)[i]? = if i ∈ vs then (σ[i]?).map (fun _ => none) else σ[i]?
  | [] => by simp [wipe]
  | v :: vs => by
    show ((wipe σ vs).set v none)[i]? = _
    by_cases hv : v = i
    · subst hv
      simp only [List.mem_cons, true_or, if_true]
      by_cases hl : v < σ.length
      · rw [List.getElem?_set_self (by rw [wipe_length]; exact hl), List.getElem?_eq_getElem hl]; rfl
      · rw [List.getElem?_eq_none (by rw [List.length_set, wipe_length]; omega), List.getElem?_eq_none (by omega)]; rfl
    · rw [List.getElem?_set_ne hv, wipe_get (vs := vs)]
      have : (i ∈ v :: vs) = (i ∈ vs) := by simp [Ne.symm hv]
      simp only [this]
theorem wipe_set {σ : L2.St} {i : Nat} {x : Option V} {vs : List Nat} (h : i ∈ vs) : wipe (σ.set i x) vs = wipe σ vs := by
  apply List.ext_getElem?
  intro j
  rw [wipe_get, wipe_get]
  by_cases hj : i = j
  · subst hj
    rw [if_pos h, if_pos h]
    by_cases hl : i < σ.length
    · rw [List.getElem?_set_self hl, List.getElem?_eq_getElem hl]; rfl
    · rw [List.getElem?_eq_none (by simpa using hl), List.getElem?_eq_none (by omega)]
  · rw [List.getElem?_set_ne hj]
def WSame (is : List Nat) (σ σ' : L2.St) : Prop := ∀ vs, (∀ i ∈ is, i ∈ vs) → wipe σ' vs = wipe σ vs
def tG (κ : Kap) (t : Tgt) : TG := fun v σ H Q => ∃ ρ H0 d ρ', Ex H0 H ∧ Slots κ H0 H σ ρ ∧ Rep κ H0 v d ∧ bindT t d ρ = some ρ' ∧ ∀ σ', Slots κ H0 H σ' ρ' → OwS ρ ρ' σ σ' → WSame t.slots σ σ' → Q σ' H
def tGs (κ : Kap) (is : List Nat) : TGs := fun vs σ H Q => ∃ ρ H0 ds ρ', Ex H0 H ∧ Slots κ H0 H σ ρ ∧ Reps κ H0 vs ds ∧ setAll is ds ρ = some ρ' ∧ ∀ σ', Slots κ H0 H σ' ρ' → OwS ρ ρ' σ σ' → WSame is σ σ' → Q σ' H
theorem PG_weak {t t' : TG} (p : PG X e t) (h : ∀ v σ H Q, t' v σ H Q → t v σ H Q) : PG X e t' := ⟨fun pins s σ H v u Q I r q => p.run pins s σ H v u Q I r (h v σ H Q q)⟩
theorem PGs_weak {t t' : TGs} (p : PGs X es t) (h : ∀ v σ H Q, t' v σ H Q → t v σ H Q) : PGs X es t' := ⟨fun pins s σ H v u Q I r q => p.run pins s σ H v u Q I r (h v σ H Q q)⟩
theorem n_gName {i : Nat} {x : Str} (hN : X.N.Nodup) (hi : X.N[i]? = some x) (hx : Loc X.env.scope x) (hf : X.fn x = true ∨ X.env.scope.names.lookup x = some .local) : PG X (.Name x pos) (tG κ (.nm i)) :=
  PG_weak (pg_name hN hi hx hf) fun v σ H Q ⟨ρ, H0, d, ρ', E, S, r, hb, q⟩ => by
    cases hb
    exact q _ (S.set i r) (ows_set i _ _ (fun _ h => by cases h)) fun vs h => wipe_set (h i List.mem_cons_self)
theorem n_gsNil : PGs X [] (tGs κ []) := PGs_weak pgs_nil fun vs σ H Q ⟨ρ, H0, ds, ρ', E, S, r, hb, q⟩ => by
  cases r with
  | nil =>
    cases hb
    exact ⟨rfl, q σ S (fun _ _ h => ⟨h, rfl⟩) fun _ _ => rfl⟩
  | cons _ _ => cases hb
theorem n_gsCons {i : Nat} {is : List Nat} {x : Str} {p : Pos} (hN : X.N.Nodup) (hi : X.N[i]? = some x) (hx : Loc X.env.scope x) (hf : X.fn x = true ∨ X.env.scope.names.lookup x = some .local) (hr : PGs X es (tGs κ is))
    (hs : (assignEach (.Name x p :: es) X.env).map (·.2) = assign (.Name x p) X.env :: (assignEach es X.env).map (·.2)) : PGs X (.Name x p :: es) (tGs κ (i :: is)) :=
  PGs_weak (pgs_cons (pg_name hN hi hx hf) hr hs) fun vs σ H Q ⟨ρ, H0, ds, ρ', E, S, r, hb, q⟩ => by
    cases r with
    | nil => cases hb
    | cons r1 r2 =>
      refine ⟨_, _, rfl, ρ.set i (.fz _), H0, _, ρ', E, S.set i r1, r2, hb, fun σ' S' o w => q σ' S' ((ows_set i _ _ (fun _ h => by cases h)).trans o) fun vs h => ?_⟩
      rw [w vs fun j hj => h j (List.mem_cons_of_mem _ hj), wipe_set (h i List.mem_cons_self)]
theorem setAll_len : ∀ {is : List Nat} {ds : List D} {ρ ρ' : List B}, setAll is ds ρ = some ρ' → ds.length = is.length
  | [], [], _, _, _ => rfl
  | _ :: is, _ :: ds, ρ, ρ', h => by
    have := setAll_len (is := is) (ds := ds) h
    simp [this]
  | [], _ :: _, _, _, h => by cases h
  | _ :: _, [], _, _, h => by cases h
theorem n_gTup {k : Nat} {is : List Nat} (hK : X.K = κ.K) (hc : X.calm = true) (h : PGs X es (tGs κ is)) (hn : (assignEach es X.env).length = is.length) (hst : (assignEach es X.env).findIdx? (·.1) = none) : PG X (.Tuple es k pos) (tG κ (.tp is)) :=
  PG_weak (pg_tup (n := is.length) hc h hn hst) fun v σ H Q ⟨ρ, H0, d, ρ', E, S, r, hb, q⟩ => by
    rw [hK]
    cases d with
    | tup ds =>
      cases r with
      | tup ea ra =>
        exact ⟨_, _, rfl, .of (E _ _ ea), by rw [ra.length]; exact setAll_len hb, ρ, H0, ds, ρ', E, S, ra, hb, q⟩
    | _ => cases hb

/-! ### list comprehensions -/
def noX {α : Type} : R α → R α
  | .ok a => .ok a
  | _ => .er
def lcG (t : Tgt) (tt : List B → R Bool) (elt : EV) (ρ : List B) : List D → R (List D)
  | [] => .ok []
  | x :: xs => match bindT t x ρ with
    | none => .er
    | some ρ1 => (tt ρ1).bind fun b => match b with
      | true => (elt ρ1).bind fun y => (lcG t tt elt ρ xs).bind fun ys => .ok (y :: ys)
      | false => lcG t tt elt ρ xs
def wipeB (ρ : List B) : List Nat → List B
  | [] => ρ
  | v :: vs => (wipeB ρ vs).set v .no
def eLc (it : AV) (t : Tgt) (tt : List B → R Bool) (elt : EV) (vs : List Nat) : EV := fun ρ => (it ρ).bind fun ds => (noX (lcG t tt elt (wipeB ρ vs) ds)).bind fun ys => if ds.length < LIM then .ok (.lst ys) else .er
theorem Slots.clear {H0 H : Hp} {σ : L2.St} {ρ : List B} (S : Slots κ H0 H σ ρ) (i : Nat) (x : Option V) : Slots κ H0 H (σ.set i x) (ρ.set i .no) where
  len := by rw [List.length_set, List.length_set]; exact S.len
  fz := fun j d' h => by
    by_cases hj : i = j
    · subst hj
      by_cases hl : i < ρ.length
      · rw [List.getElem?_set_self hl] at h; cases h
      · rw [List.getElem?_eq_none (by simpa using hl)] at h; cases h
    · rw [List.getElem?_set_ne hj] at h ⊢
      exact S.fz j d' h
  ow := fun j d' h => by
    by_cases hj : i = j
    · subst hj
      by_cases hl : i < ρ.length
      · rw [List.getElem?_set_self hl] at h; cases h
      · rw [List.getElem?_eq_none (by simpa using hl)] at h; cases h
    · rw [List.getElem?_set_ne hj] at h ⊢
      exact S.ow j d' h
  ap := fun j k d' e' a hjk h1 h2 h3 h4 => by
    obtain ⟨h1', e1⟩ := ows_set (ρ := ρ) (σ := σ) i x B.no (fun _ h => by cases h) j d' h1
    obtain ⟨h2', e2⟩ := ows_set (ρ := ρ) (σ := σ) i x B.no (fun _ h => by cases h) k e' h2
    exact S.ap j k d' e' a hjk h1' h2' (e1 ▸ h3) (e2 ▸ h4)
theorem Slots.wipe {H0 H : Hp} {σ : L2.St} {ρ : List B} (S : Slots κ H0 H σ ρ) : ∀ vs : List Nat, Slots κ H0 H (L2.wipe σ vs) (wipeB ρ vs)
  | [] => S
  | v :: vs => (S.wipe vs).clear v none
theorem wipe_idem {σ : L2.St} {vs : List Nat} : L2.wipe (L2.wipe σ vs) vs = L2.wipe σ vs := by
  apply List.ext_getElem?
  intro j
  rw [wipe_get, wipe_get]
  by_cases h : j ∈ vs
  · rw [if_pos h, if_pos h]; cases σ[j]? <;> rfl
  · rw [if_neg h]
theorem noX_ok {α : Type} {r : R α} {a : α} (h : noX r = .ok a) : r = .ok a := by
  cases r with
  | ok b => exact h
  | ex c vs => cases h
  | er => cases h
/-- no exception leaves a comprehension's block -/
abbrev W0 : WX := fun _ _ _ _ => False
theorem lcG_cons {t : Tgt} {tt : List B → R Bool} {elt : EV} {ρ : List B} {x : D} {xs ys : List D} (h : lcG t tt elt ρ (x :: xs) = .ok ys) :
    ∃ ρ1, bindT t x ρ = some ρ1 ∧ ((∃ y zs, tt ρ1 = .ok true ∧ elt ρ1 = .ok y ∧ lcG t tt elt ρ xs = .ok zs ∧ ys = y :: zs) ∨ (tt ρ1 = .ok false ∧ lcG t tt elt ρ xs = .ok ys)) := by
  unfold lcG at h
  cases e1 : bindT t x ρ with
  | none => rw [e1] at h; cases h
  | some ρ1 =>
    rw [e1] at h
    have h : (tt ρ1).bind (fun b => match b with
      | true => (elt ρ1).bind fun y => (lcG t tt elt ρ xs).bind fun ys => .ok (y :: ys)
      | false => lcG t tt elt ρ xs) = .ok ys := h
    refine ⟨ρ1, rfl, ?_⟩
    cases e2 : tt ρ1 with
    | ok b =>
      rw [e2] at h
      cases b with
      | true =>
        have h : (elt ρ1).bind (fun y => (lcG t tt elt ρ xs).bind fun ys => .ok (y :: ys)) = .ok ys := h
        cases e3 : elt ρ1 with
        | ok y =>
          rw [e3] at h
          have h : (lcG t tt elt ρ xs).bind (fun ys => .ok (y :: ys)) = .ok ys := h
          cases e4 : lcG t tt elt ρ xs with
          | ok zs => rw [e4] at h; cases h; exact .inl ⟨y, zs, rfl, rfl, rfl, rfl⟩
          | ex c vs => rw [e4] at h; cases h
          | er => rw [e4] at h; cases h
        | ex c vs => rw [e3] at h; cases h
        | er => rw [e3] at h; cases h
      | false => exact .inr ⟨rfl, h⟩
    | ex c vs => rw [e2] at h; cases h
    | er => rw [e2] at h; cases h
theorem tLc_of {it : AV} {t : Tgt} {tt : List B → R Bool} {elt : EV} {vs : List Nat} (hv : ∀ i ∈ t.slots, i ∈ vs) {σ : L2.St} {H : Hp} {Q : VK} (h : tP κ W (PX κ) (eLc it t tt elt vs) σ H Q) :
    tLc (tI κ W it) (tG κ t) (tT κ W0 tt) (tP κ W0 (PR κ) elt) vs σ H Q := by
  obtain ⟨ρ, H0, E, S, q⟩ := h
  have q : Fin κ W (PX κ) σ H0 H ((it ρ).bind fun ds => (noX (lcG t tt elt (wipeB ρ vs) ds)).bind fun ys => if ds.length < LIM then .ok (.lst ys) else .er) Q := q
  refine ⟨ρ, H0, E, S, ?_⟩
  cases ei : it ρ with
  | ex c vs => rw [ei] at q; exact q
  | er => rw [ei] at q; exact q
  | ok ds =>
    rw [ei] at q
    have q : Fin κ W (PX κ) σ H0 H ((noX (lcG t tt elt (wipeB ρ vs) ds)).bind fun ys => if ds.length < LIM then .ok (.lst ys) else .er) Q := q
    cases el : noX (lcG t tt elt (wipeB ρ vs) ds) with
    | ex c vs' => exfalso; cases e5 : lcG t tt elt (wipeB ρ vs) ds <;> rw [e5] at el <;> cases el
    | er => rw [el] at q; exact q.elim
    | ok ys =>
      rw [el] at q
      have q : Fin κ W (PX κ) σ H0 H (if ds.length < LIM then .ok (.lst ys) else .er) Q := q
      by_cases hlim : ds.length < LIM
      · rw [if_pos hlim] at q
        have el := noX_ok el
        intro J H01 H1 g1 jok D hD
        -- the invariant
        refine ⟨fun i m H2 => m = ds.length - i ∧ i ≤ ds.length ∧ ∃ H02 us zs rest, Grow H01 H1 H02 H2 ∧ H02 D = none ∧ H2 D = some (.lst us) ∧ Reps κ H02 us zs ∧ zs.length ≤ i ∧ lcG t tt elt (wipeB ρ vs) (ds.drop i) = .ok rest ∧ zs ++ rest = ys,
          ⟨ds.length, by simp, Nat.zero_le _, H01, [], [], ys, ?_, g1.c.none hD, upd_same, .nil, Nat.le_refl _, el, rfl⟩, ?_⟩
        · exact Grow.own g1.c hD
        · rintro i m H2 ⟨rfl, hi, H02, us, zs, rest, g2, nD, eD, rz, lz, er, ez⟩
          by_cases hlt : i < ds.length
          · obtain ⟨hgo, hyl⟩ := (jok H2 (g2.a.trans g2.c) i).1 ds[i] (List.getElem?_eq_getElem hlt)
            rw [List.drop_eq_getElem_cons hlt] at er
            obtain ⟨ρ1, hb, hcase⟩ := lcG_cons er
            refine .inr ⟨hgo, fun H3 => i + 1 ≤ ds.length ∧ ∃ H02 us zs rest, Grow H01 H1 H02 H3 ∧ H02 D = none ∧ H3 D = some (.lst us) ∧ Reps κ H02 us zs ∧ zs.length ≤ i + 1 ∧ lcG t tt elt (wipeB ρ vs) (ds.drop (i + 1)) = .ok rest ∧ zs ++ rest = ys,
              fun H3 ⟨h1, h2⟩ => ⟨ds.length - (i + 1), by omega, rfl, h1, h2⟩, fun x H3 hy => ?_⟩
            obtain ⟨e3, rx⟩ := hyl x H3 hy
            subst e3
            have Sw := ((S.grow g1).grow g2).wipe vs
            refine ⟨wipeB ρ vs, H02, ds[i], ρ1, g2.c, Sw, rx.mono g2.a, hb, fun σ2 S2 _ ws => ⟨by rw [ws vs hv, wipe_idem], ρ1, H02, g2.c, S2, ?_⟩⟩
            rcases hcase with ⟨y, rest', e4, e5, e6, e7⟩ | ⟨e4, e6⟩
            · rw [e4]
              intro H03 H4 g3
              rw [if_pos rfl]
              refine ⟨ρ1, H03, g3.c, S2.grow g3, ?_⟩
              rw [e5]
              intro v H04 H5 g4 rv
              have g34 := g3.trans g4
              have eD5 : H5 D = some (.lst us) := g34.b _ _ eD
              have nD4 : H04 D = none := g34.d D _ eD nD
              refine ⟨us, eD5, by rw [lim_eq, rz.length]; omega, hlt, H04, us ++ [v], zs ++ [y], rest', ⟨g2.a.trans g34.a, fun p o hp => ?_, fun p o hp => ?_, fun p o hp hn => ?_⟩, nD4, upd_same, (rz.mono g34.a).append (.cons rv .nil), by simp; omega, e6, by rw [List.append_assoc, List.singleton_append, ← e7]; exact ez⟩
              · rw [upd_ne (ne_of_none hp hD)]; exact (g2.trans g34).b p o hp
              · rw [upd_ne (ne_of_none hp nD4)]; exact g4.c p o hp
              · exact (g2.trans g34).d p o hp hn
            · rw [e4]
              intro H03 H4 g3
              rw [if_neg Bool.false_ne_true]
              exact ⟨hlt, H03, us, zs, rest, g2.trans g3, g3.d D _ eD nD, g3.b _ _ eD, rz.mono g3.a, by omega, e6, ez⟩
          · have e : i = ds.length := by omega
            subst e
            refine .inl ⟨(jok H2 (g2.a.trans g2.c) ds.length).2 (Nat.le_refl _), ?_⟩
            rw [List.drop_length] at er
            cases er
            rw [List.append_nil] at ez
            subst ez
            refine q _ H02 H2 (g1.trans g2) ⟨D, rfl, g1.b.none hD, nD, us, eD, rz⟩
      · rw [if_neg hlim] at q; exact q.elim
end
end QY

/-! Comprehensions, calls, statements. -/
namespace QY
open PySem PySem.Spec PyProof.Rows L2

section
variable {X : Cx} {κ : Kap} {W : WX} {P : PP} {tg e a b : Expr} {es : List Expr} {f fa fb : EV} {fs : AV} {pos : Pos}
theorem n_tsNil : PTs X [] (tT κ W (fun _ => .ok true)) := ⟨fun pins s σ H Q I ⟨ρ, H0, E, S, q⟩ => pts_nil.run pins s σ H Q I (q _ _ (.refl E))⟩
theorem n_lc {elt iter : Expr} {ifs : List Expr} {scope : Scope} {own : List (Str × Nat)} {it : AV} {t : Tgt} {tt : List B → R Bool} (hc : X.calm = true) (hN : X.N.Nodup) (hi : PI X tg iter (tI κ W it)) (ok : BlkOk X.N X.env.scope scope own)
    (hg : ∀ (s : Shared) (H : Hp) (C : Addr) (cl : List (Str × Addr)) (fp : List Addr), PG (X.blk s H scope (compEnvC scope cl C X.env) fp) tg (tG κ t)) (ht : ∀ (s : Shared) (H : Hp) (C : Addr) (cl : List (Str × Addr)) (fp : List Addr), PTs (X.blk s H scope (compEnvC scope cl C X.env) fp) ifs (tT κ W0 tt))
    (he : ∀ (s : Shared) (H : Hp) (C : Addr) (cl : List (Str × Addr)) (fp : List Addr), PE (X.blk s H scope (compEnvC scope cl C X.env) fp) elt (tP κ W0 (PR κ) f)) (hs : ∀ x, foldedSetIterable iter X.env x = pure x) (hv : ∀ i ∈ t.slots, i ∈ own.map (·.2)) :
    PE X (.ListComp elt [⟨tg, iter, ifs, 0⟩] scope pos) (tP κ W (PX κ) (eLc it t tt f (own.map (·.2)))) := PE_weak (pe_lc hc hN hi ok hg ht he hs) fun _ _ _ h => tLc_of hv h

/-! ### own defs -/
def spD (κ : Kap) (fr : Bool) (n : Nat) (sem : List D → R D) : Sp := fun vs H Q E => ∃ H0 ds, Ex H0 H ∧ Reps κ H0 vs ds ∧ ds.length = n ∧ (match sem ds with
  | .ok d => ∀ v H0' H', Grow H0 H H0' H' → (if fr then PX κ H H0' H' v d else Rep κ H0' v d) → Q v H'
  | .ex c vs => ∀ dx H0' H', Grow H0 H H0' H' → ExD κ H0' dx vs → E (.ref (κ.exc c)) dx H'
  | .er => False)
theorem spD_len {fr : Bool} {n : Nat} {sem : List D → R D} {ps : List Str} (hp : ps.length = n) : ∀ vs H Q E, spD κ fr n sem vs H Q E → vs.length = ps.length := fun vs H Q E ⟨H0, ds, _, r, hl, _⟩ => by rw [r.length, hl, hp]
def PF (κ : Kap) (fr : Bool) : PP := fun Hs H0 H v d => if fr then PX κ Hs H0 H v d else Rep κ H0 v d
theorem pmF {fr : Bool} : PM (PF κ fr) := fun Hs Hs' H0 H v d e h => by
  cases fr with
  | true => exact pmX Hs Hs' H0 H v d e h
  | false => exact h
def eCall (n : Nat) (sem : List D → R D) (fs : AV) : EV := fun ρ => (fs ρ).bind fun ds => if ds.length = n then sem ds else .er
theorem call_weak {fr : Bool} {n : Nat} {sem : List D → R D} {σ : L2.St} {H : Hp} {Q : VK} (h : tP κ W (PF κ fr) (eCall n sem fs) σ H Q) : tCallS (spD κ fr n sem) (WE W) (tA κ W (PLR κ) fs) σ H Q := by
  obtain ⟨ρ, H0, E, S, q⟩ := h
  refine tA_mono (fun vs H1 z => ?_) (fin_aBind (PL := PLR κ) pmF E S q)
  obtain ⟨H01, ds, g, r, z⟩ := z
  by_cases hl : ds.length = n
  · rw [if_pos hl] at z
    refine ⟨H01, ds, g.c, r, hl, ?_⟩
    cases e : sem ds with
    | ok d => rw [e] at z; exact z
    | ex c vs => rw [e] at z; exact z
    | er => rw [e] at z; exact z
  · rw [if_neg hl] at z; exact z.elim
/-- a def of the module, as it stands in X -/
structure FnAt (X : Cx) (κ : Kap) (x : Str) (fr : Bool) (n : Nat) (sem : List D → R D) : Prop where
  ex : ∃ (f : Addr) (fd : FuncData) (ps : List Str) (k : Nat), FnOk X.prog X.w X.K X.mg X.base (L2.CX X.prog X.w) k f fd ps (spD κ fr n sem) ∧ Room k X.A ∧ X.mg x = some (.ref f) ∧ PySem.W.keepIn X.K (.ref f) = true ∧ Binds X.K fd ps []
theorem n_call {x : Str} {p : Pos} {fr : Bool} {n : Nat} {sem : List D → R D} (tk : Takes X W) (F : FnAt X κ x fr n sem) (hg : Gl X x) (ha : PA X (e :: es) (tA κ W (PLR κ) fs)) (hdb : (x == ("__debug__" : Str)) = false)
    (he : starEach (e :: es) X.env = (false, eval e X.env) :: starEach es X.env) (hpl : (backTo pos (starEach es X.env)).any (·.1) = false) : PE X (.Call (.Name x p) (e :: es) [] pos) (tP κ W (PF κ fr) (eCall n sem fs)) := by
  obtain ⟨f, fd, ps, k, F, hr, hm, hk, hb⟩ := F.ex
  exact PE_weak (pe_callS F hr hg hm hk hb (fun σ => passAt tk σ) ha hdb he hpl) fun _ _ _ h => call_weak h
theorem n_callX {x : Str} {p : Pos} {n : Nat} {sem : List D → R D} (tk : Takes X W) (F : FnAt X κ x true n sem) (hg : Gl X x) (ha : PA X (e :: es) (tA κ W (PLR κ) fs)) (hdb : (x == ("__debug__" : Str)) = false)
    (he : starEach (e :: es) X.env = (false, eval e X.env) :: starEach es X.env) (hpl : (backTo pos (starEach es X.env)).any (·.1) = false) : PE X (.Call (.Name x p) (e :: es) [] pos) (tP κ W (PX κ) (eCall n sem fs)) := n_call tk F hg ha hdb he hpl
theorem n_callR {x : Str} {p : Pos} {n : Nat} {sem : List D → R D} (tk : Takes X W) (F : FnAt X κ x false n sem) (hg : Gl X x) (ha : PA X (e :: es) (tA κ W (PLR κ) fs)) (hdb : (x == ("__debug__" : Str)) = false)
    (he : starEach (e :: es) X.env = (false, eval e X.env) :: starEach es X.env) (hpl : (backTo pos (starEach es X.env)).any (·.1) = false) : PE X (.Call (.Name x p) (e :: es) [] pos) (tP κ W (PR κ) (eCall n sem fs)) := n_call tk F hg ha hdb he hpl
end

/-! ### statements -/
inductive O where
  | nx (ρ : List B) | bk (ρ : List B) | ct (ρ : List B) | rt (d : D) (fr : Bool) | ex (c : Nat) (vs : List D) (ρ : List B) | er | rw (d : D) (ρ : List B)
abbrev SV := List B → O
structure SR (κ : Kap) (Hk Hin0 Hin H0 : Hp) (σ : L2.St) (H : Hp) (ρ : List B) : Prop where
  k : Ex Hk H0
  g : Grow Hin0 Hin H0 H
  s : Slots κ H0 H σ ρ
  z : ∀ (i : Nat) (d : D) (a : Addr), ρ[i]? = some (B.ow d) → σ[i]? = some (some (V.ref a)) → Hin a = none
def FinS (κ : Kap) (W : WX) (D : Ends) (Hk Hin0 Hin : Hp) : O → Prop
  | .nx ρ => ∀ σ H0 H, SR κ Hk Hin0 Hin H0 σ H ρ → D.nx σ H
  | .bk ρ => ∀ σ H0 H, SR κ Hk Hin0 Hin H0 σ H ρ → D.bk σ H
  | .ct ρ => ∀ σ H0 H, SR κ Hk Hin0 Hin H0 σ H ρ → D.ct σ H
  | .rt d fr => ∀ v H0 H, Grow Hin0 Hin H0 H → PF κ fr Hin H0 H v d → D.rt v H
  | .ex c vs ρ => ∀ σ H0 H dx, SR κ Hk Hin0 Hin H0 σ H ρ → ExD κ H0 dx vs → W (.ref (κ.exc c)) dx σ H
  | .rw d ρ => ∀ v σ H0 H, SR κ Hk Hin0 Hin H0 σ H ρ → Rep κ H0 v d → D.rt v H
  | .er => False
def tS (κ : Kap) (W : WX) (f : SV) : TS := fun D σ H => ∃ ρ Hk Hin0 Hin H0, SR κ Hk Hin0 Hin H0 σ H ρ ∧ FinS κ W D Hk Hin0 Hin (f ρ)
def sE (f : EV) (o : D → SV) : SV := fun ρ => match f ρ with
  | .ok d => o d ρ
  | .ex c vs => .ex c vs ρ
  | .er => .er
def sT (f : List B → R Bool) (o : Bool → SV) : SV := fun ρ => match f ρ with
  | .ok d => o d ρ
  | .ex c vs => .ex c vs ρ
  | .er => .er
def sA (f : AV) (o : List D → SV) : SV := fun ρ => match f ρ with
  | .ok d => o d ρ
  | .ex c vs => .ex c vs ρ
  | .er => .er
section
variable {X : Cx} {κ : Kap} {W : WX} {P : PP} {tg e a b : Expr} {es : List Expr} {f fa fb : EV} {fs : AV} {pos : Pos} {D : Ends} {Hk Hin0 Hin H0 H H01 H1 : Hp} {σ : L2.St} {ρ : List B} {st : Stmt} {sts : List Stmt} {s u : SV}
theorem SR.grow (S : SR κ Hk Hin0 Hin H0 σ H ρ) (g : Grow H0 H H01 H1) : SR κ Hk Hin0 Hin H01 σ H1 ρ := ⟨S.k.trans g.a, S.g.trans g, S.s.grow g, S.z⟩
theorem SR.weakK {Hk' : Hp} (k : Ex Hk Hk') (S : SR κ Hk' Hin0 Hin H0 σ H ρ) : SR κ Hk Hin0 Hin H0 σ H ρ := ⟨k.trans S.k, S.g, S.s, S.z⟩
theorem FinS.weakK {Hk' : Hp} {o : O} (k : Ex Hk Hk') (h : FinS κ W D Hk Hin0 Hin o) : FinS κ W D Hk' Hin0 Hin o := by
  cases o with
  | nx ρ => exact fun σ a b S => h σ a b (S.weakK k)
  | bk ρ => exact fun σ a b S => h σ a b (S.weakK k)
  | ct ρ => exact fun σ a b S => h σ a b (S.weakK k)
  | rt d fr => exact h
  | ex c vs ρ => exact fun σ a b dx S => h σ a b dx (S.weakK k)
  | rw d ρ => exact fun v σ a b S => h v σ a b (S.weakK k)
  | er => exact h
theorem SE_of {o : QY.D → SV} (S : SR κ Hk Hin0 Hin H0 σ H ρ) (h : FinS κ W D Hk Hin0 Hin (sE f o ρ)) : tP κ W P f σ H (fun v H1 => ∃ H01 d, Grow H0 H H01 H1 ∧ P H H01 H1 v d ∧ SR κ Hk Hin0 Hin H01 σ H1 ρ ∧ FinS κ W D Hk Hin0 Hin (o d ρ)) := by
  refine ⟨ρ, H0, S.g.c, S.s, ?_⟩
  unfold sE at h
  cases e : f ρ with
  | ok d => rw [e] at h; exact fun v a b g p => ⟨a, d, g, p, S.grow g, h⟩
  | ex c vs => rw [e] at h; exact fun dx a b g p => h σ a b dx (S.grow g) p
  | er => rw [e] at h; exact h
theorem ST_of {f : List B → R Bool} {o : Bool → SV} (S : SR κ Hk Hin0 Hin H0 σ H ρ) (h : FinS κ W D Hk Hin0 Hin (sT f o ρ)) : tT κ W f σ H (fun b H1 => ∃ H01, Grow H0 H H01 H1 ∧ SR κ Hk Hin0 Hin H01 σ H1 ρ ∧ FinS κ W D Hk Hin0 Hin (o b ρ)) := by
  refine ⟨ρ, H0, S.g.c, S.s, ?_⟩
  unfold sT at h
  cases e : f ρ with
  | ok d => rw [e] at h; exact fun a b g => ⟨a, g, S.grow g, h⟩
  | ex c vs => rw [e] at h; exact fun dx a b g p => h σ a b dx (S.grow g) p
  | er => rw [e] at h; exact h
theorem tP_mono {Q Q' : VK} (q : ∀ v H, Q v H → Q' v H) (h : tP κ W P f σ H Q) : tP κ W P f σ H Q' := by
  obtain ⟨ρ, H0, E, S, z⟩ := h
  exact ⟨ρ, H0, E, S, z.mono q⟩
theorem tT_mono {f : List B → R Bool} {Q Q' : Bool → Hp → Prop} (q : ∀ v H, Q v H → Q' v H) (h : tT κ W f σ H Q) : tT κ W f σ H Q' := by
  obtain ⟨ρ, H0, E, S, z⟩ := h
  exact ⟨ρ, H0, E, S, z.monoQ q⟩
/-! freezing -/
def frz (ρ : List B) (i : Nat) : List B := match ρ[i]? with
  | some (.ow d) => ρ.set i (.fz d)
  | _ => ρ
def frzs : List Nat → List B → List B
  | [], ρ => ρ
  | i :: is, ρ => frzs is (frz ρ i)
theorem SR.frz (S : SR κ Hk Hin0 Hin H0 σ H ρ) (i : Nat) : ∃ H0', SR κ Hk Hin0 Hin H0' σ H (frz ρ i) := by
  unfold QY.frz
  split
  · rename_i d hd
    obtain ⟨a, hs, n0, o⟩ := S.s.ow i d hd
    obtain ⟨w, hw⟩ := o.sm
    rw [hw] at o
    have hi : i < ρ.length := (List.getElem?_eq_some_iff.mp hd).1
    have hin := S.z i d a hd hs
    have e1 : Ex H0 (upd H0 a w) := Ex.new n0
    have key : ∀ (j : Nat) (d' : QY.D), (ρ.set i (B.fz d))[j]? = some (B.ow d') → j ≠ i ∧ ρ[j]? = some (B.ow d') := fun j d' h => by
      have hj : j ≠ i := fun z => by
        subst z
        rw [List.getElem?_set_self hi] at h
        cases h
      rw [List.getElem?_set_ne hj.symm] at h
      exact ⟨hj, h⟩
    refine ⟨upd H0 a w, S.k.trans e1, ⟨S.g.a.trans e1, S.g.b, fun p q hp => ?_, fun p q hp hn => ?_⟩, ⟨by rw [List.length_set]; exact S.s.len, fun j d' h => ?_, fun j d' h => ?_, fun j k d' e' b hjk h1 h2 h3 h4 => ?_⟩, fun j d' b h h2 => ?_⟩
    · rcases upd_some hp with ⟨rfl, rfl⟩ | ⟨_, hp⟩
      · exact hw
      · exact S.g.c p q hp
    · rw [upd_ne (ne_of_none hp hin)]
      exact S.g.d p q hp hn
    · by_cases hj : i = j
      · subst hj
        rw [List.getElem?_set_self hi] at h
        cases h
        exact ⟨_, hs, o.rep n0⟩
      · rw [List.getElem?_set_ne hj] at h
        obtain ⟨v, h1, h2⟩ := S.s.fz j d' h
        exact ⟨v, h1, h2.mono e1⟩
    · obtain ⟨hj, h'⟩ := key j d' h
      obtain ⟨b, h1, h2, h3⟩ := S.s.ow j d' h'
      refine ⟨b, h1, ?_, h3.mono e1⟩
      rw [upd_ne fun z => S.s.ap j i d' d b hj h' hd h1 (by rw [z]; exact hs)]
      exact h2
    · exact S.s.ap j k d' e' b hjk (key j d' h1).2 (key k e' h2).2 h3 h4
    · exact S.z j d' b (key j d' h).2 h2
  · exact ⟨H0, S⟩
theorem SR.frzs : ∀ (is : List Nat) {ρ : List B} {H0 : Hp} (S : SR κ Hk Hin0 Hin H0 σ H ρ), ∃ H0', SR κ Hk Hin0 Hin H0' σ H (frzs is ρ)
  | [], ρ, H0, S => ⟨H0, S⟩
  | i :: is, ρ, H0, S => by
    obtain ⟨H0', S'⟩ := S.frz i
    exact SR.frzs is S'
def sFz (is : List Nat) (s : SV) : SV := fun ρ => s (frzs is ρ)
theorem n_fz (is : List Nat) (h : PS X st (tS κ W s)) : PS X st (tS κ W (sFz is s)) := PS_weak h fun D σ H ⟨ρ, Hk, Hin0, Hin, H0, S, q⟩ => by
  obtain ⟨H0', S'⟩ := S.frzs is
  exact ⟨_, Hk, Hin0, Hin, H0', S', q⟩
/-! stores -/
theorem SR.set (S : SR κ Hk Hin0 Hin H0 σ H ρ) (i : Nat) {v : V} {d : QY.D} (r : Rep κ H0 v d) : SR κ Hk Hin0 Hin H0 (σ.set i (some v)) H (ρ.set i (.fz d)) :=
  ⟨S.k, S.g, S.s.set i r, fun j d' a h h2 => by
    obtain ⟨h1, e1⟩ := ows_set (ρ := ρ) (σ := σ) i (some v) (B.fz d) (fun _ h => by cases h) j d' h
    exact S.z j d' a h1 (e1 ▸ h2)⟩
theorem SR.clear (S : SR κ Hk Hin0 Hin H0 σ H ρ) (i : Nat) (x : Option V) : SR κ Hk Hin0 Hin H0 (σ.set i x) H (ρ.set i .no) :=
  ⟨S.k, S.g, S.s.clear i x, fun j d' a h h2 => by
    obtain ⟨h1, e1⟩ := ows_set (ρ := ρ) (σ := σ) i x B.no (fun _ h => by cases h) j d' h
    exact S.z j d' a h1 (e1 ▸ h2)⟩
theorem SR.bind {σ' : L2.St} {ρ' : List B} (S : SR κ Hk Hin0 Hin H0 σ H ρ) (S' : Slots κ H0 H σ' ρ') (o : OwS ρ ρ' σ σ') : SR κ Hk Hin0 Hin H0 σ' H ρ' :=
  ⟨S.k, S.g, S', fun j d' a h h2 => by
    obtain ⟨h1, e1⟩ := o j d' h
    exact S.z j d' a h1 (e1 ▸ h2)⟩
/-- a new owned thing -/
theorem SR.own (S : SR κ Hk Hin0 Hin H0 σ H ρ) (i : Nat) {a : Addr} {d : QY.D} (hn : ∀ (j : Nat) (d' : QY.D), j ≠ i → ρ[j]? = some (B.ow d') → σ[j]? ≠ some (some (V.ref a))) (n0 : H0 a = none) (nin : Hin a = none) (o : Own κ H0 a (H a) d) :
    SR κ Hk Hin0 Hin H0 (σ.set i (some (.ref a))) H (ρ.set i (.ow d)) := by
  have key : ∀ (j : Nat) (d' : QY.D), (ρ.set i (B.ow d))[j]? = some (B.ow d') → (j = i ∧ i < ρ.length ∧ d' = d) ∨ (j ≠ i ∧ ρ[j]? = some (B.ow d')) := fun j d' h => by
    by_cases hj : i = j
    · subst hj
      by_cases hl : i < ρ.length
      · rw [List.getElem?_set_self hl] at h
        cases h
        exact .inl ⟨rfl, hl, rfl⟩
      · rw [List.getElem?_eq_none (by simpa using hl)] at h; cases h
    · rw [List.getElem?_set_ne hj] at h
      exact .inr ⟨Ne.symm hj, h⟩
  refine ⟨S.k, S.g, ⟨by rw [List.length_set, List.length_set]; exact S.s.len, fun j d' h => ?_, fun j d' h => ?_, fun j k d' e' b hjk h1 h2 h3 h4 => ?_⟩, fun j d' b h h2 => ?_⟩
  · by_cases hj : i = j
    · subst hj
      by_cases hl : i < ρ.length
      · rw [List.getElem?_set_self hl] at h; cases h
      · rw [List.getElem?_eq_none (by simpa using hl)] at h; cases h
    · rw [List.getElem?_set_ne hj] at h ⊢
      exact S.s.fz j d' h
  · rcases key j d' h with ⟨rfl, hl, rfl⟩ | ⟨hj, h⟩
    · exact ⟨a, List.getElem?_set_self (by rw [S.s.len]; exact hl), n0, o⟩
    · rw [List.getElem?_set_ne hj.symm]
      exact S.s.ow j d' h
  · rcases key j d' h1 with ⟨ej, hl, _⟩ | ⟨hj, k1⟩
    · rcases key k e' h2 with ⟨ek, _, _⟩ | ⟨hk, k2⟩
      · exact hjk (ej.trans ek.symm)
      · rw [ej, List.getElem?_set_self (by rw [S.s.len]; exact hl)] at h3
        cases h3
        rw [List.getElem?_set_ne hk.symm] at h4
        exact hn k e' hk k2 h4
    · rcases key k e' h2 with ⟨ek, hl, _⟩ | ⟨hk, k2⟩
      · rw [ek, List.getElem?_set_self (by rw [S.s.len]; exact hl)] at h4
        cases h4
        rw [List.getElem?_set_ne hj.symm] at h3
        exact hn j d' hj k1 h3
      · rw [List.getElem?_set_ne hj.symm] at h3
        rw [List.getElem?_set_ne hk.symm] at h4
        exact S.s.ap j k d' e' b hjk k1 k2 h3 h4
  · rcases key j d' h with ⟨rfl, hl, _⟩ | ⟨hj, h⟩
    · rw [List.getElem?_set_self (by rw [S.s.len]; exact hl)] at h2
      cases h2
      exact nin
    · rw [List.getElem?_set_ne hj.symm] at h2
      exact S.z j d' b h h2
/-- an owned thing changes -/
theorem SR.mut (S : SR κ Hk Hin0 Hin H0 σ H ρ) {i : Nat} {a : Addr} {d d' : QY.D} {w : HO} (hd : ρ[i]? = some (B.ow d)) (hs : σ[i]? = some (some (V.ref a))) (o : Own κ H0 a (some w) d') :
    SR κ Hk Hin0 Hin H0 σ (upd H a w) (ρ.set i (.ow d')) := by
  obtain ⟨a', hs', n0, o0⟩ := S.s.ow i d hd
  rw [hs] at hs'
  cases hs'
  have hin := S.z i d a hd hs
  have hi : i < ρ.length := (List.getElem?_eq_some_iff.mp hd).1
  have key : ∀ (j : Nat) (d1 : QY.D), (ρ.set i (B.ow d'))[j]? = some (B.ow d1) → (j = i ∧ d1 = d') ∨ (j ≠ i ∧ ρ[j]? = some (B.ow d1)) := fun j d1 h => by
    by_cases hj : i = j
    · subst hj
      rw [List.getElem?_set_self hi] at h
      cases h
      exact .inl ⟨rfl, rfl⟩
    · rw [List.getElem?_set_ne hj] at h
      exact .inr ⟨Ne.symm hj, h⟩
  have wasow : ∀ (j : Nat) (d1 : QY.D), (ρ.set i (B.ow d'))[j]? = some (B.ow d1) → ∃ d2, ρ[j]? = some (B.ow d2) := fun j d1 h => by
    rcases key j d1 h with ⟨rfl, _⟩ | ⟨_, h⟩
    · exact ⟨d, hd⟩
    · exact ⟨d1, h⟩
  refine ⟨S.k, ⟨S.g.a, fun p q hp => ?_, fun p q hp => ?_, S.g.d⟩, ⟨by rw [List.length_set]; exact S.s.len, fun j d1 h => ?_, fun j d1 h => ?_, fun j k d1 e1 b hjk h1 h2 h3 h4 => ?_⟩, fun j d1 b h h2 => ?_⟩
  · rw [upd_ne (ne_of_none hp hin)]; exact S.g.b p q hp
  · rw [upd_ne (ne_of_none hp n0)]; exact S.g.c p q hp
  · by_cases hj : i = j
    · subst hj
      rw [List.getElem?_set_self hi] at h; cases h
    · rw [List.getElem?_set_ne hj] at h
      exact S.s.fz j d1 h
  · rcases key j d1 h with ⟨rfl, rfl⟩ | ⟨hj, h⟩
    · exact ⟨a, hs, n0, by rw [upd_same]; exact o⟩
    · obtain ⟨b, h1, h2, h3⟩ := S.s.ow j d1 h
      refine ⟨b, h1, h2, ?_⟩
      rw [upd_ne fun z => S.s.ap j i d1 d b hj h hd h1 (by rw [z]; exact hs)]
      exact h3
  · obtain ⟨d2, k1⟩ := wasow j d1 h1
    obtain ⟨d3, k2⟩ := wasow k e1 h2
    exact S.s.ap j k d2 d3 b hjk k1 k2 h3 h4
  · obtain ⟨d2, k1⟩ := wasow j d1 h
    exact S.z j d2 b k1 h2
/-- the slot of a value that a new list takes -/
def bX (d : QY.D) : B := match d with
  | .lst ds => .ow (.lst ds)
  | .dct ks vs => .ow (.dct ks vs)
  | .dat b ks vs => .ow (.dat b ks vs)
  | d => .fz d
def sSet (i : Nat) (f : EV) : SV := sE f fun d ρ => .nx (ρ.set i (.fz d))
def sSetX (i : Nat) (f : EV) : SV := sE f fun d ρ => .nx (ρ.set i (bX d))
theorem SR.setX {v : V} {d : QY.D} (S : SR κ Hk Hin0 Hin H0 σ H ρ) (g : Grow H0 H H01 H1) (p : PX κ H H01 H1 v d) (i : Nat) : SR κ Hk Hin0 Hin H01 (σ.set i (some v)) H1 (ρ.set i (bX d)) := by
  have S1 := S.grow g
  cases d with
  | lst ds =>
    obtain ⟨a, rfl, hn, n0, o⟩ := p
    refine S1.own i (fun j d' hj h1 h2 => ?_) n0 (S.g.b.none hn) o
    obtain ⟨a', h3, h4, h5⟩ := S.s.ow j d' h1
    rw [h2] at h3
    cases h3
    obtain ⟨u, hu⟩ := h5.sm
    rw [hu] at hn
    cases hn
  | dct ks vs =>
    obtain ⟨a, rfl, hn, n0, o⟩ := p
    refine S1.own i (fun j d' hj h1 h2 => ?_) n0 (S.g.b.none hn) o
    obtain ⟨a', h3, h4, h5⟩ := S.s.ow j d' h1
    rw [h2] at h3
    cases h3
    obtain ⟨u, hu⟩ := h5.sm
    rw [hu] at hn
    cases hn
  | dat b0 ks vs =>
    obtain ⟨a, rfl, hn, n0, o⟩ := p
    refine S1.own i (fun j d' hj h1 h2 => ?_) n0 (S.g.b.none hn) o
    obtain ⟨a', h3, h4, h5⟩ := S.s.ow j d' h1
    rw [h2] at h3
    cases h3
    obtain ⟨u, hu⟩ := h5.sm
    rw [hu] at hn
    cases hn
  | _ => exact S1.set i p
theorem asg_X {i : Nat} {D : Ends} (h : tS κ W (sSetX i f) D σ H) : tP κ W (PX κ) f σ H (fun x H1 => gName i x σ H1 D.nx) := by
  obtain ⟨ρ, Hk, Hin0, Hin, H0, S, q⟩ := h
  refine tP_mono (fun v H1 z => ?_) (SE_of (P := PX κ) S q)
  obtain ⟨H01, d, g, p, _, z⟩ := z
  exact z _ _ _ (S.setX g p i)
theorem n_setX {i : Nat} {x : Str} {p : Pos} (hN : X.N.Nodup) (hi : X.N[i]? = some x) (hx : Loc X.env.scope x) (he : PE X e (tP κ W (PX κ) f)) (hs : swapsWith e (some (.Name x p)) pos.line X.env = pure false) (hf : X.fn x = true ∨ X.env.scope.names.lookup x = some .local) :
    PS X (.Assign [.Name x p] e pos) (tS κ W (sSetX i f)) := PS_weak (ps_set hN hi hx he hs hf) fun _ _ _ h => asg_X h
theorem n_setR {i : Nat} {x : Str} {p : Pos} (hN : X.N.Nodup) (hi : X.N[i]? = some x) (hx : Loc X.env.scope x) (he : PE X e (tP κ W (PR κ) f)) (hs : swapsWith e (some (.Name x p)) pos.line X.env = pure false) (hf : X.fn x = true ∨ X.env.scope.names.lookup x = some .local) :
    PS X (.Assign [.Name x p] e pos) (tS κ W (sSet i f)) := PS_weak (ps_set hN hi hx he hs hf) fun D σ H ⟨ρ, Hk, Hin0, Hin, H0, S, q⟩ =>
  tP_mono (fun v H1 ⟨H01, d, g, p, S1, z⟩ => z _ _ _ (S1.set i p)) (SE_of (P := PR κ) S q)
theorem n_setLc {i : Nat} {y : Str} {py spos : Pos} {elt iter : Expr} {ifs : List Expr} {scope : Scope} {own : List (Str × Nat)} {it : AV} {t : Tgt} {tt : List B → R Bool} (hc : X.calm = true) (hN : X.N.Nodup) (hy : X.N[i]? = some y) (hyl : X.env.scope.names.lookup y = some .local)
    (hsw : swapsWith (.ListComp elt [⟨tg, iter, ifs, 0⟩] scope pos) (some (.Name y py)) spos.line X.env = pure true) (hi : PI X tg iter (tI κ W it)) (ok : BlkOk X.N X.env.scope scope own)
    (hg : ∀ (s : Shared) (H : Hp) (C : Addr) (cl : List (Str × Addr)) (fp : List Addr), PG (X.blk s H scope (compEnvC scope cl C X.env) fp) tg (tG κ t)) (ht : ∀ (s : Shared) (H : Hp) (C : Addr) (cl : List (Str × Addr)) (fp : List Addr), PTs (X.blk s H scope (compEnvC scope cl C X.env) fp) ifs (tT κ W0 tt))
    (he : ∀ (s : Shared) (H : Hp) (C : Addr) (cl : List (Str × Addr)) (fp : List Addr), PE (X.blk s H scope (compEnvC scope cl C X.env) fp) elt (tP κ W0 (PR κ) f)) (hs : ∀ x, foldedSetIterable iter X.env x = pure x) (hv : ∀ j ∈ t.slots, j ∈ own.map (·.2)) :
    PS X (.Assign [.Name y py] (.ListComp elt [⟨tg, iter, ifs, 0⟩] scope pos) spos) (tS κ W (sSetX i (eLc it t tt f (own.map (·.2))))) :=
  PS_weak (ps_setLc hc hN hy hyl hsw hi ok hg ht he hs) fun _ _ _ h => tLc_of hv (asg_X h)
/-- a, b, .. = e -/
def sTup (is : List Nat) (f : EV) : SV := sE f fun d ρ => match bindT (.tp is) d ρ with
  | some ρ' => .nx ρ'
  | none => .er
theorem n_setT {k : Nat} {p : Pos} {is : List Nat} (he : PE X e (tP κ W (PR κ) f)) (hg : PG X (.Tuple es k p) (tG κ (.tp is))) (hs : swapsWithSole [.Tuple es k p] e pos.line X.env = pure false) (hw : swappedStores [.Tuple es k p] e X.env = pure none)
    (h1 : (assignEach [.Tuple es k p] X.env).map (·.2) = [assign (.Tuple es k p) X.env]) : PS X (.Assign [.Tuple es k p] e pos) (tS κ W (sTup is f)) := PS_weak (ps_asg he hg hs hw h1) fun D σ H ⟨ρ, Hk, Hin0, Hin, H0, S, q⟩ =>
  tP_mono (fun v H1 ⟨H01, d, g, p, S1, z⟩ => by
    cases e : bindT (.tp is) d ρ with
    | none => rw [e] at z; exact z.elim
    | some ρ' =>
      rw [e] at z
      exact ⟨ρ, H01, d, ρ', S1.g.c, S1.s, p, e, fun σ' S' o _ => z _ _ _ (S1.bind S' o)⟩) (SE_of (P := PR κ) S q)
/-! small statements, blocks -/
def sNx : SV := fun ρ => .nx ρ
def sSeq (s u : SV) : SV := fun ρ => match s ρ with
  | .nx ρ' => u ρ'
  | o => o
theorem n_nil : PSs X [] (tS κ W sNx) := PSs_weak pss_nil fun D σ H ⟨ρ, Hk, Hin0, Hin, H0, S, q⟩ => q _ _ _ S
theorem n_cons (h : PS X st (tS κ W s)) (hr : PSs X sts (tS κ W u)) : PSs X (st :: sts) (tS κ W (sSeq s u)) := PSs_weak (pss_cons h hr) fun D σ H ⟨ρ, Hk, Hin0, Hin, H0, S, q⟩ => by
  refine ⟨ρ, Hk, Hin0, Hin, H0, S, ?_⟩
  unfold sSeq at q
  cases e : s ρ with
  | nx ρ' => rw [e] at q; exact fun σ' H0' H' S' => ⟨ρ', Hk, Hin0, Hin, H0', S', q⟩
  | bk ρ' => rw [e] at q; exact q
  | ct ρ' => rw [e] at q; exact q
  | rt d fr => rw [e] at q; exact q
  | rw d ρ' => rw [e] at q; exact q
  | ex c vs ρ' => rw [e] at q; exact q
  | er => rw [e] at q; exact q
theorem n_pass : PS X (.Pass pos) (tS κ W sNx) := PS_weak ps_pass fun D σ H ⟨ρ, Hk, Hin0, Hin, H0, S, q⟩ => q _ _ _ S
def sBk : SV := fun ρ => .bk ρ
def sCt : SV := fun ρ => .ct ρ
theorem n_break : PS X (.Break pos) (tS κ W sBk) := PS_weak ps_break fun D σ H ⟨ρ, Hk, Hin0, Hin, H0, S, q⟩ => q _ _ _ S
theorem n_cont : PS X (.Continue pos) (tS κ W sCt) := PS_weak ps_continue fun D σ H ⟨ρ, Hk, Hin0, Hin, H0, S, q⟩ => q _ _ _ S
theorem n_doc {x : Str} {j : Nat} {pos' : Pos} : PS X (.Expr (.Constant (.str x) j pos) pos') (tS κ W sNx) := PS_weak ps_doc fun D σ H ⟨ρ, Hk, Hin0, Hin, H0, S, q⟩ => q _ _ _ S
def sDrop (f : EV) : SV := sE f fun _ ρ => .nx ρ
theorem n_drop (he : PE X e (tP κ W (PR κ) f)) (hs : swapsWith e none pos.line X.env = pure false) : PS X (.Expr e pos) (tS κ W (sDrop f)) := PS_weak (ps_expr he hs) fun D σ H ⟨ρ, Hk, Hin0, Hin, H0, S, q⟩ =>
  tP_mono (fun v H1 ⟨H01, d, g, p, S1, z⟩ => z _ _ _ S1) (SE_of (P := PR κ) S q)
def sRet (f : EV) : SV := sE f fun d _ => .rt d false
def sRetX (f : EV) : SV := sE f fun d _ => .rt d true
def sRetN : SV := fun _ => .rt .non false
theorem n_ret (he : PE X e (tP κ W (PR κ) f)) : PS X (.Return (some e) pos) (tS κ W (sRet f)) := PS_weak (ps_ret he) fun D σ H ⟨ρ, Hk, Hin0, Hin, H0, S, q⟩ =>
  tP_mono (fun v H1 ⟨H01, d, g, p, S1, z⟩ => z v H01 H1 S1.g p) (SE_of (P := PR κ) S q)
theorem n_retX (he : PE X e (tP κ W (PX κ) f)) : PS X (.Return (some e) pos) (tS κ W (sRetX f)) := PS_weak (ps_ret he) fun D σ H ⟨ρ, Hk, Hin0, Hin, H0, S, q⟩ =>
  tP_mono (fun v H1 ⟨H01, d, g, p, S1, z⟩ => z v H01 H1 S1.g (pmX _ _ _ _ _ _ S.g.b p)) (SE_of (P := PX κ) S q)
theorem n_retN : PS X (.Return none pos) (tS κ W sRetN) := PS_weak ps_retN fun D σ H ⟨ρ, Hk, Hin0, Hin, H0, S, q⟩ => q _ H0 H S.g .non
/-- return x: handed over -/
def sRetV (i : Nat) : SV := fun ρ => match ρ[i]? with
  | some (.fz d) => .rt d false
  | some (.ow d) => .rt d true
  | _ => .er
theorem n_retV {i : Nat} {x : Str} {p : Pos} (hN : X.N[i]? = some x) (hv : Vis X.env.scope x) (h1 : (x == ("__debug__" : Str)) = false) (h2 : (x == ("__classdict__" : Str)) = false) : PS X (.Return (some (.Name x p)) pos) (tS κ W (sRetV i)) :=
  PS_weak (ps_ret (pe_var hN hv h1 h2)) fun D σ H ⟨ρ, Hk, Hin0, Hin, H0, S, q⟩ => by
    unfold sRetV at q
    split at q
    · rename_i d hd
      obtain ⟨v, hs, r⟩ := S.s.fz i d hd
      exact ⟨v, hs, q v H0 H S.g r⟩
    · rename_i d hd
      obtain ⟨a, hs, n, o⟩ := S.s.ow i d hd
      refine ⟨_, hs, q _ H0 H S.g ?_⟩
      cases d with
      | lst ds => exact ⟨a, rfl, S.z i _ a hd hs, n, o⟩
      | dct ks vs => exact ⟨a, rfl, S.z i _ a hd hs, n, o⟩
      | dat b ks vs => exact ⟨a, rfl, S.z i _ a hd hs, n, o⟩
      | _ => exact o.elim
    · exact q.elim
def sIf (t : List B → R Bool) (s u : SV) : SV := sT t fun b => match b with
  | true => s
  | false => u
theorem n_ifS {c : Expr} {p q : List Stmt} {t : List B → R Bool} (hc : PT X c (tT κ W t)) (ha : PSs X p (tS κ W s)) (hb : PSs X q (tS κ W u)) : PS X (.If c p q pos) (tS κ W (sIf t s u)) := PS_weak (ps_if hc ha hb) fun D σ H ⟨ρ, Hk, Hin0, Hin, H0, S, q⟩ =>
  tT_mono (fun b H1 ⟨H01, g, S1, z⟩ => by
    cases b with
    | true => rw [if_pos rfl]; exact ⟨ρ, Hk, Hin0, Hin, H01, S1, z⟩
    | false => rw [if_neg Bool.false_ne_true]; exact ⟨ρ, Hk, Hin0, Hin, H01, S1, z⟩) (ST_of S q)
/-! for, while -/
/-- behind a loop's turn -/
def loopO (o : O) (k : SV) : O := match o with
  | .nx ρ => k ρ
  | .ct ρ => k ρ
  | .bk ρ => .nx ρ
  | o => o
def obind (o : Option (List B)) (k : SV) : O := match o with
  | some ρ => k ρ
  | none => .er
def forO (t : Tgt) (s : SV) : List QY.D → SV
  | [], ρ => .nx ρ
  | x :: xs, ρ => obind (bindT t x ρ) fun ρ1 => loopO (s ρ1) (forO t s xs)
def sFor (it : AV) (t : Tgt) (s : SV) : SV := sA it fun ds => forO t s ds
theorem n_for {iter : Expr} {it : AV} {t : Tgt} (hp : PassesOwn (model X.prog X.w) X.A X.env X.xe) (hc : X.calm = true) (hi : PI X tg iter (tI κ W it)) (hg : PG X tg (tG κ t)) (hb : PSs X sts (tS κ W s)) (hs : ∀ x, foldedSetIterable iter X.env x = pure x) :
    PS X (.For tg iter sts [] pos) (tS κ W (sFor it t s)) := PS_weak (ps_for hp hc hi hg hb hs) fun D σ H ⟨ρ, Hk, Hin0, Hin, H0, S, q⟩ => by
  refine ⟨ρ, H0, S.g.c, S.s, ?_⟩
  unfold sFor sA at q
  cases ei : it ρ with
  | ex c vs => rw [ei] at q; exact fun dx a b g p => q σ a b dx (S.grow g) p
  | er => rw [ei] at q; exact q
  | ok ds =>
    rw [ei] at q
    intro J H01 H1 g1 jok
    have S1 := S.grow g1
    have kk : Ex Hk H01 := S1.k
    refine ⟨fun i m σ H => m = ds.length - i ∧ i ≤ ds.length ∧ ∃ ρi H0i, SR κ H01 Hin0 Hin H0i σ H ρi ∧ FinS κ W D H01 Hin0 Hin (forO t s (ds.drop i) ρi), ⟨ds.length, by simp, Nat.zero_le _, ρ, H01, ⟨.refl _, S1.g, S1.s, S1.z⟩, FinS.weakK kk q⟩, ?_⟩
    rintro i m σ H ⟨rfl, hi, ρi, H0i, Si, qi⟩
    by_cases hlt : i < ds.length
    · obtain ⟨hgo, hyl⟩ := (jok H (Si.k.trans Si.g.c) i).1 ds[i] (List.getElem?_eq_getElem hlt)
      rw [List.drop_eq_getElem_cons hlt] at qi
      unfold forO at qi
      refine .inr ⟨hgo, fun σ H => i + 1 ≤ ds.length ∧ ∃ ρi H0i, SR κ H01 Hin0 Hin H0i σ H ρi ∧ FinS κ W D H01 Hin0 Hin (forO t s (ds.drop (i + 1)) ρi), fun σ' H' ⟨h1, h2⟩ => ⟨ds.length - (i + 1), by omega, rfl, h1, h2⟩, fun x H3 hy => ?_⟩
      obtain ⟨e3, rx⟩ := hyl x H3 hy
      subst e3
      cases eb : bindT t ds[i] ρi with
      | none => rw [eb] at qi; exact qi.elim
      | some ρ1 =>
        rw [eb] at qi
        have qi : FinS κ W D H01 Hin0 Hin (loopO (s ρ1) (forO t s (ds.drop (i + 1)))) := qi
        refine ⟨ρi, H0i, ds[i], ρ1, Si.g.c, Si.s, rx.mono Si.k, eb, fun σ' S' o _ => ⟨ρ1, H01, Hin0, Hin, H0i, Si.bind S' o, ?_⟩⟩
        cases es : s ρ1 with
        | nx ρ2 => rw [es] at qi; exact fun σ2 H02 H2 S2 => ⟨hlt, ρ2, H02, S2, qi⟩
        | ct ρ2 => rw [es] at qi; exact fun σ2 H02 H2 S2 => ⟨hlt, ρ2, H02, S2, qi⟩
        | bk ρ2 => rw [es] at qi; exact qi
        | rt d fr => rw [es] at qi; exact qi
        | rw d ρ2 => rw [es] at qi; exact qi
        | ex c vs ρ2 => rw [es] at qi; exact qi
        | er => rw [es] at qi; exact qi
    · have e : i = ds.length := by omega
      subst e
      rw [List.drop_length] at qi
      exact .inl ⟨(jok H (Si.k.trans Si.g.c) ds.length).2 (Nat.le_refl _), qi σ H0i H Si⟩
def whO (t : List B → R Bool) (s : SV) : Nat → SV
  | 0, _ => .er
  | n + 1, ρ => sT t (fun b => match b with
    | true => fun ρ => loopO (s ρ) (whO t s n)
    | false => fun ρ => .nx ρ) ρ
theorem n_while {c : Expr} {t : List B → R Bool} (n : Nat) (hp : PassesOwn (model X.prog X.w) X.A X.env X.xe) (hc : PT X c (tT κ W t)) (hb : PSs X sts (tS κ W s)) : PS X (.While c sts [] pos) (tS κ W (whO t s n)) := PS_weak (ps_while hp hc hb) fun D σ H ⟨ρ, Hk, Hin0, Hin, H0, S, q⟩ => by
  refine ⟨fun m σ H => ∃ ρi H0i, SR κ Hk Hin0 Hin H0i σ H ρi ∧ FinS κ W D Hk Hin0 Hin (whO t s m ρi), ⟨n, ρ, H0, S, q⟩, ?_⟩
  rintro m σ H ⟨ρi, H0i, Si, qi⟩
  cases m with
  | zero => exact qi.elim
  | succ m =>
    refine tT_mono (fun b H1 z => ?_) (ST_of Si (show FinS κ W D Hk Hin0 Hin (sT t (fun b => match b with
      | true => fun ρ => loopO (s ρ) (whO t s m)
      | false => fun ρ => .nx ρ) ρi) from qi))
    obtain ⟨H01, g, S1, z⟩ := z
    cases b with
    | false => rw [if_neg Bool.false_ne_true]; exact z _ _ _ S1
    | true =>
      rw [if_pos rfl]
      have z : FinS κ W D Hk Hin0 Hin (loopO (s ρi) (whO t s m)) := z
      refine ⟨fun σ H => ∃ ρi H0i, SR κ Hk Hin0 Hin H0i σ H ρi ∧ FinS κ W D Hk Hin0 Hin (whO t s m ρi), fun σ' H' h => ⟨m, Nat.lt_succ_self _, h⟩, ρi, Hk, Hin0, Hin, H01, S1, ?_⟩
      cases es : s ρi with
      | nx ρ2 => rw [es] at z; exact fun σ2 H02 H2 S2 => ⟨ρ2, H02, S2, z⟩
      | ct ρ2 => rw [es] at z; exact fun σ2 H02 H2 S2 => ⟨ρ2, H02, S2, z⟩
      | bk ρ2 => rw [es] at z; exact z
      | rt d fr => rw [es] at z; exact z
      | rw d ρ2 => rw [es] at z; exact z
      | ex c vs ρ2 => rw [es] at z; exact z
      | er => rw [es] at z; exact z
/-! x.append(e) and the like, x an owned list -/
def optO (o : Option (List QY.D)) (k : List QY.D → O) : O := match o with
  | some ys => k ys
  | none => .er
def sMut (g : List QY.D → List QY.D → Option (List QY.D)) (i : Nat) (fs : AV) : SV := fun ρ => match ρ[i]? with
  | some (.ow (.lst xs)) => sA fs (fun ds ρ => optO (g xs ds) fun ys => .nx (ρ.set i (.ow (.lst ys)))) ρ
  | _ => .er
theorem n_mut {id : String} {name x : Str} {i : Nat} {p apos cpos : Pos} {r : V → List V → Hp → VK → Prop} {g : List QY.D → List QY.D → Option (List QY.D)} (hK : X.K = κ.K) (slot : Slot "list" name id) (hty : typeOf (.builtin id) = pure (.type "method_descriptor"))
    (hm : MtR X id r) (hr : ∀ (a : Addr) (vs : List V) (us : List V) (xs ds ys : List QY.D) (H0 H : Hp) (Q : VK), Ex H0 H → H a = some (.lst vs) → Reps κ H0 vs xs → Reps κ H0 us ds → g xs ds = some ys → (∀ w ws, Reps κ H0 ws ys → Q w (upd H a (.lst ws))) → r (.ref a) us H Q)
    (hN : X.N[i]? = some x) (hv : Vis X.env.scope x) (h1 : (x == ("__debug__" : Str)) = false) (h2 : (x == ("__classdict__" : Str)) = false) (ha : PA X (e :: es) (tA κ W (PLR κ) fs))
    (hbase : attributeBase (.Name x p) name X.env (eval (.Name x p) X.env) = eval (.Name x p) X.env)
    (hfew : ((backTo cpos (starEach (e :: es) X.env)).all (fun x => !x.1) && (backToKw cpos (keywordEach [] X.env)).all (fun x => x.1.isSome)
      && decide ((e :: es).length + ([] : List Keyword).length + (if ([] : List Keyword).isEmpty then 0 else 1) < 30)) = true)
    (hline : (apos.endLine == cpos.line) = true) (hs : starEach (e :: es) X.env = (false, eval e X.env) :: starEach es X.env) (hplain : (backTo cpos (starEach es X.env)).any (·.1) = false)
    (hsw : swapsWith (.Call (.Attribute (.Name x p) name apos) (e :: es) [] cpos) none pos.line X.env = pure false) :
    PS X (.Expr (.Call (.Attribute (.Name x p) name apos) (e :: es) [] cpos) pos) (tS κ W (sMut g i fs)) :=
  PS_weak (ps_expr (pe_bm PySem.F.plainAttrs_list slot hty hm (pe_var hN hv h1 h2) ha hbase hfew hline hs hplain) hsw) fun D σ H ⟨ρ, Hk, Hin0, Hin, H0, S, q⟩ => by
    unfold sMut at q
    split at q
    · rename_i xs hd
      obtain ⟨a, hs', n0, vs, ea, ra⟩ := S.s.ow i _ hd
      refine ⟨_, hs', .inl ⟨rfl, vs, by rw [hK]; exact .of ea⟩, ρ, H0, S.g.c, S.s, ?_⟩
      unfold sA at q
      cases ef : fs ρ with
      | ok ds =>
        rw [ef] at q
        intro us H0' H' g1 rs
        have S1 := S.grow g1
        have q : FinS κ W D Hk Hin0 Hin (optO (g xs ds) fun ys => .nx (ρ.set i (.ow (.lst ys)))) := q
        cases eg : g xs ds with
        | none => rw [eg] at q; exact q.elim
        | some ys =>
          rw [eg] at q
          exact hr a vs us xs ds ys H0' H' _ g1.c (g1.b _ _ ea) (ra.mono g1.a) rs eg fun w ws rw' => q _ _ _ (S1.mut hd hs' ⟨ws, rfl, rw'⟩)
      | ex c vs' => rw [ef] at q; exact fun dx a b g p => q σ a b dx (S.grow g) p
      | er => rw [ef] at q; exact q.elim
    · exact q.elim
end
end QY

/-! Lists that grow, isinstance, raise, try, a whole def. -/
namespace QY
open PySem PySem.Spec PyProof.Rows L2
section
variable {X : Cx} {κ : Kap} {W : WX} {P : PP} {tg e a b : Expr} {es : List Expr} {f fa fb : EV} {fs : AV} {pos : Pos} {st : Stmt} {sts : List Stmt} {s u : SV}
def gApp (xs ds : List D) : Option (List D) := match ds with
  | [d] => if xs.length < LIM then some (xs ++ [d]) else none
  | _ => none
theorem r_app (a : Addr) (vs us : List V) (xs ds ys : List D) (H0 H : Hp) (Q : VK) (E : Ex H0 H) (ea : H a = some (.lst vs)) (r : Reps κ H0 vs xs) (ru : Reps κ H0 us ds) (h : gApp xs ds = some ys)
    (q : ∀ w ws, Reps κ H0 ws ys → Q w (upd H a (.lst ws))) : rAppend (.ref a) us H Q := by
  unfold gApp at h
  split at h
  · split at h
    · rename_i hl
      cases h
      cases ru with
      | cons r1 r2 =>
        cases r2
        exact ⟨a, vs, _, rfl, rfl, ea, by rw [lim_eq, r.length]; exact hl, q _ _ (r.append (.cons r1 .nil))⟩
    · cases h
  · cases h
def gPopAt (xs ds : List D) : Option (List D) := match ds with
  | [.int i] => if 0 ≤ i ∧ i < xs.length ∧ i < 2 ^ 63 then some (xs.eraseIdx i.toNat) else none
  | _ => none
theorem r_popAt (a : Addr) (vs us : List V) (xs ds ys : List D) (H0 H : Hp) (Q : VK) (E : Ex H0 H) (ea : H a = some (.lst vs)) (r : Reps κ H0 vs xs) (ru : Reps κ H0 us ds) (h : gPopAt xs ds = some ys)
    (q : ∀ w ws, Reps κ H0 ws ys → Q w (upd H a (.lst ws))) : rPopAt (.ref a) us H Q := by
  unfold gPopAt at h
  split at h
  · split at h
    · rename_i i hl
      cases h
      obtain ⟨h1, h2, h3⟩ := hl
      cases ru with
      | cons r1 r2 =>
        cases r2
        cases r1
        have hlt : i.toNat < xs.length := by omega
        obtain ⟨v, hv, _⟩ := r.get (List.getElem?_eq_getElem hlt)
        exact ⟨a, vs, i, i.toNat, v, rfl, rfl, ea, by omega, h3, by rw [r.length]; exact PySem.StrLaws.seqIndex_nonneg h1 h2, hv, q _ _ (r.eraseIdx _)⟩
    · cases h
  · cases h

/-! ### isinstance -/
structure ExcF (κ : Kap) (ok : Nat → Bool) : Prop where
  exc : ∀ c, ok c = true → ExcC κ.K (κ.exc c)
  kit : ∀ c c', ok c = true → ok c' = true → PySem.W.kitOne κ.K (.ref (κ.exc c)) (.ref (κ.exc c')) = some (c == c' || c' == 0)
  kitV : ∀ c, ok c = true → PySem.W.kitOne κ.K (.ref (κ.exc c)) (.type "ValueError") = some true
  kitD : ∀ t ∈ ["bool", "int", "tuple", "list"], ∀ k ∈ ["NoneType", "bool", "int", "str", "list", "tuple"], PySem.W.kitOne κ.K (.type k) (.type t) = some (k == t || (k == "bool" && t == "int"))
def kdD : D → Option String
  | .non => some "NoneType" | .bl _ => some "bool" | .int _ => some "int" | .str _ => some "str" | .lst _ => some "list" | .tup _ => some "tuple"
  | _ => none
def isiD (ok : Nat → Bool) : List D → Option D
  | [.exc c [], .cls c'] => if ok c && ok c' then some (.bl (c == c' || c' == 0)) else none
  | [.exc c [], .ty t] => if ok c && t == "ValueError" then some (.bl true) else none
  | [d, .ty t] => if ["bool", "int", "tuple", "list"].contains t then (kdD d).map fun k => .bl (k == t || (k == "bool" && t == "int")) else none
  | _ => none
theorem tyOf_of {H0 H : Hp} {v : V} {d : D} {k : String} (E : Ex H0 H) (b : Bor κ H0 H v d) (h : kdD d = some k) : TyOf κ.K H v (.type k) ∧ k ∈ ["NoneType", "bool", "int", "str", "list", "tuple"] := by
  cases d with
  | non => cases b.flat (fun _ _ h => h); cases h; exact ⟨.non, by simp⟩
  | bl b' => cases b.flat (fun _ _ h => h); cases h; exact ⟨.bl _, by simp⟩
  | int b' => cases b.flat (fun _ _ h => h); cases h; exact ⟨.int _, by simp⟩
  | str b' => cases b.flat (fun _ _ h => h); cases h; exact ⟨.str _, by simp⟩
  | lst ds => obtain ⟨p, vs, rfl, ea, _⟩ := b.lst E; cases h; exact ⟨.lst ea, by simp⟩
  | tup ds => obtain ⟨p, vs, rfl, ea, _⟩ := b.tup E; cases h; exact ⟨.tup ea, by simp⟩
  | _ => cases h
theorem inst_of {h : Heap} {a C : Addr} {oe : Obj} {vs : Array Value} (g1 : h.get? a = some oe) (g2 : oe.cls = .ref C) (g3 : oe.dict = none) (g4 : oe.data = .fields vs) : PySem.W.InstAt h a oe C none := by
  obtain ⟨oc, od, oda, osl⟩ := oe
  dsimp only at g2 g3 g4
  subst g2 g3 g4
  exact ⟨g1, rfl, rfl, trivial⟩
theorem c_isi {ok : Nat → Bool} (hK : X.K = κ.K) (hP : X.prog = κ.P) (hw : X.w = κ.w) (F : ExcF κ ok) : CallR X (.builtin "isinstance") (rC κ (PR κ) (isiD ok)) := CallR_of fun ds d e => by
  intro pins s σ H xs us Q I rx ⟨H0, E, bb, q⟩
  unfold isiD at e
  split at e
  · split at e
    · rename_i c c' hok
      cases e
      obtain ⟨v, v', rfl, b1, b2⟩ := bb.two
      obtain ⟨h1, h2⟩ := Bool.and_eq_true_iff.mp hok
      cases b2.flat (fun _ _ h => h)
      have rx1 := b1.flat (fun _ _ h => h)
      cases rx1 with
      | exc0 ea =>
        obtain ⟨u1, u2, rfl, r1, r2⟩ := vals2 rx
        cases r1; cases r2
        obtain ⟨⟨oe, vs, g1, g2, g3, g4⟩, _, _⟩ := I.hok _ _ (E _ _ ea)
        have C := F.exc c h1
        rw [← hK] at C
        have J := inst_of g1 g2 g3 g4
        have kit := F.kit c c' h1 h2
        rw [← hK] at kit
        exact PySem.W.kia_one (PySem.W.handS_kitx_exc C.hg C.hk C.hs C.hd C.ha C.hn C.ht C.hm) I.kIn J kit (fun z => nomatch z) fun tk => ⟨.bl _, H, I.kept (t' := tk) fun _ _ z => z, rfl, q _ _ _ (.refl E) (.bl _)⟩
    · cases e
  · split at e
    · rename_i c t hok
      cases e
      obtain ⟨v, v', rfl, b1, b2⟩ := bb.two
      obtain ⟨h1, h2⟩ := Bool.and_eq_true_iff.mp hok
      obtain rfl := eq_of_beq h2
      cases b2.flat (fun _ _ h => h)
      have rx1 := b1.flat (fun _ _ h => h)
      cases rx1 with
      | exc0 ea =>
        obtain ⟨u1, u2, rfl, r1, r2⟩ := vals2 rx
        cases r1; cases r2
        obtain ⟨⟨oe, vs, g1, g2, g3, g4⟩, _, _⟩ := I.hok _ _ (E _ _ ea)
        have C := F.exc c h1
        rw [← hK] at C
        have J := inst_of g1 g2 g3 g4
        have kit := F.kitV c h1
        rw [← hK] at kit
        exact PySem.W.kia_one (PySem.W.handS_kitx_exc C.hg C.hk C.hs C.hd C.ha C.hn C.ht C.hm) I.kIn J kit (fun z => nomatch z) fun tk => ⟨.bl _, H, I.kept (t' := tk) fun _ _ z => z, rfl, q _ _ _ (.refl E) (.bl _)⟩
    · cases e
  · split at e
    · rename_i d' t hx hok
      cases ek : kdD d' with
      | none => rw [ek] at e; cases e
      | some k =>
        rw [ek] at e
        cases e
        obtain ⟨v, v', rfl, b1, b2⟩ := bb.two
        cases b2.flat (fun _ _ h => h)
        obtain ⟨u1, u2, rfl, r1, r2⟩ := vals2 rx
        cases r2
        obtain ⟨ty, hk⟩ := tyOf_of E b1 ek
        rw [← hK] at ty
        have kit := F.kitD t (by simpa using hok) k hk
        rw [← hK] at kit
        exact isinst_ok I r1 ty kit fun tk => ⟨.bl _, H, I.kept (t' := tk) fun _ _ z => z, rfl, q _ _ _ (.refl E) (.bl _)⟩
    · cases e
  · cases e

/-! ### raise C('m') -/
structure RaiseF (X : Cx) (κ : Kap) (x : Str) (c : Nat) : Prop where
  gC : X.mg x = some (.ref (κ.exc c))
  ex : PySem.W.excIn X.K (κ.exc c) [.type "ValueError", .type "Exception", .type "BaseException", .type "object"] "ValueError.__new__" = true
  kp : PySem.W.keepIn X.K (.ref (κ.exc c)) = true
  sb : PySem.W.subIn X.K (.ref (κ.exc c)) (.type "BaseException") = some true
  ty : PySem.W.typeIn X.K (.ref (κ.exc c)) = some (.type "type")
def sRaise (c : Nat) : SV := fun ρ => .ex c [] ρ
theorem n_raise {x m : Str} {c j : Nat} {p p2 pos2 : Pos} (hc : X.calm = true) (tk : Takes X W) (F : RaiseF X κ x c) (hg : Gl X x) (hdb : (x == ("__debug__" : Str)) = false) :
    PS X (.Raise (some (.Call (.Name x p) [.Constant (.str m) j p2] [] pos2)) none pos) (tS κ W (sRaise c)) :=
  PS_weak (ps_raise hc tk (pmk_own PySem.F.excBase_ValueError F.ex F.gC F.kp (raises_own F.sb F.ty) hg hdb)) fun D σ H ⟨ρ, Hk, Hin0, Hin, H0, S, q⟩ => q σ H0 H none S rfl

/-! ### try: body, except Q as n: k = n -/
/-- an untracked object that is younger than the entry is tracked -/
theorem Inv_track {pins : List (Addr × Obj)} {σ : L2.St} {H : Hp} {s : Shared} {a : Addr} {o : HO} {oe : Obj} {vs : Array Value} (I : Inv X pins σ H s) (hs : X.s_0.heap.get? a = none) (hn : H a = none) (he : s.heap.get? a = some oe) (hd : oe.data = .fields vs)
    (nL : a ≠ X.env.locals) (np : ∀ p ∈ X.pn ++ pins, p.1 ≠ a) (new : ObjOk X.prog X.w (upd H a o) s.heap a o) : Inv X pins σ (upd H a o) s := by
  have old : ∀ b u, X.s_0.heap.get? b = some u → b ≠ a := fun b u e z => by rw [z, hs] at e; cases e
  refine ⟨I.ok, I.os, I.bare, ⟨I.base.keep, I.base.slot, fun b u e n hx => ?_, I.base.there, fun b xs e => ?_, fun b u xs e => ?_, fun b ps e => ?_⟩, I.loc, I.cell, ?_, fun x c e => ?_, fun p hp => ?_, fun b u e => ?_, I.len⟩
  · rw [upd_ne (old b u e)]; exact I.base.free b u e n hx
  · rw [upd_ne (ne_of_none (I.base.tups b xs e) hn)]; exact I.base.tups b xs e
  · rw [upd_ne (ne_of_none (I.base.frzs b u xs e) hn)]; exact I.base.frzs b u xs e
  · obtain ⟨m, q⟩ := I.base.tbls b ps e
    exact ⟨m, by rw [upd_ne (ne_of_none q hn)]; exact q⟩
  · rw [upd_ne nL.symm]; exact I.free
  · have hc : c ≠ a := fun z => by
      obtain ⟨v, o', ho, hd'⟩ := I.cell x c e
      rw [z, he] at ho
      cases ho
      rw [hd] at hd'
      cases hd'
    rw [upd_ne hc]
    exact I.freeC x c e
  · obtain ⟨h1, h2, h3⟩ := I.pin p hp
    exact ⟨h1, by rw [upd_ne (np p hp)]; exact h2, h3⟩
  · by_cases hb : b = a
    · subst hb; rw [upd_same] at e; cases e; exact new
    · rw [upd_ne hb] at e
      exact (I.hok b u e).stay (fun c v _ q => q) (fun c q => by rw [upd_ne (ne_of_none q hn)]; exact q) fun c xs q => by rw [upd_ne (ne_of_none q hn)]; exact q
def wKeep (K : PySem.W.Frag) (c : Value) (i j : Nat) (Wout : WX) (D : Ends) : WX := fun cls d σ H =>
  ∃ b, PySem.W.exmOne K cls c = some b ∧ (b = true → ∀ a, H a = none → D.nx ((σ.set i none).set j (some (.ref a))) (upd H a (.ext (ExPhi cls d a)))) ∧ (b = false → Wout cls d σ H)
theorem ps_try_keep {x n k : Str} {c : Value} {i j : Nat} {body : List Stmt} {np kp np2 ap pos' : Pos} {tb : WX → TS} {Wout : WX} (hs : X.stack = X.env :: X.outer) (hf : X.env.frame = some X.env.locals) (hex : X.ex = []) (hN : X.N.Nodup) (hi : X.N[i]? = some n) (hj : X.N[j]? = some k) (hij : i ≠ j)
    (hln : X.env.kindOf n = some .local) (hlk : X.env.kindOf k = some .local) (hd1 : (n == ("__debug__" : Str)) = false) (hd2 : (n == ("__classdict__" : Str)) = false) (hc : Names X x c) (tk : Takes X Wout)
    (hb : ∀ (W : WX) (pn : List (Addr × Obj)) (xe : Value → Shared → Prop), Takes (X.tr pn xe) W → PassesOwn (model X.prog X.w) X.A X.env xe → PSs (X.tr pn xe) body (tb W)) :
    PS X (.Try body [.ExceptHandler (some (.Name x np)) (some n) [.Assign [.Name k kp] (.Name n np2) ap] pos'] [] [] pos) (fun D σ H => tb (wKeep X.K c i j Wout D) D σ H) := by
  refine ⟨fun pins s σ H D I h => ?_⟩
  have ok := I.ok
  have hfr : X.A.frames = some (X.env :: X.outer) := by rw [ok.frames, hs]
  have hloc : Loc X.env.scope n := .inl hln
  have hlock : Loc X.env.scope k := .inl hlk
  refine wpAny_Try_except ?_
  refine wpAny_mono ((hb (wKeep X.K c i j Wout D) (X.pn ++ pins) (fun e s₁ => wpAny (model X.prog X.w) X.A (noteFrame e X.env) (fun _ s₂ => wpAny (model X.prog X.w) X.A (setFlight e none) (fun _ s₃ =>
    wpAny (model X.prog X.w) X.A (handleBy e X.env [.ExceptHandler (some (.Name x np)) (some n) [.Assign [.Name k kp] (.Name n np2) ap] pos']) (SP X pins D) X.xe s₃) X.xe s₂) X.xe s₁) (fun u s' xx => ?_) PassesOwn.looking).run [] s σ H D (I.toTry _) h) (fun f s1 hsp => ?_) (fun e s1 he => he)
  · obtain ⟨a, B, sI, pins', σ', H', cls, d, rfl, J', nb, up, sky, na, os, ag, b, hb1, hyes, hno⟩ := xx
    have J : Inv X pins σ' H' sI := J'.ofTry ok
    have sky' : Sky B (X.env :: X.outer) a (Zc cls d) X.env.locals s'.heap := by rw [← hs]; exact sky
    have hBa : B.get? a = none := by
      rcases sky' with ⟨_, h1, _⟩ | fl | hh
      · exact h1
      · exact fl.2.1
      · exact hh.2.1
    show wpAny (model X.prog X.w) X.A (noteFrame (.ref a) X.env) _ _ _
    refine Sky.land Zc.steady hfr hf sky' fun h3 fl3 up3 => ?_
    have J3 : Inv X pins σ' H' { s' with heap := h3 } := J.landed nb fl3.1 (up.trans up3) os ag
    obtain ⟨oe3, vs3, he3, hz3, hd3⟩ := fl3.there
    have notFr : ∀ {h : Heap} {o : Obj} {vs : Array Value}, h.FunFrames B (X.env :: X.outer) → h.get? a = some o → o.data = .fields vs → a ∉ frs (X.env :: X.outer) := fun {h o vs} ff e dd hm => by
      obtain ⟨_, o', e', hnf⟩ := ff.mem hm
      rw [e] at e'; cases e'
      exact hnf _ dd
    have nfr := notFr fl3.2.2.1 he3 hd3
    have nL : a ≠ X.env.locals := fun z => nfr (List.mem_filterMap.mpr ⟨X.env, List.mem_cons_self, by rw [hf, z]⟩)
    have nF : a ∉ X.fs := fun hm => by
      obtain ⟨e, he, q⟩ := List.mem_filterMap.mp hm
      exact nfr (List.mem_filterMap.mpr ⟨e, List.mem_cons_of_mem _ he, q⟩)
    have hsI : sI.heap.get? a = none := by
      cases q : sI.heap.get? a with
      | none => rfl
      | some o =>
        have := nb a o q (by rw [hs]; exact nfr)
        rw [hBa] at this
        cases this
    have hs0 : X.s_0.heap.get? a = none := by
      cases q : X.s_0.heap.get? a with
      | none => rfl
      | some o =>
        obtain ⟨o', e'⟩ := J.base.there a o q (by rw [hex]; exact fun z => nomatch z)
        rw [hsI] at e'
        cases e'
    have hpn : ∀ p ∈ X.pn ++ pins, p.1 ≠ a := fun p hp z => by
      have := (J.pin p hp).1
      rw [z, hsI] at this
      cases this
    have S3 := J3.suite he3 hd3 na nL nF
    refine wpAny_handleBy_cons (codeAny_handlers_test ?_) (by intro q; cases q)
    have LT : PySem.W.Looks (model X.prog X.w) h3 (typeOf (.ref a)) cls := fun A Q E s k q => wpAny_typeOf_ref (k _ _ he3) (by rw [hz3.1]; exact q)
    have LM := PySem.W.exm_one (M := model X.prog X.w) (J3.kIn) LT hb1
    have test : ∀ {Q : Value → Shared → Prop} {E : Value → Shared → Prop}, Q c { s' with heap := h3 } → wpAny (model X.prog X.w) (X.A.mark (some (.ref a))) (eval (.Name x np) X.env) Q E { s' with heap := h3 } := fun {Q E} q => by
      obtain ⟨hg, hdbg, hm | ⟨hm, hv, hnn⟩⟩ := hc
      · exact ld_glob (X := X.suite a ((a, oe3) :: (X.pn ++ pins))) S3 hg hm q hdbg
      · exact ld_blt (X := X.suite a ((a, oe3) :: (X.pn ++ pins))) S3 hg hm hv q hnn hdbg
    refine test (LM.here ?_)
    cases b with
    | true =>
      refine codeAny_handlers_suite_as ?_
      refine HandSPX.lands_againZ fl3 fun h4 fl4 up4 => ?_
      have J4 : Inv X pins σ' H' { s' with heap := h4 } := J.landed nb fl4.1 ((up.trans up3).trans up4) os ag
      obtain ⟨oe4, vs4, he4, hz4, hd4⟩ := fl4.there
      have S4 := J4.suite he4 hd4 na nL nF
      refine store_ok (X := X.suite a ((a, oe4) :: (X.pn ++ pins))) (v := .ref a) S4 hN hi hloc rfl (fun s5 S5 => ?_) (.inr hln)
      have hin : i < σ'.length := by rw [J.len]; exact (List.getElem?_eq_some_iff.mp hi).1
      have suite : PSs (X.suite a ((a, oe4) :: (X.pn ++ pins))) [.Assign [.Name k kp] (.Name n np2) ap] (tAsg (tVar i) (gName j)) := pss_one (ps_set (pos := ap) (i := j) hN hj hlock (pe_var (i := i) hi (.inl hln) hd1 hd2) rfl (.inr hlk))
      refine wpAny_mono (suite.run [] s5 _ H' { nx := fun σ6 H6 => H6 = H' ∧ σ6 = (σ'.set i (some (.ref a))).set j (some (.ref a)), rt := fun _ _ => False } S5 ⟨.ref a, List.getElem?_set_self hin, rfl, rfl⟩) (fun f s6 hsp => ?_) (fun _ _ z => False.elim z)
      cases f with
      | next =>
        obtain ⟨σ6, H6, S6, rfl, rfl⟩ := hsp
        have ho6 : s6.heap.get? a = some oe4 := (S6.pin (a, oe4) (List.mem_append.mpr (.inl List.mem_cons_self))).1
        have I6 := S6.unsuite ok
        have I7 : Inv X pins ((σ'.set i (some (.ref a))).set j (some (.ref a))) (upd H6 a (.ext (ExPhi cls d a))) s6 := Inv_track I6 hs0 na ho6 hd4 nL hpn
          ⟨⟨oe4, vs4, ho6, hz4.1, hz4.2, hd4⟩, ⟨oe4, ho6⟩, fun _ _ ⟨o, v, q, r⟩ k => ⟨o, v, k o q, r⟩⟩
        refine gone_ok I7 hN hi hln fun s7 J7 => ?_
        refine ⟨_, _, J7, ?_⟩
        have e : ((σ'.set i (some (V.ref a))).set j (some (.ref a))).set i none = (σ'.set i none).set j (some (.ref a)) := by
          rw [List.set_comm _ _ hij, List.set_set, List.set_comm _ _ hij.symm]
        rw [e]
        exact hyes rfl a na
      | brk => obtain ⟨_, _, _, z⟩ := hsp; exact z.elim
      | cont => obtain ⟨_, _, _, z⟩ := hsp; exact z.elim
      | ret u => obtain ⟨_, _, _, _, _, z⟩ := hsp; exact z.elim
    | false =>
      show wpAny _ X.A (handleBy (.ref a) X.env []) _ _ _
      refine wpAny_handleBy_nil ?_
      obtain ⟨k1, k2, k3, oe, vs, T, oT, ts', he, hz, hd, h1, hr⟩ := id fl3
      unfold PySem.passOn
      refine wpAny_bind (wpAny_field he hd h1 ?_)
      rw [if_neg (show ¬ ((Value.ref T == Value.none) = true) from by simp)]
      have fin : wpAny (model X.prog X.w) X.A (setFlight (.ref a) X.env.frame) (fun _ s4 => wpAny (model X.prog X.w) X.A (throw (.ref a) : Sem Flow) (SP X pins D) X.xe s4) X.xe { s' with heap := h3 } := by
        rw [hf]
        refine HandSPX.setFlight_upZ fl3 fun h4 hh4 up4 => wpAny_throw (tk _ _ ?_)
        exact ⟨a, B, sI, pins, σ', H', cls, d, rfl, J, nb, (up.trans up3).trans up4, .inr (.inr (by rw [hs]; exact hh4)), na, os, ag, hno rfl⟩
      first
        | exact wpAny_bind (wpAny_pure (wpAny_bind fin))
        | exact wpAny_bind fin
  · cases f with
    | next =>
      obtain ⟨σ', H', J', q⟩ := hsp
      exact wpAny_execs_nil ⟨σ', H', J'.ofTry ok, q⟩
    | brk =>
      obtain ⟨σ', H', J', q⟩ := hsp
      exact ⟨σ', H', J'.ofTry ok, q⟩
    | cont =>
      obtain ⟨σ', H', J', q⟩ := hsp
      exact ⟨σ', H', J'.ofTry ok, q⟩
    | ret u =>
      obtain ⟨v, σ', H', J', r, q⟩ := hsp
      exact ⟨v, σ', H', J'.ofTry ok, r, q⟩
/-- every exception here is a QuiltError -/
def sTry (i j : Nat) (ok : Nat → Bool) (s : SV) : SV := fun ρ => match s ρ with
  | .ex c vs ρ' => if ok c then .nx ((ρ'.set i .no).set j (.fz (.exc c vs))) else .er
  | o => o
theorem ExD.rep {H0 : Hp} {dx : Option Addr} {a : Addr} {c : Nat} : ∀ {vs : List D}, ExD κ H0 dx vs → H0 a = some (.ext (ExPhi (.ref (κ.exc c)) dx a)) → Rep κ H0 (.ref a) (.exc c vs)
  | [], h, e => by
    have h : dx = none := h
    subst h
    exact .exc0 e
  | [d], ⟨b, v, h1, h2, h3⟩, e => by
    subst h1
    exact .exc1 e h2 h3
  | _ :: _ :: _, h, _ => h.elim
theorem n_try {x n k : Str} {c : Value} {i j : Nat} {body : List Stmt} {np kp np2 ap pos' : Pos} {ok : Nat → Bool} (hK : X.K = κ.K) (hs : X.stack = X.env :: X.outer) (hf : X.env.frame = some X.env.locals) (hex : X.ex = []) (hN : X.N.Nodup) (hi : X.N[i]? = some n) (hj : X.N[j]? = some k) (hij : i ≠ j)
    (hln : X.env.kindOf n = some .local) (hlk : X.env.kindOf k = some .local) (hd1 : (n == ("__debug__" : Str)) = false) (hd2 : (n == ("__classdict__" : Str)) = false) (hc : Names X x c) (tk : Takes X W)
    (hq : ∀ c', ok c' = true → PySem.W.exmOne κ.K (.ref (κ.exc c')) c = some true)
    (hb : ∀ (W : WX) (pn : List (Addr × Obj)) (xe : Value → Shared → Prop), Takes (X.tr pn xe) W → PassesOwn (model X.prog X.w) X.A X.env xe → PSs (X.tr pn xe) body (tS κ W s)) :
    PS X (.Try body [.ExceptHandler (some (.Name x np)) (some n) [.Assign [.Name k kp] (.Name n np2) ap] pos'] [] [] pos) (tS κ W (sTry i j ok s)) :=
  PS_weak (ps_try_keep hs hf hex hN hi hj hij hln hlk hd1 hd2 hc tk hb) fun D σ H ⟨ρ, Hk, Hin0, Hin, H0, S, q⟩ => by
    refine ⟨ρ, Hk, Hin0, Hin, H0, S, ?_⟩
    unfold sTry at q
    cases e : s ρ with
    | ex c' vs ρ' =>
      rw [e] at q
      have q : FinS κ W D Hk Hin0 Hin (if ok c' then .nx ((ρ'.set i .no).set j (.fz (.exc c' vs))) else .er) := q
      by_cases hok : ok c' = true
      · rw [if_pos hok] at q
        intro σ' H0' H' dx S' x
        refine ⟨true, by rw [hK]; exact hq c' hok, fun _ a ha => ?_, fun z => by cases z⟩
        have g : Grow H0' H' (upd H0' a (.ext (ExPhi (.ref (κ.exc c')) dx a))) (upd H' a (.ext (ExPhi (.ref (κ.exc c')) dx a))) := Grow.new S'.g.c ha
        have S2 := ((S'.grow g).clear i none).set j ((x.mono g.a).rep upd_same)
        exact q _ _ _ S2
      · rw [if_neg hok] at q; exact q.elim
    | nx ρ' => rw [e] at q; exact q
    | bk ρ' => rw [e] at q; exact q
    | ct ρ' => rw [e] at q; exact q
    | rt d fr => rw [e] at q; exact q
    | rw d ρ' => rw [e] at q; exact q
    | er => rw [e] at q; exact q

/-! ### a whole def -/
def fin (o : O) : R D := match o with
  | .nx _ => .ok .non
  | .rt d _ => .ok d
  | .ex c vs _ => .ex c vs
  | _ => .er
def env0 (N : List Str) (ds : List D) : List B := ds.map .fz ++ List.replicate (N.length - ds.length) .no
/-- a list that is told is a new one -/
def frOk (fr : Bool) (o : O) : Prop := fr = true → ∀ d b, o = .rt d b → (b = true ∨ isL d = false)
theorem slots0 {H0 H : Hp} {vs : List V} {ds : List D} (r : Reps κ H0 vs ds) (N : List Str) : Slots κ H0 H (L2.start N vs) (env0 N ds) where
  len := by unfold L2.start env0; simp [r.length]
  fz := fun i d h => by
    unfold env0 at h
    by_cases hi : i < ds.length
    · rw [List.getElem?_append_left (by simpa using hi), List.getElem?_map, List.getElem?_eq_getElem hi] at h
      cases h
      obtain ⟨v, h1, h2⟩ := r.get (List.getElem?_eq_getElem hi)
      refine ⟨v, ?_, h2⟩
      unfold L2.start
      rw [List.getElem?_append_left (by rw [List.length_map, r.length]; exact hi), List.getElem?_map, h1]
      rfl
    · rw [List.getElem?_append_right (by simpa using hi), List.getElem?_replicate] at h
      split at h <;> cases h
  ow := fun i d h => by
    exfalso
    unfold env0 at h
    by_cases hi : i < ds.length
    · rw [List.getElem?_append_left (by simpa using hi), List.getElem?_map, List.getElem?_eq_getElem hi] at h
      cases h
    · rw [List.getElem?_append_right (by simpa using hi), List.getElem?_replicate] at h
      split at h <;> cases h
  ap := fun i j d e a _ h _ _ _ => by
    exfalso
    unfold env0 at h
    by_cases hi : i < ds.length
    · rw [List.getElem?_append_left (by simpa using hi), List.getElem?_map, List.getElem?_eq_getElem hi] at h
      cases h
    · rw [List.getElem?_append_right (by simpa using hi), List.getElem?_replicate] at h
      split at h <;> cases h
theorem fn_ok {P : Program} {w : World} {mg : Str → Option Value} {base : Heap} {x qual : Str} {st : Stmt} {f : Addr} {fd : FuncData} {N ps : List Str} {k n : Nat} {fr : Bool} {sem : List D → R D} (body : List D → SV) (F : Fun κ.K x qual st f fd) (S : FnScope N ps (defScope st)) (hp : ps.length = n)
    (hbody : ∀ (cdv : Value) (A : Around) (outer : List Env) (s : Shared) (H : Hp) (E : XK) (ds : List D), Room k (A.deeper (envOfC qual (defScope st) s.heap.objs.size f cdv)) → PSs (cxOf (L2.CX P w) P w κ.K mg base N qual (defScope st) f cdv A outer s H E) (defBody st) (tS κ (fun cls d _ H => E cls d H) (body ds)))
    (hsem : ∀ ds, ds.length = n → sem ds = .er ∨ (sem ds = fin (body ds (env0 N ds)) ∧ frOk fr (body ds (env0 N ds)))) : FnOk P w κ.K mg base (L2.CX P w) (k + 1) f fd ps (spD κ fr n sem) := by
  refine F.okX S (spD_len hp) fun cdv A outer s H vs Q E hr h => ?_
  obtain ⟨H0, ds, E0, r, hl, q⟩ := h
  refine ⟨_, hbody cdv A outer s H E ds hr, env0 N ds, H0, H0, H, H0, ⟨.refl _, Grow.refl E0, slots0 r N, fun i d a h _ => ?_⟩, ?_⟩
  · exfalso
    obtain ⟨_, _, _, _⟩ := (slots0 (H := H) r N).ow i d h
    unfold env0 at h
    by_cases hi : i < ds.length
    · rw [List.getElem?_append_left (by simpa using hi), List.getElem?_map, List.getElem?_eq_getElem hi] at h
      cases h
    · rw [List.getElem?_append_right (by simpa using hi), List.getElem?_replicate] at h
      split at h <;> cases h
  · rcases hsem ds hl with e | ⟨e, hfr⟩
    · rw [e] at q; exact q.elim
    · rw [e] at q
      generalize body ds (env0 N ds) = o at q hfr
      cases o with
      | nx ρ =>
        intro σ H0' H' S'
        refine q _ H0' H' S'.g ?_
        cases fr with
        | true => exact Rep.non
        | false => exact Rep.non
      | rt d b =>
        intro v H0' H' g p
        cases fr with
        | true =>
          refine q v H0' H' g ?_
          rcases hfr rfl d b rfl with rfl | hn
          · exact p
          · cases b with
            | true => exact p
            | false =>
              have p : Rep κ H0' v d := p
              cases d with
              | lst ds => cases hn
              | dct ks vs => cases hn
              | dat b ks vs => cases hn
              | _ => exact p
        | false =>
          cases b with
          | false => exact q v H0' H' g p
          | true =>
            have p : PX κ H H0' H' v d := p
            obtain ⟨H0'', e1, e2, e3, rp⟩ := PX_freeze p g.c
            exact q v H0'' H' ⟨g.a.trans e1, g.b, e2, fun p o hp n => e3 p o hp (g.d p o hp n)⟩ rp
      | ex c vs ρ => exact fun σ H0' H' dx S' x => q dx H0' H' S'.g x
      | bk ρ => exact q.elim
      | ct ρ => exact q.elim
      | er => exact q.elim
      | rw d ρ => exact q.elim
end
end QY

/-! A known context; the nodes with decided side conditions. -/
namespace QY
open PySem PySem.Spec PyProof.Rows L2

/-! ### small checks -/
def nodbg (x : Str) : Bool := !(x == ("__debug__" : Str)) && !(x == ("__classdict__" : Str)) && !(x == ("__name__" : Str))
def visB (sc : Scope) (x : Str) : Bool := match sc.names.lookup x with
  | some .local => true
  | some .cell => true
  | some .free => true
  | _ => false
def glB (sc : Scope) (x : Str) : Bool := match sc.names.lookup x with
  | some .globalImplicit => true
  | _ => false
def locB (sc : Scope) (x : Str) : Bool := match sc.names.lookup x with
  | some .local => true
  | some .cell => true
  | _ => false
def lclB (sc : Scope) (x : Str) : Bool := match sc.names.lookup x with
  | some .local => true
  | _ => false
theorem vis_of {sc : Scope} {x : Str} (h : visB sc x = true) : Vis sc x := by
  unfold visB at h
  split at h
  · exact .inl (by assumption)
  · exact .inr (.inl (by assumption))
  · exact .inr (.inr (by assumption))
  · cases h
theorem gl_of {sc : Scope} {x : Str} (h : glB sc x = true) : sc.names.lookup x = some .globalImplicit := by
  unfold glB at h
  split at h
  · assumption
  · cases h
theorem loc_of {sc : Scope} {x : Str} (h : locB sc x = true) : Loc sc x := by
  unfold locB at h
  split at h
  · exact .inl (by assumption)
  · exact .inr (by assumption)
  · cases h
theorem lcl_of {sc : Scope} {x : Str} (h : lclB sc x = true) : sc.names.lookup x = some .local := by
  unfold lclB at h
  split at h
  · assumption
  · cases h
theorem nodbg_of {x : Str} (h : nodbg x = true) : (x == ("__debug__" : Str)) = false ∧ (x == ("__classdict__" : Str)) = false ∧ (x == ("__name__" : Str)) = false := by
  unfold nodbg at h
  simp only [Bool.and_eq_true, Bool.not_eq_true'] at h
  exact ⟨h.1.1, h.1.2, h.2⟩
/-- a name that is read -/
def ckV (N : List Str) (sc : Scope) (i : Nat) (x : Str) : Bool := decide (N[i]? = some x) && (visB sc x && nodbg x)
/-- a global name -/
def ckG (sc : Scope) (x : Str) : Bool := glB sc x && nodbg x
/-- a name that is stored -/
def ckT (N : List Str) (sc : Scope) (own : Str → Bool) (i : Nat) (x : Str) : Bool := decide (N[i]? = some x) && (locB sc x && (own x || lclB sc x))
def isStar : Expr → Bool
  | .Starred _ _ => true
  | _ => false
def isSlice : Expr → Bool
  | .Slice _ _ _ _ => true
  | _ => false
def isSet : Expr → Bool
  | .Set _ _ _ => true
  | _ => false
def isTup : Expr → Bool
  | .Tuple _ _ _ => true
  | _ => false
def isLcs : Expr → Bool
  | .ListComp _ _ _ _ => true
  | .SetComp _ _ _ _ => true
  | .DictComp _ _ _ _ _ => true
  | _ => false
def isCall0 : Expr → Bool
  | .Call (.Name _ _) [] [] _ => true
  | _ => false
def plainT : Expr → Bool
  | .UnaryOp .Not _ _ => false
  | .BoolOp _ _ _ => false
  | .IfExp _ _ _ _ => false
  | .Compare _ _ _ _ => false
  | _ => true
theorem starEach_cons {e : Expr} {es : List Expr} {env : Env} (h : isStar e = false) : starEach (e :: es) env = (false, eval e env) :: starEach es env := by
  cases e <;> first | rfl | cases h
theorem noStars {env : Env} {pos : Pos} : ∀ {es : List Expr}, (es.all fun e => !isStar e) = true → (backTo pos (starEach es env)).any (·.1) = false
  | [], _ => rfl
  | e :: es, h => by
    have h' := Bool.and_eq_true_iff.mp (show (!isStar e && es.all fun e => !isStar e) = true from h)
    rw [starEach_cons (by simpa using h'.1)]
    show (false || (backTo pos (starEach es env)).any (·.1)) = false
    rw [noStars h'.2]; rfl
theorem stars1 {e : Expr} {es : List Expr} (h : ((e :: es).all fun e => !isStar e) = true) : isStar e = false := by
  have h' := Bool.and_eq_true_iff.mp (show (!isStar e && es.all fun e => !isStar e) = true from h)
  simpa using h'.1
theorem stars2 {e : Expr} {es : List Expr} (h : ((e :: es).all fun e => !isStar e) = true) : (es.all fun e => !isStar e) = true :=
  (Bool.and_eq_true_iff.mp (show (!isStar e && es.all fun e => !isStar e) = true from h)).2
theorem fewArgs {env : Env} {pos : Pos} {e : Expr} {es : List Expr} (h : ((e :: es).all fun e => !isStar e) = true) (hl : es.length < 20) :
    ((backTo pos (starEach (e :: es) env)).all (fun x => !x.1) && (backToKw pos (keywordEach [] env)).all (fun x => x.1.isSome)
      && decide ((e :: es).length + ([] : List Keyword).length + (if ([] : List Keyword).isEmpty then 0 else 1) < 30)) = true := by
  have h1 : (backTo pos (starEach (e :: es) env)).all (fun x => !x.1) = true := by
    have := noStars (env := env) (pos := pos) h
    rw [List.all_eq_true]
    intro x hx
    rw [List.any_eq_false] at this
    simpa using this x hx
  rw [h1]
  show (true && true && _) = true
  simp only [Bool.true_and, decide_eq_true_eq, List.length_cons, List.length_nil]
  show es.length + 1 + 0 + 0 < 30
  omega
theorem plainIx_of {b : Expr} (h : isSlice b = false) : PlainIx b := fun o i => by
  cases b <;> first | rfl | cases h
theorem folded_of {e : Expr} {env : Env} (h : isSet e = false) (x : Value) : foldedSetIterable e env x = pure x := by
  cases e <;> first | rfl | cases h
theorem base_of {o : Expr} {name : Str} {env : Env} {w : Sem Value} (h : isCall0 o = false) : attributeBase o name env w = w := by
  unfold attributeBase
  split
  · cases h
  · rfl
theorem plainT_of {e : Expr} {env : Env} (h : plainT e = true) (w : Sem Value) : isTrue e env w = (do let v ← w; standAt e.pos; holding [v] (truthy v)) := by
  cases e <;> first | rfl | (rename_i op _ _; cases op <;> first | rfl | cases h) | cases h
theorem behind_of {op : CmpOp} {b : Expr} (h : isSet b = false) : behindInMarks op b = false := by
  cases b <;> first | (cases op <;> rfl) | cases h
theorem last_of {op op' : CmpOp} {b c : Expr} (h : isSet c = false) : lastMarks [op, op'] [b, c] = false := by
  cases c <;> first | (cases op' <;> rfl) | cases h
theorem sw_of {e : Expr} {t : Option Expr} {l : Nat} {env : Env} (h : isLcs e = false) : swapsWith e t l env = pure false := by
  cases e <;> first | rfl | cases h
theorem swS_of {t e : Expr} {l : Nat} {env : Env} (h : isLcs e = false) : swapsWithSole [t] e l env = pure false := sw_of h
theorem swp_of {es : List Expr} {k : Nat} {p : Pos} {e : Expr} {env : Env} (h : isTup e = false) : swappedStores [.Tuple es k p] e env = pure none := by
  cases e <;> first | rfl | cases h

/-! ### the context -/
structure Good (X : Cx) (κ : Kap) (W : WX) (mg : Str → Option Value) (base : Heap) (k : Nat) (N : List Str) (sc : Scope) (own : Str → Bool) : Prop where
  hK : X.K = κ.K
  hP : X.prog = κ.P
  hw : X.w = κ.w
  hm : X.mg = mg
  hb : X.base = base
  hN : X.N = N
  nd : N.Nodup
  hs : X.env.scope = sc
  own : ∀ x, own x = true → X.fn x = true
  calm : X.calm = true
  tk : Takes X W
  rm : Room k X.A
/-- a def of the module, as it stands -/
structure Fc (κ : Kap) (mg : Str → Option Value) (base : Heap) (j : Nat) (x : Str) (fr : Bool) (n : Nat) (sem : List D → R D) : Prop where
  ex : ∃ (f : Addr) (fd : FuncData) (ps : List Str), FnOk κ.P κ.w κ.K mg base (L2.CX κ.P κ.w) j f fd ps (spD κ fr n sem) ∧ mg x = some (.ref f) ∧ PySem.W.keepIn κ.K (.ref f) = true ∧ Binds κ.K fd ps []
section
variable {X : Cx} {κ : Kap} {W : WX} {mg : Str → Option Value} {base : Heap} {k : Nat} {N : List Str} {sc : Scope} {own : Str → Bool} {P : PP} {tg e a b c iter elt : Expr} {es ifs : List Expr} {f fa fb fc : EV} {fs : AV} {pos p p1 p2 p3 : Pos} {st : Stmt} {sts : List Stmt} {s u : SV} {x : Str} {i : Nat}
theorem Good.un (G : Good X κ W mg base k N sc own) : X.A.units + 64 < cLine := G.rm.units
theorem Good.gl (G : Good X κ W mg base k N sc own) (h : ckG sc x = true) : Gl X x := by
  have h := (Bool.and_eq_true_iff.mp h).1
  show X.env.scope.names.lookup x = _
  rw [G.hs]; exact gl_of h
theorem ckG_db (h : ckG sc x = true) : (x == ("__debug__" : Str)) = false := (nodbg_of (Bool.and_eq_true_iff.mp h).2).1
theorem ckG_nn (h : ckG sc x = true) : x ≠ "__name__" := fun z => by
  have := (nodbg_of (Bool.and_eq_true_iff.mp h).2).2.2
  rw [z] at this
  simp at this
theorem Good.nth (G : Good X κ W mg base k N sc own) (h : N[i]? = some x) : X.N[i]? = some x := by rw [G.hN]; exact h
theorem Good.nodup (G : Good X κ W mg base k N sc own) : X.N.Nodup := by rw [G.hN]; exact G.nd
theorem g_var (G : Good X κ W mg base k N sc own) (h : ckV N sc i x = true) : PE X (.Name x pos) (tP κ W (PR κ) (eVar i)) := by
  simp only [ckV, Bool.and_eq_true, decide_eq_true_eq] at h
  obtain ⟨h1, h2, h3⟩ := h
  exact n_var (G.nth h1) (by rw [G.hs]; exact vis_of h2) (nodbg_of h3).1 (nodbg_of h3).2.1
theorem g_varB (G : Good X κ W mg base k N sc own) (h : ckV N sc i x = true) : PE X (.Name x pos) (tP κ W (PB κ) (eVarB i)) := by
  simp only [ckV, Bool.and_eq_true, decide_eq_true_eq] at h
  obtain ⟨h1, h2, h3⟩ := h
  exact n_varB (G.nth h1) (by rw [G.hs]; exact vis_of h2) (nodbg_of h3).1 (nodbg_of h3).2.1
theorem g_int {z : Int} {j : Nat} : PE X (.Constant (.int z) j pos) (tP κ W (PR κ) (eCon (.int z))) := n_con pe_int fun _ => .int _
theorem g_bl {z : Bool} {j : Nat} : PE X (.Constant (.bool z) j pos) (tP κ W (PR κ) (eCon (.bl z))) := n_con pe_bl fun _ => .bl _
theorem g_str {z : Str} {j : Nat} : PE X (.Constant (.str z) j pos) (tP κ W (PR κ) (eCon (.str z))) := n_con pe_str fun _ => .str _
theorem g_non {j : Nat} : PE X (.Constant .none j pos) (tP κ W (PR κ) (eCon .non)) := n_con pe_non fun _ => .non
theorem g_glI (G : Good X κ W mg base k N sc own) {z : Int} {t : Tok} (hm : mg x = some (.int z t)) (h : ckG sc x = true) : PE X (.Name x pos) (tP κ W (PR κ) (eCon (.int z))) :=
  n_con (pe_glob (v := .int z) (G.gl h) (by rw [G.hm]; exact hm) ⟨t, rfl⟩ (ckG_db h)) fun _ => .int _
theorem g_glS (G : Good X κ W mg base k N sc own) {z : Str} {t : Tok} (hm : mg x = some (.str z t)) (h : ckG sc x = true) : PE X (.Name x pos) (tP κ W (PR κ) (eCon (.str z))) :=
  n_con (pe_glob (v := .str z) (G.gl h) (by rw [G.hm]; exact hm) ⟨t, rfl⟩ (ckG_db h)) fun _ => .str _
theorem g_glC (G : Good X κ W mg base k N sc own) {z : Nat} (hm : mg x = some (.ref (κ.exc z))) (h : ckG sc x = true) : PE X (.Name x pos) (tP κ W (PR κ) (eCon (.cls z))) :=
  n_con (pe_glob (v := .ref (κ.exc z)) (G.gl h) (by rw [G.hm]; exact hm) rfl (ckG_db h)) fun _ => .cls z
theorem g_ty (G : Good X κ W mg base k N sc own) {z : String} (hm : mg x = none) (hv : bootBuiltins x = some (.type z)) (h : ckG sc x = true) : PE X (.Name x pos) (tP κ W (PR κ) (eCon (.ty z))) :=
  n_con (pe_bltn (v := .ty z) (G.gl h) (by rw [G.hm]; exact hm) hv rfl (ckG_nn h) (ckG_db h)) fun _ => .ty z
/-! operators -/
def negD : D → Option D
  | .int i => some (.int (-i))
  | _ => none
theorem g_neg (ha : PE X a (tP κ W (PB κ) fa)) : PE X (.UnaryOp .USub a pos) (tP κ W (PR κ) (e1 negD fa)) := PE_weak (pe_un un_neg ha) fun σ H Q ⟨ρ, H0, E, S, q⟩ => by
  obtain ⟨ρ1, H01, E1, S1, q1⟩ := fin_bind (P := PB κ) pmR E S q
  refine ⟨ρ1, H01, E1, S1, q1.mono fun v H1 ⟨H02, d, g1, p1, q2⟩ => ?_⟩
  cases d with
  | int z =>
    cases p1.flat (fun _ _ h => h)
    exact ⟨z, rfl, q2 _ _ _ (.refl g1.c) (.int _)⟩
  | _ => exact q2.elim
theorem g_add (G : Good X κ W mg base k N sc own) (ha : PE X a (tP κ W (PB κ) fa)) (hb : PE X b (tP κ W (PB κ) fb)) : PE X (.BinOp a .Add b pos) (tP κ W (PX κ) (e2 addD fa fb)) := n_bin pmX (o_add G.hK) ha hb
theorem g_sub (G : Good X κ W mg base k N sc own) (ha : PE X a (tP κ W (PB κ) fa)) (hb : PE X b (tP κ W (PB κ) fb)) : PE X (.BinOp a .Sub b pos) (tP κ W (PX κ) (e2 subD fa fb)) := n_bin pmX o_sub ha hb
theorem g_mul (G : Good X κ W mg base k N sc own) (ha : PE X a (tP κ W (PB κ) fa)) (hb : PE X b (tP κ W (PB κ) fb)) : PE X (.BinOp a .Mult b pos) (tP κ W (PX κ) (e2 mulD fa fb)) := n_bin pmX (o_mul G.hK) ha hb
theorem g_fdiv (G : Good X κ W mg base k N sc own) (ha : PE X a (tP κ W (PB κ) fa)) (hb : PE X b (tP κ W (PB κ) fb)) : PE X (.BinOp a .FloorDiv b pos) (tP κ W (PX κ) (e2 fdivD fa fb)) := n_bin pmX o_fdiv ha hb
theorem g_mod (G : Good X κ W mg base k N sc own) (ha : PE X a (tP κ W (PB κ) fa)) (hb : PE X b (tP κ W (PB κ) fb)) : PE X (.BinOp a .Mod b pos) (tP κ W (PX κ) (e2 modD fa fb)) := n_bin pmX o_mod ha hb
/-- a comparison's rule, in a known context -/
def CmpOk (X : Cx) (κ : Kap) (op : CmpOp) (g : D → D → Option D) : Prop := OpR X (compareOp op) (rG κ (PR κ) g)
theorem k_eq (G : Good X κ W mg base k N sc own) : CmpOk X κ .Eq eqD := o_eq G.hK G.un
theorem k_ne (G : Good X κ W mg base k N sc own) : CmpOk X κ .NotEq neD := o_ne G.hK G.un
theorem k_lt (G : Good X κ W mg base k N sc own) : CmpOk X κ .Lt ltD := o_lt G.hK G.un
theorem k_le (G : Good X κ W mg base k N sc own) : CmpOk X κ .LtE leD := o_le G.hK G.un
theorem k_gt (G : Good X κ W mg base k N sc own) : CmpOk X κ .Gt gtD := o_gt
theorem k_ge (G : Good X κ W mg base k N sc own) : CmpOk X κ .GtE geD := o_ge
theorem k_in (G : Good X κ W mg base k N sc own) : CmpOk X κ .In (inD false) := o_in G.hK G.un
theorem k_nin (G : Good X κ W mg base k N sc own) : CmpOk X κ .NotIn (inD true) := o_nin G.hK G.un
theorem k_is (G : Good X κ W mg base k N sc own) : CmpOk X κ .Is (isD false) := o_is
theorem k_isn (G : Good X κ W mg base k N sc own) : CmpOk X κ .IsNot (isD true) := o_isnot
theorem g_cmp {op : CmpOp} {g : D → D → Option D} (ho : CmpOk X κ op g) (ha : PE X a (tP κ W (PB κ) fa)) (hb : PE X b (tP κ W (PB κ) fb)) (h : isSet b = false) : PE X (.Compare a [op] [b] pos) (tP κ W (PR κ) (e2 g fa fb)) := n_cmp ho ha hb (behind_of h)
theorem g_cmpT {op : CmpOp} {g : D → D → Option D} (ho : CmpOk X κ op g) (ha : PE X a (tP κ W (PB κ) fa)) (hb : PE X b (tP κ W (PB κ) fb)) (h : isSet b = false) : PT X (.Compare a [op] [b] pos) (tT κ W (tst (e2 g fa fb))) := n_cmpT ho ha hb (behind_of h)
theorem g_cmp3 {op op' : CmpOp} {g g' : D → D → Option D} (ho : CmpOk X κ op g) (ho' : CmpOk X κ op' g') (ha : PE X a (tP κ W (PB κ) fa)) (hb : PE X b (tP κ W (PB κ) fb)) (hc : PE X c (tP κ W (PB κ) fc)) (h : isSet c = false) :
    PE X (.Compare a [op, op'] [b, c] pos) (tP κ W (PR κ) (e3 g g' fa fb fc)) := n_chain ho ho' ha hb hc (last_of h)
theorem g_cmp3T {op op' : CmpOp} {g g' : D → D → Option D} (ho : CmpOk X κ op g) (ho' : CmpOk X κ op' g') (ha : PE X a (tP κ W (PB κ) fa)) (hb : PE X b (tP κ W (PB κ) fb)) (hc : PE X c (tP κ W (PB κ) fc)) (h : isSet c = false) :
    PT X (.Compare a [op, op'] [b, c] pos) (tT κ W (tst (e3 g g' fa fb fc))) := n_chainT ho ho' ha hb hc (last_of h)
theorem g_truth (G : Good X κ W mg base k N sc own) (ha : PE X a (tP κ W (PB κ) fa)) (h : plainT a = true) : PT X a (tT κ W (tru fa)) := n_truth G.hK ha (plainT_of h)
theorem pt_pw {t : TT} (h : PW X e t) : PT X e t := ⟨fun pins s σ H Q I q => h.run (eval e X.env) pins s σ H Q I q⟩
theorem g_andV (G : Good X κ W mg base k N sc own) (ha : PE X a (tP κ W (PR κ) fa)) (hb : PE X (.BoolOp .And (b :: es) pos) (tP κ W (PR κ) fb)) : PE X (.BoolOp .And (a :: b :: es) pos) (tP κ W (PR κ) (eAnd fa fb)) := n_andV G.hK ha hb
theorem g_orV (G : Good X κ W mg base k N sc own) (ha : PE X a (tP κ W (PR κ) fa)) (hb : PE X (.BoolOp .Or (b :: es) pos) (tP κ W (PR κ) fb)) : PE X (.BoolOp .Or (a :: b :: es) pos) (tP κ W (PR κ) (eOr fa fb)) := n_orV G.hK ha hb
theorem g_notV (G : Good X κ W mg base k N sc own) (ha : PE X a (tP κ W (PB κ) fa)) : PE X (.UnaryOp .Not a pos) (tP κ W (PR κ) (eNot fa)) := n_notV G.hK ha
theorem g_ix (G : Good X κ W mg base k N sc own) (ha : PE X a (tP κ W (PB κ) fa)) (hb : PE X b (tP κ W (PB κ) fb)) (h : isSlice b = false) : PE X (.Subscript a b pos) (tP κ W (PR κ) (e2 ixD fa fb)) := n_ix G.hK ha hb (plainIx_of h)
/-! arguments -/
theorem g_nilR : PA X [] (tA κ W (PLR κ) aNil) := n_aNil fun _ _ => .nil
theorem g_nilB : PA X [] (tA κ W (PLB κ) aNil) := n_aNil fun _ _ => .nil
theorem g_consR (h : isStar e = false) (ha : PE X e (tP κ W (PR κ) f)) (hr : PA X es (tA κ W (PLR κ) fs)) : PA X (e :: es) (tA κ W (PLR κ) (aCons f fs)) := n_aConsR ha hr (starEach_cons h)
theorem g_consB (h : isStar e = false) (ha : PE X e (tP κ W (PB κ) f)) (hr : PA X es (tA κ W (PLB κ) fs)) : PA X (e :: es) (tA κ W (PLB κ) (aCons f fs)) := n_aConsB ha hr (starEach_cons h)
/-! calls of built-ins -/
abbrev ns1 (e : Expr) (es : List Expr) : Prop := ((e :: es).all fun e => !isStar e) = true
theorem g_len (G : Good X κ W mg base k N sc own) (hm : mg "len" = none) (h : ckG sc "len" = true) (st : ns1 e es) (ha : PA X (e :: es) (tA κ W (PLB κ) fs)) : PE X (.Call (.Name "len" p) (e :: es) [] pos) (tP κ W (PR κ) (eCallB lenD fs)) :=
  n_callB pmR (c_len G.hK) (G.gl h) (by rw [G.hm]; exact hm) PySem.boot_len ha (ckG_nn h) (ckG_db h) (starEach_cons (stars1 st)) (noStars (stars2 st))
theorem g_all (G : Good X κ W mg base k N sc own) (hm : mg "all" = none) (h : ckG sc "all" = true) (st : ns1 e es) (ha : PA X (e :: es) (tA κ W (PLB κ) fs)) : PE X (.Call (.Name "all" p) (e :: es) [] pos) (tP κ W (PR κ) (eCallB allD fs)) :=
  n_callB pmR (c_all G.hK G.calm) (G.gl h) (by rw [G.hm]; exact hm) (by decide +kernel) ha (ckG_nn h) (ckG_db h) (starEach_cons (stars1 st)) (noStars (stars2 st))
theorem g_any (G : Good X κ W mg base k N sc own) (hm : mg "any" = none) (h : ckG sc "any" = true) (st : ns1 e es) (ha : PA X (e :: es) (tA κ W (PLB κ) fs)) : PE X (.Call (.Name "any" p) (e :: es) [] pos) (tP κ W (PR κ) (eCallB anyD fs)) :=
  n_callB pmR (c_any G.hK G.calm) (G.gl h) (by rw [G.hm]; exact hm) (by decide +kernel) ha (ckG_nn h) (ckG_db h) (starEach_cons (stars1 st)) (noStars (stars2 st))
theorem g_max (G : Good X κ W mg base k N sc own) (hm : mg "max" = none) (h : ckG sc "max" = true) (st : ns1 e es) (ha : PA X (e :: es) (tA κ W (PLB κ) fs)) : PE X (.Call (.Name "max" p) (e :: es) [] pos) (tP κ W (PR κ) (eCallB maxD fs)) :=
  n_callB pmR (c_max G.hK G.calm) (G.gl h) (by rw [G.hm]; exact hm) (by decide +kernel) ha (ckG_nn h) (ckG_db h) (starEach_cons (stars1 st)) (noStars (stars2 st))
theorem g_min (G : Good X κ W mg base k N sc own) (hm : mg "min" = none) (h : ckG sc "min" = true) (st : ns1 e es) (ha : PA X (e :: es) (tA κ W (PLB κ) fs)) : PE X (.Call (.Name "min" p) (e :: es) [] pos) (tP κ W (PR κ) (eCallB minD fs)) :=
  n_callB pmR (c_min G.hK G.calm) (G.gl h) (by rw [G.hm]; exact hm) (by decide +kernel) ha (ckG_nn h) (ckG_db h) (starEach_cons (stars1 st)) (noStars (stars2 st))
theorem g_isi (G : Good X κ W mg base k N sc own) {ok : Nat → Bool} (F : ExcF κ ok) (hm : mg "isinstance" = none) (h : ckG sc "isinstance" = true) (st : ns1 e es) (ha : PA X (e :: es) (tA κ W (PLB κ) fs)) : PE X (.Call (.Name "isinstance" p) (e :: es) [] pos) (tP κ W (PR κ) (eCallB (isiD ok) fs)) :=
  n_callB pmR (c_isi G.hK G.hP G.hw F) (G.gl h) (by rw [G.hm]; exact hm) (by decide +kernel) ha (ckG_nn h) (ckG_db h) (starEach_cons (stars1 st)) (noStars (stars2 st))
theorem g_list (G : Good X κ W mg base k N sc own) (hm : mg "list" = none) (h : ckG sc "list" = true) (st : ns1 e es) (ha : PA X (e :: es) (tA κ W (PLB κ) fs)) : PE X (.Call (.Name "list" p) (e :: es) [] pos) (tP κ W (PX κ) (eCallB listD fs)) :=
  n_callTy pmX (c_list G.hK) (G.gl h) (by rw [G.hm]; exact hm) (by decide +kernel) ha (ckG_nn h) (ckG_db h) (starEach_cons (stars1 st)) (noStars (stars2 st))
theorem g_tuple (G : Good X κ W mg base k N sc own) (hm : mg "tuple" = none) (h : ckG sc "tuple" = true) (st : ns1 e es) (ha : PA X (e :: es) (tA κ W (PLB κ) fs)) : PE X (.Call (.Name "tuple" p) (e :: es) [] pos) (tP κ W (PR κ) (eCallB tupleD fs)) :=
  n_callTy pmR (c_tuple G.hK) (G.gl h) (by rw [G.hm]; exact hm) (by decide +kernel) ha (ckG_nn h) (ckG_db h) (starEach_cons (stars1 st)) (noStars (stars2 st))
theorem g_intC (G : Good X κ W mg base k N sc own) (hm : mg "int" = none) (h : ckG sc "int" = true) (st : ns1 e es) (ha : PA X (e :: es) (tA κ W (PLB κ) fs)) : PE X (.Call (.Name "int" p) (e :: es) [] pos) (tP κ W (PR κ) (eCallB intD fs)) :=
  n_callTy pmR c_int (G.gl h) (by rw [G.hm]; exact hm) (by decide +kernel) ha (ckG_nn h) (ckG_db h) (starEach_cons (stars1 st)) (noStars (stars2 st))
theorem g_strC (G : Good X κ W mg base k N sc own) (hm : mg "str" = none) (h : ckG sc "str" = true) (st : ns1 e es) (ha : PA X (e :: es) (tA κ W (PLB κ) fs)) : PE X (.Call (.Name "str" p) (e :: es) [] pos) (tP κ W (PR κ) (eCallB strD fs)) :=
  n_callTy pmR c_str (G.gl h) (by rw [G.hm]; exact hm) (by decide +kernel) ha (ckG_nn h) (ckG_db h) (starEach_cons (stars1 st)) (noStars (stars2 st))
theorem g_call {j n : Nat} {fr : Bool} {sem : List D → R D} (G : Good X κ W mg base k N sc own) (F : Fc κ mg base j x fr n sem) (hj : j ≤ k) (h : ckG sc x = true) (st : ns1 e es) (ha : PA X (e :: es) (tA κ W (PLR κ) fs)) :
    PE X (.Call (.Name x p) (e :: es) [] pos) (tP κ W (PF κ fr) (eCall n sem fs)) := by
  obtain ⟨f, fd, ps, F, hm, hk, hb⟩ := F.ex
  refine n_call G.tk ⟨f, fd, ps, j, ?_, G.rm.mono hj, by rw [G.hm]; exact hm, by rw [G.hK]; exact hk, by rw [G.hK]; exact hb⟩ (G.gl h) ha (ckG_db h) (starEach_cons (stars1 st)) (noStars (stars2 st))
  rw [G.hP, G.hw, G.hK, G.hm, G.hb]
  exact F
theorem g_callX {j n : Nat} {sem : List D → R D} (G : Good X κ W mg base k N sc own) (F : Fc κ mg base j x true n sem) (hj : j ≤ k) (h : ckG sc x = true) (st : ns1 e es) (ha : PA X (e :: es) (tA κ W (PLR κ) fs)) :
    PE X (.Call (.Name x p) (e :: es) [] pos) (tP κ W (PX κ) (eCall n sem fs)) := g_call G F hj h st ha
theorem g_callR {j n : Nat} {sem : List D → R D} (G : Good X κ W mg base k N sc own) (F : Fc κ mg base j x false n sem) (hj : j ≤ k) (h : ckG sc x = true) (st : ns1 e es) (ha : PA X (e :: es) (tA κ W (PLR κ) fs)) :
    PE X (.Call (.Name x p) (e :: es) [] pos) (tP κ W (PR κ) (eCall n sem fs)) := g_call G F hj h st ha
/-! methods -/
def ckM (o : Expr) (apos pos : Pos) (e : Expr) (es : List Expr) : Bool := (!isCall0 o && (apos.endLine == pos.line)) && (((e :: es).all fun e => !isStar e) && decide (es.length < 20))
theorem ckM_of {o : Expr} {apos pos : Pos} (h : ckM o apos pos e es = true) : isCall0 o = false ∧ (apos.endLine == pos.line) = true ∧ ns1 e es ∧ es.length < 20 := by
  simp only [ckM, Bool.and_eq_true, Bool.not_eq_true', decide_eq_true_eq] at h
  exact ⟨h.1.1, h.1.2, h.2.1, h.2.2⟩
theorem g_join {o : Expr} {apos : Pos} (G : Good X κ W mg base k N sc own) (ck : ckM o apos pos e es = true) (ho : PE X o (tP κ W (PB κ) f)) (ha : PA X (e :: es) (tA κ W (PLB κ) fs)) : PE X (.Call (.Attribute o "join" apos) (e :: es) [] pos) (tP κ W (PR κ) (eMeth "str" joinD f fs)) := by
  obtain ⟨h1, h2, h3, h4⟩ := ckM_of ck
  exact n_meth G.hK pmR PySem.F.plainAttrs_str PySem.F.slot_str_join PySem.F.type_str_join (m_join G.hK) ho ha (base_of h1) (fewArgs h3 h4) h2 (starEach_cons (stars1 h3)) (noStars (stars2 h3))
theorem g_split {o : Expr} {apos : Pos} (G : Good X κ W mg base k N sc own) (ck : ckM o apos pos e es = true) (ho : PE X o (tP κ W (PB κ) f)) (ha : PA X (e :: es) (tA κ W (PLB κ) fs)) : PE X (.Call (.Attribute o "split" apos) (e :: es) [] pos) (tP κ W (PX κ) (eMeth "str" splitD f fs)) := by
  obtain ⟨h1, h2, h3, h4⟩ := ckM_of ck
  exact n_meth G.hK pmX PySem.F.plainAttrs_str PySem.F.slot_str_split PySem.F.type_str_split m_split ho ha (base_of h1) (fewArgs h3 h4) h2 (starEach_cons (stars1 h3)) (noStars (stars2 h3))
theorem g_strip {o : Expr} {apos : Pos} (G : Good X κ W mg base k N sc own) (ck : ckM o apos pos e es = true) (ho : PE X o (tP κ W (PB κ) f)) (ha : PA X (e :: es) (tA κ W (PLB κ) fs)) : PE X (.Call (.Attribute o "strip" apos) (e :: es) [] pos) (tP κ W (PR κ) (eMeth "str" stripD f fs)) := by
  obtain ⟨h1, h2, h3, h4⟩ := ckM_of ck
  exact n_meth G.hK pmR PySem.F.plainAttrs_str PySem.F.slot_str_strip PySem.F.type_str_strip m_strip ho ha (base_of h1) (fewArgs h3 h4) h2 (starEach_cons (stars1 h3)) (noStars (stars2 h3))
/-! iteration -/
theorem aLen1 {ρ : List B} {ds : List D} (h : aCons f aNil ρ = .ok ds) : ds.length = 1 := by
  have h : (f ρ).bind (fun x => (R.ok []).bind fun xs => .ok (x :: xs)) = .ok ds := h
  cases e : f ρ with
  | ok d => rw [e] at h; cases h; rfl
  | ex c vs => rw [e] at h; cases h
  | er => rw [e] at h; cases h
theorem aLen2 {ρ : List B} {ds : List D} (h : aCons f (aCons fa aNil) ρ = .ok ds) : ds.length = 2 := by
  have h : (f ρ).bind (fun x => (aCons fa aNil ρ).bind fun xs => .ok (x :: xs)) = .ok ds := h
  cases e : f ρ with
  | ok d =>
    rw [e] at h
    have h : (aCons fa aNil ρ).bind (fun xs => .ok (d :: xs)) = .ok ds := h
    cases e2 : aCons fa aNil ρ with
    | ok t => rw [e2] at h; cases h; rw [List.length_cons, aLen1 e2]
    | ex c vs => rw [e2] at h; cases h
    | er => rw [e2] at h; cases h
  | ex c vs => rw [e] at h; cases h
  | er => rw [e] at h; cases h
theorem g_rng1 (G : Good X κ W mg base k N sc own) (hm : mg "range" = none) (h : ckG sc "range" = true) (st : isStar a = false) (ha : PE X a (tP κ W (PR κ) fa)) : PI X tg (.Call (.Name "range" p) [a] [] pos) (tI κ W (eRng (aCons fa aNil))) :=
  n_rng1 (G.gl h) (by rw [G.hm]; exact hm) (g_consR st ha g_nilR) (starEach_cons st) fun _ _ h => aLen1 h
theorem g_rng2 (G : Good X κ W mg base k N sc own) (hm : mg "range" = none) (h : ckG sc "range" = true) (st : isStar a = false) (st2 : isStar b = false) (ha : PE X a (tP κ W (PR κ) fa)) (hb : PE X b (tP κ W (PR κ) fb)) : PI X tg (.Call (.Name "range" p) [a, b] [] pos) (tI κ W (eRng (aCons fa (aCons fb aNil)))) :=
  n_rng2 (G.gl h) (by rw [G.hm]; exact hm) (g_consR st ha (g_consR st2 hb g_nilR)) ((starEach_cons st).trans (by rw [starEach_cons st2]; rfl)) (starEach_cons st2) fun _ _ h => aLen2 h
/-! targets -/
theorem ckT_of {own : Str → Bool} (G : Good X κ W mg base k N sc own) (h : ckT N sc own i x = true) : X.N[i]? = some x ∧ Loc X.env.scope x ∧ (X.fn x = true ∨ X.env.scope.names.lookup x = some .local) := by
  simp only [ckT, Bool.and_eq_true, Bool.or_eq_true, decide_eq_true_eq] at h
  rw [G.hs]
  exact ⟨G.nth h.1, loc_of h.2.1, h.2.2.imp (G.own x) lcl_of⟩
theorem g_tgN (G : Good X κ W mg base k N sc own) (h : ckT N sc own i x = true) : PG X (.Name x pos) (tG κ (.nm i)) := by
  obtain ⟨h1, h2, h3⟩ := ckT_of G h
  exact n_gName G.nodup h1 h2 h3
theorem g_tgNil : PGs X [] (tGs κ []) := n_gsNil
theorem g_tgCons {is : List Nat} (G : Good X κ W mg base k N sc own) (h : ckT N sc own i x = true) (hr : PGs X es (tGs κ is)) : PGs X (.Name x p :: es) (tGs κ (i :: is)) := by
  obtain ⟨h1, h2, h3⟩ := ckT_of G h
  exact n_gsCons G.nodup h1 h2 h3 hr rfl
def nmsB : List Expr → Bool
  | [] => true
  | .Name _ _ :: r => nmsB r
  | _ :: _ => false
theorem asg_len {env : Env} : ∀ {es : List Expr}, nmsB es = true → (assignEach es env).length = es.length ∧ (assignEach es env).findIdx? (·.1) = none
  | [], _ => ⟨rfl, rfl⟩
  | .Name x p :: r, h => by
    obtain ⟨h1, h2⟩ := asg_len (env := env) (es := r) h
    have e : ∃ q, assignEach (.Name x p :: r) env = (false, q) :: assignEach r env := ⟨_, rfl⟩
    obtain ⟨q, e⟩ := e
    rw [e]
    exact ⟨by simp [h1], by simp [List.findIdx?_cons, h2]⟩
theorem g_tgT {j : Nat} {is : List Nat} (G : Good X κ W mg base k N sc own) (ck : nmsB es = true) (hl : es.length = is.length) (h : PGs X es (tGs κ is)) : PG X (.Tuple es j pos) (tG κ (.tp is)) :=
  n_gTup G.hK G.calm h ((asg_len ck).1.trans hl) (asg_len ck).2
/-! comprehensions -/
theorem takes_blk {X : Cx} (h : X.xe = fun _ _ => False) : Takes X W0 := fun u s' ⟨_, _, _, _, _, _, _, _, _, _, _, _, _, _, _, _, w⟩ => w.elim
theorem Good.blk (G : Good X κ W mg base k N sc own) {s : Shared} {H : Hp} {scope : Scope} {C : Addr} {cl : List (Str × Addr)} {fp : List Addr} :
    Good (X.blk s H scope (compEnvC scope cl C X.env) fp) κ W0 mg base k N (relS scope sc) (fun x => scope.names.lookup x == some .cell) :=
  ⟨G.hK, G.hP, G.hw, G.hm, G.hb, G.hN, G.nd, by show relS scope X.env.scope = _; rw [G.hs], fun _ h => h, G.calm, takes_blk rfl, G.rm⟩
abbrev cellOwn (scope : Scope) : Str → Bool := fun x => scope.names.lookup x == some .cell
theorem g_lc {scope : Scope} {own' : List (Str × Nat)} {it : AV} {t : Tgt} {tt : List B → R Bool} (G : Good X κ W mg base k N sc own) (ck : blkC N sc scope own' = true) (hs : isSet iter = false) (hv : (t.slots.all fun i => (own'.map (·.2)).contains i) = true) (hi : PI X tg iter (tI κ W it))
    (hg : ∀ X', Good X' κ W0 mg base k N (relS scope sc) (cellOwn scope) → PG X' tg (tG κ t)) (ht : ∀ X', Good X' κ W0 mg base k N (relS scope sc) (cellOwn scope) → PTs X' ifs (tT κ W0 tt))
    (he : ∀ X', Good X' κ W0 mg base k N (relS scope sc) (cellOwn scope) → PE X' elt (tP κ W0 (PR κ) f)) : PE X (.ListComp elt [⟨tg, iter, ifs, 0⟩] scope pos) (tP κ W (PX κ) (eLc it t tt f (own'.map (·.2)))) :=
  n_lc G.calm G.nodup hi (by rw [G.hN, G.hs]; exact blkOk_by ck) (fun _ _ _ _ _ => hg _ G.blk) (fun _ _ _ _ _ => ht _ G.blk) (fun _ _ _ _ _ => he _ G.blk) (folded_of hs) fun i h => by
    have := (List.all_eq_true.mp hv) i h
    simpa using this
theorem g_t0 {W : WX} : PTs X [] (tT κ W (fun _ => .ok true)) := n_tsNil
end
end QY

/-! Statements in a known context; a def as a fact. -/
namespace QY
open PySem PySem.Spec PyProof.Rows L2
section
variable {X : Cx} {κ : Kap} {W : WX} {mg : Str → Option Value} {base : Heap} {k : Nat} {N : List Str} {sc : Scope} {own : Str → Bool} {P : PP} {tg e a b c iter elt : Expr} {es ifs : List Expr} {f fa fb fc : EV} {fs : AV} {pos p p1 p2 p3 : Pos} {st : Stmt} {sts : List Stmt} {s u : SV} {x : Str} {i : Nat}
theorem g_setR (G : Good X κ W mg base k N sc own) (ck : ckT N sc own i x = true) (h : isLcs e = false) (he : PE X e (tP κ W (PR κ) f)) : PS X (.Assign [.Name x p] e pos) (tS κ W (sSet i f)) := by
  obtain ⟨h1, h2, h3⟩ := ckT_of G ck
  exact n_setR G.nodup h1 h2 he (sw_of h) h3
theorem g_setX (G : Good X κ W mg base k N sc own) (ck : ckT N sc own i x = true) (h : isLcs e = false) (he : PE X e (tP κ W (PX κ) f)) : PS X (.Assign [.Name x p] e pos) (tS κ W (sSetX i f)) := by
  obtain ⟨h1, h2, h3⟩ := ckT_of G ck
  exact n_setX G.nodup h1 h2 he (sw_of h) h3
def ckL (N : List Str) (sc scope : Scope) (i : Nat) (x : Str) (py pos : Pos) : Bool := (decide (N[i]? = some x) && lclB sc x) && ((py.line == pos.line) && (!(scope.names.any fun (n, k) => n == x && (k == .local || k == .cell)) && (match sc.kind with | .function => true | _ => false)))
theorem g_setLc {scope : Scope} {own' : List (Str × Nat)} {it : AV} {t : Tgt} {tt : List B → R Bool} {spos : Pos} (G : Good X κ W mg base k N sc own) (ckl : ckL N sc scope i x p pos = true) (ck : blkC N sc scope own' = true) (hs : isSet iter = false) (hv : (t.slots.all fun i => (own'.map (·.2)).contains i) = true) (hi : PI X tg iter (tI κ W it))
    (hg : ∀ X', Good X' κ W0 mg base k N (relS scope sc) (cellOwn scope) → PG X' tg (tG κ t)) (ht : ∀ X', Good X' κ W0 mg base k N (relS scope sc) (cellOwn scope) → PTs X' ifs (tT κ W0 tt))
    (he : ∀ X', Good X' κ W0 mg base k N (relS scope sc) (cellOwn scope) → PE X' elt (tP κ W0 (PR κ) f)) : PS X (.Assign [.Name x p] (.ListComp elt [⟨tg, iter, ifs, 0⟩] scope pos) spos) (tS κ W (sSetX i (eLc it t tt f (own'.map (·.2))))) := by
  simp only [ckL, Bool.and_eq_true, Bool.not_eq_true', decide_eq_true_eq] at ckl
  obtain ⟨⟨h1, h2⟩, h3, h4, h5⟩ := ckl
  have hk : X.env.scope.kind = .function := by
    rw [G.hs]
    split at h5
    · assumption
    · cases h5
  have hl := lcl_of h2
  exact n_setLc G.calm G.nodup (G.nth h1) (by rw [G.hs]; exact hl) (sw_true hk (by rw [G.hs]; exact hl) h3 h4) hi (by rw [G.hN, G.hs]; exact blkOk_by ck) (fun _ _ _ _ _ => hg _ G.blk) (fun _ _ _ _ _ => ht _ G.blk) (fun _ _ _ _ _ => he _ G.blk) (folded_of hs) fun i h => by
    have := (List.all_eq_true.mp hv) i h
    simpa using this
theorem g_setT {j : Nat} {is : List Nat} (h : isLcs e = false) (h2 : isTup e = false) (he : PE X e (tP κ W (PR κ) f)) (hg : PG X (.Tuple es j p) (tG κ (.tp is))) : PS X (.Assign [.Tuple es j p] e pos) (tS κ W (sTup is f)) :=
  n_setT he hg (swS_of h) (swp_of h2) rfl
theorem g_drop (h : isLcs e = false) (he : PE X e (tP κ W (PR κ) f)) : PS X (.Expr e pos) (tS κ W (sDrop f)) := n_drop he (sw_of h)
theorem g_for {it : AV} {t : Tgt} (G : Good X κ W mg base k N sc own) (hp : PassesOwn (model X.prog X.w) X.A X.env X.xe) (h : isSet iter = false) (hi : PI X tg iter (tI κ W it)) (hg : PG X tg (tG κ t)) (hb : PSs X sts (tS κ W s)) :
    PS X (.For tg iter sts [] pos) (tS κ W (sFor it t s)) := n_for hp G.calm hi hg hb (folded_of h)
/-! return, the value perhaps a name of an owned list -/
def tRt (κ : Kap) (W : WX) (f : EV) : TE := fun σ H Q => ∃ ρ Hk Hin0 Hin H0, SR κ Hk Hin0 Hin H0 σ H ρ ∧ (match f ρ with
  | .ok d => ∀ v H0' H', Grow Hin0 Hin H0' H' → PX κ Hin H0' H' v d → Q v H'
  | .ex c vs => ∀ dx H0' H', Grow H0 H H0' H' → ExD κ H0' dx vs → W (.ref (κ.exc c)) dx σ H'
  | .er => False)
theorem n_retT (he : PE X e (tRt κ W f)) : PS X (.Return (some e) pos) (tS κ W (sRetX f)) := PS_weak (ps_ret he) fun D σ H ⟨ρ, Hk, Hin0, Hin, H0, S, q⟩ => by
  refine ⟨ρ, Hk, Hin0, Hin, H0, S, ?_⟩
  have q : FinS κ W D Hk Hin0 Hin (sE f (fun d _ => .rt d true) ρ) := q
  unfold sE at q
  cases e : f ρ with
  | ok d => rw [e] at q; exact q
  | ex c vs => rw [e] at q; exact fun dx H0' H' g x => q σ H0' H' dx (S.grow g) x
  | er => rw [e] at q; exact q
theorem n_rtX (he : PE X e (tP κ W (PX κ) f)) : PE X e (tRt κ W f) := PE_weak he fun σ H Q ⟨ρ, Hk, Hin0, Hin, H0, S, q⟩ => by
  refine ⟨ρ, H0, S.g.c, S.s, ?_⟩
  cases e : f ρ with
  | ok d => rw [e] at q; exact fun v H0' H' g p => q v H0' H' (S.g.trans g) (pmX _ _ _ _ _ _ S.g.b p)
  | ex c vs => rw [e] at q; exact q
  | er => rw [e] at q; exact q
def eVarX (i : Nat) : EV := fun ρ => match ρ[i]? with
  | some (.ow d) => .ok d
  | some (.fz d) => if isL d then .er else .ok d
  | _ => .er
theorem g_rtV (G : Good X κ W mg base k N sc own) (h : ckV N sc i x = true) : PE X (.Name x pos) (tRt κ W (eVarX i)) := by
  simp only [ckV, Bool.and_eq_true, decide_eq_true_eq] at h
  obtain ⟨h1, h2, h3⟩ := h
  refine PE_weak (pe_var (G.nth h1) (by rw [G.hs]; exact vis_of h2) (nodbg_of h3).1 (nodbg_of h3).2.1) fun σ H Q ⟨ρ, Hk, Hin0, Hin, H0, S, q⟩ => ?_
  have q : (match eVarX i ρ with
    | .ok d => ∀ v H0' H', Grow Hin0 Hin H0' H' → PX κ Hin H0' H' v d → Q v H'
    | .ex c vs => ∀ dx H0' H', Grow H0 H H0' H' → ExD κ H0' dx vs → W (.ref (κ.exc c)) dx σ H'
    | .er => False) := q
  cases e : ρ[i]? with
  | none => simp only [eVarX, e] at q
  | some z =>
    cases z with
    | no => simp only [eVarX, e] at q
    | ow d =>
      simp only [eVarX, e] at q
      obtain ⟨a, hs, n, o⟩ := S.s.ow i d e
      refine ⟨_, hs, q _ H0 H S.g ?_⟩
      cases d with
      | lst ds => exact ⟨a, rfl, S.z i _ a e hs, n, o⟩
      | dct ks vs => exact ⟨a, rfl, S.z i _ a e hs, n, o⟩
      | dat b ks vs => exact ⟨a, rfl, S.z i _ a e hs, n, o⟩
      | _ => exact o.elim
    | fz d =>
      simp only [eVarX, e] at q
      obtain ⟨v, hs, r⟩ := S.s.fz i d e
      cases d with
      | lst ds => exact q.elim
      | dct ks vs => exact q.elim
      | dat b ks vs => exact q.elim
      | _ => exact ⟨v, hs, q v H0 H S.g r⟩
theorem n_rtIf {t : List B → R Bool} (hc : PT X c (tT κ W t)) (ha : PE X a (tRt κ W fa)) (hb : PE X b (tRt κ W fb)) : PE X (.IfExp c a b pos) (tRt κ W (eIf t fa fb)) := PE_weak (pe_ifExp hc ha hb) fun σ H Q ⟨ρ, Hk, Hin0, Hin, H0, S, q⟩ => by
  refine ⟨ρ, H0, S.g.c, S.s, ?_⟩
  unfold eIf at q
  cases e : t ρ with
  | ok v =>
    rw [e] at q
    intro H0' H' g
    cases v with
    | true => rw [if_pos rfl]; exact ⟨ρ, Hk, Hin0, Hin, H0', S.grow g, by
        have q : (match fa ρ with
          | .ok d => ∀ v H0' H', Grow Hin0 Hin H0' H' → PX κ Hin H0' H' v d → Q v H'
          | .ex c vs => ∀ dx H0' H', Grow H0 H H0' H' → ExD κ H0' dx vs → W (.ref (κ.exc c)) dx σ H'
          | .er => False) := q
        cases e2 : fa ρ with
        | ok d => rw [e2] at q; exact q
        | ex c vs => rw [e2] at q; exact fun dx a b k x => q dx a b (g.trans k) x
        | er => rw [e2] at q; exact q⟩
    | false => rw [if_neg Bool.false_ne_true]; exact ⟨ρ, Hk, Hin0, Hin, H0', S.grow g, by
        have q : (match fb ρ with
          | .ok d => ∀ v H0' H', Grow Hin0 Hin H0' H' → PX κ Hin H0' H' v d → Q v H'
          | .ex c vs => ∀ dx H0' H', Grow H0 H H0' H' → ExD κ H0' dx vs → W (.ref (κ.exc c)) dx σ H'
          | .er => False) := q
        cases e2 : fb ρ with
        | ok d => rw [e2] at q; exact q
        | ex c vs => rw [e2] at q; exact fun dx a b k x => q dx a b (g.trans k) x
        | er => rw [e2] at q; exact q⟩
  | ex c vs => rw [e] at q; exact q
  | er => rw [e] at q; exact q
theorem g_retV (G : Good X κ W mg base k N sc own) (h : ckV N sc i x = true) : PS X (.Return (some (.Name x p)) pos) (tS κ W (sRetV i)) := by
  simp only [ckV, Bool.and_eq_true, decide_eq_true_eq] at h
  obtain ⟨h1, h2, h3⟩ := h
  exact n_retV (G.nth h1) (by rw [G.hs]; exact vis_of h2) (nodbg_of h3).1 (nodbg_of h3).2.1
/-! methods of an owned list -/
theorem g_app {apos : Pos} (G : Good X κ W mg base k N sc own) (h : ckV N sc i x = true) (ck : ckM (.Name x p) apos p1 e es = true) (ha : PA X (e :: es) (tA κ W (PLR κ) fs)) :
    PS X (.Expr (.Call (.Attribute (.Name x p) "append" apos) (e :: es) [] p1) pos) (tS κ W (sMut gApp i fs)) := by
  simp only [ckV, Bool.and_eq_true, decide_eq_true_eq] at h
  obtain ⟨h1, h2, h3⟩ := h
  obtain ⟨k1, k2, k3, k4⟩ := ckM_of ck
  exact n_mut G.hK PySem.F.slot_list_append PySem.F.type_list_append mt_append r_app (G.nth h1) (by rw [G.hs]; exact vis_of h2) (nodbg_of h3).1 (nodbg_of h3).2.1 ha (base_of k1) (fewArgs k3 k4) k2 (starEach_cons (stars1 k3)) (noStars (stars2 k3)) (sw_of rfl)
theorem g_popAt {apos : Pos} (G : Good X κ W mg base k N sc own) (h : ckV N sc i x = true) (ck : ckM (.Name x p) apos p1 e es = true) (ha : PA X (e :: es) (tA κ W (PLR κ) fs)) :
    PS X (.Expr (.Call (.Attribute (.Name x p) "pop" apos) (e :: es) [] p1) pos) (tS κ W (sMut gPopAt i fs)) := by
  simp only [ckV, Bool.and_eq_true, decide_eq_true_eq] at h
  obtain ⟨h1, h2, h3⟩ := h
  obtain ⟨k1, k2, k3, k4⟩ := ckM_of ck
  exact n_mut G.hK PySem.F.slot_list_pop PySem.F.type_list_pop mt_popAt r_popAt (G.nth h1) (by rw [G.hs]; exact vis_of h2) (nodbg_of h3).1 (nodbg_of h3).2.1 ha (base_of k1) (fewArgs k3 k4) k2 (starEach_cons (stars1 k3)) (noStars (stars2 k3)) (sw_of rfl)
/-! raise, try -/
structure RaiseK (κ : Kap) (c : Nat) : Prop where
  ex : PySem.W.excIn κ.K (κ.exc c) [.type "ValueError", .type "Exception", .type "BaseException", .type "object"] "ValueError.__new__" = true
  kp : PySem.W.keepIn κ.K (.ref (κ.exc c)) = true
  sb : PySem.W.subIn κ.K (.ref (κ.exc c)) (.type "BaseException") = some true
  ty : PySem.W.typeIn κ.K (.ref (κ.exc c)) = some (.type "type")
theorem g_raise {m : Str} {z j : Nat} (G : Good X κ W mg base k N sc own) (F : RaiseK κ z) (hm : mg x = some (.ref (κ.exc z))) (h : ckG sc x = true) : PS X (.Raise (some (.Call (.Name x p) [.Constant (.str m) j p2] [] p3)) none pos) (tS κ W (sRaise z)) :=
  n_raise G.calm G.tk ⟨by rw [G.hm]; exact hm, by rw [G.hK]; exact F.ex, by rw [G.hK]; exact F.kp, by rw [G.hK]; exact F.sb, by rw [G.hK]; exact F.ty⟩ (G.gl h) (ckG_db h)
theorem Good.tr (G : Good X κ W mg base k N sc own) {W' : WX} {pn : List (Addr × Obj)} {xe : Value → Shared → Prop} (tk : Takes (X.tr pn xe) W') : Good (X.tr pn xe) κ W' mg base k N sc own :=
  ⟨G.hK, G.hP, G.hw, G.hm, G.hb, G.hN, G.nd, G.hs, G.own, G.calm, tk, G.rm⟩
def ckY (N : List Str) (sc : Scope) (i j : Nat) (n y : Str) : Bool := (decide (N[i]? = some n) && decide (N[j]? = some y)) && ((lclB sc n && lclB sc y) && (nodbg n && decide (i ≠ j)))
/-- the frame's own facts, for a try -/
structure Top (X : Cx) : Prop where
  hs : X.stack = X.env :: X.outer
  hf : X.env.frame = some X.env.locals
  hex : X.ex = []
theorem g_try {n y : Str} {z i j : Nat} {body : List Stmt} {np kp np2 ap pos' : Pos} {ok : Nat → Bool} (G : Good X κ W mg base k N sc own) (T : Top X) (ck : ckY N sc i j n y = true) (hm : mg x = some (.ref (κ.exc z))) (h : ckG sc x = true)
    (hq : ∀ c', ok c' = true → PySem.W.exmOne κ.K (.ref (κ.exc c')) (.ref (κ.exc z)) = some true)
    (hb : ∀ (X' : Cx) (W' : WX), Good X' κ W' mg base k N sc own → PassesOwn (model X'.prog X'.w) X'.A X'.env X'.xe → PSs X' body (tS κ W' s)) :
    PS X (.Try body [.ExceptHandler (some (.Name x np)) (some n) [.Assign [.Name y kp] (.Name n np2) ap] pos'] [] [] pos) (tS κ W (sTry i j ok s)) := by
  simp only [ckY, Bool.and_eq_true, decide_eq_true_eq] at ck
  obtain ⟨⟨h1, h2⟩, ⟨h3, h4⟩, h5, h6⟩ := ck
  exact n_try G.hK T.hs T.hf T.hex G.nodup (G.nth h1) (G.nth h2) h6 (by show X.env.scope.names.lookup n = _; rw [G.hs]; exact lcl_of h3) (by show X.env.scope.names.lookup y = _; rw [G.hs]; exact lcl_of h4) (nodbg_of h5).1 (nodbg_of h5).2.1
    ⟨G.gl h, ckG_db h, .inl (by rw [G.hm]; exact hm)⟩ G.tk hq fun W' pn xe tk ps => hb (X.tr pn xe) W' (G.tr tk) ps
end

/-! ### a def as a fact -/
section
variable {κ : Kap} {mg : Str → Option Value} {base : Heap} {N ps : List Str} {k n : Nat} {x : Str} {st : Stmt} {f : Addr} {fd : FuncData}
/-- what a def tells: a list as a new one -/
def finX (o : O) : R D := match o with
  | .nx _ => .ok .non
  | .rt d b => if b || !isL d then .ok d else .er
  | .ex c vs _ => .ex c vs
  | _ => .er
theorem good_of {qual : Str} {cdv : Value} {A : Around} {outer : List Env} {s : Shared} {H : Hp} {E : XK} (S : FnScope N ps (defScope st)) (hr : Room k (A.deeper (envOfC qual (defScope st) s.heap.objs.size f cdv))) :
    Good (cxOf (L2.CX κ.P κ.w) κ.P κ.w κ.K mg base N qual (defScope st) f cdv A outer s H E) κ (fun cls d _ H => E cls d H) mg base k N (defScope st) (fun _ => true) :=
  ⟨rfl, rfl, rfl, rfl, rfl, rfl, S.nd, rfl, fun _ _ => rfl, rfl, takes_of rfl rfl rfl rfl, hr⟩
/-- a def by the meaning of its body -/
theorem fc_of {m : SV} {fr : Bool} (F : Fun κ.K x x st f fd) (hm : mg x = some (.ref f)) (S : FnScope N ps (defScope st)) (hp : ps.length = n) (bd : Binds κ.K fd ps [])
    (hb : ∀ (X : Cx) (W : WX), Good X κ W mg base k N (defScope st) (fun _ => true) → PassesOwn (model X.prog X.w) X.A X.env X.xe → Top X → PSs X (defBody st) (tS κ W m)) :
    Fc κ mg base (k + 1) x fr n (fun ds => if ds.length = n then (if fr then finX (m (env0 N ds)) else fin (m (env0 N ds))) else .er) := by
  refine ⟨f, fd, ps, fn_ok (fun _ => m) F S hp (fun cdv A outer s H E ds hr => hb _ _ (good_of S hr) (passes_of rfl) ⟨rfl, rfl, rfl⟩) (fun ds hl => ?_), hm, F.kp, bd⟩
  cases fr with
  | false => exact .inr ⟨by rw [if_pos hl]; rfl, fun z => by cases z⟩
  | true =>
    rw [if_pos hl, if_pos rfl]
    cases e : m (env0 N ds) with
    | rt d b =>
      by_cases hd : (b || !isL d) = true
      · refine .inr ⟨by show (if (b || !isL d) = true then R.ok d else .er) = _; rw [if_pos hd]; rfl, fun _ d' b' z => ?_⟩
        cases z
        cases b with
        | true => exact .inl rfl
        | false => exact .inr (by simpa using hd)
      · exact .inl (by show (if (b || !isL d) = true then R.ok d else .er) = _; rw [if_neg hd])
    | nx ρ => exact .inr ⟨rfl, fun _ d b z => by cases z⟩
    | ex c vs ρ => exact .inr ⟨rfl, fun _ d b z => by cases z⟩
    | bk ρ => exact .inl rfl
    | ct ρ => exact .inl rfl
    | er => exact .inl rfl
    | rw d ρ => exact .inl rfl
/-- another meaning, as good where it tells -/
theorem Fc.imp {j : Nat} {fr : Bool} {sem sem' : List D → R D} (F : Fc κ mg base j x fr n sem) (h : ∀ ds, ds.length = n → sem' ds = .er ∨ sem' ds = sem ds) : Fc κ mg base j x fr n sem' := by
  obtain ⟨f, fd, ps, F, a, b, c⟩ := F.ex
  refine ⟨f, fd, ps, F.imp fun vs H Q E ⟨H0, ds, e, r, hl, q⟩ => ⟨H0, ds, e, r, hl, ?_⟩, a, b, c⟩
  rcases h ds hl with z | z
  · rw [z] at q; exact q.elim
  · rw [z] at q; exact q
end
end QY

/-! list.count, list.index of plain items; what is no list, told. -/
namespace QY
open PySem PySem.Spec PyProof.Rows L2
def flatD : D → Bool
  | .non => true
  | .bl _ => true
  | .int _ => true
  | .str _ => true
  | _ => false
def eqF : D → D → Bool
  | .non, .non => true
  | .bl a, .bl b => a == b
  | .bl a, .int b => (if a then 1 else 0) == b
  | .int a, .bl b => a == (if b then 1 else 0)
  | .int a, .int b => a == b
  | .str a, .str b => a == b
  | _, _ => false
def toV : D → V
  | .bl b => .bl b
  | .int i => .int i
  | .str s => .str s
  | _ => .non
section
variable {X : Cx} {κ : Kap} {W : WX} {mg : Str → Option Value} {base : Heap} {k : Nat} {N : List Str} {sc : Scope} {own : Str → Bool} {e a b : Expr} {es : List Expr} {f fa fb : EV} {fs : AV} {pos p p1 : Pos}
theorem Rep.toV {H : Hp} {v : V} {d : D} (r : Rep κ H v d) (h : flatD d = true) : v = QY.toV d := by
  cases r <;> first | rfl | cases h
theorem Reps.toV {H : Hp} : ∀ {vs : List V} {ds : List D}, Reps κ H vs ds → ds.all flatD = true → vs = ds.map QY.toV
  | _, _, .nil, _ => rfl
  | _, _, .cons r t, h => by
    obtain ⟨h1, h2⟩ := Bool.and_eq_true_iff.mp (show (flatD _ && List.all _ flatD) = true from h)
    rw [r.toV h1, Reps.toV t h2]; rfl
theorem flatV_toV (d : D) : flatV (QY.toV d) = true := by cases d <;> rfl
theorem flatV_all (ds : List D) : (ds.map QY.toV).all flatV = true := by
  rw [List.all_map, List.all_eq_true]; exact fun d _ => flatV_toV d
theorem eqV_toV {a b : D} (ha : flatD a = true) (hb : flatD b = true) : eqV (QY.toV a) (QY.toV b) = eqF a b := by
  cases a <;> cases b <;> first | rfl | exact Bool.noConfusion ha | exact Bool.noConfusion hb
def rCountF (K : PySem.W.Frag) : V → List V → Hp → VK → Prop := fun x xs H Q => ∃ (a : Addr) (ys : List V) (y : V), x = V.ref a ∧ xs = [y] ∧ SqL K H a ys ∧ flatV y = true ∧ ys.all flatV = true ∧ Q (.int (ys.countP (fun z => eqV z y) : Nat)) H
theorem count_eqU {y : V} : ∀ {ys : List V} {us : List Value}, Vals ys us → ys.all flatV = true → us.countP (eqU y) = ys.countP (fun z => eqV z y)
  | _, _, .nil, _ => rfl
  | z :: ys, u :: us, .cons r t, h => by
    obtain ⟨h1, h2⟩ := Bool.and_eq_true_iff.mp (show (flatV z && ys.all flatV) = true from h)
    rw [List.countP_cons, List.countP_cons, count_eqU t h2, eqU_of r h1]
theorem mt_countF : MtR X "list.count" (rCountF X.K) := by
  intro pins s σ H x xs v us Q I rx rxs h
  obtain ⟨a, ys, y, rfl, rfl, hs, fy, fys, q⟩ := h
  cases rx
  cases rxs with
  | cons ry rt =>
    rename_i uy ut
    cases rt
    obtain ⟨its, rv, ⟨⟨cls, dd, data, sl⟩, n, ho, hc, hdn, hd⟩, hlen⟩ := I.list hs
    simp only at hc hd
    subst hc hd
    refine call_meets PySem.F.slot_list_count ⟨_, ho, rfl⟩ PySem.F.entry_list_count (PySem.F.args_list_count_2 _ _)
      (SeqAt.list_countAt a its.toArray n dd sl uy (eqU y)) ⟨ho, fun u' hu' => mem_eqAt ry fy rv fys u' (by simpa using hu'), ?_⟩
    have ec : its.toArray.toList.countP (eqU y) = ys.countP (fun z => eqV z y) := count_eqU rv fys
    refine ⟨.int (ys.countP (fun z => eqV z y) : Nat), H, I.tok _, ⟨s.toks, ?_⟩, q⟩
    show Value.int ((its.toArray.toList.countP (eqU y) : Nat) : Int) s.toks = _
    rw [ec]
def countD : D → List D → Option D
  | .lst ds, [d] => if flatD d && ds.all flatD then some (.int (ds.countP fun z => eqF z d : Nat)) else none
  | _, _ => none
theorem countP_toV {d : D} (hd : flatD d = true) : ∀ {ds : List D}, ds.all flatD = true → (ds.map QY.toV).countP (fun z => eqV z (QY.toV d)) = ds.countP fun z => eqF z d
  | [], _ => rfl
  | z :: ds, h => by
    obtain ⟨h1, h2⟩ := Bool.and_eq_true_iff.mp (show (flatD z && ds.all flatD) = true from h)
    rw [List.map_cons, List.countP_cons, List.countP_cons, countP_toV hd h2, eqV_toV h1 hd]
theorem m_count (hK : X.K = κ.K) : MtR X "list.count" (rM κ (PR κ) countD) := MtR_of fun dx ds d e => by
  unfold countD at e
  split at e
  · split at e
    · rename_i ds d' hz
      cases e
      obtain ⟨h1, h2⟩ := Bool.and_eq_true_iff.mp hz
      exact MtR_weak mt_countF fun x vs H Q ⟨H0, E, bv, bx, q⟩ => by
        obtain ⟨v, rfl, b⟩ := bx.one
        obtain ⟨p, ws, rfl, ea, ra⟩ := bv.lst E
        have rd : Rep κ H0 v d' := b.flat (fun _ ho h => by cases d' <;> first | exact h | cases h1)
        obtain rfl := rd.toV h1
        obtain rfl := ra.toV h2
        refine ⟨p, _, _, rfl, rfl, by rw [hK]; exact .of ea, flatV_toV _, flatV_all _, ?_⟩
        rw [countP_toV h1 h2]
        exact q _ _ _ (.refl E) (.int _)
    · cases e
  · cases e
/-- the first place of an equal one -/
def fstD (d : D) : List D → Option Nat
  | [] => none
  | z :: r => if eqF z d then some 0 else (fstD d r).map (· + 1)
theorem fstD_spec {d : D} (hd : flatD d = true) : ∀ {ds : List D} {j : Nat}, ds.all flatD = true → fstD d ds = some j → ∃ z, ds[j]? = some z ∧ eqF z d = true ∧ ∀ (m : Nat) (z' : D), m < j → ds[m]? = some z' → eqF z' d = false
  | [], _, _, h => by cases h
  | z :: r, j, ha, h => by
    obtain ⟨h1, h2⟩ := Bool.and_eq_true_iff.mp (show (flatD z && r.all flatD) = true from ha)
    have h : (if eqF z d then some 0 else (fstD d r).map (· + 1)) = some j := h
    by_cases hz : eqF z d = true
    · rw [if_pos hz] at h
      cases h
      exact ⟨z, rfl, hz, fun m z' hm => by omega⟩
    · rw [if_neg hz] at h
      cases e : fstD d r with
      | none => rw [e] at h; cases h
      | some i =>
        rw [e] at h
        cases h
        obtain ⟨z2, k1, k2, k3⟩ := fstD_spec hd h2 e
        refine ⟨z2, by simpa using k1, k2, fun m z' hm he => ?_⟩
        cases m with
        | zero => simp at he; subst he; simpa using hz
        | succ m => exact k3 m z' (Nat.lt_of_succ_lt_succ hm) (by simpa using he)
def indexD : D → List D → Option D
  | .lst ds, [d] => if flatD d && ds.all flatD then (fstD d ds).map fun j => .int (j : Nat) else none
  | _, _ => none
theorem m_index (hK : X.K = κ.K) : MtR X "list.index" (rM κ (PR κ) indexD) := MtR_of fun dx ds d e => by
  unfold indexD at e
  split at e
  · split at e
    · rename_i ds d' hz
      obtain ⟨h1, h2⟩ := Bool.and_eq_true_iff.mp hz
      cases ef : fstD d' ds with
      | none => rw [ef] at e; cases e
      | some j =>
        rw [ef] at e
        cases e
        obtain ⟨z, k1, k2, k3⟩ := fstD_spec h1 h2 ef
        exact MtR_weak mt_index fun x vs H Q ⟨H0, E, bv, bx, q⟩ => by
          obtain ⟨v, rfl, b⟩ := bx.one
          obtain ⟨p, ws, rfl, ea, ra⟩ := bv.lst E
          have rd : Rep κ H0 v d' := b.flat (fun _ ho h => by cases d' <;> first | exact h | cases h1)
          obtain rfl := rd.toV h1
          obtain rfl := ra.toV h2
          have fl : ∀ {m : Nat} {z : D}, ds[m]? = some z → flatD z = true := fun h => List.all_eq_true.mp h2 _ (List.mem_of_getElem? h)
          refine ⟨p, _, _, j, QY.toV z, rfl, rfl, by rw [hK]; exact .of ea, flatV_toV _, flatV_all _, by rw [List.getElem?_map, k1]; rfl, by rw [eqV_toV (fl k1) h1]; exact k2, fun m z' hm he => ?_, q _ _ _ (.refl E) (.int _)⟩
          rw [List.getElem?_map] at he
          cases ez : ds[m]? with
          | none => rw [ez] at he; cases he
          | some z2 =>
            rw [ez] at he
            cases he
            rw [eqV_toV (fl ez) h1]
            exact k3 m z2 hm ez
    · cases e
  · cases e
theorem g_count {o : Expr} {apos : Pos} (G : Good X κ W mg base k N sc own) (ck : ckM o apos pos e es = true) (ho : PE X o (tP κ W (PB κ) f)) (ha : PA X (e :: es) (tA κ W (PLB κ) fs)) : PE X (.Call (.Attribute o "count" apos) (e :: es) [] pos) (tP κ W (PR κ) (eMeth "list" countD f fs)) := by
  obtain ⟨h1, h2, h3, h4⟩ := ckM_of ck
  exact n_meth G.hK pmR PySem.F.plainAttrs_list PySem.F.slot_list_count PySem.F.type_list_count (m_count G.hK) ho ha (base_of h1) (fewArgs h3 h4) h2 (starEach_cons (stars1 h3)) (noStars (stars2 h3))
theorem g_index {o : Expr} {apos : Pos} (G : Good X κ W mg base k N sc own) (ck : ckM o apos pos e es = true) (ho : PE X o (tP κ W (PB κ) f)) (ha : PA X (e :: es) (tA κ W (PLB κ) fs)) : PE X (.Call (.Attribute o "index" apos) (e :: es) [] pos) (tP κ W (PR κ) (eMeth "list" indexD f fs)) := by
  obtain ⟨h1, h2, h3, h4⟩ := ckM_of ck
  exact n_meth G.hK pmR PySem.F.plainAttrs_list PySem.F.slot_list_index PySem.F.type_list_index (m_index G.hK) ho ha (base_of h1) (fewArgs h3 h4) h2 (starEach_cons (stars1 h3)) (noStars (stars2 h3))
/-- what is no list stands as a new one would -/
def nlE (f : EV) : EV := fun ρ => (f ρ).bind fun d => if isL d then .er else .ok d
theorem n_RX0 (h : PE X e (tP κ W (PR κ) f)) : PE X e (tP κ W (PX κ) (nlE f)) := PE_weak h fun σ H Q ⟨ρ, H0, E, S, q⟩ => ⟨ρ, H0, E, S, by
  have q : Fin κ W (PX κ) σ H0 H ((f ρ).bind fun d => if isL d then .er else .ok d) Q := q
  cases r : f ρ with
  | ok d =>
    rw [r] at q
    cases d with
    | lst ds => exact q.elim
    | dct ks vs => exact q.elim
    | dat b ks vs => exact q.elim
    | _ => exact q
  | ex c vs => rw [r] at q; exact q
  | er => rw [r] at q; exact q⟩
/-- a name that a comprehension's block sees takes a comprehension -/
theorem g_setXc {i : Nat} {x : Str} {elt : Expr} {gs : List Comprehension} {scope : Scope} (G : Good X κ W mg base k N sc own) (ck : (ckT N sc own i x && !lclB sc x) = true) (he : PE X (.ListComp elt gs scope p) (tP κ W (PX κ) f)) : PS X (.Assign [.Name x p1] (.ListComp elt gs scope p) pos) (tS κ W (sSetX i f)) := by
  obtain ⟨ck, ck2⟩ := Bool.and_eq_true_iff.mp ck
  obtain ⟨h1, h2, h3⟩ := ckT_of G ck
  refine n_setX G.nodup h1 h2 he ?_ h3
  have hk : X.env.kindOf x = some .cell := by
    show X.env.scope.names.lookup x = _
    rw [G.hs] at h2 ⊢
    rcases h2 with h | h
    · simp [lclB, h] at ck2
    · exact h
  unfold swapsWith
  simp only [hk]
  have e : (some NameKind.cell == some NameKind.local) = false := rfl
  simp [e]
/-! ### calls that tell plain data: the arguments are lent -/
theorem Bors.freeze {H0 H : Hp} (E : Ex H0 H) : ∀ {vs : List V} {ds : List D}, Bors κ H0 H vs ds → ∃ H0', Ex H0 H0' ∧ Ex H0' H ∧ Reps κ H0' vs ds
  | _, _, .nil => ⟨H0, .refl _, E, .nil⟩
  | _, _, .cons (v := v) (d := d) b r => by
    obtain ⟨H1, e1, e2, q⟩ := Bors.freeze E r
    rcases b with b | ⟨a, rfl, n, o⟩
    · exact ⟨H1, e1, e2, .cons (b.mono e1) q⟩
    · cases d with
      | lst ds =>
        obtain ⟨ws, ha, ra⟩ := o
        cases h1 : H1 a with
        | some u =>
          have := e2 a u h1
          rw [ha] at this
          cases this
          exact ⟨H1, e1, e2, .cons (.lst h1 (ra.mono e1)) q⟩
        | none =>
          have e3 : Ex H1 (upd H1 a (.lst ws)) := Ex.new h1
          refine ⟨upd H1 a (.lst ws), e1.trans e3, fun p o hp => ?_, .cons (.lst upd_same (ra.mono (e1.trans e3))) (q.mono e3)⟩
          rcases upd_some hp with ⟨rfl, rfl⟩ | ⟨_, hp⟩
          · exact ha
          · exact e2 p o hp
      | dct ks ws =>
        obtain ⟨xs, ha, ra, sa, ta⟩ := o
        cases h1 : H1 a with
        | some u =>
          have := e2 a u h1
          rw [ha] at this
          cases this
          exact ⟨H1, e1, e2, .cons (.dct h1 (ra.mono e1) (sa.mono e1) ta) q⟩
        | none =>
          have e3 : Ex H1 (upd H1 a (.ext (DPhi κ a xs))) := Ex.new h1
          refine ⟨upd H1 a (.ext (DPhi κ a xs)), e1.trans e3, fun p o hp => ?_, .cons (.dct upd_same (ra.mono (e1.trans e3)) (sa.mono (e1.trans e3)) ta) (q.mono e3)⟩
          rcases upd_some hp with ⟨rfl, rfl⟩ | ⟨_, hp⟩
          · exact ha
          · exact e2 p o hp
      | dat b0 ks ws =>
        obtain ⟨eb, xs, ha, ra, sa, ta⟩ := o
        subst eb
        cases h1 : H1 b0 with
        | some u =>
          have := e2 b0 u h1
          rw [ha] at this
          cases this
          exact ⟨H1, e1, e2, .cons (.dat h1 (ra.mono e1) (sa.mono e1) ta) q⟩
        | none =>
          have e3 : Ex H1 (upd H1 b0 (.ext (DPhi κ b0 xs))) := Ex.new h1
          refine ⟨upd H1 b0 (.ext (DPhi κ b0 xs)), e1.trans e3, fun p o hp => ?_, .cons (.dat upd_same (ra.mono (e1.trans e3)) (sa.mono (e1.trans e3)) ta) (q.mono e3)⟩
          rcases upd_some hp with ⟨rfl, rfl⟩ | ⟨_, hp⟩
          · exact ha
          · exact e2 p o hp
      | _ => exact o.elim
def flatR : R D → R D
  | .ok d => if flatD d then .ok d else .er
  | .ex c [] => .ex c []
  | _ => .er
def eCallF (n : Nat) (sem : List D → R D) (fs : AV) : EV := fun ρ => (fs ρ).bind fun ds => if ds.length = n then flatR (sem ds) else .er
theorem flat_rep {H0 H1 : Hp} {v : V} {d : D} (h : flatD d = true) (r : Rep κ H0 v d) : Rep κ H1 v d := by
  cases r with
  | non => exact .non
  | bl b => exact .bl b
  | int i => exact .int i
  | str s => exact .str s
  | _ => cases h
theorem callF_weak {fr : Bool} {n : Nat} {sem : List D → R D} {σ : L2.St} {H : Hp} {Q : VK} (h : tP κ W (PR κ) (eCallF n sem fs) σ H Q) : tCallS (spD κ fr n sem) (WE W) (tA κ W (PLB κ) fs) σ H Q := by
  obtain ⟨ρ, H0, E, S, q⟩ := h
  refine tA_mono (fun vs H1 z => ?_) (fin_aBind (PL := PLB κ) pmR E S q)
  obtain ⟨H01, ds, g, r, z⟩ := z
  obtain ⟨H0f, e1, e2, rf⟩ := Bors.freeze g.c r
  by_cases hl : ds.length = n
  · rw [if_pos hl] at z
    refine ⟨H0f, ds, e2, rf, hl, ?_⟩
    cases e : sem ds with
    | ok d =>
      rw [e] at z
      have z : Fin κ W (PR κ) σ H01 H1 (if flatD d then .ok d else .er) Q := z
      by_cases hd : flatD d = true
      · rw [if_pos hd] at z
        intro v H0' H' g2 p
        have p : Rep κ H0' v d := by
          cases fr with
          | false => exact p
          | true => cases d <;> first | exact p | cases hd
        exact z v H01 H' ⟨.refl _, g2.b, (e1.trans g2.a).trans g2.c, fun _ _ _ hn => hn⟩ (flat_rep hd p)
      · rw [if_neg hd] at z; exact z.elim
    | ex c xs =>
      rw [e] at z
      cases xs with
      | nil => exact fun dx H0' H' g2 p => z dx H01 H' ⟨.refl _, g2.b, (e1.trans g2.a).trans g2.c, fun _ _ _ hn => hn⟩ p
      | cons x xs => exact z.elim
    | er => rw [e] at z; exact z.elim
  · rw [if_neg hl] at z; exact z.elim
theorem g_callF {x : Str} {j n : Nat} {fr : Bool} {sem : List D → R D} (G : Good X κ W mg base k N sc own) (F : Fc κ mg base j x fr n sem) (hj : j ≤ k) (h : ckG sc x = true) (st : ns1 e es) (ha : PA X (e :: es) (tA κ W (PLB κ) fs)) :
    PE X (.Call (.Name x p) (e :: es) [] pos) (tP κ W (PR κ) (eCallF n sem fs)) := by
  obtain ⟨f, fd, ps, F, hm, hk, hb⟩ := F.ex
  have F' : FnOk X.prog X.w X.K X.mg X.base (L2.CX X.prog X.w) j f fd ps (spD κ fr n sem) := by
    rw [G.hP, G.hw, G.hK, G.hm, G.hb]; exact F
  exact PE_weak (pe_callS F' (G.rm.mono hj) (G.gl h) (by rw [G.hm]; exact hm) (by rw [G.hK]; exact hk) (by rw [G.hK]; exact hb) (fun σ => passAt G.tk σ) ha (ckG_db h) (starEach_cons (stars1 st)) (noStars (stars2 st))) fun _ _ _ h => callF_weak h
end
end QY

/-! Reckoning with meanings. -/
namespace QY
open PySem PySem.Spec PyProof.Rows L2
section
variable {d x y z : D} {ρ : List B} {b : B} {i j : Nat} {f fa fb fc : EV} {fs it : AV} {t : Tgt} {tt ba bb : List B → R Bool} {s u : SV}
@[simp] theorem eVar_0 : eVar 0 (.fz d :: ρ) = .ok d := (rfl)
@[simp] theorem eVar_s : eVar (i + 1) (b :: ρ) = eVar i ρ := by simp [eVar]
@[simp] theorem eVarB_0 : eVarB 0 (.fz d :: ρ) = .ok d := (rfl)
@[simp] theorem eVarB_0o : eVarB 0 (.ow d :: ρ) = .ok d := (rfl)
@[simp] theorem eVarB_s : eVarB (i + 1) (b :: ρ) = eVarB i ρ := by simp [eVarB]
@[simp] theorem eVarX_0o : eVarX 0 (.ow d :: ρ) = .ok d := (rfl)
@[simp] theorem eVarX_0 : eVarX 0 (.fz d :: ρ) = if isL d then .er else .ok d := (rfl)
@[simp] theorem eVarX_s : eVarX (i + 1) (b :: ρ) = eVarX i ρ := by simp [eVarX]
@[simp] theorem eCon_ap : eCon d ρ = .ok d := (rfl)
@[simp] theorem e1_ap {g : D → Option D} : e1 g f ρ = (f ρ).bind fun x => R.of (g x) := (rfl)
@[simp] theorem e2_ap {g : D → D → Option D} : e2 g fa fb ρ = (fa ρ).bind fun x => (fb ρ).bind fun y => R.of (g x y) := (rfl)
def chain3 (z : D) (k : R D) : R D := match z with
  | .bl true => k
  | .bl false => .ok (.bl false)
  | _ => .er
@[simp] theorem chain3_t {k : R D} : chain3 (.bl true) k = k := (rfl)
@[simp] theorem chain3_f {k : R D} : chain3 (.bl false) k = .ok (.bl false) := (rfl)
@[simp] theorem e3_ap {g g' : D → D → Option D} : e3 g g' fa fb fc ρ = (fa ρ).bind fun x => (fb ρ).bind fun y => (R.of (g x y)).bind fun z => chain3 z ((fc ρ).bind fun w => R.of (g' y w)) := (rfl)
@[simp] theorem bl_t {c : Bool} : bl? (.bl c) = .ok c := (rfl)
@[simp] theorem tst_ap : tst f ρ = (f ρ).bind bl? := (rfl)
@[simp] theorem tru_ap : tru f ρ = (f ρ).bind fun d => R.of (truD d) := (rfl)
@[simp] theorem chain3_bb {p q : Bool} : chain3 (.bl p) (.ok (.bl q)) = .ok (.bl (p && q)) := by cases p <;> rfl
def cnd {α : Type} (c : Bool) (p q : R α) : R α := match c with
  | true => p
  | false => q
@[simp] theorem cnd_t {α : Type} {p q : R α} : cnd true p q = p := (rfl)
@[simp] theorem cnd_f {α : Type} {p q : R α} : cnd false p q = q := (rfl)
@[simp] theorem cnd_or {p q : Bool} : cnd p (.ok true) (.ok q) = .ok (p || q) := by cases p <;> rfl
@[simp] theorem cnd_and {p q : Bool} : cnd p (.ok q) (.ok false) = .ok (p && q) := by cases p <;> rfl
@[simp] theorem bNot_ap : bNot ba ρ = (ba ρ).bind fun b => .ok !b := (rfl)
@[simp] theorem bAnd_ap : bAnd ba bb ρ = (ba ρ).bind fun b => cnd b (bb ρ) (.ok false) := by
  unfold bAnd cnd; cases ba ρ <;> rfl
@[simp] theorem bOr_ap : bOr ba bb ρ = (ba ρ).bind fun b => cnd b (.ok true) (bb ρ) := by
  unfold bOr cnd; cases ba ρ <;> rfl
@[simp] theorem eAnd_ap : eAnd fa fb ρ = (fa ρ).bind fun x => (R.of (truD x)).bind fun b => cnd b (fb ρ) (.ok x) := (rfl)
@[simp] theorem eOr_ap : eOr fa fb ρ = (fa ρ).bind fun x => (R.of (truD x)).bind fun b => cnd b (.ok x) (fb ρ) := (rfl)
@[simp] theorem eNot_ap : eNot fa ρ = (fa ρ).bind fun x => (R.of (truD x)).bind fun b => .ok (.bl !b) := (rfl)
@[simp] theorem eIf_ap : eIf ba fa fb ρ = (ba ρ).bind fun b => cnd b (fa ρ) (fb ρ) := by
  unfold eIf cnd; cases ba ρ <;> rfl
@[simp] theorem aNil_ap : aNil ρ = .ok [] := (rfl)
@[simp] theorem aCons_ap : aCons f fs ρ = (f ρ).bind fun x => (fs ρ).bind fun xs => .ok (x :: xs) := (rfl)
@[simp] theorem eCallB_ap {g : List D → Option D} : eCallB g fs ρ = (fs ρ).bind fun ds => R.of (g ds) := (rfl)
@[simp] theorem eCall_ap {n : Nat} {sem : List D → R D} : eCall n sem fs ρ = (fs ρ).bind fun ds => if ds.length = n then sem ds else .er := (rfl)
@[simp] theorem eMeth_ap {T : String} {g : D → List D → Option D} : eMeth T g f fs ρ = (f ρ).bind fun x => if tyD T x then (fs ρ).bind fun ds => R.of (g x ds) else .er := (rfl)
@[simp] theorem eCallF_ap {n : Nat} {sem : List D → R D} : eCallF n sem fs ρ = (fs ρ).bind fun ds => if ds.length = n then flatR (sem ds) else .er := (rfl)
@[simp] theorem flatR_ok : flatR (.ok d) = if flatD d then .ok d else .er := (rfl)
@[simp] theorem flatR_ex {c : Nat} : flatR (.ex c []) = .ex c [] := (rfl)
@[simp] theorem ty_str {v : Str} : tyD "str" (.str v) = true := (rfl)
@[simp] theorem ty_lst {ds : List D} : tyD "list" (.lst ds) = true := (rfl)
@[simp] theorem eIter_ap : eIter f ρ = (f ρ).bind fun d => R.of (itemsD d) := (rfl)
@[simp] theorem eRng_ap : eRng fs ρ = (fs ρ).bind fun ds => R.of (rngD ds) := (rfl)
@[simp] theorem nlE_ap : nlE f ρ = (f ρ).bind fun d => if isL d then .er else .ok d := (rfl)
@[simp] theorem eSl_ap {lo hi : Option EV} : eSl fa lo hi ρ = (fa ρ).bind fun x => (oPart lo ρ).bind fun l => (oPart hi ρ).bind fun h => R.of (slD x l h) := (rfl)
@[simp] theorem oPart_n : oPart none ρ = .ok none := (rfl)
@[simp] theorem oPart_s : oPart (some f) ρ = (f ρ).bind int? := (rfl)
@[simp] theorem int_q {z : Int} : int? (.int z) = .ok (some z) := (rfl)
@[simp] theorem eLst_ap : eLst fs ρ = (fs ρ).bind fun ds => if ds.length ≤ LIM then .ok (.lst ds) else .er := (rfl)
@[simp] theorem eTup_ap : eTup fs ρ = (fs ρ).bind fun ds => if ds.length ≤ LIM then .ok (.tup ds) else .er := (rfl)
/-! statements -/
@[simp] theorem sNx_ap : sNx ρ = .nx ρ := (rfl)
@[simp] theorem sBk_ap : sBk ρ = .bk ρ := (rfl)
@[simp] theorem sCt_ap : sCt ρ = .ct ρ := (rfl)
@[simp] theorem sRetN_ap : sRetN ρ = .rt .non false := (rfl)
@[simp] theorem sRaise_ap {c : Nat} : sRaise c ρ = .ex c [] ρ := (rfl)
/-- the outcome of a statement handed on -/
def obd (o : O) (k : SV) : O := match o with
  | .nx ρ' => k ρ'
  | o => o
@[simp] theorem obd_nx {k : SV} : obd (.nx ρ) k = k ρ := (rfl)
@[simp] theorem obd_rt {k : SV} {fr : Bool} : obd (.rt d fr) k = .rt d fr := (rfl)
@[simp] theorem obd_ex {k : SV} {c : Nat} {vs : List D} : obd (.ex c vs ρ) k = .ex c vs ρ := (rfl)
@[simp] theorem obd_bk {k : SV} : obd (.bk ρ) k = .bk ρ := (rfl)
@[simp] theorem obd_ct {k : SV} : obd (.ct ρ) k = .ct ρ := (rfl)
@[simp] theorem obd_er {k : SV} : obd .er k = .er := (rfl)
@[simp] theorem sSeq_ap : sSeq s u ρ = obd (s ρ) u := (rfl)
/-- a result handed on to a statement -/
def rbd {α : Type} (r : R α) (ρ : List B) (k : α → O) : O := match r with
  | .ok d => k d
  | .ex c vs => .ex c vs ρ
  | .er => .er
@[simp] theorem rbd_ok {α : Type} {a : α} {k : α → O} : rbd (.ok a) ρ k = k a := (rfl)
@[simp] theorem rbd_ex {α : Type} {c : Nat} {vs : List D} {k : α → O} : rbd (.ex c vs : R α) ρ k = .ex c vs ρ := (rfl)
@[simp] theorem rbd_er {α : Type} {k : α → O} : rbd (.er : R α) ρ k = .er := (rfl)
theorem sE_rbd {o : D → SV} : sE f o ρ = rbd (f ρ) ρ fun d => o d ρ := by unfold sE rbd; cases f ρ <;> rfl
theorem sT_rbd {o : Bool → SV} : sT ba o ρ = rbd (ba ρ) ρ fun d => o d ρ := by unfold sT rbd; cases ba ρ <;> rfl
theorem sA_rbd {o : List D → SV} : sA fs o ρ = rbd (fs ρ) ρ fun d => o d ρ := by unfold sA rbd; cases fs ρ <;> rfl
@[simp] theorem sSet_ap : sSet i f ρ = rbd (f ρ) ρ fun d => .nx (ρ.set i (.fz d)) := sE_rbd
@[simp] theorem sSetX_ap : sSetX i f ρ = rbd (f ρ) ρ fun d => .nx (ρ.set i (bX d)) := sE_rbd
@[simp] theorem sDrop_ap : sDrop f ρ = rbd (f ρ) ρ fun _ => .nx ρ := sE_rbd
@[simp] theorem sRet_ap : sRet f ρ = rbd (f ρ) ρ fun d => .rt d false := sE_rbd
@[simp] theorem sRetX_ap : sRetX f ρ = rbd (f ρ) ρ fun d => .rt d true := sE_rbd
def scnd (c : Bool) (p q : O) : O := match c with
  | true => p
  | false => q
@[simp] theorem scnd_t {p q : O} : scnd true p q = p := (rfl)
@[simp] theorem scnd_f {p q : O} : scnd false p q = q := (rfl)
@[simp] theorem sIf_ap : sIf ba s u ρ = rbd (ba ρ) ρ fun b => scnd b (s ρ) (u ρ) := by
  unfold sIf sT rbd scnd
  cases ba ρ with
  | ok b => cases b <;> rfl
  | ex c vs => rfl
  | er => rfl
@[simp] theorem sFor_ap : sFor it t s ρ = rbd (it ρ) ρ fun ds => forO t s ds ρ := sA_rbd
@[simp] theorem sFz_ap {is : List Nat} : sFz is s ρ = s (frzs is ρ) := (rfl)
@[simp] theorem frzs_nil : frzs [] ρ = ρ := (rfl)
@[simp] theorem frzs_cons {is : List Nat} : frzs (i :: is) ρ = frzs is (frz ρ i) := (rfl)
theorem set_ow (h : ρ[i]? = some (.ow d)) : frz ρ i = ρ.set i (.fz d) := by unfold frz; rw [h]
@[simp] theorem frz_0o : frz (.ow d :: ρ) 0 = .fz d :: ρ := (rfl)
@[simp] theorem frz_0z : frz (.fz d :: ρ) 0 = .fz d :: ρ := (rfl)
@[simp] theorem frz_0n : frz (.no :: ρ) 0 = .no :: ρ := (rfl)
@[simp] theorem frz_s : frz (b :: ρ) (i + 1) = b :: frz ρ i := by
  unfold frz
  rw [List.getElem?_cons_succ]
  cases ρ[i]? with
  | none => rfl
  | some v => cases v <;> rfl
@[simp] theorem bX_lst {ds : List D} : bX (.lst ds) = .ow (.lst ds) := (rfl)
@[simp] theorem bX_str {v : Str} : bX (.str v) = .fz (.str v) := (rfl)
@[simp] theorem bX_int {v : Int} : bX (.int v) = .fz (.int v) := (rfl)
@[simp] theorem bX_bl {v : Bool} : bX (.bl v) = .fz (.bl v) := (rfl)
@[simp] theorem bX_non : bX .non = .fz .non := (rfl)
@[simp] theorem bX_tup {ds : List D} : bX (.tup ds) = .fz (.tup ds) := (rfl)
theorem sRetV_0 : sRetV 0 (.fz d :: ρ) = .rt d false := rfl
theorem sRetV_0o : sRetV 0 (.ow d :: ρ) = .rt d true := rfl
theorem sRetV_s : sRetV (i + 1) (b :: ρ) = sRetV i ρ := by simp [sRetV]
@[simp] theorem forO_nil : forO t s [] ρ = .nx ρ := (rfl)
@[simp] theorem forO_nm {ds : List D} : forO (.nm i) s (d :: ds) ρ = loopO (s (ρ.set i (.fz d))) (forO (.nm i) s ds) := (rfl)
@[simp] theorem loopO_nx {k : SV} : loopO (.nx ρ) k = k ρ := (rfl)
@[simp] theorem loopO_ct {k : SV} : loopO (.ct ρ) k = k ρ := (rfl)
@[simp] theorem loopO_bk {k : SV} : loopO (.bk ρ) k = .nx ρ := (rfl)
@[simp] theorem loopO_rt {k : SV} {fr : Bool} : loopO (.rt d fr) k = .rt d fr := (rfl)
@[simp] theorem loopO_ex {k : SV} {c : Nat} {vs : List D} : loopO (.ex c vs ρ) k = .ex c vs ρ := (rfl)
@[simp] theorem loopO_er {k : SV} : loopO .er k = .er := (rfl)
/-- a method of the owned list at i -/
theorem sMut_at {g : List D → List D → Option (List D)} {xs : List D} (h : ρ[i]? = some (.ow (.lst xs))) : sMut g i fs ρ = rbd (fs ρ) ρ fun ds => optO (g xs ds) fun ys => .nx (ρ.set i (.ow (.lst ys))) := by
  unfold sMut; rw [h]; exact sA_rbd
@[simp] theorem optO_some {ys : List D} {k : List D → O} : optO (some ys) k = k ys := (rfl)
@[simp] theorem fin_nx : fin (.nx ρ) = .ok .non := (rfl)
@[simp] theorem fin_rt {fr : Bool} : fin (.rt d fr) = .ok d := (rfl)
@[simp] theorem fin_ex {c : Nat} {vs : List D} : fin (.ex c vs ρ) = .ex c vs := (rfl)
@[simp] theorem finX_nx : finX (.nx ρ) = .ok .non := (rfl)
@[simp] theorem finX_rtT : finX (.rt d true) = .ok d := (rfl)
@[simp] theorem finX_ex {c : Nat} {vs : List D} : finX (.ex c vs ρ) = .ex c vs := (rfl)
def trO (i j : Nat) (ok : Nat → Bool) (o : O) : O := match o with
  | .ex c vs ρ' => if ok c then .nx ((ρ'.set i .no).set j (.fz (.exc c vs))) else .er
  | o => o
@[simp] theorem sTry_ap {ok : Nat → Bool} : sTry i j ok s ρ = trO i j ok (s ρ) := (rfl)
@[simp] theorem trO_nx {ok : Nat → Bool} : trO i j ok (.nx ρ) = .nx ρ := (rfl)
@[simp] theorem trO_rt {ok : Nat → Bool} {fr : Bool} : trO i j ok (.rt d fr) = .rt d fr := (rfl)
@[simp] theorem trO_ex {ok : Nat → Bool} {c : Nat} {vs : List D} : trO i j ok (.ex c vs ρ) = if ok c then .nx ((ρ.set i .no).set j (.fz (.exc c vs))) else .er := (rfl)
@[simp] theorem is_nn : isD false .non .non = some (.bl true) := (rfl)
@[simp] theorem is_en {c : Nat} {vs : List D} : isD false (.exc c vs) .non = some (.bl false) := (rfl)
@[simp] theorem is_nn' : isD true .non .non = some (.bl false) := (rfl)
@[simp] theorem is_en' {c : Nat} {vs : List D} : isD true (.exc c vs) .non = some (.bl true) := (rfl)
/-! the data -/
@[simp] theorem addI {a b : Int} : addD (.int a) (.int b) = some (.int (a + b)) := (rfl)
@[simp] theorem subI {a b : Int} : subD (.int a) (.int b) = some (.int (a - b)) := (rfl)
@[simp] theorem negI {a : Int} : negD (.int a) = some (.int (-a)) := (rfl)
theorem mulI {a b : Int} (h : -(2 ^ 64) < b ∧ b < 2 ^ 64) : mulD (.int a) (.int b) = some (.int (a * b)) := if_pos (.inr h)
theorem mulI' {a b : Int} (h : -(2 ^ 64) < a ∧ a < 2 ^ 64) : mulD (.int a) (.int b) = some (.int (a * b)) := if_pos (.inl h)
theorem modI {a b : Int} (h : 0 < b) : modD (.int a) (.int b) = some (.int (a % b)) := if_pos h
theorem fdivI {a b : Int} (h : 0 < b ∧ b < 1073741824) : fdivD (.int a) (.int b) = some (.int (a / b)) := if_pos h
@[simp] theorem ltI {a b : Int} : ltD (.int a) (.int b) = some (.bl (decide (a < b))) := (rfl)
@[simp] theorem leI {a b : Int} : leD (.int a) (.int b) = some (.bl (decide (a ≤ b))) := (rfl)
@[simp] theorem gtI {a b : Int} : gtD (.int a) (.int b) = some (.bl (decide (b < a))) := (rfl)
@[simp] theorem geI {a b : Int} : geD (.int a) (.int b) = some (.bl (decide (b ≤ a))) := (rfl)
theorem beq_dec {α : Type} [DecidableEq α] (a b : α) : (a == b) = decide (a = b) := by
  by_cases h : a = b
  · simp [h]
  · simp [h]
@[simp] theorem eqI {a b : Int} : eqD (.int a) (.int b) = some (.bl (decide (a = b))) := (rfl)
@[simp] theorem neI {a b : Int} : neD (.int a) (.int b) = some (.bl (!decide (a = b))) := (rfl)
@[simp] theorem eqS {a b : Str} : eqD (.str a) (.str b) = some (.bl (decide (a = b))) := by
  show some (D.bl (a == b)) = _
  rw [beq_dec]
@[simp] theorem neS {a b : Str} : neD (.str a) (.str b) = some (.bl (!decide (a = b))) := by
  show some (D.bl (!(a == b))) = _
  rw [beq_dec]
@[simp] theorem len_lst {ds : List D} : lenD [.lst ds] = some (.int ds.length) := (rfl)
@[simp] theorem len_tup {ds : List D} : lenD [.tup ds] = some (.int ds.length) := (rfl)
@[simp] theorem len_scr {ns : List Int} : lenD [.scr ns] = some (.int ns.length) := (rfl)
theorem len_str {s : Str} (h : s.length ≤ LIM) : lenD [.str s] = some (.int s.length) := if_pos h
@[simp] theorem items_lst {ds : List D} : itemsD (.lst ds) = some ds := (rfl)
@[simp] theorem items_tup {ds : List D} : itemsD (.tup ds) = some ds := (rfl)
@[simp] theorem items_str {s : Str} : itemsD (.str s) = some (s.cps.toList.map fun c => .str ⟨#[c]⟩) := (rfl)
@[simp] theorem list_lst {ds : List D} : listD [.lst ds] = some (.lst ds) := (rfl)
@[simp] theorem list_tup {ds : List D} : listD [.tup ds] = some (.lst ds) := (rfl)
@[simp] theorem rev_lst {ds : List D} : revD (.lst ds) = some (.lst ds.reverse) := (rfl)
@[simp] theorem sl_lst {ds : List D} {lo hi : Option Int} : slD (.lst ds) lo hi = some (.lst (cutL ds lo hi)) := (rfl)
@[simp] theorem tru_bl {c : Bool} : truD (.bl c) = some c := (rfl)
@[simp] theorem tru_lst {ds : List D} : truD (.lst ds) = some !ds.isEmpty := (rfl)
@[simp] theorem tru_tup {ds : List D} : truD (.tup ds) = some !ds.isEmpty := (rfl)
@[simp] theorem tru_scr {ns : List Int} : truD (.scr ns) = some !ns.isEmpty := (rfl)
@[simp] theorem tru_non : truD .non = some false := (rfl)
theorem atI_nat {α : Type} {xs : List α} {j : Nat} : atI xs (j : Int) = xs[j]? := by
  unfold atI ixN
  by_cases h : j < xs.length
  · rw [if_pos (by omega), if_pos (by omega)]; simp
  · rw [if_pos (by omega), if_neg (by omega), List.getElem?_eq_none (by omega)]; rfl
theorem ix_lst {ds : List D} {j : Nat} : ixD (.lst ds) (.int (j : Int)) = ds[j]? := atI_nat
theorem ix_tup {ds : List D} {j : Nat} : ixD (.tup ds) (.int (j : Int)) = ds[j]? := atI_nat
theorem ix_str {s : Str} {j : Nat} (h : s.length ≤ LIM) : ixD (.str s) (.int (j : Int)) = s.cps.toList[j]?.map fun c => .str ⟨#[c]⟩ := by
  show (if _ then _ else _) = _
  rw [if_pos h, atI_nat]
theorem rng1 {j : Nat} (h : j < 2 ^ 62) : rngD [.int (j : Int)] = some ((List.range j).map fun (i : Nat) => .int (i : Int)) := by
  have e : rngD [.int (j : Int)] = if -(2 ^ 62) ≤ (j : Int) ∧ (j : Int) < 2 ^ 62 then some ((List.range (j : Int).toNat).map fun (i : Nat) => .int ((0 : Int) + (i : Nat))) else none := by rw [rngD]
  rw [e, if_pos (by omega)]
  simp
theorem rng2 {i j : Nat} (h : i < 2 ^ 62) (h2 : j < 2 ^ 62) : rngD [.int (i : Int), .int (j : Int)] = some ((List.range (j - i)).map fun (k : Nat) => .int ((i + k : Nat) : Int)) := by
  have e0 : rngD [.int (i : Int), .int (j : Int)] = if -(2 ^ 62) ≤ (i : Int) ∧ (i : Int) < 2 ^ 62 ∧ -(2 ^ 62) ≤ (j : Int) ∧ (j : Int) < 2 ^ 62 then some ((List.range ((j : Int) - (i : Int)).toNat).map fun (k : Nat) => .int ((i : Int) + (k : Nat))) else none := by rw [rngD]
  rw [e0, if_pos (by omega)]
  have e : ((j : Int) - (i : Int)).toNat = j - i := by omega
  rw [e]
  simp
theorem rngE1 {j : Nat} (h : f ρ = .ok (.int (j : Int))) (hj : j < 2 ^ 62) : eRng (aCons f aNil) ρ = .ok ((List.range j).map fun (i : Nat) => .int (i : Int)) := by
  rw [eRng_ap, aCons_ap, h, R.bind_ok, aNil_ap, R.bind_ok, R.bind_ok, rng1 hj, R.of_some]
theorem rngE2 {i j : Nat} (h : f ρ = .ok (.int (i : Int))) (h2 : fa ρ = .ok (.int (j : Int))) (hi : i < 2 ^ 62) (hj : j < 2 ^ 62) : eRng (aCons f (aCons fa aNil)) ρ = .ok ((List.range (j - i)).map fun (k : Nat) => .int ((i + k : Nat) : Int)) := by
  rw [eRng_ap, aCons_ap, h, R.bind_ok, aCons_ap, h2, R.bind_ok, aNil_ap, R.bind_ok, R.bind_ok, R.bind_ok, rng2 hi hj, R.of_some]
/-! comprehensions -/
theorem lcG_map {elt : EV} {g : D → D} : ∀ {ds : List D}, (∀ d ∈ ds, ∃ ρ1, bindT t d ρ = some ρ1 ∧ tt ρ1 = .ok true ∧ elt ρ1 = .ok (g d)) → lcG t tt elt ρ ds = .ok (ds.map g)
  | [], _ => rfl
  | d :: ds, h => by
    obtain ⟨ρ1, h1, h2, h3⟩ := h d List.mem_cons_self
    unfold lcG
    rw [h1]
    show (tt ρ1).bind _ = _
    rw [h2]
    show (elt ρ1).bind _ = _
    rw [h3]
    show (lcG t tt elt ρ ds).bind _ = _
    rw [lcG_map fun d hd => h d (List.mem_cons_of_mem _ hd)]
    rfl
theorem lcG_filter {elt : EV} {p : D → Bool} {g : D → D} : ∀ {ds : List D}, (∀ d ∈ ds, ∃ ρ1, bindT t d ρ = some ρ1 ∧ tt ρ1 = .ok (p d) ∧ (p d = true → elt ρ1 = .ok (g d))) → lcG t tt elt ρ ds = .ok ((ds.filter p).map g)
  | [], _ => rfl
  | d :: ds, h => by
    obtain ⟨ρ1, h1, h2, h3⟩ := h d List.mem_cons_self
    have ih := lcG_filter fun d hd => h d (List.mem_cons_of_mem _ hd)
    unfold lcG
    rw [h1]
    show (tt ρ1).bind _ = _
    rw [h2]
    cases hp : p d with
    | true =>
      show (elt ρ1).bind _ = _
      rw [h3 hp]
      show (lcG t tt elt ρ ds).bind _ = _
      rw [ih, List.filter_cons_of_pos hp]
      rfl
    | false =>
      show lcG t tt elt ρ ds = _
      rw [ih, List.filter_cons_of_neg (by simp [hp])]
theorem eLc_of {elt : EV} {vs : List Nat} {ds ys : List D} (hi : it ρ = .ok ds) (h : lcG t tt elt (wipeB ρ vs) ds = .ok ys) (hl : ds.length < LIM) : eLc it t tt elt vs ρ = .ok (.lst ys) := by
  unfold eLc
  rw [hi]
  show (noX (lcG t tt elt (wipeB ρ vs) ds)).bind _ = _
  rw [h]
  show (if ds.length < LIM then R.ok (D.lst ys) else .er) = _
  rw [if_pos hl]
/-- [elt for x in it] -/
theorem eLc_map {elt : EV} {vs : List Nat} {ds : List D} {g : D → D} (hi : it ρ = .ok ds) (h : ∀ d ∈ ds, elt ((wipeB ρ vs).set i (.fz d)) = .ok (g d)) (hl : ds.length < LIM) : eLc it (.nm i) (fun _ => .ok true) elt vs ρ = .ok (.lst (ds.map g)) :=
  eLc_of hi (lcG_map fun d hd => ⟨_, rfl, rfl, h d hd⟩) hl
/-- [elt for x in it if tt] -/
theorem eLc_filter {elt : EV} {vs : List Nat} {ds : List D} {p : D → Bool} {g : D → D} (hi : it ρ = .ok ds) (ht : ∀ d ∈ ds, tt ((wipeB ρ vs).set i (.fz d)) = .ok (p d)) (h : ∀ d ∈ ds, p d = true → elt ((wipeB ρ vs).set i (.fz d)) = .ok (g d)) (hl : ds.length < LIM) :
    eLc it (.nm i) tt elt vs ρ = .ok (.lst ((ds.filter p).map g)) :=
  eLc_of hi (lcG_filter fun d hd => ⟨_, rfl, ht d hd, h d hd⟩) hl
end
/-! equal data -/
theorem toPys_map {α : Type} {g : α → D} : ∀ xs : List α, toPys (xs.map g) = xs.map fun x => toPy (g x)
  | [] => rfl
  | x :: xs => by show toPy (g x) :: toPys (xs.map g) = _; rw [toPys_map xs]; rfl
theorem neD_refl {d : D} (h : (toPy d).plain = true) (h2 : (toPy d).depth ≤ 60) : neD d d = some (.bl false) := by
  unfold neD
  rw [if_pos (by unfold okEq; rw [h]; simpa using h2), PySem.SeqAt.eqv_refl_plain _ h]
  rfl
theorem eqD_refl {d : D} (h : (toPy d).plain = true) (h2 : (toPy d).depth ≤ 60) : eqD d d = some (.bl true) := by
  unfold eqD
  rw [if_pos (by unfold okEq; rw [h]; simpa using h2), PySem.SeqAt.eqv_refl_plain _ h]
theorem plain_strs : ∀ xs : List Str, PyData.plainAll (toPys (xs.map .str)) = true
  | [] => rfl
  | x :: xs => by show (true && PyData.plainAll (toPys (xs.map .str))) = true; rw [plain_strs xs]; rfl
theorem depth_strs : ∀ xs : List Str, PyData.depthAll (toPys (xs.map .str)) = 0
  | [] => rfl
  | x :: xs => by show max 0 (PyData.depthAll (toPys (xs.map .str))) = 0; rw [depth_strs xs]; rfl
theorem eqv_strs : ∀ xs ys : List Str, PyData.eqvAll (toPys (xs.map .str)) (toPys (ys.map .str)) = decide (xs = ys)
  | [], [] => by simp [toPys, PyData.eqvAll]
  | x :: xs, [] => by simp [toPys, PyData.eqvAll]
  | [], y :: ys => by simp [toPys, PyData.eqvAll]
  | x :: xs, y :: ys => by
    show PyData.eqvAll (toPy (.str x) :: toPys (xs.map .str)) (toPy (.str y) :: toPys (ys.map .str)) = _
    rw [PyData.eqvAll, eqv_strs xs ys]
    show ((x == y) && _) = _
    rw [beq_dec]
    simp
theorem eqD_strs {xs ys : List Str} : eqD (.lst (xs.map .str)) (.lst (ys.map .str)) = some (.bl (decide (xs = ys))) := by
  unfold eqD
  rw [if_pos]
  · show some (D.bl (PyData.eqvAll (toPys (xs.map .str)) (toPys (ys.map .str)))) = _
    rw [eqv_strs]
  · unfold okEq
    show (PyData.plainAll (toPys (xs.map .str)) && PyData.plainAll (toPys (ys.map .str)) && decide (min (PyData.depthAll (toPys (xs.map .str)) + 1) (PyData.depthAll (toPys (ys.map .str)) + 1) ≤ 60)) = true
    rw [plain_strs, plain_strs, depth_strs, depth_strs]; rfl
theorem neD_strs {xs ys : List Str} : neD (.lst (xs.map .str)) (.lst (ys.map .str)) = some (.bl (!decide (xs = ys))) := by
  unfold neD
  rw [if_pos]
  · show some (D.bl (!PyData.eqvAll (toPys (xs.map .str)) (toPys (ys.map .str)))) = _
    rw [eqv_strs]
  · unfold okEq
    show (PyData.plainAll (toPys (xs.map .str)) && PyData.plainAll (toPys (ys.map .str)) && decide (min (PyData.depthAll (toPys (xs.map .str)) + 1) (PyData.depthAll (toPys (ys.map .str)) + 1) ≤ 60)) = true
    rw [plain_strs, plain_strs, depth_strs, depth_strs]; rfl
end QY

/-! From the facts of the text to the law. -/
namespace QY
open PySem PySem.Spec PyProof.Rows L2
section
variable {κ : Kap} {mg : Str → Option Value} {base : Heap} {N ps : List Str} {k n : Nat} {x : Str} {st : Stmt} {f : Addr} {fd : FuncData}
theorem fk_of {m : SV} (F : Fun κ.K x x st f fd) (S : FnScope N ps (defScope st)) (hp : ps.length = n)
    (hb : ∀ (X : Cx) (W : WX), Good X κ W mg base k N (defScope st) (fun _ => true) → PassesOwn (model X.prog X.w) X.A X.env X.xe → Top X → PSs X (defBody st) (tS κ W m)) :
    FnOk κ.P κ.w κ.K mg base (L2.CX κ.P κ.w) (k + 1) f fd ps (spD κ false n (fun ds => if ds.length = n then fin (m (env0 N ds)) else .er)) :=
  fn_ok (fun _ => m) F S hp (fun cdv A outer s H E ds hr => hb _ _ (good_of S hr) (passes_of rfl) ⟨rfl, rfl, rfl⟩) (fun ds hl => .inr ⟨by rw [if_pos hl], fun z => by cases z⟩)
end
/-- what the law promises -/
def lawSp (K : PySem.W.Frag) : Sp := fun vs H Q _ => ∃ (a : Addr) (ns : List Int), vs = [.ref a] ∧ ns.length ≤ 63 ∧ SqL K H a (ns.map V.int) ∧ ∀ v H', v = .bl true → Q v H'
theorem law_sp {κ : Kap} {mg : Str → Option Value} {base : Heap} {k : Nat} {f : Addr} {fd : FuncData} {ps : List Str} {sem : List D → R D} (F : FnOk κ.P κ.w κ.K mg base (L2.CX κ.P κ.w) k f fd ps (spD κ false 1 sem)) (h : ∀ ns : List Int, ns.length ≤ 63 → sem [.scr ns] = .ok (.bl true)) :
    FnOk κ.P κ.w κ.K mg base (L2.CX κ.P κ.w) k f fd ps (lawSp κ.K) := F.imp fun vs H Q E ⟨a, ns, e, hl, hS, q⟩ => by
  subst e
  refine ⟨H, [.scr ns], .refl _, .cons (.scr hS) .nil, rfl, ?_⟩
  rw [h ns hl]
  intro v H0' H' g p
  have p : Rep κ H0' v (.bl true) := p
  cases p
  exact q _ _ rfl
theorem cx_end {P : Program} {w : World} {H : Hp} {s : Shared} {e : Value} {s' : Shared} (h : L2.CX P w [] H s (fun _ _ _ => False) e s') : False := by
  obtain ⟨_, _, _, _, _, _, _, _, _, _, _, _, z⟩ := h
  exact z.elim
/-- six classes -/
def exA (e0 e1 e2 e3 e4 e5 : Addr) : Nat → Addr
  | 0 => e0 | 1 => e1 | 2 => e2 | 3 => e3 | 4 => e4 | _ => e5
structure ClsT (K : PySem.W.Frag) (D : Addr) : Prop where
  hg : PySem.W.findIn K (.ref D) "__getattribute__" = some (some (.builtin "BaseException.__getattribute__"))
  hk : PySem.W.findIn K (.ref D) "__getattr__" = some none
  hs : PySem.W.subIn K (.ref D) (.type "BaseException") = some true
  hd : PySem.W.hasDictIn K D = true
  ha : PySem.W.findIn K (.ref D) "__class__" = some (some (.builtin "object.__class__"))
  hm : PySem.W.mroIn K D (.type "object") = some true
  kp : PySem.W.keepIn K (.ref D) = true
  ty : PySem.W.typeIn K (.ref D) = some (.type "type")
  va : PySem.W.subIn K (.ref D) (.type "ValueError") = some true
theorem kit_ref {K : PySem.W.Frag} {C : Addr} {t : Value} {b : Bool} (hd : PySem.W.hasDictIn K C = true) (ht : PySem.W.typeIn K (.ref C) = some (.type "type")) (h : PySem.W.subIn K t (.ref C) = some b) (hne : (t == .ref C) = true → b = true) : PySem.W.kitOne K t (.ref C) = some b := by
  unfold PySem.W.kitOne
  by_cases e : (t == .ref C) = true
  · rw [if_pos e, hne e]
  · rw [if_neg e]
    obtain ⟨cd, hc, _⟩ := PySem.W.any_some hd
    have e2 : ((PySem.W.clsIn K C).isSome && PySem.W.typeIn K (.ref C) == some (.type "type")) = true := by rw [hc, ht] <;> rfl
    show (if ((PySem.W.clsIn K C).isSome && PySem.W.typeIn K (.ref C) == some (.type "type")) = true then PySem.W.subIn K t (.ref C) else none) = some b
    rw [if_pos e2]
    exact h
def ok6 (c : Nat) : Bool := decide (c < 6)
theorem excF_mk {κ : Kap} (cl : ∀ c, c < 6 → ClsT κ.K (κ.exc c)) (hn : PySem.W.specialIn κ.K (.builtin "object.__class__") "__get__" = some (some (.builtin "getset_descriptor.__get__"))) (ht : PySem.W.takesIn κ.K (.builtin "object.__class__") = some true)
    (sub : ∀ c c', c < 6 → c' < 6 → PySem.W.subIn κ.K (.ref (κ.exc c)) (.ref (κ.exc c')) = some (c == c' || c' == 0)) (inj : ∀ c c', c < 6 → c' < 6 → κ.exc c = κ.exc c' → c = c') : ExcF κ ok6 where
  exc := fun c h => by
    have T := cl c (of_decide_eq_true h)
    exact ⟨T.hg, T.hk, T.hs, T.hd, T.ha, hn, ht, T.hm⟩
  kit := fun c c' h h' => by
    have h := of_decide_eq_true h
    have h' := of_decide_eq_true h'
    refine kit_ref (cl c' h').hd (cl c' h').ty (sub c c' h h') fun e => ?_
    have : c = c' := inj c c' h h' (Value.ref.inj (eq_of_beq e))
    rw [this]
    simp
  kitV := fun c h => by
    have T := cl c (of_decide_eq_true h)
    show (if (Value.ref (κ.exc c) == .type "ValueError") = true then some true else if PySem.W.kitMeta "ValueError" = true then PySem.W.subIn κ.K (.ref (κ.exc c)) (.type "ValueError") else none) = some true
    rw [if_neg (by simp), if_pos (by decide +kernel)]
    exact T.va
  kitD := fun t ht k hk => by
    simp only [List.mem_cons, List.not_mem_nil, or_false] at ht hk
    rcases ht with rfl | rfl | rfl | rfl <;> rcases hk with rfl | rfl | rfl | rfl | rfl | rfl <;> exact kit_ty (by decide +kernel)
theorem exm_mk {κ : Kap} (cl : ∀ c, c < 6 → ClsT κ.K (κ.exc c)) (sub : ∀ c c', c < 6 → c' < 6 → PySem.W.subIn κ.K (.ref (κ.exc c)) (.ref (κ.exc c')) = some (c == c' || c' == 0)) :
    ∀ c', ok6 c' = true → PySem.W.exmOne κ.K (.ref (κ.exc c')) (.ref (κ.exc 0)) = some true := fun c' h => by
  have T := cl 0 (by decide)
  have := sub c' 0 (of_decide_eq_true h) (by decide)
  simp only [beq_self_eq_true, Bool.or_true] at this
  exact PySem.W.exm_ref T.hs T.hd T.ty this
end QY

/-! sorted: tuples of ints, of any number. -/
namespace QY
open PySem PySem.Spec PyProof.Rows L2
/-! ### the order, the sorted list -/
theorem lex_in : ∀ a b : List Int, PyProof.Rows.lexLt itemOrd (a.map Sum.inl) (b.map Sum.inl) = HT.lexLt a b
  | [], [] => rfl
  | [], _ :: _ => rfl
  | _ :: _, [] => rfl
  | x :: a, y :: b => by
    rw [List.map_cons, List.map_cons, lex_cons, lex_in a b, HT.lexLt_cons]
    show (decide (x < y) || (!decide (y < x) && _)) = _
    by_cases h : x = y
    · subst h; simp
    · rw [if_neg h]
      by_cases h2 : x < y
      · simp [h2]
      · have : y < x := by omega
        simp [h2, this]
theorem lx_irrefl (a : List Int) : HT.lexLt a a = false := by rw [← lex_in]; exact (listOrd itemOrd).irrefl _
theorem lx_neg {a b c : List Int} (h : HT.lexLt a c = true) : HT.lexLt a b = true ∨ HT.lexLt b c = true := by
  rw [← lex_in] at h
  rw [← lex_in, ← lex_in]
  exact (listOrd itemOrd).negTrans _ _ _ h
theorem lx_trans {a b c : List Int} (h : HT.lexLt a b = true) (h2 : HT.lexLt b c = true) : HT.lexLt a c = true := by
  rw [← lex_in] at *
  exact (listOrd itemOrd).trans _ _ _ h h2
theorem inl_inj : ∀ {a b : List Int}, (a.map Sum.inl : List (Int ⊕ List Nat)) = b.map Sum.inl → a = b
  | [], [], _ => rfl
  | [], _ :: _, h => by cases h
  | _ :: _, [], h => by cases h
  | x :: a, y :: b, h => by
    rw [List.map_cons, List.map_cons] at h
    injection h with h1 h2
    injection h1 with h1
    rw [h1, inl_inj h2]
theorem lx_total {a b : List Int} (h : HT.lexLt a b = false) (h2 : HT.lexLt b a = false) : a = b := by
  rw [← lex_in] at *
  exact inl_inj ((listOrd itemOrd).total _ _ h h2)
theorem lx_asym {a b : List Int} (h : HT.lexLt a b = true) : HT.lexLt b a = false := by
  cases h2 : HT.lexLt b a with
  | false => rfl
  | true => have := lx_trans h h2; rw [lx_irrefl] at this; cases this
abbrev SrtI (l : List (List Int)) : Prop := l.Pairwise fun a b => HT.lexLt b a = false
def insI (x : List Int) : List (List Int) → List (List Int)
  | [] => [x]
  | y :: r => if HT.lexLt y x then y :: insI x r else x :: y :: r
def sortI : List (List Int) → List (List Int)
  | [] => []
  | x :: r => insI x (sortI r)
theorem insI_perm (x : List Int) : ∀ l, (insI x l).Perm (x :: l)
  | [] => List.Perm.refl _
  | y :: r => by
    unfold insI
    split
    · exact ((insI_perm x r).cons y).trans (List.Perm.swap x y r)
    · exact List.Perm.refl _
theorem sortI_perm : ∀ l, (sortI l).Perm l
  | [] => List.Perm.refl _
  | x :: r => (insI_perm x (sortI r)).trans ((sortI_perm r).cons x)
theorem insI_srt (x : List Int) : ∀ {l : List (List Int)}, SrtI l → SrtI (insI x l)
  | [], _ => List.pairwise_singleton _ _
  | y :: r, h => by
    obtain ⟨h1, h2⟩ := List.pairwise_cons.mp h
    unfold insI
    split
    · rename_i hy
      refine List.pairwise_cons.mpr ⟨fun z hz => ?_, insI_srt x h2⟩
      rcases List.mem_cons.mp ((insI_perm x r).mem_iff.mp hz) with e | hz
      · rw [e]; exact lx_asym hy
      · exact h1 z hz
    · rename_i hy
      have hy : HT.lexLt y x = false := by simpa using hy
      refine List.pairwise_cons.mpr ⟨fun z hz => ?_, h⟩
      rcases List.mem_cons.mp hz with e | hz
      · rw [e]; exact hy
      · cases hq : HT.lexLt z x with
        | false => rfl
        | true =>
          rcases lx_neg (b := y) hq with q | q
          · rw [h1 z hz] at q; cases q
          · rw [hy] at q; cases q
theorem sortI_srt : ∀ l, SrtI (sortI l)
  | [] => List.Pairwise.nil
  | x :: r => insI_srt x (sortI_srt r)
theorem srt_uniq : ∀ {l m : List (List Int)}, SrtI l → SrtI m → l.Perm m → l = m
  | [], m, _, _, h => (List.Perm.eq_nil h.symm).symm
  | x :: l, [], _, _, h => absurd h.length_eq (by simp)
  | x :: l, y :: m, hl, hm, h => by
    obtain ⟨l1, l2⟩ := List.pairwise_cons.mp hl
    obtain ⟨m1, m2⟩ := List.pairwise_cons.mp hm
    have h1 : HT.lexLt x y = false := by
      rcases List.mem_cons.mp (h.mem_iff.mp (List.mem_cons_self (a := x) (l := l))) with e | hx
      · rw [e]; exact lx_irrefl y
      · exact m1 x hx
    have h2 : HT.lexLt y x = false := by
      rcases List.mem_cons.mp (h.mem_iff.mpr (List.mem_cons_self (a := y) (l := m))) with e | hy
      · rw [e]; exact lx_irrefl x
      · exact l1 y hy
    have e := lx_total h1 h2
    subst e
    rw [srt_uniq l2 m2 h.cons_inv]
/-! ### from the machine's sort -/
section
theorem items_in : ∀ {us : List Value} {ns : List Int} (i : Nat), IntsAre us ns → tupItems (fun _ => false) i us = some (ns.map Sum.inl)
  | _, _, _, .nil => rfl
  | _, _, i, .cons n t h => by
    unfold tupItems
    rw [if_neg Bool.false_ne_true, items_in (i + 1) h]
    rfl
theorem key_of {h : Heap} {v : Value} {ns : List Int} (t : TS.TupInts h v ns) : G.tupKeyC h (fun _ => false) v = some (ns.map Sum.inl) := by
  obtain ⟨a, xs, rfl, ⟨o, ho, hc, n, hd⟩, i⟩ := t
  have e1 : G.isTupObj h (.ref a) = true := by
    show (match h.get? a with
      | some o => (match o.cls with | .type n => n == "tuple" | _ => false)
      | none => false) = true
    rw [ho]
    show (match o.cls with | .type n => n == "tuple" | _ => false) = true
    rw [hc]; rfl
  unfold G.tupKeyC
  rw [if_pos e1]
  show (match h.get? a with
    | some o => match o.data with
      | .seq xs _ => tupItems (fun _ => false) 0 xs.toList
      | _ => none
    | none => none) = _
  rw [ho]
  show (match o.data with
      | .seq xs _ => tupItems (fun _ => false) 0 xs.toList
      | _ => none) = _
  rw [hd]
  exact items_in 0 i
theorem tupOf_of {h : Heap} {v : Value} {n0 : Int} {ns : List Int} (t : TS.TupInts h v (n0 :: ns)) : ∃ f, TupOf h (fun _ => false) v f := by
  obtain ⟨a, xs, rfl, ⟨o, ho, hc, n, hd⟩, i⟩ := t
  generalize hl : xs.toList = l at i
  cases i with
  | cons _ tk r =>
    have : xs[0]? = some (.int n0 tk) := by rw [← Array.getElem?_toList, hl]; rfl
    exact ⟨_, a, o, xs, n, rfl, ho, hc, hd, this, fun _ => ⟨n0, tk, rfl⟩, fun z => by cases z⟩
theorem tupsOf_of {h : Heap} : ∀ {vs : List Value}, (∀ v ∈ vs, ∃ n0 ns, TS.TupInts h v (n0 :: ns)) → ∃ fs, TupsOf h (fun _ => false) vs fs
  | [], _ => ⟨[], .nil⟩
  | v :: vs, k => by
    obtain ⟨n0, ns, t⟩ := k v List.mem_cons_self
    obtain ⟨f, tf⟩ := tupOf_of t
    obtain ⟨fs, tfs⟩ := tupsOf_of fun u hu => k u (List.mem_cons_of_mem _ hu)
    exact ⟨f :: fs, .cons tf tfs⟩
theorem zip_fst {vs : List Value} {p : Keyed} (h : p ∈ vs.zip vs) : p.1 = p.2 ∧ p.2 ∈ vs := by
  obtain ⟨e, hm⟩ := mem_zip_self h
  exact ⟨e, e ▸ hm⟩
/-- what the sort has put out -/
theorem out_of {h : Heap} {vs : List Value} {st' : SortSt} (hk : ∀ v ∈ vs, ∃ ns, TS.TupInts h v ns) (p : (arrOf st').Perm (pairsOf vs)) (hs : SortedToK (G.tupKindC h (fun _ => false)) (arrOf st') (pairsOf vs).size) :
    ((arrOf st').map (·.2)).toList.Perm vs ∧ ((arrOf st').map (·.2)).toList.map (TS.intsOf h) = sortI (vs.map (TS.intsOf h)) := by
  have pl : (arrOf st').toList.Perm (vs.zip vs) := by
    have := Array.perm_iff_toList_perm.mp p
    rw [pairsOf_toList] at this
    exact this
  have po : ((arrOf st').map (·.2)).toList.Perm vs := by
    rw [Array.toList_map]
    have := pl.map Prod.snd
    rwa [show (vs.zip vs).map Prod.snd = vs from List.map_snd_zip (Nat.le_refl _)] at this
  refine ⟨po, srt_uniq ?_ (sortI_srt _) ((po.map _).trans (sortI_perm _).symm)⟩
  rw [Array.toList_map, List.map_map]
  refine List.pairwise_map.mpr (List.pairwise_iff_getElem.mpr ?_)
  intro i j hi hj hij
  have hsz : (arrOf st').size = (pairsOf vs).size := p.size_eq
  have hs1 := hs i j (Nat.le_of_lt hij) (by rw [← hsz]; simpa using hj)
  have key : ∀ (k : Nat) (hk' : k < (arrOf st').toList.length), KK (G.tupKindC h (fun _ => false)) (arrOf st') k = (TS.intsOf h (arrOf st').toList[k].2).map Sum.inl := fun k hk' => by
    obtain ⟨e, m⟩ := zip_fst (pl.mem_iff.mp (List.getElem_mem hk'))
    obtain ⟨ns, t⟩ := hk _ m
    have kk : KK (G.tupKindC h (fun _ => false)) (arrOf st') k = (G.tupKeyC h (fun _ => false) (arrOf st').toList[k].1).getD [] := by
      unfold KK
      have : (arrOf st')[k]? = some (arrOf st').toList[k] := by rw [← Array.getElem?_toList]; exact List.getElem?_eq_getElem hk'
      rw [this]
    rw [kk, e, key_of t, t.ints]
    rfl
  have hs2 : PyProof.Rows.lexLt itemOrd (KK (G.tupKindC h (fun _ => false)) (arrOf st') j) (KK (G.tupKindC h (fun _ => false)) (arrOf st') i) = false := hs1
  rw [key i hi, key j hj, lex_in] at hs2
  exact hs2
/-! ### as rules of calls -/
variable {X : Cx} {pins : List (Addr × Obj)} {σ : L2.St} {H : Hp} {s : Shared}
theorem TupIs.tups {P : V → List Int → Prop} (I : Inv X pins σ H s) (hP : ∀ x ns, P x ns → TupI X.K H x ns) {xs : List V} {its : List Value} {nss : List (List Int)} (rv : Vals xs its) (h : Paired P xs nss) : (∀ v ∈ its, ∃ ns ∈ nss, TS.TupInts s.heap v ns) ∧ its.map (TS.intsOf s.heap) = nss := by
  induction h generalizing its with
  | nil => cases rv; exact ⟨fun v hv => (by cases hv), rfl⟩
  | cons t _ ih =>
    cases rv with
    | cons r rv =>
      obtain ⟨a, rfl, ht⟩ := hP _ _ t
      cases r
      obtain ⟨h1, h2⟩ := ih rv
      have ti := tupI_raw I ht
      refine ⟨fun v hv => ?_, by rw [List.map_cons, ti.ints, h2]⟩
      rcases List.mem_cons.mp hv with e | hv
      · rw [e]; exact ⟨_, List.mem_cons_self, ti⟩
      · obtain ⟨ns, m, t⟩ := h1 v hv
        exact ⟨ns, List.mem_cons_of_mem _ m, t⟩
/-- every machine tuple of the row is a known one -/
theorem TupIs.back {P : V → List Int → Prop} {xs : List V} {its : List Value} {nss : List (List Int)} (I : Inv X pins σ H s) (hP : ∀ x ns, P x ns → TupI X.K H x ns) (rv : Vals xs its) (h : Paired P xs nss) : ∀ v ∈ its, P (bkV v) (TS.intsOf s.heap v) ∧ ∃ a, v = .ref a := by
  induction h generalizing its with
  | nil => cases rv; exact fun v hv => (by cases hv)
  | cons t _ ih =>
    cases rv with
    | cons r rv =>
      obtain ⟨a, rfl, ht⟩ := hP _ _ t
      cases r
      intro v hv
      rcases List.mem_cons.mp hv with e | hv
      · rw [e, (tupI_raw I ht).ints]; exact ⟨t, a, rfl⟩
      · exact ih rv v hv
theorem paired_map {P : V → List Int → Prop} {h : Heap} : ∀ {out : List Value}, (∀ v ∈ out, P (bkV v) (TS.intsOf h v)) → Paired P (out.map bkV) (out.map (TS.intsOf h))
  | [], _ => .nil
  | v :: out, k => .cons (k v List.mem_cons_self) (paired_map fun u hu => k u (List.mem_cons_of_mem _ hu))
/-- sorted(xs), xs a list of tuples of ints, none empty -/
def rSortG (K : PySem.W.Frag) : List V → Hp → VK → Prop := fun vs H Q => ∃ (a : Addr) (xs : List V) (nss : List (List Int)) (P : V → List Int → Prop), vs = [V.ref a] ∧ SqL K H a xs ∧ (∀ x ns, P x ns → TupI K H x ns) ∧ Paired P xs nss ∧ (∀ ns ∈ nss, ns ≠ []) ∧
  ∀ (ys : List V) (p : Addr), Paired P ys (sortI nss) → H p = none → Q (.ref p) (upd H p (.lst ys))
theorem cr_sortG : CallR X (.builtin "sorted") (rSortG X.K) := by
  intro pins s σ H vs us Q I r h
  obtain ⟨a, xs, nss, P, rfl, hs, hP, hx, hne, q⟩ := h
  obtain ⟨its, rv, hl, hz⟩ := I.list hs
  rw [Vals.ref1 r]
  obtain ⟨k1, k2⟩ := TupIs.tups I hP rv hx
  have kb := TupIs.back I hP rv hx
  have kne : ∀ v ∈ its, ∃ n0 ns, TS.TupInts s.heap v (n0 :: ns) := fun v hv => by
    obtain ⟨ns, m, t⟩ := k1 v hv
    cases ns with
    | nil => exact absurd rfl (hne _ m)
    | cons n0 ns => exact ⟨n0, ns, t⟩
  obtain ⟨fs, tf⟩ := tupsOf_of kne
  refine G.sorted_tups (shape := fun _ => false) (fs := fs) hl.isList tf (fun v hv => let ⟨ns, _, t⟩ := k1 v hv; ⟨_, key_of t⟩) (by rw [← rv.length]; exact hz) fun st' p hsrt _ => ?_
  obtain ⟨po, eo⟩ := out_of (fun v hv => let ⟨ns, _, t⟩ := k1 v hv; ⟨ns, t⟩) p hsrt
  obtain ⟨ep, he'⟩ := PyProof.Rows.sortedAll_at s.heap its ((arrOf st').map (·.2))
  have h3 : ∀ u ∈ ((arrOf st').map (·.2)).toList, P (bkV u) (TS.intsOf s.heap u) ∧ ∃ a, u = .ref a := fun u hu => kb u (po.mem_iff.mp hu)
  have hv : Vals (((arrOf st').map (·.2)).toList.map bkV) ((arrOf st').map (·.2)).toList := bkV_vals fun u hu => (h3 u hu).2
  have hlen : (((arrOf st').map (·.2)).toList.map bkV).length = xs.length := by rw [List.length_map, po.length_eq, rv.length]
  have pr := paired_map fun u hu => (h3 u hu).1
  rw [eo, k2] at pr
  exact ⟨.ref _, upd H (s.heap.objs.size + 1) (.lst (((arrOf st').map (·.2)).toList.map bkV)), I.laid (t' := s.toks) (fun _ _ => PyProof.Rows.sortedAll_old) (Nat.le_succ _) ⟨by rw [hlen]; exact hz, ((arrOf st').map (·.2)).toList, ep, hv, by rw [Array.toArray_toList]; exact he'⟩, rfl, q _ _ pr (I.hok.fresh (Nat.le_succ _))⟩
/-! ### dicts with tuple keys -/
theorem dphi_raw {κ : Kap} {a : Addr} {xs : List (NestedKey × Addr × V)} {h : Heap} (d : DPhi κ a xs h) : ∃ es ep, h.DictRaw a es ep ∧ es.size = xs.length ∧ xs.length ≤ sizeLine ∧ (a == sysModules) = false ∧ ∀ i (hi : i < es.size), ∃ x, xs[i]? = some x ∧ es[i].key = .ref x.2.1 := by
  obtain ⟨ys, pr, o, es, ep, ho, hc, hd, he, hn, hz, hm⟩ := d
  have hl : xs.length = ys.length := Paired.length pr
  have hs := size_of_entries he
  refine ⟨es, ep, ⟨o, ho, hc, hd⟩, by rw [hs, hl], hz, hm, fun i hi => ?_⟩
  have hy : i < ys.length := hs ▸ hi
  have hx : i < xs.length := hl ▸ hy
  have e := entry_at he i
  rw [Array.getElem?_eq_getElem hi, List.getElem?_eq_getElem hy, Option.map_some] at e
  have e' := Option.some.inj e
  have pq : ∀ {xs : List (NestedKey × Addr × V)} {ys : List (NestedKey × Addr × Value)}, Paired (fun p q => p.1 = q.1 ∧ p.2.1 = q.2.1 ∧ RelV p.2.2 q.2.2) xs ys → ∀ (i : Nat) (h1 : i < xs.length) (h2 : i < ys.length), xs[i].2.1 = ys[i].2.1 := by
    intro xs ys pr
    induction pr with
    | nil => intro i h1; exact absurd h1 (by simp)
    | cons r _ ih =>
      intro i h1 h2
      cases i with
      | zero => exact r.2.1
      | succ i => exact ih i (by simpa using h1) (by simpa using h2)
  exact ⟨xs[i], List.getElem?_eq_getElem hx, by rw [e', pq pr i hx hy]; rfl⟩
theorem vals_keys {xs : List (NestedKey × Addr × V)} {us : List Value} (hl : us.length = xs.length) (h : ∀ (j : Nat) (v : Value), us[j]? = some v → ∃ x, xs[j]? = some x ∧ v = .ref x.2.1) : us = xs.map fun x => .ref x.2.1 := by
  apply List.ext_getElem?
  intro j
  rw [List.getElem?_map]
  cases e : us[j]? with
  | none =>
    have : xs.length ≤ j := by rw [← hl]; exact List.getElem?_eq_none_iff.mp e
    rw [List.getElem?_eq_none this]; rfl
  | some v =>
    obtain ⟨x, e1, e2⟩ := h j v e
    rw [e1, e2]; rfl
theorem vals_refs (xs : List (NestedKey × Addr × V)) : Vals (xs.map fun x => V.ref x.2.1) (xs.map fun x => Value.ref x.2.1) := by
  induction xs with
  | nil => exact .nil
  | cons x r ih => exact .cons (show RelV (.ref x.2.1) (.ref x.2.1) from rfl) ih
/-- sorted(d), d a dict whose keys are tuples of ints -/
def rSortGD (κ : Kap) : List V → Hp → VK → Prop := fun vs H Q => ∃ (a : Addr) (xs : List (NestedKey × Addr × V)) (nss : List (List Int)) (P : V → List Int → Prop), vs = [V.ref a] ∧ H a = some (.ext (DPhi κ a xs)) ∧ (∀ x ns, P x ns → TupI κ.K H x ns) ∧ Paired P (xs.map fun x => V.ref x.2.1) nss ∧ (∀ ns ∈ nss, ns ≠ []) ∧
  ∀ (ys : List V) (p : Addr), Paired P ys (sortI nss) → H p = none → Q (.ref p) (upd H p (.lst ys))
theorem cr_sortGD {κ : Kap} (hK : X.K = κ.K) (hcalm : X.calm = true) : CallR X (.builtin "sorted") (rSortGD κ) := by
  intro pins s σ H vs us Q I r h
  obtain ⟨a, xs, nss, P, rfl, hd, hP, hx, hne, q⟩ := h
  rw [← hK] at hP
  obtain ⟨es, ep, hat, hsz, hz, lo, hkeys⟩ := dphi_raw (I.hok a _ hd).1
  rw [Vals.ref1 r]
  refine Calls.call_function_entry PyProof.Rows.kind_sorted PyProof.Rows.plain_sorted PyProof.Rows.entry_sorted (PyProof.Rows.args_sorted1 _) ?_
  unfold Builtin.«sorted»
  refine wpAny_bind (m := checkCount "sorted" 1 1 _) (wpAny_pure ?_)
  refine wpAny_bind (PySem.W.kdu_collect (A := X.A.in1) (KdlSrc.rawDict (es := es) (ep := ep) lo) (I.ok.hd hcalm) hat (by rw [hsz]; exact hz) fun h' tk acc hk hacc => ?_)
  have hal : acc.toList.length = xs.length := by rw [Array.length_toList, hacc.1, hsz]
  have hac : acc.toList = xs.map fun x => .ref x.2.1 := vals_keys hal fun j v e => by
    obtain ⟨hi, ev⟩ := hacc.2 j v (by rw [← Array.getElem?_toList]; exact e)
    obtain ⟨x, e1, e2⟩ := hkeys j hi
    exact ⟨x, e1, ev.trans e2⟩
  have I1 : Inv X pins σ H { s with heap := h', toks := tk } := I.kept hk
  have rv : Vals (xs.map fun x => V.ref x.2.1) acc.toList := by rw [hac]; exact vals_refs xs
  refine wpAny_bind (wpAny_newList ?_ (by rw [hal]; exact hz))
  have hoL : (h'.push (seqObj "list" acc.toList.toArray 0)).get? h'.objs.size = some (seqObj "list" acc.toList.toArray 0) := Heap.get?_push_size _ rfl
  show wpAny _ _ _ _ _ { s with heap := h'.push (seqObj "list" acc.toList.toArray 0), toks := tk }
  have I2 : Inv X pins σ H { s with heap := h'.push (seqObj "list" acc.toList.toArray 0), toks := tk } := I1.kept (t' := tk) fun _ _ e => Heap.get?_push_of_some _ e
  obtain ⟨k1, k2⟩ := TupIs.tups I2 hP rv hx
  have kb := TupIs.back I2 hP rv hx
  have kne : ∀ v ∈ acc.toList, ∃ n0 ns, TS.TupInts (h'.push (seqObj "list" acc.toList.toArray 0)) v (n0 :: ns) := fun v hv => by
    obtain ⟨ns, m, t⟩ := k1 v hv
    cases ns with
    | nil => exact absurd rfl (hne _ m)
    | cons n0 ns => exact ⟨n0, ns, t⟩
  obtain ⟨fs, tf⟩ := tupsOf_of kne
  refine wpAny_bind (wpAny_holding (wpAny_call_entry PyProof.Rows.slot_list_sort ⟨_, hoL, rfl⟩ PyProof.Rows.entry_list_sort
    (G.list_sort_tups (s := { s with heap := h'.push (seqObj "list" acc.toList.toArray 0), toks := tk }) (shape := fun _ => false) (fs := fs) hoL tf (fun v hv => let ⟨ns, _, t⟩ := k1 v hv; ⟨_, key_of t⟩) (by rw [hal]; exact hz) fun st' hp hs _ => ⟨_, rfl, ?_⟩)
    (PyProof.Rows.args_list_sort _)))
  obtain ⟨po, eo⟩ := out_of (h := h'.push (seqObj "list" acc.toList.toArray 0)) (fun v hv => let ⟨ns, _, t⟩ := k1 v hv; ⟨ns, t⟩) hp hs
  obtain ⟨e', he'⟩ := PyProof.Rows.sortedHeap_at (vs := acc.toList) (out := (arrOf st').map (·.2)) hoL
  have h3 : ∀ u ∈ ((arrOf st').map (·.2)).toList, P (bkV u) (TS.intsOf (h'.push (seqObj "list" acc.toList.toArray 0)) u) ∧ ∃ a, u = .ref a := fun u hu => kb u (po.mem_iff.mp hu)
  have hv : Vals (((arrOf st').map (·.2)).toList.map bkV) ((arrOf st').map (·.2)).toList := bkV_vals fun u hu => (h3 u hu).2
  have hlen : (((arrOf st').map (·.2)).toList.map bkV).length = xs.length := by rw [List.length_map, po.length_eq, hal]
  have pr := paired_map fun u hu => (h3 u hu).1
  rw [eo, k2] at pr
  refine wpAny_pure ⟨_, rfl, .ref h'.objs.size, upd H h'.objs.size (.lst (((arrOf st').map (·.2)).toList.map bkV)), I1.laid (t' := tk) (fun b u e => ?_) (Nat.le_refl _)
    (show ObjOk X.prog X.w _ _ _ (.lst (((arrOf st').map (·.2)).toList.map bkV)) from ⟨by rw [hlen]; exact hz, ((arrOf st').map (·.2)).toList, e', hv, by rw [Array.toArray_toList]; exact he'⟩), rfl, q _ _ pr (I1.hok.fresh (Nat.le_refl _))⟩
  have hb : b < h'.objs.size := Heap.lt_size e
  rw [PyProof.Rows.sortedHeap_old (Nat.ne_of_lt hb) (by rw [size_push']; exact Nat.lt_succ_of_lt hb)]
  exact Heap.get?_push_of_some _ e
end
end QY

/-! Dicts whose keys are tuples. -/
namespace QY
open PySem PySem.Spec PyProof.Rows L2
/-! ### the data -/
def asTup : D → Option (List Int)
  | .tup ds => asInts ds
  | _ => none
def asTups : List D → Option (List (List Int))
  | [] => some []
  | d :: r => (asTup d).bind fun n => (asTups r).map fun t => n :: t
def tupD (ns : List Int) : D := .tup (ns.map .int)
def tupsD (nss : List (List Int)) : List D := nss.map tupD
theorem asTups_map : ∀ nss : List (List Int), asTups (tupsD nss) = some nss
  | [] => rfl
  | n :: r => by
    show (asInts (n.map D.int)).bind _ = _
    rw [asInts_map]
    show (asTups (tupsD r)).map _ = _
    rw [asTups_map r]; rfl
theorem asTups_of : ∀ {ds : List D} {nss : List (List Int)}, asTups ds = some nss → ds = tupsD nss
  | [], _, h => by cases h; rfl
  | d :: r, nss, h => by
    have h : ((asTup d).bind fun n => (asTups r).map fun t => n :: t) = some nss := h
    cases e : asTup d with
    | none => rw [e] at h; cases h
    | some n =>
      rw [e] at h
      have h : ((asTups r).map fun t => n :: t) = some nss := h
      cases e2 : asTups r with
      | none => rw [e2] at h; cases h
      | some t =>
        rw [e2] at h
        cases h
        rw [asTups_of e2]
        cases d with
        | tup ds =>
          have : asInts ds = some n := e
          rw [asInts_of this]; rfl
        | _ => cases e
def noE (nss : List (List Int)) : Bool := nss.all fun n => !n.isEmpty
def sortedD : List D → Option D
  | [.lst ds] => (asTups ds).bind fun nss => if noE nss then some (.lst (tupsD (sortI nss))) else none
  | [.dct ks _] => (asTups ks).bind fun nss => if noE nss then some (.lst (tupsD (sortI nss))) else none
  | _ => none
section
variable {X : Cx} {κ : Kap} {W : WX} {P : PP} {H0 H : Hp}
theorem pair_tups : ∀ {nss : List (List Int)} {xs : List V}, Reps κ H0 xs (tupsD nss) → Paired (fun x ns => Rep κ H0 x (tupD ns)) xs nss
  | [], _, .nil => .nil
  | _ :: _, _, .cons r t => .cons r (pair_tups t)
theorem tups_pair : ∀ {nss : List (List Int)} {xs : List V}, Paired (fun x ns => Rep κ H0 x (tupD ns)) xs nss → Reps κ H0 xs (tupsD nss)
  | _, _, .nil => .nil
  | _, _, .cons r t => .cons r (tups_pair t)
theorem tup_is (E : Ex H0 H) {x : V} {ns : List Int} (r : Rep κ H0 x (tupD ns)) : TupI κ.K H x ns := by
  cases r with
  | tup h r =>
    rw [r.ints_of] at h
    exact ⟨_, rfl, SqT.of (E _ _ h)⟩
theorem noE_of {nss : List (List Int)} (h : noE nss = true) : ∀ ns ∈ nss, ns ≠ [] := fun ns hm z => by
  have := List.all_eq_true.mp h ns hm
  subst z
  cases this
theorem Bor.dct {v : V} {ks vs : List D} (E : Ex H0 H) (b : Bor κ H0 H v (.dct ks vs)) : ∃ a xs, v = .ref a ∧ H a = some (.ext (DPhi κ a xs)) ∧ Reps κ H0 (xs.map fun x => V.ref x.2.1) ks ∧ Reps κ H0 (xs.map fun x => x.2.2) vs ∧ ks.map nk = xs.map fun x => some x.1 := by
  rcases b with r | ⟨a, rfl, n, xs, h1, h2, h3, h4⟩
  · cases r with
    | dct h1 h2 h3 h4 => exact ⟨_, _, rfl, E _ _ h1, h2, h3, h4⟩
  · exact ⟨a, xs, rfl, h1, h2, h3, h4⟩
theorem c_sorted (hK : X.K = κ.K) (hc : X.calm = true) : CallR X (.builtin "sorted") (rC κ (PX κ) sortedD) := CallR_of fun ds d e => by
  unfold sortedD at e
  split at e
  · rename_i ds
    cases e2 : asTups ds with
    | none => rw [e2] at e; cases e
    | some nss =>
      rw [e2] at e
      have e : (if noE nss then some (D.lst (tupsD (sortI nss))) else none) = some d := e
      split at e
      · rename_i hne
        cases e
        obtain rfl := asTups_of e2
        exact CallR_weak cr_sortG fun vs H Q ⟨H0, E, bb, q⟩ => by
          obtain ⟨v, rfl, b⟩ := bb.one
          obtain ⟨p, ws, rfl, ea, ra⟩ := b.lst E
          refine ⟨p, ws, nss, fun x ns => Rep κ H0 x (tupD ns), rfl, by rw [hK]; exact .of ea, fun x ns r => by rw [hK]; exact tup_is E r, pair_tups ra, noE_of hne, fun ys p pr hp => newL E (tups_pair pr) q p hp⟩
      · cases e
  · rename_i ks vs'
    cases e2 : asTups ks with
    | none => rw [e2] at e; cases e
    | some nss =>
      rw [e2] at e
      have e : (if noE nss then some (D.lst (tupsD (sortI nss))) else none) = some d := e
      split at e
      · rename_i hne
        cases e
        obtain rfl := asTups_of e2
        exact CallR_weak (cr_sortGD (κ := κ) hK hc) fun vs H Q ⟨H0, E, bb, q⟩ => by
          obtain ⟨v, rfl, b⟩ := bb.one
          obtain ⟨p, xs, rfl, ea, ra, _, _⟩ := b.dct E
          exact ⟨p, xs, nss, fun x ns => Rep κ H0 x (tupD ns), rfl, ea, fun x ns r => tup_is E r, pair_tups ra, noE_of hne, fun ys p pr hp => newL E (tups_pair pr) q p hp⟩
      · cases e
  · cases e
/-! ### {} -/
theorem dphi_empty {a : Addr} {h : Heap} (ho : h.get? a = some { cls := .type "dict", data := .dict #[] }) (hm : (a == sysModules) = false) : DPhi κ a [] h :=
  ⟨[], .nil, _, #[], 0, ho, ⟨rfl, rfl, rfl⟩, rfl, rfl, List.nodup_nil, Nat.zero_le _, hm⟩
theorem dphi_stays {a : Addr} {xs : List (NestedKey × Addr × V)} {h1 h2 : Heap} (d : DPhi κ a xs h1) (k : ∀ o, h1.get? a = some o → h2.get? a = some o) : DPhi κ a xs h2 := by
  obtain ⟨ys, pr, o, es, ep, ho, r⟩ := d
  exact ⟨ys, pr, o, es, ep, k o ho, r⟩
theorem dphi_there {a : Addr} {xs : List (NestedKey × Addr × V)} {h : Heap} (d : DPhi κ a xs h) : ∃ o, h.get? a = some o := by
  obtain ⟨ys, pr, o, es, ep, ho, r⟩ := d
  exact ⟨o, ho⟩
theorem dphi_ok {Pr : Program} {w : World} {a : Addr} {xs : List (NestedKey × Addr × V)} {h : Heap} (d : DPhi κ a xs h) : ObjOk Pr w H h a (.ext (DPhi κ a xs)) :=
  ⟨d, dphi_there d, fun _ _ => dphi_stays⟩
theorem n_dnew {pos : Pos} : PE X (.Dict [] [] pos) (tP κ W (PX κ) (eCon (.dct [] []))) := ⟨fun pins s σ H Q I ⟨ρ, H0, E, S, q⟩ => by
  have hp : H s.heap.objs.size = none := I.hok.fresh (Nat.le_refl _)
  have hm : (s.heap.objs.size == sysModules) = false := beq_eq_false_iff_ne.mpr (Nat.ne_of_gt I.big)
  refine wpAny_Dict_empty ⟨.ref s.heap.objs.size, _, I.laid (a := s.heap.objs.size) (o := .ext (DPhi κ s.heap.objs.size [])) (t' := s.toks) (fun _ _ q => Heap.get?_push_of_some _ q) (Nat.le_refl _) (dphi_ok (dphi_empty (Heap.get?_push_size _ rfl) hm)), rfl, ?_⟩
  exact q _ H0 _ (Grow.own E hp) ⟨_, rfl, hp, E.none hp, [], upd_same, .nil, .nil, rfl⟩⟩
end
end QY

/-! Dicts whose keys are tuples: in, store. -/
namespace QY
open PySem PySem.Spec PyProof.Rows L2
/-! ### the data -/
/-- a tuple as a key of a dict -/
def keyD : D → Option NestedKey
  | .tup xs => (nk (.tup xs)).bind fun k => if k.depth ≤ 8 then some k else none
  | _ => none
def okKeys (ks : List D) : Bool := ks.all fun d => (keyD d).isSome
def getKD (k : NestedKey) : List D → List D → Option D
  | d :: ks, v :: vs => if nk d = some k then some v else getKD k ks vs
  | _, _ => none
def putKs (k : NestedKey) (kd : D) : List D → List D
  | [] => [kd]
  | d :: ks => if nk d = some k then d :: ks else d :: putKs k kd ks
def putVs (k : NestedKey) (v : D) : List D → List D → List D
  | d :: ks, w :: vs => if nk d = some k then v :: vs else w :: putVs k v ks vs
  | _, _ => [v]
/-- in, by the data -/
def inE (neg : Bool) (x y : D) : Option D := match y with
  | .dct ks vs => (keyD x).bind fun k => if okKeys ks then some (.bl (if neg then !(getKD k ks vs).isSome else (getKD k ks vs).isSome)) else none
  | _ => inD neg x y
section
variable {X : Cx} {κ : Kap} {W : WX} {P : PP} {H0 H : Hp} {pins : List (Addr × Obj)} {σ : L2.St} {s : Shared}
/-! ### keys of the machine -/
theorem nkAll_cons {x : D} {xs : List D} {ks : List NestedKey} (h : nk.nkAll (x :: xs) = some ks) : ∃ k r, nk x = some k ∧ nk.nkAll xs = some r ∧ ks = k :: r := by
  have h : ((nk x).bind fun k => (nk.nkAll xs).map fun ks => k :: ks) = some ks := h
  cases e : nk x with
  | none => rw [e] at h; cases h
  | some k =>
    rw [e] at h
    have h : ((nk.nkAll xs).map fun ks => k :: ks) = some ks := h
    cases e2 : nk.nkAll xs with
    | none => rw [e2] at h; cases h
    | some r => rw [e2] at h; cases h; exact ⟨k, r, rfl, rfl, rfl⟩
mutual
theorem rep_nested (I : Inv X pins σ H s) (E : Ex H0 H) : ∀ {v : V} {d : D} {k : NestedKey} {u : Value}, Rep κ H0 v d → nk d = some k → RelV v u → NestedIs s.heap k u
  | _, _, _, _, .non, h, r => by cases h; cases r; exact .none
  | _, _, _, _, .bl b, h, r => by cases h; cases r; exact .bool rfl
  | _, _, _, _, .int i, h, r => by cases h; obtain ⟨t, rfl⟩ := r; exact .int _ _
  | _, _, _, _, .str i, h, r => by cases h; obtain ⟨t, rfl⟩ := r; exact .text _ _
  | _, _, _, _, .tup (ds := ds) ha ra, h, r => by
    have h : (nk.nkAll ds).map NestedKey.tup = some _ := h
    cases e : nk.nkAll ds with
    | none => rw [e] at h; cases h
    | some ks =>
      rw [e] at h
      cases h
      cases r
      obtain ⟨_, its, rv, o, ho, hc, n, hd⟩ := I.hok _ _ (E _ _ ha)
      exact .tup ho hc hd (reps_nested I E ra e (by simpa using rv))
  | _, _, _, _, .lst _ _, h, _ => by cases h
  | _, _, _, _, .scr _, h, _ => by cases h
  | _, _, _, _, .dct _ _ _ _, h, _ => by cases h
  | _, _, _, _, .obj _ _ _, h, _ => by cases h
  | _, _, _, _, .exc0 _, h, _ => by cases h
  | _, _, _, _, .exc1 _ _ _, h, _ => by cases h
  | _, _, _, _, .cls _, h, _ => by cases h
  | _, _, _, _, .ty _, h, _ => by cases h
  | _, _, _, _, .ptr _, h, _ => by cases h
  | _, _, _, _, .dat _ _ _ _, h, _ => by cases h
theorem reps_nested (I : Inv X pins σ H s) (E : Ex H0 H) : ∀ {vs : List V} {ds : List D} {ks : List NestedKey} {us : List Value}, Reps κ H0 vs ds → nk.nkAll ds = some ks → Vals vs us → NestedAll s.heap ks us
  | _, _, _, _, .nil, h, r => by cases h; cases r; exact .nil
  | _, _, _, _, .cons a b, h, r => by
    obtain ⟨k, t, h1, h2, rfl⟩ := nkAll_cons h
    cases r with
    | cons r1 r2 => exact .cons (rep_nested I E a h1 r1) (reps_nested I E b h2 r2)
end
theorem keyD_of {d : D} {k : NestedKey} (h : keyD d = some k) : nk d = some k ∧ k.depth ≤ 8 ∧ ∃ xs, d = .tup xs := by
  cases d with
  | tup xs =>
    have h : ((nk (.tup xs)).bind fun k => if k.depth ≤ 8 then some k else none) = some k := h
    cases e : nk (.tup xs) with
    | none => rw [e] at h; cases h
    | some q =>
      rw [e] at h
      have h : (if q.depth ≤ 8 then some q else none) = some k := h
      split at h
      · cases h; exact ⟨rfl, by assumption, _, rfl⟩
      · cases h
  | _ => cases h
theorem key_is (I : Inv X pins σ H s) (E : Ex H0 H) {a : Addr} {d : D} {k : NestedKey} {Pr : Program} {w : World} (r : Rep κ H0 (.ref a) d) (h : keyD d = some k) : (nestedKind Pr w).is s.heap k a := by
  obtain ⟨h1, h2, _⟩ := keyD_of h
  exact ⟨rep_nested I E r h1 (show RelV (.ref a) (.ref a) from rfl), h2⟩
/-- the keys of a dict are keys -/
theorem keys_are (I : Inv X pins σ H s) (E : Ex H0 H) {Pr : Program} {w : World} : ∀ {xs : List (NestedKey × Addr × V)} {ks : List D}, Reps κ H0 (xs.map fun x => V.ref x.2.1) ks → ks.map nk = xs.map (fun x => some x.1) → okKeys ks = true → ∀ x ∈ xs, (nestedKind Pr w).is s.heap x.1 x.2.1
  | [], _, _, _, _ => fun x hx => by cases hx
  | y :: xs, _, .cons (d := d) (ds := ds) r t, h, hk => by
    rw [List.map_cons, List.map_cons] at h
    injection h with h1 h2
    have hk' : (keyD d).isSome = true ∧ okKeys ds = true := Bool.and_eq_true_iff.mp hk
    intro x hx
    rcases List.mem_cons.mp hx with e | hx
    · rw [e]
      cases e2 : keyD d with
      | none => rw [e2] at hk'; cases hk'.1
      | some k =>
        have := (keyD_of e2).1
        rw [h1] at this
        cases this
        exact key_is I E r e2
    · exact keys_are I E t h2 hk'.2 x hx
abbrev DR : NestedKey × Addr × V → NestedKey × Addr × Value → Prop := fun p q => p.1 = q.1 ∧ p.2.1 = q.2.1 ∧ RelV p.2.2 q.2.2
theorem pair_mem {xs : List (NestedKey × Addr × V)} {ys : List (NestedKey × Addr × Value)} (h : Paired DR xs ys) : ∀ y ∈ ys, ∃ x ∈ xs, x.1 = y.1 ∧ x.2.1 = y.2.1 := by
  induction h with
  | nil => exact fun y hy => by cases hy
  | cons r _ ih =>
    intro y hy
    rcases List.mem_cons.mp hy with e | hy
    · rw [e]; exact ⟨_, List.mem_cons_self, r.1, r.2.1⟩
    · obtain ⟨x, m, q⟩ := ih y hy
      exact ⟨x, List.mem_cons_of_mem _ m, q⟩
theorem dofh {a : Addr} {xs : List (NestedKey × Addr × V)} {h : Heap} (d : DPhi κ a xs h) (hk : ∀ x ∈ xs, (nestedKind κ.P κ.w).is h x.1 x.2.1) : ∃ ys, Paired DR xs ys ∧ h.DictOfH (nestedKind κ.P κ.w) a ys ∧ xs.length ≤ sizeLine ∧ (a == sysModules) = false := by
  obtain ⟨ys, pr, o, es, ep, ho, hc, hd, he, hn, hz, hm⟩ := d
  refine ⟨ys, pr, ⟨o, es, ep, ho, hc, hd, he, fun y hy => ?_, hn⟩, hz, hm⟩
  obtain ⟨x, m, e1, e2⟩ := pair_mem pr y hy
  rw [← e1, ← e2]
  exact hk x m
/-- look-ups -/
def getR (k : NestedKey) : List (NestedKey × Addr × V) → Option V
  | [] => none
  | x :: r => if x.1 = k then some x.2.2 else getR k r
theorem atKey_cons (y : NestedKey × Addr × Value) (ys : List (NestedKey × Addr × Value)) (k : NestedKey) : atKey (y :: ys) k = if y.1 = k then some y.2 else atKey ys k := by
  unfold atKey
  rw [List.find?_cons]
  by_cases h : y.1 = k
  · rw [if_pos h, decide_eq_true h]; rfl
  · rw [if_neg h, decide_eq_false h]
theorem getR_at {xs : List (NestedKey × Addr × V)} {ys : List (NestedKey × Addr × Value)} (h : Paired DR xs ys) (k : NestedKey) : (getR k xs = none ∧ atKey ys k = none) ∨ ∃ v p, getR k xs = some v ∧ atKey ys k = some p ∧ RelV v p.2 := by
  induction h with
  | nil => exact .inl ⟨rfl, rfl⟩
  | cons r _ ih =>
    rename_i p q ps qs _
    rw [atKey_cons]
    show (((if p.1 = k then some p.2.2 else getR k ps) = none ∧ _) ∨ ∃ v p', (if p.1 = k then some p.2.2 else getR k ps) = some v ∧ _)
    by_cases e : p.1 = k
    · rw [if_pos e, if_pos (r.1 ▸ e)]
      exact .inr ⟨_, _, rfl, rfl, r.2.2⟩
    · rw [if_neg e, if_neg fun z => e (r.1.trans z)]
      exact ih
theorem getKD_R {H0 : Hp} {k : NestedKey} : ∀ {xs : List (NestedKey × Addr × V)} {ks vs : List D}, ks.map nk = xs.map (fun x => some x.1) → Reps κ H0 (xs.map fun x => x.2.2) vs → (getR k xs = none ∧ getKD k ks vs = none) ∨ ∃ v d, getR k xs = some v ∧ getKD k ks vs = some d ∧ Rep κ H0 v d
  | [], [], _, _, .nil => .inl ⟨rfl, rfl⟩
  | [], _ :: _, _, h, _ => by cases h
  | _ :: _, [], _, h, _ => by cases h
  | x :: xs, d :: ks, _, h, .cons (d := w) (ds := vs) r t => by
    rw [List.map_cons, List.map_cons] at h
    injection h with h1 h2
    have ih := getKD_R (k := k) h2 t
    show (((if x.1 = k then some x.2.2 else getR k xs) = none ∧ (if nk d = some k then some w else getKD k ks vs) = none) ∨ ∃ v d', (if x.1 = k then some x.2.2 else getR k xs) = some v ∧ (if nk d = some k then some w else getKD k ks vs) = some d' ∧ _)
    by_cases e : x.1 = k
    · rw [if_pos e, if_pos (by rw [h1, e])]
      exact .inr ⟨_, _, rfl, rfl, r⟩
    · rw [if_neg e, if_neg (by rw [h1]; exact fun z => e (Option.some.inj z))]
      exact ih
theorem room_of (hu : X.A.units + 64 < cLine) : (nestedKind κ.P κ.w).room X.A.in1 := by
  show X.A.units + 1 + 8 < cLine
  omega
theorem o_inE' {neg : Bool} {op : CmpOp} (hop : op = if neg then .NotIn else .In) (hK : X.K = κ.K) (hP : X.prog = κ.P) (hw : X.w = κ.w) (hu : X.A.units + 64 < cLine) : OpR X (compareOp op) (rG κ (PR κ) (inE neg)) := OpR_of fun dx dy d e => by
  cases dy with
  | dct ks vs =>
    have e : ((keyD dx).bind fun k => if okKeys ks then some (D.bl (if neg then !(getKD k ks vs).isSome else (getKD k ks vs).isSome)) else none) = some d := e
    cases ek : keyD dx with
    | none => rw [ek] at e; cases e
    | some k =>
      rw [ek] at e
      have e : (if okKeys ks then some (D.bl (if neg then !(getKD k ks vs).isSome else (getKD k ks vs).isSome)) else none) = some d := e
      split at e
      · rename_i hks
        cases e
        intro pins s σ H x y v u Q I rx ry ⟨H0, E, bx, bY, q⟩
        obtain ⟨a, xs, rfl, ea, r1, r2, r3⟩ := bY.dct E
        obtain ⟨_, _, ds, rfl⟩ := keyD_of ek
        have rx0 := bx.flat (fun _ _ h => h)
        obtain ⟨b, rfl⟩ : ∃ b, x = .ref b := by cases rx0; exact ⟨_, rfl⟩
        cases rx; cases ry
        have hkey : (nestedKind κ.P κ.w).is s.heap k b := key_is I E rx0 ek
        obtain ⟨ys, pr, dd, hz, hm⟩ := dofh (I.hok a _ ea).1 (keys_are I E r1 r3 hks)
        have same : (atKey ys k).isSome = (getKD k ks vs).isSome := by
          rcases getR_at pr k with ⟨e1, e2⟩ | ⟨v1, p1, e1, e2, _⟩
          · rcases getKD_R (k := k) r3 r2 with ⟨f1, f2⟩ | ⟨v2, d2, f1, f2, _⟩
            · rw [e2, f2]; rfl
            · rw [e1] at f1; cases f1
          · rcases getKD_R (k := k) r3 r2 with ⟨f1, f2⟩ | ⟨v2, d2, f1, f2, _⟩
            · rw [e1] at f1; cases f1
            · rw [e2, f2]; rfl
        subst hop
        cases neg with
        | false =>
          have := wpAny_in_heap (A := X.A) (E := X.xe) (Q := EP X pins σ Q) (room_of (κ := κ) hu) hkey hm dd (by rw [same]; exact ⟨.bl _, H, I.tok _, rfl, q _ _ _ (.refl E) (.bl _)⟩)
          rw [← hP, ← hw] at this
          exact this
        | true =>
          have : wpAny (model κ.P κ.w) X.A (compareOp .NotIn (.ref b) (.ref a)) (EP X pins σ Q) X.xe s := by
            show wpAny _ _ (do return (Value.bool (!(← contains (.ref a) (.ref b)))) : Sem Value) _ _ s
            exact wpAny_bind (wpAny_contains_heap (room_of (κ := κ) hu) hkey hm dd (wpAny_pure (by rw [same]; exact ⟨.bl _, H, I.tok _, rfl, q _ _ _ (.refl E) (.bl _)⟩)))
          rw [← hP, ← hw] at this
          exact this
      · cases e
  | _ => exact OpR_weak (o_in' hop hK hu) fun x y H Q ⟨H0, E, bx, bY, q⟩ => ⟨H0, _, _, E, bx, bY, by rw [show inD neg dx _ = some d from e]; exact q⟩
theorem k_inE {mg : Str → Option Value} {base : Heap} {k : Nat} {N : List Str} {sc : Scope} {own : Str → Bool} (G : Good X κ W mg base k N sc own) : CmpOk X κ .In (inE false) := o_inE' rfl G.hK G.hP G.hw G.un
theorem k_ninE {mg : Str → Option Value} {base : Heap} {k : Nat} {N : List Str} {sc : Scope} {own : Str → Bool} (G : Good X κ W mg base k N sc own) : CmpOk X κ .NotIn (inE true) := o_inE' rfl G.hK G.hP G.hw G.un
/-! ### d[k] = v -/
def putG {α : Type} (k : NestedKey) (b : Addr) (v : α) : List (NestedKey × Addr × α) → List (NestedKey × Addr × α)
  | [] => [(k, b, v)]
  | x :: r => if x.1 = k then (x.1, x.2.1, v) :: r else x :: putG k b v r
theorem putAt_none {k : NestedKey} {u : Value} : ∀ {ys : List (NestedKey × Addr × Value)}, k ∉ ys.map (·.1) → ys.map (putAt k u) = ys
  | [], _ => rfl
  | y :: ys, h => by
    rw [List.map_cons, List.mem_cons] at h
    rw [List.map_cons, putAt_none fun z => h (.inr z)]
    unfold putAt
    rw [if_neg fun z => h (.inl z.symm)]
theorem storedH_put {k : NestedKey} {b : Addr} {u : Value} : ∀ {ys : List (NestedKey × Addr × Value)}, (ys.map (·.1)).Nodup → storedH ys k b u = putG k b u ys
  | [], _ => rfl
  | y :: ys, h => by
    rw [List.map_cons] at h
    obtain ⟨h1, h2⟩ := List.nodup_cons.mp h
    have ih := storedH_put (k := k) (b := b) (u := u) h2
    unfold storedH
    rw [atKey_cons]
    by_cases e : y.1 = k
    · rw [if_pos e]
      show (y :: ys).map (putAt k u) = (if y.1 = k then (y.1, y.2.1, u) :: ys else _)
      rw [if_pos e, List.map_cons, putAt_none (by rw [← e]; exact h1)]
      unfold putAt
      rw [if_pos e]
    · rw [if_neg e]
      show _ = (if y.1 = k then (y.1, y.2.1, u) :: ys else y :: putG k b u ys)
      rw [if_neg e, ← ih]
      unfold storedH
      split
      · rw [List.map_cons]
        congr 1
        unfold putAt
        rw [if_neg e]
      · rfl
theorem put_pair {k : NestedKey} {b : Addr} {v : V} {u : Value} (r : RelV v u) {xs : List (NestedKey × Addr × V)} {ys : List (NestedKey × Addr × Value)} (h : Paired DR xs ys) : Paired DR (putG k b v xs) (putG k b u ys) := by
  induction h with
  | nil => exact .cons ⟨rfl, rfl, r⟩ .nil
  | cons p _ ih =>
    rename_i p0 q0 ps qs t
    show Paired DR (if p0.1 = k then (p0.1, p0.2.1, v) :: ps else p0 :: putG k b v ps) (if q0.1 = k then (q0.1, q0.2.1, u) :: qs else q0 :: putG k b u qs)
    by_cases e : p0.1 = k
    · rw [if_pos e, if_pos (p.1 ▸ e)]
      exact .cons ⟨p.1, p.2.1, r⟩ t
    · rw [if_neg e, if_neg fun z => e (p.1.trans z)]
      exact .cons p ih
theorem putG_len {α : Type} {k : NestedKey} {b : Addr} {v : α} : ∀ xs : List (NestedKey × Addr × α), (putG k b v xs).length ≤ xs.length + 1
  | [] => Nat.le_refl _
  | x :: r => by
    show (if x.1 = k then (x.1, x.2.1, v) :: r else x :: putG k b v r).length ≤ _
    split
    · simp
    · have := putG_len (k := k) (b := b) (v := v) r
      simp only [List.length_cons]; omega
theorem put_reps {k : NestedKey} {b : Addr} {v : V} {dk d : D} (hk : nk dk = some k) (rk : Rep κ H0 (.ref b) dk) (rv : Rep κ H0 v d) : ∀ {xs : List (NestedKey × Addr × V)} {ks vs : List D}, ks.map nk = xs.map (fun x => some x.1) → Reps κ H0 (xs.map fun x => V.ref x.2.1) ks → Reps κ H0 (xs.map fun x => x.2.2) vs →
    Reps κ H0 ((putG k b v xs).map fun x => V.ref x.2.1) (putKs k dk ks) ∧ Reps κ H0 ((putG k b v xs).map fun x => x.2.2) (putVs k d ks vs) ∧ (putKs k dk ks).map nk = (putG k b v xs).map (fun x => some x.1)
  | [], [], _, _, .nil, .nil => ⟨.cons rk .nil, .cons rv .nil, by show [nk dk] = [some k]; rw [hk]⟩
  | [], _ :: _, _, h, _, _ => by cases h
  | _ :: _, [], _, h, _, _ => by cases h
  | x :: xs, q :: ks, _, h, .cons r1 t1, .cons (d := w) (ds := vs) r2 t2 => by
    rw [List.map_cons, List.map_cons] at h
    injection h with h1 h2
    obtain ⟨i1, i2, i3⟩ := put_reps hk rk rv h2 t1 t2
    show Reps κ H0 ((if x.1 = k then (x.1, x.2.1, v) :: xs else x :: putG k b v xs).map fun x => V.ref x.2.1) (if nk q = some k then q :: ks else q :: putKs k dk ks) ∧ Reps κ H0 ((if x.1 = k then (x.1, x.2.1, v) :: xs else x :: putG k b v xs).map fun x => x.2.2) (if nk q = some k then d :: vs else w :: putVs k d ks vs) ∧ _ = (if x.1 = k then (x.1, x.2.1, v) :: xs else x :: putG k b v xs).map (fun x => some x.1)
    by_cases e : x.1 = k
    · have e' : nk q = some k := by rw [h1, e]
      rw [if_pos e, if_pos e', if_pos e']
      refine ⟨.cons r1 t1, .cons rv t2, ?_⟩
      show (if nk q = some k then q :: ks else q :: putKs k dk ks).map nk = _
      rw [if_pos e', List.map_cons, List.map_cons, h1, h2]
    · have e' : ¬ nk q = some k := by rw [h1]; exact fun z => e (Option.some.inj z)
      rw [if_neg e, if_neg e', if_neg e']
      refine ⟨.cons r1 i1, .cons r2 i2, ?_⟩
      show (if nk q = some k then q :: ks else q :: putKs k dk ks).map nk = _
      rw [if_neg e', List.map_cons, List.map_cons, h1, i3]
def rSetN (κ : Kap) : TSet := fun o i v H Q => ∃ H0 a xs ks vs dk k d, Ex H0 H ∧ o = .ref a ∧ H a = some (.ext (DPhi κ a xs)) ∧ Reps κ H0 (xs.map fun x => V.ref x.2.1) ks ∧ Reps κ H0 (xs.map fun x => x.2.2) vs ∧ ks.map nk = xs.map (fun x => some x.1) ∧ okKeys ks = true ∧ Rep κ H0 i dk ∧ keyD dk = some k ∧ Rep κ H0 v d ∧ xs.length < LIM ∧
  ∀ xs', Reps κ H0 (xs'.map fun x => V.ref x.2.1) (putKs k dk ks) → Reps κ H0 (xs'.map fun x => x.2.2) (putVs k d ks vs) → (putKs k dk ks).map nk = xs'.map (fun x => some x.1) → Q (upd H a (.ext (DPhi κ a xs')))
theorem set_N (hP : X.prog = κ.P) (hw : X.w = κ.w) (hu : X.A.units + 64 < cLine) : PSet X (rSetN κ) := by
  intro pins s σ H o i v ov iv u Q I ro ri rv ⟨H0, a, xs, ks, vs, dk, k, d, E, eo, ea, r1, r2, r3, hks, rk, ek, rd, hl, q⟩
  subst eo
  obtain ⟨hk1, _, ds, rfl⟩ := keyD_of ek
  obtain ⟨b, rfl⟩ : ∃ b, i = .ref b := by cases rk; exact ⟨_, rfl⟩
  cases ro; cases ri
  have hkey : (nestedKind κ.P κ.w).is s.heap k b := key_is I E rk ek
  obtain ⟨ys, pr, dd, hz, hm⟩ := dofh (I.hok a _ ea).1 (keys_are I E r1 r3 hks)
  obtain ⟨n1, n2, n3⟩ := put_reps hk1 rk rd r3 r1 r2
  have hyl : ys.length = xs.length := (Paired.length pr).symm
  have hnd := dd
  obtain ⟨_, _, _, _, _, _, _, _, hnod⟩ := hnd
  have := wpAny_setItem_heap (A := X.A) (E := X.xe) (v := u) (Q := fun _ s' => ∃ H', Inv X pins σ H' s' ∧ Q H') (room_of (κ := κ) hu) hkey dd (fun h' hm' hs => by
    rw [storedH_put hnod] at hm'
    obtain ⟨o', es, ep, ho, hc, hd, he, _, hn⟩ := hm'
    have nd : DPhi κ a (putG k b v xs) h' := ⟨_, put_pair rv pr, o', es, ep, ho, hc, hd, he, hn, by have := putG_len (k := k) (b := b) (v := v) xs; rw [lim_eq]; omega, hm⟩
    exact ⟨_, I.write (x := a) (e := a) (t' := s.toks + (nestedKind κ.P κ.w).draws k) (by rw [ea]; exact trivial) (.inl rfl) (fun c w' hb' hw' => (hs.2 c hb').trans hw') ⟨_, ho⟩ (dphi_ok nd), q _ n1 n2 n3⟩) (by rw [hyl, lim_eq]; exact Nat.le_of_lt hl)
  rw [← hP, ← hw] at this
  exact this
end
end QY

/-! d[k] = v, as a statement; the nodes of dicts in a known context. -/
namespace QY
open PySem PySem.Spec PyProof.Rows L2
def putE (ks vs : List D) (dk d : D) : Option (List D × List D) := (keyD dk).bind fun k => if okKeys ks && decide (ks.length < LIM) then some (putKs k dk ks, putVs k d ks vs) else none
def optP (o : Option (List D × List D)) (k : List D → List D → O) : O := match o with
  | some (a, b) => k a b
  | none => .er
def owD (b : Option B) (k : List D → List D → O) : O := match b with
  | some (.ow (.dct ks vs)) => k ks vs
  | _ => .er
def sPut (i : Nat) (fk fv : EV) : SV := sE fv fun d ρ => owD ρ[i]? fun ks vs => sE fk (fun dk ρ => optP (putE ks vs dk d) fun ks' vs' => .nx (ρ.set i (.ow (.dct ks' vs')))) ρ
theorem asg_sub {o i : Expr} {p : Pos} {env : Env} (h : isSlice i = false) (v : Value) : assign (.Subscript o i p) env v = (do
      let ov ← holding [v] (eval o env)
      let iv ← holding [v, ov] (eval i env)
      standAt p
      holding [v, ov, iv] (setItem ov iv v)
      release [v, ov, iv] []) := by
  cases i <;> first | rfl | cases h
section
variable {X : Cx} {κ : Kap} {W : WX} {mg : Str → Option Value} {base : Heap} {k : Nat} {N : List Str} {sc : Scope} {own : Str → Bool} {tg e a b c : Expr} {es : List Expr} {f fa fb fk fv : EV} {fs : AV} {pos p p1 p2 : Pos} {x : Str} {i : Nat}
theorem g_put (G : Good X κ W mg base k N sc own) (h : ckV N sc i x = true) (hl : isLcs e = false) (hsl : isSlice a = false) (hv : PE X e (tP κ W (PR κ) fv)) (hk : PE X a (tP κ W (PR κ) fk)) :
    PS X (.Assign [.Subscript (.Name x p) a p1] e pos) (tS κ W (sPut i fk fv)) := by
  simp only [ckV, Bool.and_eq_true, decide_eq_true_eq] at h
  obtain ⟨h1, h2, h3⟩ := h
  refine PS_weak (ps_asg hv (pg_sub (pe_var (G.nth h1) (by rw [G.hs]; exact vis_of h2) (nodbg_of h3).1 (nodbg_of h3).2.1) hk (set_N G.hP G.hw G.un) (asg_sub hsl)) (swS_of hl) rfl) fun D σ H ⟨ρ, Hk, Hin0, Hin, H0, S, q⟩ => ?_
  refine tP_mono (fun v H1 z => ?_) (SE_of (P := PR κ) S q)
  obtain ⟨H01, d, g, pv, S1, z⟩ := z
  cases eo : ρ[i]? with
  | none => rw [eo] at z; exact z.elim
  | some bb =>
    rw [eo] at z
    cases bb with
    | no => exact z.elim
    | fz d => exact z.elim
    | ow dd =>
      cases dd with
      | dct ks vs =>
        obtain ⟨a', hs, n0, xs, ha, r1, r2, r3⟩ := S1.s.ow i _ eo
        have z : FinS κ W D Hk Hin0 Hin (sE fk (fun dk ρ => optP (putE ks vs dk d) fun ks' vs' => .nx (ρ.set i (.ow (.dct ks' vs')))) ρ) := z
        refine ⟨_, hs, tP_mono (fun u H3 z2 => ?_) (SE_of (P := PR κ) S1 z)⟩
        obtain ⟨H03, dk, g2, pk, S3, z2⟩ := z2
        cases ep : putE ks vs dk d with
        | none => rw [ep] at z2; exact z2.elim
        | some pr =>
          obtain ⟨ks', vs'⟩ := pr
          rw [ep] at z2
          unfold putE at ep
          cases ek : keyD dk with
          | none => rw [ek] at ep; cases ep
          | some kk =>
            rw [ek] at ep
            have ep : (if okKeys ks && decide (ks.length < LIM) then some (putKs kk dk ks, putVs kk d ks vs) else none) = some (ks', vs') := ep
            split at ep
            · rename_i hc
              simp only [Bool.and_eq_true, decide_eq_true_eq] at hc
              cases ep
              have hxl : xs.length = ks.length := by have := congrArg List.length r3; simpa using this.symm
              exact ⟨H03, a', xs, ks, vs, dk, kk, d, S3.g.c, rfl, g2.b _ _ ha, r1.mono g2.a, r2.mono g2.a, r3, hc.1, pk, ek, Rep.mono g2.a pv, by rw [hxl]; exact hc.2, fun xs' n1 n2 n3 => z2 _ _ _ (S3.mut eo hs ⟨xs', rfl, n1, n2, n3⟩)⟩
            · cases ep
      | _ => exact z.elim
theorem g_sorted (G : Good X κ W mg base k N sc own) (hm : mg "sorted" = none) (h : ckG sc "sorted" = true) (st : ns1 e es) (ha : PA X (e :: es) (tA κ W (PLB κ) fs)) : PE X (.Call (.Name "sorted" p) (e :: es) [] pos) (tP κ W (PX κ) (eCallB sortedD fs)) :=
  n_callB pmX (c_sorted G.hK G.calm) (G.gl h) (by rw [G.hm]; exact hm) (by decide +kernel) ha (ckG_nn h) (ckG_db h) (starEach_cons (stars1 st)) (noStars (stars2 st))
end
@[simp] theorem putE_eq {ks vs : List D} {dk d : D} : putE ks vs dk d = (keyD dk).bind fun k => if okKeys ks && decide (ks.length < LIM) then some (putKs k dk ks, putVs k d ks vs) else none := (rfl)
@[simp] theorem sPut_ap {i : Nat} {fk fv : EV} {ρ : List B} : sPut i fk fv ρ = rbd (fv ρ) ρ fun d => owD ρ[i]? fun ks vs => rbd (fk ρ) ρ fun dk => optP (putE ks vs dk d) fun ks' vs' => .nx (ρ.set i (.ow (.dct ks' vs'))) := by
  unfold sPut
  rw [sE_rbd]
  congr 1
  funext d
  congr 1
  funext ks vs
  rw [sE_rbd]
end QY

/-! sorted(set(xs)), xs tuples of ints; what is not told. -/
namespace QY
open PySem PySem.Spec PyProof.Rows L2
theorem sortI_congr {l m : List (List Int)} (h : l.Perm m) : sortI l = sortI m := srt_uniq (sortI_srt _) (sortI_srt _) ((sortI_perm l).trans (h.trans (sortI_perm m).symm))
def ded : List (List Int) → List (List Int)
  | [] => []
  | x :: r => if r.contains x then ded r else x :: ded r
theorem ded_mem : ∀ {l : List (List Int)} {x : List Int}, x ∈ ded l ↔ x ∈ l
  | [], _ => Iff.rfl
  | y :: r, x => by
    unfold ded
    split
    · rename_i h
      rw [ded_mem, List.mem_cons]
      constructor
      · exact .inr
      · rintro (e | h2)
        · rw [e]; simpa using h
        · exact h2
    · rw [List.mem_cons, List.mem_cons, ded_mem]
theorem ded_nodup : ∀ l : List (List Int), (ded l).Nodup
  | [] => List.nodup_nil
  | y :: r => by
    unfold ded
    split
    · exact ded_nodup r
    · rename_i h
      refine List.nodup_cons.mpr ⟨fun z => h ?_, ded_nodup r⟩
      simpa using ded_mem.mp z
theorem sort_same {l m : List (List Int)} (hl : l.Nodup) (h : ∀ x, x ∈ l ↔ x ∈ m) : sortI l = sortI (ded m) :=
  sortI_congr ((List.perm_ext_iff_of_nodup hl (ded_nodup m)).mpr fun x => (h x).trans ded_mem.symm)
section
variable {X : Cx} {κ : Kap} {W : WX} {H0 H : Hp}
def rSortSG (K : PySem.W.Frag) (Pr : Program) (w : World) : List V → Hp → VK → Prop := fun vs H Q => ∃ (a : Addr) (L : List (Addr × List Int)) (P : V → List Int → Prop), vs = [V.ref a] ∧ H a = some (SetTO Pr w a L) ∧ (∀ p ∈ L, P (V.ref p.1) p.2) ∧ (∀ x ns, P x ns → TupI K H x ns) ∧ (∀ p ∈ L, p.2 ≠ []) ∧
  ∀ (ys : List V) (p : Addr), (L.map (·.2)).Nodup → Paired P ys (sortI (L.map (·.2))) → H p = none → Q (.ref p) (upd H p (.lst ys))
theorem cr_sortSG (hc : X.calm = true) : CallR X (.builtin "sorted") (rSortSG X.K X.prog X.w) := by
  intro pins s σ H vs us Q I r h
  obtain ⟨a, L, P, rfl, ha, hp, hP, hne, q⟩ := h
  have R0 : SetT0 X.prog X.w s.heap a L := (I.hok a _ ha).1
  have isT : ∀ p ∈ L, IsT X.prog X.w s.heap p.2 p.1 := fun p m => by
    obtain ⟨t, e, ht⟩ := hP _ _ (hp p m)
    cases e
    exact I.isT ht
  obtain ⟨es, ep, t, R⟩ := R0.full isT
  rw [Vals.ref1 r]
  obtain ⟨o, ho, hex, hd⟩ := R.ob
  have hsz := R.size
  have hfew := R.few
  refine Calls.call_function_entry kind_sorted plain_sorted entry_sorted (args_sorted1 _) ?_
  unfold Builtin.«sorted»
  refine wpAny_bind (m := checkCount "sorted" 1 1 _) (wpAny_pure ?_)
  refine wpAny_bind (collect_set (A := X.A.in1) (I.ok.hd hc) ⟨o, ho, hex.1, hd⟩ R.fits (by unfold scanBound; omega) R.tab.ris R.led fun s1 vs k1 hz g1 o1 pm => ?_)
  have hes : es.toList.map (·.2) = L.map fun q => Value.ref q.1 := by
    rw [R.rows]
    unfold rowsOf
    rw [List.map_map] <;> rfl
  rw [hes] at pm
  have hvl : vs.length < 64 := by rw [pm.length_eq, List.length_map]; exact hfew
  refine wpAny_bind (wpAny_newList ?_ (by rw [sizeLine_eq]; omega))
  have hoL : (s1.heap.push (seqObj "list" vs.toArray 0)).get? s1.heap.objs.size = some (seqObj "list" vs.toArray 0) := Heap.get?_push_size _ rfl
  have tk : ∀ q ∈ L, TS.TupInts (s1.heap.push (seqObj "list" vs.toArray 0)) (.ref q.1) q.2 := fun q hq => tupInts_of (P := X.prog) (w := X.w) (isT_keep (R.tup q hq) fun b u e => Heap.get?_push_of_some _ (k1 b u e))
  have inL : ∀ v ∈ vs, ∃ q ∈ L, v = Value.ref q.1 := fun v hv => by
    obtain ⟨q, hq, e⟩ := List.mem_map.mp (pm.mem_iff.mp hv)
    exact ⟨q, hq, e.symm⟩
  have kne : ∀ v ∈ vs, ∃ n0 ns, TS.TupInts (s1.heap.push (seqObj "list" vs.toArray 0)) v (n0 :: ns) := fun v hv => by
    obtain ⟨q, hq, rfl⟩ := inL v hv
    have t := tk q hq
    have n := hne q hq
    cases e : q.2 with
    | nil => exact absurd e n
    | cons n0 ns => rw [e] at t; exact ⟨n0, ns, t⟩
  obtain ⟨fs, tf⟩ := tupsOf_of kne
  refine wpAny_bind (wpAny_holding (wpAny_call_entry PyProof.Rows.slot_list_sort ⟨_, hoL, rfl⟩ PyProof.Rows.entry_list_sort
    (G.list_sort_tups (s := { s1 with heap := s1.heap.push (seqObj "list" vs.toArray 0) }) (shape := fun _ => false) (fs := fs) hoL tf (fun v hv => let ⟨_, _, t⟩ := kne v hv; ⟨_, key_of t⟩) (by rw [sizeLine_eq]; omega) fun st' hpm hs _ => ⟨_, rfl, ?_⟩)
    (PyProof.Rows.args_list_sort _)))
  obtain ⟨po, eo⟩ := out_of (h := s1.heap.push (seqObj "list" vs.toArray 0)) (fun v hv => let ⟨_, _, t⟩ := kne v hv; ⟨_, t⟩) hpm hs
  have em : (vs.map (TS.intsOf (s1.heap.push (seqObj "list" vs.toArray 0)))).Perm (L.map (·.2)) := by
    refine (pm.map _).trans ?_
    rw [List.map_map]
    refine List.Perm.of_eq (List.map_congr_left fun q hq => (tk q hq).ints)
  rw [sortI_congr em] at eo
  obtain ⟨c, hcc⟩ := PyProof.Rows.sortedHeap_at (vs := vs) (out := (arrOf st').map (·.2)) hoL
  have h3 : ∀ u ∈ ((arrOf st').map (·.2)).toList, P (bkV u) (TS.intsOf (s1.heap.push (seqObj "list" vs.toArray 0)) u) ∧ ∃ a, u = .ref a := fun u hu => by
    obtain ⟨q, hq, rfl⟩ := inL u (po.mem_iff.mp hu)
    rw [(tk q hq).ints]
    exact ⟨hp q hq, _, rfl⟩
  have hv : Vals (((arrOf st').map (·.2)).toList.map bkV) ((arrOf st').map (·.2)).toList := bkV_vals fun u hu => (h3 u hu).2
  have pr := paired_map fun u hu => (h3 u hu).1
  rw [eo] at pr
  have hn : H s1.heap.objs.size = none := I.hok.fresh hz
  have k : ∀ b u, s.heap.get? b = some u → (PyProof.Rows.sortedHeap (s1.heap.push (seqObj "list" vs.toArray 0)) s1.heap.objs.size vs ((arrOf st').map (·.2))).get? b = some u := fun b u e => by
    have q := k1 b u e
    have hlt := Heap.lt_size q
    rw [PyProof.Rows.sortedHeap_old (Nat.ne_of_lt hlt) (by rw [size_push']; exact Nat.lt_succ_of_lt hlt)]
    exact Heap.get?_push_of_some _ q
  have J : Inv X pins σ (upd H s1.heap.objs.size (.lst (((arrOf st').map (·.2)).toList.map bkV))) { s with heap := PyProof.Rows.sortedHeap (s1.heap.push (seqObj "list" vs.toArray 0)) s1.heap.objs.size vs ((arrOf st').map (·.2)), gens := s1.gens, drawn := s1.drawn, toks := s1.toks } :=
    I.call (ch := []) (Un.laid k hz hn) (I.hok.laid k hz ⟨by rw [List.length_map, po.length_eq, sizeLine_eq]; omega, ((arrOf st').map (·.2)).toList, c, hv, by rw [Array.toArray_toList]; exact hcc⟩) (by rw [g1]; exact I.bare) (fun _ z => nomatch z)
  refine wpAny_pure ⟨_, rfl, ?_⟩
  have e : ({ s1 with heap := PyProof.Rows.sortedHeap (s1.heap.push (seqObj "list" vs.toArray 0)) s1.heap.objs.size vs ((arrOf st').map (·.2)) } : Shared) = { s with heap := PyProof.Rows.sortedHeap (s1.heap.push (seqObj "list" vs.toArray 0)) s1.heap.objs.size vs ((arrOf st').map (·.2)), gens := s1.gens, drawn := s1.drawn, toks := s1.toks } := by
    cases s1
    cases s
    cases o1
    rfl
  show EP X pins σ Q _ ({ s1 with heap := PyProof.Rows.sortedHeap (s1.heap.push (seqObj "list" vs.toArray 0)) s1.heap.objs.size vs ((arrOf st').map (·.2)) } : Shared)
  rw [e]
  exact ⟨.ref s1.heap.objs.size, _, J, rfl, q _ _ R.nd pr hn⟩
theorem reps_ks : ∀ {nss : List (List Int)} {vs : List V}, Reps κ H0 vs (tupsD nss) → ∃ ks : List (Addr × List Int), vs = ks.map (fun p => V.ref p.1) ∧ ks.map (·.2) = nss ∧ ∀ p ∈ ks, Rep κ H0 (.ref p.1) (tupD p.2)
  | [], _, .nil => ⟨[], rfl, rfl, fun p hp => by cases hp⟩
  | ns :: _, _, .cons (v := v) r t => by
    obtain ⟨ks, h1, h2, h3⟩ := reps_ks t
    obtain ⟨a, rfl⟩ : ∃ a, v = V.ref a := by cases r; exact ⟨_, rfl⟩
    refine ⟨(a, ns) :: ks, by rw [h1]; rfl, by rw [List.map_cons, h2], fun p hp => ?_⟩
    rcases List.mem_cons.mp hp with e | hp
    · rw [e]; exact r
    · exact h3 p hp
def sortSetD : D → Option D
  | .lst ds => (asTups ds).bind fun nss => if noE nss && decide (nss.length < 64) then some (.lst (tupsD (sortI (ded nss)))) else none
  | _ => none
variable {mg : Str → Option Value} {base : Heap} {k : Nat} {N : List Str} {sc : Scope} {own : Str → Bool} {e : Expr} {f : EV} {pos p p2 p3 : Pos}
theorem g_sortset (G : Good X κ W mg base k N sc own) (hm : mg "sorted" = none) (hm2 : mg "set" = none) (h : ckG sc "sorted" = true) (h2 : ckG sc "set" = true) (st : isStar e = false) (he : PE X e (tP κ W (PB κ) f)) :
    PE X (.Call (.Name "sorted" p) [.Call (.Name "set" p2) [e] [] p3] [] pos) (tP κ W (PX κ) (e1 sortSetD f)) := by
  have inner := pe_callTy (pos := p3) (p := p2) (cr_setOfT (X := X) G.calm G.un) (G.gl h2) (by rw [G.hm]; exact hm2) (by decide +kernel) (pa_cons he pa_nil (starEach_cons st)) (ckG_nn h2) (ckG_db h2) (starEach_cons st) rfl
  refine PE_weak (pe_callB (pos := pos) (p := p) (cr_sortSG (X := X) G.calm) (G.gl h) (by rw [G.hm]; exact hm) (by decide +kernel) (pa_cons inner pa_nil rfl) (ckG_nn h) (ckG_db h) rfl rfl) fun σ H Q ⟨ρ, H0, E, S, q⟩ => ?_
  have q : Fin κ W (PX κ) σ H0 H ((f ρ).bind fun d => R.of (sortSetD d)) Q := q
  refine tP_mono (fun v H1 z => ?_) (fin_bind (P := PB κ) pmX E S q)
  obtain ⟨H01, d, g, b, q2⟩ := z
  cases es : sortSetD d with
  | none => rw [es] at q2; exact q2.elim
  | some d' =>
    rw [es] at q2
    cases d with
    | lst ds =>
      have es : ((asTups ds).bind fun nss => if noE nss && decide (nss.length < 64) then some (D.lst (tupsD (sortI (ded nss)))) else none) = some d' := es
      cases et : asTups ds with
      | none => rw [et] at es; cases es
      | some nss =>
        rw [et] at es
        have es : (if noE nss && decide (nss.length < 64) then some (D.lst (tupsD (sortI (ded nss)))) else none) = some d' := es
        split at es
        · rename_i hc
          simp only [Bool.and_eq_true, decide_eq_true_eq] at hc
          cases es
          obtain rfl := asTups_of et
          obtain ⟨a, vs, rfl, ea, ra⟩ := Bor.lst g.c b
          obtain ⟨ks, rfl, hks, hr⟩ := reps_ks ra
          have hkl : ks.length = nss.length := by rw [← hks, List.length_map]
          refine ⟨a, ks, rfl, .of ea, fun p hp => ?_, by rw [hkl]; exact hc.2, fun c L hn h1 h2' => ?_⟩
          · obtain ⟨t, e, ht⟩ := tup_is (H := H1) g.c (hr p hp)
            cases e
            rw [G.hK]; exact ht
          · have E2 : Ex H1 (upd H1 c (SetTO X.prog X.w c L)) := Ex.new hn
            have ne := noE_of hc.1
            refine ⟨c, L, fun x ns => Rep κ H01 x (tupD ns), rfl, upd_same, fun p hp => hr p (h1 p hp), fun x ns r => by rw [G.hK]; exact tup_is (g.c.trans E2) r, fun p hp => ne _ (by rw [← hks]; exact List.mem_map.mpr ⟨p, h1 p hp, rfl⟩), fun ys p nd pr hp => ?_⟩
            rw [sort_same (m := nss) nd fun x => ⟨fun hx => by
              obtain ⟨q, hq, rfl⟩ := List.mem_map.mp hx
              rw [← hks]; exact List.mem_map.mpr ⟨q, h1 q hq, rfl⟩, fun hx => by
              rw [← hks] at hx
              obtain ⟨q, hq, rfl⟩ := List.mem_map.mp hx
              exact h2' q hq⟩] at pr
            exact newL (g.c.trans E2) (tups_pair pr) (fun v H0' H' g' p' => q2 v H0' H' ((Grow.own g.c hn).trans g') (pmX _ _ _ _ _ _ E2 p')) p hp
        · cases es
    | _ => cases es
/-! ### what is not told -/
def eEr : EV := fun _ => .er
theorem n_er {P : PP} : PE X e (tP κ W P eEr) := ⟨fun _ _ _ _ _ _ ⟨_, _, _, _, q⟩ => q.elim⟩
end
def sEr : SV := fun _ => .er
theorem n_erS {X : Cx} {κ : Kap} {W : WX} {st : Stmt} : PS X st (tS κ W sEr) := ⟨fun _ _ _ _ _ _ ⟨_, _, _, _, _, _, q⟩ => q.elim⟩
@[simp] theorem sEr_ap {ρ : List B} : sEr ρ = .er := (rfl)
@[simp] theorem eEr_ap {ρ : List B} : eEr ρ = .er := (rfl)
end QY

/-! BadText(row): raised, asked, read. -/
namespace QY
open PySem PySem.Spec PySem.W PySem.Calls PyProof.Rows PySem.HandSPX
/-! ### the text of __init__ -/
def iA (p1 p2 : Pos) : Arguments := { posonlyargs := [], args := [{ arg := "self", annotation := none, pos := p1 }, { arg := "row", annotation := none, pos := p2 }], vararg := none, kwonlyargs := [], kw_defaults := [], kwarg := none, defaults := [] }
def iB (q1 q2 q3 q4 : Pos) : List Stmt := [.Assign [.Attribute (.Name "self" q1) "row" q2] (.Name "row" q3) q4]
def iS : Scope := { kind := .function, names := [(PySem.Str.ofString "self", .local), (PySem.Str.ofString "row", .local)], isGenerator := false, isCoroutine := false, more := [] }
/-- what the written part says of Low, at C, and of its __init__, at fI -/
structure RowTxt (K : Frag) (C fI : Addr) : Prop where
  cls : ∃ nm q N bs bm sn sub ab col dd k0 k1 k2 k3 k5, K.lookup C = some (excClassObj nm q C N bs bm true sn sub ab col dd k0 k1 k2 k3 k5 "ValueError.__new__") ∧ refsVE bm = true
  sa : findIn K (.ref C) "__setattr__" = some (some (.builtin "object.__setattr__"))
  ga : findIn K (.ref C) "__getattribute__" = some (some (.builtin "BaseException.__getattribute__"))
  gg : findIn K (.ref C) "__getattr__" = some none
  noN : findIn K (.ref C) "row" = some none
  iC : findIn K (.ref C) "__init__" = some (some (.ref fI))
  tC : typeIn K (.ref fI) = some (.type "function")
  kC : keepIn K (.ref C) = true
  exC : subIn K (.ref C) (.type "BaseException") = some true
  tyC : typeIn K (.ref C) = some (.type "type")
  hdC : hasDictIn K C = true
  te : exmOne K (.ref C) (.ref C) = some true
  fn : ∃ (oc : Value) (od : Option Addr) (doc pm : Value) (an : Option Addr) (cdv ct : Value) (osl : Array (Option Value)) (p1 p2 q1 q2 q3 q4 : Pos),
    K.lookup fI = some ⟨oc, od, .func (fnOf "__init__" "BadText.__init__" (iA p1 p2) (iB q1 q2 q3 q4) iS .none .none doc pm an cdv ct), osl⟩ ∧ codeIn K cdv "BadText.__init__" = true
theorem one_size (v : Value) : [v].length ≤ sizeLine := by
  rw [sizeLine_eq]
  exact (by decide : 1 ≤ 16777216)
theorem kept_but {K : Frag} {h h' : Heap} {x : Addr} (X : K.In h) (hx : K.lookup x = none) (k : ∀ b o, b ≠ x → h.get? b = some o → h'.get? b = some o) : K.In h' := fun a o e =>
  k a o (fun z => by rw [z, hx] at e; cases e) (X a o e)
theorem ldC {M : Model} {s : Shared} {name : Str} {scope : Scope} {L a : Addr} {cd : Value} {m : Str → Option Value} {x : Str} {pos : Pos} {v : Value} {Q : Value → Shared → Prop} {A : Around} {E : Value → Shared → Prop} (hn : s.heap.Ns L m) (hv : m x = some v) (h : Q v s)
    (hk : scope.kind = .function := by rfl) (hl : (envOfC name scope L a cd).kindOf x = some .local := by rfl) (hd : (x == ("__debug__" : Str)) = false := by decide) :
    wpAny M A (eval (.Name x pos) (envOfC name scope L a cd)) Q E s := wpAny_Name (wpAny_loadName_local hk hl hn hv h) hd
/-- what __init__ leaves of a fresh exception at x -/
structure InitEnd (h h' : Heap) (x C dx t1 : Addr) (v : Value) : Prop where
  keep : ∀ b o, b ≠ x → h.get? b = some o → h'.get? b = some o
  obj : h'.get? x = some { cls := .ref C, dict := some dx, data := .fields #[.ref t1, .none, .none, .none, .bool false, .none] }
  dbig : h.objs.size ≤ dx
  dne : dx ≠ x
  ns : h'.Ns1 dx (fun y => if y = "row" then some v else none)
/-- a made Low -/
structure OwnMade (h h' : Heap) (e C d : Addr) (v : Value) : Prop where
  keep : ∀ b o, h.get? b = some o → h'.get? b = some o
  new : h.objs.size ≤ e
  obj : ∃ oe vs, h'.get? e = some oe ∧ oe.cls = .ref C ∧ oe.dict = some d ∧ oe.data = .fields vs ∧ vs[1]? = some .none
  dbig : h.objs.size ≤ d
  dne : d ≠ e
  ns : h'.Ns1 d (fun y => if y = "row" then some v else none)
section
variable {prog : Program} {w : World} {A : Around} {E : Value → Shared → Prop} {R : Result → Shared → Prop} {s : Shared} {K : Frag} {C fI : Addr}
theorem row_init (T : RowTxt K C fI) {x t0 : Addr} {v : Value} (X : K.In s.heap) (hlim : s.heap.NoLimit) (hx : s.heap.get? x = some (excO C t0)) (hnx : K.lookup x = none) (hroom : A.depth < recursionLimit)
    (hq : ∀ h' tk dx, InitEnd s.heap h' x C dx t0 v → R (.ok (.ret .none)) { s with heap := h', toks := tk }) :
    codeAny (model prog w) A (.call (.ref fI) ⟨[.ref x, v], []⟩) R s := by
  obtain ⟨oc, od, doc, pm, an, cdv, ct, osl, p1, p2, q1, q2, q3, q4, ho, hcd⟩ := T.fn
  obtain ⟨nm, q, N, bs, bm, sn, sub, ab, col, dd, k0, k1, k2, k3, k5, hC, hbm⟩ := T.cls
  have hcl : clsIn K C = some { name := nm, bases := bs, mro := .ref C :: bm, ns := N, qualname := q, hasDict := true, slotNames := sn, subclasses := sub, abstract := ab, collection := col, hasDel := false } := by unfold clsIn; rw [hC] <;> rfl
  refine Att.call_fn (binds := [("self", .ref x), ("row", v)]) X hlim ho hcd hroom (BindsTo.of_eq (by first | rfl | with_unfolding_all rfl)) (by first | rfl | decide | with_unfolding_all rfl) (fun s₁ IC => ?_) rfl rfl rfl
  obtain ⟨h₁, tk₁, rfl⟩ := IC.toInCall.same
  have k : ∀ b o, s.heap.get? b = some o → h₁.get? b = some o := IC.toInCall.keep
  have hn := IC.toInCall.ns
  have hxL : s.heap.objs.size ≠ x := Nat.ne_of_gt (Heap.lt_size hx)
  have X₁ : K.In h₁ := X.keeps k
  have hx₁ := k _ _ hx
  -- self.row = row
  show wpAny _ _ (execs _ _) _ _ _
  refine wpAny_execs_cons (plainObj_wpAny_Assign_Attribute ?_)
  refine ldC (v := v) hn (by first | rfl | with_unfolding_all rfl | kernel_rfl) (ldC (v := .ref x) hn (by first | rfl | with_unfolding_all rfl | kernel_rfl) ?_)
  refine set_plain X₁ (ox := excO C t0) (od := none) ⟨hx₁, rfl, rfl, trivial⟩ T.sa ?_
  refine exc_osa X₁ hx₁ hcl (show refsVE (.ref C :: bm) = true from hbm) rfl T.noN (fun h₃ tk₃ dx k₃ dn dne hx₃ hn₃ => ?_)
  show wpAny _ _ (execs _ _) _ _ _
  have z : s.heap.objs.size < h₁.objs.size := hn.lt
  exact wpAny_execs_nil (hq h₃ tk₃ dx ⟨fun b o hb e => k₃ b o hb (k b o e), hx₃, Nat.le_of_lt (Nat.lt_of_lt_of_le z dn), dne, hn₃⟩)
theorem row_made (T : RowTxt K C fI) {v : Value} (X : K.In s.heap) (hlim : s.heap.NoLimit) (hroom : A.depth + 1 < recursionLimit)
    (hq : ∀ h' tk e d, OwnMade s.heap h' e C d v → R (.ok (.ret (.ref e))) { s with heap := h', toks := tk }) :
    codeAny (model prog w) A (.call (.ref C) ⟨[v], []⟩) R s := by
  obtain ⟨nm, q, N, bs, bm, sn, sub, ab, col, dd, k0, k1, k2, k3, k5, hC, hbm⟩ := T.cls
  obtain ⟨hp, g, dr, tk, os⟩ := s
  have k : ∀ b o, hp.get? b = some o → ((hp.push (kdv_tup [v])).push (excO C hp.objs.size)).get? b = some o := fun b o e => Heap.get?_push_of_some _ (Heap.get?_push_of_some _ e)
  have hget : ((hp.push (kdv_tup [v])).push (excO C hp.objs.size)).get? (hp.objs.size + 1) = some (excO C hp.objs.size) := by heap_get
  have hnx : K.lookup (hp.objs.size + 1) = none := by
    cases e : K.lookup (hp.objs.size + 1) with
    | none => rfl
    | some o =>
      have z : hp.get? (hp.objs.size + 1) = some o := X _ _ e
      exact absurd (Nat.lt_of_succ_lt (Heap.lt_size z)) (Nat.lt_irrefl _)
  refine call_own F.excBase_ValueError (fun X => refsVE_contains X bm hbm) (X _ _ hC) (looks_findIn X T.iC) (fun self => bind_fn X self T.tC) (one_size v) ?_
  refine row_init (s := ⟨(hp.push (kdv_tup [v])).push (excO C hp.objs.size), g, dr, tk, os⟩) T (X.keeps k) (hlim.keeps k) hget hnx ?_ fun h' tk' dx ⟨k', hx, dn, dne, hns⟩ => ?_
  · show A.depth + 1 < recursionLimit
    exact hroom
  · have old : ∀ b o, hp.get? b = some o → h'.get? b = some o := fun b o e => k' b o (Nat.ne_of_lt (Nat.lt_succ_of_lt (Heap.lt_size e))) (k b o e)
    have z : hp.objs.size + 1 + 1 ≤ dx := by
      first
        | (simpa only [Heap.size_push] using dn)
        | exact dn
        | (have q := dn; rw [Heap.size_push, Heap.size_push] at q; exact q)
    exact ⟨rfl, hq h' tk' (hp.objs.size + 1) dx ⟨old, Nat.le_succ _, ⟨_, _, hx, rfl, rfl, rfl, rfl⟩, Nat.le_trans (Nat.le_trans (Nat.le_succ _) (Nat.le_succ _)) z, dne, hns⟩⟩
end
end QY
namespace QY
open PySem PySem.Spec PyProof.Rows L2
theorem relO_row {v : V} {v' : Value} (r : RelV v v') (f : Str) : RelO (List.lookup f [(("row" : Str), v)]) (if f = "row" then some v' else none) := by
  by_cases hw : f = "row"
  · subst hw
    rw [if_pos rfl]
    have q : List.lookup ("row" : Str) [(("row" : Str), v)] = some v := by simp [List.lookup]
    rw [q]
    exact r
  · rw [if_neg hw]
    have qw : (f == ("row" : Str)) = false := by simpa using hw
    have q2 : List.lookup f [(("row" : Str), v)] = none := by simp [List.lookup, qw]
    rw [q2]
    trivial
section
variable {X : Cx} {C fI : Addr}
/-- Low(e) -/
def tMkRow (C : Addr) (ta : TA) : L2.St → Hp → XK → Prop := fun σ H Q => ta σ H fun vs H1 => ∃ v, vs = [v] ∧ ∀ d, H1 d = none → Q (.ref C) (some d) (upd H1 d (.xd [(("row" : Str), v)]))
theorem pmk_row {a : Expr} {ta : TA} {p pos : Pos} {k : Nat} (T : RowTxt X.K C fI) (hr : 1 ≤ k) (hrm : Room k X.A) (ha : PA X [a] ta) (gC : X.mg "BadText" = some (.ref C)) (hg : Gl X "BadText")
    (he : starEach (a :: []) X.env = (false, eval a X.env) :: starEach [] X.env) (hpl : (backTo pos (starEach [] X.env)).any (·.1) = false) :
    PMk X (.Call (.Name "BadText" p) [a] [] pos) (tMkRow C ta) := by
  intro pins s σ H Q I h
  refine wpAny_Call_Name_kw (ld_glob I hg gC ?_)
  refine PySem.W.callWith_K (h₀ := X.base) I.ok.mod.kin T.kC (thn (ha.run pos pins s σ H _ I h) fun us s1 hh => ?_) he hpl
  obtain ⟨vs, H1, I1, r1, v, ev, q1⟩ := hh
  subst ev
  refine ⟨I1.kIn, ?_⟩
  cases r1 with
  | cons rv rn =>
    rename_i v' us'
    cases rn
    show wpAny _ _ (call (.ref C) [v']) _ _ _
    have hlim := I1.nolimit
    obtain ⟨hp, g, dr, tk, os⟩ := s1
    refine wpAny_call (row_made T I1.kIn hlim (by have := hrm.dp; omega) fun h' tk' e d M => ?_)
    show MkP X pins σ Q (.ref e) ⟨h', g, dr, tk', os⟩
    obtain ⟨oe, fv, hoe, hc, hd, hdat, h1⟩ := M.obj
    have hns := M.ns
    obtain ⟨G', g1, g2⟩ := restrict h' fun b => decide (b ≠ e)
    have gk : ∀ b, b ≠ e → G'.get? b = h'.get? b := fun b hb => g1 b (decide_eq_true hb)
    have ge : G'.get? e = none := g2 e (by simp)
    have old : ∀ b o, hp.get? b = some o → G'.get? b = some o := fun b o q => (gk b (Nat.ne_of_lt (Nat.lt_of_lt_of_le (Heap.lt_size q) M.new))).trans (M.keep b o q)
    have ob : ObjOk X.prog X.w (upd H1 d (.xd [(("row" : Str), v)])) G' d (.xd [(("row" : Str), v)]) :=
      ⟨_, hns.at (fun o q => (gk d M.dne).trans q), fun f => relO_row rv f⟩
    have J : Inv X pins σ (upd H1 d (.xd [(("row" : Str), v)])) ⟨G', g, dr, tk', os⟩ := I1.laid (t' := tk') old M.dbig ob
    refine ⟨e, oe, fv, ⟨G', g, dr, tk', os⟩, _, .ref C, some d, rfl, J, fun b o q => ?_, ge, hoe, ⟨hc, hd⟩, hdat, h1, ?_, rfl, I1.bare, raises_own T.exC T.tyC, q1 d (I1.hok.fresh M.dbig)⟩
    · by_cases hb : b = e
      · have q' : G'.get? b = some o := q
        rw [hb, ge] at q'; cases q'
      · exact (gk b hb).symm.trans q
    · rw [upd_ne (Ne.symm M.dne)]
      exact I1.hok.fresh M.new


variable {κ : Kap} {W : WX} {f : EV} {fs : AV} {pos : Pos} {mg : Str → Option Value} {base : Heap} {k : Nat} {N : List Str} {sc : Scope} {own : Str → Bool}
/-- raise BadText(e) -/
def sRaiseR (fs : AV) : SV := sA fs fun ds ρ => match ds with
  | [d] => .ex 5 [d] ρ
  | _ => .er
theorem raiseR_weak {σ : L2.St} {H : Hp} {D : Ends} (h : tS κ W (sRaiseR fs) D σ H) : tMkRow (κ.exc 5) (tA κ W (PLR κ) fs) σ H (fun cls d H' => W cls d σ H') := by
  obtain ⟨ρ, Hk, Hin0, Hin, H0, S, q⟩ := h
  refine ⟨ρ, H0, S.g.c, S.s, ?_⟩
  unfold sRaiseR sA at q
  cases e : fs ρ with
  | ok ds =>
    rw [e] at q
    intro vs H0' H' g r
    match ds, q, r with
    | [d], q, .cons r1 .nil =>
      rename_i v
      refine ⟨v, rfl, fun dx hd => ?_⟩
      have g2 : Grow H0' H' (upd H0' dx (.xd [(("row" : Str), v)])) (upd H' dx (.xd [(("row" : Str), v)])) := Grow.new g.c hd
      exact q σ _ _ (some dx) ((S.grow g).grow g2) ⟨dx, v, rfl, upd_same, r1.mono g2.a⟩
  | ex c vs => rw [e] at q; exact fun dx a b g p => q σ a b dx (S.grow g) p
  | er => rw [e] at q; exact q
theorem g_raiseR {a : Expr} {p pos2 : Pos} {fI : Addr} (G : Good X κ W mg base k N sc own) (hk : 1 ≤ k) (T : RowTxt κ.K (κ.exc 5) fI) (hm : mg "BadText" = some (.ref (κ.exc 5))) (h : ckG sc "BadText" = true) (st : isStar a = false) (ha : PA X [a] (tA κ W (PLR κ) fs)) :
    PS X (.Raise (some (.Call (.Name "BadText" p) [a] [] pos)) none pos2) (tS κ W (sRaiseR fs)) :=
  PS_weak (ps_raise G.calm G.tk (pmk_row (by rw [G.hK]; exact T) hk G.rm ha (by rw [G.hm]; exact hm) (G.gl h) (starEach_cons st) rfl)) fun _ _ _ z => raiseR_weak z
/-- e.row -/
def rowD : D → Option D
  | .exc 5 [d] => some d
  | _ => none
@[simp] theorem rowD_exc (d : D) : rowD (.exc 5 [d]) = some d := (rfl)
theorem g_row {e : Expr} {fI : Addr} (G : Good X κ W mg base k N sc own) (T : RowTxt κ.K (κ.exc 5) fI) (hb : isCall0 e = false) (he : PE X e (tP κ W (PR κ) f)) : PE X (.Attribute e "row" pos) (tP κ W (PR κ) (e1 rowD f)) := by
  refine ⟨fun pins s σ H Q I h => ?_⟩
  obtain ⟨ρ, H0, E, S, q⟩ := h
  refine attr_of (base_of hb) (thn (he.run pins s σ H _ I (fin_bind (P := PR κ) pmR E S q)) fun u s1 hh => ?_)
  obtain ⟨x, H1, I1, rx, H01, d, g, r, q⟩ := hh
  have r : Rep κ H01 x d := r
  have q : Fin κ W (PR κ) σ H01 H1 (R.of (rowD d)) Q := q
  cases e : rowD d with
  | none => rw [e] at q; exact q.elim
  | some d' =>
    rw [e] at q
    unfold rowD at e
    split at e
    · rename_i d0
      cases e
      cases r with
      | @exc1 a dx c v d ea ed rd =>
        obtain rfl : u = Value.ref a := rx
        have ea1 := g.c _ _ ea
        have ed1 := g.c _ _ ed
        obtain ⟨⟨oe, vs, g1, g2, g3, g4⟩, _, _⟩ := I1.hok _ _ ea1
        have hx : ObjOk X.prog X.w H1 s1.heap dx (.xd [(("row" : Str), v)]) := I1.hok dx _ ed1
        obtain ⟨mA, hns, hr⟩ := hx
        obtain ⟨od, ho, hl⟩ := lookIn_ns hns
        have l : List.lookup ("row" : Str) [(("row" : Str), v)] = some v := by simp [List.lookup]
        obtain ⟨u, hu, ru⟩ := RelO.some_of (v := v) (o := mA "row") (by rw [← l]; exact hr "row")
        have J : PySem.W.InstAt s1.heap a oe (κ.exc 5) (some od) := ⟨g1, g2, by unfold PySem.W.notCls; rw [g4] <;> rfl, by rw [g3]; exact ho⟩
        exact HandSPX.exc_get (K := κ.K) (by rw [← G.hK]; exact I1.kIn) J T.ga T.gg T.exC (PySem.W.findObj_own T.hdC T.noN rfl (by rw [hl, hu])) (handed_of ru) ⟨v, H1, I1.tok _, ru, q _ _ _ (.refl g.c) rd⟩
    · cases e
end
end QY

/-! isinstance of an own exception that holds a row. -/
namespace QY
open PySem PySem.Spec PySem.W PySem.Calls PyProof.Rows
section
variable {prog : Program} {w : World} {A : Around} {E : Value → Shared → Prop} {s : Shared} {K : Frag} {x D : Addr} {ox od : Obj}
theorem kin_classO {Q : Option Value → Shared → Prop} (hga : findIn K (.ref D) "__getattribute__" = some (some (.builtin "BaseException.__getattribute__"))) (hgt : findIn K (.ref D) "__getattr__" = some none) (hsub : subIn K (.ref D) (.type "BaseException") = some true)
    (hdct : hasDictIn K D = true) (ha : findIn K (.ref D) "__class__" = some (some (.builtin "object.__class__")))
    (hn : specialIn K (.builtin "object.__class__") "__get__" = some (some (.builtin "getset_descriptor.__get__"))) (htk : takesIn K (.builtin "object.__class__") = some true) (hm : mroIn K D (.type "object") = some true)
    (X : K.In s.heap) (I : InstAt s.heap x ox D (some od)) (h : Q (some (.ref D)) { s with toks := s.toks + 1 }) : wpAny (model prog w) A (getAttr? (.ref x) "__class__") Q E s := by
  have hf : findObj K D (some od) "__class__" = some (.bind (.builtin "getset_descriptor.__get__") (.builtin "object.__class__")) := findObj_data (by obtain ⟨cd, hc, _⟩ := any_some hdct; rw [hc]; rfl) ha hn htk
  obtain ⟨hp, g, d, t, os⟩ := s
  have L0 := I.type (M := model prog w)
  have L1 := looks_findIn (M := model prog w) X hga
  have L2 := looks_findIn (M := model prog w) X hgt
  have L3 := looks_find (M := model prog w) X I hf
  have sub : Looks (model prog w) hp (isInstance (.ref x) (.type "BaseException")) true := L0.andThen (looks_subIn X hsub)
  have hx0 : (false && onTheHeap (Value.builtin "BaseException.__getattribute__")) = false := rfl
  have hx2 : (Value.builtin "BaseException.__getattribute__" == Value.builtin "object.__getattribute__") = false := by decide +kernel
  have hx1 : (onTheHeap (Value.ref D) && Value.builtin "BaseException.__getattribute__" == Value.builtin "object.__getattribute__") = false := by rw [hx2]; rfl
  unfold getAttr? getAttrBy? getAttrBy
  refine wpAny_bind (wpAny_mkText (wpAny_bind (wpAny_attempt (wpAny_holding (wpAny_bind (L0.at (wpAny_bind (L1.at ?_))))))))
  show wpAny _ _ (if (onTheHeap (Value.ref D) && Value.builtin "BaseException.__getattribute__" == Value.builtin "object.__getattribute__") = true then _ else _) _ _ _
  rw [hx1, if_neg Bool.false_ne_true]
  unfold getAttrByItsOwn hookBefore
  refine wpAny_bind ?_
  rw [if_pos (show onTheHeap (Value.ref D) = true from rfl)]
  refine L2.at ?_
  refine wpAny_bind (wpAny_attempt (wpAny_holding ?_))
  unfold callGetattribute
  rw [hx0, if_neg Bool.false_ne_true]
  unfold boundAndCalled
  rw [PySem.F.excAttr_ValueError.ga.bind (.ref x)]
  refine wpAny_bind (wpAny_pure ?_)
  show wpAny _ _ (call (.builtin "BaseException.__getattribute__") [.ref x, .str "__class__" t]) _ _ _
  refine wpAny_call (codeAny_call_builtin PySem.F.excAttr_ValueError.ga.plain PySem.F.entry_bexc_ga ?_)
  refine @check_slot (model prog w) _ _ ⟨hp, g, d, t + 1, os⟩ "BaseException.__getattribute__" "BaseException" "__getattribute__" (.ref x) [.str "__class__" t] [] _ (by decide +kernel) (by decide +kernel) sub (PySem.F.args_bexc_ga (.ref x) (.str "__class__" t)) ?_
  unfold Builtin.«object.__getattribute__»
  refine wpAny_bind (wpAny_of_eq (a := ((Value.ref x : Value), [Value.str "__class__" t])) (by first | rfl | (simp only [slotArgs]; rfl)) ?_)
  refine wpAny_bind (wpAny_pure (wpAny_bind (L0.at (wpAny_bind (L3.at ?_)))))
  show wpAny _ _ (holding [Value.builtin "object.__class__"] (call (.builtin "getset_descriptor.__get__") [.builtin "object.__class__", .ref x, .ref D]) >>= ret) _ _ _
  refine wpAny_bind (wpAny_holding (wpAny_call (class_get (s := ⟨hp, g, d, t + 1, os⟩) (ox := ox) (od := some od) X I hm ?_)))
  refine wpAny_pure ?_
  show wpAny _ _ (handedOut (.ref D)) _ _ _
  rw [handedOut_of (v := .ref D) rfl]
  first
    | exact wpAny_pure (wpAny_pure h)
    | exact wpAny_pure h
    | exact wpAny_pure (wpAny_bind (wpAny_pure (wpAny_pure h)))
theorem kitx_excO (hga : findIn K (.ref D) "__getattribute__" = some (some (.builtin "BaseException.__getattribute__"))) (hgt : findIn K (.ref D) "__getattr__" = some none) (hsub : subIn K (.ref D) (.type "BaseException") = some true) (hdct : hasDictIn K D = true) (ha : findIn K (.ref D) "__class__" = some (some (.builtin "object.__class__")))
    (hn : specialIn K (.builtin "object.__class__") "__get__" = some (some (.builtin "getset_descriptor.__get__"))) (htk : takesIn K (.builtin "object.__class__") = some true) (hm : mroIn K D (.type "object") = some true) :
    KitX K (.ref x) (.ref D) (fun h => InstAt h x ox D (some od)) where
  ty := fun _ _ _ I => I.type
  it := fun _ _ X _ => by
    obtain ⟨cdD, hcD, _⟩ := any_some hdct
    unfold clsIn at hcD
    split at hcD
    · rename_i c' d' cd' sl' ho
      intro A' Q' E' s' k q
      unfold isType loadHead
      exact wpAny_bind (wpAny_loadPart (k _ _ (X _ _ ho)) (wpAny_pure q))
    · cases hcD
  ne := fun h tp dd its n sl X htp => by
    obtain ⟨cdD, hcD, _⟩ := any_some hdct
    refine Bool.eq_false_iff.mpr fun q => ?_
    have e : D = tp := Value.ref.inj (beq_iff_eq.mp q)
    subst e
    unfold clsIn at hcD
    split at hcD
    · rename_i c' d' cd' sl' ho
      have z := (X _ _ ho).symm.trans htp
      cases z
    · cases hcD
  ca := fun X I k => kin_classO hga hgt hsub hdct ha hn htk hm X I k
end
end QY
namespace QY
open PySem PySem.Spec PyProof.Rows L2
section
variable {X : Cx} {κ : Kap} {W : WX} {fs : AV} {p pos : Pos} {mg : Str → Option Value} {base : Heap} {k : Nat} {N : List Str} {sc : Scope} {own : Str → Bool} {e : Expr} {es : List Expr}
def isiR (ok : Nat → Bool) : List D → Option D
  | [.exc c [_], .cls c'] => if ok c && ok c' then some (.bl (c == c' || c' == 0)) else none
  | [.exc c [_], .ty t] => if ok c && t == "ValueError" then some (.bl true) else none
  | ds => isiD ok ds
theorem c_isiR {ok : Nat → Bool} (hK : X.K = κ.K) (hP : X.prog = κ.P) (hw : X.w = κ.w) (F : ExcF κ ok) : CallR X (.builtin "isinstance") (rC κ (PR κ) (isiR ok)) := CallR_of fun ds d e => by
  intro pins s σ H xs us Q I rx ⟨H0, E, bb, q⟩
  unfold isiR at e
  split at e
  · rename_i c d0 c'
    split at e
    · rename_i hok
      cases e
      obtain ⟨v, v', rfl, b1, b2⟩ := bb.two
      obtain ⟨h1, h2⟩ := Bool.and_eq_true_iff.mp hok
      cases b2.flat (fun _ _ h => h)
      have rx1 := b1.flat (fun _ _ h => h)
      cases rx1 with
      | exc1 ea ed rd =>
        obtain ⟨u1, u2, rfl, r1, r2⟩ := vals2 rx
        cases r1; cases r2
        obtain ⟨⟨oe, vs, g1, g2, g3, g4⟩, _, _⟩ := I.hok _ _ (E _ _ ea)
        obtain ⟨mA, hns, hr⟩ := (show ObjOk X.prog X.w H s.heap _ (.xd _) from I.hok _ _ (E _ _ ed))
        obtain ⟨od, ho, hl⟩ := lookIn_ns hns
        have C := F.exc c h1
        rw [← hK] at C
        have J : PySem.W.InstAt s.heap _ oe (κ.exc c) (some od) := ⟨g1, g2, by unfold PySem.W.notCls; rw [g4] <;> rfl, by rw [g3]; exact ho⟩
        have kit := F.kit c c' h1 h2
        rw [← hK] at kit
        exact PySem.W.kia_one (kitx_excO C.hg C.hk C.hs C.hd C.ha C.hn C.ht C.hm) I.kIn J kit (fun z => nomatch z) fun tk => ⟨.bl _, H, I.kept (t' := tk) fun _ _ z => z, rfl, q _ _ _ (.refl E) (.bl _)⟩
    · cases e
  · rename_i c d0 t
    split at e
    · rename_i hok
      cases e
      obtain ⟨v, v', rfl, b1, b2⟩ := bb.two
      obtain ⟨h1, h2⟩ := Bool.and_eq_true_iff.mp hok
      obtain rfl := eq_of_beq h2
      cases b2.flat (fun _ _ h => h)
      have rx1 := b1.flat (fun _ _ h => h)
      cases rx1 with
      | exc1 ea ed rd =>
        obtain ⟨u1, u2, rfl, r1, r2⟩ := vals2 rx
        cases r1; cases r2
        obtain ⟨⟨oe, vs, g1, g2, g3, g4⟩, _, _⟩ := I.hok _ _ (E _ _ ea)
        obtain ⟨mA, hns, hr⟩ := (show ObjOk X.prog X.w H s.heap _ (.xd _) from I.hok _ _ (E _ _ ed))
        obtain ⟨od, ho, hl⟩ := lookIn_ns hns
        have C := F.exc c h1
        rw [← hK] at C
        have J : PySem.W.InstAt s.heap _ oe (κ.exc c) (some od) := ⟨g1, g2, by unfold PySem.W.notCls; rw [g4] <;> rfl, by rw [g3]; exact ho⟩
        have kit := F.kitV c h1
        rw [← hK] at kit
        exact PySem.W.kia_one (kitx_excO C.hg C.hk C.hs C.hd C.ha C.hn C.ht C.hm) I.kIn J kit (fun z => nomatch z) fun tk => ⟨.bl _, H, I.kept (t' := tk) fun _ _ z => z, rfl, q _ _ _ (.refl E) (.bl _)⟩
    · cases e
  · refine c_isi (X := X) hK hP hw F pins s σ H xs us Q I rx ⟨H0, _, E, bb, ?_⟩
    rw [e]
    exact q
theorem g_isiR (G : Good X κ W mg base k N sc own) {ok : Nat → Bool} (F : ExcF κ ok) (hm : mg "isinstance" = none) (h : ckG sc "isinstance" = true) (st : ns1 e es) (ha : PA X (e :: es) (tA κ W (PLB κ) fs)) : PE X (.Call (.Name "isinstance" p) (e :: es) [] pos) (tP κ W (PR κ) (eCallB (isiR ok) fs)) :=
  n_callB pmR (c_isiR G.hK G.hP G.hw F) (G.gl h) (by rw [G.hm]; exact hm) (by decide +kernel) ha (ckG_nn h) (ckG_db h) (starEach_cons (stars1 st)) (noStars (stars2 st))
end
end QY

/-! Plain: letters, marks, tiles, systems, their texts. -/
namespace QY
open PySem PySem.Spec PyProof.Rows L2
theorem lim1 {n : Nat} (h : n ≤ 1000000) : n ≤ LIM := Nat.le_trans h (by decide)
theorem lim2 {n : Nat} (h : n ≤ 1000000) : n < LIM := Nat.lt_of_le_of_lt h (by decide)
theorem size_len {s : Str} : s.cps.toList.length = s.length := by simp [Str.length]
theorem natInt {a b : Nat} : ((a : Int) = (b : Int)) ↔ a = b := by omega
theorem natLe {a b : Nat} : ((a : Int) ≤ (b : Int)) ↔ a ≤ b := by omega
theorem natLt {a b : Nat} : ((a : Int) < (b : Int)) ↔ a < b := by omega
/-! ### letters -/
def letB (c : Nat) : Bool := decide (c ∈ ("abcd" : Str).cps.toList)
def lets (r : Str) : Bool := r.cps.toList.all letB
theorem takeWhile_all {g : Nat → Bool} : ∀ l : List Nat, (l.takeWhile g).length = l.length ↔ l.all g = true
  | [] => by simp
  | a :: r => by
    rw [List.takeWhile_cons, List.all_cons]
    cases h : g a with
    | true => simp [takeWhile_all r]
    | false => simp
theorem takeWhile_le {g : Nat → Bool} (l : List Nat) : (l.takeWhile g).length ≤ l.length := (List.takeWhile_prefix g).length_le
theorem drop_head {g : Nat → Bool} : ∀ l : List Nat, (l.takeWhile g).length < l.length → (l.drop (l.takeWhile g).length).all g = false
  | [], h => by simp at h
  | a :: r, h => by
    rw [List.takeWhile_cons] at h ⊢
    cases hg : g a with
    | true =>
      rw [hg] at h
      simp only [if_true, List.length_cons, List.drop_succ_cons] at h ⊢
      exact drop_head r (by omega)
    | false => simp [hg]
theorem strip_empty (r : Str) : Txt.stripChars r "abcd" = "" ↔ lets r = true := by
  have hg : (fun c => ("abcd" : Str).cps.contains c) = letB := by
    funext c
    unfold letB
    rw [Array.contains_eq_mem]
    simp
  have e : Txt.stripChars r "abcd" = W.stripped letB true true r := by
    show Txt.stripBy (("abcd" : Str).cps.contains) true true r = _
    rw [PySem.W.stripBy_eq, ← hg]
  rw [e]
  have hl : (W.stripped letB true true r).length = (r.length - ((r.cps.toList.drop (r.cps.toList.takeWhile letB).length).reverse.takeWhile letB).length) - (r.cps.toList.takeWhile letB).length := PySem.StrLaws.sub_len _ _ _ (Nat.sub_le _ _)
  have hz : W.stripped letB true true r = "" ↔ (W.stripped letB true true r).length = 0 := by
    constructor
    · intro h; rw [h]; decide
    · intro h
      generalize W.stripped letB true true r = z at h
      obtain ⟨⟨l⟩⟩ := z
      cases l with
      | nil => rfl
      | cons a t => simp [Str.length] at h
  rw [hz, hl]
  unfold lets
  have h1 := takeWhile_le (g := letB) r.cps.toList
  rw [size_len] at h1
  constructor
  · intro h
    by_cases ha : r.cps.toList.all letB = true
    · exact ha
    · exfalso
      have h2 : ¬ (r.cps.toList.takeWhile letB).length = r.cps.toList.length := fun z => ha ((takeWhile_all _).mp z)
      rw [size_len] at h2
      have h3 := drop_head (g := letB) r.cps.toList (by rw [size_len]; omega)
      have h4 : ¬ ((r.cps.toList.drop (r.cps.toList.takeWhile letB).length).reverse.takeWhile letB).length = (r.cps.toList.drop (r.cps.toList.takeWhile letB).length).reverse.length := fun z => by
        have := (takeWhile_all _).mp z
        rw [List.all_reverse, h3] at this
        cases this
      have h5 := takeWhile_le (g := letB) (r.cps.toList.drop (r.cps.toList.takeWhile letB).length).reverse
      rw [List.length_reverse, List.length_drop, size_len] at h4 h5
      omega
  · intro ha
    have := (takeWhile_all _).mpr ha
    rw [size_len] at this
    rw [this]
    omega
theorem strip_dec (r : Str) : decide (Txt.stripChars r "abcd" = "") = lets r := by
  have := strip_empty r
  cases h : lets r with
  | true => exact decide_eq_true (this.mpr h)
  | false => exact decide_eq_false fun z => by rw [this.mp z] at h; cases h
theorem all_bls {α : Type} (l : List α) (p : α → Bool) : allD [.lst (l.map fun r => .bl (p r))] = some (.bl (l.all p)) := by
  have : (l.map fun r => D.bl (p r)) = (l.map p).map D.bl := by rw [List.map_map]; rfl
  rw [this]
  show (asBls _).map _ = _
  rw [asBls_map, Option.map_some, List.all_map]; rfl
/-! ### tiles -/
def inMark (n : Nat) (x : Int) : Bool := decide (-1 ≤ x) && decide (x < (n : Int))
def okT (n : Nat) (t : List Int) : Bool := decide (t.length = 4) && t.all (inMark n)
def rise (p : Option (List Int)) (t : List Int) : Bool := match p with
  | none => true
  | some q => HT.lexLt q t
def chk (n : Nat) : Option (List Int) → List (List Int) → Bool
  | _, [] => true
  | p, t :: r => (okT n t && rise p t) && chk n (some t) r
def okSys (L : Str) (T : List (List Int)) : Bool := (decide (L.length ≤ 16) && lets L) && chk L.length none T
def sysD (L : Str) (T : List (List Int)) : D := .tup [.str L, .lst (tupsD T)]
/-! ### loops over a range -/
theorem range_up {i n : Nat} : ((List.range n).map fun (k : Nat) => D.int ((i + k : Nat) : Int)) = (List.range' i n).map fun (k : Nat) => D.int (k : Int) := by
  rw [List.range'_eq_map_range, List.map_map]; rfl
theorem range_0 {n : Nat} : ((List.range n).map fun (k : Nat) => D.int (k : Int)) = (List.range' 0 n).map fun (k : Nat) => D.int (k : Int) := by
  rw [List.range_eq_range']
/-! ### words -/
def numW (w : Str) : Option Nat := match w.cps.toList with
  | [c] => if 48 ≤ c ∧ c ≤ 57 then some (c - 48) else none
  | [c, d] => if (49 ≤ c ∧ c ≤ 57) ∧ (48 ≤ d ∧ d ≤ 57) then some (10 * (c - 48) + (d - 48)) else none
  | _ => none
def markIn (w : Str) (many : Nat) : Option Int := if w = "#" then some (-1) else match numW w with
  | some n => if n < many then some (n : Int) else none
  | none => none
def markText (x : Int) : Str := if x = -1 then "#" else toString x
theorem num_text : ∀ n : Nat, n < 100 → numW ((toString (n : Int) : String) : Str) = some n ∧ ((toString (n : Int) : String) : Str) ≠ "#" ∧ (32 ∉ ((toString (n : Int) : String) : Str).cps.toList ∧ 10 ∉ ((toString (n : Int) : String) : Str).cps.toList) ∧ ((toString (n : Int) : String) : Str).length ≤ 2 := by
  decide +kernel
def dig1 (c : Nat) : Bool := decide (((toString ((c - 48 : Nat) : Int) : String) : Str) = ⟨#[c]⟩) && decide (PySem.intText? ⟨#[c]⟩ = some ((c - 48 : Nat) : Int))
def dig2 (c d : Nat) : Bool := decide (((toString ((10 * (c - 48) + (d - 48) : Nat) : Int) : String) : Str) = ⟨#[c, d]⟩) && decide (PySem.intText? ⟨#[c, d]⟩ = some ((10 * (c - 48) + (d - 48) : Nat) : Int))
theorem dig1_all : ∀ c, c < 10 → dig1 (48 + c) = true := by decide +kernel
theorem dig2_all : ∀ c, c < 9 → ∀ d, d < 10 → dig2 (49 + c) (48 + d) = true := by decide +kernel
theorem str_of {w : Str} {l : List Nat} (h : w.cps.toList = l) : w = ⟨l.toArray⟩ := by
  obtain ⟨⟨a⟩⟩ := w
  cases h
  rfl
theorem numW_spec {w : Str} {n : Nat} (h : numW w = some n) : ((toString (n : Int) : String) : Str) = w ∧ PySem.intText? w = some (n : Int) ∧ n < 100 := by
  unfold numW at h
  split at h
  · rename_i c e
    split at h
    · rename_i hc
      cases h
      have := dig1_all (c - 48) (by omega)
      rw [show 48 + (c - 48) = c by omega] at this
      simp only [dig1, Bool.and_eq_true, decide_eq_true_eq] at this
      rw [str_of e]
      exact ⟨this.1, this.2, by omega⟩
    · cases h
  · rename_i c d e
    split at h
    · rename_i hc
      cases h
      have := dig2_all (c - 49) (by omega) (d - 48) (by omega)
      rw [show 49 + (c - 49) = c by omega, show 48 + (d - 48) = d by omega] at this
      simp only [dig2, Bool.and_eq_true, decide_eq_true_eq] at this
      rw [str_of e]
      exact ⟨this.1, this.2, by omega⟩
    · cases h
  · cases h
theorem mark_back {x : Int} {n : Nat} (hn : n ≤ 16) (h : inMark n x = true) : markIn (markText x) n = some x := by
  simp only [inMark, Bool.and_eq_true, decide_eq_true_eq] at h
  unfold markText
  by_cases e : x = -1
  · rw [if_pos e, e]; rfl
  · rw [if_neg e]
    obtain ⟨k, rfl⟩ : ∃ k : Nat, x = (k : Int) := ⟨x.toNat, by omega⟩
    obtain ⟨h1, h2, _⟩ := num_text k (by omega)
    unfold markIn
    rw [if_neg h2, h1]
    show (if k < n then _ else _) = _
    rw [if_pos (by omega)]
theorem markIn_in {w : Str} {n : Nat} {x : Int} (h : markIn w n = some x) : inMark n x = true ∧ markText x = w := by
  unfold markIn at h
  split at h
  · rename_i e
    cases h
    constructor
    · simp [inMark]; omega
    · rw [e]; rfl
  · split at h
    · rename_i k e
      split at h
      · cases h
        constructor
        · simp only [inMark, Bool.and_eq_true, decide_eq_true_eq]; omega
        · unfold markText
          rw [if_neg (by omega)]
          exact (numW_spec e).1
      · cases h
    · cases h
end QY

/-! Plain: texts of systems, written and read. -/
namespace QY
open PySem PySem.Spec PyProof.Rows L2
def rowText (t : List Int) : Str := Txt.join " " (t.map markText)
def allSome : List (Option Int) → Option (List Int)
  | [] => some []
  | none :: _ => none
  | some x :: r => (allSome r).map fun t => x :: t
def tileIn (n : Nat) (row : Str) : Option (List Int) := if (Txt.split row " ").length = 4 then allSome ((Txt.split row " ").map fun w => markIn w n) else none
def rd (n : Nat) : Nat → Option (List Int) → List Str → Sum Nat (List (List Int))
  | _, _, [] => .inr []
  | k, p, r :: rs => match tileIn n r with
    | none => .inl (k + 1)
    | some t => if rise p t then (match rd n (k + 1) (some t) rs with
      | .inl j => .inl j
      | .inr T => .inr (t :: T)) else .inl (k + 1)
def readP (text : Str) : Sum Nat (Str × List (List Int)) := match Txt.split text "\n" with
  | [] => .inl 1
  | L :: rs => if decide (L.length ≤ 16) && lets L then (match rd L.length 1 none rs with
    | .inl j => .inl j
    | .inr T => .inr (L, T)) else .inl 1
def textOf (L : Str) (T : List (List Int)) : Str := Txt.join "\n" (L :: T.map rowText)
theorem allSome_map {n : Nat} (hn : n ≤ 16) : ∀ {t : List Int}, t.all (inMark n) = true → allSome ((t.map markText).map fun w => markIn w n) = some t
  | [], _ => rfl
  | x :: t, h => by
    obtain ⟨h1, h2⟩ := Bool.and_eq_true_iff.mp (show (inMark n x && t.all (inMark n)) = true from h)
    show allSome (markIn (markText x) n :: _) = _
    rw [mark_back hn h1]
    show (allSome ((t.map markText).map fun w => markIn w n)).map _ = _
    rw [allSome_map hn h2]; rfl
theorem allSome_back {n : Nat} : ∀ {ws : List Str} {t : List Int}, allSome (ws.map fun w => markIn w n) = some t → t.all (inMark n) = true ∧ t.map markText = ws
  | [], t, h => by cases h; exact ⟨rfl, rfl⟩
  | w :: ws, t, h => by
    have h : allSome (markIn w n :: ws.map fun w => markIn w n) = some t := h
    cases e : markIn w n with
    | none => rw [e] at h; cases h
    | some x =>
      rw [e] at h
      have h : (allSome (ws.map fun w => markIn w n)).map (fun t => x :: t) = some t := h
      cases e2 : allSome (ws.map fun w => markIn w n) with
      | none => rw [e2] at h; cases h
      | some t' =>
        rw [e2] at h
        cases h
        obtain ⟨h1, h2⟩ := markIn_in e
        obtain ⟨h3, h4⟩ := allSome_back e2
        constructor
        · rw [List.all_cons, h1, h3]; rfl
        · rw [List.map_cons, h2, h4]
theorem mark_free {n : Nat} (hn : n ≤ 16) {x : Int} (h : inMark n x = true) : (32 ∉ (markText x).cps.toList ∧ 10 ∉ (markText x).cps.toList) ∧ (markText x).length ≤ 2 := by
  simp only [inMark, Bool.and_eq_true, decide_eq_true_eq] at h
  unfold markText
  by_cases e : x = -1
  · rw [if_pos e]; decide +kernel
  · rw [if_neg e]
    obtain ⟨k, rfl⟩ : ∃ k : Nat, x = (k : Int) := ⟨x.toNat, by omega⟩
    exact (num_text k (by omega)).2.2
theorem join_cps {y : Str} : ∀ {l : List Str} {c : Nat}, c ∈ (Str.join y l).cps.toList → c ∈ y.cps.toList ∨ ∃ p ∈ l, c ∈ p.cps.toList
  | [], c, h => by simp [Str.join, Str.empty] at h
  | [a], c, h => .inr ⟨a, by simp, h⟩
  | a :: b :: r, c, h => by
    have h : c ∈ (a ++ y ++ Str.join y (b :: r)).cps.toList := h
    rw [Str.cps_append, Str.cps_append, Array.toList_append, Array.toList_append, List.mem_append, List.mem_append] at h
    rcases h with (h | h) | h
    · exact .inr ⟨a, by simp, h⟩
    · exact .inl h
    · rcases join_cps h with h | ⟨p, hp, h⟩
      · exact .inl h
      · exact .inr ⟨p, List.mem_cons_of_mem _ hp, h⟩
theorem okT_all {n : Nat} {t : List Int} (h : okT n t = true) : t.length = 4 ∧ t.all (inMark n) = true := by
  simp only [okT, Bool.and_eq_true, decide_eq_true_eq] at h
  exact h
theorem row_free {n : Nat} (hn : n ≤ 16) {t : List Int} (h : okT n t = true) : 10 ∉ (rowText t).cps.toList := by
  obtain ⟨_, h2⟩ := okT_all h
  intro z
  unfold rowText at z
  rw [TL.join_eq] at z
  rcases join_cps z with z | ⟨p, hp, z⟩
  · revert z; decide
  · obtain ⟨x, hx, rfl⟩ := List.mem_map.mp hp
    exact (mark_free hn ((List.all_eq_true.mp h2) x hx)).1.2 z
theorem tile_back {n : Nat} (hn : n ≤ 16) {t : List Int} (h : okT n t = true) : tileIn n (rowText t) = some t := by
  obtain ⟨h1, h2⟩ := okT_all h
  have e : Txt.split (rowText t) " " = t.map markText := by
    unfold rowText
    refine TL.split_join (s := 32) (S := []) (by rfl) (by decide +kernel) ?_ fun p hp => ?_
    · intro z
      rw [List.map_eq_nil_iff] at z
      rw [z] at h1; cases h1
    · obtain ⟨x, hx, rfl⟩ := List.mem_map.mp hp
      exact (mark_free hn ((List.all_eq_true.mp h2) x hx)).1.1
  unfold tileIn
  rw [e, List.length_map, if_pos h1, allSome_map hn h2]
theorem tile_in {n : Nat} {r : Str} {t : List Int} (h : tileIn n r = some t) : okT n t = true ∧ rowText t = r := by
  unfold tileIn at h
  split at h
  · rename_i hl
    obtain ⟨h1, h2⟩ := allSome_back h
    constructor
    · unfold okT
      rw [h1]
      have : t.length = 4 := by rw [← hl, ← h2, List.length_map]
      simp [this]
    · unfold rowText
      rw [h2, TL.join_eq]
      exact StrLaws.join_split r " "
  · cases h
theorem rd_text {n : Nat} (hn : n ≤ 16) : ∀ {T : List (List Int)} {p : Option (List Int)} {k : Nat}, chk n p T = true → rd n k p (T.map rowText) = .inr T
  | [], _, _, _ => rfl
  | t :: T, p, k, h => by
    simp only [chk, Bool.and_eq_true] at h
    obtain ⟨⟨h1, h2⟩, h3⟩ := h
    simp only [List.map_cons, rd, tile_back hn h1, h2, if_true, rd_text hn h3]
theorem rd_back {n : Nat} : ∀ {rs : List Str} {p : Option (List Int)} {k : Nat} {T : List (List Int)}, rd n k p rs = .inr T → chk n p T = true ∧ T.map rowText = rs
  | [], _, _, T, h => by cases h; exact ⟨rfl, rfl⟩
  | r :: rs, p, k, T, h => by
    simp only [rd] at h
    split at h
    · cases h
    · rename_i t e
      split at h
      · rename_i hr
        split at h
        · cases h
        · rename_i T' e2
          cases h
          obtain ⟨h1, h2⟩ := rd_back e2
          obtain ⟨h3, h4⟩ := tile_in e
          constructor
          · simp only [chk, h3, hr, h1, Bool.and_true]
          · rw [List.map_cons, h4, h2]
      · cases h
theorem lets_free {L : Str} (h : lets L = true) : 10 ∉ L.cps.toList := fun z => by
  have := (List.all_eq_true.mp h) 10 z
  revert this; decide
theorem read_text {L : Str} {T : List (List Int)} (h : okSys L T = true) : readP (textOf L T) = .inr (L, T) := by
  simp only [okSys, Bool.and_eq_true, decide_eq_true_eq] at h
  obtain ⟨⟨h1, h2⟩, h3⟩ := h
  have hT : ∀ t ∈ T, okT L.length t = true := by
    have go : ∀ {T : List (List Int)} {p : Option (List Int)}, chk L.length p T = true → ∀ t ∈ T, okT L.length t = true := by
      intro T
      induction T with
      | nil => intro p _ t ht; cases ht
      | cons a T ih =>
        intro p h t ht
        simp only [chk, Bool.and_eq_true] at h
        rcases List.mem_cons.mp ht with rfl | ht
        · exact h.1.1
        · exact ih h.2 t ht
    exact go h3
  have e : Txt.split (textOf L T) "\n" = L :: T.map rowText := by
    unfold textOf
    refine TL.split_join (s := 10) (S := []) (by rfl) (by decide +kernel) (by simp) fun p hp => ?_
    rcases List.mem_cons.mp hp with rfl | hp
    · exact lets_free h2
    · obtain ⟨t, ht, rfl⟩ := List.mem_map.mp hp
      exact row_free h1 (hT t ht)
  unfold readP
  rw [e]
  simp only [h1, h2, decide_true, Bool.and_true, if_true, rd_text h1 h3]
theorem read_back {x L : Str} {T : List (List Int)} (h : readP x = .inr (L, T)) : okSys L T = true ∧ textOf L T = x := by
  unfold readP at h
  split at h
  · cases h
  · rename_i L' rs e
    split at h
    · rename_i hc
      split at h
      · cases h
      · rename_i T' e2
        cases h
        obtain ⟨h1, h2⟩ := rd_back e2
        constructor
        · unfold okSys; rw [hc, h1]; rfl
        · unfold textOf
          rw [h2, TL.join_eq, ← e]
          exact StrLaws.join_split x "\n"
    · cases h
end QY

/-! Meanings of what tiles and systems are asked. -/
namespace QY
open PySem PySem.Spec PyProof.Rows L2
@[simp] theorem lt_tup {a b : List Int} : ltD (tupD a) (tupD b) = some (.bl (HT.lexLt a b)) := by
  show (match asInts (a.map D.int), asInts (b.map D.int) with | some ns, some ms => some (D.bl (HT.lexLt ns ms)) | _, _ => none) = _
  rw [asInts_map, asInts_map]
@[simp] theorem le_tup {a b : List Int} : leD (tupD a) (tupD b) = some (.bl (lexLeI a b)) := by
  show (match asInts (a.map D.int), asInts (b.map D.int) with | some ns, some ms => some (D.bl (lexLeI ns ms)) | _, _ => none) = _
  rw [asInts_map, asInts_map]
@[simp] theorem len_tupD {a : List Int} : lenD [tupD a] = some (.int (a.length : Nat)) := by unfold tupD; rw [len_tup, List.length_map]
@[simp] theorem items_tupD {a : List Int} : itemsD (tupD a) = some (a.map .int) := (rfl)
@[simp] theorem len_tupsD {T : List (List Int)} : lenD [.lst (tupsD T)] = some (.int (T.length : Nat)) := by unfold tupsD; rw [len_lst, List.length_map]
theorem ix_tupsD {T : List (List Int)} {k : Nat} {t : List Int} (h : T[k]? = some t) : ixD (.lst (tupsD T)) (.int (k : Int)) = some (tupD t) := by
  rw [ix_lst]; unfold tupsD; rw [List.getElem?_map, h]; rfl
theorem sTup2 {i j : Nat} {f : EV} {ρ : List B} {a b : D} (h : f ρ = .ok (.tup [a, b])) : sTup [i, j] f ρ = .nx ((ρ.set i (.fz a)).set j (.fz b)) := by
  unfold sTup sE; rw [h]; rfl
/-- a check of each sign -/
theorem lc_signs {it : AV} {elt : EV} {vs : List Nat} {i : Nat} {ρ : List B} {s : Str} {p : Nat → Bool} (hi : it ρ = .ok (s.cps.toList.map fun c => .str ⟨#[c]⟩)) (hs : s.length ≤ 1000000) (he : ∀ c, elt ((wipeB ρ vs).set i (.fz (.str ⟨#[c]⟩))) = .ok (.bl (p c))) :
    eLc it (.nm i) (fun _ => .ok true) elt vs ρ = .ok (.lst (s.cps.toList.map fun c => .bl (p c))) := by
  have e := eLc_map (i := i) (ρ := ρ) (it := it) (elt := elt) (vs := vs) (ds := s.cps.toList.map fun c => .str ⟨#[c]⟩)
    (g := fun d => match d with | .str s => .bl (p (s.cps.getD 0 0)) | _ => .non) hi (fun d hd => by
      obtain ⟨c, _, rfl⟩ := List.mem_map.mp hd
      rw [he]; rfl) (by rw [List.length_map, size_len]; exact lim2 hs)
  rw [e, List.map_map]
  rfl
/-- a check of each whole number -/
theorem lc_ints {it : AV} {elt : EV} {vs : List Nat} {i : Nat} {ρ : List B} {t : List Int} {g : Int → D} (hi : it ρ = .ok (t.map .int)) (hs : t.length ≤ 1000000) (he : ∀ x ∈ t, elt ((wipeB ρ vs).set i (.fz (.int x))) = .ok (g x)) :
    eLc it (.nm i) (fun _ => .ok true) elt vs ρ = .ok (.lst (t.map g)) := by
  have e := eLc_map (i := i) (ρ := ρ) (it := it) (elt := elt) (vs := vs) (ds := t.map D.int)
    (g := fun d => match d with | .int x => g x | _ => .non) hi (fun d hd => by
      obtain ⟨x, hx, rfl⟩ := List.mem_map.mp hd
      rw [he x hx]) (by rw [List.length_map]; exact lim2 hs)
  rw [e, List.map_map]
  rfl
theorem lc_strs {it : AV} {elt : EV} {vs : List Nat} {i : Nat} {ρ : List B} {t : List Str} {g : Str → D} (hi : it ρ = .ok (t.map .str)) (hs : t.length ≤ 1000000) (he : ∀ x ∈ t, elt ((wipeB ρ vs).set i (.fz (.str x))) = .ok (g x)) :
    eLc it (.nm i) (fun _ => .ok true) elt vs ρ = .ok (.lst (t.map g)) := by
  have e := eLc_map (i := i) (ρ := ρ) (it := it) (elt := elt) (vs := vs) (ds := t.map D.str)
    (g := fun d => match d with | .str x => g x | _ => .non) hi (fun d hd => by
      obtain ⟨x, hx, rfl⟩ := List.mem_map.mp hd
      rw [he x hx]) (by rw [List.length_map]; exact lim2 hs)
  rw [e, List.map_map]
  rfl
theorem lc_tups {it : AV} {elt : EV} {vs : List Nat} {i : Nat} {ρ : List B} {t : List (List Int)} {g : List Int → D} (hi : it ρ = .ok (tupsD t)) (hs : t.length ≤ 1000000) (he : ∀ x ∈ t, elt ((wipeB ρ vs).set i (.fz (tupD x))) = .ok (g x)) :
    eLc it (.nm i) (fun _ => .ok true) elt vs ρ = .ok (.lst (t.map g)) := by
  have e := eLc_map (i := i) (ρ := ρ) (it := it) (elt := elt) (vs := vs) (ds := tupsD t)
    (g := fun d => match asTup d with | some x => g x | _ => .non) hi (fun d hd => by
      obtain ⟨x, hx, rfl⟩ := List.mem_map.mp hd
      rw [he x hx]
      have : asTup (tupD x) = some x := asInts_map x
      rw [this]) (by unfold tupsD; rw [List.length_map]; exact lim2 hs)
  rw [e]
  unfold tupsD
  rw [List.map_map]
  congr 2
  refine List.map_congr_left fun x _ => ?_
  have : asTup (tupD x) = some x := asInts_map x
  show (match asTup (tupD x) with | some x => g x | _ => .non) = g x
  rw [this]
end QY

/-! Plain: grids of marks, their tiles; strictly rising lists. -/
namespace QY
open PySem PySem.Spec PyProof.Rows L2
def rowD' (r : List Int) : D := .lst (r.map .int)
def gridD (G : List (List Int)) : D := .lst (G.map rowD')
def get2 (G : List (List Int)) (y x : Nat) : Int := (G.getD y []).getD x 0
def tl4 (G : List (List Int)) (y x : Nat) : List Int := [get2 G y x, get2 G y (x + 1), get2 G (y + 1) x, get2 G (y + 1) (x + 1)]
def frame (w : Nat) (G : List (List Int)) : List (List Int) := [List.replicate (w + 2) (-1)] ++ G.map (fun r => [-1] ++ r ++ [-1]) ++ [List.replicate (w + 2) (-1)]
def tilesP (w : Nat) (G : List (List Int)) : List (List Int) := (List.range (G.length + 1)).flatMap fun y => (List.range (w + 1)).map fun x => tl4 (frame w G) y x
structure Rect (w : Nat) (G : List (List Int)) : Prop where
  h : ∀ r ∈ G, r.length = w
theorem frame_len (w : Nat) (G : List (List Int)) : (frame w G).length = G.length + 2 := by simp [frame]
theorem frame_row {w : Nat} {G : List (List Int)} (R : Rect w G) : ∀ r ∈ frame w G, r.length = w + 2 := by
  intro r hr
  simp only [frame, List.mem_append, List.mem_singleton, List.mem_map] at hr
  rcases hr with (rfl | ⟨q, hq, rfl⟩) | rfl
  · simp
  · simp [R.h q hq]
  · simp
theorem frame_get {w : Nat} {G : List (List Int)} (R : Rect w G) {y x : Nat} (hy : y < G.length + 2) (hx : x < w + 2) : ∃ r, (frame w G)[y]? = some r ∧ r[x]? = some (get2 (frame w G) y x) := by
  have h1 : y < (frame w G).length := by rw [frame_len]; exact hy
  refine ⟨(frame w G)[y], List.getElem?_eq_getElem h1, ?_⟩
  have h2 := frame_row R _ (List.getElem_mem h1)
  unfold get2
  rw [List.getD_eq_getElem?_getD, List.getD_eq_getElem?_getD, List.getElem?_eq_getElem h1, Option.getD_some, List.getElem?_eq_getElem (by omega)]
  rfl
theorem ix_grid {G : List (List Int)} {y : Nat} {r : List Int} (h : G[y]? = some r) : ixD (gridD G) (.int (y : Int)) = some (rowD' r) := by
  unfold gridD; rw [ix_lst, List.getElem?_map, h]; rfl
theorem ix_row {r : List Int} {x : Nat} {v : Int} (h : r[x]? = some v) : ixD (rowD' r) (.int (x : Int)) = some (.int v) := by
  unfold rowD'; rw [ix_lst, List.getElem?_map, h]; rfl
theorem frame_in {n : Nat} {w : Nat} {G : List (List Int)} (R : Rect w G) (h : ∀ r ∈ G, ∀ x ∈ r, inMark n x = true) {y x : Nat} (hy : y < G.length + 2) (hx : x < w + 2) : inMark n (get2 (frame w G) y x) = true := by
  obtain ⟨r, h1, h2⟩ := frame_get R hy hx
  have hr := List.mem_of_getElem? h1
  have hv := List.mem_of_getElem? h2
  have m1 : inMark n (-1) = true := by simp only [inMark, Bool.and_eq_true, decide_eq_true_eq]; omega
  simp only [frame, List.mem_append, List.mem_singleton, List.mem_map] at hr
  rcases hr with (rfl | ⟨q, hq, rfl⟩) | rfl
  · rw [(List.mem_replicate.mp hv).2]; exact m1
  · simp only [List.mem_append, List.mem_singleton] at hv
    rcases hv with (hv | hv) | hv
    · rw [hv]; exact m1
    · exact h q hq _ hv
    · rw [hv]; exact m1
  · rw [(List.mem_replicate.mp hv).2]; exact m1
theorem tilesP_len (w : Nat) (G : List (List Int)) : (tilesP w G).length = (G.length + 1) * (w + 1) := by
  unfold tilesP
  rw [List.length_flatMap]
  simp only [List.length_map, List.length_range]
  have : ∀ l : List Nat, (l.map fun _ => w + 1).sum = l.length * (w + 1) := fun l => by
    induction l with
    | nil => simp
    | cons a l ih => rw [List.map_cons, List.sum_cons, ih, List.length_cons, Nat.add_mul, Nat.one_mul, Nat.add_comm]
  rw [this, List.length_range]
theorem tilesP_ok {n w : Nat} {G : List (List Int)} (R : Rect w G) (h : ∀ r ∈ G, ∀ x ∈ r, inMark n x = true) : ∀ t ∈ tilesP w G, okT n t = true := by
  intro t ht
  simp only [tilesP, List.mem_flatMap, List.mem_map, List.mem_range] at ht
  obtain ⟨y, hy, x, hx, rfl⟩ := ht
  have a := frame_in R h (y := y) (x := x) (by omega) (by omega)
  have b := frame_in R h (y := y) (x := x + 1) (by omega) (by omega)
  have c := frame_in R h (y := y + 1) (x := x) (by omega) (by omega)
  have d := frame_in R h (y := y + 1) (x := x + 1) (by omega) (by omega)
  unfold okT tl4
  simp [a, b, c, d]
/-! strictly rising -/
theorem chk_of {n : Nat} : ∀ {T : List (List Int)} {p : Option (List Int)}, (∀ t ∈ T, okT n t = true) → SrtI T → T.Nodup → (∀ q, p = some q → ∀ t ∈ T, HT.lexLt q t = true) → chk n p T = true
  | [], _, _, _, _, _ => rfl
  | t :: T, p, h, s, d, hp => by
    have s' := List.pairwise_cons.mp s
    have d' := List.nodup_cons.mp d
    have hr : rise p t = true := by
      cases p with
      | none => rfl
      | some q => exact hp q rfl t (by simp)
    have e : chk n p (t :: T) = ((okT n t && rise p t) && chk n (some t) T) := rfl
    rw [e, h t (by simp), hr]
    refine chk_of (fun q hq => h q (List.mem_cons_of_mem _ hq)) s'.2 d'.2 fun q e z hz => ?_
    cases e
    cases hlt : HT.lexLt t z with
    | true => rfl
    | false =>
      have := lx_total hlt (s'.1 z hz)
      rw [this] at d'
      exact absurd hz d'.1
theorem sorted_ok {n : Nat} {A : List (List Int)} (h : ∀ t ∈ A, okT n t = true) : chk n none (sortI (ded A)) = true ∧ (sortI (ded A)).length ≤ A.length := by
  have p := sortI_perm (ded A)
  constructor
  · refine chk_of (fun t ht => h t (ded_mem.mp (p.mem_iff.mp ht))) (sortI_srt _) (p.nodup_iff.mpr (ded_nodup A)) fun q e => by cases e
  · rw [p.length_eq]
    induction A with
    | nil => exact Nat.le_refl _
    | cons x r ih =>
      unfold ded
      have := ih (fun t ht => h t (List.mem_cons_of_mem _ ht)) (sortI_perm _)
      split
      · rw [List.length_cons]; omega
      · rw [List.length_cons, List.length_cons]; omega
theorem okT_ne {n : Nat} {A : List (List Int)} (h : ∀ t ∈ A, okT n t = true) : noE A = true := by
  unfold noE
  rw [List.all_eq_true]
  intro t ht
  have := (okT_all (h t ht)).1
  cases t with
  | nil => cases this
  | cons _ _ => rfl
theorem sortSet_tups {n : Nat} {A : List (List Int)} (h : ∀ t ∈ A, okT n t = true) (hl : A.length < 64) : sortSetD (.lst (tupsD A)) = some (.lst (tupsD (sortI (ded A)))) := by
  show (asTups (tupsD A)).bind _ = _
  rw [asTups_map]
  show (if (noE A && decide (A.length < 64)) = true then _ else _) = _
  rw [okT_ne h, decide_eq_true hl]; rfl
theorem rep_lst {α : Type} (n : Nat) (a : α) : (List.replicate n [a]).flatten = List.replicate n a := by
  induction n with
  | zero => rfl
  | succ n ih => rw [List.replicate_succ, List.flatten_cons, ih, List.replicate_succ]; rfl
theorem mul_lst {a : List D} {n : Nat} (h : n < 1073741824) (hl : a.length * n ≤ LIM) : mulD (.lst a) (.int (n : Int)) = some (.lst (List.replicate n a).flatten) := by
  have h1 : -(2 ^ 30) < (n : Int) := by omega
  have h2 : (n : Int) < 2 ^ 30 := by omega
  have h3 : a.length * (n : Int).toNat ≤ LIM := by rw [Int.toNat_natCast]; exact hl
  have e : mulD (.lst a) (.int (n : Int)) = if -(2 ^ 30) < (n : Int) ∧ (n : Int) < 2 ^ 30 ∧ a.length * (n : Int).toNat ≤ LIM then some (.lst (List.replicate (n : Int).toNat a).flatten) else none := by
    unfold mulD; rfl
  rw [e, if_pos (And.intro h1 (And.intro h2 h3)), Int.toNat_natCast]
def padD : D → D
  | .lst ds => .lst ([.int (-1)] ++ ds ++ [.int (-1)])
  | _ => .non
theorem pad_row (r : List Int) : padD (rowD' r) = rowD' ([-1] ++ r ++ [-1]) := by
  unfold rowD'
  rw [List.map_append, List.map_append]; rfl
def abB (c : Nat) : Bool := decide (c = 97) || decide (c = 98)
def ab (r : Str) : Bool := r.cps.toList.all abB
theorem ab_lets {r : Str} (h : ab r = true) : lets r = true := by
  unfold lets
  rw [List.all_eq_true]
  intro c hc
  have := (List.all_eq_true.mp h) c hc
  simp only [abB, Bool.or_eq_true, decide_eq_true_eq] at this
  rcases this with rfl | rfl <;> decide
end QY

/-! Objects of a class: attributes, methods, making one. -/
namespace QY
open PySem PySem.Spec PyProof.Rows L2
/-! ### fields -/
theorem zip_at {α : Type} : ∀ {fs : List Str} {vs : List α} {i : Nat} {y : Str} {v : α}, fs.Nodup → fs[i]? = some y → vs[i]? = some v → (fs.zip vs).lookup y = some v
  | [], _, _, _, _, _, h, _ => by simp at h
  | _ :: _, [], _, _, _, _, _, h => by simp at h
  | g :: fs, w :: vs, 0, y, v, _, h, h' => by
    simp at h h'
    subst h; subst h'
    simp [List.lookup]
  | g :: fs, w :: vs, i + 1, y, v, nd, h, h' => by
    have nd' := List.nodup_cons.mp nd
    have h1 : fs[i]? = some y := by simpa using h
    have h2 : vs[i]? = some v := by simpa using h'
    have hne : (y == g) = false := by
      refine beq_eq_false_iff_ne.mpr fun e => nd'.1 ?_
      rw [← e]; exact List.mem_of_getElem? h1
    show List.lookup y ((g, w) :: fs.zip vs) = some v
    rw [List.lookup_cons, hne]
    exact zip_at nd'.2 h1 h2
theorem zip_no {α : Type} {y : Str} : ∀ {fs : List Str} {vs : List α}, y ∉ fs → (fs.zip vs).lookup y = none
  | [], _, _ => rfl
  | _ :: _, [], _ => rfl
  | g :: fs, w :: vs, h => by
    have hne : (y == g) = false := beq_eq_false_iff_ne.mpr fun e => h (by rw [e]; exact List.mem_cons_self)
    show List.lookup y ((g, w) :: fs.zip vs) = none
    rw [List.lookup_cons, hne]
    exact zip_no fun z => h (List.mem_cons_of_mem _ z)
/-- a class as the text has it: its fields -/
structure ObjF (κ : Kap) (c : Nat) (fs : List Str) : Prop where
  cl : Cls κ.K (κ.cls c)
  na : ∀ y ∈ fs, NoAttr κ.K (κ.cls c) y
  nd : fs.Nodup
  fl : κ.fld c = fs
def fldD (c i : Nat) : D → Option D
  | .obj c' ds => if c' = c then ds[i]? else none
  | _ => none
@[simp] theorem fldD_obj {c i : Nat} {ds : List D} : fldD c i (.obj c ds) = ds[i]? := (if_pos rfl)
def isObj (c : Nat) : D → Bool
  | .obj c' _ => c' == c
  | _ => false
@[simp] theorem isObj_obj {c : Nat} {ds : List D} : isObj c (.obj c ds) = true := (by simp [isObj])
section
variable {X : Cx} {κ : Kap} {W : WX} {mg : Str → Option Value} {base : Heap} {k : Nat} {N : List Str} {sc : Scope} {own : Str → Bool} {e a b : Expr} {es : List Expr} {f fa fb : EV} {fs : AV} {pos p p1 p2 : Pos} {x : Str}
theorem g_fld {c i : Nat} {ys : List Str} {y : Str} (G : Good X κ W mg base k N sc own) (F : ObjF κ c ys) (hy : ys[i]? = some y) (hb : isCall0 e = false) (he : PE X e (tP κ W (PR κ) f)) :
    PE X (.Attribute e y pos) (tP κ W (PR κ) (e1 (fldD c i) f)) := by
  refine PE_weak (pe_fld he (base_of hb)) fun σ H Q ⟨ρ, H0, E, S, q⟩ => ?_
  refine tP_mono (fun v H1 z => ?_) (fin_bind (P := PR κ) pmR E S q)
  obtain ⟨H01, d, g, r, z⟩ := z
  have r : Rep κ H01 v d := r
  cases hd : fldD c i d with
  | none => rw [hd] at z; exact z.elim
  | some d' =>
    rw [hd] at z
    unfold fldD at hd
    split at hd
    · split at hd
      · rename_i hc
        subst hc
        cases r with
        | obj ea hl rr =>
          obtain ⟨v', hv, rv⟩ := rr.get hd
          rw [G.hK]
          have fl := F.fl
          rw [fl] at ea
          exact ⟨_, _, _, _, v', rfl, g.c _ _ ea, F.cl, F.na _ (List.mem_of_getElem? hy), zip_at F.nd hy hv, z v' H01 H1 (.refl g.c) rv⟩
      · cases hd
    · cases hd
/-! ### methods: none raises -/
structure Mc (κ : Kap) (mg : Str → Option Value) (base : Heap) (j c : Nat) (m : Str) (fr : Bool) (n : Nat) (sem : List D → R D) : Prop where
  ex : ∃ (f : Addr) (fd : FuncData) (ps : List Str), FnOk κ.P κ.w κ.K mg base (L2.CX κ.P κ.w) j f fd ps (spD κ fr n sem) ∧ Meth κ.K (κ.cls c) m f ∧ Binds κ.K fd ps []
def okR : R D → R D
  | .ok d => .ok d
  | _ => .er
@[simp] theorem okR_ok {d : D} : okR (.ok d) = .ok d := (rfl)
def eMc (c n : Nat) (sem : List D → R D) (f : EV) (fs : AV) : EV := fun ρ => (f ρ).bind fun x => if isObj c x then (fs ρ).bind fun ds => if (x :: ds).length = n then okR (sem (x :: ds)) else .er else .er
@[simp] theorem eMc_ap {c n : Nat} {sem : List D → R D} {ρ : List B} : eMc c n sem f fs ρ = (f ρ).bind fun x => if isObj c x then (fs ρ).bind fun ds => if (x :: ds).length = n then okR (sem (x :: ds)) else .er else .er := (rfl)
theorem no_ex {P : Program} {w : World} {o : List Env} {H : Hp} {s : Shared} {u : Value} {s' : Shared} (h : L2.CX P w o H s (fun _ _ _ => False) u s') : False :=
  let ⟨_, _, _, _, _, _, _, _, _, _, _, _, z⟩ := h
  z
theorem g_mc {c j n : Nat} {ys : List Str} {m : Str} {fr : Bool} {sem : List D → R D} {apos : Pos} {pl : Sem Bool} {o : Expr} (G : Good X κ W mg base k N sc own) (F : ObjF κ c ys) (M : Mc κ mg base j c m fr n sem) (hj : j ≤ k) (hm : ys.contains m = false)
    (st : ns1 e es) (ho : PE X o (tP κ W (PR κ) f)) (ha : PA X (e :: es) (tA κ W (PLR κ) fs))
    (ht : eval (.Call (.Attribute o m apos) (e :: es) [] pos) X.env = (do
      let ov ← eval o X.env
      standAt apos.atName
      let (f, first) ← holding [ov] (getMethod ov m pl)
      callWith pos f first (backTo pos (starEach (e :: es) X.env)) (backToKw pos (keywordEach [] X.env)))) :
    PE X (.Call (.Attribute o m apos) (e :: es) [] pos) (tP κ W (PF κ fr) (eMc c n sem f fs)) := by
  obtain ⟨g, fd, ps, Fn, Mt, bd⟩ := M.ex
  have Fn' : FnOk X.prog X.w X.K X.mg X.base (L2.CX X.prog X.w) j g fd ps (spD κ fr n sem) := by rw [G.hP, G.hw, G.hK, G.hm, G.hb]; exact Fn
  refine PE_weak (pe_meth (X := X) (CX := L2.CX X.prog X.w) (E := fun _ _ _ => False) ho (by rw [G.hK]; exact F.cl) (by rw [G.hK]; exact Mt) Fn' (G.rm.mono hj) (by rw [G.hK]; exact bd) .nil (fun _ _ _ _ _ _ _ z => (no_ex z).elim) ha (starEach_cons (stars1 st)) (noStars (stars2 st)) ht) fun σ H Q ⟨ρ, H0, E, S, q⟩ => ?_
  refine tP_mono (fun v H1 z => ?_) (fin_bind (P := PR κ) pmF E S q)
  obtain ⟨H01, d, g1, r, z⟩ := z
  have r : Rep κ H01 v d := r
  by_cases hi : isObj c d = true
  · rw [if_pos hi] at z
    cases d with
    | obj c' ds =>
      obtain rfl : c' = c := by simpa [isObj] using hi
      cases r with
      | @obj a' dx' _ ws _ ea hl rr =>
        have ea0 := ea
        have hno : ((κ.fld c').zip ws).lookup m = none := zip_no (by rw [F.fl]; simpa using hm)
        refine ⟨_, _, _, rfl, g1.c _ _ ea, hno, ?_⟩
        refine tA_mono (fun vs H2 y => ?_) (fin_aBind (PL := PLR κ) pmF g1.c (S.grow g1) z)
        obtain ⟨H02, as, g2, ra, y⟩ := y
        rw [List.append_nil]
        by_cases hn : (D.obj c' ds :: as).length = n
        · rw [if_pos hn] at y
          refine ⟨H02, D.obj c' ds :: as, g2.c, .cons ((Rep.obj ea hl rr).mono g2.a) ra, hn, ?_⟩
          cases es : sem (D.obj c' ds :: as) with
          | ok d' => rw [es] at y; exact y
          | ex c2 vs2 => rw [es] at y; exact y.elim
          | er => rw [es] at y; exact y.elim
        · rw [if_neg hn] at y; exact y.elim
    | _ => cases hi
  · rw [if_neg hi] at z; exact z.elim
theorem g_mcR {c j n : Nat} {ys : List Str} {m : Str} {sem : List D → R D} {apos : Pos} {pl : Sem Bool} {o : Expr} (G : Good X κ W mg base k N sc own) (F : ObjF κ c ys) (M : Mc κ mg base j c m false n sem) (hj : j ≤ k) (hm : ys.contains m = false)
    (st : ns1 e es) (ho : PE X o (tP κ W (PR κ) f)) (ha : PA X (e :: es) (tA κ W (PLR κ) fs))
    (ht : eval (.Call (.Attribute o m apos) (e :: es) [] pos) X.env = (do
      let ov ← eval o X.env
      standAt apos.atName
      let (f, first) ← holding [ov] (getMethod ov m pl)
      callWith pos f first (backTo pos (starEach (e :: es) X.env)) (backToKw pos (keywordEach [] X.env)))) :
    PE X (.Call (.Attribute o m apos) (e :: es) [] pos) (tP κ W (PR κ) (eMc c n sem f fs)) := g_mc G F M hj hm st ho ha ht
theorem g_mcX {c j n : Nat} {ys : List Str} {m : Str} {sem : List D → R D} {apos : Pos} {pl : Sem Bool} {o : Expr} (G : Good X κ W mg base k N sc own) (F : ObjF κ c ys) (M : Mc κ mg base j c m true n sem) (hj : j ≤ k) (hm : ys.contains m = false)
    (st : ns1 e es) (ho : PE X o (tP κ W (PR κ) f)) (ha : PA X (e :: es) (tA κ W (PLR κ) fs))
    (ht : eval (.Call (.Attribute o m apos) (e :: es) [] pos) X.env = (do
      let ov ← eval o X.env
      standAt apos.atName
      let (f, first) ← holding [ov] (getMethod ov m pl)
      callWith pos f first (backTo pos (starEach (e :: es) X.env)) (backToKw pos (keywordEach [] X.env)))) :
    PE X (.Call (.Attribute o m apos) (e :: es) [] pos) (tP κ W (PX κ) (eMc c n sem f fs)) := g_mc G F M hj hm st ho ha ht
/-! ### making one -/
/-- the heaps behind an __init__ of what stands at x -/
structure IG (x : Addr) (A B A' B' : Hp) : Prop where
  a : Ex A A'
  b : ∀ q o, B q = some o → q ≠ x → B' q = some o
  c : Ex A' B'
  d : ∀ q o, B q = some o → A q = none → q ≠ x → A' q = none
theorem IG.of {x : Addr} {A B A' B' : Hp} (g : Grow A B A' B') : IG x A B A' B' := ⟨g.a, fun q o h _ => g.b q o h, g.c, fun q o h n _ => g.d q o h n⟩
theorem IG.grow {x : Addr} {A B A1 B1 A2 B2 : Hp} (i : IG x A B A1 B1) (g : Grow A1 B1 A2 B2) : IG x A B A2 B2 :=
  ⟨i.a.trans g.a, fun q o h n => g.b q o (i.b q o h n), g.c, fun q o h n z => g.d q o (i.b q o h z) (i.d q o h n z)⟩
theorem IG.put {x y : Addr} {A B A1 B1 : Hp} {o : HO} (i : IG x A B A1 B1) (n : A1 y = none) (h : y = x ∨ B y = none) : IG x A B A1 (upd B1 y o) :=
  ⟨i.a, fun q u e z => by
    have hq : q ≠ y := by
      rcases h with rfl | h
      · exact z
      · exact ne_of_none e h
    rw [upd_ne hq]; exact i.b q u e z, fun q u e => by rw [upd_ne (ne_of_none e n)]; exact i.c q u e, i.d⟩
theorem IG.frz {x y : Addr} {A B A1 B1 : Hp} {o : HO} (i : IG x A B A1 B1) (n : A1 y = none) (e : B1 y = some o) (h : y = x ∨ B y = none) : IG x A B (upd A1 y o) B1 :=
  ⟨i.a.trans (Ex.new n), i.b, fun q u z => by
    rcases upd_some z with ⟨rfl, rfl⟩ | ⟨_, z⟩
    · exact e
    · exact i.c q u z, fun q u hq hn z => by
    have hy : q ≠ y := by
      rcases h with rfl | h
      · exact z
      · exact ne_of_none hq h
    rw [upd_ne hy]; exact i.d q u hq hn z⟩
/-- what an __init__ promises -/
def spI (κ : Kap) (c n : Nat) (sem : Addr → List D → R D) : Sp := fun vs H Q E => ∃ (x dx : Addr) (ws : List V) (H0 : Hp) (ds : List D), vs = V.ref x :: ws ∧ H x = some (.ins (κ.cls c) dx []) ∧ H0 x = none ∧ Ex H0 H ∧ Reps κ H0 ws ds ∧ ds.length = n ∧ (match sem x ds with
  | .ok d => ∀ H0' H', IG x H0 H H0' H' → Rep κ H0' (.ref x) d → Q .non H'
  | .ex c vs => ∀ dy H0' H', Grow H0 H H0' H' → ExD κ H0' dy vs → E (.ref (κ.exc c)) dy H'
  | .er => False)
/-- a class of the module that is made by its __init__ -/
structure Kc (κ : Kap) (mg : Str → Option Value) (base : Heap) (j c : Nat) (x : Str) (n : Nat) (sem : List D → R D) : Prop where
  ex : ∃ (f : Addr) (fd : FuncData) (ps : List Str) (sem' : Addr → List D → R D), FnOk κ.P κ.w κ.K mg base (L2.CX κ.P κ.w) j f fd ps (spI κ c n sem') ∧ Mk κ.K (κ.cls c) f ∧ mg x = some (.ref (κ.cls c)) ∧ Binds κ.K fd ps [] ∧ ∀ a ds, sem ds = .er ∨ sem' a ds = sem ds
def tMk (C : Addr) (sp : Sp) (E : L2.St → XK) (t : TA) : TE := fun σ H Q => t σ H fun vs H1 => ∀ x dx, H1 x = none → H1 dx = none → dx ≠ x →
  sp (.ref x :: vs) (upd (upd H1 dx (.own x)) x (.ins C dx [])) (fun v H2 => v = .non ∧ Q (.ref x) H2) (E σ)
theorem pe_mk {CX : CXT} {j : Nat} {C g : Addr} {fd : FuncData} {ps : List Str} {sp : Sp} {E : L2.St → XK} {t : TA} (M : Mk X.K C g) (F : FnOk X.prog X.w X.K X.mg X.base CX j g fd ps sp) (hr : Room (j + 1) X.A) (hg : Gl X x) (hm : X.mg x = some (.ref C)) (hb : Binds X.K fd ps [])
    (hx : ∀ σ, PassesAt CX X σ (E σ)) (ha : PA X (e :: es) t) (hdb : (x == ("__debug__" : Str)) = false) (he : starEach (e :: es) X.env = (false, eval e X.env) :: starEach es X.env) (hpl : (backTo pos (starEach es X.env)).any (·.1) = false) :
    PE X (.Call (.Name x p) (e :: es) [] pos) (tMk C sp E t) := by
  refine ⟨fun pins s σ H Q I h => wpAny_Call_Name_kw (ld_glob I hg hm ?_ hdb)⟩
  refine PySem.W.callWith_K (h₀ := X.base) I.ok.mod.kin M.kp (thn (ha.run pos pins s σ H _ I h) fun us t1 ⟨vs, H1, J, r, q⟩ => ⟨J.kIn, ?_⟩) he hpl
  have q1 := q (t1.heap.objs.size + 1) t1.heap.objs.size (J.hok.fresh (Nat.le_succ _)) (J.hok.fresh (Nat.le_refl _)) (Nat.ne_of_lt (Nat.lt_succ_self _))
  have J2 := Inv.made (C := C) J
  have rr : Vals (V.ref (t1.heap.objs.size + 1) :: vs) (Value.ref (t1.heap.objs.size + 1) :: us) := .cons rfl r
  have hl : (Value.ref (t1.heap.objs.size + 1) :: us).length = ps.length := (rr.length).symm.trans (F.len _ _ _ _ q1)
  have bb := hb _ (Value.ref (t1.heap.objs.size + 1) :: us) J2.kIn (by rw [List.append_nil]; exact hl)
  rw [List.append_nil] at bb
  have run := F.run _ X.stack _ _ ⟨Value.ref (t1.heap.objs.size + 1) :: us, []⟩ (Value.ref (t1.heap.objs.size + 1) :: us) _ _ (E σ) (hr.make C us []) (J2.env0.make C us []) bb rr q1
  refine wpAny_call (make_map (f := g) J.kIn M.makes M.init (beq_iff_eq.mp M.fn) (codeAny_mono run fun z s' hz => ?_))
  match z, hz with
  | .error e, hz => exact hx σ pins _ _ e s' J2 hz
  | .ok (.ret u), hz =>
    obtain ⟨v, H', J3, rv, ev, q3⟩ := J2.after hz
    cases ev
    exact ⟨rv, V.ref (t1.heap.objs.size + 1), H', J3, rfl, q3⟩
  | .ok .next, hz => exact hz.elim
  | .ok .brk, hz => exact hz.elim
  | .ok .cont, hz => exact hz.elim
def eMk (n : Nat) (sem : List D → R D) (fs : AV) : EV := fun ρ => (fs ρ).bind fun ds => if ds.length = n then sem ds else .er
@[simp] theorem eMk_ap {n : Nat} {sem : List D → R D} {ρ : List B} : eMk n sem fs ρ = (fs ρ).bind fun ds => if ds.length = n then sem ds else .er := (rfl)
theorem g_mk {c j n : Nat} {sem : List D → R D} (G : Good X κ W mg base k N sc own) (M : Kc κ mg base j c x n sem) (hj : j + 1 ≤ k) (h : ckG sc x = true) (st : ns1 e es) (ha : PA X (e :: es) (tA κ W (PLR κ) fs)) :
    PE X (.Call (.Name x p) (e :: es) [] pos) (tP κ W (PR κ) (eMk n sem fs)) := by
  obtain ⟨g, fd, ps, sem', Fn, Mk', hm, bd, hs⟩ := M.ex
  have Fn' : FnOk X.prog X.w X.K X.mg X.base (L2.CX X.prog X.w) j g fd ps (spI κ c n sem') := by rw [G.hP, G.hw, G.hK, G.hm, G.hb]; exact Fn
  refine PE_weak (pe_mk (by rw [G.hK]; exact Mk') Fn' (G.rm.mono hj) (G.gl h) (by rw [G.hm]; exact hm) (by rw [G.hK]; exact bd) (fun σ => passAt G.tk σ) ha (ckG_db h) (starEach_cons (stars1 st)) (noStars (stars2 st))) fun σ H Q ⟨ρ, H0, E, S, q⟩ => ?_
  refine tA_mono (fun vs H1 z => ?_) (fin_aBind (PL := PLR κ) pmR E S q)
  obtain ⟨H01, ds, g1, ra, z⟩ := z
  by_cases hn : ds.length = n
  · rw [if_pos hn] at z
    rcases hs 0 ds with er | _
    · rw [er] at z; exact z.elim
    · intro y dy hy hdy hne
      have hs' : sem' y ds = sem ds := by
        rcases hs y ds with er | e
        · rw [er] at z; exact z.elim
        · exact e
      have E2 : Ex H01 (upd (upd H1 dy (.own y)) y (.ins (κ.cls c) dy [])) := (g1.c.trans (Ex.new hdy)).trans (Ex.new (by rw [upd_ne (Ne.symm hne)]; exact hy))
      refine ⟨y, dy, vs, H01, ds, rfl, upd_same, g1.c.none hy, E2, ra, hn, ?_⟩
      rw [hs']
      have bk : ∀ q o, H1 q = some o → (upd (upd H1 dy (.own y)) y (.ins (κ.cls c) dy [])) q = some o := fun q o e => by
        rw [upd_ne (ne_of_none e hy), upd_ne (ne_of_none e hdy)]; exact e
      cases es : sem ds with
      | ok d =>
        rw [es] at z
        intro A' B' i r
        refine ⟨rfl, z _ A' B' ⟨i.a, fun q o e => i.b q o (bk q o e) (ne_of_none e hy), i.c, fun q o e n => i.d q o (bk q o e) n (ne_of_none e hy)⟩ r⟩
      | ex c2 vs2 =>
        rw [es] at z
        intro dz A' B' i r
        exact z dz A' B' ⟨i.a, fun q o e => i.b q o (bk q o e), i.c, fun q o e n => i.d q o (bk q o e) n⟩ r
      | er => rw [es] at z; exact z.elim
  · rw [if_neg hn] at z; exact z.elim
end
end QY

/-! (t,) * 1; extend, insert; reversed(range(..)). -/
namespace QY
open PySem PySem.Spec PyProof.Rows L2
theorem tup_once (l : Addr) (items : Array Value) (n : Nat) (dd : Option Addr) (sl : Array (Option Value)) (u : Tok) :
    Meets (Builtin.«tuple.__mul__» ⟨[.ref l, .int 1 u], []⟩) (fun _ R s => s.heap.get? l = some { cls := .type "tuple", dict := dd, data := .seq items n, slots := sl } ∧ R (.ok (.ret (.ref l))) s) :=
  .of_wp fun prog w A R s h => by
    obtain ⟨hp, g, d, tk, os⟩ := s
    obtain ⟨hl, h⟩ := h
    have f1 := AutoSeq1.idx_int
    wp_walk using wpAny_loadPart' hl
    exact ⟨_, rfl, h⟩
section
variable {X : Cx} {κ : Kap} {W : WX} {mg : Str → Option Value} {base : Heap} {k : Nat} {N : List Str} {sc : Scope} {own : Str → Bool} {tg e a b : Expr} {es : List Expr} {f fa fb : EV} {fs : AV} {pos p p1 p2 : Pos} {x : Str} {i : Nat}
theorem op_once : OpR X (binaryOp .Mult) (fun x y H Q => ∃ (l : Addr) (xs : List V), x = V.ref l ∧ y = V.int 1 ∧ SqT X.K H l xs ∧ Q x H) := by
  intro pins s σ H x y v u Q I rx ry h
  obtain ⟨l, xs, rfl, rfl, hT, q⟩ := h
  cases rx
  obtain ⟨t, rfl⟩ := ry
  obtain ⟨its, r, ⟨⟨cls, dd, data, sl⟩, ho, hc, n, hd⟩, hs⟩ := I.tuple hT
  simp only at hc hd
  subst hc hd
  refine wpAny_binaryOp_repeat_ref (T := "tuple") (U := "int") (by decide) ⟨_, ho, rfl⟩ (fun z => typeIs_int z 1 t) noFill_tuple_mul F.fills_int_mul F.slot_int_rmul repeat_tuple F.slot_int_index.lookup
    (call_meets F.slot_int_rmul (typeIs_int s 1 t) F.entry_int_rmul (F.args_int_rmul_2 _ _) (int_rmul_tuple 1 t l its.toArray n dd sl) ⟨ho, rfl, ⟨_, ho, rfl⟩,
      call_meets F.slot_tuple_mul ⟨_, ho, rfl⟩ F.entry_tuple_mul (F.args_tuple_mul_2 _ _) (tup_once l its.toArray n dd sl t) ⟨ho, ?_⟩⟩)
  exact ⟨.ref l, H, I, rfl, q⟩
def mulE (x y : D) : Option D := match x, y with
  | .tup ds, .int 1 => some (.tup ds)
  | x, y => mulD x y
@[simp] theorem mulE_one {ds : List D} : mulE (.tup ds) (.int 1) = some (.tup ds) := (rfl)
theorem o_mulE (hK : X.K = κ.K) : OpR X (binaryOp .Mult) (rG κ (PX κ) mulE) := OpR_of fun dx dy d e => by
  unfold mulE at e
  split at e
  · cases e
    exact OpR_weak op_once fun x y H Q ⟨H0, E, bx, bY, q⟩ => by
      cases bY.flat (fun _ _ h => h)
      have r := bx.flat (fun _ _ h => h)
      cases r with
      | tup ea ra => exact ⟨_, _, rfl, rfl, by rw [hK]; exact SqT.of (E _ _ ea), q _ _ _ (.refl E) (.tup ea ra)⟩
  · exact OpR_weak (o_mul hK) fun x y H Q ⟨H0, E, bx, bY, q⟩ => ⟨H0, _, _, E, bx, bY, by
      rw [e]; exact q⟩
theorem g_mulE (G : Good X κ W mg base k N sc own) (ha : PE X a (tP κ W (PB κ) fa)) (hb : PE X b (tP κ W (PB κ) fb)) : PE X (.BinOp a .Mult b pos) (tP κ W (PX κ) (e2 mulE fa fb)) :=
  n_bin pmX (o_mulE G.hK) ha hb
/-! ### extend, insert -/
def gExt (xs ds : List D) : Option (List D) := match ds with
  | [.lst ys] => if xs.length + ys.length ≤ LIM then some (xs ++ ys) else none
  | _ => none
theorem r_ext (a : Addr) (vs us : List V) (xs ds ys : List D) (H0 H : Hp) (Q : VK) (E : Ex H0 H) (ea : H a = some (.lst vs)) (r : Reps κ H0 vs xs) (ru : Reps κ H0 us ds) (h : gExt xs ds = some ys)
    (q : ∀ w ws, Reps κ H0 ws ys → Q w (upd H a (.lst ws))) : rExtend (.ref a) us H Q := by
  unfold gExt at h
  split at h
  · rename_i zs
    split at h
    · rename_i hz
      cases h
      cases ru with
      | cons r1 r2 =>
        cases r2
        cases r1 with
        | lst eb rb => exact ⟨_, _, _, _, rfl, rfl, ea, E _ _ eb, by rw [r.length, rb.length, lim_eq]; exact hz, q _ _ (r.append rb)⟩
    · cases h
  · cases h
def gIns (xs ds : List D) : Option (List D) := match ds with
  | [.int i, d] => if 0 ≤ i ∧ i < 2 ^ 63 ∧ xs.length < LIM then some (xs.take i.toNat ++ [d] ++ xs.drop i.toNat) else none
  | _ => none
theorem r_ins (a : Addr) (vs us : List V) (xs ds ys : List D) (H0 H : Hp) (Q : VK) (E : Ex H0 H) (ea : H a = some (.lst vs)) (r : Reps κ H0 vs xs) (ru : Reps κ H0 us ds) (h : gIns xs ds = some ys)
    (q : ∀ w ws, Reps κ H0 ws ys → Q w (upd H a (.lst ws))) : (fun x vs H Q => ∃ (l : Addr) (xs : List V) (i : Int) (y : V), x = V.ref l ∧ vs = [V.int i, y] ∧ H l = some (.lst xs) ∧ xs.length < sizeLine ∧ 0 ≤ i ∧ i < 2 ^ 63 ∧
    Q V.non (upd H l (.lst (xs.take i.toNat ++ [y] ++ xs.drop i.toNat)))) (V.ref a) us H Q := by
  unfold gIns at h
  split at h
  · rename_i i d
    split at h
    · rename_i hz
      cases h
      cases ru with
      | cons r1 r2 =>
        cases r2 with
        | cons r2 r3 =>
          cases r1; cases r3
          exact ⟨_, _, i, _, rfl, rfl, ea, by rw [r.length, lim_eq]; exact hz.2.2, hz.1, hz.2.1, q _ _ (((r.take _).append (.cons r2 .nil)).append (r.drop _))⟩
    · cases h
  · cases h
theorem g_ext {apos : Pos} (G : Good X κ W mg base k N sc own) (h : ckV N sc i x = true) (ck : ckM (.Name x p) apos p1 e es = true) (ha : PA X (e :: es) (tA κ W (PLR κ) fs)) :
    PS X (.Expr (.Call (.Attribute (.Name x p) "extend" apos) (e :: es) [] p1) pos) (tS κ W (sMut gExt i fs)) := by
  simp only [ckV, Bool.and_eq_true, decide_eq_true_eq] at h
  obtain ⟨h1, h2, h3⟩ := h
  obtain ⟨k1, k2, k3, k4⟩ := ckM_of ck
  exact n_mut G.hK PySem.F.slot_list_extend PySem.F.type_list_extend mt_extend r_ext (G.nth h1) (by rw [G.hs]; exact vis_of h2) (nodbg_of h3).1 (nodbg_of h3).2.1 ha (base_of k1) (fewArgs k3 k4) k2 (starEach_cons (stars1 k3)) (noStars (stars2 k3)) (sw_of rfl)
theorem g_ins {apos : Pos} (G : Good X κ W mg base k N sc own) (h : ckV N sc i x = true) (ck : ckM (.Name x p) apos p1 e es = true) (ha : PA X (e :: es) (tA κ W (PLR κ) fs)) :
    PS X (.Expr (.Call (.Attribute (.Name x p) "insert" apos) (e :: es) [] p1) pos) (tS κ W (sMut gIns i fs)) := by
  simp only [ckV, Bool.and_eq_true, decide_eq_true_eq] at h
  obtain ⟨h1, h2, h3⟩ := h
  obtain ⟨k1, k2, k3, k4⟩ := ckM_of ck
  exact n_mut G.hK PySem.F.slot_list_insert PySem.F.type_list_insert mt_insert r_ins (G.nth h1) (by rw [G.hs]; exact vis_of h2) (nodbg_of h3).1 (nodbg_of h3).2.1 ha (base_of k1) (fewArgs k3 k4) k2 (starEach_cons (stars1 k3)) (noStars (stars2 k3)) (sw_of rfl)
/-! ### reversed(range(a, b)) -/
theorem itc_ok {H0 : Hp} {lo c : Int} {n : Nat} : ItOk κ (Itc lo c n) H0 ((List.range n).map fun i => .int (lo + (i : Nat) * c)) := fun H E i => by
  refine ⟨fun d hd => ?_, fun hl => by show n ≤ i; simpa using hl⟩
  rw [List.getElem?_map] at hd
  by_cases hi : i < n
  · rw [List.getElem?_range hi] at hd
    cases hd
    exact ⟨hi, fun x H' ⟨e1, e2⟩ => ⟨e1, by subst e2; exact .int _⟩⟩
  · rw [List.getElem?_eq_none (by simpa using hi)] at hd
    cases hd
def revRD (x y : D) : R (List D) := match x, y with
  | .int i, .int j => if -(2 ^ 62) ≤ i ∧ i < 2 ^ 62 ∧ -(2 ^ 62) ≤ j ∧ j < 2 ^ 62 then .ok ((List.range (j - i).toNat).map fun (k : Nat) => .int (i + (((j - i).toNat : Nat) : Int) - 1 + (k : Int) * (-1))) else .er
  | _, _ => .er
def eRevR (fa fb : EV) : AV := fun ρ => (fa ρ).bind fun x => (fb ρ).bind fun y => revRD x y
@[simp] theorem eRevR_ap {ρ : List B} : eRevR fa fb ρ = (fa ρ).bind fun x => (fb ρ).bind fun y => revRD x y := (rfl)
theorem g_revR {p3 pos3 : Pos} (G : Good X κ W mg base k N sc own) (hm : mg "range" = none) (hm2 : mg "reversed" = none) (h : ckG sc "range" = true) (h2 : ckG sc "reversed" = true) (st : isStar a = false) (st2 : isStar b = false) (ha : PE X a (tP κ W (PR κ) fa)) (hb : PE X b (tP κ W (PR κ) fb)) :
    PI X tg (.Call (.Name "reversed" p) [.Call (.Name "range" p3) [a, b] [] pos3] [] pos) (tI κ W (eRevR fa fb)) := by
  refine PI_weak (pi_revR (G.gl h2) (by rw [G.hm]; exact hm2) (prg_2 (G.gl h) (by rw [G.hm]; exact hm) ha hb (starEach_cons st) (starEach_cons st2) (noStars (by rw [List.all_cons, st2]; rfl))) (starEach_cons rfl)) fun σ H Q ⟨ρ, H0, E, S, q⟩ => ?_
  have q : FinI κ W σ H0 H ((fa ρ).bind fun x => (fb ρ).bind fun y => revRD x y) Q := q
  refine tP_mono (fun v H1 z => ?_) (finI_bind (P := PR κ) E S q)
  obtain ⟨H01, d, g, r, z⟩ := z
  refine tP_mono (fun v2 H2 z => ?_) (finI_bind (P := PR κ) g.c (S.grow g) z)
  obtain ⟨H02, d2, g2, r2, z⟩ := z
  have r : Rep κ H01 v d := r
  have r2 : Rep κ H02 v2 d2 := r2
  unfold revRD at z
  split at z
  · split at z
    · rename_i hz
      cases r; cases r2
      exact ⟨_, _, rfl, rfl, hz.1, hz.2.1, hz.2.2.1, hz.2.2.2, z _ H02 H2 (.refl g2.c) itc_ok⟩
    · exact z.elim
  · exact z.elim
end
end QY

/-! Walk.__init__. -/
namespace QY
open PySem PySem.Spec PyProof.Rows L2
def WF : List Str := ["letters", "tiles", "edge"]
def noOw (ρ : List B) : Bool := ρ.all fun b => match b with
  | .ow _ => false
  | _ => true
theorem noOw_at {ρ : List B} (h : noOw ρ = true) {i : Nat} {d : D} (e : ρ[i]? = some (B.ow d)) : False := by
  have := List.all_eq_true.mp h _ (List.mem_of_getElem? e)
  cases this
theorem Slots.any {κ : Kap} {H0 H H' : Hp} {σ : L2.St} {ρ : List B} (S : Slots κ H0 H σ ρ) (h : noOw ρ = true) : Slots κ H0 H' σ ρ where
  len := S.len
  fz := S.fz
  ow := fun i d e => (noOw_at h e).elim
  ap := fun i j d e a _ h1 _ _ _ => (noOw_at h h1).elim
/-- a dict of all of some data -/
def putAll : List D → List D → List D → Option (List D × List D)
  | [], ks, vs => some (ks, vs)
  | t :: r, ks, vs => (putE ks vs t (.bl true)).bind fun p => putAll r p.1 p.2
/-- the frame behind the loop -/
def lastT : List D → List B → List B
  | [], ρ => ρ
  | t :: r, ρ => lastT r (ρ.set 3 (.fz t))
def isPtr (x : Addr) : Option B → Bool
  | some (.fz (.ptr y)) => y == x
  | _ => false
def semW0 (x : Addr) (a1 a2 : SV) (fL : EV) (fI : AV) (fE : EV) (ρ : List B) : R D := match a1 ρ with
  | .ex c vs _ => .ex c vs
  | .nx ρ1 => (match a2 ρ1 with
    | .ex c vs _ => .ex c vs
    | .nx ρ2 => if isPtr x ρ2[0]? && (noOw ρ2 && decide (3 < ρ2.length)) then (okR (fL ρ2)).bind fun L => (noX (fI ρ2)).bind fun ts => (R.of (putAll ts [] [])).bind fun p => (okR (fE (lastT ts ρ2))).bind fun e => .ok (.obj 0 [L, .dct p.1 p.2, e]) else .er
    | _ => .er)
  | _ => .er
def FinW (κ : Kap) (W : WX) (D : Ends) (x : Addr) (H0 H : Hp) : R QY.D → Prop
  | .ok d => ∀ σ' H0' H', IG x H0 H H0' H' → Rep κ H0' (.ref x) d → D.nx σ' H'
  | .ex c vs => ∀ σ' dy H0' H', Grow H0 H H0' H' → ExD κ H0' dy vs → W (.ref (κ.exc c)) dy σ' H'
  | .er => False
def tWI (κ : Kap) (W : WX) (a1 a2 : SV) (fL : EV) (fI : AV) (fE : EV) : TS := fun D σ H => ∃ (x dx : Addr) (ρ : List B) (H0 : Hp), ρ[0]? = some (.fz (.ptr x)) ∧ H x = some (.ins (κ.cls 0) dx []) ∧ H0 x = none ∧ Ex H0 H ∧ Slots κ H0 H σ ρ ∧ noOw ρ = true ∧ FinW κ W D x H0 H (semW0 x a1 a2 fL fI fE ρ)
theorem ptr_at {κ : Kap} {H0 H : Hp} {σ : L2.St} {ρ : List B} {x : Addr} (S : Slots κ H0 H σ ρ) (h : isPtr x ρ[0]? = true) : σ[0]? = some (some (V.ref x)) := by
  cases e : ρ[0]? with
  | none => rw [e] at h; cases h
  | some b =>
    rw [e] at h
    cases b with
    | fz d =>
      cases d with
      | ptr y =>
        obtain rfl : y = x := by simpa [isPtr] using h
        obtain ⟨v, hv, r⟩ := S.fz 0 _ e
        cases r
        exact hv
      | _ => cases h
    | _ => cases h
theorem ptr_set {x : Addr} {ρ : List B} {t : D} (h : isPtr x ρ[0]? = true) : isPtr x (ρ.set 3 (.fz t))[0]? = true := by
  rw [List.getElem?_set_ne (by decide)]; exact h
theorem noOw_set {ρ : List B} {t : D} {i : Nat} (h : noOw ρ = true) : noOw (ρ.set i (.fz t)) = true := by
  refine List.all_eq_true.mpr fun b hb => ?_
  rcases List.mem_or_eq_of_mem_set hb with h1 | rfl
  · exact List.all_eq_true.mp h b h1
  · rfl
theorem ne_lt : ¬ (("letters" : Str) = "tiles") := by decide +kernel
theorem ne_le : ¬ (("letters" : Str) = "edge") := by decide +kernel
theorem ne_te : ¬ (("tiles" : Str) = "edge") := by decide +kernel
theorem flds1 (a : V) : putF "letters" a [] = [(("letters" : Str), a)] := (rfl)
theorem flds2 (a b : V) : putF "tiles" b [(("letters" : Str), a)] = [(("letters" : Str), a), ("tiles", b)] := by
  show (if ("letters" : Str) = "tiles" then _ else (("letters" : Str), a) :: putF "tiles" b []) = _
  rw [if_neg ne_lt]; rfl
theorem flds3 (a b c : V) : putF "edge" c [(("letters" : Str), a), ("tiles", b)] = [(("letters" : Str), a), ("tiles", b), ("edge", c)] := by
  show (if ("letters" : Str) = "edge" then _ else (("letters" : Str), a) :: (if ("tiles" : Str) = "edge" then _ else (("tiles" : Str), b) :: putF "edge" c [])) = _
  rw [if_neg ne_le, if_neg ne_te]; rfl
theorem look2 (a b : V) : ([(("letters" : Str), a), ("tiles", b)] : List (Str × V)).lookup ("tiles" : Str) = some b := by
  rw [List.lookup_cons, show (("tiles" : Str) == "letters") = false from beq_eq_false_iff_ne.mpr fun e => ne_lt e.symm]
  simp [List.lookup]
/-- the heaps and the frame within the loop -/
def WS (κ : Kap) (x d dx : Addr) (vL : V) (L : D) (H0 H A5 : Hp) (σ : L2.St) (Bh : Hp) (ρ : List B) (ks vs : List D) : Prop := ∃ (A : Hp) (xs : List (NestedKey × Addr × V)), Ex A5 A ∧ IG x H0 H A Bh ∧ Slots κ A Bh σ ρ ∧ noOw ρ = true ∧ isPtr x ρ[0]? = true ∧ 3 < ρ.length ∧ A x = none ∧ A d = none ∧
  Bh x = some (.ins (κ.cls 0) dx [(("letters" : Str), vL), ("tiles", .ref d)]) ∧ Bh d = some (.ext (DPhi κ d xs)) ∧ Reps κ A (xs.map fun x => V.ref x.2.1) ks ∧ Reps κ A (xs.map fun x => x.2.2) vs ∧ ks.map nk = xs.map (fun x => some x.1) ∧ Rep κ A vL L
section
variable {X : Cx} {κ : Kap} {W : WX} {mg : Str → Option Value} {base : Heap} {k : Nat} {N : List Str} {sc : Scope} {own : Str → Bool} {s1 s2 : Stmt} {eL eI eE tg : Expr} {a1 a2 : SV} {fL fE : EV} {fI : AV}
theorem walk_init {q1 q2 q3 q4 q5 q6 q7 q8 q9 q10 q11 q12 q13 q14 q15 q16 q17 : Pos} {j : Nat} (G : Good X κ W mg base k N sc own) (hp : PassesOwn (model X.prog X.w) X.A X.env X.xe) (F : ObjF κ 0 WF) (v0 : ∀ p, PE X (.Name "self" p) (tVar 0)) (v3 : ∀ p, PE X (.Name "tile" p) (tP κ W (PR κ) (eVar 3)))
    (p1 : PS X s1 (tS κ W a1)) (p2 : PS X s2 (tS κ W a2)) (pL : PE X eL (tP κ W (PR κ) fL)) (hL : isLcs eL = false) (pI : PI X tg eI (tI κ W fI)) (gT : PG X tg (tG κ (.nm 3))) (hI : isSet eI = false) (pE : PE X eE (tP κ W (PR κ) fE)) (hE : isLcs eE = false) :
    PSs X [s1, s2, .Assign [.Attribute (.Name "self" q1) "letters" q2] eL q3, .Assign [.Attribute (.Name "self" q4) "tiles" q5] (.Dict [] [] q6) q7,
      .For tg eI [.Assign [.Subscript (.Attribute (.Name "self" q8) "tiles" q9) (.Name "tile" q10) q11] (.Constant (.bool true) j q12) q13] [] q14, .Assign [.Attribute (.Name "self" q15) "edge" q16] eE q17] (tWI κ W a1 a2 fL fI fE) := by
  have nL : NoAttr X.K (κ.cls 0) "letters" := by rw [G.hK]; exact F.na _ (by decide)
  have nT : NoAttr X.K (κ.cls 0) "tiles" := by rw [G.hK]; exact F.na _ (by decide)
  have nE : NoAttr X.K (κ.cls 0) "edge" := by rw [G.hK]; exact F.na _ (by decide)
  have cl : Cls X.K (κ.cls 0) := by rw [G.hK]; exact F.cl
  refine PSs_weak (pss_cons p1 (pss_cons p2 (pss_cons (ps_fld (v0 q1) pL (sw_of hL)) (pss_cons (ps_fld (v0 q4) (n_dnew (κ := κ) (W := W)) (sw_of rfl))
    (pss_cons (ps_for hp G.calm pI gT (pss_one (ps_asg (g_bl (κ := κ) (W := W)) (pg_sub (pe_fld (v0 q8) (base_of rfl)) (v3 q10) (set_N G.hP G.hw G.un) (asg_sub rfl)) (swS_of rfl) rfl)) (folded_of hI)) (pss_one (ps_fld (v0 q15) pE (sw_of hE)))))))) fun D σ H ⟨x, dx, ρ, H0, hx0, hx, h0x, E, S, no, q⟩ => ?_
  refine ⟨ρ, H0, H0, H, H0, ⟨.refl _, Grow.refl E, S, fun i d a h _ => (noOw_at no h).elim⟩, ?_⟩
  unfold semW0 at q
  cases e1 : a1 ρ with
  | ex c vs ρ' => rw [e1] at q; exact fun σ' A B' dy s p => q σ' dy A B' s.g p
  | bk ρ' => rw [e1] at q; exact q.elim
  | ct ρ' => rw [e1] at q; exact q.elim
  | rt d fr => rw [e1] at q; exact q.elim
  | rw d ρ' => rw [e1] at q; exact q.elim
  | er => rw [e1] at q; exact q.elim
  | nx ρ1 =>
    rw [e1] at q
    intro σ1 A1 B1 S1
    refine ⟨ρ1, H0, H0, H, A1, S1, ?_⟩
    simp only at q
    cases e2 : a2 ρ1 with
    | ex c vs ρ' => rw [e2] at q; exact fun σ' A B' dy s p => q σ' dy A B' s.g p
    | bk ρ' => rw [e2] at q; exact q.elim
    | ct ρ' => rw [e2] at q; exact q.elim
    | rt d fr => rw [e2] at q; exact q.elim
    | rw d ρ' => rw [e2] at q; exact q.elim
    | er => rw [e2] at q; exact q.elim
    | nx ρ2 =>
      rw [e2] at q
      intro σ2 A2 B2 S2
      simp only at q
      by_cases hc : (isPtr x ρ2[0]? && (noOw ρ2 && decide (3 < ρ2.length))) = true
      · rw [if_pos hc] at q
        obtain ⟨hpt, hc2⟩ := Bool.and_eq_true_iff.mp hc
        obtain ⟨hno, hlen⟩ := Bool.and_eq_true_iff.mp hc2
        have hlen : 3 < ρ2.length := of_decide_eq_true hlen
        have ig2 : IG x H0 H A2 B2 := IG.of S2.g
        have hx2 : B2 x = some (.ins (κ.cls 0) dx []) := S2.g.b x _ hx
        have n2 : A2 x = none := S2.g.d x _ hx h0x
        have sl2 := S2.s
        -- self.letters = e
        cases eL' : fL ρ2 with
        | ex c vs => rw [eL'] at q; exact q.elim
        | er => rw [eL'] at q; exact q.elim
        | ok L =>
          rw [eL'] at q
          have q : FinW κ W D x H0 H ((noX (fI ρ2)).bind fun ts => (R.of (putAll ts [] [])).bind fun p => (okR (fE (lastT ts ρ2))).bind fun e => .ok (.obj 0 [L, .dct p.1 p.2, e])) := q
          refine ⟨ρ2, A2, ig2.c, sl2, ?_⟩
          rw [eL']
          intro vL A3 B3 g3 rL
          have rL : Rep κ A3 vL L := rL
          have hx3 : B3 x = some (.ins (κ.cls 0) dx []) := g3.b x _ hx2
          have n3 : A3 x = none := g3.d x _ hx2 n2
          have ig3 := (ig2.grow g3).put (o := .ins (κ.cls 0) dx [(("letters" : Str), vL)]) n3 (.inl rfl)
          have sl3 : Slots κ A3 (upd B3 x (.ins (κ.cls 0) dx [(("letters" : Str), vL)])) σ2 ρ2 := (sl2.grow g3).any hno
          refine ⟨_, ptr_at sl2 hpt, x, _, dx, [], rfl, hx3, cl, nL, by decide, ?_⟩
          rw [flds1]
          -- self.tiles = {}
          refine ⟨ρ2, A3, ig3.c, sl3, ?_⟩
          intro vd A4 B4 g4 pd
          obtain ⟨d, rfl, hd0, hd, od⟩ := pd
          have hxB : (upd B3 x (.ins (κ.cls 0) dx [(("letters" : Str), vL)])) x = some (.ins (κ.cls 0) dx [(("letters" : Str), vL)]) := upd_same
          have hx4 : B4 x = some (.ins (κ.cls 0) dx [(("letters" : Str), vL)]) := g4.b x _ hxB
          have n4 : A4 x = none := g4.d x _ hxB n3
          have ndx : d ≠ x := fun z => by rw [z, hxB] at hd0; cases hd0
          have hdH : H d = none := by
            cases e : H d with
            | none => rfl
            | some o =>
              have := ig3.b d o e ndx
              rw [hd0] at this; cases this
          obtain ⟨xs0, ed, r0k, r0v, r0e⟩ := od
          have ig4 := (ig3.grow g4).put (o := .ins (κ.cls 0) dx [(("letters" : Str), vL), ("tiles", .ref d)]) n4 (.inl rfl)
          have sl4 : Slots κ A4 (upd B4 x (.ins (κ.cls 0) dx [(("letters" : Str), vL), ("tiles", .ref d)])) σ2 ρ2 := (sl3.grow g4).any hno
          refine ⟨_, ptr_at sl2 hpt, x, _, dx, _, rfl, hx4, cl, nT, by show 1 < 1000; decide, ?_⟩
          rw [flds2]
          -- for tile in ..
          refine ⟨ρ2, A4, ig4.c, sl4, ?_⟩
          cases eI' : fI ρ2 with
          | ex c vs => rw [eI'] at q; exact q.elim
          | er => rw [eI'] at q; exact q.elim
          | ok ts =>
            rw [eI'] at q
            have q : FinW κ W D x H0 H ((R.of (putAll ts [] [])).bind fun p => (okR (fE (lastT ts ρ2))).bind fun e => .ok (.obj 0 [L, .dct p.1 p.2, e])) := q
            intro J A5 B5 g5 jok
            have hx5 : B5 x = some (.ins (κ.cls 0) dx [(("letters" : Str), vL), ("tiles", .ref d)]) := g5.b x _ upd_same
            have hdB : (upd B4 x (.ins (κ.cls 0) dx [(("letters" : Str), vL), ("tiles", .ref d)])) d = some (.ext (DPhi κ d xs0)) := by rw [upd_ne ndx]; exact ed
            have hd5 : B5 d = some (.ext (DPhi κ d xs0)) := g5.b d _ hdB
            have n5 : A5 x = none := g5.d x _ upd_same n4
            have nd5 : A5 d = none := g5.d d _ hdB hd
            have ig5 := ig4.grow g5
            have sl5 := sl4.grow g5
            have rL5 : Rep κ A5 vL L := rL.mono (g4.a.trans g5.a)
            refine ⟨fun i m σ Bh => m = ts.length - i ∧ i ≤ ts.length ∧ ∃ (ρi : List QY.B) (ks vs : List QY.D), WS κ x d dx vL L H0 H A5 σ Bh ρi ks vs ∧ FinW κ W D x H0 H ((R.of (putAll (ts.drop i) ks vs)).bind fun p => (okR (fE (lastT (ts.drop i) ρi))).bind fun e => .ok (.obj 0 [L, .dct p.1 p.2, e])),
              ⟨ts.length, by simp, Nat.zero_le _, ρ2, [], [], ⟨A5, xs0, .refl _, ig5, sl5, hno, hpt, hlen, n5, nd5, hx5, hd5, r0k.mono g5.a, r0v.mono g5.a, r0e, rL5⟩, q⟩, ?_⟩
            rintro i m σ Bh ⟨rfl, hi, ρi, ks, vs, ⟨Ai, xs, ex5, ig, sl, no', pt', len', nx, nd, hxi, hdi, r1, r2, r3, rLi⟩, qi⟩
            by_cases hlt : i < ts.length
            · obtain ⟨hgo, hyl⟩ := (jok Bh (ex5.trans ig.c) i).1 ts[i] (List.getElem?_eq_getElem hlt)
              rw [List.drop_eq_getElem_cons hlt] at qi
              refine .inr ⟨hgo, fun σ Bh => i + 1 ≤ ts.length ∧ ∃ (ρi : List QY.B) (ks vs : List QY.D), WS κ x d dx vL L H0 H A5 σ Bh ρi ks vs ∧ FinW κ W D x H0 H ((R.of (putAll (ts.drop (i + 1)) ks vs)).bind fun p => (okR (fE (lastT (ts.drop (i + 1)) ρi))).bind fun e => .ok (.obj 0 [L, .dct p.1 p.2, e])),
                fun σ' H' ⟨h1, h2⟩ => ⟨ts.length - (i + 1), by omega, rfl, h1, h2⟩, fun xv B3' hy => ?_⟩
              obtain ⟨e3, rx⟩ := hyl xv B3' hy
              subst e3
              refine ⟨ρi, Ai, ts[i], _, ig.c, sl, rx.mono ex5, rfl, fun σ' S' o _ => ?_⟩
              have no2 : noOw (ρi.set 3 (.fz ts[i])) = true := noOw_set no'
              have pt2 : isPtr x (ρi.set 3 (.fz ts[i]))[0]? = true := ptr_set pt'
              refine ⟨ρi.set 3 (.fz ts[i]), Ai, ig.c, S', fun vb A6 B6 g6 rb => ?_⟩
              have rb : Rep κ A6 vb (.bl true) := rb
              have hx6 : B6 x = some (.ins (κ.cls 0) dx [(("letters" : Str), vL), ("tiles", .ref d)]) := g6.b x _ hxi
              refine ⟨_, ptr_at S' pt2, x, _, dx, _, _, rfl, hx6, cl, nT, look2 _ _, ?_⟩
              have ev : eVar 3 (ρi.set 3 (.fz ts[i])) = .ok ts[i] := by
                unfold eVar
                rw [List.getElem?_set_self len']
              refine ⟨ρi.set 3 (.fz ts[i]), A6, g6.c, S'.grow g6, ?_⟩
              rw [ev]
              intro vt A7 B7 g7 rt
              have rt : Rep κ A7 vt ts[i] := rt
              have g67 := g6.trans g7
              have hx7 := g7.b x _ hx6
              have hd7 := g67.b d _ hdi
              have nx7 : A7 x = none := g67.d x _ hxi nx
              have nd7 : A7 d = none := g67.d d _ hdi nd
              have qi : FinW κ W D x H0 H ((R.of ((putE ks vs ts[i] (.bl true)).bind fun p => putAll (ts.drop (i + 1)) p.1 p.2)).bind fun p => (okR (fE (lastT (ts.drop (i + 1)) (ρi.set 3 (.fz ts[i]))))).bind fun e => .ok (.obj 0 [L, .dct p.1 p.2, e])) := qi
              cases ep : putE ks vs ts[i] (.bl true) with
              | none => rw [ep] at qi; exact qi.elim
              | some pr =>
                rw [ep] at qi
                unfold putE at ep
                cases ek : keyD ts[i] with
                | none => rw [ek] at ep; cases ep
                | some kk =>
                  rw [ek] at ep
                  have ep : (if okKeys ks && decide (ks.length < LIM) then some (putKs kk ts[i] ks, putVs kk (.bl true) ks vs) else none) = some pr := ep
                  split at ep
                  · rename_i hk
                    cases ep
                    obtain ⟨hk1, hk2⟩ := Bool.and_eq_true_iff.mp hk
                    have hl : xs.length < LIM := by
                      have e := congrArg List.length r3
                      rw [List.length_map, List.length_map] at e
                      rw [← e]; exact of_decide_eq_true hk2
                    refine ⟨A7, d, xs, ks, vs, ts[i], kk, .bl true, g7.c, rfl, hd7, r1.mono g67.a, r2.mono g67.a, r3, hk1, rt, ek, rb.mono g7.a, hl, fun xs' t1 t2 t3 => ⟨hlt, ρi.set 3 (.fz ts[i]), _, _, ⟨A7, xs', ex5.trans g67.a, (ig.grow g67).put nd7 (.inr hdH), (S'.grow g67).any no2, no2, pt2, by rw [List.length_set]; exact len', nx7, nd7, ?_, upd_same, t1, t2, t3, rLi.mono g67.a⟩, qi⟩⟩
                    rw [upd_ne (Ne.symm ndx)]; exact hx7
                  · cases ep
            · obtain rfl : i = ts.length := by omega
              rw [List.drop_length] at qi
              have qi : FinW κ W D x H0 H ((okR (fE ρi)).bind fun e => .ok (.obj 0 [L, .dct ks vs, e])) := qi
              refine .inl ⟨(jok Bh (ex5.trans ig.c) ts.length).2 (Nat.le_refl _), ?_⟩
              refine ⟨ρi, Ai, ig.c, sl, ?_⟩
              cases eE' : fE ρi with
              | ex c vs => rw [eE'] at qi; exact qi.elim
              | er => rw [eE'] at qi; exact qi.elim
              | ok de =>
                rw [eE'] at qi
                intro ve A8 B8 g8 re
                have re : Rep κ A8 ve de := re
                have hx8 := g8.b x _ hxi
                have hd8 := g8.b d _ hdi
                have nx8 : A8 x = none := g8.d x _ hxi nx
                have nd8 : A8 d = none := g8.d d _ hdi nd
                refine ⟨_, ptr_at sl pt', x, _, dx, _, rfl, hx8, cl, nE, by show 2 < 1000; decide, ?_⟩
                rw [flds3]
                have i1 := (ig.grow g8).put (o := .ins (κ.cls 0) dx [(("letters" : Str), vL), ("tiles", .ref d), ("edge", ve)]) nx8 (.inl rfl)
                have hdU : (upd B8 x (.ins (κ.cls 0) dx [(("letters" : Str), vL), ("tiles", .ref d), ("edge", ve)])) d = some (.ext (DPhi κ d xs)) := by rw [upd_ne ndx]; exact hd8
                have i2 := i1.frz nd8 hdU (.inr hdH)
                have nx9 : (upd A8 d (.ext (DPhi κ d xs))) x = none := by rw [upd_ne (Ne.symm ndx)]; exact nx8
                have i3 := i2.frz nx9 upd_same (.inl rfl)
                have m1 : Ex A8 (upd A8 d (.ext (DPhi κ d xs))) := Ex.new nd8
                have m2 : Ex (upd A8 d (.ext (DPhi κ d xs))) (upd (upd A8 d (.ext (DPhi κ d xs))) x (.ins (κ.cls 0) dx [(("letters" : Str), vL), ("tiles", .ref d), ("edge", ve)])) := Ex.new nx9
                have m3 := m1.trans m2
                refine qi σ _ _ i3 (.obj (vs := [vL, .ref d, ve]) (by rw [F.fl]; exact upd_same) (by rw [F.fl]; rfl) (.cons (rLi.mono (g8.a.trans m3)) (.cons (.dct ((upd_ne ndx).trans upd_same) (r1.mono (g8.a.trans m3)) (r2.mono (g8.a.trans m3)) r3) (.cons (re.mono m3) .nil))))
      · rw [if_neg hc] at q; exact q.elim
end
/-! ### methods and classes as facts -/
section
variable {κ : Kap} {mg : Str → Option Value} {base : Heap} {N ps : List Str} {k n c : Nat} {x y qual : Str} {st : Stmt} {f : Addr} {fd : FuncData}
theorem mc_of {m : SV} {fr : Bool} (F : Fun κ.K y qual st f fd) (M : Meth κ.K (κ.cls c) y f) (S : FnScope N ps (defScope st)) (hp : ps.length = n) (bd : Binds κ.K fd ps [])
    (hb : ∀ (X : Cx) (W : WX), Good X κ W mg base k N (defScope st) (fun _ => true) → PassesOwn (model X.prog X.w) X.A X.env X.xe → Top X → PSs X (defBody st) (tS κ W m)) :
    Mc κ mg base (k + 1) c y fr n (fun ds => if ds.length = n then (if fr then finX (m (env0 N ds)) else fin (m (env0 N ds))) else .er) := by
  refine ⟨f, fd, ps, fn_ok (fun _ => m) F S hp (fun cdv A outer s H E ds hr => hb _ _ (good_of S hr) (passes_of rfl) ⟨rfl, rfl, rfl⟩) (fun ds hl => ?_), M, bd⟩
  cases fr with
  | false => exact .inr ⟨by rw [if_pos hl]; rfl, fun z => by cases z⟩
  | true =>
    rw [if_pos hl, if_pos rfl]
    cases e : m (env0 N ds) with
    | rt d b =>
      by_cases hd : (b || !isL d) = true
      · refine .inr ⟨by show (if (b || !isL d) = true then R.ok d else .er) = _; rw [if_pos hd]; rfl, fun _ d' b' z => ?_⟩
        cases z
        simpa using hd
      · exact .inl (by show (if (b || !isL d) = true then R.ok d else .er) = _; rw [if_neg hd])
    | nx ρ => exact .inr ⟨rfl, fun _ d b z => by cases z⟩
    | ex c vs ρ => exact .inr ⟨rfl, fun _ d b z => by cases z⟩
    | bk ρ => exact .inl rfl
    | ct ρ => exact .inl rfl
    | er => exact .inl rfl
    | rw d ρ => exact .inl rfl
theorem kc_of {a1 a2 : SV} {fL fE : EV} {fI : AV} {sem : List D → R D} (F : Fun κ.K "__init__" qual st f fd) (M : Mk κ.K (κ.cls 0) f) (hm : mg x = some (.ref (κ.cls 0))) (S : FnScope N ps (defScope st)) (hp : ps.length = n + 1) (bd : Binds κ.K fd ps [])
    (hb : ∀ (X : Cx) (W : WX), Good X κ W mg base k N (defScope st) (fun _ => true) → PassesOwn (model X.prog X.w) X.A X.env X.xe → Top X → PSs X (defBody st) (tWI κ W a1 a2 fL fI fE))
    (hs : ∀ a ds, ds.length = n → sem ds = .er ∨ semW0 a a1 a2 fL fI fE (env0 N (.ptr a :: ds)) = sem ds) : Kc κ mg base (k + 1) 0 x n (fun ds => if ds.length = n then sem ds else .er) := by
  refine ⟨f, fd, ps, fun a ds => if ds.length = n then semW0 a a1 a2 fL fI fE (env0 N (.ptr a :: ds)) else .er, F.okX S (fun vs H Q E h => ?_) (fun cdv A outer s H vs Q E hr h => ?_), M, hm, bd, fun a ds => ?_⟩
  · obtain ⟨z, dx, ws, H0, ds, rfl, _, _, _, r, hl, _⟩ := h
    rw [List.length_cons, r.length, hl, hp]
  · obtain ⟨z, dx, ws, H0, ds, rfl, hx, h0, E0, r, hl, q⟩ := h
    refine ⟨_, hb _ _ (good_of S hr) (passes_of rfl) ⟨rfl, rfl, rfl⟩, z, dx, env0 N (.ptr z :: ds), H0, rfl, hx, h0, E0, slots0 (.cons (.ptr z) r) N, ?_, ?_⟩
    · unfold noOw env0
      rw [List.all_append, Bool.and_eq_true]
      constructor
      · rw [List.all_map]; exact List.all_eq_true.mpr fun _ _ => rfl
      · rw [List.all_replicate]; simp
    · simp only [if_pos hl] at q
      cases e : semW0 z a1 a2 fL fI fE (env0 N (.ptr z :: ds)) with
      | ok d => rw [e] at q; exact fun σ' A' B' i r => q A' B' i r
      | ex c vs => rw [e] at q; exact fun σ' dy A' B' g p => q dy A' B' g p
      | er => rw [e] at q; exact q
  · by_cases hl : ds.length = n
    · have z := hs a ds hl
      show (if ds.length = n then sem ds else .er) = .er ∨ (if ds.length = n then semW0 a a1 a2 fL fI fE (env0 N (.ptr a :: ds)) else .er) = (if ds.length = n then sem ds else .er)
      rw [if_pos hl, if_pos hl]; exact z
    · exact .inl (if_neg hl)
end
end QY

namespace QY
open PySem PySem.Spec PyProof.Rows L2
theorem decT {i : Decidable True} : @decide True i = true := by simp
theorem decF {i : Decidable False} : @decide False i = false := by simp
def fuelW : Nat := 1000000
def CF : List Str := ["walk", "known"]
def clA (c0 c1 : Addr) : Nat → Addr
  | 0 => c0
  | _ => c1
def flA : Nat → List Str
  | 0 => WF
  | _ => CF
theorem objF_W {κ : Kap} {C : Addr} (hC : κ.cls 0 = C) (hf : κ.fld 0 = WF) (pg : PySem.W.plainGet κ.K C Str.empty = true) (hd : PySem.W.hasDictIn κ.K C = true) (po : PySem.W.plainOver κ.K C = true) (sa : PySem.W.findIn κ.K (.ref C) "__setattr__" = some (some (.builtin "object.__setattr__")))
    (nL : PySem.W.findIn κ.K (.ref C) "letters" = some none) (nT : PySem.W.findIn κ.K (.ref C) "tiles" = some none) (nE : PySem.W.findIn κ.K (.ref C) "edge" = some none) : ObjF κ 0 WF := by
  subst hC
  exact ⟨⟨pg, hd, po, sa⟩, List.forall_mem_cons.mpr ⟨nL, List.forall_mem_cons.mpr ⟨nT, List.forall_mem_cons.mpr ⟨nE, fun _ z => nomatch z⟩⟩⟩, by decide +kernel, hf⟩
theorem g_tv {X : Cx} {κ : Kap} {W : WX} {mg : Str → Option Value} {base : Heap} {k : Nat} {N : List Str} {sc : Scope} {own : Str → Bool} {i : Nat} {x : Str} {pos : Pos} (G : Good X κ W mg base k N sc own) (h : ckV N sc i x = true) : PE X (.Name x pos) (tVar i) := by
  simp only [ckV, Bool.and_eq_true, decide_eq_true_eq] at h
  obtain ⟨h1, h2, h3⟩ := h
  exact pe_var (G.nth h1) (by rw [G.hs]; exact vis_of h2) (nodbg_of h3).1 (nodbg_of h3).2.1
/-! ### what Walk(system, high) is -/
def walkR (sl : List D → R D) (S h : D) : R D := (flatR (sl [S])).bind fun _ => match h with
  | .int z => if 1 ≤ z ∧ z ≤ 4 then (R.of (ixD S (.int 0))).bind fun L => (R.of (ixD S (.int 1))).bind fun t => (R.of (itemsD t)).bind fun ts => (R.of (putAll ts [] [])).bind fun p => (R.of (mulE (.tup [.int (-1)]) (.int z))).bind fun e => .ok (.obj 0 [L, .dct p.1 p.2, e]) else .ex 3 []
  | _ => .er
theorem lastT_2 : ∀ (ts : List D) (p S h b : B), ∃ b', lastT ts [p, S, h, b] = [p, S, h, b']
  | [], _, _, _, b => ⟨b, rfl⟩
  | _ :: r, p, S, h, _ => lastT_2 r p S h _
def wS1 (sl : List D → R D) : SV := sDrop (eCallF 1 sl (aCons (eVarB 1) aNil))
def wS2 : SV := sIf (bNot (tst (e3 leD leD (eCon (.int (1))) (eVarB 2) (eCon (.int (4)))))) (sSeq (sRaise 3) sNx) sNx
def wSL : EV := e2 ixD (eVarB 1) (eCon (.int (0)))
def wSI : AV := eIter (e2 ixD (eVarB 1) (eCon (.int (1))))
def wSE : EV := e2 mulE (eTup (aCons (eCon (.int (-1))) aNil)) (eVarB 2)
theorem okR_of {o : Option D} : okR (R.of o) = R.of o := by cases o <;> rfl
theorem noX_of {α : Type} {o : Option α} : noX (R.of o) = R.of o := by cases o <;> rfl
theorem walk_sem (sl : List D → R D) (a : Addr) (S h : D) : semW0 a (wS1 sl) wS2 wSL wSI wSE [.fz (.ptr a), .fz S, .fz h, .no] = walkR sl S h := by
  have e1 : wS1 sl [.fz (.ptr a), .fz S, .fz h, .no] = rbd (flatR (sl [S])) [.fz (.ptr a), .fz S, .fz h, .no] fun _ => .nx [.fz (.ptr a), .fz S, .fz h, .no] := by
    unfold wS1
    simp only [sDrop_ap, eCallF_ap, aCons_ap, aNil_ap, eVarB_s, eVarB_0, R.bind_ok, List.length_cons, List.length_nil]
    rw [if_pos trivial]
  unfold semW0 walkR
  rw [e1]
  cases flatR (sl [S]) with
  | er => rfl
  | ex c vs => rfl
  | ok d =>
    rw [rbd_ok, R.bind_ok]
    have eI : wSI [.fz (.ptr a), .fz S, .fz h, .no] = R.of ((ixD S (.int 1)).bind itemsD) := by
      unfold wSI
      simp only [eIter_ap, e2_ap, eVarB_s, eVarB_0, eCon_ap, R.bind_ok]
      cases ixD S (.int 1) <;> rfl
    have eL : wSL [.fz (.ptr a), .fz S, .fz h, .no] = R.of (ixD S (.int 0)) := by
      unfold wSL
      simp only [e2_ap, eVarB_s, eVarB_0, eCon_ap, R.bind_ok]
    cases h with
    | int z =>
      have e2' : wS2 [.fz (.ptr a), .fz S, .fz (.int z), .no] = if 1 ≤ z ∧ z ≤ 4 then .nx [.fz (.ptr a), .fz S, .fz (.int z), .no] else .ex 3 [] [.fz (.ptr a), .fz S, .fz (.int z), .no] := by
        unfold wS2
        simp only [sIf_ap, bNot_ap, tst_ap, e3_ap, eCon_ap, eVarB_s, eVarB_0, R.bind_ok, leI, R.of_some, chain3_bb, sSeq_ap, sRaise_ap, sNx_ap, obd_ex]
        by_cases h1 : 1 ≤ z
        · by_cases h2 : z ≤ 4
          · rw [if_pos ⟨h1, h2⟩, decide_eq_true h1, decide_eq_true h2]; rfl
          · rw [if_neg (fun q => h2 q.2), decide_eq_true h1, decide_eq_false h2]; rfl
        · rw [if_neg (fun q => h1 q.1), decide_eq_false h1]; rfl
      simp only [e2']
      by_cases hz : 1 ≤ z ∧ z ≤ 4
      · simp only [if_pos hz]
        rw [eL, eI, okR_of, noX_of]
        have hp : isPtr a [B.fz (D.ptr a), B.fz S, B.fz (D.int z), B.no][0]? = true := by show (a == a) = true; simp
        rw [hp, show noOw [B.fz (D.ptr a), B.fz S, B.fz (D.int z), B.no] = true from rfl, show decide (3 < [B.fz (D.ptr a), B.fz S, B.fz (D.int z), B.no].length) = true from rfl, if_pos (show (true && (true && true)) = true from rfl)]
        cases ixD S (.int 0) with
        | none => rfl
        | some L =>
          rw [R.of_some, R.bind_ok, R.bind_ok]
          cases ixD S (.int 1) with
          | none => rfl
          | some t =>
            rw [R.of_some, R.bind_ok]
            show (R.of (itemsD t)).bind _ = _
            cases itemsD t with
            | none => rfl
            | some ts =>
              rw [R.of_some, R.bind_ok, R.bind_ok]
              obtain ⟨b', eb⟩ := lastT_2 ts (.fz (.ptr a)) (.fz S) (.fz (.int z)) .no
              rw [eb]
              have eE : wSE [.fz (.ptr a), .fz S, .fz (.int z), b'] = R.of (mulE (.tup [.int (-1)]) (.int z)) := by
                unfold wSE
                simp only [e2_ap, eTup_ap, aCons_ap, aNil_ap, eVarB_s, eVarB_0, eCon_ap, R.bind_ok, List.length_cons, List.length_nil]
                rw [if_pos (by decide)]; rfl
              rw [eE, okR_of]
      · simp only [if_neg hz]
    | _ => rfl
end QY

/-! Plain: dicts whose keys are tuples of ints. -/
namespace QY
open PySem PySem.Spec PyProof.Rows L2
def kOf (t : List Int) : NestedKey := .tup (t.map .num)
theorem nkAll_ints : ∀ t : List Int, nk.nkAll (t.map .int) = some (t.map .num)
  | [] => rfl
  | x :: r => by
    show (nk (.int x)).bind (fun k => (nk.nkAll (r.map .int)).map fun ks => k :: ks) = _
    rw [nkAll_ints r]; rfl
theorem nk_tup (t : List Int) : nk (tupD t) = some (kOf t) := by
  show (nk.nkAll (t.map .int)).map NestedKey.tup = _
  rw [nkAll_ints]; rfl
theorem num_inj : ∀ {a b : List Int}, a.map NestedKey.num = b.map NestedKey.num → a = b
  | [], [], _ => rfl
  | [], _ :: _, h => by cases h
  | _ :: _, [], h => by cases h
  | x :: r, y :: s, h => by
    have h1 : NestedKey.num x = NestedKey.num y := (List.cons.inj h).1
    have h2 := (List.cons.inj h).2
    cases h1
    rw [num_inj h2]
theorem kOf_inj {a b : List Int} (h : kOf a = kOf b) : a = b := num_inj (NestedKey.tup.inj h)
theorem depth_nums : ∀ t : List Int, NestedKey.depthAll (t.map .num) ≤ 1
  | [] => by simp [NestedKey.depthAll]
  | x :: r => by
    have := depth_nums r
    simp [NestedKey.depthAll, NestedKey.depth]
    omega
theorem depth_kOf (t : List Int) : (kOf t).depth ≤ 8 := by
  have := depth_nums t
  show (NestedKey.tup (t.map .num)).depth ≤ 8
  simp only [NestedKey.depth]
  omega
theorem keyD_tup (t : List Int) : keyD (tupD t) = some (kOf t) := by
  show (nk (tupD t)).bind (fun k => if k.depth ≤ 8 then some k else none) = _
  rw [nk_tup]
  exact if_pos (depth_kOf t)
theorem okKeys_tups (K : List (List Int)) : okKeys (tupsD K) = true := by
  unfold okKeys tupsD
  rw [List.all_map]
  refine List.all_eq_true.mpr fun t _ => ?_
  show (keyD (tupD t)).isSome = true
  rw [keyD_tup]; rfl
def insK (K : List (List Int)) (t : List Int) : List (List Int) := if t ∈ K then K else K ++ [t]
def trues {α : Type} (K : List α) : List D := K.map fun _ => D.bl true
theorem insK_mem {K : List (List Int)} {t x : List Int} : x ∈ insK K t ↔ x ∈ K ∨ x = t := by
  unfold insK
  split
  · rename_i h
    exact ⟨.inl, fun q => q.elim id fun e => by rw [e]; exact h⟩
  · rw [List.mem_append, List.mem_singleton]
theorem insK_nodup {K : List (List Int)} {t : List Int} (h : K.Nodup) : (insK K t).Nodup := by
  unfold insK
  split
  · exact h
  · rename_i hn
    rw [List.nodup_append]
    exact ⟨h, by simp, fun a ha b hb e => by
      rw [List.mem_singleton] at hb
      rw [← hb, ← e] at hn
      exact hn ha⟩
theorem insK_len (K : List (List Int)) (t : List Int) : (insK K t).length ≤ K.length + 1 := by
  unfold insK
  split
  · omega
  · rw [List.length_append, List.length_singleton]; omega
theorem insK_cons {a t : List Int} {K : List (List Int)} (h : ¬ a = t) : insK (a :: K) t = a :: insK K t := by
  have h' : ¬ t = a := fun e => h e.symm
  unfold insK
  by_cases hm : t ∈ K
  · rw [if_pos (List.mem_cons_of_mem _ hm), if_pos hm]
  · rw [if_neg (by rw [List.mem_cons]; exact fun z => z.elim h' hm), if_neg hm]; rfl
theorem insK_head {t : List Int} {K : List (List Int)} : insK (t :: K) t = t :: K := by
  unfold insK; rw [if_pos List.mem_cons_self]
theorem putKs_tups (t : List Int) : ∀ K : List (List Int), putKs (kOf t) (tupD t) (tupsD K) = tupsD (insK K t)
  | [] => rfl
  | a :: K => by
    show (if nk (tupD a) = some (kOf t) then tupD a :: tupsD K else tupD a :: putKs (kOf t) (tupD t) (tupsD K)) = _
    rw [nk_tup]
    by_cases h : a = t
    · subst h
      rw [if_pos rfl, insK_head]; rfl
    · rw [if_neg (fun e => h (kOf_inj (Option.some.inj e))), putKs_tups t K, insK_cons h]; rfl
theorem putVs_tups (t : List Int) : ∀ K : List (List Int), putVs (kOf t) (.bl true) (tupsD K) (trues K) = trues (insK K t)
  | [] => rfl
  | a :: K => by
    show (if nk (tupD a) = some (kOf t) then D.bl true :: trues K else D.bl true :: putVs (kOf t) (.bl true) (tupsD K) (trues K)) = _
    rw [nk_tup]
    by_cases h : a = t
    · subst h
      rw [if_pos rfl, insK_head]; rfl
    · rw [if_neg (fun e => h (kOf_inj (Option.some.inj e))), putVs_tups t K, insK_cons h]; rfl
theorem putE_tups {K : List (List Int)} {t : List Int} (h : K.length < 1000000) : putE (tupsD K) (trues K) (tupD t) (.bl true) = some (tupsD (insK K t), trues (insK K t)) := by
  unfold putE
  rw [keyD_tup]
  show (if okKeys (tupsD K) && decide ((tupsD K).length < LIM) then some (putKs (kOf t) (tupD t) (tupsD K), putVs (kOf t) (.bl true) (tupsD K) (trues K)) else none) = _
  rw [okKeys_tups, decide_eq_true (show (tupsD K).length < LIM by unfold tupsD; rw [List.length_map]; exact lim2 (by omega)), putKs_tups, putVs_tups]; rfl
theorem getKD_tups (t : List Int) : ∀ K : List (List Int), (getKD (kOf t) (tupsD K) (trues K)).isSome = decide (t ∈ K)
  | [] => by simp [getKD, tupsD, trues]
  | a :: K => by
    show (if nk (tupD a) = some (kOf t) then some (D.bl true) else getKD (kOf t) (tupsD K) (trues K)).isSome = _
    rw [nk_tup]
    by_cases h : a = t
    · subst h
      rw [if_pos rfl, decide_eq_true List.mem_cons_self]; rfl
    · rw [if_neg (fun e => h (kOf_inj (Option.some.inj e))), getKD_tups t K]
      refine decide_eq_decide.mpr ?_
      rw [List.mem_cons]
      exact ⟨.inr, fun z => z.elim (fun e => absurd e.symm h) id⟩
theorem in_dct {K : List (List Int)} {t : List Int} : inE false (tupD t) (.dct (tupsD K) (trues K)) = some (.bl (decide (t ∈ K))) := by
  show (keyD (tupD t)).bind (fun k => if okKeys (tupsD K) then some (D.bl (if false then !(getKD k (tupsD K) (trues K)).isSome else (getKD k (tupsD K) (trues K)).isSome)) else none) = _
  rw [keyD_tup]
  show (if okKeys (tupsD K) then some (D.bl (if false then !(getKD (kOf t) (tupsD K) (trues K)).isSome else (getKD (kOf t) (tupsD K) (trues K)).isSome)) else none) = _
  rw [okKeys_tups, if_pos rfl]
  show some (D.bl (getKD (kOf t) (tupsD K) (trues K)).isSome) = _
  rw [getKD_tups]
/-- one after the other -/
def insAll : List (List Int) → List (List Int) → List (List Int)
  | K, [] => K
  | K, t :: r => insAll (insK K t) r
theorem insAll_mem : ∀ {r K : List (List Int)} {x : List Int}, x ∈ insAll K r ↔ x ∈ K ∨ x ∈ r
  | [], K, x => by simp [insAll]
  | t :: r, K, x => by
    show x ∈ insAll (insK K t) r ↔ _
    rw [insAll_mem, insK_mem, List.mem_cons, or_assoc]
theorem insAll_nodup : ∀ {r K : List (List Int)}, K.Nodup → (insAll K r).Nodup
  | [], _, h => h
  | t :: r, K, h => by
    show (insAll (insK K t) r).Nodup
    exact insAll_nodup (insK_nodup h)
theorem insAll_len : ∀ (r K : List (List Int)), (insAll K r).length ≤ K.length + r.length
  | [], _ => Nat.le_refl _
  | t :: r, K => by
    have h1 := insAll_len r (insK K t)
    have h2 := insK_len K t
    show (insAll (insK K t) r).length ≤ _
    rw [List.length_cons]; omega
theorem insAll_app : ∀ (r s K : List (List Int)), insAll K (r ++ s) = insAll (insAll K r) s
  | [], _, _ => rfl
  | t :: r, s, K => insAll_app r s (insK K t)
theorem insAll_new : ∀ {r K : List (List Int)}, r.Nodup → (∀ x ∈ r, x ∉ K) → insAll K r = K ++ r
  | [], K, _, _ => by simp [insAll]
  | t :: r, K, h, hn => by
    have h' := List.nodup_cons.mp h
    have ht : insK K t = K ++ [t] := by unfold insK; rw [if_neg (hn t List.mem_cons_self)]
    show insAll (insK K t) r = _
    rw [ht, insAll_new h'.2, List.append_assoc]; · rfl
    intro x hx z
    rcases List.mem_append.mp z with z | z
    · exact hn x (List.mem_cons_of_mem _ hx) z
    · rw [List.mem_singleton] at z; rw [z] at hx; exact h'.1 hx
theorem putAll_tups : ∀ (r K : List (List Int)), K.length + r.length < 1000000 → putAll (tupsD r) (tupsD K) (trues K) = some (tupsD (insAll K r), trues (insAll K r))
  | [], K, _ => rfl
  | t :: r, K, h => by
    rw [List.length_cons] at h
    have h2 := insK_len K t
    show (putE (tupsD K) (trues K) (tupD t) (.bl true)).bind (fun p => putAll (tupsD r) p.1 p.2) = _
    rw [putE_tups (by omega)]
    exact putAll_tups r (insK K t) (by omega)
/-- the least order told: sorted, each once -/
theorem sort_insAll {A : List (List Int)} : sortI (insAll [] A) = sortI (ded A) :=
  sort_same (insAll_nodup List.nodup_nil) fun x => by rw [insAll_mem]; simp
theorem sorted_dct {K : List (List Int)} {vs : List D} (h : noE K = true) : sortedD [.dct (tupsD K) vs] = some (.lst (tupsD (sortI K))) := by
  show (asTups (tupsD K)).bind (fun nss => if noE nss then some (D.lst (tupsD (sortI nss))) else none) = _
  rw [asTups_map]
  show (if noE K then _ else _) = _
  rw [if_pos h]
/-- rising lists hold each once -/
theorem chk_nodup {n : Nat} : ∀ {T : List (List Int)} {p : Option (List Int)}, chk n p T = true → T.Nodup ∧ (∀ q, p = some q → ∀ t ∈ T, HT.lexLt q t = true) ∧ SrtI T
  | [], p, _ => ⟨List.nodup_nil, fun _ _ t h => (by cases h), List.Pairwise.nil⟩
  | t :: r, p, h => by
    have h : ((okT n t && rise p t) && chk n (some t) r) = true := h
    simp only [Bool.and_eq_true] at h
    obtain ⟨⟨_, h2⟩, h3⟩ := h
    obtain ⟨i1, i2, i3⟩ := chk_nodup h3
    refine ⟨List.nodup_cons.mpr ⟨fun hm => ?_, i1⟩, fun q e s hs => ?_, List.pairwise_cons.mpr ⟨fun b hb => lx_asym (i2 t rfl b hb), i3⟩⟩
    · have := i2 t rfl t hm
      rw [lx_irrefl] at this; cases this
    · subst e
      rcases List.mem_cons.mp hs with rfl | hs
      · exact h2
      · exact lx_trans h2 (i2 t rfl s hs)
theorem chk_okT {n : Nat} : ∀ {T : List (List Int)} {p : Option (List Int)}, chk n p T = true → ∀ t ∈ T, okT n t = true
  | [], _, _, t, h => by cases h
  | a :: r, p, h, t, ht => by
    have h : ((okT n a && rise p a) && chk n (some a) r) = true := h
    simp only [Bool.and_eq_true] at h
    rcases List.mem_cons.mp ht with rfl | ht
    · exact h.1.1
    · exact chk_okT h.2 t ht
theorem srt_sortI {T : List (List Int)} (h : SrtI T) : sortI T = T := srt_uniq (sortI_srt T) h (sortI_perm T)
end QY

/-! Plain: columns of marks, and which may stand beside which. -/
namespace QY
open PySem PySem.Spec PyProof.Rows L2
theorem okSys_chk {L : Str} {T : List (List Int)} (h : okSys L T = true) : chk L.length none T = true := (Bool.and_eq_true_iff.mp h).2
def wD (L : Str) (T : List (List Int)) (h : Nat) : D := .obj 0 [.str L, .dct (tupsD T) (trues T), tupD (List.replicate h (-1))]
@[simp] theorem wD_letters {L : Str} {T : List (List Int)} {h : Nat} : fldD 0 0 (wD L T h) = some (.str L) := (rfl)
@[simp] theorem wD_tiles {L : Str} {T : List (List Int)} {h : Nat} : fldD 0 1 (wD L T h) = some (.dct (tupsD T) (trues T)) := (rfl)
@[simp] theorem wD_edge {L : Str} {T : List (List Int)} {h : Nat} : fldD 0 2 (wD L T h) = some (tupD (List.replicate h (-1))) := (rfl)
@[simp] theorem wD_is {L : Str} {T : List (List Int)} {h : Nat} : isObj 0 (wD L T h) = true := (rfl)
@[simp] theorem bX_tupD {t : List Int} : bX (tupD t) = .fz (tupD t) := (rfl)
theorem walkR_ok {sl : List D → R D} {L : Str} {T : List (List Int)} {h : Nat} (lg : flatR (sl [sysD L T]) = .ok .non) (ok : chk L.length none T = true) (hT : T.length < 1000000) (h1 : 1 ≤ h) (h4 : h ≤ 4) : walkR sl (sysD L T) (.int (h : Int)) = .ok (wD L T h) := by
  have e1 : putAll (tupsD T) [] [] = some (tupsD T, trues T) := by
    have := putAll_tups T [] (by rw [List.length_nil]; omega)
    rw [insAll_new (chk_nodup ok).1 (fun _ _ z => by cases z), List.nil_append] at this
    exact this
  have e2 : mulE (.tup [.int (-1)]) (.int (h : Int)) = some (tupD (List.replicate h (-1))) := by
    have hh : h = 1 ∨ h = 2 ∨ h = 3 ∨ h = 4 := by omega
    rcases hh with rfl | rfl | rfl | rfl <;> rfl
  unfold walkR
  rw [lg, R.bind_ok]
  show (if 1 ≤ (h : Int) ∧ (h : Int) ≤ 4 then _ else _) = _
  rw [if_pos ⟨by omega, by omega⟩, show ixD (sysD L T) (.int 0) = some (.str L) from rfl, show ixD (sysD L T) (.int 1) = some (.lst (tupsD T)) from rfl]
  simp only [R.of_some, R.bind_ok, items_lst, e1, e2]
  rfl
theorem ix_tupD {a : List Int} {k : Nat} (h : k < a.length) : ixD (tupD a) (.int (k : Int)) = some (.int (a.getD k 0)) := by
  show atI (a.map D.int) (k : Int) = _
  rw [QY.atI_nat, List.getElem?_map, List.getElem?_eq_getElem h]
  simp [h]
theorem tup_add {a b : List Int} (ha : a.length ≤ 100000) (hb : b.length ≤ 100000) : addD (tupD a) (tupD b) = some (tupD (a ++ b)) := by
  show (if (a.map D.int).length + (b.map D.int).length ≤ LIM then some (D.tup (a.map D.int ++ b.map D.int)) else none) = _
  rw [if_pos (by rw [List.length_map, List.length_map]; exact lim1 (by omega)), ← List.map_append]; rfl
def bd (c : List Int) : List Int := [-1] ++ c ++ [-1]
theorem bd_len (c : List Int) : (bd c).length = c.length + 2 := by unfold bd; simp
def fitsP (T : List (List Int)) (a b : List Int) : Bool := (List.range (a.length + 1)).all fun k => decide ([(bd a).getD k 0, (bd b).getD k 0, (bd a).getD (k + 1) 0, (bd b).getD (k + 1) 0] ∈ T)
/-! behind -/
def txD : Option Str → D
  | none => .non
  | some s => .str s
def letAt (s : Str) (k : Nat) : Nat := s.cps.toList.getD k 0
def okM (L : Str) (tx : Option Str) (k m : Nat) : Bool := match tx with
  | none => true
  | some s => decide (letAt L m = letAt s k)
abbrev Tri := List Int × Int × Int
def triD (s : Tri) : D := .tup [tupD s.1, .int s.2.1, .int s.2.2]
def goM (L : Str) (T : List (List Int)) (one : List Int) (tx : Option Str) (k : Nat) (s : Tri) (m : Nat) : Bool := okM L tx k m && decide ([s.2.1, s.2.2, one.getD k 0, (m : Int)] ∈ T)
def nxM (one : List Int) (k : Nat) (s : Tri) (m : Nat) : Tri := (s.1 ++ [(m : Int)], one.getD k 0, (m : Int))
def step1 (L : Str) (T : List (List Int)) (one : List Int) (tx : Option Str) (k : Nat) (s : Tri) : List Tri := ((List.range L.length).filter (goM L T one tx k s)).map (nxM one k s)
def stepAll (L : Str) (T : List (List Int)) (one : List Int) (tx : Option Str) : List Nat → List Tri → List Tri
  | [], S => S
  | k :: ks, S => stepAll L T one tx ks (S.flatMap (step1 L T one tx k))
def behT (L : Str) (T : List (List Int)) (one : List Int) (tx : Option Str) : List Tri := (stepAll L T one tx (List.range one.length) [([], -1, -1)]).filter fun s => decide ([s.2.1, s.2.2, -1, -1] ∈ T)
def behP (L : Str) (T : List (List Int)) (one : List Int) (tx : Option Str) : List (List Int) := (behT L T one tx).map (·.1)
theorem step1_len {L : Str} {T : List (List Int)} {one : List Int} {tx : Option Str} {k : Nat} {s : Tri} : (step1 L T one tx k s).length ≤ L.length := by
  unfold step1
  rw [List.length_map]
  have := List.length_filter_le (goM L T one tx k s) (List.range L.length)
  rw [List.length_range] at this
  exact this
theorem flat_len {α β : Type} {f : α → List β} {n : Nat} (h : ∀ a, (f a).length ≤ n) : ∀ l : List α, (l.flatMap f).length ≤ l.length * n
  | [] => by simp
  | a :: l => by
    have := flat_len h l
    have := h a
    rw [List.flatMap_cons, List.length_append, List.length_cons, Nat.add_mul, Nat.one_mul]; omega
theorem stepAll_len {L : Str} {T : List (List Int)} {one : List Int} {tx : Option Str} : ∀ (ks : List Nat) (S : List Tri), (stepAll L T one tx ks S).length ≤ S.length * L.length ^ ks.length
  | [], S => by simp [stepAll]
  | k :: ks, S => by
    have h1 := stepAll_len (L := L) (T := T) (one := one) (tx := tx) ks (S.flatMap (step1 L T one tx k))
    have h2 := flat_len (f := step1 L T one tx k) (n := L.length) (fun _ => step1_len) S
    refine Nat.le_trans h1 (Nat.le_trans (Nat.mul_le_mul_right _ h2) ?_)
    rw [List.length_cons, Nat.pow_succ, Nat.mul_assoc, Nat.mul_comm (L.length ^ ks.length)]
    exact Nat.le_refl _
theorem pow_small {n q : Nat} (hn : n ≤ 16) (hq : q ≤ 4) : n ^ q ≤ 65536 :=
  Nat.le_trans (Nat.pow_le_pow_left hn q) (Nat.le_trans (Nat.pow_le_pow_right (by decide) hq) (by decide))
theorem behP_len {L : Str} {T : List (List Int)} {one : List Int} {tx : Option Str} (hL : L.length ≤ 16) (ho : one.length ≤ 4) : (behP L T one tx).length ≤ 65536 := by
  unfold behP behT
  rw [List.length_map]
  refine Nat.le_trans (List.length_filter_le _ _) (Nat.le_trans (stepAll_len _ _) ?_)
  rw [List.length_range, List.length_singleton, Nat.one_mul]
  exact pow_small hL ho
/-- the columns have the height, are of marks -/
theorem stepAll_ok {L : Str} {T : List (List Int)} {one : List Int} {tx : Option Str} : ∀ (ks : List Nat) (S : List Tri) (q : Nat), (∀ s ∈ S, s.1.length = q ∧ ∀ x ∈ s.1, ∃ m : Nat, x = (m : Int) ∧ m < L.length) →
    ∀ s ∈ stepAll L T one tx ks S, s.1.length = q + ks.length ∧ ∀ x ∈ s.1, ∃ m : Nat, x = (m : Int) ∧ m < L.length
  | [], S, q, h => h
  | k :: ks, S, q, h => by
    have := stepAll_ok (L := L) (T := T) (one := one) (tx := tx) ks (S.flatMap (step1 L T one tx k)) (q + 1) (fun s hs => by
      obtain ⟨s0, h0, h1⟩ := List.mem_flatMap.mp hs
      obtain ⟨m, hm, rfl⟩ := List.mem_map.mp h1
      obtain ⟨g1, g2⟩ := h s0 h0
      have hm2 := List.mem_range.mp (List.mem_filter.mp hm).1
      refine ⟨by show (s0.1 ++ [(m : Int)]).length = q + 1; rw [List.length_append, g1]; rfl, fun x hx => ?_⟩
      rcases List.mem_append.mp (show x ∈ s0.1 ++ [(m : Int)] from hx) with hx | hx
      · exact g2 x hx
      · rw [List.mem_singleton] at hx; exact ⟨m, hx, hm2⟩)
    intro s hs
    have := this s hs
    rw [List.length_cons]
    exact ⟨by omega, this.2⟩
theorem behP_ok {L : Str} {T : List (List Int)} {one : List Int} {tx : Option Str} : ∀ c ∈ behP L T one tx, c.length = one.length ∧ ∀ x ∈ c, ∃ m : Nat, x = (m : Int) ∧ m < L.length := fun c hc => by
  obtain ⟨s, hs, rfl⟩ := List.mem_map.mp hc
  have := stepAll_ok (L := L) (T := T) (one := one) (tx := tx) (List.range one.length) [([], -1, -1)] 0 (fun s hs => by
    rw [List.mem_singleton] at hs
    subst hs
    exact ⟨rfl, fun x hx => by cases hx⟩) s (List.mem_filter.mp hs).1
  rw [List.length_range, Nat.zero_add] at this
  exact this
theorem forO_tp3 {i j l : Nat} {s : SV} {a b c : D} {ds : List D} {ρ : List B} : forO (.tp [i, j, l]) s (.tup [a, b, c] :: ds) ρ = loopO (s (((ρ.set i (.fz a)).set j (.fz b)).set l (.fz c))) (forO (.tp [i, j, l]) s ds) := rfl
theorem forO_tp2 {i j : Nat} {s : SV} {a b : D} {ds : List D} {ρ : List B} : forO (.tp [i, j]) s (.tup [a, b] :: ds) ρ = loopO (s ((ρ.set i (.fz a)).set j (.fz b))) (forO (.tp [i, j]) s ds) := rfl
theorem app_any {i : Nat} {fs : AV} {ρ : List B} {A : List D} {d : D} (h : ρ[i]? = some (.ow (.lst A))) (hf : fs ρ = .ok [d]) (hl : A.length ≤ 1000000) : sMut gApp i fs ρ = .nx (ρ.set i (.ow (.lst (A ++ [d])))) := by
  rw [sMut_at h, hf]
  have : gApp A [d] = some (A ++ [d]) := if_pos (lim2 hl)
  rw [rbd_ok, this, optO_some]
theorem ix_letter {L : Str} {m : Nat} (h : m < L.length) (hL : L.length ≤ 1000000) : ixD (.str L) (.int (m : Int)) = some (.str ⟨#[letAt L m]⟩) := by
  rw [ix_str (lim1 hL)]
  have h' : m < L.cps.toList.length := by rw [size_len]; exact h
  rw [List.getElem?_eq_getElem h']
  unfold letAt
  rw [List.getD_eq_getElem?_getD, List.getElem?_eq_getElem h']; rfl
theorem one_eq {a b : Nat} : decide ((⟨#[a]⟩ : Str) = ⟨#[b]⟩) = decide (a = b) := by
  refine decide_eq_decide.mpr ⟨fun h => ?_, fun h => by rw [h]⟩
  have := congrArg (fun s : Str => s.cps.toList) h
  simpa using this
/-- [elt for x in range(n)] -/
theorem lc_range {it : AV} {elt : EV} {vs : List Nat} {i n : Nat} {ρ : List B} {g : Nat → D} (hi : it ρ = .ok ((List.range n).map fun (i : Nat) => .int (i : Int))) (hn : n ≤ 1000000) (he : ∀ x : Nat, x < n → elt ((wipeB ρ vs).set i (.fz (.int (x : Int)))) = .ok (g x)) :
    eLc it (.nm i) (fun _ => .ok true) elt vs ρ = .ok (.lst ((List.range n).map g)) := by
  have e := eLc_map (i := i) (elt := elt) (vs := vs) (g := fun d => match d with | .int x => g x.toNat | _ => D.non) hi (fun d hd => by
    obtain ⟨x, hx, rfl⟩ := List.mem_map.mp hd
    exact he x (List.mem_range.mp hx)) (by rw [List.length_map, List.length_range]; exact lim2 hn)
  rw [e, List.map_map]; rfl
/-- [elt for a, b, c in ts if tt], by what is told -/
theorem lc_gen {α : Type} {it : AV} {t : Tgt} {tt : List B → R Bool} {elt : EV} {vs : List Nat} {ρ : List B} {f g : α → D} {p : α → Bool} {A : List α} (hi : it ρ = .ok (A.map f)) (hn : A.length ≤ 1000000)
    (he : ∀ a ∈ A, ∃ ρ1, bindT t (f a) (wipeB ρ vs) = some ρ1 ∧ tt ρ1 = .ok (p a) ∧ (p a = true → elt ρ1 = .ok (g a))) : eLc it t tt elt vs ρ = .ok (.lst ((A.filter p).map g)) := by
  have key : ∀ A : List α, (∀ a ∈ A, ∃ ρ1, bindT t (f a) (wipeB ρ vs) = some ρ1 ∧ tt ρ1 = .ok (p a) ∧ (p a = true → elt ρ1 = .ok (g a))) → lcG t tt elt (wipeB ρ vs) (A.map f) = .ok ((A.filter p).map g) := by
    intro A
    induction A with
    | nil => intro _; rfl
    | cons a r ih =>
      intro h
      obtain ⟨ρ1, h1, h2, h3⟩ := h a (by simp)
      have i1 := ih fun b hb => h b (List.mem_cons_of_mem _ hb)
      rw [List.map_cons]
      unfold lcG
      rw [h1]
      simp only [h2, R.bind_ok]
      cases hp : p a with
      | true =>
        rw [List.filter_cons_of_pos hp]
        simp only [h3 hp, R.bind_ok, i1]
        rfl
      | false =>
        rw [List.filter_cons_of_neg (by rw [hp]; decide)]
        simp only [i1]
  exact eLc_of hi (key A he) (by rw [List.length_map]; exact lim2 hn)
end QY

/-! Defs whose last argument is a dict that they change. -/
namespace QY
open PySem PySem.Spec PyProof.Rows L2
def rem (H : Hp) (a : Addr) : Hp := fun b => if b = a then none else H b
theorem rem_at {H : Hp} {a : Addr} : rem H a a = none := if_pos rfl
theorem rem_ne {H : Hp} {a b : Addr} (h : b ≠ a) : rem H a b = H b := if_neg h
theorem rem_some {H : Hp} {a b : Addr} {o : HO} (h : rem H a b = some o) : b ≠ a ∧ H b = some o := by
  by_cases e : b = a
  · subst e; rw [rem_at] at h; cases h
  · rw [rem_ne e] at h; exact ⟨e, h⟩
abbrev IOS := Addr → List D → List D → List D → Option (D × List D × List D)
def spIO (κ : Kap) (n : Nat) (sem : IOS) : Sp := fun vs H Q _ => ∃ (us : List V) (a : Addr) (H0 : Hp) (ds ks ws : List D), vs = us ++ [V.ref a] ∧ Ex H0 H ∧ H0 a = none ∧ Own κ H0 a (H a) (.dct ks ws) ∧ Reps κ H0 us ds ∧ ds.length = n ∧ (match sem a ds ks ws with
  | some (d, ks', ws') => ∀ v H0' H', Grow H0 (rem H a) H0' H' → H0' a = none → Own κ H0' a (H' a) (.dct ks' ws') → Rep κ H0' v d → Q v H'
  | none => False)
structure Io (κ : Kap) (mg : Str → Option Value) (base : Heap) (j : Nat) (x : Str) (n : Nat) (sem : IOS) : Prop where
  ex : ∃ (f : Addr) (fd : FuncData) (ps : List Str), FnOk κ.P κ.w κ.K mg base (L2.CX κ.P κ.w) j f fd ps (spIO κ n sem) ∧ mg x = some (.ref f) ∧ PySem.W.keepIn κ.K (.ref f) = true ∧ Binds κ.K fd ps []
def finW (a : Addr) (j : Nat) (o : O) : Option (D × List D × List D) := match o with
  | .rw d ρ => (match ρ[j]? with
    | some (.ow (.dat b ks ws)) => if b = a then some (d, ks, ws) else none
    | _ => none)
  | _ => none
def envI (N : List Str) (a : Addr) (ds ks ws : List D) : List B := ds.map .fz ++ (.ow (.dat a ks ws) :: List.replicate (N.length - (ds.length + 1)) .no)
section
variable {κ : Kap} {mg : Str → Option Value} {base : Heap} {N ps : List Str} {k n : Nat} {x qual : Str} {st : Stmt} {f : Addr} {fd : FuncData}
theorem envI_at {N : List Str} {a : Addr} {ds ks ws : List D} : (envI N a ds ks ws)[ds.length]? = some (.ow (.dat a ks ws)) := by
  unfold envI
  rw [List.getElem?_append_right (by rw [List.length_map]; exact Nat.le_refl _), List.length_map, Nat.sub_self]; rfl
theorem envI_ow {N : List Str} {a : Addr} {ds ks ws : List D} {i : Nat} {d : D} (h : (envI N a ds ks ws)[i]? = some (B.ow d)) : i = ds.length ∧ d = .dat a ks ws := by
  unfold envI at h
  by_cases h1 : i < ds.length
  · rw [List.getElem?_append_left (by rw [List.length_map]; exact h1), List.getElem?_map, List.getElem?_eq_getElem h1] at h
    cases h
  · rw [List.getElem?_append_right (by rw [List.length_map]; omega), List.length_map] at h
    by_cases h2 : i = ds.length
    · subst h2
      rw [Nat.sub_self] at h
      cases h
      exact ⟨rfl, rfl⟩
    · obtain ⟨q, hq⟩ : ∃ q, i - ds.length = q + 1 := ⟨i - ds.length - 1, by omega⟩
      rw [hq, List.getElem?_cons_succ, List.getElem?_replicate] at h
      split at h <;> cases h
theorem start_app (N : List Str) (vs : List V) : L2.start N vs = vs.map some ++ List.replicate (N.length - vs.length) none := rfl
theorem slotsI {H0 H : Hp} {us : List V} {ds ks ws : List D} {a : Addr} (r : Reps κ H0 us ds) (n0 : H0 a = none) (o : Own κ H0 a (H a) (.dct ks ws)) (hN : ds.length < N.length) : Slots κ H0 H (L2.start N (us ++ [V.ref a])) (envI N a ds ks ws) where
  len := by
    rw [start_app]; unfold envI
    simp [r.length]
  fz := fun i d h => by
    unfold envI at h
    by_cases h1 : i < ds.length
    · rw [List.getElem?_append_left (by rw [List.length_map]; exact h1), List.getElem?_map, List.getElem?_eq_getElem h1] at h
      cases h
      obtain ⟨v, g1, g2⟩ := r.get (List.getElem?_eq_getElem h1)
      refine ⟨v, ?_, g2⟩
      rw [start_app, List.map_append, List.append_assoc, List.getElem?_append_left (by rw [List.length_map, r.length]; exact h1), List.getElem?_map, g1]
      rfl
    · rw [List.getElem?_append_right (by rw [List.length_map]; omega), List.length_map] at h
      by_cases h2 : i = ds.length
      · subst h2
        rw [Nat.sub_self] at h
        cases h
      · obtain ⟨q, hq⟩ : ∃ q, i - ds.length = q + 1 := ⟨i - ds.length - 1, by omega⟩
        rw [hq, List.getElem?_cons_succ, List.getElem?_replicate] at h
        split at h <;> cases h
  ow := fun i d h => by
    obtain ⟨rfl, rfl⟩ := envI_ow h
    refine ⟨a, ?_, n0, rfl, o⟩
    rw [start_app, List.map_append, List.append_assoc, List.getElem?_append_right (by rw [List.length_map, r.length]; exact Nat.le_refl _), List.length_map, r.length, Nat.sub_self]
    rfl
  ap := fun i j d e b hij h1 h2 _ _ => hij ((envI_ow h1).1.trans (envI_ow h2).1.symm)
theorem io_zero (F : Fun κ.K x qual st f fd) (hm : mg x = some (.ref f)) (bd : Binds κ.K fd ps []) : Io κ mg base k x n (fun _ _ _ _ => none) :=
  ⟨f, fd, ps, ⟨fun vs H Q E h => by obtain ⟨_, _, _, _, _, _, _, _, _, _, _, _, z⟩ := h; exact z.elim, fun A outer s H args us vs Q E _ _ _ _ h => by obtain ⟨_, _, _, _, _, _, _, _, _, _, _, _, z⟩ := h; exact z.elim⟩, hm, F.kp, bd⟩
theorem io_of {m : SV} (F : Fun κ.K x qual st f fd) (hm : mg x = some (.ref f)) (S : FnScope N ps (defScope st)) (hp : ps.length = n + 1) (hN : n < N.length) (bd : Binds κ.K fd ps [])
    (hb : ∀ (X : Cx) (W : WX), Good X κ W mg base k N (defScope st) (fun _ => true) → PassesOwn (model X.prog X.w) X.A X.env X.xe → Top X → PSs X (defBody st) (tS κ W m)) :
    Io κ mg base (k + 1) x n (fun a ds ks ws => if ds.length = n then finW a n (m (envI N a ds ks ws)) else none) := by
  refine ⟨f, fd, ps, F.okX S (fun vs H Q E h => ?_) (fun cdv A outer s H vs Q E hr h => ?_), hm, F.kp, bd⟩
  · obtain ⟨us, a, H0, ds, ks, ws, rfl, _, _, _, r, hl, _⟩ := h
    rw [List.length_append, r.length, hl, hp]; rfl
  · obtain ⟨us, a, H0, ds, ks, ws, rfl, E0, n0, o, r, hl, q⟩ := h
    simp only [if_pos hl] at q
    have hx : Ex H0 (rem H a) := fun b u hb => by
      rw [rem_ne (ne_of_none hb n0)]; exact E0 b u hb
    have hx2 : Ex (rem H a) H := fun b u hb => (rem_some hb).2
    refine ⟨_, hb _ _ (good_of S hr) (passes_of rfl) ⟨rfl, rfl, rfl⟩, envI N a ds ks ws, H0, H0, rem H a, H0, ⟨.refl _, ⟨.refl _, hx2, E0, fun _ _ _ z => z⟩, slotsI r n0 o (by omega), fun i d b h1 h2 => ?_⟩, ?_⟩
    · obtain ⟨rfl, rfl⟩ := envI_ow h1
      obtain ⟨a', h3, _, h4⟩ := (slotsI (N := N) (H := H) r n0 o (by omega)).ow _ _ h1
      rw [h2] at h3
      cases h3
      rw [← h4.1]; exact rem_at
    · unfold finW at q
      cases e : m (envI N a ds ks ws) with
      | rw d ρ =>
        rw [e] at q
        intro v σ H0' H' S' rv
        simp only at q
        cases e2 : ρ[n]? with
        | none => rw [e2] at q; exact q.elim
        | some bb =>
          rw [e2] at q
          cases bb with
          | no => exact q.elim
          | fz _ => exact q.elim
          | ow dd =>
            cases dd with
            | dat b ks' ws' =>
              simp only at q
              by_cases hba : b = a
              · subst hba
                rw [if_pos rfl] at q
                obtain ⟨a', h3, h4, h5⟩ := S'.s.ow n _ e2
                obtain ⟨rfl, h6⟩ := h5
                exact q v H0' H' S'.g h4 h6 rv
              · rw [if_neg hba] at q; exact q.elim
            | _ => exact q.elim
      | nx ρ => rw [e] at q; exact q.elim
      | bk ρ => rw [e] at q; exact q.elim
      | ct ρ => rw [e] at q; exact q.elim
      | rt d fr => rw [e] at q; exact q.elim
      | ex c vs ρ => rw [e] at q; exact q.elim
      | er => rw [e] at q; exact q.elim
end
/-! ### within: the name, d[k] = v, return, the call -/
def eVarD (i : Nat) : EV := fun ρ => match ρ[i]? with
  | some (.ow (.dat _ ks ws)) => .ok (.dct ks ws)
  | _ => .er
def datD (b : Option B) (k : Nat → List D → List D → O) : O := match b with
  | some (.ow (.dat a ks vs)) => k a ks vs
  | _ => .er
def sPutD (i : Nat) (fk fv : EV) : SV := sE fv fun d ρ => datD ρ[i]? fun b ks vs => sE fk (fun dk ρ => optP (putE ks vs dk d) fun ks' vs' => .nx (ρ.set i (.ow (.dat b ks' vs')))) ρ
def sRetW (f : EV) : SV := sE f fun d ρ => .rw d ρ
def ioO (i j : Nat) (b : Nat) (r : Option (D × List D × List D)) (ρ : List B) : O := match r with
  | some (d, ks, vs) => .nx ((ρ.set j (.ow (.dat b ks vs))).set i (.fz d))
  | none => .er
def sCallIO (i j : Nat) (f1 f2 f3 : EV) (sem : IOS) : SV := sE f1 fun d1 => sE f2 fun d2 => sE f3 fun d3 ρ => datD ρ[j]? fun b ks vs => ioO i j b (sem b [d1, d2, d3] ks vs) ρ
@[simp] theorem sPutD_ap {i : Nat} {fk fv : EV} {ρ : List B} : sPutD i fk fv ρ = rbd (fv ρ) ρ fun d => datD ρ[i]? fun b ks vs => rbd (fk ρ) ρ fun dk => optP (putE ks vs dk d) fun ks' vs' => .nx (ρ.set i (.ow (.dat b ks' vs'))) := by
  unfold sPutD
  rw [sE_rbd]
  congr 1
  funext d
  congr 1
  funext b ks vs
  exact sE_rbd
@[simp] theorem sRetW_ap {f : EV} {ρ : List B} : sRetW f ρ = rbd (f ρ) ρ fun d => .rw d ρ := sE_rbd
@[simp] theorem obd_rw {k : SV} {d : D} {ρ : List B} : obd (.rw d ρ) k = .rw d ρ := (rfl)
@[simp] theorem loopO_rw {k : SV} {d : D} {ρ : List B} : loopO (.rw d ρ) k = .rw d ρ := (rfl)
theorem sCallIO_ap {i j : Nat} {f1 f2 f3 : EV} {sem : IOS} {ρ : List B} : sCallIO i j f1 f2 f3 sem ρ = rbd (f1 ρ) ρ fun d1 => rbd (f2 ρ) ρ fun d2 => rbd (f3 ρ) ρ fun d3 => datD ρ[j]? fun b ks vs => ioO i j b (sem b [d1, d2, d3] ks vs) ρ := by
  unfold sCallIO
  rw [sE_rbd]
  cases f1 ρ with
  | ok d1 => rw [rbd_ok, rbd_ok, sE_rbd]; cases f2 ρ with
    | ok d2 => rw [rbd_ok, rbd_ok, sE_rbd]
    | ex c vs => rfl
    | er => rfl
  | ex c vs => rfl
  | er => rfl
section
variable {X : Cx} {κ : Kap} {W : WX} {mg : Str → Option Value} {base : Heap} {k : Nat} {N : List Str} {sc : Scope} {own : Str → Bool} {e a : Expr} {es : List Expr} {f fk fv f1 f2 f3 : EV} {pos p p1 p2 : Pos} {x y : Str} {i j : Nat}
theorem g_varD (G : Good X κ W mg base k N sc own) (h : ckV N sc i x = true) : PE X (.Name x pos) (tP κ W (PB κ) (eVarD i)) := by
  simp only [ckV, Bool.and_eq_true, decide_eq_true_eq] at h
  obtain ⟨h1, h2, h3⟩ := h
  refine PE_weak (pe_var (G.nth h1) (by rw [G.hs]; exact vis_of h2) (nodbg_of h3).1 (nodbg_of h3).2.1) fun σ H Q ⟨ρ, H0, E, S, q⟩ => ?_
  unfold eVarD at q
  split at q
  · rename_i b ks ws hd
    obtain ⟨a, hs, n0, hb, o⟩ := S.ow i _ hd
    exact ⟨_, hs, q _ H0 H (.refl E) (.inr ⟨a, rfl, n0, o⟩)⟩
  · exact q.elim
theorem g_putD (G : Good X κ W mg base k N sc own) (h : ckV N sc i x = true) (hl : isLcs e = false) (hsl : isSlice a = false) (hv : PE X e (tP κ W (PR κ) fv)) (hk : PE X a (tP κ W (PR κ) fk)) :
    PS X (.Assign [.Subscript (.Name x p) a p1] e pos) (tS κ W (sPutD i fk fv)) := by
  simp only [ckV, Bool.and_eq_true, decide_eq_true_eq] at h
  obtain ⟨h1, h2, h3⟩ := h
  refine PS_weak (ps_asg hv (pg_sub (pe_var (G.nth h1) (by rw [G.hs]; exact vis_of h2) (nodbg_of h3).1 (nodbg_of h3).2.1) hk (set_N G.hP G.hw G.un) (asg_sub hsl)) (swS_of hl) rfl) fun D σ H ⟨ρ, Hk, Hin0, Hin, H0, S, q⟩ => ?_
  refine tP_mono (fun v H1 z => ?_) (SE_of (P := PR κ) S q)
  obtain ⟨H01, d, g, pv, S1, z⟩ := z
  cases eo : ρ[i]? with
  | none => rw [eo] at z; exact z.elim
  | some bb =>
    rw [eo] at z
    cases bb with
    | no => exact z.elim
    | fz d => exact z.elim
    | ow dd =>
      cases dd with
      | dat b ks vs =>
        obtain ⟨a', hs, n0, hb, xs, ha, r1, r2, r3⟩ := S1.s.ow i _ eo
        subst hb
        have z : FinS κ W D Hk Hin0 Hin (sE fk (fun dk ρ => optP (putE ks vs dk d) fun ks' vs' => .nx (ρ.set i (.ow (.dat b ks' vs')))) ρ) := z
        refine ⟨_, hs, tP_mono (fun u H3 z2 => ?_) (SE_of (P := PR κ) S1 z)⟩
        obtain ⟨H03, dk, g2, pk, S3, z2⟩ := z2
        cases ep : putE ks vs dk d with
        | none => rw [ep] at z2; exact z2.elim
        | some pr =>
          obtain ⟨ks', vs'⟩ := pr
          rw [ep] at z2
          unfold putE at ep
          cases ek : keyD dk with
          | none => rw [ek] at ep; cases ep
          | some kk =>
            rw [ek] at ep
            have ep : (if okKeys ks && decide (ks.length < LIM) then some (putKs kk dk ks, putVs kk d ks vs) else none) = some (ks', vs') := ep
            split at ep
            · rename_i hk'
              cases ep
              obtain ⟨hk1, hk2⟩ := Bool.and_eq_true_iff.mp hk'
              have hlx : xs.length < LIM := by
                have e := congrArg List.length r3
                rw [List.length_map, List.length_map] at e
                rw [← e]; exact of_decide_eq_true hk2
              have pv : Rep κ H01 v d := pv
              have pk : Rep κ H03 u dk := pk
              have z2 : ∀ σ H0 H, SR κ Hk Hin0 Hin H0 σ H (ρ.set i (.ow (.dat b (putKs kk dk ks) (putVs kk d ks vs)))) → D.nx σ H := z2
              refine ⟨H03, b, xs, ks, vs, dk, kk, d, g2.c, rfl, g2.b _ _ ha, r1.mono g2.a, r2.mono g2.a, r3, hk1, pk, ek, pv.mono g2.a, hlx, fun xs' t1 t2 t3 => z2 _ H03 _ ?_⟩
              exact S3.mut eo hs ⟨rfl, xs', rfl, t1, t2, t3⟩
            · cases ep
      | _ => exact z.elim
theorem n_retW (he : PE X e (tP κ W (PR κ) f)) : PS X (.Return (some e) pos) (tS κ W (sRetW f)) := PS_weak (ps_ret he) fun D σ H ⟨ρ, Hk, Hin0, Hin, H0, S, q⟩ =>
  tP_mono (fun v H1 ⟨H01, d, g, p, S1, z⟩ => z v σ H01 H1 S1 p) (SE_of (P := PR κ) S q)
theorem SR.io {Hk Hin0 Hin A A' H H' : Hp} {σ : L2.St} {ρ : List B} {b : Nat} {ks vs ks' vs' : List D} (S : SR κ Hk Hin0 Hin A σ H ρ) (eo : ρ[j]? = some (.ow (.dat b ks vs))) (hs : σ[j]? = some (some (.ref b))) (g : Grow A (rem H b) A' H') (nb : A' b = none) (ob : Own κ A' b (H' b) (.dct ks' vs')) :
    SR κ Hk Hin0 Hin A' σ H' (ρ.set j (.ow (.dat b ks' vs'))) := by
  have hb := S.z j _ b eo hs
  have lt : j < ρ.length := (List.getElem?_eq_some_iff.mp eo).1
  have keep : ∀ p o, H p = some o → p ≠ b → H' p = some o := fun p o hp hn => g.b p o (by rw [rem_ne hn]; exact hp)
  have keepN : ∀ p o, H p = some o → A p = none → p ≠ b → A' p = none := fun p o hp hA hn => g.d p o (by rw [rem_ne hn]; exact hp) hA
  refine ⟨S.k.trans g.a, ⟨S.g.a.trans g.a, fun p o hp => keep p o (S.g.b p o hp) (ne_of_none hp hb), g.c, fun p o hp hn => keepN p o (S.g.b p o hp) (S.g.d p o hp hn) (ne_of_none hp hb)⟩, ⟨by rw [List.length_set]; exact S.s.len, fun q d e => ?_, fun q d e => ?_, fun q r d e a hqr h1 h2 h3 h4 => ?_⟩, fun q d a e h => ?_⟩
  · by_cases hq : q = j
    · subst hq
      rw [List.getElem?_set_self lt] at e
      cases e
    · rw [List.getElem?_set_ne (Ne.symm hq)] at e
      obtain ⟨v, h1, r⟩ := S.s.fz q d e
      exact ⟨v, h1, r.mono g.a⟩
  · by_cases hq : q = j
    · subst hq
      rw [List.getElem?_set_self lt] at e
      cases e
      exact ⟨b, hs, nb, rfl, ob⟩
    · rw [List.getElem?_set_ne (Ne.symm hq)] at e
      obtain ⟨a, h1, n, o⟩ := S.s.ow q d e
      have hne : a ≠ b := fun z => S.s.ap q j _ _ a hq e eo h1 (by rw [hs, z])
      obtain ⟨u, hu⟩ := o.sm
      exact ⟨a, h1, keepN a u hu n hne, by rw [keep a u hu hne]; rw [hu] at o; exact o.mono g.a⟩
  · have key : ∀ (q : Nat) (d : D), (ρ.set j (.ow (.dat b ks' vs')))[q]? = some (B.ow d) → ∃ d', ρ[q]? = some (B.ow d') := fun q d e => by
      by_cases hq : q = j
      · subst hq; exact ⟨_, eo⟩
      · rw [List.getElem?_set_ne (Ne.symm hq)] at e; exact ⟨d, e⟩
    obtain ⟨d1, k1⟩ := key q d h1
    obtain ⟨d2, k2⟩ := key r e h2
    exact S.s.ap q r d1 d2 a hqr k1 k2 h3 h4
  · by_cases hq : q = j
    · subst hq
      rw [hs] at h
      cases h
      exact hb
    · rw [List.getElem?_set_ne (Ne.symm hq)] at e
      exact S.z q d a e h
theorem g_callIO {c : Nat} {e1 e2 e3 : Expr} {z : Str} {sem : IOS} {p3 pos1 : Pos} (G : Good X κ W mg base k N sc own) (F : Io κ mg base c x 3 sem) (hj : c ≤ k) (hx : ckG sc x = true) (hy : ckT N sc own i y = true) (hd : ckV N sc j z = true) (st : ns1 e1 [e2, e3, .Name z p2])
    (h1 : PE X e1 (tP κ W (PR κ) f1)) (h2 : PE X e2 (tP κ W (PR κ) f2)) (h3 : PE X e3 (tP κ W (PR κ) f3)) :
    PS X (.Assign [.Name y p] (.Call (.Name x p1) [e1, e2, e3, .Name z p2] [] pos1) pos) (tS κ W (sCallIO i j f1 f2 f3 sem)) := by
  obtain ⟨g, fd, ps, Fn, hm, kp, bd⟩ := F.ex
  have Fn' : FnOk X.prog X.w X.K X.mg X.base (L2.CX X.prog X.w) c g fd ps (spIO κ 3 sem) := by rw [G.hP, G.hw, G.hK, G.hm, G.hb]; exact Fn
  obtain ⟨t1, t2, t3⟩ := ckT_of G hy
  have s1 := stars1 st
  have st2 := stars2 st
  have s2 := stars1 st2
  have st3 := stars2 st2
  have s3 := stars1 st3
  refine PS_weak (ps_asg (pe_callS Fn' (G.rm.mono hj) (G.gl hx) (by rw [G.hm]; exact hm) (by rw [G.hK]; exact kp) (by rw [G.hK]; exact bd) (fun σ => passAt G.tk σ)
    (pa_cons h1 (pa_cons h2 (pa_cons h3 (pa_cons (g_tv G hd) pa_nil (starEach_cons rfl)) (starEach_cons s3)) (starEach_cons s2)) (starEach_cons s1)) (ckG_db hx) (starEach_cons s1) (noStars st2)) (pg_name G.nodup t1 t2 t3) (swS_of rfl) rfl) fun D σ H ⟨ρ, Hk, Hin0, Hin, H0, S, q⟩ => ?_
  refine tP_mono (fun v1 H1 z => ?_) (SE_of (P := PR κ) S q)
  obtain ⟨A1, d1, g1, r1, S1, z⟩ := z
  refine tP_mono (fun v2 H2 z => ?_) (SE_of (P := PR κ) S1 z)
  obtain ⟨A2, d2, g2, r2, S2, z⟩ := z
  refine tP_mono (fun v3 H3 z => ?_) (SE_of (P := PR κ) S2 z)
  obtain ⟨A3, d3, g3, r3, S3, z⟩ := z
  have r1 : Rep κ A1 v1 d1 := r1
  have r2 : Rep κ A2 v2 d2 := r2
  have r3 : Rep κ A3 v3 d3 := r3
  cases eo : ρ[j]? with
  | none => rw [eo] at z; exact z.elim
  | some bb =>
    rw [eo] at z
    cases bb with
    | no => exact z.elim
    | fz d => exact z.elim
    | ow dd =>
      cases dd with
      | dat b ks vs =>
        obtain ⟨a', hs, n0, hb, o⟩ := S3.s.ow j _ eo
        subst hb
        have z : FinS κ W D Hk Hin0 Hin (ioO i j b (sem b [d1, d2, d3] ks vs) ρ) := z
        cases er : sem b [d1, d2, d3] ks vs with
        | none => rw [er] at z; exact z.elim
        | some pr =>
          obtain ⟨rd, ks', vs'⟩ := pr
          rw [er] at z
          refine ⟨_, hs, [v1, v2, v3], b, A3, [d1, d2, d3], ks, vs, rfl, g3.c, n0, o, .cons (r1.mono (g2.a.trans g3.a)) (.cons (r2.mono g3.a) (.cons r3 .nil)), rfl, ?_⟩
          rw [er]
          intro v A4 H4 g nb ob rv
          exact z _ A4 H4 ((S3.io eo hs g nb ob).set i rv)
      | _ => exact z.elim
/-! the call with a new dict -/
open Classical in
noncomputable def ioR (sem : IOS) (ds : List D) : R D := if h : ∃ d, ∀ p, ∃ ks vs, sem p ds [] [] = some (d, ks, vs) then .ok h.choose else .er
theorem ioR_eq {sem : IOS} {ds : List D} {d : D} (h : ∀ p, ∃ ks vs, sem p ds [] [] = some (d, ks, vs)) : ioR sem ds = .ok d := by
  unfold ioR
  have h' : ∃ d, ∀ p, ∃ ks vs, sem p ds [] [] = some (d, ks, vs) := ⟨d, h⟩
  rw [dif_pos h']
  obtain ⟨k1, v1, e1⟩ := h'.choose_spec 0
  obtain ⟨k2, v2, e2⟩ := h 0
  rw [e1] at e2
  cases e2
  rfl
noncomputable def eCallIO (f1 f2 f3 : EV) (sem : IOS) : EV := fun ρ => (f1 ρ).bind fun d1 => (f2 ρ).bind fun d2 => (f3 ρ).bind fun d3 => ioR sem [d1, d2, d3]
@[simp] theorem eCallIO_ap {f1 f2 f3 : EV} {sem : IOS} {ρ : List B} : eCallIO f1 f2 f3 sem ρ = (f1 ρ).bind fun d1 => (f2 ρ).bind fun d2 => (f3 ρ).bind fun d3 => ioR sem [d1, d2, d3] := (rfl)
theorem g_callIO0 {c : Nat} {e1 e2 e3 : Expr} {sem : IOS} {p3 pos1 : Pos} (G : Good X κ W mg base k N sc own) (F : Io κ mg base c x 3 sem) (hj : c ≤ k) (hx : ckG sc x = true) (st : ns1 e1 [e2, e3, .Dict [] [] p2])
    (h1 : PE X e1 (tP κ W (PR κ) f1)) (h2 : PE X e2 (tP κ W (PR κ) f2)) (h3 : PE X e3 (tP κ W (PR κ) f3)) :
    PE X (.Call (.Name x p1) [e1, e2, e3, .Dict [] [] p2] [] pos1) (tP κ W (PR κ) (eCallIO f1 f2 f3 sem)) := by
  obtain ⟨g, fd, ps, Fn, hm, kp, bd⟩ := F.ex
  have Fn' : FnOk X.prog X.w X.K X.mg X.base (L2.CX X.prog X.w) c g fd ps (spIO κ 3 sem) := by rw [G.hP, G.hw, G.hK, G.hm, G.hb]; exact Fn
  have s1 := stars1 st
  have st2 := stars2 st
  have s2 := stars1 st2
  have st3 := stars2 st2
  have s3 := stars1 st3
  refine PE_weak (pe_callS Fn' (G.rm.mono hj) (G.gl hx) (by rw [G.hm]; exact hm) (by rw [G.hK]; exact kp) (by rw [G.hK]; exact bd) (fun σ => passAt G.tk σ)
    (pa_cons h1 (pa_cons h2 (pa_cons h3 (pa_cons (n_dnew (κ := κ) (W := W)) pa_nil (starEach_cons rfl)) (starEach_cons s3)) (starEach_cons s2)) (starEach_cons s1)) (ckG_db hx) (starEach_cons s1) (noStars st2)) fun σ H Q ⟨ρ, H0, E, S, q⟩ => ?_
  have q : Fin κ W (PR κ) σ H0 H ((f1 ρ).bind fun d1 => (f2 ρ).bind fun d2 => (f3 ρ).bind fun d3 => ioR sem [d1, d2, d3]) Q := q
  refine tP_mono (fun v1 H1 z => ?_) (fin_bind (P := PR κ) pmR E S q)
  obtain ⟨A1, d1, g1, r1, z⟩ := z
  refine tP_mono (fun v2 H2 z => ?_) (fin_bind (P := PR κ) pmR g1.c (S.grow g1) z)
  obtain ⟨A2, d2, g2, r2, z⟩ := z
  refine tP_mono (fun v3 H3 z => ?_) (fin_bind (P := PR κ) pmR g2.c ((S.grow g1).grow g2) z)
  obtain ⟨A3, d3, g3, r3, z⟩ := z
  have r1 : Rep κ A1 v1 d1 := r1
  have r2 : Rep κ A2 v2 d2 := r2
  have r3 : Rep κ A3 v3 d3 := r3
  refine ⟨ρ, A3, g3.c, ((S.grow g1).grow g2).grow g3, fun vd A4 H4 g4 pd => ?_⟩
  obtain ⟨b, rfl, hb3, nb4, od⟩ := pd
  unfold ioR at z
  split at z
  · rename_i h
    obtain ⟨ks', vs', er⟩ := h.choose_spec b
    refine ⟨[v1, v2, v3], b, A4, [d1, d2, d3], [], [], rfl, g4.c, nb4, od, .cons (r1.mono ((g2.a.trans g3.a).trans g4.a)) (.cons (r2.mono (g3.a.trans g4.a)) (.cons (r3.mono g4.a) .nil)), rfl, ?_⟩
    rw [er]
    intro v A5 H5 g nb ob rv
    refine z v A5 H5 ⟨g4.a.trans g.a, fun p o hp => g.b p o (by rw [rem_ne (ne_of_none hp hb3)]; exact g4.b p o hp), g.c, fun p o hp hn => g.d p o (by rw [rem_ne (ne_of_none hp hb3)]; exact g4.b p o hp) (g4.d p o hp hn)⟩ rv
  · exact z.elim
end
end QY

/-! Plain: data that are told apart by ==. -/
namespace QY
open PySem PySem.Spec PyProof.Rows L2
structure Enc {α : Type} [DecidableEq α] (f : α → D) (k : Nat) : Prop where
  pl : ∀ a, (toPy (f a)).plain = true
  dp : ∀ a, (toPy (f a)).depth ≤ k
  eq : ∀ a b, PyData.eqv (toPy (f a)) (toPy (f b)) = decide (a = b)
section
variable {α β : Type} [DecidableEq α] [DecidableEq β] {f : α → D} {g : β → D} {k l : Nat}
theorem enc_int : Enc D.int 0 := ⟨fun _ => rfl, fun _ => Nat.le_refl _, fun a b => by show (a == b) = _; rw [beq_dec]⟩
theorem enc_str : Enc D.str 0 := ⟨fun _ => rfl, fun _ => Nat.le_refl _, fun a b => by show (a == b) = _; rw [beq_dec]⟩
theorem enc_bl : Enc D.bl 0 := ⟨fun _ => rfl, fun _ => Nat.le_refl _, fun a b => by cases a <;> cases b <;> rfl⟩
theorem enc_plainAll (h : Enc f k) : ∀ xs : List α, PyData.plainAll (toPys (xs.map f)) = true
  | [] => rfl
  | x :: xs => by show ((toPy (f x)).plain && PyData.plainAll (toPys (xs.map f))) = true; rw [h.pl, enc_plainAll h xs]; rfl
theorem enc_depthAll (h : Enc f k) : ∀ xs : List α, PyData.depthAll (toPys (xs.map f)) ≤ k
  | [] => Nat.zero_le _
  | x :: xs => by
    show max (toPy (f x)).depth (PyData.depthAll (toPys (xs.map f))) ≤ k
    exact Nat.max_le.mpr ⟨h.dp x, enc_depthAll h xs⟩
theorem enc_eqvAll (h : Enc f k) : ∀ xs ys : List α, PyData.eqvAll (toPys (xs.map f)) (toPys (ys.map f)) = decide (xs = ys)
  | [], [] => by simp [toPys, PyData.eqvAll]
  | x :: xs, [] => by simp [toPys, PyData.eqvAll]
  | [], y :: ys => by simp [toPys, PyData.eqvAll]
  | x :: xs, y :: ys => by
    show PyData.eqvAll (toPy (f x) :: toPys (xs.map f)) (toPy (f y) :: toPys (ys.map f)) = _
    rw [PyData.eqvAll, enc_eqvAll h xs ys, h.eq]
    simp
theorem enc_lst (h : Enc f k) : Enc (fun xs : List α => D.lst (xs.map f)) (k + 1) :=
  ⟨fun xs => enc_plainAll h xs, fun xs => by show PyData.depthAll (toPys (xs.map f)) + 1 ≤ k + 1; have := enc_depthAll h xs; omega, fun xs ys => enc_eqvAll h xs ys⟩
theorem enc_tup (h : Enc f k) : Enc (fun xs : List α => D.tup (xs.map f)) (k + 1) :=
  ⟨fun xs => enc_plainAll h xs, fun xs => by show PyData.depthAll (toPys (xs.map f)) + 1 ≤ k + 1; have := enc_depthAll h xs; omega, fun xs ys => enc_eqvAll h xs ys⟩
theorem enc_pair (h : Enc f k) (h2 : Enc g l) : Enc (fun p : α × β => D.tup [f p.1, g p.2]) (max k l + 1) := by
  refine ⟨fun p => ?_, fun p => ?_, fun p q => ?_⟩
  · show ((toPy (f p.1)).plain && ((toPy (g p.2)).plain && true)) = true
    rw [h.pl, h2.pl]; rfl
  · show max (toPy (f p.1)).depth (max (toPy (g p.2)).depth 0) + 1 ≤ max k l + 1
    have h1 := h.dp p.1
    have h2 := h2.dp p.2
    have h3 := Nat.le_max_left k l
    have h4 := Nat.le_max_right k l
    refine Nat.succ_le_succ (Nat.max_le.mpr ⟨by omega, Nat.max_le.mpr ⟨by omega, Nat.zero_le _⟩⟩)
  · show PyData.eqvAll [toPy (f p.1), toPy (g p.2)] [toPy (f q.1), toPy (g q.2)] = _
    rw [PyData.eqvAll, PyData.eqvAll, PyData.eqvAll, h.eq, h2.eq, Bool.and_true]
    obtain ⟨p1, p2⟩ := p
    obtain ⟨q1, q2⟩ := q
    simp only [Prod.mk.injEq]
    by_cases a : p1 = q1 <;> by_cases b : p2 = q2 <;> simp [a, b]
theorem enc_eq (h : Enc f k) (hk : k ≤ 60) {a b : α} : eqD (f a) (f b) = some (.bl (decide (a = b))) := by
  unfold eqD okEq
  rw [if_pos, h.eq]
  rw [h.pl, h.pl]
  have h1 := h.dp a
  simp only [Bool.true_and, decide_eq_true_eq]
  exact Nat.le_trans (Nat.min_le_left _ _) (by omega)
theorem enc_ne (h : Enc f k) (hk : k ≤ 60) {a b : α} : neD (f a) (f b) = some (.bl (!decide (a = b))) := by
  unfold neD okEq
  rw [if_pos, h.eq]
  rw [h.pl, h.pl]
  have h1 := h.dp a
  simp only [Bool.true_and, decide_eq_true_eq]
  exact Nat.le_trans (Nat.min_le_left _ _) (by omega)
theorem enc_any (h : Enc f k) (a : α) : ∀ xs : List α, ((toPys (xs.map f)).any fun y => PyData.eqv y (toPy (f a))) = decide (a ∈ xs)
  | [] => by simp [toPys]
  | x :: xs => by
    show (PyData.eqv (toPy (f x)) (toPy (f a)) || (toPys (xs.map f)).any fun y => PyData.eqv y (toPy (f a))) = _
    rw [h.eq, enc_any h a xs, ← Bool.decide_or]
    refine decide_eq_decide.mpr ?_
    rw [List.mem_cons]
    exact or_congr_left eq_comm
theorem enc_okIn (h : Enc f k) (hk : k ≤ 60) (a : α) (xs : List α) : okIn (toPy (f a)) (toPys (xs.map f)) = true := by
  unfold okIn
  rw [h.pl, enc_plainAll h]
  have h1 := h.dp a
  simp only [Bool.true_and, decide_eq_true_eq]
  exact Nat.le_trans (Nat.min_le_right _ _) (by omega)
/-- x in [..], x no text -/
theorem enc_in (h : Enc f k) (hk : k ≤ 60) {neg : Bool} {a : α} {xs : List α} : inD neg (f a) (.lst (xs.map f)) = some (.bl (if neg then !decide (a ∈ xs) else decide (a ∈ xs))) := by
  have e : inD neg (f a) (.lst (xs.map f)) = if okIn (toPy (f a)) (toPys (xs.map f)) then some (.bl (if neg then !((toPys (xs.map f)).any fun y => PyData.eqv y (toPy (f a))) else (toPys (xs.map f)).any fun y => PyData.eqv y (toPy (f a)))) else none := by
    cases f a <;> rfl
  rw [e, if_pos (enc_okIn h hk a xs), enc_any h]
theorem enc_inE (h : Enc f k) (hk : k ≤ 60) {neg : Bool} {a : α} {xs : List α} : inE neg (f a) (.lst (xs.map f)) = some (.bl (if neg then !decide (a ∈ xs) else decide (a ∈ xs))) := enc_in h hk
end
theorem enc_tupD : Enc tupD 1 := enc_tup enc_int
theorem in_tups {T : List (List Int)} {t : List Int} : inE false (tupD t) (.lst (tupsD T)) = some (.bl (decide (t ∈ T))) := by
  have h := enc_inE (neg := false) (a := t) (xs := T) enc_tupD (by decide)
  rw [if_neg (by decide)] at h
  exact h.trans (congrArg (fun b => some (D.bl b)) (decide_eq_decide.mpr Iff.rfl))
theorem nin_tups {T : List (List Int)} {t : List Int} : inE true (tupD t) (.lst (tupsD T)) = some (.bl (!decide (t ∈ T))) := by
  have h := enc_inE (neg := true) (a := t) (xs := T) enc_tupD (by decide)
  rw [if_pos rfl] at h
  exact h.trans (congrArg (fun b => some (D.bl (!b))) (decide_eq_decide.mpr Iff.rfl))
end QY

/-! Plain: the law's columns. -/
namespace QY
open PySem PySem.Spec PyProof.Rows L2
def lastP (T : List (List Int)) (a : List Int) : Bool := (List.range (a.length + 1)).all fun k => decide ([(bd a).getD k 0, -1, (bd a).getD (k + 1) 0, -1] ∈ T)
def above (c : List Int) : Int := c.getLast?.getD (-1)
def condC (T : List (List Int)) (one : List Int) (k : Nat) (c : List Int) (m : Int) : Bool := decide ([(bd one).getD k 0, above c, (bd one).getD (k + 1) 0, m] ∈ T)
def marksC (L : Str) (tx : Str) (k : Nat) : List Int := if k < tx.length then ((List.range L.length).filter fun m => decide (letAt L m = letAt tx k)).map fun (i : Nat) => (i : Int) else [-1]
def stepC (L : Str) (T : List (List Int)) (one : List Int) (tx : Str) (k : Nat) (c : List Int) : List (List Int) := ((marksC L tx k).filter (condC T one k c)).map fun m => c ++ [m]
def levelC (L : Str) (T : List (List Int)) (one : List Int) (tx : Str) : List Nat → List (List Int) → List (List Int)
  | [], S => S
  | k :: ks, S => levelC L T one tx ks (S.flatMap (stepC L T one tx k))
theorem sys_0 {L : Str} {T : List (List Int)} : ixD (sysD L T) (.int 0) = some (.str L) := rfl
theorem sys_1 {L : Str} {T : List (List Int)} : ixD (sysD L T) (.int 1) = some (.lst (tupsD T)) := rfl
theorem marksC_len (L tx : Str) (k : Nat) (hL : L.length ≤ 16) : (marksC L tx k).length ≤ 16 := by
  unfold marksC
  split
  · rw [List.length_map]
    have := List.length_filter_le (fun m => decide (letAt L m = letAt tx k)) (List.range L.length)
    rw [List.length_range] at this
    omega
  · decide
theorem marksC_len8 (L tx : Str) (k : Nat) (hL : L.length ≤ 8) : (marksC L tx k).length ≤ 8 := by
  unfold marksC
  split
  · rw [List.length_map]
    have := List.length_filter_le (fun m => decide (letAt L m = letAt tx k)) (List.range L.length)
    rw [List.length_range] at this
    omega
  · decide
theorem stepC_len {L tx : Str} {T : List (List Int)} {one c : List Int} {k : Nat} (hL : L.length ≤ 16) : (stepC L T one tx k c).length ≤ 17 := by
  unfold stepC
  rw [List.length_map]
  have := List.length_filter_le (condC T one k c) (marksC L tx k)
  have := marksC_len L tx k hL
  omega
theorem stepC_len8 {L tx : Str} {T : List (List Int)} {one c : List Int} {k : Nat} (hL : L.length ≤ 8) : (stepC L T one tx k c).length ≤ 8 := by
  unfold stepC
  rw [List.length_map]
  have := List.length_filter_le (condC T one k c) (marksC L tx k)
  have := marksC_len8 L tx k hL
  omega
theorem levelC_len {L tx : Str} {T : List (List Int)} {one : List Int} (hL : L.length ≤ 8) : ∀ (ks : List Nat) (S : List (List Int)), (levelC L T one tx ks S).length ≤ S.length * 8 ^ ks.length
  | [], S => by simp [levelC]
  | k :: ks, S => by
    have h1 := levelC_len (tx := tx) (T := T) (one := one) hL ks (S.flatMap (stepC L T one tx k))
    have h2 := flat_len (f := stepC L T one tx k) (n := 8) (fun _ => stepC_len8 hL) S
    refine Nat.le_trans h1 (Nat.le_trans (Nat.mul_le_mul_right _ h2) ?_)
    rw [List.length_cons, Nat.pow_succ, Nat.mul_assoc, Nat.mul_comm (8 ^ ks.length)]
    exact Nat.le_refl _
theorem ix_last {x : Int} {r : List Int} : ixD (tupD (x :: r)) (.int (-1)) = some (.int (above (x :: r))) := by
  show atI ((x :: r).map D.int) (-1) = _
  rw [QY.atI_map]
  have : atI (x :: r) (-1) = (x :: r).getLast? := by
    have h := atI_last (xs := (x :: r).dropLast) (v := (x :: r).getLast (by simp))
    rw [List.dropLast_concat_getLast] at h
    rw [h, List.getLast?_eq_some_getLast (by simp : x :: r ≠ [])]
  rw [this]
  unfold above
  rw [List.getLast?_eq_some_getLast (by simp : x :: r ≠ [])]
  rfl
theorem cut_map {α β : Type} (g : α → β) (l : List α) (lo hi : Option Int) : cutL (l.map g) lo hi = (cutL l lo hi).map g := by
  unfold cutL
  rw [List.length_map, List.map_take, List.map_drop]
theorem take2 {α : Type} : ∀ (l : List α) (k : Nat) (d : α), k + 2 ≤ l.length → (l.drop k).take 2 = [l.getD k d, l.getD (k + 1) d]
  | [], k, d, h => by simp at h
  | [a], k, d, h => by simp at h
  | a :: b :: l, 0, d, h => rfl
  | a :: b :: l, k + 1, d, h => by
    have := take2 (b :: l) k d (by simpa using h)
    simpa using this
theorem sl_two {b : List Int} {k : Nat} (h : k + 2 ≤ b.length) : slD (tupD b) (some (k : Int)) (some ((k + 2 : Nat) : Int)) = some (tupD [b.getD k 0, b.getD (k + 1) 0]) := by
  show some (D.tup (cutL (b.map D.int) _ _)) = _
  rw [cut_map]
  unfold cutL
  rw [HT.sIx_nat, HT.sIx_nat, Nat.min_eq_left (show k ≤ b.length by omega), Nat.min_eq_left h, show k + 2 - k = 2 by omega, take2 b k 0 h]
  rfl
theorem sl_dl {c : List Int} : slD (tupD c) none (some (-1)) = some (tupD c.dropLast) := by
  show some (D.tup (cutL (c.map D.int) _ _)) = _
  rw [cut_map]
  unfold cutL
  rw [HT.sIx_none, List.drop_zero, Nat.sub_zero, List.dropLast_eq_take]
  have : HT.sIx c.length c.length (some (-1)) = c.length - 1 := by
    show (if (-1 : Int) < 0 then ((-1 : Int) + (c.length : Int)).toNat else min (-1 : Int).toNat c.length) = _
    rw [if_pos (by decide)]; omega
  rw [this]
  rfl
/-! ### the same columns -/
theorem bd_get {one : List Int} {k : Nat} (h : k < one.length) : (bd one).getD (k + 1) 0 = one.getD k 0 := by
  unfold bd
  rw [List.append_assoc, List.singleton_append, List.getD_cons_succ, List.getD_eq_getElem?_getD, List.getElem?_append_left h, ← List.getD_eq_getElem?_getD]
theorem bd_end {one : List Int} : (bd one).getD (one.length + 1) 0 = -1 := by
  unfold bd
  rw [List.append_assoc, List.singleton_append, List.getD_cons_succ, List.getD_eq_getElem?_getD, List.getElem?_append_right (Nat.le_refl _), Nat.sub_self]
  rfl
theorem above_snoc {c : List Int} {m : Int} : above (c ++ [m]) = m := by
  unfold above
  rw [List.getLast?_append]; rfl
def invC (one : List Int) (k : Nat) (S : List Tri) : Prop := ∀ s ∈ S, s.2.1 = (bd one).getD k 0 ∧ s.2.2 = above s.1
theorem step_same {L tx : Str} {T : List (List Int)} {one : List Int} {k : Nat} (ht : tx.length = one.length) (hk : k < one.length) {s : Tri} (h1 : s.2.1 = (bd one).getD k 0) (h2 : s.2.2 = above s.1) : (step1 L T one (some tx) k s).map (·.1) = stepC L T one tx k s.1 := by
  unfold step1 stepC marksC
  rw [if_pos (by omega), List.map_map, List.filter_map, List.map_map, List.filter_filter]
  have e : (goM L T one (some tx) k s) = fun m => ((condC T one k s.1 ∘ fun (i : Nat) => (i : Int)) m && decide (letAt L m = letAt tx k)) := by
    funext m
    unfold goM condC
    rw [h1, h2, ← bd_get hk, Bool.and_comm]
    rfl
  rw [e]
  rfl
theorem step_inv {L tx : Str} {T : List (List Int)} {one : List Int} {k : Nat} (hk : k < one.length) {S : List Tri} : invC one (k + 1) (S.flatMap (step1 L T one (some tx) k)) := by
  intro s hs
  obtain ⟨s0, _, h1⟩ := List.mem_flatMap.mp hs
  obtain ⟨m, _, rfl⟩ := List.mem_map.mp h1
  exact ⟨(bd_get hk).symm, above_snoc.symm⟩
theorem level_same {L tx : Str} {T : List (List Int)} {one : List Int} (ht : tx.length = one.length) : ∀ (n k : Nat) (S : List Tri), k + n ≤ one.length → invC one k S → (stepAll L T one (some tx) (List.range' k n) S).map (·.1) = levelC L T one tx (List.range' k n) (S.map (·.1)) ∧ invC one (k + n) (stepAll L T one (some tx) (List.range' k n) S)
  | 0, k, S, _, h => ⟨rfl, h⟩
  | n + 1, k, S, hk, h => by
    rw [List.range'_succ]
    have h1 := level_same (L := L) (T := T) ht n (k + 1) (S.flatMap (step1 L T one (some tx) k)) (by omega) (step_inv (by omega))
    have e : (S.flatMap (step1 L T one (some tx) k)).map (·.1) = (S.map (·.1)).flatMap (stepC L T one tx k) := by
      rw [List.map_flatMap, List.flatMap_map]
      refine flatMap_congr' fun s hs => ?_
      have := h s hs
      exact step_same ht (by omega) this.1 this.2
    rw [e] at h1
    rw [show k + (n + 1) = k + 1 + n by omega]
    exact h1
where flatMap_congr' {α β : Type} {f g : α → List β} : ∀ {l : List α}, (∀ a ∈ l, f a = g a) → l.flatMap f = l.flatMap g
  | [], _ => rfl
  | a :: l, h => by
    rw [List.flatMap_cons, List.flatMap_cons, h a (by simp), flatMap_congr' fun b hb => h b (List.mem_cons_of_mem _ hb)]
theorem level_app {L tx : Str} {T : List (List Int)} {one : List Int} : ∀ (ks : List Nat) (k : Nat) (S : List (List Int)), levelC L T one tx (ks ++ [k]) S = (levelC L T one tx ks S).flatMap (stepC L T one tx k)
  | [], k, S => rfl
  | j :: ks, k, S => level_app ks k _
theorem col_same {L tx : Str} {T : List (List Int)} {one : List Int} (ht : tx.length = one.length) : (levelC L T one tx (List.range (one.length + 1)) [[]]).map List.dropLast = behP L T one (some tx) := by
  have h := level_same (L := L) (T := T) ht one.length 0 [([], -1, -1)] (by omega) (fun s hs => by
    rw [List.mem_singleton] at hs; subst hs
    exact ⟨rfl, rfl⟩)
  rw [← List.range_eq_range', Nat.zero_add] at h
  obtain ⟨h1, h2⟩ := h
  have h1 : (stepAll L T one (some tx) (List.range one.length) [([], -1, -1)]).map (·.1) = levelC L T one tx (List.range one.length) [[]] := h1
  unfold behP behT
  rw [List.range_succ, level_app, ← h1]
  generalize stepAll L T one (some tx) (List.range one.length) [([], -1, -1)] = S at h2
  induction S with
  | nil => rfl
  | cons s r ih =>
    have hs := h2 s (by simp)
    have ih := ih fun q hq => h2 q (List.mem_cons_of_mem _ hq)
    rw [List.map_cons, List.flatMap_cons, List.map_append, ih]
    have em : stepC L T one tx one.length s.1 = if decide ([s.2.1, s.2.2, -1, -1] ∈ T) then [s.1 ++ [-1]] else [] := by
      unfold stepC marksC condC
      rw [if_neg (by omega), bd_end, hs.1, hs.2]
      generalize (bd one).getD one.length 0 = x
      generalize above s.1 = y
      rw [List.filter_cons, List.filter_nil]
      cases decide ([x, y, -1, -1] ∈ T) <;> rfl
    rw [em]
    cases hc : decide ([s.2.1, s.2.2, -1, -1] ∈ T) with
    | true => rw [List.filter_cons_of_pos (by rw [hc])]; simp
    | false => rw [List.filter_cons_of_neg (by rw [hc]; decide)]; simp
theorem last_same {T : List (List Int)} {a : List Int} {h : Nat} (ha : a.length = h) : lastP T a = fitsP T a (List.replicate h (-1)) := by
  unfold lastP fitsP
  have hb : ∀ k, k < h + 2 → (bd (List.replicate h (-1))).getD k 0 = -1 := by
    intro k hk
    have : bd (List.replicate h (-1)) = List.replicate (h + 2) (-1) := by
      unfold bd
      rw [show ([-1] : List Int) = List.replicate 1 (-1) from rfl, List.replicate_append_replicate, List.replicate_append_replicate]
      congr 1; omega
    rw [this, List.getD_eq_getElem?_getD, List.getElem?_replicate, if_pos hk]; rfl
  rw [Bool.eq_iff_iff, List.all_eq_true, List.all_eq_true]
  constructor
  · intro h1 k hk
    have := h1 k hk
    have hk := List.mem_range.mp hk
    rw [hb k (by omega), hb (k + 1) (by omega)]; exact this
  · intro h1 k hk
    have := h1 k hk
    have hk := List.mem_range.mp hk
    rw [hb k (by omega), hb (k + 1) (by omega)] at this; exact this
end QY

/-! Plain: pictures. -/
namespace QY
open PySem PySem.Spec PyProof.Rows L2
def picD (rows : List Str) : D := .lst (rows.map .str)
def goodR (w : Nat) (r : Str) : Bool := decide (r.length = w) && lets r
def good : List Str → Bool
  | [] => false
  | r0 :: rest => decide ((r0 :: rest).length ≤ 4) && (decide (1 ≤ r0.length ∧ r0.length ≤ 12) && (r0 :: rest).all (goodR r0.length))
structure Small (rows : List Str) : Prop where
  n : rows.length ≤ 1000
  w : ∀ r ∈ rows, r.length ≤ 1000
def bls (r : Str) : List D := r.cps.toList.map fun c => .bl (letB c)
theorem all_lets (r : Str) : allD [.lst (bls r)] = some (.bl (lets r)) := by
  have : bls r = (r.cps.toList.map letB).map D.bl := by unfold bls; rw [List.map_map]; rfl
  rw [this]
  show (asBls _).map _ = _
  rw [asBls_map]
  unfold lets
  rw [Option.map_some, List.all_map]; rfl
def chr (r : Str) (x : Nat) : Str := ⟨#[r.cps.getD x 0]⟩
theorem ix_chr {r : Str} {x : Nat} (h : x < r.length) (h2 : r.length ≤ 1000) : ixD (.str r) (.int (x : Int)) = some (.str (chr r x)) := by
  rw [ix_str (lim1 (Nat.le_trans h2 (by decide)))]
  have e : r.cps.toList[x]? = some (r.cps.getD x 0) := by
    have h : x < r.cps.size := h
    rw [Array.getElem?_toList, Array.getD_eq_getD_getElem?, Array.getElem?_eq_getElem h]
    rfl
  rw [e]; rfl
theorem sum_ones {l : List Str} (h : ∀ s ∈ l, s.length = 1) : (l.map (·.length)).sum = l.length := by
  induction l with
  | nil => rfl
  | cons a r ih => rw [List.map_cons, List.sum_cons, h a List.mem_cons_self, ih fun s hs => h s (List.mem_cons_of_mem _ hs), List.length_cons, Nat.add_comm]
theorem join_ok {ys : List Str} (h : (ys.map (·.length)).sum ≤ 1000000) : joinD (.str "") [.lst (ys.map .str)] = some (.str (Txt.join "" ys)) := by
  unfold joinD
  simp only [asStrs_map]
  rw [if_pos]
  have : ("" : Str).length = 0 := by decide
  rw [this, Nat.mul_zero, Nat.add_zero]
  exact Nat.le_trans h (by decide)
def colsL : List Str → List D
  | [] => []
  | r0 :: rest => (List.range r0.length).map fun x => .str (Txt.join "" ((r0 :: rest).map fun r => chr r x))
theorem good_w {r0 : Str} {rest : List Str} (h : good (r0 :: rest) = true) : (r0 :: rest).length ≤ 4 ∧ 1 ≤ r0.length ∧ r0.length ≤ 12 ∧ ∀ r ∈ r0 :: rest, r.length = r0.length ∧ lets r = true := by
  simp only [good, Bool.and_eq_true, decide_eq_true_eq, List.all_eq_true, goodR] at h
  exact ⟨h.1, h.2.1.1, h.2.1.2, h.2.2⟩
theorem pic_items (rows : List Str) : itemsD (picD rows) = some (rows.map .str) := rfl
theorem pic_len (rows : List Str) : lenD [picD rows] = some (.int (rows.length : Nat)) := by unfold picD; rw [len_lst, List.length_map]
theorem pic_ix {r0 : Str} {rest : List Str} : ixD (picD (r0 :: rest)) (.int 0) = some (.str r0) := ix_lst (j := 0)
theorem pic_ixN {rows : List Str} {k : Nat} (h : k < rows.length) : ixD (picD rows) (.int (k : Int)) = some (.str (rows.getD k "")) := by
  unfold picD
  rw [ix_lst, List.getElem?_map, List.getElem?_eq_getElem h, List.getD_eq_getElem?_getD, List.getElem?_eq_getElem h]
  rfl
/-- a column's letters, for any such pair of texts -/
theorem col_of {elt : EV} {ρ : List B} {i : Nat} {a : List Str} {x : Nat} (hs : ∀ r ∈ a, x < r.length ∧ r.length ≤ 1000) (hn : a.length ≤ 1000) {it : AV} (hi : it ρ = .ok (a.map .str)) (he : ∀ s : Str, elt ((wipeB ρ [i]).set i (.fz (.str s))) = (R.of (ixD (.str s) (.int (x : Int))))) :
    eMeth "str" joinD (eCon (.str "")) (aCons (eLc it (.nm i) (fun _ => .ok true) elt [i]) aNil) ρ = .ok (.str (Txt.join "" (a.map fun r => chr r x))) := by
  have e := eLc_map (i := i) (ρ := ρ) (it := it) (elt := elt) (vs := [i]) (ds := a.map .str) (g := fun d => match d with | .str s => .str (chr s x) | _ => .non) hi (fun d hd => by
    obtain ⟨r, hr, rfl⟩ := List.mem_map.mp hd
    obtain ⟨h1, h2⟩ := hs r hr
    rw [he, ix_chr h1 h2]; rfl) (by rw [List.length_map]; exact lim2 (Nat.le_trans hn (by decide)))
  have e2 : ((a.map D.str).map fun d => match d with | .str s => D.str (chr s x) | _ => .non) = (a.map fun r => chr r x).map D.str := by rw [List.map_map, List.map_map]; rfl
  rw [e2] at e
  have hj : ((a.map fun r => chr r x).map (·.length)).sum ≤ 1000000 := by
    rw [sum_ones fun s hs => by obtain ⟨r, _, rfl⟩ := List.mem_map.mp hs; rfl, List.length_map]; omega
  simp only [eMeth_ap, eCon_ap, R.bind_ok, ty_str, if_pos, aCons_ap, e, aNil_ap, join_ok hj, R.of_some]
end QY

/-! Plain: what a system lets by, column by column. -/
namespace QY
open PySem PySem.Spec PyProof.Rows L2
/-! ### how many columns there are -/
theorem len_sub {α : Type} [DecidableEq α] : ∀ {l m : List α}, l.Nodup → (∀ x ∈ l, x ∈ m) → l.length ≤ m.length
  | [], m, _, _ => Nat.zero_le _
  | x :: r, m, h, hs => by
    have h' := List.nodup_cons.mp h
    have hx : x ∈ m := hs x (by simp)
    have := len_sub (l := r) (m := m.erase x) h'.2 fun y hy => by
      have hne : y ≠ x := fun e => h'.1 (e ▸ hy)
      exact (List.mem_erase_of_ne hne).mpr (hs y (List.mem_cons_of_mem _ hy))
    rw [List.length_erase_of_mem hx] at this
    have hp : 0 < m.length := List.length_pos_of_mem hx
    rw [List.length_cons]; omega
def allC (n : Nat) : Nat → List (List Int)
  | 0 => [[]]
  | h + 1 => (allC n h).flatMap fun c => (List.range n).map fun (m : Nat) => (m : Int) :: c
theorem allC_len (n : Nat) : ∀ h, (allC n h).length ≤ n ^ h
  | 0 => by simp [allC]
  | h + 1 => by
    have h1 := allC_len n h
    have h2 := flat_len (f := fun (c : List Int) => (List.range n).map fun (m : Nat) => (m : Int) :: c) (n := n) (fun c => by rw [List.length_map, List.length_range]; exact Nat.le_refl _) (allC n h)
    rw [Nat.pow_succ]
    exact Nat.le_trans h2 (Nat.mul_le_mul_right _ h1)
def isCol (n h : Nat) (c : List Int) : Prop := c.length = h ∧ ∀ x ∈ c, ∃ m : Nat, x = (m : Int) ∧ m < n
theorem allC_mem {n : Nat} : ∀ {h : Nat} {c : List Int}, isCol n h c → c ∈ allC n h
  | 0, c, hc => by
    have : c = [] := List.length_eq_zero_iff.mp hc.1
    subst this; simp [allC]
  | h + 1, [], hc => by have := hc.1; simp at this
  | h + 1, x :: r, hc => by
    obtain ⟨m, rfl, hm⟩ := hc.2 x (by simp)
    exact List.mem_flatMap.mpr ⟨r, allC_mem ⟨by simpa using hc.1, fun y hy => hc.2 y (List.mem_cons_of_mem _ hy)⟩, List.mem_map.mpr ⟨m, List.mem_range.mpr hm, rfl⟩⟩
theorem cols_len {n h : Nat} {S : List (List Int)} (nd : S.Nodup) (hS : ∀ c ∈ S, isCol n h c) : S.length ≤ n ^ h := Nat.le_trans (len_sub nd fun c hc => allC_mem (hS c hc)) (allC_len n h)
theorem pow4 {n h : Nat} (hn : n ≤ 4) (hh : h ≤ 4) : n ^ h ≤ 256 := Nat.le_trans (Nat.pow_le_pow_left hn h) (Nat.le_trans (Nat.pow_le_pow_right (by decide) hh) (by decide))
theorem behP_len4 {L : Str} {T : List (List Int)} {one : List Int} {tx : Option Str} (hL : L.length ≤ 4) (ho : one.length ≤ 4) : (behP L T one tx).length ≤ 256 := by
  unfold behP behT
  rw [List.length_map]
  refine Nat.le_trans (List.length_filter_le _ _) (Nat.le_trans (stepAll_len _ _) ?_)
  rw [List.length_range, List.length_singleton, Nat.one_mul]
  exact pow4 hL ho
/-! ### one step -/
def stepP (L : Str) (T S : List (List Int)) (tx : Str) : List (List Int) := sortI (insAll [] (S.flatMap fun one => behP L T one (some tx)))
theorem stepP_mem {L : Str} {T S : List (List Int)} {tx : Str} {c : List Int} : c ∈ stepP L T S tx ↔ ∃ one ∈ S, c ∈ behP L T one (some tx) := by
  unfold stepP
  rw [(sortI_perm _).mem_iff, insAll_mem, List.mem_flatMap]
  simp
theorem stepP_nodup {L : Str} {T S : List (List Int)} {tx : Str} : (stepP L T S tx).Nodup := (sortI_perm _).nodup_iff.mpr (insAll_nodup List.nodup_nil)
theorem stepP_srt {L : Str} {T S : List (List Int)} {tx : Str} : SrtI (stepP L T S tx) := sortI_srt _
def isCols (n h : Nat) (S : List (List Int)) : Prop := ∀ c ∈ S, c.length = h
theorem stepP_col {L : Str} {T S : List (List Int)} {tx : Str} {h : Nat} (hS : ∀ c ∈ S, c.length = h) : ∀ c ∈ stepP L T S tx, isCol L.length h c := fun c hc => by
  obtain ⟨one, h1, h2⟩ := stepP_mem.mp hc
  have := behP_ok c h2
  exact ⟨by rw [this.1, hS one h1], this.2⟩
theorem stepP_len {L : Str} {T S : List (List Int)} {tx : Str} {h : Nat} (hL : L.length ≤ 4) (hh : h ≤ 4) (hS : ∀ c ∈ S, c.length = h) : (stepP L T S tx).length ≤ 256 :=
  Nat.le_trans (cols_len stepP_nodup (stepP_col hS)) (pow4 hL hh)
/-! ### to the right, back, and the least way -/
def fwd (L : Str) (T : List (List Int)) : List Str → List (List Int) → List (List (List Int))
  | [], _ => []
  | t :: ts, S => stepP L T S t :: fwd L T ts (stepP L T S t)
def endP (T : List (List Int)) (c : List Int) : Bool := fitsP T c (List.replicate c.length (-1))
def bw (T : List (List Int)) : List (List (List Int)) → List (List (List Int))
  | [] => []
  | [F] => [F.filter (endP T)]
  | F :: G :: Fs => (F.filter fun o => ((bw T (G :: Fs)).headD []).any fun x => fitsP T o x) :: bw T (G :: Fs)
def gr (T : List (List Int)) : List Int → List (List (List Int)) → Option (List (List Int))
  | _, [] => some []
  | l, W :: Ws => match W.filter fun c => fitsP T l c with
    | [] => none
    | c :: _ => (gr T c Ws).map fun r => c :: r
def leastP (L : Str) (T : List (List Int)) : List Str → List Int → Option (List (List Int))
  | [], _ => some []
  | t :: ts, l => (sortI ((behP L T l (some t)).filter fun c => !ts.isEmpty || endP T c)).findSome? fun c => (leastP L T ts c).map fun r => c :: r
theorem fwd_len {L : Str} {T : List (List Int)} : ∀ (ts : List Str) (S : List (List Int)), (fwd L T ts S).length = ts.length
  | [], _ => rfl
  | t :: ts, S => by show (fwd L T ts _).length + 1 = _; rw [fwd_len ts]; rfl
theorem bw_len {T : List (List Int)} : ∀ Fs : List (List (List Int)), (bw T Fs).length = Fs.length
  | [] => rfl
  | [F] => rfl
  | F :: G :: Fs => by show (bw T (G :: Fs)).length + 1 = _; rw [bw_len (G :: Fs)]; rfl
/-! ### which columns may stand behind one: by their tiles -/
def okL (L : Str) (tx : Option Str) (c : List Int) (q : Nat) : Prop := ∀ k, k < q → ∃ m : Nat, c.getD k 0 = (m : Int) ∧ m < L.length ∧ okM L tx k m = true
def preT (T : List (List Int)) (one c : List Int) (q : Nat) : Prop := ∀ k, k < q → [(bd one).getD k 0, (-1 :: c).getD k 0, (bd one).getD (k + 1) 0, (-1 :: c).getD (k + 1) 0] ∈ T
theorem getD_snoc {c : List Int} {m : Int} {k : Nat} (h : k < c.length) : (c ++ [m]).getD k 0 = c.getD k 0 := by
  rw [List.getD_eq_getElem?_getD, List.getElem?_append_left h, ← List.getD_eq_getElem?_getD]
theorem getD_last {c : List Int} {m : Int} : (c ++ [m]).getD c.length 0 = m := by
  rw [List.getD_eq_getElem?_getD, List.getElem?_append_right (Nat.le_refl _), Nat.sub_self]; rfl
theorem getD_c1 {c : List Int} {m x : Int} {k : Nat} (h : k ≤ c.length) : (x :: (c ++ [m])).getD k 0 = (x :: c).getD k 0 := by
  cases k with
  | zero => rfl
  | succ k => rw [List.getD_cons_succ, List.getD_cons_succ]; exact getD_snoc h
theorem stepAll_app {L : Str} {T : List (List Int)} {one : List Int} {tx : Option Str} : ∀ (ks : List Nat) (k : Nat) (S : List Tri), stepAll L T one tx (ks ++ [k]) S = (stepAll L T one tx ks S).flatMap (step1 L T one tx k)
  | [], _, _ => rfl
  | j :: ks, k, S => stepAll_app ks k _
theorem stepAll_iff {L : Str} {T : List (List Int)} {one : List Int} {tx : Option Str} : ∀ (q : Nat), q ≤ one.length → ∀ s : Tri, s ∈ stepAll L T one tx (List.range q) [([], -1, -1)] ↔ s.1.length = q ∧ okL L tx s.1 q ∧ preT T one s.1 q ∧ s.2.1 = (bd one).getD q 0 ∧ s.2.2 = (-1 :: s.1).getD q 0
  | 0, _, s => by
    show s ∈ [(([] : List Int), ((-1 : Int), (-1 : Int)))] ↔ _
    rw [List.mem_singleton]
    constructor
    · rintro rfl
      exact ⟨rfl, fun k hk => absurd hk (Nat.not_lt_zero _), fun k hk => absurd hk (Nat.not_lt_zero _), rfl, rfl⟩
    · rintro ⟨h1, _, _, h4, h5⟩
      obtain ⟨c, l, r⟩ := s
      have h1 : c = [] := List.length_eq_zero_iff.mp h1
      subst h1
      have h4 : l = -1 := h4
      have h5 : r = -1 := h5
      rw [h4, h5]
  | q + 1, hq, s => by
    have ih := stepAll_iff (L := L) (T := T) (one := one) (tx := tx) q (by omega)
    rw [List.range_succ, stepAll_app, List.mem_flatMap]
    constructor
    · rintro ⟨s0, h0, h1⟩
      obtain ⟨i1, i2, i3, i4, i5⟩ := (ih s0).mp h0
      obtain ⟨m, hm, rfl⟩ := List.mem_map.mp h1
      obtain ⟨m1, m2⟩ := List.mem_filter.mp hm
      have m1 := List.mem_range.mp m1
      obtain ⟨g1, g2⟩ := Bool.and_eq_true_iff.mp m2
      have g2 := of_decide_eq_true g2
      show (s0.1 ++ [(m : Int)]).length = q + 1 ∧ okL L tx (s0.1 ++ [(m : Int)]) (q + 1) ∧ preT T one (s0.1 ++ [(m : Int)]) (q + 1) ∧ one.getD q 0 = _ ∧ (m : Int) = (-1 :: (s0.1 ++ [(m : Int)])).getD (q + 1) 0
      refine ⟨by rw [List.length_append, i1]; rfl, fun k hk => ?_, fun k hk => ?_, (bd_get (by omega)).symm, ?_⟩
      · by_cases hk2 : k < q
        · rw [getD_snoc (by omega)]; exact i2 k hk2
        · obtain rfl : k = s0.1.length := by omega
          rw [getD_last]
          exact ⟨m, rfl, m1, by rw [i1]; exact g1⟩
      · rw [getD_c1 (by omega)]
        by_cases hk2 : k < q
        · rw [getD_c1 (by omega)]; exact i3 k hk2
        · obtain rfl : k = q := by omega
          rw [← i4, ← i5, List.getD_cons_succ, ← i1, getD_last, i1, bd_get (by omega)]
          exact g2
      · rw [List.getD_cons_succ, ← i1, getD_last]
    · rintro ⟨h1, h2, h3, h4, h5⟩
      obtain ⟨c, l, r⟩ := s
      have h1 : c.length = q + 1 := h1
      have hne : c ≠ [] := fun e => by rw [e] at h1; simp at h1
      have ec := (List.dropLast_concat_getLast hne).symm
      generalize c.dropLast = d at ec
      generalize c.getLast hne = z at ec
      subst ec
      have hd : d.length = q := by rw [List.length_append] at h1; simpa using h1
      obtain ⟨m, e1, e2, e3⟩ := h2 q (by omega)
      have e1 : (d ++ [z]).getD q 0 = (m : Int) := e1
      have e1 : z = (m : Int) := by rw [← hd, getD_last] at e1; exact e1
      subst e1
      have h4 : l = (bd one).getD (q + 1) 0 := h4
      have h5 : r = (-1 :: (d ++ [(m : Int)])).getD (q + 1) 0 := h5
      rw [List.getD_cons_succ, ← hd, getD_last] at h5
      have t := h3 q (by omega)
      have t : [(bd one).getD q 0, (-1 :: (d ++ [(m : Int)])).getD q 0, (bd one).getD (q + 1) 0, (-1 :: (d ++ [(m : Int)])).getD (q + 1) 0] ∈ T := t
      have t2 : (-1 :: (d ++ [(m : Int)])).getD (q + 1) 0 = (m : Int) := by rw [List.getD_cons_succ, ← hd, getD_last]
      rw [getD_c1 (by omega), t2, bd_get (by omega)] at t
      refine ⟨(d, (bd one).getD q 0, (-1 :: d).getD q 0), (ih _).mpr ⟨hd, fun k hk => ?_, fun k hk => ?_, rfl, rfl⟩, List.mem_map.mpr ⟨m, List.mem_filter.mpr ⟨List.mem_range.mpr e2, ?_⟩, ?_⟩⟩
      · have := h2 k (by omega)
        have this : ∃ m' : Nat, (d ++ [(m : Int)]).getD k 0 = (m' : Int) ∧ m' < L.length ∧ okM L tx k m' = true := this
        rw [getD_snoc (by omega)] at this; exact this
      · have := h3 k (by omega)
        have this : [(bd one).getD k 0, (-1 :: (d ++ [(m : Int)])).getD k 0, (bd one).getD (k + 1) 0, (-1 :: (d ++ [(m : Int)])).getD (k + 1) 0] ∈ T := this
        rw [getD_c1 (by omega), getD_c1 (by omega)] at this; exact this
      · unfold goM
        rw [e3, decide_eq_true t]; rfl
      · unfold nxM
        rw [h4, h5, bd_get (by omega)]
theorem bd_in {c : List Int} {k : Nat} (h : k ≤ c.length) : (bd c).getD k 0 = (-1 :: c).getD k 0 := by
  unfold bd
  rw [List.append_assoc, List.singleton_append]
  exact getD_c1 h
theorem fits_iff {T : List (List Int)} {one c : List Int} (hc : c.length = one.length) : fitsP T one c = true ↔ preT T one c one.length ∧ [(bd one).getD one.length 0, (-1 :: c).getD one.length 0, -1, -1] ∈ T := by
  unfold fitsP
  rw [List.all_eq_true]
  constructor
  · intro h
    refine ⟨fun k hk => ?_, ?_⟩
    · have := of_decide_eq_true (h k (List.mem_range.mpr (by omega)))
      rw [bd_in (c := c) (by omega), bd_in (c := c) (by omega)] at this; exact this
    · have := of_decide_eq_true (h one.length (List.mem_range.mpr (by omega)))
      rw [bd_in (c := c) (by omega), bd_end, ← hc, bd_end, hc] at this; exact this
  · rintro ⟨h1, h2⟩ k hk
    have hk := List.mem_range.mp hk
    refine decide_eq_true ?_
    by_cases h3 : k < one.length
    · rw [bd_in (c := c) (by omega), bd_in (c := c) (by omega)]; exact h1 k h3
    · obtain rfl : k = one.length := by omega
      rw [bd_in (c := c) (by omega), bd_end, ← hc, bd_end, hc]; exact h2
theorem behP_iff {L : Str} {T : List (List Int)} {one c : List Int} {tx : Option Str} : c ∈ behP L T one tx ↔ c.length = one.length ∧ okL L tx c one.length ∧ fitsP T one c = true := by
  unfold behP behT
  rw [List.mem_map]
  constructor
  · rintro ⟨s, hs, rfl⟩
    obtain ⟨h1, h2⟩ := List.mem_filter.mp hs
    obtain ⟨i1, i2, i3, i4, i5⟩ := (stepAll_iff one.length (Nat.le_refl _) s).mp h1
    refine ⟨i1, i2, (fits_iff i1).mpr ⟨i3, ?_⟩⟩
    have := of_decide_eq_true h2
    rw [i4, i5] at this; exact this
  · rintro ⟨h1, h2, h3⟩
    obtain ⟨h4, h5⟩ := (fits_iff h1).mp h3
    exact ⟨(c, (bd one).getD one.length 0, (-1 :: c).getD one.length 0), List.mem_filter.mpr ⟨(stepAll_iff one.length (Nat.le_refl _) _).mpr ⟨h1, h2, h4, rfl, rfl⟩, decide_eq_true h5⟩, rfl⟩
end QY

/-! Plain: the greedy way is the least one. -/
namespace QY
open PySem PySem.Spec PyProof.Rows L2
theorem head_same {X Y : List (List Int)} (sx : SrtI X) (sy : SrtI Y) (h : ∀ c, c ∈ X ↔ c ∈ Y) : X.head? = Y.head? := by
  cases X with
  | nil =>
    cases Y with
    | nil => rfl
    | cons y Y' => exact absurd ((h y).mpr (by simp)) (by simp)
  | cons x X' =>
    cases Y with
    | nil => exact absurd ((h x).mp (by simp)) (by simp)
    | cons y Y' =>
      have h1 : HT.lexLt x y = false := by
        rcases List.mem_cons.mp ((h x).mp (by simp)) with e | e
        · rw [e]; exact lx_irrefl _
        · exact (List.pairwise_cons.mp sy).1 x e
      have h2 : HT.lexLt y x = false := by
        rcases List.mem_cons.mp ((h y).mpr (by simp)) with e | e
        · rw [e]; exact lx_irrefl _
        · exact (List.pairwise_cons.mp sx).1 y e
      rw [lx_total h1 h2]; rfl
theorem fs_head {α β : Type} (g : α → Option β) : ∀ l : List α, l.findSome? g = ((l.filter fun c => (g c).isSome).head?).bind g
  | [] => rfl
  | a :: l => by
    rw [List.findSome?_cons]
    cases e : g a with
    | some b => rw [List.filter_cons_of_pos (by rw [e]; rfl)]; show some b = g a; rw [e]
      | none => rw [List.filter_cons_of_neg (by rw [e]; simp)]; exact fs_head g l
theorem gr_cons {T : List (List Int)} {l : List Int} {W : List (List Int)} {Ws : List (List (List Int))} : gr T l (W :: Ws) = ((W.filter fun c => fitsP T l c).head?).bind fun c => (gr T c Ws).map fun r => c :: r := by
  show (match W.filter fun c => fitsP T l c with
    | [] => none
    | c :: _ => (gr T c Ws).map fun r => c :: r) = _
  cases W.filter fun c => fitsP T l c <;> rfl
theorem srt_filter {p : List Int → Bool} {X : List (List Int)} (h : SrtI X) : SrtI (X.filter p) := h.sublist List.filter_sublist
/-- a completion there is -/
theorem least_some {L : Str} {T : List (List Int)} {t : Str} {ts : List Str} {l : List Int} : (leastP L T (t :: ts) l).isSome = true ↔ ∃ c ∈ behP L T l (some t), (!ts.isEmpty || endP T c) = true ∧ (leastP L T ts c).isSome = true := by
  show ((sortI ((behP L T l (some t)).filter fun c => !ts.isEmpty || endP T c)).findSome? fun c => (leastP L T ts c).map fun r => c :: r).isSome = true ↔ _
  rw [List.findSome?_isSome_iff]
  constructor
  · rintro ⟨c, h1, h2⟩
    obtain ⟨h3, h4⟩ := List.mem_filter.mp ((sortI_perm _).mem_iff.mp h1)
    exact ⟨c, h3, h4, by rw [Option.isSome_map] at h2; exact h2⟩
  · rintro ⟨c, h1, h2, h3⟩
    exact ⟨c, (sortI_perm _).mem_iff.mpr (List.mem_filter.mpr ⟨h1, h2⟩), by rw [Option.isSome_map]; exact h3⟩
theorem beh_swap {L : Str} {T : List (List Int)} {one o x : List Int} {t : Str} (hx : x ∈ behP L T one (some t)) (hl : o.length = one.length) (hf : fitsP T o x = true) : x ∈ behP L T o (some t) := by
  obtain ⟨h1, h2, _⟩ := behP_iff.mp hx
  exact behP_iff.mpr ⟨by rw [h1, hl], by rw [hl]; exact h2, hf⟩
/-- the first of what stands from the right -/
theorem bw_head {L : Str} {T : List (List Int)} {h : Nat} : ∀ (ts : List Str) (t : Str) (S : List (List Int)), (∀ c ∈ S, c.length = h) → ∀ c, c ∈ (bw T (fwd L T (t :: ts) S)).headD [] ↔ c ∈ stepP L T S t ∧ (!ts.isEmpty || endP T c) = true ∧ (leastP L T ts c).isSome = true
  | [], t, S, hS, c => by
    show c ∈ (stepP L T S t).filter (endP T) ↔ _
    rw [List.mem_filter]
    exact ⟨fun q => ⟨q.1, by simpa using q.2, rfl⟩, fun q => ⟨q.1, by simpa using q.2.1⟩⟩
  | t' :: ts, t, S, hS, c => by
    have hF : ∀ x ∈ stepP L T S t, x.length = h := fun x hx => (stepP_col hS x hx).1
    have ih := bw_head (L := L) (T := T) (h := h) ts t' (stepP L T S t) hF
    show c ∈ (stepP L T S t).filter (fun o => ((bw T (fwd L T (t' :: ts) (stepP L T S t))).headD []).any fun x => fitsP T o x) ↔ _
    rw [List.mem_filter, List.any_eq_true, least_some]
    constructor
    · rintro ⟨h1, x, h2, h3⟩
      obtain ⟨i1, i2, i3⟩ := (ih x).mp h2
      obtain ⟨one, j1, j2⟩ := stepP_mem.mp i1
      exact ⟨h1, rfl, x, beh_swap j2 (by rw [hF c h1, hF one j1]) h3, i2, i3⟩
    · rintro ⟨h1, _, x, h2, h3, h4⟩
      exact ⟨h1, x, (ih x).mpr ⟨stepP_mem.mpr ⟨c, h1, h2⟩, h3, h4⟩, (behP_iff.mp h2).2.2⟩
theorem bw_tail {L : Str} {T : List (List Int)} (t' t : Str) (ts : List Str) (S : List (List Int)) : bw T (fwd L T (t :: t' :: ts) S) = (bw T (fwd L T (t :: t' :: ts) S)).headD [] :: bw T (fwd L T (t' :: ts) (stepP L T S t)) := rfl
theorem bw_srt {L : Str} {T : List (List Int)} (t : Str) (ts : List Str) (S : List (List Int)) : SrtI ((bw T (fwd L T (t :: ts) S)).headD []) := by
  cases ts with
  | nil => exact srt_filter stepP_srt
  | cons t' ts => exact srt_filter stepP_srt
theorem gr_least {L : Str} {T : List (List Int)} {h : Nat} : ∀ (ts : List Str) (t : Str) (S : List (List Int)), (∀ c ∈ S, c.length = h) → ∀ l ∈ S, gr T l (bw T (fwd L T (t :: ts) S)) = leastP L T (t :: ts) l := by
  intro ts
  induction ts with
  | nil =>
    intro t S hS l hl
    have hb := bw_head (L := L) (T := T) [] t S hS
    show gr T l [(bw T (fwd L T [t] S)).headD []] = (sortI ((behP L T l (some t)).filter fun c => endP T c)).findSome? fun c => some [c]
    rw [gr_cons, fs_head]
    have e : ((((bw T (fwd L T [t] S)).headD []).filter fun c => fitsP T l c).head?) = (((sortI ((behP L T l (some t)).filter fun c => endP T c)).filter fun c => (some [c]).isSome).head?) := by
      refine head_same (srt_filter (bw_srt t [] S)) (srt_filter (sortI_srt _)) fun c => ?_
      rw [List.mem_filter, hb, List.mem_filter, (sortI_perm _).mem_iff, List.mem_filter]
      constructor
      · rintro ⟨⟨h1, h2, _⟩, h4⟩
        obtain ⟨one, j1, j2⟩ := stepP_mem.mp h1
        exact ⟨⟨beh_swap j2 (by rw [hS l hl, hS one j1]) h4, by simpa using h2⟩, rfl⟩
      · rintro ⟨⟨h1, h2⟩, _⟩
        exact ⟨⟨stepP_mem.mpr ⟨l, hl, h1⟩, by simpa using h2, rfl⟩, (behP_iff.mp h1).2.2⟩
    rw [e]
    rfl
  | cons t' ts ih =>
    intro t S hS l hl
    have hF : ∀ x ∈ stepP L T S t, x.length = h := fun x hx => (stepP_col hS x hx).1
    have hb := bw_head (L := L) (T := T) (t' :: ts) t S hS
    rw [bw_tail, gr_cons]
    show _ = (sortI ((behP L T l (some t)).filter fun c => !(t' :: ts).isEmpty || endP T c)).findSome? fun c => (leastP L T (t' :: ts) c).map fun r => c :: r
    rw [fs_head]
    have e : ((((bw T (fwd L T (t :: t' :: ts) S)).headD []).filter fun c => fitsP T l c).head?) = (((sortI ((behP L T l (some t)).filter fun c => !(t' :: ts).isEmpty || endP T c)).filter fun c => ((leastP L T (t' :: ts) c).map fun r => c :: r).isSome).head?) := by
      refine head_same (srt_filter (bw_srt t (t' :: ts) S)) (srt_filter (sortI_srt _)) fun c => ?_
      rw [List.mem_filter, hb, List.mem_filter, (sortI_perm _).mem_iff, List.mem_filter, Option.isSome_map]
      constructor
      · rintro ⟨⟨h1, h2, h3⟩, h4⟩
        obtain ⟨one, j1, j2⟩ := stepP_mem.mp h1
        exact ⟨⟨beh_swap j2 (by rw [hS l hl, hS one j1]) h4, h2⟩, h3⟩
      · rintro ⟨⟨h1, h2⟩, h3⟩
        exact ⟨⟨stepP_mem.mpr ⟨l, hl, h1⟩, h2, h3⟩, (behP_iff.mp h1).2.2⟩
    rw [e]
    generalize hY : ((sortI ((behP L T l (some t)).filter fun c => !(t' :: ts).isEmpty || endP T c)).filter fun c => ((leastP L T (t' :: ts) c).map fun r => c :: r).isSome) = Y
    cases Y with
    | nil => rfl
    | cons c Y' =>
      show (gr T c (bw T (fwd L T (t' :: ts) (stepP L T S t)))).map (fun r => c :: r) = (leastP L T (t' :: ts) c).map fun r => c :: r
      have hc : c ∈ stepP L T S t := by
        have : c ∈ c :: Y' := by simp
        rw [← hY] at this
        have := (List.mem_filter.mp ((sortI_perm _).mem_iff.mp (List.mem_filter.mp this).1)).1
        exact stepP_mem.mpr ⟨l, hl, this⟩
      rw [ih t' (stepP L T S t) hF c hc]
theorem any_bls {α : Type} (l : List α) (p : α → Bool) : anyD [.lst (l.map fun r => .bl (p r))] = some (.bl (l.any p)) := by
  have : (l.map fun r => D.bl (p r)) = (l.map p).map D.bl := by rw [List.map_map]; rfl
  rw [this]
  show (asBls _).map _ = _
  rw [asBls_map, Option.map_some, List.any_map]; rfl
def transp (h : Nat) (cs : List (List Int)) : List (List Int) := (List.range h).map fun k => cs.map fun c => c.getD k 0
theorem ix_0 {d : D} {ds : List D} : ixD (.lst (d :: ds)) (.int 0) = some d := ix_lst (j := 0)
theorem ix_t0 {d : D} {ds : List D} : ixD (.tup (d :: ds)) (.int 0) = some d := ix_tup (j := 0)
theorem ix_t1 {d e : D} {ds : List D} : ixD (.tup (d :: e :: ds)) (.int 1) = some e := ix_tup (j := 1)
/-! pictures' columns -/
def colsT : List Str → List Str
  | [] => []
  | r0 :: rest => (List.range r0.length).map fun x => Txt.join "" ((r0 :: rest).map fun r => chr r x)
theorem colsL_eq (P : List Str) : colsL P = (colsT P).map .str := by
  cases P with
  | nil => rfl
  | cons r0 rest =>
    show (List.range r0.length).map _ = ((List.range r0.length).map _).map _
    rw [List.map_map]; rfl
theorem join_onesN : ∀ (l : List Str), (∀ a ∈ l, a.length = 1) → (Txt.join "" l).length = l.length ∧ ∀ k, k < l.length → letAt (Txt.join "" l) k = letAt (l.getD k "") 0
  | [], _ => ⟨rfl, fun k hk => absurd hk (Nat.not_lt_zero _)⟩
  | [a], h => ⟨h a (by simp), fun k hk => by
    have : k = 0 := by simpa using hk
    subst this; rfl⟩
  | a :: b :: r, h => by
    obtain ⟨h1, h2⟩ := join_onesN (b :: r) fun q hq => h q (List.mem_cons_of_mem _ hq)
    have e : Txt.join "" (a :: b :: r) = a ++ "" ++ Txt.join "" (b :: r) := by
      rw [TL.join_eq, TL.join_eq]; rfl
    have ec : (Txt.join "" (a :: b :: r)).cps.toList = a.cps.toList ++ (Txt.join "" (b :: r)).cps.toList := by
      rw [e]
      show ((a.cps ++ ("" : Str).cps) ++ (Txt.join "" (b :: r)).cps).toList = _
      rw [Array.toList_append, Array.toList_append]
      show a.cps.toList ++ [] ++ _ = _
      rw [List.append_nil]
    have ha : a.cps.toList.length = 1 := by rw [size_len]; exact h a (by simp)
    refine ⟨?_, fun k hk => ?_⟩
    · rw [← size_len, ec, List.length_append, ha, size_len, h1]
      simp only [List.length_cons]; omega
    · unfold letAt
      rw [ec]
      cases k with
      | zero =>
        rw [List.getD_eq_getElem?_getD, List.getElem?_append_left (by omega), ← List.getD_eq_getElem?_getD]; rfl
      | succ k =>
        have := h2 k (by simpa using hk)
        unfold letAt at this
        rw [List.getD_eq_getElem?_getD, List.getElem?_append_right (by omega), ha, Nat.add_sub_cancel, ← List.getD_eq_getElem?_getD, this]
        rfl
theorem good_sm {P : List Str} (h : good P = true) : Small P := by
  cases P with
  | nil => cases h
  | cons r0 rest =>
    obtain ⟨g1, g2, g3, g4⟩ := good_w h
    exact ⟨by omega, fun r hr => by rw [(g4 r hr).1]; omega⟩
theorem good_cols {P : List Str} (h : good P = true) : 1 ≤ P.length ∧ P.length ≤ 4 ∧ 1 ≤ (colsT P).length ∧ (colsT P).length ≤ 12 ∧ (∀ t ∈ colsT P, t.length = P.length) ∧ (∀ r ∈ P, r.length = (colsT P).length) := by
  cases P with
  | nil => cases h
  | cons r0 rest =>
    obtain ⟨g1, g2, g3, g4⟩ := good_w h
    have hl : (colsT (r0 :: rest)).length = r0.length := by
      show ((List.range r0.length).map _).length = _
      rw [List.length_map, List.length_range]
    refine ⟨by rw [List.length_cons]; omega, g1, by rw [hl]; exact g2, by rw [hl]; exact g3, fun t ht => ?_, fun r hr => by rw [hl, (g4 r hr).1]⟩
    obtain ⟨x, _, rfl⟩ := List.mem_map.mp ht
    rw [(join_onesN _ fun a ha => by obtain ⟨r, _, rfl⟩ := List.mem_map.mp ha; rfl).1, List.length_map]
theorem fwd_ok {L : Str} {T : List (List Int)} {h : Nat} (hL : L.length ≤ 4) (hh : h ≤ 4) : ∀ (ts : List Str) (S : List (List Int)), (∀ c ∈ S, c.length = h) → ∀ F ∈ fwd L T ts S, (∀ c ∈ F, c.length = h) ∧ F.length ≤ 256
  | [], S, _, F, hF => by cases hF
  | t :: ts, S, hS, F, hF => by
    have h1 : ∀ c ∈ stepP L T S t, c.length = h := fun c hc => (stepP_col hS c hc).1
    rcases List.mem_cons.mp hF with rfl | hF
    · exact ⟨h1, stepP_len hL hh hS⟩
    · exact fwd_ok hL hh ts (stepP L T S t) h1 F hF
theorem bw_ok {T : List (List Int)} {h : Nat} : ∀ (Fs : List (List (List Int))), (∀ F ∈ Fs, (∀ c ∈ F, c.length = h) ∧ F.length ≤ 256) → ∀ W ∈ bw T Fs, (∀ c ∈ W, c.length = h) ∧ W.length ≤ 256
  | [], _, W, hW => by cases hW
  | [F], hF, W, hW => by
    have : W = F.filter (endP T) := by simpa [bw] using hW
    subst this
    obtain ⟨h1, h2⟩ := hF F (by simp)
    exact ⟨fun c hc => h1 c (List.mem_filter.mp hc).1, Nat.le_trans (List.length_filter_le _ _) h2⟩
  | F :: G :: Fs, hF, W, hW => by
    obtain ⟨h1, h2⟩ := hF F (by simp)
    rcases List.mem_cons.mp (show W ∈ (F.filter fun o => ((bw T (G :: Fs)).headD []).any fun x => fitsP T o x) :: bw T (G :: Fs) from hW) with rfl | hW
    · exact ⟨fun c hc => h1 c (List.mem_filter.mp hc).1, Nat.le_trans (List.length_filter_le _ _) h2⟩
    · exact bw_ok (G :: Fs) (fun X hX => hF X (List.mem_cons_of_mem _ hX)) W hW
theorem gr_col {T : List (List Int)} {h : Nat} : ∀ (Ws : List (List (List Int))) (l : List Int) (cs : List (List Int)), (∀ W ∈ Ws, ∀ c ∈ W, c.length = h) → gr T l Ws = some cs → cs.length = Ws.length ∧ ∀ c ∈ cs, c.length = h
  | [], l, cs, _, e => by
    have : cs = [] := by simpa [gr] using e.symm
    subst this
    exact ⟨rfl, fun c hc => by cases hc⟩
  | W :: Ws, l, cs, hW, e => by
    have e : (match W.filter fun c => fitsP T l c with
      | [] => none
      | c :: _ => (gr T c Ws).map fun r => c :: r) = some cs := e
    cases hY : W.filter fun c => fitsP T l c with
    | nil => rw [hY] at e; cases e
    | cons c Y =>
      rw [hY] at e
      have e : (gr T c Ws).map (fun r => c :: r) = some cs := e
      obtain ⟨r, h1, rfl⟩ := Option.map_eq_some_iff.mp e
      have hc : c ∈ W := (List.mem_filter.mp (by rw [hY]; simp : c ∈ W.filter fun c => fitsP T l c)).1
      obtain ⟨i1, i2⟩ := gr_col Ws c r (fun X hX => hW X (List.mem_cons_of_mem _ hX)) h1
      refine ⟨by rw [List.length_cons, List.length_cons, i1], fun d hd => ?_⟩
      rcases List.mem_cons.mp hd with rfl | hd
      · exact hW W (by simp) _ hc
      · exact i2 d hd
theorem rev_down {q : Nat} (hq : q ≤ 1000) : revRD (.int 1) (.int (((q + 2 : Nat) : Int) - 1)) = .ok ((List.range q).map fun (i : Nat) => .int ((q - i : Nat) : Int)) := by
  have e1 : ((((q + 2 : Nat) : Int) - 1) - 1).toNat = q := by omega
  unfold revRD
  simp only
  rw [if_pos ⟨by decide, by decide, by omega, by omega⟩, e1]
  refine congrArg R.ok (List.map_congr_left fun i hi => congrArg D.int ?_)
  have := List.mem_range.mp hi
  omega
/-! ### what shows is -/
def cellP (L : Str) (P : List Str) (G : List (List Int)) (y x : Nat) : Bool := (decide (0 ≤ get2 G y x) && decide (get2 G y x < (L.length : Int))) && decide (letAt L (get2 G y x).toNat = letAt (P.getD y "") x)
def widP (P : List Str) : Nat := (P.headD "").length
def showsP (L : Str) (T : List (List Int)) (P : List Str) (G : List (List Int)) : Bool := decide (G.map (·.length) = P.map (·.length)) && (((List.range G.length).all fun y => (List.range (widP P)).all fun x => cellP L P G y x) && (tilesP (widP P) G).all fun t => decide (t ∈ T))
theorem grid_get {w : Nat} {G : List (List Int)} (R : Rect w G) {y x : Nat} (hy : y < G.length) (hx : x < w) : ∃ r, G[y]? = some r ∧ r[x]? = some (get2 G y x) := by
  have hr : G[y] ∈ G := List.getElem_mem hy
  have hl := R.h _ hr
  refine ⟨G[y], List.getElem?_eq_getElem hy, ?_⟩
  have e : G.getD y [] = G[y] := by rw [List.getD_eq_getElem?_getD, List.getElem?_eq_getElem hy, Option.getD_some]
  unfold get2
  rw [e, List.getD_eq_getElem?_getD, List.getElem?_eq_getElem (by omega), Option.getD_some]
end QY

/-! Dicts to True, by keys told apart. -/
namespace QY
open PySem PySem.Spec PyProof.Rows L2
structure KeyE {α : Type} (f : α → D) (g : α → NestedKey) : Prop where
  nk : ∀ a, QY.nk (f a) = some (g a)
  key : ∀ a, keyD (f a) = some (g a)
  inj : ∀ a b, g a = g b → a = b
def insG {α : Type} [DecidableEq α] (K : List α) (t : α) : List α := if t ∈ K then K else K ++ [t]
section
variable {α : Type} [DecidableEq α] {f : α → D} {g : α → NestedKey}
theorem insG_mem {K : List α} {t x : α} : x ∈ insG K t ↔ x ∈ K ∨ x = t := by
  unfold insG
  by_cases h : t ∈ K
  · rw [if_pos h]
    exact ⟨.inl, fun q => q.elim id fun e => e ▸ h⟩
  · rw [if_neg h, List.mem_append, List.mem_singleton]
theorem insG_nodup {K : List α} {t : α} (h : K.Nodup) : (insG K t).Nodup := by
  unfold insG
  by_cases e : t ∈ K
  · rw [if_pos e]; exact h
  · rw [if_neg e]
    refine List.nodup_append.mpr ⟨h, by simp, fun a ha b hb => ?_⟩
    rw [List.mem_singleton] at hb
    subst hb
    exact fun z => e (z ▸ ha)
theorem insG_cons {a t : α} {K : List α} (h : ¬ a = t) : insG (a :: K) t = a :: insG K t := by
  unfold insG
  by_cases e : t ∈ K
  · rw [if_pos e, if_pos (List.mem_cons_of_mem _ e)]
  · rw [if_neg e, if_neg (fun z => by rcases List.mem_cons.mp z with z | z; exact h z.symm; exact e z)]; rfl
theorem insG_head {t : α} {K : List α} : insG (t :: K) t = t :: K := if_pos List.mem_cons_self
theorem okKeys_g (h : KeyE f g) (K : List α) : okKeys (K.map f) = true := by
  unfold okKeys
  rw [List.all_map]
  refine List.all_eq_true.mpr fun t _ => ?_
  show (keyD (f t)).isSome = true
  rw [h.key]; rfl
theorem putKs_g (h : KeyE f g) (t : α) : ∀ K : List α, putKs (g t) (f t) (K.map f) = (insG K t).map f
  | [] => rfl
  | a :: K => by
    show (if QY.nk (f a) = some (g t) then f a :: K.map f else f a :: putKs (g t) (f t) (K.map f)) = _
    rw [h.nk]
    by_cases e : a = t
    · subst e
      rw [if_pos rfl, insG_head]; rfl
    · rw [if_neg (fun z => e (h.inj _ _ (Option.some.inj z))), putKs_g h t K, insG_cons e]; rfl
theorem putVs_g (h : KeyE f g) (t : α) : ∀ K : List α, putVs (g t) (.bl true) (K.map f) (trues K) = trues (insG K t)
  | [] => rfl
  | a :: K => by
    show (if QY.nk (f a) = some (g t) then D.bl true :: trues K else D.bl true :: putVs (g t) (.bl true) (K.map f) (trues K)) = _
    rw [h.nk]
    by_cases e : a = t
    · subst e
      rw [if_pos rfl, insG_head]; rfl
    · rw [if_neg (fun z => e (h.inj _ _ (Option.some.inj z))), putVs_g h t K, insG_cons e]; rfl
theorem putE_g (h : KeyE f g) {K : List α} {t : α} (hl : K.length < 1000000) : putE (K.map f) (trues K) (f t) (.bl true) = some ((insG K t).map f, trues (insG K t)) := by
  unfold putE
  rw [h.key]
  show (if okKeys (K.map f) && decide ((K.map f).length < LIM) then some (putKs (g t) (f t) (K.map f), putVs (g t) (.bl true) (K.map f) (trues K)) else none) = _
  rw [okKeys_g h, decide_eq_true (show (K.map f).length < LIM by rw [List.length_map]; exact lim2 (by omega)), putKs_g h, putVs_g h]; rfl
theorem getKD_g (h : KeyE f g) (t : α) : ∀ K : List α, (getKD (g t) (K.map f) (trues K)).isSome = decide (t ∈ K)
  | [] => by simp [getKD, trues]
  | a :: K => by
    show (if QY.nk (f a) = some (g t) then some (D.bl true) else getKD (g t) (K.map f) (trues K)).isSome = _
    rw [h.nk]
    by_cases e : a = t
    · subst e
      rw [if_pos rfl, decide_eq_true List.mem_cons_self]; rfl
    · rw [if_neg (fun z => e (h.inj _ _ (Option.some.inj z))), getKD_g h t K]
      refine decide_eq_decide.mpr ?_
      rw [List.mem_cons]
      exact ⟨.inr, fun z => z.elim (fun q => absurd q.symm e) id⟩
theorem in_g (h : KeyE f g) {K : List α} {t : α} : inE false (f t) (.dct (K.map f) (trues K)) = some (.bl (decide (t ∈ K))) := by
  show (keyD (f t)).bind (fun k => if okKeys (K.map f) then some (D.bl (if false then !(getKD k (K.map f) (trues K)).isSome else (getKD k (K.map f) (trues K)).isSome)) else none) = _
  rw [h.key]
  show (if okKeys (K.map f) then some (D.bl (if false then !(getKD (g t) (K.map f) (trues K)).isSome else (getKD (g t) (K.map f) (trues K)).isSome)) else none) = _
  rw [okKeys_g h, if_pos rfl]
  show some (D.bl (getKD (g t) (K.map f) (trues K)).isSome) = _
  rw [getKD_g h]
end
/-! pairs of a place and a column -/
def pkD (p : Nat × List Int) : D := .tup [.int (p.1 : Int), tupD p.2]
def pkK (p : Nat × List Int) : NestedKey := .tup [.num (p.1 : Int), kOf p.2]
theorem pk_ok : KeyE pkD pkK where
  nk := fun p => by
    show (nk.nkAll [.int (p.1 : Int), tupD p.2]).map NestedKey.tup = _
    have e : nk.nkAll [.int (p.1 : Int), tupD p.2] = (nk (.int (p.1 : Int))).bind fun k => ((nk (tupD p.2)).bind fun k2 => (nk.nkAll []).map fun ks => k2 :: ks).map fun ks => k :: ks := rfl
    rw [e, nk_tup]; rfl
  key := fun p => by
    show (nk (.tup [.int (p.1 : Int), tupD p.2])).bind (fun k => if k.depth ≤ 8 then some k else none) = _
    have : nk (.tup [.int (p.1 : Int), tupD p.2]) = some (pkK p) := by
      show (nk.nkAll [.int (p.1 : Int), tupD p.2]).map NestedKey.tup = _
      have e : nk.nkAll [.int (p.1 : Int), tupD p.2] = (nk (.int (p.1 : Int))).bind fun k => ((nk (tupD p.2)).bind fun k2 => (nk.nkAll []).map fun ks => k2 :: ks).map fun ks => k :: ks := rfl
      rw [e, nk_tup]; rfl
    rw [this]
    refine if_pos ?_
    have := depth_nums p.2
    show (NestedKey.tup [.num (p.1 : Int), .tup (p.2.map .num)]).depth ≤ 8
    simp only [NestedKey.depth, NestedKey.depthAll]
    omega
  inj := fun a b h => by
    obtain ⟨a1, a2⟩ := a
    obtain ⟨b1, b2⟩ := b
    have h := NestedKey.tup.inj h
    have h1 : NestedKey.num (a1 : Int) = NestedKey.num (b1 : Int) := (List.cons.inj h).1
    have h2 := kOf_inj (List.cons.inj (List.cons.inj h).2).1
    have h3 := natInt.mp (NestedKey.num.inj h1)
    rw [h3]
    exact congrArg _ h2
/-! at a place of the picture, the columns there can be dead -/
structure DeadK (L : Str) (T : List (List Int)) (ts : List Str) (h : Nat) (K : List (Nat × List Int)) : Prop where
  nd : K.Nodup
  all : ∀ p ∈ K, p.1 < ts.length ∧ (p.2 = List.replicate h (-1) ∨ isCol L.length h p.2) ∧ leastP L T (ts.drop p.1) p.2 = none
theorem len_subG {α : Type} [DecidableEq α] {l m : List α} (hl : l.Nodup) (h : ∀ x ∈ l, x ∈ m) : l.length ≤ m.length := len_sub hl h
theorem sum_const {c : Nat} : ∀ n : Nat, ((List.range n).map fun _ => c).sum = n * c
  | 0 => by simp
  | n + 1 => by
    rw [List.range_succ, List.map_append, List.sum_append, sum_const n, Nat.add_mul]; simp
theorem DeadK.len {L : Str} {T : List (List Int)} {ts : List Str} {h : Nat} {K : List (Nat × List Int)} (d : DeadK L T ts h K) (hL : L.length ≤ 4) (hh : h ≤ 4) (ht : ts.length ≤ 12) : K.length ≤ 3084 := by
  have := len_sub (m := (List.range ts.length).flatMap fun x => (List.replicate h (-1) :: allC L.length h).map fun c => (x, c)) d.nd (fun p hp => by
    obtain ⟨h1, h2, _⟩ := d.all p hp
    refine List.mem_flatMap.mpr ⟨p.1, List.mem_range.mpr h1, List.mem_map.mpr ⟨p.2, ?_, rfl⟩⟩
    rcases h2 with e | e
    · rw [e]; exact List.mem_cons_self
    · exact List.mem_cons_of_mem _ (allC_mem e))
  refine Nat.le_trans this ?_
  rw [List.length_flatMap]
  have e : ((List.range ts.length).map fun x => ((List.replicate h (-1) :: allC L.length h).map fun c => (x, c)).length) = (List.range ts.length).map fun _ => (allC L.length h).length + 1 := List.map_congr_left fun x _ => by rw [List.length_map, List.length_cons]
  rw [e, sum_const]
  have h1 : (allC L.length h).length + 1 ≤ 257 := by have := Nat.le_trans (allC_len L.length h) (pow4 hL hh); omega
  exact Nat.le_trans (Nat.mul_le_mul ht h1) (by decide)
theorem DeadK.ins {L : Str} {T : List (List Int)} {ts : List Str} {h : Nat} {K : List (Nat × List Int)} (d : DeadK L T ts h K) {x : Nat} {c : List Int} (hx : x < ts.length) (hc : c = List.replicate h (-1) ∨ isCol L.length h c) (hn : leastP L T (ts.drop x) c = none) : DeadK L T ts h (insG K (x, c)) where
  nd := insG_nodup d.nd
  all := fun p hp => by
    rcases insG_mem.mp hp with z | rfl
    · exact d.all p z
    · exact ⟨hx, hc, hn⟩
end QY

/-! Plain: the least columns show their picture. -/
namespace QY
open PySem PySem.Spec PyProof.Rows L2
theorem least_path {L : Str} {T : List (List Int)} {h : Nat} : ∀ (ts : List Str) (l : List Int) (cs : List (List Int)), l.length = h → leastP L T ts l = some cs → cs.length = ts.length ∧ (∀ c ∈ cs, c.length = h) ∧ ∀ x, x < ts.length → fitsP T ((l :: cs).getD x []) (cs.getD x []) = true ∧ okL L (some (ts.getD x "")) (cs.getD x []) h ∧ (x + 1 = ts.length → endP T (cs.getD x []) = true)
  | [], l, cs, hl, e => by
    have : cs = [] := (Option.some.inj e).symm
    subst this
    exact ⟨rfl, fun c hc => (by cases hc), fun x hx => absurd hx (Nat.not_lt_zero _)⟩
  | t :: ts, l, cs, hl, e => by
    have e : (sortI ((behP L T l (some t)).filter fun c => !ts.isEmpty || endP T c)).findSome? (fun c => (leastP L T ts c).map fun r => c :: r) = some cs := e
    obtain ⟨c, hc, e2⟩ := List.exists_of_findSome?_eq_some e
    obtain ⟨r, h1, rfl⟩ := Option.map_eq_some_iff.mp e2
    obtain ⟨h3, h4⟩ := List.mem_filter.mp ((sortI_perm _).mem_iff.mp hc)
    obtain ⟨b1, b2, b3⟩ := behP_iff.mp h3
    obtain ⟨i1, i2, i3⟩ := least_path (h := h) ts c r (by omega) h1
    refine ⟨by rw [List.length_cons, List.length_cons, i1], fun d hd => ?_, fun x hx => ?_⟩
    · rcases List.mem_cons.mp hd with rfl | hd
      · omega
      · exact i2 d hd
    · cases x with
      | zero =>
        refine ⟨b3, by rw [hl] at b2; exact b2, fun q => ?_⟩
        rw [List.length_cons] at q
        have : ts = [] := List.eq_nil_of_length_eq_zero (by omega)
        subst this
        simpa using h4
      | succ x =>
        obtain ⟨j1, j2, j3⟩ := i3 x (by rw [List.length_cons] at hx; omega)
        exact ⟨j1, j2, fun q => j3 (by rw [List.length_cons] at q; omega)⟩
theorem bdv {c : List Int} {k : Nat} (h : k ≤ c.length + 1) : (bd c).getD k 0 = if 1 ≤ k ∧ k ≤ c.length then c.getD (k - 1) 0 else -1 := by
  cases k with
  | zero => rw [if_neg (by omega)]; rfl
  | succ k =>
    by_cases hk : k < c.length
    · rw [bd_get hk, if_pos (by omega)]; rfl
    · have : k = c.length := by omega
      subst this
      rw [bd_end, if_neg (by omega)]
theorem tr_len {h : Nat} {cs : List (List Int)} : (transp h cs).length = h := by unfold transp; rw [List.length_map, List.length_range]
theorem tr_rect {h : Nat} {cs : List (List Int)} : Rect cs.length (transp h cs) := ⟨fun r hr => by
  obtain ⟨k, _, rfl⟩ := List.mem_map.mp hr
  rw [List.length_map]⟩
theorem tr_row {h : Nat} {cs : List (List Int)} {y : Nat} (hy : y < h) : (transp h cs).getD y [] = cs.map fun c => c.getD y 0 := by
  unfold transp
  rw [List.getD_eq_getElem?_getD, List.getElem?_map, List.getElem?_range hy]; rfl
theorem row_get {cs : List (List Int)} {y x : Nat} (hx : x < cs.length) : (cs.map fun c => c.getD y 0).getD x 0 = (cs.getD x []).getD y 0 := by
  rw [List.getD_eq_getElem?_getD, List.getElem?_map, List.getElem?_eq_getElem hx, Option.map_some, Option.getD_some, List.getD_eq_getElem?_getD (l := cs), List.getElem?_eq_getElem hx, Option.getD_some]
theorem tr_get {h : Nat} {cs : List (List Int)} {y x : Nat} (hy : y < h) (hx : x < cs.length) : get2 (transp h cs) y x = (cs.getD x []).getD y 0 := by
  unfold get2
  rw [tr_row hy, row_get hx]
theorem fr_row {w : Nat} {G : List (List Int)} {y : Nat} (hy : y ≤ G.length + 1) : (frame w G).getD y [] = if 1 ≤ y ∧ y ≤ G.length then bd (G.getD (y - 1) []) else List.replicate (w + 2) (-1) := by
  cases y with
  | zero => rw [if_neg (by omega)]; rfl
  | succ y =>
    have e : (frame w G).getD (y + 1) [] = (G.map bd ++ [List.replicate (w + 2) (-1)]).getD y [] := rfl
    rw [e]
    by_cases hk : y < G.length
    · rw [if_pos (by omega), List.getD_eq_getElem?_getD, List.getElem?_append_left (by rw [List.length_map]; exact hk), List.getElem?_map, List.getElem?_eq_getElem hk]
      show bd G[y] = bd (G.getD y [])
      rw [List.getD_eq_getElem?_getD, List.getElem?_eq_getElem hk]; rfl
    · have : y = G.length := by omega
      subst this
      rw [if_neg (by omega), List.getD_eq_getElem?_getD, List.getElem?_append_right (by rw [List.length_map]; exact Nat.le_refl _), List.length_map, Nat.sub_self]; rfl
theorem rep_get {n k : Nat} (h : k < n) : (List.replicate n (-1 : Int)).getD k 0 = -1 := by
  rw [List.getD_eq_getElem?_getD, List.getElem?_replicate, if_pos h]; rfl
def valF (h : Nat) (cs : List (List Int)) (y x : Nat) : Int := if (1 ≤ y ∧ y ≤ h) ∧ 1 ≤ x ∧ x ≤ cs.length then (cs.getD (x - 1) []).getD (y - 1) 0 else -1
theorem fr_val {h : Nat} {cs : List (List Int)} {y x : Nat} (hy : y ≤ h + 1) (hx : x ≤ cs.length + 1) : get2 (frame cs.length (transp h cs)) y x = valF h cs y x := by
  unfold get2 valF
  rw [fr_row (by rw [tr_len]; exact hy), tr_len]
  by_cases h1 : 1 ≤ y ∧ y ≤ h
  · rw [if_pos h1, tr_row (by omega), bdv (by rw [List.length_map]; exact hx), List.length_map]
    by_cases h2 : 1 ≤ x ∧ x ≤ cs.length
    · rw [if_pos h2, if_pos ⟨h1, h2⟩, row_get (by omega)]
    · rw [if_neg h2, if_neg fun z => h2 z.2]
  · rw [if_neg h1, if_neg fun z => h1 z.1, rep_get (by omega)]
def clm (h : Nat) (cs : List (List Int)) (x : Nat) : List Int := if 1 ≤ x ∧ x ≤ cs.length then cs.getD (x - 1) [] else List.replicate h (-1)
theorem mem_getD {cs : List (List Int)} {x : Nat} (hx : x < cs.length) : cs.getD x [] ∈ cs := by
  rw [List.getD_eq_getElem?_getD, List.getElem?_eq_getElem hx]; exact List.getElem_mem hx
theorem clm_len {h : Nat} {cs : List (List Int)} (hc : ∀ c ∈ cs, c.length = h) (x : Nat) : (clm h cs x).length = h := by
  unfold clm
  by_cases h2 : 1 ≤ x ∧ x ≤ cs.length
  · rw [if_pos h2]; exact hc _ (mem_getD (by omega))
  · rw [if_neg h2, List.length_replicate]
theorem clm_val {h : Nat} {cs : List (List Int)} (hc : ∀ c ∈ cs, c.length = h) {y x : Nat} (hy : y ≤ h + 1) : (bd (clm h cs x)).getD y 0 = valF h cs y x := by
  rw [bdv (by rw [clm_len hc]; exact hy), clm_len hc]
  unfold valF clm
  by_cases h1 : 1 ≤ y ∧ y ≤ h
  · rw [if_pos h1]
    by_cases h2 : 1 ≤ x ∧ x ≤ cs.length
    · rw [if_pos h2, if_pos ⟨h1, h2⟩]
    · rw [if_neg h2, if_neg fun z => h2 z.2, rep_get (by omega)]
  · rw [if_neg h1, if_neg fun z => h1 z.1]
/-- columns that go on from each other: their rows have but tiles of T -/
theorem tiles_fit {T : List (List Int)} {h : Nat} {cs : List (List Int)} (hc : ∀ c ∈ cs, c.length = h) (hf : ∀ x, x ≤ cs.length → fitsP T (clm h cs x) (clm h cs (x + 1)) = true) : ∀ t ∈ tilesP cs.length (transp h cs), t ∈ T := by
  intro t ht
  obtain ⟨y, hy, ht⟩ := List.mem_flatMap.mp ht
  obtain ⟨x, hx, rfl⟩ := List.mem_map.mp ht
  have hy := List.mem_range.mp hy
  have hx := List.mem_range.mp hx
  rw [tr_len] at hy
  have hq := hf x (by omega)
  unfold fitsP at hq
  rw [clm_len hc, List.all_eq_true] at hq
  have hq := of_decide_eq_true (hq y (List.mem_range.mpr hy))
  rw [clm_val hc (by omega), clm_val hc (by omega), clm_val hc (by omega), clm_val hc (by omega)] at hq
  unfold tl4
  rw [fr_val (by omega) (by omega), fr_val (by omega) (by omega), fr_val (by omega) (by omega), fr_val (by omega) (by omega)]
  exact hq
theorem chr_at {r : Str} {x : Nat} : letAt (chr r x) 0 = letAt r x := by
  show r.cps.getD x 0 = r.cps.toList.getD x 0
  rw [List.getD_eq_getElem?_getD, Array.getElem?_toList]
  unfold Array.getD
  by_cases h : x < r.cps.size
  · rw [dif_pos h, Array.getElem?_eq_getElem h]; rfl
  · rw [dif_neg h, Array.getElem?_eq_none (by omega)]; rfl
theorem colT_at {P : List Str} {x y : Nat} (hx : x < (colsT P).length) (hy : y < P.length) : letAt ((colsT P).getD x "") y = letAt (P.getD y "") x := by
  cases P with
  | nil => exact absurd hy (Nat.not_lt_zero _)
  | cons r0 rest =>
    have hl : (colsT (r0 :: rest)).length = r0.length := by
      show ((List.range r0.length).map _).length = _
      rw [List.length_map, List.length_range]
    have e : (colsT (r0 :: rest)).getD x "" = Txt.join "" ((r0 :: rest).map fun r => chr r x) := by
      show ((List.range r0.length).map fun x => Txt.join "" ((r0 :: rest).map fun r => chr r x)).getD x "" = _
      rw [List.getD_eq_getElem?_getD, List.getElem?_map, List.getElem?_range (by omega)]; rfl
    rw [e, (join_onesN _ fun a ha => by obtain ⟨r, _, rfl⟩ := List.mem_map.mp ha; rfl).2 y (by rw [List.length_map]; exact hy)]
    have e2 : ((r0 :: rest).map fun r => chr r x).getD y "" = chr ((r0 :: rest).getD y "") x := by
      rw [List.getD_eq_getElem?_getD, List.getElem?_map, List.getElem?_eq_getElem hy, Option.map_some, Option.getD_some, List.getD_eq_getElem?_getD, List.getElem?_eq_getElem hy, Option.getD_some]
    rw [e2, chr_at]
theorem shows_least {L : Str} {T : List (List Int)} {P : List Str} {cs : List (List Int)} (hP : good P = true) (e : leastP L T (colsT P) (List.replicate P.length (-1)) = some cs) : showsP L T P (transp P.length cs) = true ∧ cs.length = (colsT P).length ∧ ∀ c ∈ cs, c.length = P.length := by
  obtain ⟨g1, g2, g3, g4, g5, g6⟩ := good_cols hP
  obtain ⟨p1, p2, p3⟩ := least_path (h := P.length) _ _ _ List.length_replicate e
  refine ⟨?_, p1, p2⟩
  have hwid : widP P = cs.length := by
    rw [p1]
    cases P with
    | nil => cases hP
    | cons r0 rest => exact g6 r0 (by simp)
  unfold showsP
  have h1 : (transp P.length cs).map (·.length) = P.map (·.length) := by
    have a1 : (transp P.length cs).map (·.length) = List.replicate P.length cs.length := by
      rw [List.eq_replicate_iff]
      refine ⟨by rw [List.length_map, tr_len], fun b hb => ?_⟩
      obtain ⟨r, hr, rfl⟩ := List.mem_map.mp hb
      exact tr_rect.h r hr
    have a2 : P.map (·.length) = List.replicate P.length cs.length := by
      rw [List.eq_replicate_iff]
      refine ⟨by rw [List.length_map], fun b hb => ?_⟩
      obtain ⟨r, hr, rfl⟩ := List.mem_map.mp hb
      rw [p1]; exact g6 r hr
    rw [a1, a2]
  rw [decide_eq_true h1, Bool.true_and, hwid, tr_len]
  refine Bool.and_eq_true_iff.mpr ⟨?_, ?_⟩
  · rw [List.all_eq_true]
    intro y hy
    have hy := List.mem_range.mp hy
    rw [List.all_eq_true]
    intro x hx
    have hx := List.mem_range.mp hx
    obtain ⟨_, j2, _⟩ := p3 x (by omega)
    obtain ⟨m, m1, m2, m3⟩ := j2 y hy
    unfold cellP
    rw [tr_get hy hx, m1]
    have m3 : letAt L m = letAt ((colsT P).getD x "") y := of_decide_eq_true m3
    rw [colT_at (by omega) hy] at m3
    rw [decide_eq_true (show (0 : Int) ≤ (m : Int) by omega), decide_eq_true (show (m : Int) < (L.length : Int) by omega), Int.toNat_natCast, decide_eq_true m3]; rfl
  · rw [List.all_eq_true]
    intro t ht
    refine decide_eq_true (tiles_fit p2 (fun x hx => ?_) t ht)
    by_cases hlt : x < cs.length
    · obtain ⟨j1, _, _⟩ := p3 x (by omega)
      have e1 : clm P.length cs (x + 1) = cs.getD x [] := if_pos (by omega)
      have e2 : clm P.length cs x = (List.replicate P.length (-1) :: cs).getD x [] := by
        cases x with
        | zero => exact if_neg (by omega)
        | succ x => exact if_pos (by omega)
      rw [e1, e2]; exact j1
    · have hx2 : x = cs.length := by omega
      subst hx2
      obtain ⟨_, _, j3⟩ := p3 (cs.length - 1) (by omega)
      have j3 := j3 (by omega)
      have e1 : clm P.length cs (cs.length + 1) = List.replicate P.length (-1) := if_neg (by omega)
      have e2 : clm P.length cs cs.length = cs.getD (cs.length - 1) [] := if_pos (by omega)
      unfold endP at j3
      rw [p2 _ (mem_getD (by omega))] at j3
      rw [e1, e2]; exact j3
end QY

/-! The exception classes of a program that holds some of them. -/
namespace QY
open PySem PySem.Spec PyProof.Rows L2
theorem excF_mkG {κ : Kap} {ok : Nat → Bool} (cl : ∀ c, ok c = true → ClsT κ.K (κ.exc c)) (hn : PySem.W.specialIn κ.K (.builtin "object.__class__") "__get__" = some (some (.builtin "getset_descriptor.__get__"))) (ht : PySem.W.takesIn κ.K (.builtin "object.__class__") = some true)
    (sub : ∀ c c', ok c = true → ok c' = true → PySem.W.subIn κ.K (.ref (κ.exc c)) (.ref (κ.exc c')) = some (c == c' || c' == 0)) (inj : ∀ c c', ok c = true → ok c' = true → κ.exc c = κ.exc c' → c = c') : ExcF κ ok where
  exc := fun c h => by
    have T := cl c h
    exact ⟨T.hg, T.hk, T.hs, T.hd, T.ha, hn, ht, T.hm⟩
  kit := fun c c' h h' => by
    refine kit_ref (cl c' h').hd (cl c' h').ty (sub c c' h h') fun e => ?_
    have : c = c' := inj c c' h h' (Value.ref.inj (eq_of_beq e))
    rw [this]
    simp
  kitV := fun c h => by
    have T := cl c h
    show (if (Value.ref (κ.exc c) == .type "ValueError") = true then some true else if PySem.W.kitMeta "ValueError" = true then PySem.W.subIn κ.K (.ref (κ.exc c)) (.type "ValueError") else none) = some true
    rw [if_neg (by simp), if_pos (by decide +kernel)]
    exact T.va
  kitD := fun t ht k hk => by
    simp only [List.mem_cons, List.not_mem_nil, or_false] at ht hk
    rcases ht with rfl | rfl | rfl | rfl <;> rcases hk with rfl | rfl | rfl | rfl | rfl | rfl <;> exact kit_ty (by decide +kernel)
theorem exm_mkG {κ : Kap} {ok : Nat → Bool} (h0 : ok 0 = true) (cl : ∀ c, ok c = true → ClsT κ.K (κ.exc c)) (sub : ∀ c c', ok c = true → ok c' = true → PySem.W.subIn κ.K (.ref (κ.exc c)) (.ref (κ.exc c')) = some (c == c' || c' == 0)) :
    ∀ c', ok c' = true → PySem.W.exmOne κ.K (.ref (κ.exc c')) (.ref (κ.exc 0)) = some true := fun c' h => by
  have T := cl 0 h0
  have := sub c' 0 h h0
  simp only [beq_self_eq_true, Bool.or_true] at this
  exact PySem.W.exm_ref T.hs T.hd T.ty this
end QY

namespace K10
open PySem PySem.Spec PyProof.Rows L2 QY
def topS (i : Nat) : Stmt := PySem.Challenge.pw_quiltyard_k10_whole_lets.main.body.getD i (.Pass ⟨0, 0, 0, 0⟩)
def okX (c : Nat) : Bool := decide (c ∈ [0, 1, 2, 3])
structure Gls (κ : Kap) (mg : Str → Option Value) : Prop where
  F : ExcF κ okX
  hq : ∀ c', okX c' = true → PySem.W.exmOne κ.K (.ref (κ.exc c')) (.ref (κ.exc 0)) = some true
  cl0 : ObjF κ 0 WF
  n_all : mg "all" = none
  n_any : mg "any" = none
  n_len : mg "len" = none
  n_list : mg "list" = none
  n_range : mg "range" = none
  n_reversed : mg "reversed" = none
  n_set : mg "set" = none
  n_sorted : mg "sorted" = none
  n_tuple : mg "tuple" = none
  r_1 : RaiseK κ 1
  r_2 : RaiseK κ 2
  r_3 : RaiseK κ 3
  t_BORDER : ∃ t, mg "BORDER" = some (.int (-1) t)
  t_LETTERS : ∃ t, mg "LETTERS" = some (.str "abcd" t)
  t_MOST_HIGH : ∃ t, mg "MOST_HIGH" = some (.int (4) t)
  t_MOST_MARKS : ∃ t, mg "MOST_MARKS" = some (.int (16) t)
  t_MOST_WIDE : ∃ t, mg "MOST_WIDE" = some (.int (12) t)
  x_BadPicture : mg "BadPicture" = some (.ref (κ.exc 1))
  x_BadSize : mg "BadSize" = some (.ref (κ.exc 3))
  x_BadSystem : mg "BadSystem" = some (.ref (κ.exc 2))
theorem Gls.v_BORDER {κ : Kap} {mg : Str → Option Value} (E : Gls κ mg) : mg "BORDER" = some (.int (-1) E.t_BORDER.choose) := E.t_BORDER.choose_spec
theorem Gls.v_LETTERS {κ : Kap} {mg : Str → Option Value} (E : Gls κ mg) : mg "LETTERS" = some (.str "abcd" E.t_LETTERS.choose) := E.t_LETTERS.choose_spec
theorem Gls.v_MOST_HIGH {κ : Kap} {mg : Str → Option Value} (E : Gls κ mg) : mg "MOST_HIGH" = some (.int (4) E.t_MOST_HIGH.choose) := E.t_MOST_HIGH.choose_spec
theorem Gls.v_MOST_MARKS {κ : Kap} {mg : Str → Option Value} (E : Gls κ mg) : mg "MOST_MARKS" = some (.int (16) E.t_MOST_MARKS.choose) := E.t_MOST_MARKS.choose_spec
theorem Gls.v_MOST_WIDE {κ : Kap} {mg : Str → Option Value} (E : Gls κ mg) : mg "MOST_WIDE" = some (.int (12) E.t_MOST_WIDE.choose) := E.t_MOST_WIDE.choose_spec
noncomputable section
variable {κ : Kap} {mg : Str → Option Value} {base : Heap}
/-! ### _wall -/
abbrev st__wall : Stmt := topS 0
abbrev N__wall : List Str := ["k"]
theorem sc__wall : FnScope N__wall ["k"] (defScope st__wall) := ⟨rfl, rfl, rfl, by decide +kernel, rfl, by decide +kernel, by decide +kernel⟩
def m__wall_L1 : SV := (sSeq sNx sNx)
def m__wall_W2 : List B → R Bool := (tru (eCon (.bl true)))
def m__wall : SV := (sSeq (whO m__wall_W2 m__wall_L1 fuelW) sNx)
def sem__wall (ds : List D) : R D := if ds.length = 1 then (if false then finX (m__wall (env0 N__wall ds)) else fin (m__wall (env0 N__wall ds))) else .er
theorem at__wall (d0 : D) : sem__wall [d0] = fin (m__wall [.fz d0]) := rfl
theorem b__wall {X : Cx} {W : WX} (E : Gls κ mg)  (G : Good X κ W mg base 0 N__wall (defScope st__wall) (fun _ => true)) (hp : PassesOwn (model X.prog X.w) X.A X.env X.xe) (T : Top X) : PSs X (defBody st__wall) (tS κ W m__wall) :=
  (n_cons (n_while fuelW hp (g_truth G (n_RB g_bl) rfl) (n_cons n_pass
    n_nil))
    n_nil)
theorem fc__wall {f : Addr} {fd : FuncData} (E : Gls κ mg)  (F : Fun κ.K "_wall" "_wall" st__wall f fd) (hm : mg "_wall" = some (.ref f)) : Fc κ mg base 1 "_wall" false 1 sem__wall :=
  fc_of F hm sc__wall rfl (F.binds fun _ _ _ _ _ _ us hl => match us, hl with | [_], _ => rfl) fun X W G hp T => b__wall E  G hp T
/-! ### look_picture -/
abbrev st_look_picture : Stmt := topS 10
abbrev N_look_picture : List Str := ["picture", "row", "sign"]
theorem sc_look_picture : FnScope N_look_picture ["picture"] (defScope st_look_picture) := ⟨rfl, rfl, rfl, by decide +kernel, rfl, by decide +kernel, by decide +kernel⟩
def m_look_picture_C1 : EV := (e2 (inE false) (eVarB 2) (eCon (.str "abcd")))
def m_look_picture_L2 : SV := (sSeq (sIf (bOr (tst (e2 neD (eCallB lenD (aCons (eVarB 1) aNil)) (eCallB lenD (aCons (e2 ixD (eVarB 0) (eCon (.int (0)))) aNil)))) (bNot (tru (eCallB allD (aCons (eLc (eIter (eVar 1)) (.nm 2) (fun _ => .ok true) m_look_picture_C1 [2]) aNil))))) (sSeq (sRaise 1) sNx) sNx) sNx)
def m_look_picture : SV := (sSeq (sIf (bOr (bNot (tst (e3 leD leD (eCon (.int (1))) (eCallB lenD (aCons (eVarB 0) aNil)) (eCon (.int (4)))))) (bNot (tst (e3 leD leD (eCon (.int (1))) (eCallB lenD (aCons (e2 ixD (eVarB 0) (eCon (.int (0)))) aNil)) (eCon (.int (12))))))) (sSeq (sRaise 1) sNx) sNx) (sSeq (sFor (eIter (eVar 0)) (.nm 1) m_look_picture_L2) sNx))
def sem_look_picture (ds : List D) : R D := if ds.length = 1 then (if false then finX (m_look_picture (env0 N_look_picture ds)) else fin (m_look_picture (env0 N_look_picture ds))) else .er
theorem at_look_picture (d0 : D) : sem_look_picture [d0] = fin (m_look_picture [.fz d0, .no, .no]) := rfl
theorem b_look_picture {X : Cx} {W : WX} (E : Gls κ mg)  (G : Good X κ W mg base 0 N_look_picture (defScope st_look_picture) (fun _ => true)) (hp : PassesOwn (model X.prog X.w) X.A X.env X.xe) (T : Top X) : PSs X (defBody st_look_picture) (tS κ W m_look_picture) :=
  (n_cons (n_ifS (pt_pw (n_orW (n_notT (g_cmp3T (k_le G) (k_le G) (n_RB g_int) (n_RB (g_len G E.n_len (by decide +kernel) rfl (g_consB rfl (g_varB G (by decide +kernel)) g_nilB))) (n_RB (g_glI G E.v_MOST_HIGH (by decide +kernel))) rfl)) (pw_or1 (n_notT (g_cmp3T (k_le G) (k_le G) (n_RB g_int) (n_RB (g_len G E.n_len (by decide +kernel) rfl (g_consB rfl (n_RB (g_ix G (g_varB G (by decide +kernel)) (n_RB g_int) rfl)) g_nilB))) (n_RB (g_glI G E.v_MOST_WIDE (by decide +kernel))) rfl))))) (n_cons (g_raise G E.r_1 E.x_BadPicture (by decide +kernel))
    n_nil) n_nil)
    (n_cons (g_for G hp rfl (n_iter G.hK (g_var G (by decide +kernel))) (g_tgN G (by decide +kernel)) (n_cons (n_ifS (pt_pw (n_orW (g_cmpT (k_ne G) (n_RB (g_len G E.n_len (by decide +kernel) rfl (g_consB rfl (g_varB G (by decide +kernel)) g_nilB))) (n_RB (g_len G E.n_len (by decide +kernel) rfl (g_consB rfl (n_RB (g_ix G (g_varB G (by decide +kernel)) (n_RB g_int) rfl)) g_nilB))) rfl) (pw_or1 (n_notT (g_truth G (n_RB (g_all G E.n_all (by decide +kernel) rfl (g_consB rfl (n_XB (g_lc (own' := [("sign", 2)]) G (by decide +kernel) rfl rfl (n_iter G.hK (g_var G (by decide +kernel))) (fun X1 G1 => (g_tgN G1 (by decide +kernel))) (fun X1 G1 => g_t0) (fun X1 G1 => (g_cmp (k_inE G1) (g_varB G1 (by decide +kernel)) (n_RB (g_glS G1 E.v_LETTERS (by decide +kernel))) rfl)))) g_nilB))) rfl))))) (n_cons (g_raise G E.r_1 E.x_BadPicture (by decide +kernel))
    n_nil) n_nil)
    n_nil))
    n_nil))
theorem fc_look_picture {f : Addr} {fd : FuncData} (E : Gls κ mg)  (F : Fun κ.K "look_picture" "look_picture" st_look_picture f fd) (hm : mg "look_picture" = some (.ref f)) : Fc κ mg base 1 "look_picture" false 1 sem_look_picture :=
  fc_of F hm sc_look_picture rfl (F.binds fun _ _ _ _ _ _ us hl => match us, hl with | [_], _ => rfl) fun X W G hp T => b_look_picture E  G hp T
/-! ### columns_of -/
abbrev st_columns_of : Stmt := topS 11
abbrev N_columns_of : List Str := ["picture", "k", "row"]
theorem sc_columns_of : FnScope N_columns_of ["picture"] (defScope st_columns_of) := ⟨rfl, rfl, rfl, by decide +kernel, rfl, by decide +kernel, by decide +kernel⟩
def m_columns_of_C1 : EV := (e2 ixD (eVarB 2) (eVarB 1))
def m_columns_of_C2 : EV := (eMeth "str" joinD (eCon (.str "")) (aCons (eLc (eIter (eVar 0)) (.nm 2) (fun _ => .ok true) m_columns_of_C1 [2]) aNil))
def m_columns_of : SV := (sSeq (sDrop (eCallF 1 sem_look_picture (aCons (eVarB 0) aNil))) (sSeq (sRetX (eLc (eRng (aCons (eCallB lenD (aCons (e2 ixD (eVarB 0) (eCon (.int (0)))) aNil)) aNil)) (.nm 1) (fun _ => .ok true) m_columns_of_C2 [1])) sNx))
def sem_columns_of (ds : List D) : R D := if ds.length = 1 then (if true then finX (m_columns_of (env0 N_columns_of ds)) else fin (m_columns_of (env0 N_columns_of ds))) else .er
theorem at_columns_of (d0 : D) : sem_columns_of [d0] = finX (m_columns_of [.fz d0, .no, .no]) := rfl
theorem b_columns_of {X : Cx} {W : WX} (E : Gls κ mg) (F_look_picture : Fc κ mg base 1 "look_picture" false 1 sem_look_picture) (G : Good X κ W mg base 1 N_columns_of (defScope st_columns_of) (fun _ => true)) (hp : PassesOwn (model X.prog X.w) X.A X.env X.xe) (T : Top X) : PSs X (defBody st_columns_of) (tS κ W m_columns_of) :=
  (n_cons (g_drop rfl (g_callF G F_look_picture (by decide +kernel) (by decide +kernel) rfl (g_consB rfl (g_varB G (by decide +kernel)) g_nilB)))
    (n_cons (n_retT (n_rtX (g_lc (own' := [("k", 1)]) G (by decide +kernel) rfl rfl (g_rng1 G E.n_range (by decide +kernel) rfl (g_len G E.n_len (by decide +kernel) rfl (g_consB rfl (n_RB (g_ix G (g_varB G (by decide +kernel)) (n_RB g_int) rfl)) g_nilB))) (fun X1 G1 => (g_tgN G1 (by decide +kernel))) (fun X1 G1 => g_t0) (fun X1 G1 => (g_join G1 (by decide +kernel) (n_RB g_str) (g_consB rfl (n_XB (g_lc (own' := [("row", 2)]) G1 (by decide +kernel) rfl rfl (n_iter G1.hK (g_var G1 (by decide +kernel))) (fun X2 G2 => (g_tgN G2 (by decide +kernel))) (fun X2 G2 => g_t0) (fun X2 G2 => (g_ix G2 (g_varB G2 (by decide +kernel)) (g_varB G2 (by decide +kernel)) rfl)))) g_nilB))))))
    n_nil))
theorem fc_columns_of {f : Addr} {fd : FuncData} (E : Gls κ mg) (F_look_picture : Fc κ mg base 1 "look_picture" false 1 sem_look_picture) (F : Fun κ.K "columns_of" "columns_of" st_columns_of f fd) (hm : mg "columns_of" = some (.ref f)) : Fc κ mg base 2 "columns_of" true 1 sem_columns_of :=
  fc_of F hm sc_columns_of rfl (F.binds fun _ _ _ _ _ _ us hl => match us, hl with | [_], _ => rfl) fun X W G hp T => b_columns_of E F_look_picture G hp T
/-! ### look_system -/
abbrev st_look_system : Stmt := topS 15
abbrev N_look_system : List Str := ["system", "k", "letters", "tiles", "tile", "sign", "mark"]
theorem sc_look_system : FnScope N_look_system ["system"] (defScope st_look_system) := ⟨rfl, rfl, rfl, by decide +kernel, rfl, by decide +kernel, by decide +kernel⟩
def m_look_system_C1 : EV := (e2 (inE false) (eVarB 5) (eCon (.str "abcd")))
def m_look_system_C2 : EV := (e3 leD ltD (eCon (.int (-1))) (eVarB 6) (eCallB lenD (aCons (eVarB 2) aNil)))
def m_look_system_L3 : SV := (sSeq (sSet 4 (e2 ixD (eVarB 3) (eVarB 1))) (sSeq (sIf (bOr (tst (e2 neD (eCallB lenD (aCons (eVarB 4) aNil)) (eCon (.int (4))))) (bNot (tru (eCallB allD (aCons (eLc (eIter (eVar 4)) (.nm 6) (fun _ => .ok true) m_look_system_C2 [6]) aNil))))) (sSeq (sRaise 2) sNx) sNx) (sSeq (sIf (bAnd (tst (e2 gtD (eVarB 1) (eCon (.int (0))))) (bNot (tst (e2 ltD (e2 ixD (eVarB 3) (e2 subD (eVarB 1) (eCon (.int (1))))) (eVarB 4))))) (sSeq (sRaise 2) sNx) sNx) sNx)))
def m_look_system : SV := (sSeq (sTup [2, 3] (eVar 0)) (sSeq (sIf (bOr (tst (e2 gtD (eCallB lenD (aCons (eVarB 2) aNil)) (eCon (.int (16))))) (bNot (tru (eCallB allD (aCons (eLc (eIter (eVar 2)) (.nm 5) (fun _ => .ok true) m_look_system_C1 [5]) aNil))))) (sSeq (sRaise 2) sNx) sNx) (sSeq (sFor (eRng (aCons (eCallB lenD (aCons (eVarB 3) aNil)) aNil)) (.nm 1) m_look_system_L3) sNx)))
def sem_look_system (ds : List D) : R D := if ds.length = 1 then (if false then finX (m_look_system (env0 N_look_system ds)) else fin (m_look_system (env0 N_look_system ds))) else .er
theorem at_look_system (d0 : D) : sem_look_system [d0] = fin (m_look_system [.fz d0, .no, .no, .no, .no, .no, .no]) := rfl
theorem b_look_system {X : Cx} {W : WX} (E : Gls κ mg)  (G : Good X κ W mg base 0 N_look_system (defScope st_look_system) (fun _ => true)) (hp : PassesOwn (model X.prog X.w) X.A X.env X.xe) (T : Top X) : PSs X (defBody st_look_system) (tS κ W m_look_system) :=
  (n_cons (g_setT rfl rfl (g_var G (by decide +kernel)) (g_tgT G rfl rfl (g_tgCons G (by decide +kernel) (g_tgCons G (by decide +kernel) g_tgNil))))
    (n_cons (n_ifS (pt_pw (n_orW (g_cmpT (k_gt G) (n_RB (g_len G E.n_len (by decide +kernel) rfl (g_consB rfl (g_varB G (by decide +kernel)) g_nilB))) (n_RB (g_glI G E.v_MOST_MARKS (by decide +kernel))) rfl) (pw_or1 (n_notT (g_truth G (n_RB (g_all G E.n_all (by decide +kernel) rfl (g_consB rfl (n_XB (g_lc (own' := [("sign", 5)]) G (by decide +kernel) rfl rfl (n_iter G.hK (g_var G (by decide +kernel))) (fun X1 G1 => (g_tgN G1 (by decide +kernel))) (fun X1 G1 => g_t0) (fun X1 G1 => (g_cmp (k_inE G1) (g_varB G1 (by decide +kernel)) (n_RB (g_glS G1 E.v_LETTERS (by decide +kernel))) rfl)))) g_nilB))) rfl))))) (n_cons (g_raise G E.r_2 E.x_BadSystem (by decide +kernel))
    n_nil) n_nil)
    (n_cons (g_for G hp rfl (g_rng1 G E.n_range (by decide +kernel) rfl (g_len G E.n_len (by decide +kernel) rfl (g_consB rfl (g_varB G (by decide +kernel)) g_nilB))) (g_tgN G (by decide +kernel)) (n_cons (g_setR G (by decide +kernel) rfl (g_ix G (g_varB G (by decide +kernel)) (g_varB G (by decide +kernel)) rfl))
    (n_cons (n_ifS (pt_pw (n_orW (g_cmpT (k_ne G) (n_RB (g_len G E.n_len (by decide +kernel) rfl (g_consB rfl (g_varB G (by decide +kernel)) g_nilB))) (n_RB g_int) rfl) (pw_or1 (n_notT (g_truth G (n_RB (g_all G E.n_all (by decide +kernel) rfl (g_consB rfl (n_XB (g_lc (own' := [("mark", 6)]) G (by decide +kernel) rfl rfl (n_iter G.hK (g_var G (by decide +kernel))) (fun X1 G1 => (g_tgN G1 (by decide +kernel))) (fun X1 G1 => g_t0) (fun X1 G1 => (g_cmp3 (k_le G1) (k_lt G1) (n_RB (g_glI G1 E.v_BORDER (by decide +kernel))) (g_varB G1 (by decide +kernel)) (n_RB (g_len G1 E.n_len (by decide +kernel) rfl (g_consB rfl (g_varB G1 (by decide +kernel)) g_nilB))) rfl)))) g_nilB))) rfl))))) (n_cons (g_raise G E.r_2 E.x_BadSystem (by decide +kernel))
    n_nil) n_nil)
    (n_cons (n_ifS (pt_pw (n_andW (g_cmpT (k_gt G) (g_varB G (by decide +kernel)) (n_RB g_int) rfl) (pw_and1 (n_notT (g_cmpT (k_lt G) (n_RB (g_ix G (g_varB G (by decide +kernel)) (n_XB (g_sub G (g_varB G (by decide +kernel)) (n_RB g_int))) rfl)) (g_varB G (by decide +kernel)) rfl))))) (n_cons (g_raise G E.r_2 E.x_BadSystem (by decide +kernel))
    n_nil) n_nil)
    n_nil))))
    n_nil)))
theorem fc_look_system {f : Addr} {fd : FuncData} (E : Gls κ mg)  (F : Fun κ.K "look_system" "look_system" st_look_system f fd) (hm : mg "look_system" = some (.ref f)) : Fc κ mg base 1 "look_system" false 1 sem_look_system :=
  fc_of F hm sc_look_system rfl (F.binds fun _ _ _ _ _ _ us hl => match us, hl with | [_], _ => rfl) fun X W G hp T => b_look_system E  G hp T
/-! ### framed -/
abbrev st_framed : Stmt := topS 16
abbrev N_framed : List Str := ["rows", "wide", "found", "row"]
theorem sc_framed : FnScope N_framed ["rows"] (defScope st_framed) := ⟨rfl, rfl, rfl, by decide +kernel, rfl, by decide +kernel, by decide +kernel⟩
def m_framed_L1 : SV := (sSeq (sMut gApp 2 (aCons (e2 addD (e2 addD (eLst (aCons (eCon (.int (-1))) aNil)) (eCallB listD (aCons (eVarB 3) aNil))) (eLst (aCons (eCon (.int (-1))) aNil))) aNil)) sNx)
def m_framed : SV := (sSeq (sSetX 1 (e2 addD (eCallB lenD (aCons (e2 ixD (eVarB 0) (eCon (.int (0)))) aNil)) (eCon (.int (2))))) (sSeq (sSetX 2 (eLst (aCons (e2 mulD (eLst (aCons (eCon (.int (-1))) aNil)) (eVarB 1)) aNil))) (sSeq (sFor (eIter (eVar 0)) (.nm 3) m_framed_L1) (sSeq (sRetX (e2 addD (eVarB 2) (eLst (aCons (e2 mulD (eLst (aCons (eCon (.int (-1))) aNil)) (eVarB 1)) aNil)))) sNx))))
def sem_framed (ds : List D) : R D := if ds.length = 1 then (if true then finX (m_framed (env0 N_framed ds)) else fin (m_framed (env0 N_framed ds))) else .er
theorem at_framed (d0 : D) : sem_framed [d0] = finX (m_framed [.fz d0, .no, .no, .no]) := rfl
theorem b_framed {X : Cx} {W : WX} (E : Gls κ mg)  (G : Good X κ W mg base 0 N_framed (defScope st_framed) (fun _ => true)) (hp : PassesOwn (model X.prog X.w) X.A X.env X.xe) (T : Top X) : PSs X (defBody st_framed) (tS κ W m_framed) :=
  (n_cons (g_setX G (by decide +kernel) rfl (g_add G (n_RB (g_len G E.n_len (by decide +kernel) rfl (g_consB rfl (n_RB (g_ix G (g_varB G (by decide +kernel)) (n_RB g_int) rfl)) g_nilB))) (n_RB g_int)))
    (n_cons (g_setX G (by decide +kernel) rfl (n_lst (g_consR rfl (n_XR (g_mul G (n_XB (n_lst (g_consR rfl (g_glI G E.v_BORDER (by decide +kernel)) g_nilR))) (g_varB G (by decide +kernel)))) g_nilR)))
    (n_cons (g_for G hp rfl (n_iter G.hK (g_var G (by decide +kernel))) (g_tgN G (by decide +kernel)) (n_cons (g_app G (by decide +kernel) (by decide +kernel) (g_consR rfl (n_XR (g_add G (n_XB (g_add G (n_XB (n_lst (g_consR rfl (g_glI G E.v_BORDER (by decide +kernel)) g_nilR))) (n_XB (g_list G E.n_list (by decide +kernel) rfl (g_consB rfl (g_varB G (by decide +kernel)) g_nilB))))) (n_XB (n_lst (g_consR rfl (g_glI G E.v_BORDER (by decide +kernel)) g_nilR))))) g_nilR))
    n_nil))
    (n_cons (n_retT (n_rtX (g_add G (g_varB G (by decide +kernel)) (n_XB (n_lst (g_consR rfl (n_XR (g_mul G (n_XB (n_lst (g_consR rfl (g_glI G E.v_BORDER (by decide +kernel)) g_nilR))) (g_varB G (by decide +kernel)))) g_nilR))))))
    n_nil))))
theorem fc_framed {f : Addr} {fd : FuncData} (E : Gls κ mg)  (F : Fun κ.K "framed" "framed" st_framed f fd) (hm : mg "framed" = some (.ref f)) : Fc κ mg base 1 "framed" true 1 sem_framed :=
  fc_of F hm sc_framed rfl (F.binds fun _ _ _ _ _ _ us hl => match us, hl with | [_], _ => rfl) fun X W G hp T => b_framed E  G hp T
/-! ### tiles_in -/
abbrev st_tiles_in : Stmt := topS 17
abbrev N_tiles_in : List Str := ["rows", "some", "found", "y", "x"]
theorem sc_tiles_in : FnScope N_tiles_in ["rows"] (defScope st_tiles_in) := ⟨rfl, rfl, rfl, by decide +kernel, rfl, by decide +kernel, by decide +kernel⟩
def m_tiles_in_L1 : SV := (sSeq (sPut 2 (eTup (aCons (e2 ixD (e2 ixD (eVarB 1) (eVarB 3)) (eVarB 4)) (aCons (e2 ixD (e2 ixD (eVarB 1) (eVarB 3)) (e2 addD (eVarB 4) (eCon (.int (1))))) (aCons (e2 ixD (e2 ixD (eVarB 1) (e2 addD (eVarB 3) (eCon (.int (1))))) (eVarB 4)) (aCons (e2 ixD (e2 ixD (eVarB 1) (e2 addD (eVarB 3) (eCon (.int (1))))) (e2 addD (eVarB 4) (eCon (.int (1))))) aNil))))) (eCon (.bl true))) sNx)
def m_tiles_in_L2 : SV := (sSeq (sFor (eRng (aCons (e2 subD (eCallB lenD (aCons (e2 ixD (eVarB 1) (eCon (.int (0)))) aNil)) (eCon (.int (1)))) aNil)) (.nm 4) m_tiles_in_L1) sNx)
def m_tiles_in : SV := (sSeq (sSetX 1 (eCall 1 sem_framed (aCons (eVar 0) aNil))) (sSeq (sSetX 2 (eCon (.dct [] []))) (sSeq (sFor (eRng (aCons (e2 subD (eCallB lenD (aCons (eVarB 1) aNil)) (eCon (.int (1)))) aNil)) (.nm 3) m_tiles_in_L2) (sSeq (sRetX (eCallB sortedD (aCons (eVarB 2) aNil))) sNx))))
def sem_tiles_in (ds : List D) : R D := if ds.length = 1 then (if true then finX (m_tiles_in (env0 N_tiles_in ds)) else fin (m_tiles_in (env0 N_tiles_in ds))) else .er
theorem at_tiles_in (d0 : D) : sem_tiles_in [d0] = finX (m_tiles_in [.fz d0, .no, .no, .no, .no]) := rfl
theorem b_tiles_in {X : Cx} {W : WX} (E : Gls κ mg) (F_framed : Fc κ mg base 1 "framed" true 1 sem_framed) (G : Good X κ W mg base 1 N_tiles_in (defScope st_tiles_in) (fun _ => true)) (hp : PassesOwn (model X.prog X.w) X.A X.env X.xe) (T : Top X) : PSs X (defBody st_tiles_in) (tS κ W m_tiles_in) :=
  (n_cons (g_setX G (by decide +kernel) rfl (g_callX G F_framed (by decide +kernel) (by decide +kernel) rfl (g_consR rfl (g_var G (by decide +kernel)) g_nilR)))
    (n_cons (g_setX G (by decide +kernel) rfl n_dnew)
    (n_cons (g_for G hp rfl (g_rng1 G E.n_range (by decide +kernel) rfl (n_XR (g_sub G (n_RB (g_len G E.n_len (by decide +kernel) rfl (g_consB rfl (g_varB G (by decide +kernel)) g_nilB))) (n_RB g_int)))) (g_tgN G (by decide +kernel)) (n_cons (g_for G hp rfl (g_rng1 G E.n_range (by decide +kernel) rfl (n_XR (g_sub G (n_RB (g_len G E.n_len (by decide +kernel) rfl (g_consB rfl (n_RB (g_ix G (g_varB G (by decide +kernel)) (n_RB g_int) rfl)) g_nilB))) (n_RB g_int)))) (g_tgN G (by decide +kernel)) (n_cons (g_put G (by decide +kernel) rfl rfl g_bl (n_tup (g_consR rfl (g_ix G (n_RB (g_ix G (g_varB G (by decide +kernel)) (g_varB G (by decide +kernel)) rfl)) (g_varB G (by decide +kernel)) rfl) (g_consR rfl (g_ix G (n_RB (g_ix G (g_varB G (by decide +kernel)) (g_varB G (by decide +kernel)) rfl)) (n_XB (g_add G (g_varB G (by decide +kernel)) (n_RB g_int))) rfl) (g_consR rfl (g_ix G (n_RB (g_ix G (g_varB G (by decide +kernel)) (n_XB (g_add G (g_varB G (by decide +kernel)) (n_RB g_int))) rfl)) (g_varB G (by decide +kernel)) rfl) (g_consR rfl (g_ix G (n_RB (g_ix G (g_varB G (by decide +kernel)) (n_XB (g_add G (g_varB G (by decide +kernel)) (n_RB g_int))) rfl)) (n_XB (g_add G (g_varB G (by decide +kernel)) (n_RB g_int))) rfl) g_nilR))))))
    n_nil))
    n_nil))
    (n_cons (n_retT (n_rtX (g_sorted G E.n_sorted (by decide +kernel) rfl (g_consB rfl (g_varB G (by decide +kernel)) g_nilB))))
    n_nil))))
theorem fc_tiles_in {f : Addr} {fd : FuncData} (E : Gls κ mg) (F_framed : Fc κ mg base 1 "framed" true 1 sem_framed) (F : Fun κ.K "tiles_in" "tiles_in" st_tiles_in f fd) (hm : mg "tiles_in" = some (.ref f)) : Fc κ mg base 2 "tiles_in" true 1 sem_tiles_in :=
  fc_of F hm sc_tiles_in rfl (F.binds fun _ _ _ _ _ _ us hl => match us, hl with | [_], _ => rfl) fun X W G hp T => b_tiles_in E F_framed G hp T
/-! ### shows -/
abbrev st_shows : Stmt := topS 18
abbrev N_shows : List Str := ["system", "picture", "rows", "y", "letters", "tiles", "x", "row", "tile"]
theorem sc_shows : FnScope N_shows ["system", "picture", "rows"] (defScope st_shows) := ⟨rfl, rfl, rfl, by decide +kernel, rfl, by decide +kernel, by decide +kernel⟩
def m_shows_C1 : EV := (eCallB lenD (aCons (eVarB 7) aNil))
def m_shows_C2 : EV := (eCallB lenD (aCons (eVarB 7) aNil))
def m_shows_L3 : SV := (sSeq (sIf (bOr (bNot (tst (e3 leD ltD (eCon (.int (0))) (e2 ixD (e2 ixD (eVarB 2) (eVarB 3)) (eVarB 6)) (eCallB lenD (aCons (eVarB 4) aNil))))) (tst (e2 neD (e2 ixD (eVarB 4) (e2 ixD (e2 ixD (eVarB 2) (eVarB 3)) (eVarB 6))) (e2 ixD (e2 ixD (eVarB 1) (eVarB 3)) (eVarB 6))))) (sSeq (sRet (eCon (.bl false))) sNx) sNx) sNx)
def m_shows_L4 : SV := (sSeq (sFor (eRng (aCons (eCallB lenD (aCons (e2 ixD (eVarB 2) (eVarB 3)) aNil)) aNil)) (.nm 6) m_shows_L3) sNx)
def m_shows_C5 : EV := (e2 (inE false) (eVarB 8) (eVarB 5))
def m_shows : SV := (sSeq (sDrop (eCallF 1 sem_look_system (aCons (eVarB 0) aNil))) (sSeq (sDrop (eCallF 1 sem_look_picture (aCons (eVarB 1) aNil))) (sSeq (sTup [4, 5] (eVar 0)) (sSeq (sIf (tst (e2 neD (eLc (eIter (eVar 2)) (.nm 7) (fun _ => .ok true) m_shows_C1 [7]) (eLc (eIter (eVar 1)) (.nm 7) (fun _ => .ok true) m_shows_C2 [7]))) (sSeq (sRet (eCon (.bl false))) sNx) sNx) (sSeq (sFor (eRng (aCons (eCallB lenD (aCons (eVarB 2) aNil)) aNil)) (.nm 3) m_shows_L4) (sSeq (sRet (eCallB allD (aCons (eLc (eIter (eCall 1 sem_tiles_in (aCons (eVar 2) aNil))) (.nm 8) (fun _ => .ok true) m_shows_C5 [8]) aNil))) sNx))))))
def sem_shows (ds : List D) : R D := if ds.length = 3 then (if false then finX (m_shows (env0 N_shows ds)) else fin (m_shows (env0 N_shows ds))) else .er
theorem at_shows (d0 d1 d2 : D) : sem_shows [d0, d1, d2] = fin (m_shows [.fz d0, .fz d1, .fz d2, .no, .no, .no, .no, .no, .no]) := rfl
theorem b_shows {X : Cx} {W : WX} (E : Gls κ mg) (F_look_system : Fc κ mg base 1 "look_system" false 1 sem_look_system) (F_look_picture : Fc κ mg base 1 "look_picture" false 1 sem_look_picture) (F_tiles_in : Fc κ mg base 2 "tiles_in" true 1 sem_tiles_in) (G : Good X κ W mg base 2 N_shows (defScope st_shows) (fun _ => true)) (hp : PassesOwn (model X.prog X.w) X.A X.env X.xe) (T : Top X) : PSs X (defBody st_shows) (tS κ W m_shows) :=
  (n_cons (g_drop rfl (g_callF G F_look_system (by decide +kernel) (by decide +kernel) rfl (g_consB rfl (g_varB G (by decide +kernel)) g_nilB)))
    (n_cons (g_drop rfl (g_callF G F_look_picture (by decide +kernel) (by decide +kernel) rfl (g_consB rfl (g_varB G (by decide +kernel)) g_nilB)))
    (n_cons (g_setT rfl rfl (g_var G (by decide +kernel)) (g_tgT G rfl rfl (g_tgCons G (by decide +kernel) (g_tgCons G (by decide +kernel) g_tgNil))))
    (n_cons (n_ifS (g_cmpT (k_ne G) (n_XB (g_lc (own' := [("row", 7)]) G (by decide +kernel) rfl rfl (n_iter G.hK (g_var G (by decide +kernel))) (fun X1 G1 => (g_tgN G1 (by decide +kernel))) (fun X1 G1 => g_t0) (fun X1 G1 => (g_len G1 E.n_len (by decide +kernel) rfl (g_consB rfl (g_varB G1 (by decide +kernel)) g_nilB))))) (n_XB (g_lc (own' := [("row", 7)]) G (by decide +kernel) rfl rfl (n_iter G.hK (g_var G (by decide +kernel))) (fun X1 G1 => (g_tgN G1 (by decide +kernel))) (fun X1 G1 => g_t0) (fun X1 G1 => (g_len G1 E.n_len (by decide +kernel) rfl (g_consB rfl (g_varB G1 (by decide +kernel)) g_nilB))))) rfl) (n_cons (n_ret g_bl)
    n_nil) n_nil)
    (n_cons (g_for G hp rfl (g_rng1 G E.n_range (by decide +kernel) rfl (g_len G E.n_len (by decide +kernel) rfl (g_consB rfl (g_varB G (by decide +kernel)) g_nilB))) (g_tgN G (by decide +kernel)) (n_cons (g_for G hp rfl (g_rng1 G E.n_range (by decide +kernel) rfl (g_len G E.n_len (by decide +kernel) rfl (g_consB rfl (n_RB (g_ix G (g_varB G (by decide +kernel)) (g_varB G (by decide +kernel)) rfl)) g_nilB))) (g_tgN G (by decide +kernel)) (n_cons (n_ifS (pt_pw (n_orW (n_notT (g_cmp3T (k_le G) (k_lt G) (n_RB g_int) (n_RB (g_ix G (n_RB (g_ix G (g_varB G (by decide +kernel)) (g_varB G (by decide +kernel)) rfl)) (g_varB G (by decide +kernel)) rfl)) (n_RB (g_len G E.n_len (by decide +kernel) rfl (g_consB rfl (g_varB G (by decide +kernel)) g_nilB))) rfl)) (pw_or1 (g_cmpT (k_ne G) (n_RB (g_ix G (g_varB G (by decide +kernel)) (n_RB (g_ix G (n_RB (g_ix G (g_varB G (by decide +kernel)) (g_varB G (by decide +kernel)) rfl)) (g_varB G (by decide +kernel)) rfl)) rfl)) (n_RB (g_ix G (n_RB (g_ix G (g_varB G (by decide +kernel)) (g_varB G (by decide +kernel)) rfl)) (g_varB G (by decide +kernel)) rfl)) rfl)))) (n_cons (n_ret g_bl)
    n_nil) n_nil)
    n_nil))
    n_nil))
    (n_cons (n_ret (g_all G E.n_all (by decide +kernel) rfl (g_consB rfl (n_XB (g_lc (own' := [("tile", 8)]) G (by decide +kernel) rfl rfl (n_iter G.hK (n_XR (g_callX G F_tiles_in (by decide +kernel) (by decide +kernel) rfl (g_consR rfl (g_var G (by decide +kernel)) g_nilR)))) (fun X1 G1 => (g_tgN G1 (by decide +kernel))) (fun X1 G1 => g_t0) (fun X1 G1 => (g_cmp (k_inE G1) (g_varB G1 (by decide +kernel)) (g_varB G1 (by decide +kernel)) rfl)))) g_nilB)))
    n_nil))))))
theorem fc_shows {f : Addr} {fd : FuncData} (E : Gls κ mg) (F_look_system : Fc κ mg base 1 "look_system" false 1 sem_look_system) (F_look_picture : Fc κ mg base 1 "look_picture" false 1 sem_look_picture) (F_tiles_in : Fc κ mg base 2 "tiles_in" true 1 sem_tiles_in) (F : Fun κ.K "shows" "shows" st_shows f fd) (hm : mg "shows" = some (.ref f)) : Fc κ mg base 3 "shows" false 3 sem_shows :=
  fc_of F hm sc_shows rfl (F.binds fun _ _ _ _ _ _ us hl => match us, hl with | [_, _, _], _ => rfl) fun X W G hp T => b_shows E F_look_system F_look_picture F_tiles_in G hp T
/-! ### Walk.__init__ -/
abbrev st_Walk_init : Stmt := inClass (topS 20) 0
abbrev N_Walk_init : List Str := ["self", "system", "high", "tile"]
theorem sc_Walk_init : FnScope N_Walk_init ["self", "system", "high"] (defScope st_Walk_init) := ⟨rfl, rfl, rfl, by decide +kernel, rfl, by decide +kernel, by decide +kernel⟩
def m_Walk_init_1 : SV := (sDrop (eCallF 1 sem_look_system (aCons (eVarB 1) aNil)))
def m_Walk_init_2 : SV := (sIf (bNot (tst (e3 leD leD (eCon (.int (1))) (eVarB 2) (eCon (.int (4)))))) (sSeq (sRaise 3) sNx) sNx)
def m_Walk_init_L : EV := (e2 ixD (eVarB 1) (eCon (.int (0))))
def m_Walk_init_I : AV := (eIter (e2 ixD (eVarB 1) (eCon (.int (1)))))
def m_Walk_init_E : EV := (e2 mulE (eTup (aCons (eCon (.int (-1))) aNil)) (eVarB 2))
def sem_Walk (ds : List D) : R D := if ds.length = 2 then semW0 0 m_Walk_init_1 m_Walk_init_2 m_Walk_init_L m_Walk_init_I m_Walk_init_E (env0 N_Walk_init (.ptr 0 :: ds)) else .er
theorem at_Walk (S h : D) : sem_Walk [S, h] = walkR sem_look_system S h := walk_sem sem_look_system 0 S h
theorem inv_Walk (a : Addr) (ds : List D) (h : ds.length = 2) : semW0 0 m_Walk_init_1 m_Walk_init_2 m_Walk_init_L m_Walk_init_I m_Walk_init_E (env0 N_Walk_init (.ptr 0 :: ds)) = .er ∨ semW0 a m_Walk_init_1 m_Walk_init_2 m_Walk_init_L m_Walk_init_I m_Walk_init_E (env0 N_Walk_init (.ptr a :: ds)) = semW0 0 m_Walk_init_1 m_Walk_init_2 m_Walk_init_L m_Walk_init_I m_Walk_init_E (env0 N_Walk_init (.ptr 0 :: ds)) := match ds, h with
  | [S, q], _ => .inr ((walk_sem sem_look_system a S q).trans (walk_sem sem_look_system 0 S q).symm)
theorem b_Walk_init {X : Cx} {W : WX} (E : Gls κ mg) (F_look_system : Fc κ mg base 1 "look_system" false 1 sem_look_system) (G : Good X κ W mg base 1 N_Walk_init (defScope st_Walk_init) (fun _ => true)) (hp : PassesOwn (model X.prog X.w) X.A X.env X.xe) (T : Top X) : PSs X (defBody st_Walk_init) (tWI κ W m_Walk_init_1 m_Walk_init_2 m_Walk_init_L m_Walk_init_I m_Walk_init_E) :=
  walk_init G hp E.cl0 (fun _ => g_tv G (by decide +kernel)) (fun _ => g_var G (by decide +kernel)) (g_drop rfl (g_callF G F_look_system (by decide +kernel) (by decide +kernel) rfl (g_consB rfl (g_varB G (by decide +kernel)) g_nilB)))
    (n_ifS (n_notT (g_cmp3T (k_le G) (k_le G) (n_RB g_int) (g_varB G (by decide +kernel)) (n_RB (g_glI G E.v_MOST_HIGH (by decide +kernel))) rfl)) (n_cons (g_raise G E.r_3 E.x_BadSize (by decide +kernel))
    n_nil) n_nil)
    (g_ix G (g_varB G (by decide +kernel)) (n_RB g_int) rfl) rfl (n_iter G.hK (g_ix G (g_varB G (by decide +kernel)) (n_RB g_int) rfl)) (g_tgN G (by decide +kernel)) rfl (n_XR (g_mulE G (n_RB (n_tup (g_consR rfl (g_glI G E.v_BORDER (by decide +kernel)) g_nilR))) (g_varB G (by decide +kernel)))) rfl
theorem fc_Walk_init {f : Addr} {fd : FuncData} (E : Gls κ mg) (F_look_system : Fc κ mg base 1 "look_system" false 1 sem_look_system) (F : Fun κ.K "__init__" "Walk.__init__" st_Walk_init f fd) (M : Mk κ.K (κ.cls 0) f) (hm : mg "Walk" = some (.ref (κ.cls 0))) : Kc κ mg base 2 0 "Walk" 2 sem_Walk :=
  kc_of F M hm sc_Walk_init rfl (F.binds fun _ _ _ _ _ _ us hl => match us, hl with | [_, _, _], _ => rfl) (fun X W G hp T => b_Walk_init E F_look_system G hp T) inv_Walk
/-! ### fits -/
abbrev st_Walk_fits : Stmt := inClass (topS 20) 1
abbrev N_Walk_fits : List Str := ["self", "one", "other", "left", "right", "k"]
theorem sc_Walk_fits : FnScope N_Walk_fits ["self", "one", "other"] (defScope st_Walk_fits) := ⟨rfl, rfl, rfl, by decide +kernel, rfl, by decide +kernel, by decide +kernel⟩
def m_Walk_fits_C1 : EV := (e2 (inE false) (eTup (aCons (e2 ixD (eVarB 3) (eVarB 5)) (aCons (e2 ixD (eVarB 4) (eVarB 5)) (aCons (e2 ixD (eVarB 3) (e2 addD (eVarB 5) (eCon (.int (1))))) (aCons (e2 ixD (eVarB 4) (e2 addD (eVarB 5) (eCon (.int (1))))) aNil))))) (e1 (fldD 0 1) (eVar 0)))
def m_Walk_fits : SV := (sSeq (sSetX 3 (e2 addD (e2 addD (eTup (aCons (eCon (.int (-1))) aNil)) (eVarB 1)) (eTup (aCons (eCon (.int (-1))) aNil)))) (sSeq (sSetX 4 (e2 addD (e2 addD (eTup (aCons (eCon (.int (-1))) aNil)) (eVarB 2)) (eTup (aCons (eCon (.int (-1))) aNil)))) (sSeq (sRet (eCallB allD (aCons (eLc (eRng (aCons (e2 subD (eCallB lenD (aCons (eVarB 3) aNil)) (eCon (.int (1)))) aNil)) (.nm 5) (fun _ => .ok true) m_Walk_fits_C1 [5]) aNil))) sNx)))
def sem_Walk_fits (ds : List D) : R D := if ds.length = 3 then (if false then finX (m_Walk_fits (env0 N_Walk_fits ds)) else fin (m_Walk_fits (env0 N_Walk_fits ds))) else .er
theorem at_Walk_fits (d0 d1 d2 : D) : sem_Walk_fits [d0, d1, d2] = fin (m_Walk_fits [.fz d0, .fz d1, .fz d2, .no, .no, .no]) := rfl
theorem b_Walk_fits {X : Cx} {W : WX} (E : Gls κ mg)  (G : Good X κ W mg base 0 N_Walk_fits (defScope st_Walk_fits) (fun _ => true)) (hp : PassesOwn (model X.prog X.w) X.A X.env X.xe) (T : Top X) : PSs X (defBody st_Walk_fits) (tS κ W m_Walk_fits) :=
  (n_cons (g_setX G (by decide +kernel) rfl (g_add G (n_XB (g_add G (n_RB (n_tup (g_consR rfl (g_glI G E.v_BORDER (by decide +kernel)) g_nilR))) (g_varB G (by decide +kernel)))) (n_RB (n_tup (g_consR rfl (g_glI G E.v_BORDER (by decide +kernel)) g_nilR)))))
    (n_cons (g_setX G (by decide +kernel) rfl (g_add G (n_XB (g_add G (n_RB (n_tup (g_consR rfl (g_glI G E.v_BORDER (by decide +kernel)) g_nilR))) (g_varB G (by decide +kernel)))) (n_RB (n_tup (g_consR rfl (g_glI G E.v_BORDER (by decide +kernel)) g_nilR)))))
    (n_cons (n_ret (g_all G E.n_all (by decide +kernel) rfl (g_consB rfl (n_XB (g_lc (own' := [("k", 5)]) G (by decide +kernel) rfl rfl (g_rng1 G E.n_range (by decide +kernel) rfl (n_XR (g_sub G (n_RB (g_len G E.n_len (by decide +kernel) rfl (g_consB rfl (g_varB G (by decide +kernel)) g_nilB))) (n_RB g_int)))) (fun X1 G1 => (g_tgN G1 (by decide +kernel))) (fun X1 G1 => g_t0) (fun X1 G1 => (g_cmp (k_inE G1) (n_RB (n_tup (g_consR rfl (g_ix G1 (g_varB G1 (by decide +kernel)) (g_varB G1 (by decide +kernel)) rfl) (g_consR rfl (g_ix G1 (g_varB G1 (by decide +kernel)) (g_varB G1 (by decide +kernel)) rfl) (g_consR rfl (g_ix G1 (g_varB G1 (by decide +kernel)) (n_XB (g_add G1 (g_varB G1 (by decide +kernel)) (n_RB g_int))) rfl) (g_consR rfl (g_ix G1 (g_varB G1 (by decide +kernel)) (n_XB (g_add G1 (g_varB G1 (by decide +kernel)) (n_RB g_int))) rfl) g_nilR)))))) (n_RB (g_fld G1 E.cl0 rfl rfl (g_var G1 (by decide +kernel)))) rfl)))) g_nilB)))
    n_nil)))
theorem fc_Walk_fits {f : Addr} {fd : FuncData} (E : Gls κ mg)  (F : Fun κ.K "fits" "Walk.fits" st_Walk_fits f fd) (M : Meth κ.K (κ.cls 0) "fits" f) : Mc κ mg base 1 0 "fits" false 3 sem_Walk_fits :=
  mc_of F M sc_Walk_fits rfl (F.binds fun _ _ _ _ _ _ us hl => match us, hl with | [_, _, _], _ => rfl) fun X W G hp T => b_Walk_fits E  G hp T
/-! ### behind -/
abbrev st_Walk_behind : Stmt := inClass (topS 20) 2
abbrev N_Walk_behind : List Str := ["self", "one", "text", "some", "k", "longer", "column", "left", "right", "mark"]
theorem sc_Walk_behind : FnScope N_Walk_behind ["self", "one", "text"] (defScope st_Walk_behind) := ⟨rfl, rfl, rfl, by decide +kernel, rfl, by decide +kernel, by decide +kernel⟩
def m_Walk_behind_L1 : SV := (sSeq (sIf (bOr (tst (e2 (isD false) (eVarB 2) (eCon .non))) (tst (e2 eqD (e2 ixD (e1 (fldD 0 0) (eVar 0)) (eVarB 9)) (e2 ixD (eVarB 2) (eVarB 4))))) (sSeq (sIf (tst (e2 (inE false) (eTup (aCons (eVar 7) (aCons (eVar 8) (aCons (e2 ixD (eVarB 1) (eVarB 4)) (aCons (eVar 9) aNil))))) (e1 (fldD 0 1) (eVar 0)))) (sSeq (sMut gApp 5 (aCons (eTup (aCons (e2 addD (eVarB 6) (eTup (aCons (eVar 9) aNil))) (aCons (e2 ixD (eVarB 1) (eVarB 4)) (aCons (eVar 9) aNil)))) aNil)) sNx) sNx) sNx) sNx) sNx)
def m_Walk_behind_L2 : SV := (sSeq (sFor (eRng (aCons (eCallB lenD (aCons (e1 (fldD 0 0) (eVar 0)) aNil)) aNil)) (.nm 9) m_Walk_behind_L1) sNx)
def m_Walk_behind_L3 : SV := (sSeq (sSetX 5 (eLst aNil)) (sSeq (sFz [3] (sFor (eIter (eVar 3)) (.tp [6, 7, 8]) m_Walk_behind_L2)) (sSeq (sFz [5] (sSet 3 (eVar 5))) sNx)))
def m_Walk_behind_C4 : EV := (eVar 6)
def m_Walk_behind_T5 : List B → R Bool := (tst (e2 (inE false) (eTup (aCons (eVar 7) (aCons (eVar 8) (aCons (eCon (.int (-1))) (aCons (eCon (.int (-1))) aNil))))) (e1 (fldD 0 1) (eVar 0))))
def m_Walk_behind : SV := (sSeq (sSetX 3 (eLst (aCons (eTup (aCons (eTup aNil) (aCons (eCon (.int (-1))) (aCons (eCon (.int (-1))) aNil)))) aNil))) (sSeq (sFor (eRng (aCons (eCallB lenD (aCons (eVarB 1) aNil)) aNil)) (.nm 4) m_Walk_behind_L3) (sSeq (sFz [3] (sRetX (eLc (eIter (eVar 3)) (.tp [6, 7, 8]) m_Walk_behind_T5 m_Walk_behind_C4 [6, 7, 8]))) sNx)))
def sem_Walk_behind (ds : List D) : R D := if ds.length = 3 then (if true then finX (m_Walk_behind (env0 N_Walk_behind ds)) else fin (m_Walk_behind (env0 N_Walk_behind ds))) else .er
theorem at_Walk_behind (d0 d1 d2 : D) : sem_Walk_behind [d0, d1, d2] = finX (m_Walk_behind [.fz d0, .fz d1, .fz d2, .no, .no, .no, .no, .no, .no, .no]) := rfl
theorem b_Walk_behind {X : Cx} {W : WX} (E : Gls κ mg)  (G : Good X κ W mg base 0 N_Walk_behind (defScope st_Walk_behind) (fun _ => true)) (hp : PassesOwn (model X.prog X.w) X.A X.env X.xe) (T : Top X) : PSs X (defBody st_Walk_behind) (tS κ W m_Walk_behind) :=
  (n_cons (g_setX G (by decide +kernel) rfl (n_lst (g_consR rfl (n_tup (g_consR rfl (n_tup g_nilR) (g_consR rfl (g_glI G E.v_BORDER (by decide +kernel)) (g_consR rfl (g_glI G E.v_BORDER (by decide +kernel)) g_nilR)))) g_nilR)))
    (n_cons (g_for G hp rfl (g_rng1 G E.n_range (by decide +kernel) rfl (g_len G E.n_len (by decide +kernel) rfl (g_consB rfl (g_varB G (by decide +kernel)) g_nilB))) (g_tgN G (by decide +kernel)) (n_cons (g_setX G (by decide +kernel) rfl (n_lst g_nilR))
    (n_cons (n_fz [3] (g_for G hp rfl (n_iter G.hK (g_var G (by decide +kernel))) (g_tgT G rfl rfl (g_tgCons G (by decide +kernel) (g_tgCons G (by decide +kernel) (g_tgCons G (by decide +kernel) g_tgNil)))) (n_cons (g_for G hp rfl (g_rng1 G E.n_range (by decide +kernel) rfl (g_len G E.n_len (by decide +kernel) rfl (g_consB rfl (n_RB (g_fld G E.cl0 rfl rfl (g_var G (by decide +kernel)))) g_nilB))) (g_tgN G (by decide +kernel)) (n_cons (n_ifS (pt_pw (n_orW (g_cmpT (k_is G) (g_varB G (by decide +kernel)) (n_RB g_non) rfl) (pw_or1 (g_cmpT (k_eq G) (n_RB (g_ix G (n_RB (g_fld G E.cl0 rfl rfl (g_var G (by decide +kernel)))) (g_varB G (by decide +kernel)) rfl)) (n_RB (g_ix G (g_varB G (by decide +kernel)) (g_varB G (by decide +kernel)) rfl)) rfl)))) (n_cons (n_ifS (g_cmpT (k_inE G) (n_RB (n_tup (g_consR rfl (g_var G (by decide +kernel)) (g_consR rfl (g_var G (by decide +kernel)) (g_consR rfl (g_ix G (g_varB G (by decide +kernel)) (g_varB G (by decide +kernel)) rfl) (g_consR rfl (g_var G (by decide +kernel)) g_nilR)))))) (n_RB (g_fld G E.cl0 rfl rfl (g_var G (by decide +kernel)))) rfl) (n_cons (g_app G (by decide +kernel) (by decide +kernel) (g_consR rfl (n_tup (g_consR rfl (n_XR (g_add G (g_varB G (by decide +kernel)) (n_RB (n_tup (g_consR rfl (g_var G (by decide +kernel)) g_nilR))))) (g_consR rfl (g_ix G (g_varB G (by decide +kernel)) (g_varB G (by decide +kernel)) rfl) (g_consR rfl (g_var G (by decide +kernel)) g_nilR)))) g_nilR))
    n_nil) n_nil)
    n_nil) n_nil)
    n_nil))
    n_nil)))
    (n_cons (n_fz [5] (g_setR G (by decide +kernel) rfl (g_var G (by decide +kernel))))
    n_nil))))
    (n_cons (n_fz [3] (n_retT (n_rtX (g_lc (own' := [("column", 6), ("left", 7), ("right", 8)]) G (by decide +kernel) rfl rfl (n_iter G.hK (g_var G (by decide +kernel))) (fun X1 G1 => (g_tgT G1 rfl rfl (g_tgCons G1 (by decide +kernel) (g_tgCons G1 (by decide +kernel) (g_tgCons G1 (by decide +kernel) g_tgNil))))) (fun X1 G1 => (pts_one (g_cmpT (k_inE G1) (n_RB (n_tup (g_consR rfl (g_var G1 (by decide +kernel)) (g_consR rfl (g_var G1 (by decide +kernel)) (g_consR rfl (g_glI G1 E.v_BORDER (by decide +kernel)) (g_consR rfl (g_glI G1 E.v_BORDER (by decide +kernel)) g_nilR)))))) (n_RB (g_fld G1 E.cl0 rfl rfl (g_var G1 (by decide +kernel)))) rfl))) (fun X1 G1 => (g_var G1 (by decide +kernel)))))))
    n_nil)))
theorem fc_Walk_behind {f : Addr} {fd : FuncData} (E : Gls κ mg)  (F : Fun κ.K "behind" "Walk.behind" st_Walk_behind f fd) (M : Meth κ.K (κ.cls 0) "behind" f) : Mc κ mg base 1 0 "behind" true 3 sem_Walk_behind :=
  mc_of F M sc_Walk_behind rfl (F.binds fun _ _ _ _ _ _ us hl => match us, hl with | [_, _, _], _ => rfl) fun X W G hp T => b_Walk_behind E  G hp T
/-! ### ends -/
abbrev st_Walk_ends : Stmt := inClass (topS 20) 3
abbrev N_Walk_ends : List Str := ["self", "one"]
theorem sc_Walk_ends : FnScope N_Walk_ends ["self", "one"] (defScope st_Walk_ends) := ⟨rfl, rfl, rfl, by decide +kernel, rfl, by decide +kernel, by decide +kernel⟩
def m_Walk_ends : SV := (sSeq (sRet (eMc 0 3 sem_Walk_fits (eVar 0) (aCons (eVar 1) (aCons (e1 (fldD 0 2) (eVar 0)) aNil)))) sNx)
def sem_Walk_ends (ds : List D) : R D := if ds.length = 2 then (if false then finX (m_Walk_ends (env0 N_Walk_ends ds)) else fin (m_Walk_ends (env0 N_Walk_ends ds))) else .er
theorem at_Walk_ends (d0 d1 : D) : sem_Walk_ends [d0, d1] = fin (m_Walk_ends [.fz d0, .fz d1]) := rfl
theorem b_Walk_ends {X : Cx} {W : WX} (E : Gls κ mg) (F_Walk_fits : Mc κ mg base 1 0 "fits" false 3 sem_Walk_fits) (G : Good X κ W mg base 1 N_Walk_ends (defScope st_Walk_ends) (fun _ => true)) (hp : PassesOwn (model X.prog X.w) X.A X.env X.xe) (T : Top X) : PSs X (defBody st_Walk_ends) (tS κ W m_Walk_ends) :=
  (n_cons (n_ret (g_mcR G E.cl0 F_Walk_fits (by decide +kernel) (by decide +kernel) rfl (g_var G (by decide +kernel)) (g_consR rfl (g_var G (by decide +kernel)) (g_consR rfl (g_fld G E.cl0 rfl rfl (g_var G (by decide +kernel))) g_nilR)) rfl))
    n_nil)
theorem fc_Walk_ends {f : Addr} {fd : FuncData} (E : Gls κ mg) (F_Walk_fits : Mc κ mg base 1 0 "fits" false 3 sem_Walk_fits) (F : Fun κ.K "ends" "Walk.ends" st_Walk_ends f fd) (M : Meth κ.K (κ.cls 0) "ends" f) : Mc κ mg base 2 0 "ends" false 2 sem_Walk_ends :=
  mc_of F M sc_Walk_ends rfl (F.binds fun _ _ _ _ _ _ us hl => match us, hl with | [_, _], _ => rfl) fun X W G hp T => b_Walk_ends E F_Walk_fits G hp T
/-! ### text -/
abbrev st_Walk_text : Stmt := inClass (topS 20) 4
abbrev N_Walk_text : List Str := ["self", "column", "mark"]
theorem sc_Walk_text : FnScope N_Walk_text ["self", "column"] (defScope st_Walk_text) := ⟨rfl, rfl, rfl, by decide +kernel, rfl, by decide +kernel, by decide +kernel⟩
def m_Walk_text_C1 : EV := (e2 ixD (e1 (fldD 0 0) (eVar 0)) (eVarB 2))
def m_Walk_text : SV := (sSeq (sRet (eMeth "str" joinD (eCon (.str "")) (aCons (eLc (eIter (eVar 1)) (.nm 2) (fun _ => .ok true) m_Walk_text_C1 [2]) aNil))) sNx)
def sem_Walk_text (ds : List D) : R D := if ds.length = 2 then (if false then finX (m_Walk_text (env0 N_Walk_text ds)) else fin (m_Walk_text (env0 N_Walk_text ds))) else .er
theorem at_Walk_text (d0 d1 : D) : sem_Walk_text [d0, d1] = fin (m_Walk_text [.fz d0, .fz d1, .no]) := rfl
theorem b_Walk_text {X : Cx} {W : WX} (E : Gls κ mg)  (G : Good X κ W mg base 0 N_Walk_text (defScope st_Walk_text) (fun _ => true)) (hp : PassesOwn (model X.prog X.w) X.A X.env X.xe) (T : Top X) : PSs X (defBody st_Walk_text) (tS κ W m_Walk_text) :=
  (n_cons (n_ret (g_join G (by decide +kernel) (n_RB g_str) (g_consB rfl (n_XB (g_lc (own' := [("mark", 2)]) G (by decide +kernel) rfl rfl (n_iter G.hK (g_var G (by decide +kernel))) (fun X1 G1 => (g_tgN G1 (by decide +kernel))) (fun X1 G1 => g_t0) (fun X1 G1 => (g_ix G1 (n_RB (g_fld G1 E.cl0 rfl rfl (g_var G1 (by decide +kernel)))) (g_varB G1 (by decide +kernel)) rfl)))) g_nilB)))
    n_nil)
theorem fc_Walk_text {f : Addr} {fd : FuncData} (E : Gls κ mg)  (F : Fun κ.K "text" "Walk.text" st_Walk_text f fd) (M : Meth κ.K (κ.cls 0) "text" f) : Mc κ mg base 1 0 "text" false 2 sem_Walk_text :=
  mc_of F M sc_Walk_text rfl (F.binds fun _ _ _ _ _ _ us hl => match us, hl with | [_, _], _ => rfl) fun X W G hp T => b_Walk_text E  G hp T
/-! ### step -/
abbrev st_Walk_step : Stmt := inClass (topS 20) 5
abbrev N_Walk_step : List Str := ["self", "some", "text", "found", "one", "column"]
theorem sc_Walk_step : FnScope N_Walk_step ["self", "some", "text"] (defScope st_Walk_step) := ⟨rfl, rfl, rfl, by decide +kernel, rfl, by decide +kernel, by decide +kernel⟩
def m_Walk_step_L1 : SV := (sSeq (sPut 3 (eVar 5) (eCon (.bl true))) sNx)
def m_Walk_step_L2 : SV := (sSeq (sFor (eIter (eMc 0 3 sem_Walk_behind (eVar 0) (aCons (eVar 4) (aCons (eVar 2) aNil)))) (.nm 5) m_Walk_step_L1) sNx)
def m_Walk_step : SV := (sSeq (sSetX 3 (eCon (.dct [] []))) (sSeq (sFor (eIter (eVar 1)) (.nm 4) m_Walk_step_L2) (sSeq (sRet (eCallB tupleD (aCons (eCallB sortedD (aCons (eVarB 3) aNil)) aNil))) sNx)))
def sem_Walk_step (ds : List D) : R D := if ds.length = 3 then (if false then finX (m_Walk_step (env0 N_Walk_step ds)) else fin (m_Walk_step (env0 N_Walk_step ds))) else .er
theorem at_Walk_step (d0 d1 d2 : D) : sem_Walk_step [d0, d1, d2] = fin (m_Walk_step [.fz d0, .fz d1, .fz d2, .no, .no, .no]) := rfl
theorem b_Walk_step {X : Cx} {W : WX} (E : Gls κ mg) (F_Walk_behind : Mc κ mg base 1 0 "behind" true 3 sem_Walk_behind) (G : Good X κ W mg base 1 N_Walk_step (defScope st_Walk_step) (fun _ => true)) (hp : PassesOwn (model X.prog X.w) X.A X.env X.xe) (T : Top X) : PSs X (defBody st_Walk_step) (tS κ W m_Walk_step) :=
  (n_cons (g_setX G (by decide +kernel) rfl n_dnew)
    (n_cons (g_for G hp rfl (n_iter G.hK (g_var G (by decide +kernel))) (g_tgN G (by decide +kernel)) (n_cons (g_for G hp rfl (n_iter G.hK (n_XR (g_mcX G E.cl0 F_Walk_behind (by decide +kernel) (by decide +kernel) rfl (g_var G (by decide +kernel)) (g_consR rfl (g_var G (by decide +kernel)) (g_consR rfl (g_var G (by decide +kernel)) g_nilR)) rfl))) (g_tgN G (by decide +kernel)) (n_cons (g_put G (by decide +kernel) rfl rfl g_bl (g_var G (by decide +kernel)))
    n_nil))
    n_nil))
    (n_cons (n_ret (g_tuple G E.n_tuple (by decide +kernel) rfl (g_consB rfl (n_XB (g_sorted G E.n_sorted (by decide +kernel) rfl (g_consB rfl (g_varB G (by decide +kernel)) g_nilB))) g_nilB)))
    n_nil)))
theorem fc_Walk_step {f : Addr} {fd : FuncData} (E : Gls κ mg) (F_Walk_behind : Mc κ mg base 1 0 "behind" true 3 sem_Walk_behind) (F : Fun κ.K "step" "Walk.step" st_Walk_step f fd) (M : Meth κ.K (κ.cls 0) "step" f) : Mc κ mg base 2 0 "step" false 3 sem_Walk_step :=
  mc_of F M sc_Walk_step rfl (F.binds fun _ _ _ _ _ _ us hl => match us, hl with | [_, _, _], _ => rfl) fun X W G hp T => b_Walk_step E F_Walk_behind G hp T
/-! ### texts -/
abbrev st_Walk_texts : Stmt := inClass (topS 20) 6
abbrev N_Walk_texts : List Str := ["self", "some", "found", "one", "column"]
theorem sc_Walk_texts : FnScope N_Walk_texts ["self", "some"] (defScope st_Walk_texts) := ⟨rfl, rfl, rfl, by decide +kernel, rfl, by decide +kernel, by decide +kernel⟩
def m_Walk_texts_L1 : SV := (sSeq (sPut 2 (eMc 0 2 sem_Walk_text (eVar 0) (aCons (eVar 4) aNil)) (eCon (.bl true))) sNx)
def m_Walk_texts_L2 : SV := (sSeq (sFor (eIter (eMc 0 3 sem_Walk_behind (eVar 0) (aCons (eVar 3) (aCons (eCon .non) aNil)))) (.nm 4) m_Walk_texts_L1) sNx)
def m_Walk_texts : SV := (sSeq (sSetX 2 (eCon (.dct [] []))) (sSeq (sFor (eIter (eVar 1)) (.nm 3) m_Walk_texts_L2) (sSeq (sRetX (eCallB sortedD (aCons (eVarB 2) aNil))) sNx)))
def sem_Walk_texts (ds : List D) : R D := if ds.length = 2 then (if true then finX (m_Walk_texts (env0 N_Walk_texts ds)) else fin (m_Walk_texts (env0 N_Walk_texts ds))) else .er
theorem at_Walk_texts (d0 d1 : D) : sem_Walk_texts [d0, d1] = finX (m_Walk_texts [.fz d0, .fz d1, .no, .no, .no]) := rfl
theorem b_Walk_texts {X : Cx} {W : WX} (E : Gls κ mg) (F_Walk_behind : Mc κ mg base 1 0 "behind" true 3 sem_Walk_behind) (F_Walk_text : Mc κ mg base 1 0 "text" false 2 sem_Walk_text) (G : Good X κ W mg base 1 N_Walk_texts (defScope st_Walk_texts) (fun _ => true)) (hp : PassesOwn (model X.prog X.w) X.A X.env X.xe) (T : Top X) : PSs X (defBody st_Walk_texts) (tS κ W m_Walk_texts) :=
  (n_cons (g_setX G (by decide +kernel) rfl n_dnew)
    (n_cons (g_for G hp rfl (n_iter G.hK (g_var G (by decide +kernel))) (g_tgN G (by decide +kernel)) (n_cons (g_for G hp rfl (n_iter G.hK (n_XR (g_mcX G E.cl0 F_Walk_behind (by decide +kernel) (by decide +kernel) rfl (g_var G (by decide +kernel)) (g_consR rfl (g_var G (by decide +kernel)) (g_consR rfl g_non g_nilR)) rfl))) (g_tgN G (by decide +kernel)) (n_cons (g_put G (by decide +kernel) rfl rfl g_bl (g_mcR G E.cl0 F_Walk_text (by decide +kernel) (by decide +kernel) rfl (g_var G (by decide +kernel)) (g_consR rfl (g_var G (by decide +kernel)) g_nilR) rfl))
    n_nil))
    n_nil))
    (n_cons (n_retT (n_rtX (g_sorted G E.n_sorted (by decide +kernel) rfl (g_consB rfl (g_varB G (by decide +kernel)) g_nilB))))
    n_nil)))
theorem fc_Walk_texts {f : Addr} {fd : FuncData} (E : Gls κ mg) (F_Walk_behind : Mc κ mg base 1 0 "behind" true 3 sem_Walk_behind) (F_Walk_text : Mc κ mg base 1 0 "text" false 2 sem_Walk_text) (F : Fun κ.K "texts" "Walk.texts" st_Walk_texts f fd) (M : Meth κ.K (κ.cls 0) "texts" f) : Mc κ mg base 2 0 "texts" true 2 sem_Walk_texts :=
  mc_of F M sc_Walk_texts rfl (F.binds fun _ _ _ _ _ _ us hl => match us, hl with | [_, _], _ => rfl) fun X W G hp T => b_Walk_texts E F_Walk_behind F_Walk_text G hp T
/-! ### is_end -/
abbrev st_Walk_is_end : Stmt := inClass (topS 20) 7
abbrev N_Walk_is_end : List Str := ["self", "some"]
theorem sc_Walk_is_end : FnScope N_Walk_is_end ["self", "some"] (defScope st_Walk_is_end) := ⟨rfl, rfl, rfl, by decide +kernel, rfl, by decide +kernel, by decide +kernel⟩
def m_Walk_is_end : SV := (sSeq (sDrop (eCall 1 sem__wall (aCons (eCon (.int (0))) aNil))) sNx)
def sem_Walk_is_end (ds : List D) : R D := if ds.length = 2 then (if false then finX (m_Walk_is_end (env0 N_Walk_is_end ds)) else fin (m_Walk_is_end (env0 N_Walk_is_end ds))) else .er
theorem at_Walk_is_end (d0 d1 : D) : sem_Walk_is_end [d0, d1] = fin (m_Walk_is_end [.fz d0, .fz d1]) := rfl
theorem b_Walk_is_end {X : Cx} {W : WX} (E : Gls κ mg) (F__wall : Fc κ mg base 1 "_wall" false 1 sem__wall) (G : Good X κ W mg base 1 N_Walk_is_end (defScope st_Walk_is_end) (fun _ => true)) (hp : PassesOwn (model X.prog X.w) X.A X.env X.xe) (T : Top X) : PSs X (defBody st_Walk_is_end) (tS κ W m_Walk_is_end) :=
  (n_cons (g_drop rfl (g_callR G F__wall (by decide +kernel) (by decide +kernel) rfl (g_consR rfl g_int g_nilR)))
    n_nil)
theorem fc_Walk_is_end {f : Addr} {fd : FuncData} (E : Gls κ mg) (F__wall : Fc κ mg base 1 "_wall" false 1 sem__wall) (F : Fun κ.K "is_end" "Walk.is_end" st_Walk_is_end f fd) (M : Meth κ.K (κ.cls 0) "is_end" f) : Mc κ mg base 2 0 "is_end" false 2 sem_Walk_is_end :=
  mc_of F M sc_Walk_is_end rfl (F.binds fun _ _ _ _ _ _ us hl => match us, hl with | [_, _], _ => rfl) fun X W G hp T => b_Walk_is_end E F__wall G hp T
/-! ### lets -/
abbrev st_lets : Stmt := topS 22
abbrev N_lets : List Str := ["system", "picture", "texts", "walk", "steps", "text", "good", "way", "k", "found", "last", "some", "fitting", "one", "column", "other"]
theorem sc_lets : FnScope N_lets ["system", "picture"] (defScope st_lets) := ⟨rfl, rfl, rfl, by decide +kernel, rfl, by decide +kernel, by decide +kernel⟩
def m_lets_L1 : SV := (sSeq (sMut gApp 4 (aCons (eMc 0 3 sem_Walk_step (eVar 3) (aCons (e2 ixD (eVarB 4) (e1 negD (eCon (.int (1))))) (aCons (eVar 5) aNil))) aNil)) sNx)
def m_lets_C2 : EV := (eVar 13)
def m_lets_T3 : List B → R Bool := (tru (eMc 0 2 sem_Walk_ends (eVar 3) (aCons (eVar 13) aNil)))
def m_lets_C4 : EV := (eMc 0 3 sem_Walk_fits (eVar 3) (aCons (eVar 13) (aCons (eVar 15) aNil)))
def m_lets_C5 : EV := (eVar 13)
def m_lets_T6 : List B → R Bool := (tru (eCallB anyD (aCons (eLc (eIter (e2 ixD (eVarB 7) (eCon (.int (0))))) (.nm 15) (fun _ => .ok true) m_lets_C4 [15]) aNil)))
def m_lets_L7 : SV := (sSeq (sSetX 6 (eLc (eIter (e2 ixD (eVarB 4) (eVarB 8))) (.nm 13) m_lets_T6 m_lets_C5 [13])) (sSeq (sFz [6] (sMut gIns 7 (aCons (eCon (.int (0))) (aCons (eVar 6) aNil)))) sNx))
def m_lets_C8 : EV := (eVar 13)
def m_lets_T9 : List B → R Bool := (tru (eMc 0 3 sem_Walk_fits (eVar 3) (aCons (eVar 10) (aCons (eVar 13) aNil))))
def m_lets_L10 : SV := (sSeq (sSetX 12 (eLc (eIter (eVar 11)) (.nm 13) m_lets_T9 m_lets_C8 [13])) (sSeq (sIf (bNot (tru (eVarB 12))) (sSeq (sRetX (nlE (eCon .non))) sNx) sNx) (sSeq (sSet 10 (e2 ixD (eVarB 12) (eCon (.int (0))))) (sSeq (sMut gApp 9 (aCons (eVar 10) aNil)) sNx))))
def m_lets_C11 : EV := (e2 ixD (eVarB 14) (eVarB 8))
def m_lets_C12 : EV := (eLc (eIter (eVar 9)) (.nm 14) (fun _ => .ok true) m_lets_C11 [14])
def m_lets : SV := (sSeq (sDrop (eCallF 1 sem_look_system (aCons (eVarB 0) aNil))) (sSeq (sSetX 2 (eCall 1 sem_columns_of (aCons (eVar 1) aNil))) (sSeq (sSet 3 (eMk 2 sem_Walk (aCons (eVar 0) (aCons (eCallB lenD (aCons (eVarB 1) aNil)) aNil)))) (sSeq (sSetX 4 (eLst (aCons (eTup (aCons (e1 (fldD 0 2) (eVar 3)) aNil)) aNil))) (sSeq (sFz [2] (sFor (eIter (eVar 2)) (.nm 5) m_lets_L1)) (sSeq (sSetX 6 (eLc (eIter (e2 ixD (eVarB 4) (e1 negD (eCon (.int (1)))))) (.nm 13) m_lets_T3 m_lets_C2 [13])) (sSeq (sFz [6] (sSetX 7 (eLst (aCons (eVar 6) aNil)))) (sSeq (sFor (eRevR (eCon (.int (1))) (e2 subD (eCallB lenD (aCons (eVarB 4) aNil)) (eCon (.int (1))))) (.nm 8) m_lets_L7) (sSeq (sSetX 9 (eLst aNil)) (sSeq (sSet 10 (e1 (fldD 0 2) (eVar 3))) (sSeq (sFz [7] (sFor (eIter (eVar 7)) (.nm 11) m_lets_L10)) (sSeq (sFz [9] (sRetX (eLc (eRng (aCons (eCallB lenD (aCons (eVarB 1) aNil)) aNil)) (.nm 8) (fun _ => .ok true) m_lets_C12 [8]))) sNx))))))))))))
def sem_lets (ds : List D) : R D := if ds.length = 2 then (if true then finX (m_lets (env0 N_lets ds)) else fin (m_lets (env0 N_lets ds))) else .er
theorem at_lets (d0 d1 : D) : sem_lets [d0, d1] = finX (m_lets [.fz d0, .fz d1, .no, .no, .no, .no, .no, .no, .no, .no, .no, .no, .no, .no, .no, .no]) := rfl
theorem b_lets {X : Cx} {W : WX} (E : Gls κ mg) (F_look_system : Fc κ mg base 1 "look_system" false 1 sem_look_system) (F_columns_of : Fc κ mg base 2 "columns_of" true 1 sem_columns_of) (F_Walk_init : Kc κ mg base 2 0 "Walk" 2 sem_Walk) (F_Walk_step : Mc κ mg base 2 0 "step" false 3 sem_Walk_step) (F_Walk_ends : Mc κ mg base 2 0 "ends" false 2 sem_Walk_ends) (F_Walk_fits : Mc κ mg base 1 0 "fits" false 3 sem_Walk_fits) (G : Good X κ W mg base 3 N_lets (defScope st_lets) (fun _ => true)) (hp : PassesOwn (model X.prog X.w) X.A X.env X.xe) (T : Top X) : PSs X (defBody st_lets) (tS κ W m_lets) :=
  (n_cons (g_drop rfl (g_callF G F_look_system (by decide +kernel) (by decide +kernel) rfl (g_consB rfl (g_varB G (by decide +kernel)) g_nilB)))
    (n_cons (g_setX G (by decide +kernel) rfl (g_callX G F_columns_of (by decide +kernel) (by decide +kernel) rfl (g_consR rfl (g_var G (by decide +kernel)) g_nilR)))
    (n_cons (g_setR G (by decide +kernel) rfl (g_mk G F_Walk_init (by decide +kernel) (by decide +kernel) rfl (g_consR rfl (g_var G (by decide +kernel)) (g_consR rfl (g_len G E.n_len (by decide +kernel) rfl (g_consB rfl (g_varB G (by decide +kernel)) g_nilB)) g_nilR))))
    (n_cons (g_setX G (by decide +kernel) rfl (n_lst (g_consR rfl (n_tup (g_consR rfl (g_fld G E.cl0 rfl rfl (g_var G (by decide +kernel))) g_nilR)) g_nilR)))
    (n_cons (n_fz [2] (g_for G hp rfl (n_iter G.hK (g_var G (by decide +kernel))) (g_tgN G (by decide +kernel)) (n_cons (g_app G (by decide +kernel) (by decide +kernel) (g_consR rfl (g_mcR G E.cl0 F_Walk_step (by decide +kernel) (by decide +kernel) rfl (g_var G (by decide +kernel)) (g_consR rfl (g_ix G (g_varB G (by decide +kernel)) (n_RB (g_neg (n_RB g_int))) rfl) (g_consR rfl (g_var G (by decide +kernel)) g_nilR)) rfl) g_nilR))
    n_nil)))
    (n_cons (g_setLc (own' := [("one", 13)]) G (by decide +kernel) (by decide +kernel) rfl rfl (n_iter G.hK (g_ix G (g_varB G (by decide +kernel)) (n_RB (g_neg (n_RB g_int))) rfl)) (fun X1 G1 => (g_tgN G1 (by decide +kernel))) (fun X1 G1 => (pts_one (g_truth G1 (n_RB (g_mcR G1 E.cl0 F_Walk_ends (by decide +kernel) (by decide +kernel) rfl (g_var G1 (by decide +kernel)) (g_consR rfl (g_var G1 (by decide +kernel)) g_nilR) rfl)) rfl))) (fun X1 G1 => (g_var G1 (by decide +kernel))))
    (n_cons (n_fz [6] (g_setX G (by decide +kernel) rfl (n_lst (g_consR rfl (g_var G (by decide +kernel)) g_nilR))))
    (n_cons (g_for G hp rfl (g_revR G E.n_range E.n_reversed (by decide +kernel) (by decide +kernel) rfl rfl g_int (n_XR (g_sub G (n_RB (g_len G E.n_len (by decide +kernel) rfl (g_consB rfl (g_varB G (by decide +kernel)) g_nilB))) (n_RB g_int)))) (g_tgN G (by decide +kernel)) (n_cons (g_setLc (own' := [("one", 13)]) G (by decide +kernel) (by decide +kernel) rfl rfl (n_iter G.hK (g_ix G (g_varB G (by decide +kernel)) (g_varB G (by decide +kernel)) rfl)) (fun X1 G1 => (g_tgN G1 (by decide +kernel))) (fun X1 G1 => (pts_one (g_truth G1 (n_RB (g_any G1 E.n_any (by decide +kernel) rfl (g_consB rfl (n_XB (g_lc (own' := [("other", 15)]) G1 (by decide +kernel) rfl rfl (n_iter G1.hK (g_ix G1 (g_varB G1 (by decide +kernel)) (n_RB g_int) rfl)) (fun X2 G2 => (g_tgN G2 (by decide +kernel))) (fun X2 G2 => g_t0) (fun X2 G2 => (g_mcR G2 E.cl0 F_Walk_fits (by decide +kernel) (by decide +kernel) rfl (g_var G2 (by decide +kernel)) (g_consR rfl (g_var G2 (by decide +kernel)) (g_consR rfl (g_var G2 (by decide +kernel)) g_nilR)) rfl)))) g_nilB))) rfl))) (fun X1 G1 => (g_var G1 (by decide +kernel))))
    (n_cons (n_fz [6] (g_ins G (by decide +kernel) (by decide +kernel) (g_consR rfl g_int (g_consR rfl (g_var G (by decide +kernel)) g_nilR))))
    n_nil)))
    (n_cons (g_setX G (by decide +kernel) rfl (n_lst g_nilR))
    (n_cons (g_setR G (by decide +kernel) rfl (g_fld G E.cl0 rfl rfl (g_var G (by decide +kernel))))
    (n_cons (n_fz [7] (g_for G hp rfl (n_iter G.hK (g_var G (by decide +kernel))) (g_tgN G (by decide +kernel)) (n_cons (g_setLc (own' := [("one", 13)]) G (by decide +kernel) (by decide +kernel) rfl rfl (n_iter G.hK (g_var G (by decide +kernel))) (fun X1 G1 => (g_tgN G1 (by decide +kernel))) (fun X1 G1 => (pts_one (g_truth G1 (n_RB (g_mcR G1 E.cl0 F_Walk_fits (by decide +kernel) (by decide +kernel) rfl (g_var G1 (by decide +kernel)) (g_consR rfl (g_var G1 (by decide +kernel)) (g_consR rfl (g_var G1 (by decide +kernel)) g_nilR)) rfl)) rfl))) (fun X1 G1 => (g_var G1 (by decide +kernel))))
    (n_cons (n_ifS (n_notT (g_truth G (g_varB G (by decide +kernel)) rfl)) (n_cons (n_retT (n_rtX (n_RX0 g_non)))
    n_nil) n_nil)
    (n_cons (g_setR G (by decide +kernel) rfl (g_ix G (g_varB G (by decide +kernel)) (n_RB g_int) rfl))
    (n_cons (g_app G (by decide +kernel) (by decide +kernel) (g_consR rfl (g_var G (by decide +kernel)) g_nilR))
    n_nil))))))
    (n_cons (n_fz [9] (n_retT (n_rtX (g_lc (own' := [("k", 8)]) G (by decide +kernel) rfl rfl (g_rng1 G E.n_range (by decide +kernel) rfl (g_len G E.n_len (by decide +kernel) rfl (g_consB rfl (g_varB G (by decide +kernel)) g_nilB))) (fun X1 G1 => (g_tgN G1 (by decide +kernel))) (fun X1 G1 => g_t0) (fun X1 G1 => (n_XR (g_lc (own' := [("column", 14)]) G1 (by decide +kernel) rfl rfl (n_iter G1.hK (g_var G1 (by decide +kernel))) (fun X2 G2 => (g_tgN G2 (by decide +kernel))) (fun X2 G2 => g_t0) (fun X2 G2 => (g_ix G2 (g_varB G2 (by decide +kernel)) (g_varB G2 (by decide +kernel)) rfl)))))))))
    n_nil))))))))))))
theorem fc_lets {f : Addr} {fd : FuncData} (E : Gls κ mg) (F_look_system : Fc κ mg base 1 "look_system" false 1 sem_look_system) (F_columns_of : Fc κ mg base 2 "columns_of" true 1 sem_columns_of) (F_Walk_init : Kc κ mg base 2 0 "Walk" 2 sem_Walk) (F_Walk_step : Mc κ mg base 2 0 "step" false 3 sem_Walk_step) (F_Walk_ends : Mc κ mg base 2 0 "ends" false 2 sem_Walk_ends) (F_Walk_fits : Mc κ mg base 1 0 "fits" false 3 sem_Walk_fits) (F : Fun κ.K "lets" "lets" st_lets f fd) (hm : mg "lets" = some (.ref f)) : Fc κ mg base 4 "lets" true 2 sem_lets :=
  fc_of F hm sc_lets rfl (F.binds fun _ _ _ _ _ _ us hl => match us, hl with | [_, _], _ => rfl) fun X W G hp T => b_lets E F_look_system F_columns_of F_Walk_init F_Walk_step F_Walk_ends F_Walk_fits G hp T
/-! ### _law_cell -/
abbrev st_law_cell : Stmt := topS 24
abbrev N_law_cell : List Str := ["_law_script", "_law_k"]
theorem sc_law_cell : FnScope N_law_cell ["_law_script", "_law_k"] (defScope st_law_cell) := ⟨rfl, rfl, rfl, by decide +kernel, rfl, by decide +kernel, by decide +kernel⟩
def m_law_cell : SV := (sSeq (sIf (tru (eVarB 0)) (sSeq (sRet (e2 ixD (eVarB 0) (e2 modD (eVarB 1) (eCallB lenD (aCons (eVarB 0) aNil))))) sNx) sNx) (sSeq (sRet (eCon (.int (0)))) sNx))
def sem_law_cell (ds : List D) : R D := if ds.length = 2 then (if false then finX (m_law_cell (env0 N_law_cell ds)) else fin (m_law_cell (env0 N_law_cell ds))) else .er
theorem at_law_cell (d0 d1 : D) : sem_law_cell [d0, d1] = fin (m_law_cell [.fz d0, .fz d1]) := rfl
theorem b_law_cell {X : Cx} {W : WX} (E : Gls κ mg)  (G : Good X κ W mg base 0 N_law_cell (defScope st_law_cell) (fun _ => true)) (hp : PassesOwn (model X.prog X.w) X.A X.env X.xe) (T : Top X) : PSs X (defBody st_law_cell) (tS κ W m_law_cell) :=
  (n_cons (n_ifS (g_truth G (g_varB G (by decide +kernel)) rfl) (n_cons (n_ret (g_ix G (g_varB G (by decide +kernel)) (n_XB (g_mod G (g_varB G (by decide +kernel)) (n_RB (g_len G E.n_len (by decide +kernel) rfl (g_consB rfl (g_varB G (by decide +kernel)) g_nilB))))) rfl))
    n_nil) n_nil)
    (n_cons (n_ret g_int)
    n_nil))
theorem fc_law_cell {f : Addr} {fd : FuncData} (E : Gls κ mg)  (F : Fun κ.K "_law_cell" "_law_cell" st_law_cell f fd) (hm : mg "_law_cell" = some (.ref f)) : Fc κ mg base 1 "_law_cell" false 2 sem_law_cell :=
  fc_of F hm sc_law_cell rfl (F.binds fun _ _ _ _ _ _ us hl => match us, hl with | [_, _], _ => rfl) fun X W G hp T => b_law_cell E  G hp T
/-! ### _law_mix -/
abbrev st_law_mix : Stmt := topS 25
abbrev N_law_mix : List Str := ["_law_script", "_law_k", "_law_number"]
theorem sc_law_mix : FnScope N_law_mix ["_law_script", "_law_k"] (defScope st_law_mix) := ⟨rfl, rfl, rfl, by decide +kernel, rfl, by decide +kernel, by decide +kernel⟩
def m_law_mix : SV := (sSeq (sSetX 2 (e2 modD (e2 addD (eCallF 2 sem_law_cell (aCons (eVarB 0) (aCons (eVarB 1) aNil))) (e2 mulD (eCon (.int (104729))) (e2 addD (eVarB 1) (eCon (.int (1)))))) (eCon (.int (4294967291))))) (sSeq (sSetX 2 (e2 modD (e2 mulD (eVarB 2) (eCon (.int (48271)))) (eCon (.int (4294967279))))) (sSeq (sRet (e2 modD (e2 addD (e2 mulD (e2 fdivD (eVarB 2) (eCon (.int (64)))) (eCon (.int (69621)))) (eVarB 2)) (eCon (.int (4294967231))))) sNx)))
def sem_law_mix (ds : List D) : R D := if ds.length = 2 then (if false then finX (m_law_mix (env0 N_law_mix ds)) else fin (m_law_mix (env0 N_law_mix ds))) else .er
theorem at_law_mix (d0 d1 : D) : sem_law_mix [d0, d1] = fin (m_law_mix [.fz d0, .fz d1, .no]) := rfl
theorem b_law_mix {X : Cx} {W : WX} (E : Gls κ mg) (F_law_cell : Fc κ mg base 1 "_law_cell" false 2 sem_law_cell) (G : Good X κ W mg base 1 N_law_mix (defScope st_law_mix) (fun _ => true)) (hp : PassesOwn (model X.prog X.w) X.A X.env X.xe) (T : Top X) : PSs X (defBody st_law_mix) (tS κ W m_law_mix) :=
  (n_cons (g_setX G (by decide +kernel) rfl (g_mod G (n_XB (g_add G (n_RB (g_callF G F_law_cell (by decide +kernel) (by decide +kernel) rfl (g_consB rfl (g_varB G (by decide +kernel)) (g_consB rfl (g_varB G (by decide +kernel)) g_nilB)))) (n_XB (g_mul G (n_RB g_int) (n_XB (g_add G (g_varB G (by decide +kernel)) (n_RB g_int))))))) (n_RB g_int)))
    (n_cons (g_setX G (by decide +kernel) rfl (g_mod G (n_XB (g_mul G (g_varB G (by decide +kernel)) (n_RB g_int))) (n_RB g_int)))
    (n_cons (n_ret (n_XR (g_mod G (n_XB (g_add G (n_XB (g_mul G (n_XB (g_fdiv G (g_varB G (by decide +kernel)) (n_RB g_int))) (n_RB g_int))) (g_varB G (by decide +kernel)))) (n_RB g_int))))
    n_nil)))
theorem fc_law_mix {f : Addr} {fd : FuncData} (E : Gls κ mg) (F_law_cell : Fc κ mg base 1 "_law_cell" false 2 sem_law_cell) (F : Fun κ.K "_law_mix" "_law_mix" st_law_mix f fd) (hm : mg "_law_mix" = some (.ref f)) : Fc κ mg base 2 "_law_mix" false 2 sem_law_mix :=
  fc_of F hm sc_law_mix rfl (F.binds fun _ _ _ _ _ _ us hl => match us, hl with | [_, _], _ => rfl) fun X W G hp T => b_law_mix E F_law_cell G hp T
/-! ### _law_picture -/
abbrev st_law_picture : Stmt := topS 26
abbrev N_law_picture : List Str := ["_law_script", "_law_k", "_law_high", "_law_wide", "_law_letters", "_law_found", "_law_y", "_law_x"]
theorem sc_law_picture : FnScope N_law_picture ["_law_script", "_law_k", "_law_high", "_law_wide", "_law_letters"] (defScope st_law_picture) := ⟨rfl, rfl, rfl, by decide +kernel, rfl, by decide +kernel, by decide +kernel⟩
def m_law_picture_C1 : EV := (e2 ixD (eVarB 4) (e2 modD (e2 fdivD (eCallF 2 sem_law_mix (aCons (eVarB 0) (aCons (e2 addD (e2 addD (eVarB 1) (e2 mulD (eCon (.int (6))) (eVarB 6))) (eVarB 7)) aNil))) (eCon (.int (8)))) (eCallB lenD (aCons (eVarB 4) aNil))))
def m_law_picture_L2 : SV := (sSeq (sMut gApp 5 (aCons (eMeth "str" joinD (eCon (.str "")) (aCons (eLc (eRng (aCons (eVar 3) aNil)) (.nm 7) (fun _ => .ok true) m_law_picture_C1 [7]) aNil)) aNil)) sNx)
def m_law_picture : SV := (sSeq (sSetX 5 (eLst aNil)) (sSeq (sFor (eRng (aCons (eVar 2) aNil)) (.nm 6) m_law_picture_L2) (sSeq (sRetV 5) sNx)))
def sem_law_picture (ds : List D) : R D := if ds.length = 5 then (if true then finX (m_law_picture (env0 N_law_picture ds)) else fin (m_law_picture (env0 N_law_picture ds))) else .er
theorem at_law_picture (d0 d1 d2 d3 d4 : D) : sem_law_picture [d0, d1, d2, d3, d4] = finX (m_law_picture [.fz d0, .fz d1, .fz d2, .fz d3, .fz d4, .no, .no, .no]) := rfl
theorem b_law_picture {X : Cx} {W : WX} (E : Gls κ mg) (F_law_mix : Fc κ mg base 2 "_law_mix" false 2 sem_law_mix) (G : Good X κ W mg base 2 N_law_picture (defScope st_law_picture) (fun _ => true)) (hp : PassesOwn (model X.prog X.w) X.A X.env X.xe) (T : Top X) : PSs X (defBody st_law_picture) (tS κ W m_law_picture) :=
  (n_cons (g_setX G (by decide +kernel) rfl (n_lst g_nilR))
    (n_cons (g_for G hp rfl (g_rng1 G E.n_range (by decide +kernel) rfl (g_var G (by decide +kernel))) (g_tgN G (by decide +kernel)) (n_cons (g_app G (by decide +kernel) (by decide +kernel) (g_consR rfl (g_join G (by decide +kernel) (n_RB g_str) (g_consB rfl (n_XB (g_lc (own' := [("_law_x", 7)]) G (by decide +kernel) rfl rfl (g_rng1 G E.n_range (by decide +kernel) rfl (g_var G (by decide +kernel))) (fun X1 G1 => (g_tgN G1 (by decide +kernel))) (fun X1 G1 => g_t0) (fun X1 G1 => (g_ix G1 (g_varB G1 (by decide +kernel)) (n_XB (g_mod G1 (n_XB (g_fdiv G1 (n_RB (g_callF G1 F_law_mix (by decide +kernel) (by decide +kernel) rfl (g_consB rfl (g_varB G1 (by decide +kernel)) (g_consB rfl (n_XB (g_add G1 (n_XB (g_add G1 (g_varB G1 (by decide +kernel)) (n_XB (g_mul G1 (n_RB g_int) (g_varB G1 (by decide +kernel)))))) (g_varB G1 (by decide +kernel)))) g_nilB)))) (n_RB g_int))) (n_RB (g_len G1 E.n_len (by decide +kernel) rfl (g_consB rfl (g_varB G1 (by decide +kernel)) g_nilB))))) rfl)))) g_nilB)) g_nilR))
    n_nil))
    (n_cons (g_retV G (by decide +kernel))
    n_nil)))
theorem fc_law_picture {f : Addr} {fd : FuncData} (E : Gls κ mg) (F_law_mix : Fc κ mg base 2 "_law_mix" false 2 sem_law_mix) (F : Fun κ.K "_law_picture" "_law_picture" st_law_picture f fd) (hm : mg "_law_picture" = some (.ref f)) : Fc κ mg base 3 "_law_picture" true 5 sem_law_picture :=
  fc_of F hm sc_law_picture rfl (F.binds fun _ _ _ _ _ _ us hl => match us, hl with | [_, _, _, _, _], _ => rfl) fun X W G hp T => b_law_picture E F_law_mix G hp T
/-! ### _law_tiles -/
abbrev st_law_tiles : Stmt := topS 27
abbrev N_law_tiles : List Str := ["_law_rows", "_law_wide", "_law_some", "_law_found", "_law_y", "_law_x", "_law_row"]
theorem sc_law_tiles : FnScope N_law_tiles ["_law_rows"] (defScope st_law_tiles) := ⟨rfl, rfl, rfl, by decide +kernel, rfl, by decide +kernel, by decide +kernel⟩
def m_law_tiles_C1 : EV := (e2 addD (e2 addD (eLst (aCons (e1 negD (eCon (.int (1)))) aNil)) (eCallB listD (aCons (eVarB 6) aNil))) (eLst (aCons (e1 negD (eCon (.int (1)))) aNil)))
def m_law_tiles_L2 : SV := (sSeq (sMut gApp 3 (aCons (eTup (aCons (e2 ixD (e2 ixD (eVarB 2) (eVarB 4)) (eVarB 5)) (aCons (e2 ixD (e2 ixD (eVarB 2) (eVarB 4)) (e2 addD (eVarB 5) (eCon (.int (1))))) (aCons (e2 ixD (e2 ixD (eVarB 2) (e2 addD (eVarB 4) (eCon (.int (1))))) (eVarB 5)) (aCons (e2 ixD (e2 ixD (eVarB 2) (e2 addD (eVarB 4) (eCon (.int (1))))) (e2 addD (eVarB 5) (eCon (.int (1))))) aNil))))) aNil)) sNx)
def m_law_tiles_L3 : SV := (sSeq (sFor (eRng (aCons (e2 subD (eVarB 1) (eCon (.int (1)))) aNil)) (.nm 5) m_law_tiles_L2) sNx)
def m_law_tiles : SV := (sSeq (sSetX 1 (e2 addD (eCallB lenD (aCons (e2 ixD (eVarB 0) (eCon (.int (0)))) aNil)) (eCon (.int (2))))) (sSeq (sSetX 2 (e2 addD (e2 addD (eLst (aCons (e2 mulD (eLst (aCons (e1 negD (eCon (.int (1)))) aNil)) (eVarB 1)) aNil)) (eLc (eIter (eVar 0)) (.nm 6) (fun _ => .ok true) m_law_tiles_C1 [6])) (eLst (aCons (e2 mulD (eLst (aCons (e1 negD (eCon (.int (1)))) aNil)) (eVarB 1)) aNil)))) (sSeq (sSetX 3 (eLst aNil)) (sSeq (sFor (eRng (aCons (e2 subD (eCallB lenD (aCons (eVarB 2) aNil)) (eCon (.int (1)))) aNil)) (.nm 4) m_law_tiles_L3) (sSeq (sRetV 3) sNx)))))
def sem_law_tiles (ds : List D) : R D := if ds.length = 1 then (if true then finX (m_law_tiles (env0 N_law_tiles ds)) else fin (m_law_tiles (env0 N_law_tiles ds))) else .er
theorem at_law_tiles (d0 : D) : sem_law_tiles [d0] = finX (m_law_tiles [.fz d0, .no, .no, .no, .no, .no, .no]) := rfl
theorem b_law_tiles {X : Cx} {W : WX} (E : Gls κ mg)  (G : Good X κ W mg base 0 N_law_tiles (defScope st_law_tiles) (fun _ => true)) (hp : PassesOwn (model X.prog X.w) X.A X.env X.xe) (T : Top X) : PSs X (defBody st_law_tiles) (tS κ W m_law_tiles) :=
  (n_cons (g_setX G (by decide +kernel) rfl (g_add G (n_RB (g_len G E.n_len (by decide +kernel) rfl (g_consB rfl (n_RB (g_ix G (g_varB G (by decide +kernel)) (n_RB g_int) rfl)) g_nilB))) (n_RB g_int)))
    (n_cons (g_setX G (by decide +kernel) rfl (g_add G (n_XB (g_add G (n_XB (n_lst (g_consR rfl (n_XR (g_mul G (n_XB (n_lst (g_consR rfl (g_neg (n_RB g_int)) g_nilR))) (g_varB G (by decide +kernel)))) g_nilR))) (n_XB (g_lc (own' := [("_law_row", 6)]) G (by decide +kernel) rfl rfl (n_iter G.hK (g_var G (by decide +kernel))) (fun X1 G1 => (g_tgN G1 (by decide +kernel))) (fun X1 G1 => g_t0) (fun X1 G1 => (n_XR (g_add G1 (n_XB (g_add G1 (n_XB (n_lst (g_consR rfl (g_neg (n_RB g_int)) g_nilR))) (n_XB (g_list G1 E.n_list (by decide +kernel) rfl (g_consB rfl (g_varB G1 (by decide +kernel)) g_nilB))))) (n_XB (n_lst (g_consR rfl (g_neg (n_RB g_int)) g_nilR)))))))))) (n_XB (n_lst (g_consR rfl (n_XR (g_mul G (n_XB (n_lst (g_consR rfl (g_neg (n_RB g_int)) g_nilR))) (g_varB G (by decide +kernel)))) g_nilR)))))
    (n_cons (g_setX G (by decide +kernel) rfl (n_lst g_nilR))
    (n_cons (g_for G hp rfl (g_rng1 G E.n_range (by decide +kernel) rfl (n_XR (g_sub G (n_RB (g_len G E.n_len (by decide +kernel) rfl (g_consB rfl (g_varB G (by decide +kernel)) g_nilB))) (n_RB g_int)))) (g_tgN G (by decide +kernel)) (n_cons (g_for G hp rfl (g_rng1 G E.n_range (by decide +kernel) rfl (n_XR (g_sub G (g_varB G (by decide +kernel)) (n_RB g_int)))) (g_tgN G (by decide +kernel)) (n_cons (g_app G (by decide +kernel) (by decide +kernel) (g_consR rfl (n_tup (g_consR rfl (g_ix G (n_RB (g_ix G (g_varB G (by decide +kernel)) (g_varB G (by decide +kernel)) rfl)) (g_varB G (by decide +kernel)) rfl) (g_consR rfl (g_ix G (n_RB (g_ix G (g_varB G (by decide +kernel)) (g_varB G (by decide +kernel)) rfl)) (n_XB (g_add G (g_varB G (by decide +kernel)) (n_RB g_int))) rfl) (g_consR rfl (g_ix G (n_RB (g_ix G (g_varB G (by decide +kernel)) (n_XB (g_add G (g_varB G (by decide +kernel)) (n_RB g_int))) rfl)) (g_varB G (by decide +kernel)) rfl) (g_consR rfl (g_ix G (n_RB (g_ix G (g_varB G (by decide +kernel)) (n_XB (g_add G (g_varB G (by decide +kernel)) (n_RB g_int))) rfl)) (n_XB (g_add G (g_varB G (by decide +kernel)) (n_RB g_int))) rfl) g_nilR))))) g_nilR))
    n_nil))
    n_nil))
    (n_cons (g_retV G (by decide +kernel))
    n_nil)))))
theorem fc_law_tiles {f : Addr} {fd : FuncData} (E : Gls κ mg)  (F : Fun κ.K "_law_tiles" "_law_tiles" st_law_tiles f fd) (hm : mg "_law_tiles" = some (.ref f)) : Fc κ mg base 1 "_law_tiles" true 1 sem_law_tiles :=
  fc_of F hm sc_law_tiles rfl (F.binds fun _ _ _ _ _ _ us hl => match us, hl with | [_], _ => rfl) fun X W G hp T => b_law_tiles E  G hp T
/-! ### _law_system -/
abbrev st_law_system : Stmt := topS 28
abbrev N_law_system : List Str := ["_law_script", "_law_k", "_law_marks", "_law_many", "_law_letters", "_law_tiles_here", "_law_j", "_law_high", "_law_wide", "_law_rows", "_law_y", "_law_number", "_law_x", "_law_i"]
theorem sc_law_system : FnScope N_law_system ["_law_script", "_law_k", "_law_marks"] (defScope st_law_system) := ⟨rfl, rfl, rfl, by decide +kernel, rfl, by decide +kernel, by decide +kernel⟩
def m_law_system_C1 : EV := (e2 ixD (eCon (.str "ab")) (e2 modD (e2 fdivD (eCallF 2 sem_law_mix (aCons (eVarB 0) (aCons (e2 addD (e2 addD (eVarB 1) (eCon (.int (1)))) (eVarB 6)) aNil))) (eCon (.int (4)))) (eCon (.int (2)))))
def m_law_system_C2 : EV := (e2 modD (e2 fdivD (eCallF 2 sem_law_mix (aCons (eVarB 0) (aCons (e2 addD (e2 addD (e2 addD (e2 addD (eVarB 1) (eCon (.int (9)))) (e2 mulD (eCon (.int (30))) (eVarB 6))) (e2 mulD (eCon (.int (3))) (eVarB 10))) (eVarB 12)) aNil))) (eCon (.int (8)))) (eVarB 3))
def m_law_system_L3 : SV := (sSeq (sFz [8] (sMut gApp 9 (aCons (eLc (eRng (aCons (eVar 8) aNil)) (.nm 12) (fun _ => .ok true) m_law_system_C2 [12]) aNil))) sNx)
def m_law_system_L4 : SV := (sSeq (sSetX 7 (e2 addD (eCon (.int (1))) (e2 modD (eCallF 2 sem_law_mix (aCons (eVarB 0) (aCons (e2 addD (e2 addD (eVarB 1) (eCon (.int (7)))) (e2 mulD (eCon (.int (30))) (eVarB 6))) aNil))) (eCon (.int (3)))))) (sSeq (sSetX 8 (e2 addD (eCon (.int (1))) (e2 modD (eCallF 2 sem_law_mix (aCons (eVarB 0) (aCons (e2 addD (e2 addD (eVarB 1) (eCon (.int (8)))) (e2 mulD (eCon (.int (30))) (eVarB 6))) aNil))) (eCon (.int (3)))))) (sSeq (sSetX 9 (eLst aNil)) (sSeq (sFz [7] (sFor (eRng (aCons (eVar 7) aNil)) (.nm 10) m_law_system_L3)) (sSeq (sFz [9] (sSetX 5 (e2 addD (eVarB 5) (eCall 1 sem_law_tiles (aCons (eVar 9) aNil))))) sNx)))))
def m_law_system_C5 : EV := (e2 subD (e2 modD (e2 fdivD (eVarB 11) (e2 ixD (eLst (aCons (eCon (.int (4))) (aCons (eCon (.int (64))) (aCons (eCon (.int (1024))) (aCons (eCon (.int (16384))) aNil))))) (eVarB 13))) (e2 addD (eVarB 3) (eCon (.int (1))))) (eCon (.int (1))))
def m_law_system_L6 : SV := (sSeq (sSet 11 (eCallF 2 sem_law_mix (aCons (eVarB 0) (aCons (e2 addD (e2 addD (eVarB 1) (eCon (.int (101)))) (eVarB 6)) aNil)))) (sSeq (sIf (bAnd (tst (e2 eqD (e2 modD (eVarB 11) (eCon (.int (3)))) (eCon (.int (0))))) (tru (eVarB 5))) (sSeq (sMut gPopAt 5 (aCons (e2 modD (e2 fdivD (eVarB 11) (eCon (.int (4)))) (eCallB lenD (aCons (eVarB 5) aNil))) aNil)) sNx) (sSeq (sMut gApp 5 (aCons (eCallB tupleD (aCons (eLc (eRng (aCons (eCon (.int (4))) aNil)) (.nm 13) (fun _ => .ok true) m_law_system_C5 [13]) aNil)) aNil)) sNx)) sNx))
def m_law_system : SV := (sSeq (sSetX 3 (e2 addD (eCon (.int (1))) (e2 modD (eCallF 2 sem_law_mix (aCons (eVarB 0) (aCons (eVarB 1) aNil))) (eVarB 2)))) (sSeq (sFz [3] (sSet 4 (eMeth "str" joinD (eCon (.str "")) (aCons (eLc (eRng (aCons (eVar 3) aNil)) (.nm 6) (fun _ => .ok true) m_law_system_C1 [6]) aNil)))) (sSeq (sSetX 5 (eLst aNil)) (sSeq (sFor (eRng (aCons (e2 addD (eCon (.int (1))) (e2 modD (eCallF 2 sem_law_mix (aCons (eVarB 0) (aCons (e2 addD (eVarB 1) (eCon (.int (6)))) aNil))) (eCon (.int (3))))) aNil)) (.nm 6) m_law_system_L4) (sSeq (sFor (eRng (aCons (e2 modD (eCallF 2 sem_law_mix (aCons (eVarB 0) (aCons (e2 addD (eVarB 1) (eCon (.int (100)))) aNil))) (eCon (.int (4)))) aNil)) (.nm 6) m_law_system_L6) (sSeq (sRet (eTup (aCons (eVar 4) (aCons (e1 sortSetD (eVarB 5)) aNil)))) sNx))))))
def sem_law_system (ds : List D) : R D := if ds.length = 3 then (if false then finX (m_law_system (env0 N_law_system ds)) else fin (m_law_system (env0 N_law_system ds))) else .er
theorem at_law_system (d0 d1 d2 : D) : sem_law_system [d0, d1, d2] = fin (m_law_system [.fz d0, .fz d1, .fz d2, .no, .no, .no, .no, .no, .no, .no, .no, .no, .no, .no]) := rfl
theorem b_law_system {X : Cx} {W : WX} (E : Gls κ mg) (F_law_mix : Fc κ mg base 2 "_law_mix" false 2 sem_law_mix) (F_law_tiles : Fc κ mg base 1 "_law_tiles" true 1 sem_law_tiles) (G : Good X κ W mg base 2 N_law_system (defScope st_law_system) (fun _ => true)) (hp : PassesOwn (model X.prog X.w) X.A X.env X.xe) (T : Top X) : PSs X (defBody st_law_system) (tS κ W m_law_system) :=
  (n_cons (g_setX G (by decide +kernel) rfl (g_add G (n_RB g_int) (n_XB (g_mod G (n_RB (g_callF G F_law_mix (by decide +kernel) (by decide +kernel) rfl (g_consB rfl (g_varB G (by decide +kernel)) (g_consB rfl (g_varB G (by decide +kernel)) g_nilB)))) (g_varB G (by decide +kernel))))))
    (n_cons (n_fz [3] (g_setR G (by decide +kernel) rfl (g_join G (by decide +kernel) (n_RB g_str) (g_consB rfl (n_XB (g_lc (own' := [("_law_j", 6)]) G (by decide +kernel) rfl rfl (g_rng1 G E.n_range (by decide +kernel) rfl (g_var G (by decide +kernel))) (fun X1 G1 => (g_tgN G1 (by decide +kernel))) (fun X1 G1 => g_t0) (fun X1 G1 => (g_ix G1 (n_RB g_str) (n_XB (g_mod G1 (n_XB (g_fdiv G1 (n_RB (g_callF G1 F_law_mix (by decide +kernel) (by decide +kernel) rfl (g_consB rfl (g_varB G1 (by decide +kernel)) (g_consB rfl (n_XB (g_add G1 (n_XB (g_add G1 (g_varB G1 (by decide +kernel)) (n_RB g_int))) (g_varB G1 (by decide +kernel)))) g_nilB)))) (n_RB g_int))) (n_RB g_int))) rfl)))) g_nilB))))
    (n_cons (g_setX G (by decide +kernel) rfl (n_lst g_nilR))
    (n_cons (g_for G hp rfl (g_rng1 G E.n_range (by decide +kernel) rfl (n_XR (g_add G (n_RB g_int) (n_XB (g_mod G (n_RB (g_callF G F_law_mix (by decide +kernel) (by decide +kernel) rfl (g_consB rfl (g_varB G (by decide +kernel)) (g_consB rfl (n_XB (g_add G (g_varB G (by decide +kernel)) (n_RB g_int))) g_nilB)))) (n_RB g_int)))))) (g_tgN G (by decide +kernel)) (n_cons (g_setX G (by decide +kernel) rfl (g_add G (n_RB g_int) (n_XB (g_mod G (n_RB (g_callF G F_law_mix (by decide +kernel) (by decide +kernel) rfl (g_consB rfl (g_varB G (by decide +kernel)) (g_consB rfl (n_XB (g_add G (n_XB (g_add G (g_varB G (by decide +kernel)) (n_RB g_int))) (n_XB (g_mul G (n_RB g_int) (g_varB G (by decide +kernel)))))) g_nilB)))) (n_RB g_int)))))
    (n_cons (g_setX G (by decide +kernel) rfl (g_add G (n_RB g_int) (n_XB (g_mod G (n_RB (g_callF G F_law_mix (by decide +kernel) (by decide +kernel) rfl (g_consB rfl (g_varB G (by decide +kernel)) (g_consB rfl (n_XB (g_add G (n_XB (g_add G (g_varB G (by decide +kernel)) (n_RB g_int))) (n_XB (g_mul G (n_RB g_int) (g_varB G (by decide +kernel)))))) g_nilB)))) (n_RB g_int)))))
    (n_cons (g_setX G (by decide +kernel) rfl (n_lst g_nilR))
    (n_cons (n_fz [7] (g_for G hp rfl (g_rng1 G E.n_range (by decide +kernel) rfl (g_var G (by decide +kernel))) (g_tgN G (by decide +kernel)) (n_cons (n_fz [8] (g_app G (by decide +kernel) (by decide +kernel) (g_consR rfl (n_XR (g_lc (own' := [("_law_x", 12)]) G (by decide +kernel) rfl rfl (g_rng1 G E.n_range (by decide +kernel) rfl (g_var G (by decide +kernel))) (fun X1 G1 => (g_tgN G1 (by decide +kernel))) (fun X1 G1 => g_t0) (fun X1 G1 => (n_XR (g_mod G1 (n_XB (g_fdiv G1 (n_RB (g_callF G1 F_law_mix (by decide +kernel) (by decide +kernel) rfl (g_consB rfl (g_varB G1 (by decide +kernel)) (g_consB rfl (n_XB (g_add G1 (n_XB (g_add G1 (n_XB (g_add G1 (n_XB (g_add G1 (g_varB G1 (by decide +kernel)) (n_RB g_int))) (n_XB (g_mul G1 (n_RB g_int) (g_varB G1 (by decide +kernel)))))) (n_XB (g_mul G1 (n_RB g_int) (g_varB G1 (by decide +kernel)))))) (g_varB G1 (by decide +kernel)))) g_nilB)))) (n_RB g_int))) (g_varB G1 (by decide +kernel))))))) g_nilR)))
    n_nil)))
    (n_cons (n_fz [9] (g_setX G (by decide +kernel) rfl (g_add G (g_varB G (by decide +kernel)) (n_XB (g_callX G F_law_tiles (by decide +kernel) (by decide +kernel) rfl (g_consR rfl (g_var G (by decide +kernel)) g_nilR))))))
    n_nil))))))
    (n_cons (g_for G hp rfl (g_rng1 G E.n_range (by decide +kernel) rfl (n_XR (g_mod G (n_RB (g_callF G F_law_mix (by decide +kernel) (by decide +kernel) rfl (g_consB rfl (g_varB G (by decide +kernel)) (g_consB rfl (n_XB (g_add G (g_varB G (by decide +kernel)) (n_RB g_int))) g_nilB)))) (n_RB g_int)))) (g_tgN G (by decide +kernel)) (n_cons (g_setR G (by decide +kernel) rfl (g_callF G F_law_mix (by decide +kernel) (by decide +kernel) rfl (g_consB rfl (g_varB G (by decide +kernel)) (g_consB rfl (n_XB (g_add G (n_XB (g_add G (g_varB G (by decide +kernel)) (n_RB g_int))) (g_varB G (by decide +kernel)))) g_nilB))))
    (n_cons (n_ifS (pt_pw (n_andW (g_cmpT (k_eq G) (n_XB (g_mod G (g_varB G (by decide +kernel)) (n_RB g_int))) (n_RB g_int) rfl) (pw_and1 (g_truth G (g_varB G (by decide +kernel)) rfl)))) (n_cons (g_popAt G (by decide +kernel) (by decide +kernel) (g_consR rfl (n_XR (g_mod G (n_XB (g_fdiv G (g_varB G (by decide +kernel)) (n_RB g_int))) (n_RB (g_len G E.n_len (by decide +kernel) rfl (g_consB rfl (g_varB G (by decide +kernel)) g_nilB))))) g_nilR))
    n_nil) (n_cons (g_app G (by decide +kernel) (by decide +kernel) (g_consR rfl (g_tuple G E.n_tuple (by decide +kernel) rfl (g_consB rfl (n_XB (g_lc (own' := [("_law_i", 13)]) G (by decide +kernel) rfl rfl (g_rng1 G E.n_range (by decide +kernel) rfl g_int) (fun X1 G1 => (g_tgN G1 (by decide +kernel))) (fun X1 G1 => g_t0) (fun X1 G1 => (n_XR (g_sub G1 (n_XB (g_mod G1 (n_XB (g_fdiv G1 (g_varB G1 (by decide +kernel)) (n_RB (g_ix G1 (n_XB (n_lst (g_consR rfl g_int (g_consR rfl g_int (g_consR rfl g_int (g_consR rfl g_int g_nilR)))))) (g_varB G1 (by decide +kernel)) rfl)))) (n_XB (g_add G1 (g_varB G1 (by decide +kernel)) (n_RB g_int))))) (n_RB g_int)))))) g_nilB)) g_nilR))
    n_nil))
    n_nil)))
    (n_cons (n_ret (n_tup (g_consR rfl (g_var G (by decide +kernel)) (g_consR rfl (n_XR (g_sortset G E.n_sorted E.n_set (by decide +kernel) (by decide +kernel) rfl (g_varB G (by decide +kernel)))) g_nilR))))
    n_nil))))))
theorem fc_law_system {f : Addr} {fd : FuncData} (E : Gls κ mg) (F_law_mix : Fc κ mg base 2 "_law_mix" false 2 sem_law_mix) (F_law_tiles : Fc κ mg base 1 "_law_tiles" true 1 sem_law_tiles) (F : Fun κ.K "_law_system" "_law_system" st_law_system f fd) (hm : mg "_law_system" = some (.ref f)) : Fc κ mg base 3 "_law_system" false 3 sem_law_system :=
  fc_of F hm sc_law_system rfl (F.binds fun _ _ _ _ _ _ us hl => match us, hl with | [_, _, _], _ => rfl) fun X W G hp T => b_law_system E F_law_mix F_law_tiles G hp T
/-! ### _law_last -/
abbrev st_law_last : Stmt := topS 30
abbrev N_law_last : List Str := ["_law_system_here", "_law_column_here", "_law_whole", "_law_k"]
theorem sc_law_last : FnScope N_law_last ["_law_system_here", "_law_column_here"] (defScope st_law_last) := ⟨rfl, rfl, rfl, by decide +kernel, rfl, by decide +kernel, by decide +kernel⟩
def m_law_last_C1 : EV := (e2 (inE false) (eTup (aCons (e2 ixD (eVarB 2) (eVarB 3)) (aCons (e1 negD (eCon (.int (1)))) (aCons (e2 ixD (eVarB 2) (e2 addD (eVarB 3) (eCon (.int (1))))) (aCons (e1 negD (eCon (.int (1)))) aNil))))) (e2 ixD (eVarB 0) (eCon (.int (1)))))
def m_law_last : SV := (sSeq (sSetX 2 (e2 addD (e2 addD (eTup (aCons (e1 negD (eCon (.int (1)))) aNil)) (eVarB 1)) (eTup (aCons (e1 negD (eCon (.int (1)))) aNil)))) (sSeq (sRet (eCallB allD (aCons (eLc (eRng (aCons (e2 subD (eCallB lenD (aCons (eVarB 2) aNil)) (eCon (.int (1)))) aNil)) (.nm 3) (fun _ => .ok true) m_law_last_C1 [3]) aNil))) sNx))
def sem_law_last (ds : List D) : R D := if ds.length = 2 then (if false then finX (m_law_last (env0 N_law_last ds)) else fin (m_law_last (env0 N_law_last ds))) else .er
theorem at_law_last (d0 d1 : D) : sem_law_last [d0, d1] = fin (m_law_last [.fz d0, .fz d1, .no, .no]) := rfl
theorem b_law_last {X : Cx} {W : WX} (E : Gls κ mg)  (G : Good X κ W mg base 0 N_law_last (defScope st_law_last) (fun _ => true)) (hp : PassesOwn (model X.prog X.w) X.A X.env X.xe) (T : Top X) : PSs X (defBody st_law_last) (tS κ W m_law_last) :=
  (n_cons (g_setX G (by decide +kernel) rfl (g_add G (n_XB (g_add G (n_RB (n_tup (g_consR rfl (g_neg (n_RB g_int)) g_nilR))) (g_varB G (by decide +kernel)))) (n_RB (n_tup (g_consR rfl (g_neg (n_RB g_int)) g_nilR)))))
    (n_cons (n_ret (g_all G E.n_all (by decide +kernel) rfl (g_consB rfl (n_XB (g_lc (own' := [("_law_k", 3)]) G (by decide +kernel) rfl rfl (g_rng1 G E.n_range (by decide +kernel) rfl (n_XR (g_sub G (n_RB (g_len G E.n_len (by decide +kernel) rfl (g_consB rfl (g_varB G (by decide +kernel)) g_nilB))) (n_RB g_int)))) (fun X1 G1 => (g_tgN G1 (by decide +kernel))) (fun X1 G1 => g_t0) (fun X1 G1 => (g_cmp (k_inE G1) (n_RB (n_tup (g_consR rfl (g_ix G1 (g_varB G1 (by decide +kernel)) (g_varB G1 (by decide +kernel)) rfl) (g_consR rfl (g_neg (n_RB g_int)) (g_consR rfl (g_ix G1 (g_varB G1 (by decide +kernel)) (n_XB (g_add G1 (g_varB G1 (by decide +kernel)) (n_RB g_int))) rfl) (g_consR rfl (g_neg (n_RB g_int)) g_nilR)))))) (n_RB (g_ix G1 (g_varB G1 (by decide +kernel)) (n_RB g_int) rfl)) rfl)))) g_nilB)))
    n_nil))
theorem fc_law_last {f : Addr} {fd : FuncData} (E : Gls κ mg)  (F : Fun κ.K "_law_last" "_law_last" st_law_last f fd) (hm : mg "_law_last" = some (.ref f)) : Fc κ mg base 1 "_law_last" false 2 sem_law_last :=
  fc_of F hm sc_law_last rfl (F.binds fun _ _ _ _ _ _ us hl => match us, hl with | [_, _], _ => rfl) fun X W G hp T => b_law_last E  G hp T
/-! ### _law_column -/
abbrev st_law_column : Stmt := topS 29
abbrev N_law_column : List Str := ["_law_system_here", "_law_left", "_law_text", "_law_right", "_law_some", "_law_k", "_law_found", "_law_longer", "_law_column_here", "_law_marks", "_law_mark", "_law_one", "_law_above", "_law_tile"]
theorem sc_law_column : FnScope N_law_column ["_law_system_here", "_law_left", "_law_text", "_law_right"] (defScope st_law_column) := ⟨rfl, rfl, rfl, by decide +kernel, rfl, by decide +kernel, by decide +kernel⟩
def m_law_column_C1 : EV := (eVar 10)
def m_law_column_T2 : List B → R Bool := (tst (e2 eqD (e2 ixD (e2 ixD (eVarB 0) (eCon (.int (0)))) (eVarB 10)) (e2 ixD (eVarB 2) (eVarB 5))))
def m_law_column_L3 : SV := (sSeq (sSet 12 (e2 ixD (eOr (eVar 8) (eTup (aCons (e1 negD (eCon (.int (1)))) aNil))) (e1 negD (eCon (.int (1)))))) (sSeq (sSetX 13 (eSl (e2 addD (e2 addD (eTup (aCons (e1 negD (eCon (.int (1)))) aNil)) (eVarB 1)) (eTup (aCons (e1 negD (eCon (.int (1)))) aNil))) (some (eVar 5)) (some (e2 addD (eVarB 5) (eCon (.int (2))))))) (sSeq (sIf (tst (e2 (inE false) (eTup (aCons (e2 ixD (eVarB 13) (eCon (.int (0)))) (aCons (eVar 12) (aCons (e2 ixD (eVarB 13) (eCon (.int (1)))) (aCons (eVar 10) aNil))))) (e2 ixD (eVarB 0) (eCon (.int (1)))))) (sSeq (sMut gApp 7 (aCons (e2 addD (eVarB 8) (eTup (aCons (eVar 10) aNil))) aNil)) sNx) sNx) sNx)))
def m_law_column_L4 : SV := (sSeq (sSetX 9 (eLst (aCons (e1 negD (eCon (.int (1)))) aNil))) (sSeq (sIf (tst (e2 ltD (eVarB 5) (eCallB lenD (aCons (eVarB 2) aNil)))) (sSeq (sSetX 9 (eLc (eRng (aCons (eCallB lenD (aCons (e2 ixD (eVarB 0) (eCon (.int (0)))) aNil)) aNil)) (.nm 10) m_law_column_T2 m_law_column_C1 [10])) sNx) sNx) (sSeq (sFz [9] (sFor (eIter (eVar 9)) (.nm 10) m_law_column_L3)) sNx)))
def m_law_column_L5 : SV := (sSeq (sSetX 7 (eLst aNil)) (sSeq (sFz [4] (sFor (eIter (eVar 4)) (.nm 8) m_law_column_L4)) (sSeq (sFz [7] (sSet 4 (eVar 7))) sNx)))
def m_law_column_C6 : EV := (eSl (eVarB 8) none (some (e1 negD (eCon (.int (1))))))
def m_law_column_C7 : EV := (eVar 11)
def m_law_column_T8 : List B → R Bool := (bOr (bNot (tru (eVarB 3))) (tru (eCallF 2 sem_law_last (aCons (eVarB 0) (aCons (eVarB 11) aNil)))))
def m_law_column : SV := (sSeq (sSetX 4 (eLst (aCons (eTup aNil) aNil))) (sSeq (sFor (eRng (aCons (e2 addD (eCallB lenD (aCons (eVarB 2) aNil)) (eCon (.int (1)))) aNil)) (.nm 5) m_law_column_L5) (sSeq (sFz [4] (sSetX 6 (eLc (eIter (eVar 4)) (.nm 8) (fun _ => .ok true) m_law_column_C6 [8]))) (sSeq (sFz [6] (sRetX (eLc (eIter (eVar 6)) (.nm 11) m_law_column_T8 m_law_column_C7 [11]))) sNx))))
def sem_law_column (ds : List D) : R D := if ds.length = 4 then (if true then finX (m_law_column (env0 N_law_column ds)) else fin (m_law_column (env0 N_law_column ds))) else .er
theorem at_law_column (d0 d1 d2 d3 : D) : sem_law_column [d0, d1, d2, d3] = finX (m_law_column [.fz d0, .fz d1, .fz d2, .fz d3, .no, .no, .no, .no, .no, .no, .no, .no, .no, .no]) := rfl
theorem b_law_column {X : Cx} {W : WX} (E : Gls κ mg) (F_law_last : Fc κ mg base 1 "_law_last" false 2 sem_law_last) (G : Good X κ W mg base 1 N_law_column (defScope st_law_column) (fun _ => true)) (hp : PassesOwn (model X.prog X.w) X.A X.env X.xe) (T : Top X) : PSs X (defBody st_law_column) (tS κ W m_law_column) :=
  (n_cons (g_setX G (by decide +kernel) rfl (n_lst (g_consR rfl (n_tup g_nilR) g_nilR)))
    (n_cons (g_for G hp rfl (g_rng1 G E.n_range (by decide +kernel) rfl (n_XR (g_add G (n_RB (g_len G E.n_len (by decide +kernel) rfl (g_consB rfl (g_varB G (by decide +kernel)) g_nilB))) (n_RB g_int)))) (g_tgN G (by decide +kernel)) (n_cons (g_setX G (by decide +kernel) rfl (n_lst g_nilR))
    (n_cons (n_fz [4] (g_for G hp rfl (n_iter G.hK (g_var G (by decide +kernel))) (g_tgN G (by decide +kernel)) (n_cons (g_setX G (by decide +kernel) rfl (n_lst (g_consR rfl (g_neg (n_RB g_int)) g_nilR)))
    (n_cons (n_ifS (g_cmpT (k_lt G) (g_varB G (by decide +kernel)) (n_RB (g_len G E.n_len (by decide +kernel) rfl (g_consB rfl (g_varB G (by decide +kernel)) g_nilB))) rfl) (n_cons (g_setLc (own' := [("_law_mark", 10)]) G (by decide +kernel) (by decide +kernel) rfl rfl (g_rng1 G E.n_range (by decide +kernel) rfl (g_len G E.n_len (by decide +kernel) rfl (g_consB rfl (n_RB (g_ix G (g_varB G (by decide +kernel)) (n_RB g_int) rfl)) g_nilB))) (fun X1 G1 => (g_tgN G1 (by decide +kernel))) (fun X1 G1 => (pts_one (g_cmpT (k_eq G1) (n_RB (g_ix G1 (n_RB (g_ix G1 (g_varB G1 (by decide +kernel)) (n_RB g_int) rfl)) (g_varB G1 (by decide +kernel)) rfl)) (n_RB (g_ix G1 (g_varB G1 (by decide +kernel)) (g_varB G1 (by decide +kernel)) rfl)) rfl))) (fun X1 G1 => (g_var G1 (by decide +kernel))))
    n_nil) n_nil)
    (n_cons (n_fz [9] (g_for G hp rfl (n_iter G.hK (g_var G (by decide +kernel))) (g_tgN G (by decide +kernel)) (n_cons (g_setR G (by decide +kernel) rfl (g_ix G (n_RB (g_orV G (g_var G (by decide +kernel)) (pe_one (n_tup (g_consR rfl (g_neg (n_RB g_int)) g_nilR))))) (n_RB (g_neg (n_RB g_int))) rfl))
    (n_cons (g_setX G (by decide +kernel) rfl (n_sl G.hK (n_XB (g_add G (n_XB (g_add G (n_RB (n_tup (g_consR rfl (g_neg (n_RB g_int)) g_nilR))) (g_varB G (by decide +kernel)))) (n_RB (n_tup (g_consR rfl (g_neg (n_RB g_int)) g_nilR))))) (n_poS (g_var G (by decide +kernel))) (n_poS (n_XR (g_add G (g_varB G (by decide +kernel)) (n_RB g_int))))))
    (n_cons (n_ifS (g_cmpT (k_inE G) (n_RB (n_tup (g_consR rfl (g_ix G (g_varB G (by decide +kernel)) (n_RB g_int) rfl) (g_consR rfl (g_var G (by decide +kernel)) (g_consR rfl (g_ix G (g_varB G (by decide +kernel)) (n_RB g_int) rfl) (g_consR rfl (g_var G (by decide +kernel)) g_nilR)))))) (n_RB (g_ix G (g_varB G (by decide +kernel)) (n_RB g_int) rfl)) rfl) (n_cons (g_app G (by decide +kernel) (by decide +kernel) (g_consR rfl (n_XR (g_add G (g_varB G (by decide +kernel)) (n_RB (n_tup (g_consR rfl (g_var G (by decide +kernel)) g_nilR))))) g_nilR))
    n_nil) n_nil)
    n_nil)))))
    n_nil)))))
    (n_cons (n_fz [7] (g_setR G (by decide +kernel) rfl (g_var G (by decide +kernel))))
    n_nil))))
    (n_cons (n_fz [4] (g_setLc (own' := [("_law_column_here", 8)]) G (by decide +kernel) (by decide +kernel) rfl rfl (n_iter G.hK (g_var G (by decide +kernel))) (fun X1 G1 => (g_tgN G1 (by decide +kernel))) (fun X1 G1 => g_t0) (fun X1 G1 => (n_XR (n_sl G1.hK (g_varB G1 (by decide +kernel)) n_poN (n_poS (g_neg (n_RB g_int))))))))
    (n_cons (n_fz [6] (n_retT (n_rtX (g_lc (own' := [("_law_one", 11)]) G (by decide +kernel) rfl rfl (n_iter G.hK (g_var G (by decide +kernel))) (fun X1 G1 => (g_tgN G1 (by decide +kernel))) (fun X1 G1 => (pts_one (pt_pw (n_orW (n_notT (g_truth G1 (g_varB G1 (by decide +kernel)) rfl)) (pw_or1 (g_truth G1 (n_RB (g_callF G1 F_law_last (by decide +kernel) (by decide +kernel) rfl (g_consB rfl (g_varB G1 (by decide +kernel)) (g_consB rfl (g_varB G1 (by decide +kernel)) g_nilB)))) rfl)))))) (fun X1 G1 => (g_var G1 (by decide +kernel)))))))
    n_nil))))
theorem fc_law_column {f : Addr} {fd : FuncData} (E : Gls κ mg) (F_law_last : Fc κ mg base 1 "_law_last" false 2 sem_law_last) (F : Fun κ.K "_law_column" "_law_column" st_law_column f fd) (hm : mg "_law_column" = some (.ref f)) : Fc κ mg base 2 "_law_column" true 4 sem_law_column :=
  fc_of F hm sc_law_column rfl (F.binds fun _ _ _ _ _ _ us hl => match us, hl with | [_, _, _, _], _ => rfl) fun X W G hp T => b_law_column E F_law_last G hp T
/-! ### _law_least -/
abbrev st_law_least : Stmt := topS 31
abbrev N_law_least : List Str := ["_law_system_here", "_law_picture_here", "_law_way", "_law_dead", "_law_x", "_law_text", "_law_column_here", "_law_found", "_law_row"]
theorem sc_law_least : FnScope N_law_least ["_law_system_here", "_law_picture_here", "_law_way", "_law_dead"] (defScope st_law_least) := ⟨rfl, rfl, rfl, by decide +kernel, rfl, by decide +kernel, by decide +kernel⟩
def m_law_least_C1 (rec : IOS) : EV := (e2 ixD (eVarB 8) (eVarB 4))
def m_law_least_L2 (rec : IOS) : SV := (sSeq (sCallIO 7 3 (eVar 0) (eVar 1) (e2 addD (eVarB 2) (eLst (aCons (eVar 6) aNil))) rec) (sSeq (sIf (tst (e2 (isD true) (eVarB 7) (eCon .non))) (sSeq (sRetW (eVar 7)) sNx) sNx) sNx))
def m_law_least (rec : IOS) : SV := (sSeq (sSetX 4 (e2 subD (eCallB lenD (aCons (eVarB 2) aNil)) (eCon (.int (1))))) (sSeq (sIf (tst (e2 eqD (eVarB 4) (eCallB lenD (aCons (e2 ixD (eVarB 1) (eCon (.int (0)))) aNil)))) (sSeq (sRetW (eVar 2)) sNx) sNx) (sSeq (sFz [4] (sIf (tst (e2 (inE false) (eTup (aCons (eVar 4) (aCons (e2 ixD (eVarB 2) (e1 negD (eCon (.int (1))))) aNil))) (eVarD 3))) (sSeq (sRetW (eCon .non)) sNx) sNx)) (sSeq (sSet 5 (eMeth "str" joinD (eCon (.str "")) (aCons (eLc (eIter (eVar 1)) (.nm 8) (fun _ => .ok true) (m_law_least_C1 rec) [8]) aNil))) (sSeq (sFor (eIter (eCallB sortedD (aCons (eCall 4 sem_law_column (aCons (eVar 0) (aCons (e2 ixD (eVarB 2) (e1 negD (eCon (.int (1))))) (aCons (eVar 5) (aCons (e2 eqD (e2 addD (eVarB 4) (eCon (.int (1)))) (eCallB lenD (aCons (e2 ixD (eVarB 1) (eCon (.int (0)))) aNil))) aNil))))) aNil))) (.nm 6) (m_law_least_L2 rec)) (sSeq (sFz [4] (sPutD 3 (eTup (aCons (eVar 4) (aCons (e2 ixD (eVarB 2) (e1 negD (eCon (.int (1))))) aNil))) (eCon (.bl true)))) (sSeq (sRetW (eCon .non)) sNx)))))))
def sem_law_least : Nat → IOS
  | 0 => fun _ _ _ _ => none
  | jj + 1 => fun a ds ks ws => if ds.length = 3 then finW a 3 (m_law_least (sem_law_least jj) (envI N_law_least a ds ks ws)) else none
theorem at_law_least (jj : Nat) (a : Nat) (d0 d1 d2 : D) (ks ws : List D) : sem_law_least (jj + 1) a [d0, d1, d2] ks ws = finW a 3 (m_law_least (sem_law_least jj) [.fz d0, .fz d1, .fz d2, .ow (.dat a ks ws), .no, .no, .no, .no, .no]) := rfl
theorem b_law_least {X : Cx} {W : WX} (E : Gls κ mg) (F_law_column : Fc κ mg base 2 "_law_column" true 4 sem_law_column) (jj : Nat) {rec : IOS} (F_rec : Io κ mg base (2 + jj) "_law_least" 3 rec) (G : Good X κ W mg base (2 + jj) N_law_least (defScope st_law_least) (fun _ => true)) (hp : PassesOwn (model X.prog X.w) X.A X.env X.xe) (T : Top X) : PSs X (defBody st_law_least) (tS κ W (m_law_least rec)) :=
  (n_cons (g_setX G (by decide +kernel) rfl (g_sub G (n_RB (g_len G E.n_len (by decide +kernel) rfl (g_consB rfl (g_varB G (by decide +kernel)) g_nilB))) (n_RB g_int)))
    (n_cons (n_ifS (g_cmpT (k_eq G) (g_varB G (by decide +kernel)) (n_RB (g_len G E.n_len (by decide +kernel) rfl (g_consB rfl (n_RB (g_ix G (g_varB G (by decide +kernel)) (n_RB g_int) rfl)) g_nilB))) rfl) (n_cons (n_retW (g_var G (by decide +kernel)))
    n_nil) n_nil)
    (n_cons (n_fz [4] (n_ifS (g_cmpT (k_inE G) (n_RB (n_tup (g_consR rfl (g_var G (by decide +kernel)) (g_consR rfl (g_ix G (g_varB G (by decide +kernel)) (n_RB (g_neg (n_RB g_int))) rfl) g_nilR)))) (g_varD G (by decide +kernel)) rfl) (n_cons (n_retW g_non)
    n_nil) n_nil))
    (n_cons (g_setR G (by decide +kernel) rfl (g_join G (by decide +kernel) (n_RB g_str) (g_consB rfl (n_XB (g_lc (own' := [("_law_row", 8)]) G (by decide +kernel) rfl rfl (n_iter G.hK (g_var G (by decide +kernel))) (fun X1 G1 => (g_tgN G1 (by decide +kernel))) (fun X1 G1 => g_t0) (fun X1 G1 => (g_ix G1 (g_varB G1 (by decide +kernel)) (g_varB G1 (by decide +kernel)) rfl)))) g_nilB)))
    (n_cons (g_for G hp rfl (n_iter G.hK (n_XR (g_sorted G E.n_sorted (by decide +kernel) rfl (g_consB rfl (n_XB (g_callX G F_law_column (Nat.le_trans (by decide) (Nat.le_add_right _ jj)) (by decide +kernel) rfl (g_consR rfl (g_var G (by decide +kernel)) (g_consR rfl (g_ix G (g_varB G (by decide +kernel)) (n_RB (g_neg (n_RB g_int))) rfl) (g_consR rfl (g_var G (by decide +kernel)) (g_consR rfl (g_cmp (k_eq G) (n_XB (g_add G (g_varB G (by decide +kernel)) (n_RB g_int))) (n_RB (g_len G E.n_len (by decide +kernel) rfl (g_consB rfl (n_RB (g_ix G (g_varB G (by decide +kernel)) (n_RB g_int) rfl)) g_nilB))) rfl) g_nilR)))))) g_nilB)))) (g_tgN G (by decide +kernel)) (n_cons (g_callIO (p3 := ⟨0, 0, 0, 0⟩) G F_rec (Nat.le_refl _) (by decide +kernel) (by decide +kernel) (by decide +kernel) rfl (g_var G (by decide +kernel)) (g_var G (by decide +kernel)) (n_XR (g_add G (g_varB G (by decide +kernel)) (n_XB (n_lst (g_consR rfl (g_var G (by decide +kernel)) g_nilR))))))
    (n_cons (n_ifS (g_cmpT (k_isn G) (g_varB G (by decide +kernel)) (n_RB g_non) rfl) (n_cons (n_retW (g_var G (by decide +kernel)))
    n_nil) n_nil)
    n_nil)))
    (n_cons (n_fz [4] (g_putD G (by decide +kernel) rfl rfl g_bl (n_tup (g_consR rfl (g_var G (by decide +kernel)) (g_consR rfl (g_ix G (g_varB G (by decide +kernel)) (n_RB (g_neg (n_RB g_int))) rfl) g_nilR)))))
    (n_cons (n_retW g_non)
    n_nil)))))))
theorem fc_law_least {f : Addr} {fd : FuncData} (E : Gls κ mg) (F_law_column : Fc κ mg base 2 "_law_column" true 4 sem_law_column) (F : Fun κ.K "_law_least" "_law_least" st_law_least f fd) (hm : mg "_law_least" = some (.ref f)) : ∀ jj : Nat, Io κ mg base (2 + jj) "_law_least" 3 (sem_law_least jj)
  | 0 => io_zero (ps := ["_law_system_here", "_law_picture_here", "_law_way", "_law_dead"]) F hm (F.binds fun _ _ _ _ _ _ us hl => match us, hl with | [_, _, _, _], _ => rfl)
  | jj + 1 => io_of F hm sc_law_least rfl (by decide) (F.binds fun _ _ _ _ _ _ us hl => match us, hl with | [_, _, _, _], _ => rfl) fun X W G hp T => b_law_least E F_law_column jj (fc_law_least E F_law_column F hm jj) G hp T
/-! ### law -/
abbrev st_law : Stmt := topS 32
abbrev N_law : List Str := ["_law_script", "_law_system_here", "_law_k", "_law_high", "_law_wide", "_law_picture_here", "_law_way", "_law_found", "_law_due", "_law_y", "_law_column_here"]
theorem sc_law : FnScope N_law ["_law_script"] (defScope st_law) := ⟨rfl, rfl, rfl, by decide +kernel, rfl, by decide +kernel, by decide +kernel⟩
def m_law_C1 : EV := (e2 ixD (eVarB 10) (eVarB 9))
def m_law_C2 : EV := (eLc (eIter (eSl (eVarB 6) (some (eCon (.int (1)))) none)) (.nm 10) (fun _ => .ok true) m_law_C1 [10])
def m_law_L3 : SV := (sSeq (sSetX 3 (e2 addD (eCon (.int (1))) (e2 modD (eCallF 2 sem_law_mix (aCons (eVarB 0) (aCons (e2 addD (eCon (.int (200))) (eVarB 2)) aNil))) (eCon (.int (3)))))) (sSeq (sSetX 4 (e2 addD (eCon (.int (1))) (e2 modD (eCallF 2 sem_law_mix (aCons (eVarB 0) (aCons (e2 addD (eCon (.int (210))) (eVarB 2)) aNil))) (eCon (.int (4)))))) (sSeq (sFz [3, 4] (sSetX 5 (eCall 5 sem_law_picture (aCons (eVar 0) (aCons (e2 addD (eCon (.int (220))) (e2 mulD (eCon (.int (30))) (eVarB 2))) (aCons (eVar 3) (aCons (eVar 4) (aCons (e2 ixD (eLst (aCons (e2 ixD (eVarB 1) (eCon (.int (0)))) (aCons (eCon (.str "ab")) aNil))) (e2 modD (eCallF 2 sem_law_mix (aCons (eVarB 0) (aCons (e2 addD (eCon (.int (205))) (eVarB 2)) aNil))) (eCon (.int (2))))) aNil)))))))) (sSeq (sFz [5] (sSet 6 (eCallIO (eVar 1) (eVar 5) (eLst (aCons (e2 mulE (eTup (aCons (e1 negD (eCon (.int (1)))) aNil)) (eVarB 3)) aNil)) (sem_law_least 8)))) (sSeq (sSetX 7 (eCall 2 sem_lets (aCons (eVar 1) (aCons (eCallB listD (aCons (eVarB 5) aNil)) aNil)))) (sSeq (sIf (bOr (tst (e2 (isD false) (eVarB 6) (eCon .non))) (tst (e2 (isD false) (eVarB 7) (eCon .non)))) (sSeq (sIf (tst (e2 neD (eVarB 6) (eVarB 7))) (sSeq (sRet (eCon (.bl false))) sNx) sNx) sNx) (sSeq (sFz [3] (sSetX 8 (eLc (eRng (aCons (eVar 3) aNil)) (.nm 9) (fun _ => .ok true) m_law_C2 [9]))) (sSeq (sIf (bOr (tst (e2 neD (eVarB 7) (eVarB 8))) (bNot (tru (eCallF 3 sem_shows (aCons (eVarB 1) (aCons (eVarB 5) (aCons (eVarB 7) aNil))))))) (sSeq (sRet (eCon (.bl false))) sNx) sNx) (sSeq (sMut gApp 7 (aCons (eLst aNil) aNil)) sNx)))) sNx))))))
def m_law : SV := (sSeq (sSet 1 (eCall 3 sem_law_system (aCons (eVar 0) (aCons (eCon (.int (0))) (aCons (eCon (.int (3))) aNil))))) (sSeq (sFor (eRng (aCons (eCon (.int (4))) aNil)) (.nm 2) m_law_L3) (sSeq (sRet (eCon (.bl true))) sNx)))
def sem_law (ds : List D) : R D := if ds.length = 1 then (if false then finX (m_law (env0 N_law ds)) else fin (m_law (env0 N_law ds))) else .er
theorem at_law (d0 : D) : sem_law [d0] = fin (m_law [.fz d0, .no, .no, .no, .no, .no, .no, .no, .no, .no, .no]) := rfl
theorem b_law {X : Cx} {W : WX} (E : Gls κ mg) (F_law_system : Fc κ mg base 3 "_law_system" false 3 sem_law_system) (F_law_mix : Fc κ mg base 2 "_law_mix" false 2 sem_law_mix) (F_law_picture : Fc κ mg base 3 "_law_picture" true 5 sem_law_picture) (F_law_least : Io κ mg base 10 "_law_least" 3 (sem_law_least 8)) (F_lets : Fc κ mg base 4 "lets" true 2 sem_lets) (F_shows : Fc κ mg base 3 "shows" false 3 sem_shows) (G : Good X κ W mg base 10 N_law (defScope st_law) (fun _ => true)) (hp : PassesOwn (model X.prog X.w) X.A X.env X.xe) (T : Top X) : PSs X (defBody st_law) (tS κ W m_law) :=
  (n_cons (g_setR G (by decide +kernel) rfl (g_callR G F_law_system (by decide +kernel) (by decide +kernel) rfl (g_consR rfl (g_var G (by decide +kernel)) (g_consR rfl g_int (g_consR rfl g_int g_nilR)))))
    (n_cons (g_for G hp rfl (g_rng1 G E.n_range (by decide +kernel) rfl g_int) (g_tgN G (by decide +kernel)) (n_cons (g_setX G (by decide +kernel) rfl (g_add G (n_RB g_int) (n_XB (g_mod G (n_RB (g_callF G F_law_mix (by decide +kernel) (by decide +kernel) rfl (g_consB rfl (g_varB G (by decide +kernel)) (g_consB rfl (n_XB (g_add G (n_RB g_int) (g_varB G (by decide +kernel)))) g_nilB)))) (n_RB g_int)))))
    (n_cons (g_setX G (by decide +kernel) rfl (g_add G (n_RB g_int) (n_XB (g_mod G (n_RB (g_callF G F_law_mix (by decide +kernel) (by decide +kernel) rfl (g_consB rfl (g_varB G (by decide +kernel)) (g_consB rfl (n_XB (g_add G (n_RB g_int) (g_varB G (by decide +kernel)))) g_nilB)))) (n_RB g_int)))))
    (n_cons (n_fz [3, 4] (g_setX G (by decide +kernel) rfl (g_callX G F_law_picture (by decide +kernel) (by decide +kernel) rfl (g_consR rfl (g_var G (by decide +kernel)) (g_consR rfl (n_XR (g_add G (n_RB g_int) (n_XB (g_mul G (n_RB g_int) (g_varB G (by decide +kernel)))))) (g_consR rfl (g_var G (by decide +kernel)) (g_consR rfl (g_var G (by decide +kernel)) (g_consR rfl (g_ix G (n_XB (n_lst (g_consR rfl (g_ix G (g_varB G (by decide +kernel)) (n_RB g_int) rfl) (g_consR rfl g_str g_nilR)))) (n_XB (g_mod G (n_RB (g_callF G F_law_mix (by decide +kernel) (by decide +kernel) rfl (g_consB rfl (g_varB G (by decide +kernel)) (g_consB rfl (n_XB (g_add G (n_RB g_int) (g_varB G (by decide +kernel)))) g_nilB)))) (n_RB g_int))) rfl) g_nilR))))))))
    (n_cons (n_fz [5] (g_setR G (by decide +kernel) rfl (g_callIO0 (p3 := ⟨0, 0, 0, 0⟩) G F_law_least (by decide +kernel) (by decide +kernel) rfl (g_var G (by decide +kernel)) (g_var G (by decide +kernel)) (n_XR (n_lst (g_consR rfl (n_XR (g_mulE G (n_RB (n_tup (g_consR rfl (g_neg (n_RB g_int)) g_nilR))) (g_varB G (by decide +kernel)))) g_nilR))))))
    (n_cons (g_setX G (by decide +kernel) rfl (g_callX G F_lets (by decide +kernel) (by decide +kernel) rfl (g_consR rfl (g_var G (by decide +kernel)) (g_consR rfl (n_XR (g_list G E.n_list (by decide +kernel) rfl (g_consB rfl (g_varB G (by decide +kernel)) g_nilB))) g_nilR))))
    (n_cons (n_ifS (pt_pw (n_orW (g_cmpT (k_is G) (g_varB G (by decide +kernel)) (n_RB g_non) rfl) (pw_or1 (g_cmpT (k_is G) (g_varB G (by decide +kernel)) (n_RB g_non) rfl)))) (n_cons (n_ifS (g_cmpT (k_ne G) (g_varB G (by decide +kernel)) (g_varB G (by decide +kernel)) rfl) (n_cons (n_ret g_bl)
    n_nil) n_nil)
    n_nil) (n_cons (n_fz [3] (g_setLc (own' := [("_law_y", 9)]) G (by decide +kernel) (by decide +kernel) rfl rfl (g_rng1 G E.n_range (by decide +kernel) rfl (g_var G (by decide +kernel))) (fun X1 G1 => (g_tgN G1 (by decide +kernel))) (fun X1 G1 => g_t0) (fun X1 G1 => (n_XR (g_lc (own' := [("_law_column_here", 10)]) G1 (by decide +kernel) rfl rfl (n_iter G1.hK (n_XR (n_sl G1.hK (g_varB G1 (by decide +kernel)) (n_poS g_int) n_poN))) (fun X2 G2 => (g_tgN G2 (by decide +kernel))) (fun X2 G2 => g_t0) (fun X2 G2 => (g_ix G2 (g_varB G2 (by decide +kernel)) (g_varB G2 (by decide +kernel)) rfl)))))))
    (n_cons (n_ifS (pt_pw (n_orW (g_cmpT (k_ne G) (g_varB G (by decide +kernel)) (g_varB G (by decide +kernel)) rfl) (pw_or1 (n_notT (g_truth G (n_RB (g_callF G F_shows (by decide +kernel) (by decide +kernel) rfl (g_consB rfl (g_varB G (by decide +kernel)) (g_consB rfl (g_varB G (by decide +kernel)) (g_consB rfl (g_varB G (by decide +kernel)) g_nilB))))) rfl))))) (n_cons (n_ret g_bl)
    n_nil) n_nil)
    (n_cons (g_app G (by decide +kernel) (by decide +kernel) (g_consR rfl (n_XR (n_lst g_nilR)) g_nilR))
    n_nil))))
    n_nil)))))))
    (n_cons (n_ret g_bl)
    n_nil)))
theorem fc_law {f : Addr} {fd : FuncData} (E : Gls κ mg) (F_law_system : Fc κ mg base 3 "_law_system" false 3 sem_law_system) (F_law_mix : Fc κ mg base 2 "_law_mix" false 2 sem_law_mix) (F_law_picture : Fc κ mg base 3 "_law_picture" true 5 sem_law_picture) (F_law_least : Io κ mg base 10 "_law_least" 3 (sem_law_least 8)) (F_lets : Fc κ mg base 4 "lets" true 2 sem_lets) (F_shows : Fc κ mg base 3 "shows" false 3 sem_shows) (F : Fun κ.K "law" "law" st_law f fd) (hm : mg "law" = some (.ref f)) : Fc κ mg base 11 "law" false 1 sem_law :=
  fc_of F hm sc_law rfl (F.binds fun _ _ _ _ _ _ us hl => match us, hl with | [_], _ => rfl) fun X W G hp T => b_law E F_law_system F_law_mix F_law_picture F_law_least F_lets F_shows G hp T
end
end K10

namespace K10
open PySem PySem.Spec PyProof.Rows L2 QY
/-! ### the script's numbers -/
def cellZ (ns : List Int) (k : Int) : Int := if ns = [] then 0 else (atI ns (k % (ns.length : Int))).getD 0
theorem sem_cell {ns : List Int} {k : Int} : sem_law_cell [.scr ns, .int k] = .ok (.int (cellZ ns k)) := by
  rw [at_law_cell]
  cases ns with
  | nil => simp [m_law_cell, cellZ]
  | cons a r =>
    have hp : (0 : Int) < ((a :: r).length : Nat) := by rw [List.length_cons]; omega
    have ix : ixD (.scr (a :: r)) (.int (k % ((a :: r).length : Nat))) = some (.int (cellZ (a :: r) k)) := by
      have h0 := Int.emod_nonneg k (show ((a :: r).length : Int) ≠ 0 by omega)
      have h1 := Int.emod_lt_of_pos k hp
      have e : (k % ((a :: r).length : Nat)) = (((k % ((a :: r).length : Nat)).toNat : Nat) : Int) := by omega
      show (atI (a :: r) _).map D.int = _
      unfold cellZ
      rw [if_neg (by simp), e, QY.atI_nat]
      rw [List.getElem?_eq_getElem (by omega)]
      rfl
    simp only [m_law_cell, sSeq_ap, sIf_ap, tru_ap, eVarB_0, R.bind_ok, tru_scr, R.of_some, rbd_ok, List.isEmpty_cons, Bool.not_false, scnd_t, sRet_ap, e2_ap, eVarB_s, eCallB_ap, aCons_ap, aNil_ap, len_scr, modI hp, ix, obd_rt, fin_rt]
def mixZ (ns : List Int) (k : Int) : Int :=
  ((((cellZ ns k + 104729 * (k + 1)) % 4294967291) * 48271 % 4294967279) / 64 * 69621 + ((cellZ ns k + 104729 * (k + 1)) % 4294967291) * 48271 % 4294967279) % 4294967231
theorem mixZ_nn (ns : List Int) (k : Int) : 0 ≤ mixZ ns k := Int.emod_nonneg _ (by decide)
theorem sem_mix {ns : List Int} {k : Int} : sem_law_mix [.scr ns, .int k] = .ok (.int (mixZ ns k)) := by
  rw [at_law_mix]
  simp only [m_law_mix, sSeq_ap, sSetX_ap, e2_ap, eCallF_ap, aCons_ap, eVarB_0, eVarB_s, R.bind_ok, aNil_ap, List.length_cons, List.length_nil, if_pos, sem_cell, flatR_ok, flatD, eCon_ap, addI, R.of_some, mulI' (show -(2 ^ 64) < (104729 : Int) ∧ (104729 : Int) < 2 ^ 64 by decide), modI (show (0 : Int) < 4294967291 by decide), rbd_ok, bX_int, List.set_cons_zero, List.set_cons_succ, obd_nx,
    mulI (show -(2 ^ 64) < (48271 : Int) ∧ (48271 : Int) < 2 ^ 64 by decide), modI (show (0 : Int) < 4294967279 by decide), sRet_ap, fdivI (show (0 : Int) < 64 ∧ (64 : Int) < 1073741824 by decide), mulI (show -(2 ^ 64) < (69621 : Int) ∧ (69621 : Int) < 2 ^ 64 by decide), modI (show (0 : Int) < 4294967231 by decide), obd_rt, fin_rt]
  rfl
theorem fmix {ns : List Int} {k : Int} : flatR (sem_law_mix [.scr ns, .int k]) = .ok (.int (mixZ ns k)) := by rw [sem_mix]; rfl

/-! ### look_system -/
theorem look_letters {S b1 b3 b4 b5 b6 : B} {L : Str} (h : L.length ≤ 1000000) : eLc (eIter (eVar 2)) (.nm 5) (fun _ => .ok true) m_look_system_C1 [5] [S, b1, .fz (.str L), b3, b4, b5, b6] = .ok (.lst (L.cps.toList.map fun c => .bl (letB c))) :=
  lc_signs (by simp) h fun c => by simp [m_look_system_C1, wipeB, inE, inD, letB]
theorem look_marks {S b1 b3 b5 b6 : B} {L : Str} {t : List Int} (h : L.length ≤ 1000000) (ht : t.length ≤ 1000000) : eLc (eIter (eVar 4)) (.nm 6) (fun _ => .ok true) m_look_system_C2 [6] [S, b1, .fz (.str L), b3, .fz (tupD t), b5, b6] = .ok (.lst (t.map fun x => .bl (inMark L.length x))) :=
  lc_ints (by simp) ht fun x _ => by simp [m_look_system_C2, wipeB, len_str (lim1 h), inMark]
theorem look_tile {S b1 b4 b5 b6 : B} {L : Str} {T : List (List Int)} {k : Nat} {t : List Int} {p : Option (List Int)} (h : L.length ≤ 1000000) (ht : t.length ≤ 1000000) (hk : T[k]? = some t) (hp : (p = none ∧ k = 0) ∨ (∃ q j, p = some q ∧ k = j + 1 ∧ T[j]? = some q)) :
    m_look_system_L3 [S, .fz (.int (k : Int)), .fz (.str L), .fz (.lst (tupsD T)), b4, b5, b6] = if okT L.length t && rise p t then .nx [S, .fz (.int (k : Int)), .fz (.str L), .fz (.lst (tupsD T)), .fz (tupD t), b5, b6] else .ex 2 [] [S, .fz (.int (k : Int)), .fz (.str L), .fz (.lst (tupsD T)), .fz (tupD t), b5, b6] := by
  simp only [sSeq_ap, sSet_ap, sSetX_ap, sRet_ap, sRetX_ap, sDrop_ap, sIf_ap, sFor_ap, sNx_ap, sBk_ap, sCt_ap, sRetN_ap, sRaise_ap, e1_ap, e2_ap, e3_ap, eVar_0, eVar_s, eVarB_0, eVarB_s, eVarB_0o, eCon_ap, eCallB_ap, eCall_ap, eCallF_ap, eMeth_ap, aCons_ap, aNil_ap, eIter_ap, eIf_ap, eAnd_ap, eOr_ap, eNot_ap, eLst_ap, eTup_ap, bNot_ap, bAnd_ap, bOr_ap, tst_ap, tru_ap, R.bind_ok, R.of_some, rbd_ok, rbd_ex, obd_nx, obd_rt, obd_ex, obd_bk, obd_ct, scnd_t, scnd_f, cnd_t, cnd_f, cnd_or, cnd_and, bl_t, tru_bl, tru_non, ty_str, ty_lst, List.set_cons_zero, List.set_cons_succ, addI, subI, negI, ltI, leI, gtI, geI, eqI, neI, chain3_bb, chain3_t, chain3_f, fin_nx, fin_rt, fin_ex, sFz_ap, frzs_cons, frzs_nil, frz_s, frz_0z, frz_0o, frz_0n, bX_int, bX_str, bX_bl, bX_non, bX_lst, bX_tup, R.bind_ex, decT, decF, m_look_system_L3, ix_tupsD hk, len_tupD, look_marks h ht, all_bls]
  have e4 : decide ((t.length : Int) = 4) = decide (t.length = 4) := decide_eq_decide.mpr (by omega)
  rw [e4]
  unfold okT
  generalize decide (t.length = 4) = A
  generalize (t.all fun x => inMark L.length x) = C
  cases A with
  | false => rfl
  | true =>
    cases C with
    | false => rfl
    | true =>
      rcases hp with ⟨rfl, rfl⟩ | ⟨q, j, rfl, rfl, hq⟩
      · rfl
      · have e1 : decide ((0 : Int) < ((j + 1 : Nat) : Int)) = true := decide_eq_true (by omega)
        have e2 : ((j + 1 : Nat) : Int) - 1 = (j : Int) := by omega
        simp only [Bool.not_true, Bool.or_false]
        simp only [sSeq_ap, sSet_ap, sSetX_ap, sRet_ap, sRetX_ap, sDrop_ap, sIf_ap, sFor_ap, sNx_ap, sBk_ap, sCt_ap, sRetN_ap, sRaise_ap, e1_ap, e2_ap, e3_ap, eVar_0, eVar_s, eVarB_0, eVarB_s, eVarB_0o, eCon_ap, eCallB_ap, eCall_ap, eCallF_ap, eMeth_ap, aCons_ap, aNil_ap, eIter_ap, eIf_ap, eAnd_ap, eOr_ap, eNot_ap, eLst_ap, eTup_ap, bNot_ap, bAnd_ap, bOr_ap, tst_ap, tru_ap, R.bind_ok, R.of_some, rbd_ok, rbd_ex, obd_nx, obd_rt, obd_ex, obd_bk, obd_ct, scnd_t, scnd_f, cnd_t, cnd_f, cnd_or, cnd_and, bl_t, tru_bl, tru_non, ty_str, ty_lst, List.set_cons_zero, List.set_cons_succ, addI, subI, negI, ltI, leI, gtI, geI, eqI, neI, chain3_bb, chain3_t, chain3_f, fin_nx, fin_rt, fin_ex, sFz_ap, frzs_cons, frzs_nil, frz_s, frz_0z, frz_0o, frz_0n, bX_int, bX_str, bX_bl, bX_non, bX_lst, bX_tup, R.bind_ex, decT, decF, e1, e2, ix_tupsD hq, lt_tup, Bool.true_and, rise]
        cases HT.lexLt q t <;> rfl
theorem look_loop {S b5 b6 : B} {L : Str} {T : List (List Int)} (h : L.length ≤ 1000000) (ht : ∀ t ∈ T, t.length ≤ 1000000) : ∀ (r pre : List (List Int)) (p : Option (List Int)) (b1 b4 : B), T = pre ++ r → ((p = none ∧ pre = []) ∨ (∃ q l, p = some q ∧ pre = l ++ [q])) → ∃ b1' b4',
    forO (.nm 1) m_look_system_L3 ((List.range' pre.length r.length).map fun (k : Nat) => .int (k : Int)) [S, b1, .fz (.str L), .fz (.lst (tupsD T)), b4, b5, b6] =
      if chk L.length p r then .nx [S, b1', .fz (.str L), .fz (.lst (tupsD T)), b4', b5, b6] else .ex 2 [] [S, b1', .fz (.str L), .fz (.lst (tupsD T)), b4', b5, b6]
  | [], pre, p, b1, b4, _, _ => ⟨b1, b4, rfl⟩
  | t :: r, pre, p, b1, b4, e, hp => by
    have hk : T[pre.length]? = some t := by rw [e]; simp
    have hp' : (p = none ∧ pre.length = 0) ∨ (∃ q j, p = some q ∧ pre.length = j + 1 ∧ T[j]? = some q) := by
      rcases hp with ⟨h1, h2⟩ | ⟨q, l, h1, h2⟩
      · exact .inl ⟨h1, by rw [h2]; rfl⟩
      · refine .inr ⟨q, l.length, h1, by rw [h2]; simp, ?_⟩
        rw [e, h2]; simp
    have e1 := look_tile (S := S) (b1 := b1) (b4 := b4) (b5 := b5) (b6 := b6) h (ht t (by rw [e]; simp)) hk hp'
    simp only [List.length_cons, List.range'_succ, List.map_cons, forO_nm, List.set_cons_zero, List.set_cons_succ, e1]
    have ec : chk L.length p (t :: r) = ((okT L.length t && rise p t) && chk L.length (some t) r) := rfl
    by_cases hc : (okT L.length t && rise p t) = true
    · obtain ⟨b1', b4', e2⟩ := look_loop (S := S) (b5 := b5) (b6 := b6) h ht r (pre ++ [t]) (some t) (.fz (.int (pre.length : Int))) (.fz (tupD t)) (by rw [e]; simp) (.inr ⟨t, pre, rfl, rfl⟩)
      refine ⟨b1', b4', ?_⟩
      rw [List.length_append, List.length_singleton] at e2
      rw [ec, if_pos hc, hc, Bool.true_and, loopO_nx, e2]
    · refine ⟨.fz (.int (pre.length : Int)), .fz (tupD t), ?_⟩
      have hc' : (okT L.length t && rise p t) = false := by simpa using hc
      rw [ec, if_neg hc, hc', Bool.false_and]; rfl
theorem sem_look {L : Str} {T : List (List Int)} (h : L.length ≤ 1000000) (hT : T.length ≤ 1000000) (ht : ∀ t ∈ T, t.length ≤ 1000000) : sem_look_system [sysD L T] = if okSys L T then .ok .non else .ex 2 [] := by
  obtain ⟨b1, b4, e⟩ := look_loop (S := .fz (sysD L T)) (b5 := .no) (b6 := .no) h ht T [] none .no .no rfl (.inl ⟨rfl, rfl⟩)
  have hr : eRng (aCons (eCallB lenD (aCons (eVarB 3) aNil)) aNil) [.fz (sysD L T), .no, .fz (.str L), .fz (.lst (tupsD T)), .no, .no, .no] = .ok ((List.range' 0 T.length).map fun (k : Nat) => .int (k : Int)) := by
    rw [← range_0]
    exact rngE1 (by simp only [sSeq_ap, sSet_ap, sSetX_ap, sRet_ap, sRetX_ap, sDrop_ap, sIf_ap, sFor_ap, sNx_ap, sBk_ap, sCt_ap, sRetN_ap, sRaise_ap, e1_ap, e2_ap, e3_ap, eVar_0, eVar_s, eVarB_0, eVarB_s, eVarB_0o, eCon_ap, eCallB_ap, eCall_ap, eCallF_ap, eMeth_ap, aCons_ap, aNil_ap, eIter_ap, eIf_ap, eAnd_ap, eOr_ap, eNot_ap, eLst_ap, eTup_ap, bNot_ap, bAnd_ap, bOr_ap, tst_ap, tru_ap, R.bind_ok, R.of_some, rbd_ok, rbd_ex, obd_nx, obd_rt, obd_ex, obd_bk, obd_ct, scnd_t, scnd_f, cnd_t, cnd_f, cnd_or, cnd_and, bl_t, tru_bl, tru_non, ty_str, ty_lst, List.set_cons_zero, List.set_cons_succ, addI, subI, negI, ltI, leI, gtI, geI, eqI, neI, chain3_bb, chain3_t, chain3_f, fin_nx, fin_rt, fin_ex, sFz_ap, frzs_cons, frzs_nil, frz_s, frz_0z, frz_0o, frz_0n, bX_int, bX_str, bX_bl, bX_non, bX_lst, bX_tup, R.bind_ex, decT, decF, len_tupsD]) (by omega)
  rw [at_look_system]
  unfold m_look_system
  rw [sSeq_ap, sTup2 (a := .str L) (b := .lst (tupsD T)) rfl]
  simp only [sSeq_ap, sSet_ap, sSetX_ap, sRet_ap, sRetX_ap, sDrop_ap, sIf_ap, sFor_ap, sNx_ap, sBk_ap, sCt_ap, sRetN_ap, sRaise_ap, e1_ap, e2_ap, e3_ap, eVar_0, eVar_s, eVarB_0, eVarB_s, eVarB_0o, eCon_ap, eCallB_ap, eCall_ap, eCallF_ap, eMeth_ap, aCons_ap, aNil_ap, eIter_ap, eIf_ap, eAnd_ap, eOr_ap, eNot_ap, eLst_ap, eTup_ap, bNot_ap, bAnd_ap, bOr_ap, tst_ap, tru_ap, R.bind_ok, R.of_some, rbd_ok, rbd_ex, obd_nx, obd_rt, obd_ex, obd_bk, obd_ct, scnd_t, scnd_f, cnd_t, cnd_f, cnd_or, cnd_and, bl_t, tru_bl, tru_non, ty_str, ty_lst, List.set_cons_zero, List.set_cons_succ, addI, subI, negI, ltI, leI, gtI, geI, eqI, neI, chain3_bb, chain3_t, chain3_f, fin_nx, fin_rt, fin_ex, sFz_ap, frzs_cons, frzs_nil, frz_s, frz_0z, frz_0o, frz_0n, bX_int, bX_str, bX_bl, bX_non, bX_lst, bX_tup, R.bind_ex, decT, decF, len_str (lim1 h), look_letters h, all_bls, hr]
  have e16 : decide ((16 : Int) < (L.length : Int)) = !decide (L.length ≤ 16) := by
    by_cases h16 : L.length ≤ 16
    · rw [decide_eq_true h16]; exact decide_eq_false (by omega)
    · rw [decide_eq_false h16]; exact decide_eq_true (by omega)
  have el : (L.cps.toList.all fun c => letB c) = lets L := rfl
  have e : forO (Tgt.nm 1) m_look_system_L3 ((List.range' 0 T.length).map fun (k : Nat) => D.int (k : Int)) [B.fz (sysD L T), B.no, B.fz (D.str L), B.fz (D.lst (tupsD T)), B.no, B.no, B.no] = _ := e
  rw [e16, el]
  unfold okSys
  generalize decide (L.length ≤ 16) = A
  generalize lets L = C
  generalize chk L.length none T = Z at e ⊢
  cases A with
  | false => rfl
  | true =>
    cases C with
    | false => rfl
    | true =>
      simp only [sSeq_ap, sSet_ap, sSetX_ap, sRet_ap, sRetX_ap, sDrop_ap, sIf_ap, sFor_ap, sNx_ap, sBk_ap, sCt_ap, sRetN_ap, sRaise_ap, e1_ap, e2_ap, e3_ap, eVar_0, eVar_s, eVarB_0, eVarB_s, eVarB_0o, eCon_ap, eCallB_ap, eCall_ap, eCallF_ap, eMeth_ap, aCons_ap, aNil_ap, eIter_ap, eIf_ap, eAnd_ap, eOr_ap, eNot_ap, eLst_ap, eTup_ap, bNot_ap, bAnd_ap, bOr_ap, tst_ap, tru_ap, R.bind_ok, R.of_some, rbd_ok, rbd_ex, obd_nx, obd_rt, obd_ex, obd_bk, obd_ct, scnd_t, scnd_f, cnd_t, cnd_f, cnd_or, cnd_and, bl_t, tru_bl, tru_non, ty_str, ty_lst, List.set_cons_zero, List.set_cons_succ, addI, subI, negI, ltI, leI, gtI, geI, eqI, neI, chain3_bb, chain3_t, chain3_f, fin_nx, fin_rt, fin_ex, sFz_ap, frzs_cons, frzs_nil, frz_s, frz_0z, frz_0o, frz_0n, bX_int, bX_str, bX_bl, bX_non, bX_lst, bX_tup, R.bind_ex, decT, decF, Bool.not_true, Bool.or_false, hr, e, Bool.true_and]
      cases Z <;> rfl
theorem flook {L : Str} {T : List (List Int)} (h : L.length ≤ 1000000) (hT : T.length ≤ 1000000) (ht : ∀ t ∈ T, t.length ≤ 1000000) : flatR (sem_look_system [sysD L T]) = if okSys L T then .ok .non else .ex 2 [] := by
  rw [sem_look h hT ht]
  cases okSys L T <;> rfl

end K10

namespace K10
open PySem PySem.Spec PyProof.Rows L2 QY
/-! ### _law_tiles -/
theorem app_tups {i : Nat} {fs : AV} {ρ : List B} {A : List (List Int)} {t : List Int} (h : ρ[i]? = some (.ow (.lst (tupsD A)))) (hf : fs ρ = .ok [tupD t]) (hl : A.length ≤ 1000000) : sMut gApp i fs ρ = .nx (ρ.set i (.ow (.lst (tupsD (A ++ [t]))))) := by
  rw [sMut_at h, hf]
  have : gApp (tupsD A) [tupD t] = some (tupsD (A ++ [t])) := by
    show (if (tupsD A).length < LIM then _ else _) = _
    rw [if_pos (by unfold tupsD; rw [List.length_map]; exact lim2 hl)]
    unfold tupsD; rw [List.map_append]; rfl
  rw [rbd_ok, this, optO_some]
theorem tiles_tile {w : Nat} {rows A : List (List Int)} (Rc : Rect w rows) {y x : Nat} (hy : y ≤ rows.length) (hx : x ≤ w) (hA : A.length ≤ 1000000) {b0 b1 b6 : B} :
    m_law_tiles_L2 [b0, b1, .ow (gridD (frame w rows)), .ow (.lst (tupsD A)), .fz (.int (y : Int)), .fz (.int (x : Int)), b6] = .nx [b0, b1, .ow (gridD (frame w rows)), .ow (.lst (tupsD (A ++ [tl4 (frame w rows) y x]))), .fz (.int (y : Int)), .fz (.int (x : Int)), b6] := by
  obtain ⟨r, h1, h2⟩ := frame_get Rc (y := y) (x := x) (by omega) (by omega)
  obtain ⟨r', h3, h4⟩ := frame_get Rc (y := y) (x := x + 1) (by omega) (by omega)
  obtain ⟨q, h5, h6⟩ := frame_get Rc (y := y + 1) (x := x) (by omega) (by omega)
  obtain ⟨q', h7, h8⟩ := frame_get Rc (y := y + 1) (x := x + 1) (by omega) (by omega)
  cases h1.symm.trans h3
  cases h5.symm.trans h7
  have ex : (x : Int) + 1 = ((x + 1 : Nat) : Int) := by omega
  have ey : (y : Int) + 1 = ((y + 1 : Nat) : Int) := by omega
  unfold m_law_tiles_L2
  rw [sSeq_ap, app_tups (A := A) (t := tl4 (frame w rows) y x) rfl ?_ hA]
  · rfl
  · simp only [sSeq_ap, sSet_ap, sSetX_ap, sRet_ap, sRetX_ap, sDrop_ap, sIf_ap, sFor_ap, sNx_ap, sBk_ap, sCt_ap, sRetN_ap, sRaise_ap, e1_ap, e2_ap, e3_ap, eVar_0, eVar_s, eVarB_0, eVarB_s, eVarB_0o, eCon_ap, eCallB_ap, eCall_ap, eCallF_ap, eMeth_ap, aCons_ap, aNil_ap, eIter_ap, eIf_ap, eAnd_ap, eOr_ap, eNot_ap, eLst_ap, eTup_ap, bNot_ap, bAnd_ap, bOr_ap, tst_ap, tru_ap, R.bind_ok, R.of_some, rbd_ok, rbd_ex, obd_nx, obd_rt, obd_ex, obd_bk, obd_ct, scnd_t, scnd_f, cnd_t, cnd_f, cnd_or, cnd_and, bl_t, tru_bl, tru_non, ty_str, ty_lst, List.set_cons_zero, List.set_cons_succ, addI, subI, negI, ltI, leI, gtI, geI, eqI, neI, chain3_bb, chain3_t, chain3_f, fin_nx, fin_rt, fin_ex, sFz_ap, frzs_cons, frzs_nil, frz_s, frz_0z, frz_0o, frz_0n, bX_int, bX_str, bX_bl, bX_non, bX_lst, bX_tup, R.bind_ex, decT, decF, ex, ey, ix_grid h1, ix_grid h3, ix_grid h5, ix_grid h7, ix_row h2, ix_row h4, ix_row h6, ix_row h8, List.length_cons, List.length_nil]
    rw [if_pos (by decide)]
    rfl
theorem tiles_x {w : Nat} {rows : List (List Int)} (Rc : Rect w rows) {y : Nat} (hy : y ≤ rows.length) {b0 b1 b6 : B} : ∀ (xs : List Nat) (A : List (List Int)) (b5 : B), (∀ x ∈ xs, x ≤ w) → A.length + xs.length ≤ 1000000 → ∃ b5',
    forO (.nm 5) m_law_tiles_L2 (xs.map fun (k : Nat) => .int (k : Int)) [b0, b1, .ow (gridD (frame w rows)), .ow (.lst (tupsD A)), .fz (.int (y : Int)), b5, b6] = .nx [b0, b1, .ow (gridD (frame w rows)), .ow (.lst (tupsD (A ++ xs.map fun x => tl4 (frame w rows) y x))), .fz (.int (y : Int)), b5', b6]
  | [], A, b5, _, _ => ⟨b5, by rw [List.map_nil, List.map_nil, List.append_nil, forO_nil]⟩
  | x :: xs, A, b5, h, hl => by
    rw [List.length_cons] at hl
    obtain ⟨b5', e⟩ := tiles_x Rc hy (b0 := b0) (b1 := b1) (b6 := b6) xs (A ++ [tl4 (frame w rows) y x]) (.fz (.int (x : Int))) (fun q hq => h q (List.mem_cons_of_mem _ hq)) (by rw [List.length_append, List.length_singleton]; omega)
    refine ⟨b5', ?_⟩
    rw [List.map_cons, forO_nm]
    simp only [List.set_cons_zero, List.set_cons_succ]
    rw [tiles_tile Rc hy (h x (by simp)) (by omega), loopO_nx, e, List.append_assoc]; rfl
theorem tiles_y {w : Nat} {rows : List (List Int)} (Rc : Rect w rows) (hw : w ≤ 1000) {b0 b6 : B} : ∀ (ys : List Nat) (A : List (List Int)) (b4 b5 : B), (∀ y ∈ ys, y ≤ rows.length) → A.length + ys.length * (w + 1) ≤ 1000000 → ∃ b4' b5',
    forO (.nm 4) m_law_tiles_L3 (ys.map fun (k : Nat) => .int (k : Int)) [b0, .fz (.int ((w : Int) + 2)), .ow (gridD (frame w rows)), .ow (.lst (tupsD A)), b4, b5, b6] = .nx [b0, .fz (.int ((w : Int) + 2)), .ow (gridD (frame w rows)), .ow (.lst (tupsD (A ++ ys.flatMap fun y => (List.range (w + 1)).map fun x => tl4 (frame w rows) y x))), b4', b5', b6]
  | [], A, b4, b5, _, _ => ⟨b4, b5, by rw [List.map_nil, List.flatMap_nil, List.append_nil, forO_nil]⟩
  | y :: ys, A, b4, b5, h, hl => by
    have el : (ys.length + 1) * (w + 1) = ys.length * (w + 1) + (w + 1) := by rw [Nat.add_mul, Nat.one_mul]
    rw [List.length_cons, el] at hl
    obtain ⟨b5', e⟩ := tiles_x Rc (h y (by simp)) (b0 := b0) (b1 := .fz (.int ((w : Int) + 2))) (b6 := b6) (List.range (w + 1)) A b5 (fun x hx => by have := List.mem_range.mp hx; omega) (by rw [List.length_range]; omega)
    obtain ⟨b4'', b5'', e22⟩ := tiles_y Rc hw (b0 := b0) (b6 := b6) ys (A ++ (List.range (w + 1)).map fun x => tl4 (frame w rows) y x) (.fz (.int (y : Int))) b5' (fun q hq => h q (List.mem_cons_of_mem _ hq)) (by rw [List.length_append, List.length_map, List.length_range]; omega)
    refine ⟨b4'', b5'', ?_⟩
    rw [List.map_cons, forO_nm]
    simp only [List.set_cons_zero, List.set_cons_succ]
    have hr : eRng (aCons (e2 subD (eVarB 1) (eCon (.int (1)))) aNil) [b0, .fz (.int ((w : Int) + 2)), .ow (gridD (frame w rows)), .ow (.lst (tupsD A)), .fz (.int (y : Int)), b5, b6] = .ok ((List.range (w + 1)).map fun (i : Nat) => .int (i : Int)) := by
      have e : (w : Int) + 2 - 1 = ((w + 1 : Nat) : Int) := by omega
      refine rngE1 ?_ (by omega)
      simp only [sSeq_ap, sSet_ap, sSetX_ap, sRet_ap, sRetX_ap, sDrop_ap, sIf_ap, sFor_ap, sNx_ap, sBk_ap, sCt_ap, sRetN_ap, sRaise_ap, e1_ap, e2_ap, e3_ap, eVar_0, eVar_s, eVarB_0, eVarB_s, eVarB_0o, eCon_ap, eCallB_ap, eCall_ap, eCallF_ap, eMeth_ap, aCons_ap, aNil_ap, eIter_ap, eIf_ap, eAnd_ap, eOr_ap, eNot_ap, eLst_ap, eTup_ap, bNot_ap, bAnd_ap, bOr_ap, tst_ap, tru_ap, R.bind_ok, R.of_some, rbd_ok, rbd_ex, obd_nx, obd_rt, obd_ex, obd_bk, obd_ct, scnd_t, scnd_f, cnd_t, cnd_f, cnd_or, cnd_and, bl_t, tru_bl, tru_non, ty_str, ty_lst, List.set_cons_zero, List.set_cons_succ, addI, subI, negI, ltI, leI, gtI, geI, eqI, neI, chain3_bb, chain3_t, chain3_f, fin_nx, fin_rt, fin_ex, sFz_ap, frzs_cons, frzs_nil, frz_s, frz_0z, frz_0o, frz_0n, bX_int, bX_str, bX_bl, bX_non, bX_lst, bX_tup, R.bind_ex, decT, decF, e]
    have e3 : m_law_tiles_L3 [b0, .fz (.int ((w : Int) + 2)), .ow (gridD (frame w rows)), .ow (.lst (tupsD A)), .fz (.int (y : Int)), b5, b6] = .nx [b0, .fz (.int ((w : Int) + 2)), .ow (gridD (frame w rows)), .ow (.lst (tupsD (A ++ (List.range (w + 1)).map fun x => tl4 (frame w rows) y x))), .fz (.int (y : Int)), b5', b6] := by
      unfold m_law_tiles_L3
      rw [sSeq_ap, sFor_ap, hr, rbd_ok, e, obd_nx, sNx_ap]
    rw [e3, loopO_nx, e22, List.append_assoc, List.flatMap_cons]
theorem sem_tiles {w : Nat} {rows : List (List Int)} (Rc : Rect w rows) (hn : rows ≠ []) (hw : w ≤ 900) (hr : rows.length ≤ 900) : sem_law_tiles [gridD rows] = .ok (.lst (tupsD (tilesP w rows))) := by
  obtain ⟨r0, rest, rfl⟩ : ∃ r0 rest, rows = r0 :: rest := by
    cases rows with
    | nil => exact absurd rfl hn
    | cons a b => exact ⟨a, b, rfl⟩
  have h0 : r0.length = w := Rc.h r0 (by simp)
  have ix : ixD (gridD (r0 :: rest)) (.int 0) = some (rowD' r0) := ix_grid (y := 0) rfl
  have ln : lenD [rowD' r0] = some (.int (w : Int)) := by unfold rowD'; rw [len_lst, List.length_map, h0]
  have m1 : mulD (.lst [.int (-1)]) (.int ((w : Int) + 2)) = some (rowD' (List.replicate (w + 2) (-1))) := by
    have z := mul_lst (a := [D.int (-1)]) (n := w + 2) (by omega) (by rw [List.length_singleton, Nat.one_mul]; exact lim1 (by omega))
    have e2 : (w : Int) + 2 = ((w + 2 : Nat) : Int) := by omega
    rw [e2, z, rep_lst]
    unfold rowD'; rw [List.map_replicate]
  have lc : ∀ (b1 b2 b3 b4 b5 : B), eLc (eIter (eVar 0)) (.nm 6) (fun _ => .ok true) m_law_tiles_C1 [6] [.fz (gridD (r0 :: rest)), b1, b2, b3, b4, b5, .no] = .ok (.lst (((r0 :: rest).map fun r => [-1] ++ r ++ [-1]).map rowD')) := fun b1 b2 b3 b4 b5 => by
    have e := eLc_map (i := 6) (ρ := [.fz (gridD (r0 :: rest)), b1, b2, b3, b4, b5, .no]) (it := eIter (eVar 0)) (elt := m_law_tiles_C1) (vs := [6]) (ds := (r0 :: rest).map rowD')
      (g := padD) (by simp only [sSeq_ap, sSet_ap, sSetX_ap, sRet_ap, sRetX_ap, sDrop_ap, sIf_ap, sFor_ap, sNx_ap, sBk_ap, sCt_ap, sRetN_ap, sRaise_ap, e1_ap, e2_ap, e3_ap, eVar_0, eVar_s, eVarB_0, eVarB_s, eVarB_0o, eCon_ap, eCallB_ap, eCall_ap, eCallF_ap, eMeth_ap, aCons_ap, aNil_ap, eIter_ap, eIf_ap, eAnd_ap, eOr_ap, eNot_ap, eLst_ap, eTup_ap, bNot_ap, bAnd_ap, bOr_ap, tst_ap, tru_ap, R.bind_ok, R.of_some, rbd_ok, rbd_ex, obd_nx, obd_rt, obd_ex, obd_bk, obd_ct, scnd_t, scnd_f, cnd_t, cnd_f, cnd_or, cnd_and, bl_t, tru_bl, tru_non, ty_str, ty_lst, List.set_cons_zero, List.set_cons_succ, addI, subI, negI, ltI, leI, gtI, geI, eqI, neI, chain3_bb, chain3_t, chain3_f, fin_nx, fin_rt, fin_ex, sFz_ap, frzs_cons, frzs_nil, frz_s, frz_0z, frz_0o, frz_0n, bX_int, bX_str, bX_bl, bX_non, bX_lst, bX_tup, R.bind_ex, decT, decF]; rfl) (fun d hd => by
        obtain ⟨r, hr, rfl⟩ := List.mem_map.mp hd
        have hl := Rc.h r hr
        show m_law_tiles_C1 [.fz (gridD (r0 :: rest)), b1, b2, b3, b4, b5, .fz (.lst (r.map .int))] = .ok (.lst ([.int (-1)] ++ r.map .int ++ [.int (-1)]))
        have a1 : addD (.lst [.int (-1)]) (.lst (r.map .int)) = some (.lst ([.int (-1)] ++ r.map .int)) := if_pos (by simp; exact lim1 (by omega))
        have a2 : addD (.lst ([.int (-1)] ++ r.map .int)) (.lst [.int (-1)]) = some (.lst ([.int (-1)] ++ r.map .int ++ [.int (-1)])) := if_pos (by simp; exact lim1 (by omega))
        have l1 : listD [.lst (r.map .int)] = some (.lst (r.map .int)) := rfl
        simp only [sSeq_ap, sSet_ap, sSetX_ap, sRet_ap, sRetX_ap, sDrop_ap, sIf_ap, sFor_ap, sNx_ap, sBk_ap, sCt_ap, sRetN_ap, sRaise_ap, e1_ap, e2_ap, e3_ap, eVar_0, eVar_s, eVarB_0, eVarB_s, eVarB_0o, eCon_ap, eCallB_ap, eCall_ap, eCallF_ap, eMeth_ap, aCons_ap, aNil_ap, eIter_ap, eIf_ap, eAnd_ap, eOr_ap, eNot_ap, eLst_ap, eTup_ap, bNot_ap, bAnd_ap, bOr_ap, tst_ap, tru_ap, R.bind_ok, R.of_some, rbd_ok, rbd_ex, obd_nx, obd_rt, obd_ex, obd_bk, obd_ct, scnd_t, scnd_f, cnd_t, cnd_f, cnd_or, cnd_and, bl_t, tru_bl, tru_non, ty_str, ty_lst, List.set_cons_zero, List.set_cons_succ, addI, subI, negI, ltI, leI, gtI, geI, eqI, neI, chain3_bb, chain3_t, chain3_f, fin_nx, fin_rt, fin_ex, sFz_ap, frzs_cons, frzs_nil, frz_s, frz_0z, frz_0o, frz_0n, bX_int, bX_str, bX_bl, bX_non, bX_lst, bX_tup, R.bind_ex, decT, decF, m_law_tiles_C1, List.length_cons, List.length_nil, l1, if_pos (show 0 + 1 ≤ LIM by decide), a1, a2]) (by rw [List.length_map]; exact lim2 (by omega))
    rw [e, List.map_map, List.map_map]
    exact congrArg R.ok (congrArg D.lst (List.map_congr_left fun r _ => pad_row r))
  have lnr : ((r0 :: rest).map rowD').length = (r0 :: rest).length := List.length_map ..
  have a1 : addD (.lst [rowD' (List.replicate (w + 2) (-1))]) (.lst (((r0 :: rest).map fun r => [-1] ++ r ++ [-1]).map rowD')) = some (.lst ([rowD' (List.replicate (w + 2) (-1))] ++ ((r0 :: rest).map fun r => [-1] ++ r ++ [-1]).map rowD')) := if_pos (by simp only [List.length_map, List.length_singleton]; exact lim1 (by omega))
  have a2 : addD (.lst ([rowD' (List.replicate (w + 2) (-1))] ++ ((r0 :: rest).map fun r => [-1] ++ r ++ [-1]).map rowD')) (.lst [rowD' (List.replicate (w + 2) (-1))]) = some (gridD (frame w (r0 :: rest))) := by
    have : addD (.lst ([rowD' (List.replicate (w + 2) (-1))] ++ ((r0 :: rest).map fun r => [-1] ++ r ++ [-1]).map rowD')) (.lst [rowD' (List.replicate (w + 2) (-1))]) = some (.lst ([rowD' (List.replicate (w + 2) (-1))] ++ ((r0 :: rest).map fun r => [-1] ++ r ++ [-1]).map rowD' ++ [rowD' (List.replicate (w + 2) (-1))])) := if_pos (by simp only [List.length_append, List.length_map, List.length_singleton]; exact lim1 (by omega))
    rw [this]
    unfold gridD frame
    rw [List.map_append, List.map_append]; rfl
  obtain ⟨b4, b5, e⟩ := tiles_y Rc (by omega) (b0 := .fz (gridD (r0 :: rest))) (b6 := .no) (List.range ((r0 :: rest).length + 1)) [] .no .no (fun y hy => by have := List.mem_range.mp hy; omega) (by
    rw [List.length_range, List.length_nil, Nat.zero_add]
    exact Nat.le_trans (Nat.mul_le_mul (show (r0 :: rest).length + 1 ≤ 901 by omega) (show w + 1 ≤ 901 by omega)) (by decide))
  have hl : lenD [gridD (frame w (r0 :: rest))] = some (.int (((r0 :: rest).length + 2 : Nat) : Int)) := by unfold gridD; rw [len_lst, List.length_map, frame_len]
  have hr : ∀ b4 b5 b6 : B, eRng (aCons (e2 subD (eCallB lenD (aCons (eVarB 2) aNil)) (eCon (.int (1)))) aNil) [.fz (gridD (r0 :: rest)), .fz (.int ((w : Int) + 2)), .ow (gridD (frame w (r0 :: rest))), .ow (.lst []), b4, b5, b6] = .ok ((List.range ((r0 :: rest).length + 1)).map fun (i : Nat) => .int (i : Int)) := fun b4 b5 b6 => by
    have e : (((r0 :: rest).length + 2 : Nat) : Int) - 1 = (((r0 :: rest).length + 1 : Nat) : Int) := by omega
    refine rngE1 ?_ (by omega)
    simp only [sSeq_ap, sSet_ap, sSetX_ap, sRet_ap, sRetX_ap, sDrop_ap, sIf_ap, sFor_ap, sNx_ap, sBk_ap, sCt_ap, sRetN_ap, sRaise_ap, e1_ap, e2_ap, e3_ap, eVar_0, eVar_s, eVarB_0, eVarB_s, eVarB_0o, eCon_ap, eCallB_ap, eCall_ap, eCallF_ap, eMeth_ap, aCons_ap, aNil_ap, eIter_ap, eIf_ap, eAnd_ap, eOr_ap, eNot_ap, eLst_ap, eTup_ap, bNot_ap, bAnd_ap, bOr_ap, tst_ap, tru_ap, R.bind_ok, R.of_some, rbd_ok, rbd_ex, obd_nx, obd_rt, obd_ex, obd_bk, obd_ct, scnd_t, scnd_f, cnd_t, cnd_f, cnd_or, cnd_and, bl_t, tru_bl, tru_non, ty_str, ty_lst, List.set_cons_zero, List.set_cons_succ, addI, subI, negI, ltI, leI, gtI, geI, eqI, neI, chain3_bb, chain3_t, chain3_f, fin_nx, fin_rt, fin_ex, sFz_ap, frzs_cons, frzs_nil, frz_s, frz_0z, frz_0o, frz_0n, bX_int, bX_str, bX_bl, bX_non, bX_lst, bX_tup, R.bind_ex, decT, decF, hl, e]
  have bg : bX (gridD (frame w (r0 :: rest))) = .ow (gridD (frame w (r0 :: rest))) := rfl
  rw [at_law_tiles]
  unfold m_law_tiles
  simp only [sSeq_ap, sSet_ap, sSetX_ap, sRet_ap, sRetX_ap, sDrop_ap, sIf_ap, sFor_ap, sNx_ap, sBk_ap, sCt_ap, sRetN_ap, sRaise_ap, e1_ap, e2_ap, e3_ap, eVar_0, eVar_s, eVarB_0, eVarB_s, eVarB_0o, eCon_ap, eCallB_ap, eCall_ap, eCallF_ap, eMeth_ap, aCons_ap, aNil_ap, eIter_ap, eIf_ap, eAnd_ap, eOr_ap, eNot_ap, eLst_ap, eTup_ap, bNot_ap, bAnd_ap, bOr_ap, tst_ap, tru_ap, R.bind_ok, R.of_some, rbd_ok, rbd_ex, obd_nx, obd_rt, obd_ex, obd_bk, obd_ct, scnd_t, scnd_f, cnd_t, cnd_f, cnd_or, cnd_and, bl_t, tru_bl, tru_non, ty_str, ty_lst, List.set_cons_zero, List.set_cons_succ, addI, subI, negI, ltI, leI, gtI, geI, eqI, neI, chain3_bb, chain3_t, chain3_f, fin_nx, fin_rt, fin_ex, sFz_ap, frzs_cons, frzs_nil, frz_s, frz_0z, frz_0o, frz_0n, bX_int, bX_str, bX_bl, bX_non, bX_lst, bX_tup, R.bind_ex, decT, decF, ix, ln, List.length_cons, List.length_nil, if_pos (show 0 + 1 ≤ LIM by decide), m1, lc, a1, a2, bg, if_pos (Nat.zero_le LIM)]
  rw [hr, rbd_ok]
  have e : forO (Tgt.nm 4) m_law_tiles_L3 ((List.range ((r0 :: rest).length + 1)).map fun (k : Nat) => D.int (k : Int)) [.fz (gridD (r0 :: rest)), .fz (.int ((w : Int) + 2)), .ow (gridD (frame w (r0 :: rest))), .ow (.lst []), .no, .no, .no] = _ := e
  rw [e]
  rfl

end K10

namespace K10
open PySem PySem.Spec PyProof.Rows L2 QY
/-! ### _law_system -/
theorem mixR (ns : List Int) (k : Int) {m : Nat} (hm : 0 < m) : ∃ n : Nat, 1 + mixZ ns k % (m : Int) = (n : Int) ∧ 1 ≤ n ∧ n ≤ m := by
  have h0 := Int.emod_nonneg (mixZ ns k) (show (m : Int) ≠ 0 by omega)
  have h1 := Int.emod_lt_of_pos (mixZ ns k) (show (0 : Int) < m by omega)
  exact ⟨(1 + mixZ ns k % (m : Int)).toNat, by omega, by omega, by omega⟩
theorem modN (z : Int) {m : Nat} (hm : 0 < m) : ∃ n : Nat, z % (m : Int) = (n : Int) ∧ n < m := by
  have h0 := Int.emod_nonneg z (show (m : Int) ≠ 0 by omega)
  have h1 := Int.emod_lt_of_pos z (show (0 : Int) < m by omega)
  exact ⟨(z % (m : Int)).toNat, by omega, by omega⟩
def chAB (z : Int) : Str := if z = 0 then "a" else "b"
theorem ix_ab (z : Int) : ixD (.str "ab") (.int (z % 2)) = some (.str (chAB (z % 2))) := by
  have : z % 2 = 0 ∨ z % 2 = 1 := by omega
  rcases this with h | h <;> rw [h] <;> rfl
theorem chAB_in (z : Int) : (chAB z).length = 1 ∧ ab (chAB z) = true := by
  unfold chAB; split <;> decide
theorem join_ones (l : List Str) (h : ∀ a ∈ l, a.length = 1 ∧ ab a = true) : (Txt.join "" l).length = l.length ∧ ab (Txt.join "" l) = true := by
  rw [TL.join_eq]
  constructor
  · cases l with
    | nil => rfl
    | cons a r =>
      rw [len_join_cons]
      have : ("" : Str).length = 0 := by decide
      rw [this, Nat.mul_zero, Nat.add_zero]
      have : ∀ l : List Str, (∀ a ∈ l, a.length = 1 ∧ ab a = true) → (l.map (·.length)).sum = l.length := fun l => by
        induction l with
        | nil => intro _; rfl
        | cons a l ih => intro h; rw [List.map_cons, List.sum_cons, (h a (by simp)).1, ih fun b hb => h b (List.mem_cons_of_mem _ hb), List.length_cons, Nat.add_comm]
      exact this _ h
  · unfold ab
    rw [List.all_eq_true]
    intro c hc
    rcases join_cps hc with hc | ⟨p, hp, hc⟩
    · exfalso; revert hc; simp [show ("" : Str).cps.toList = [] by decide]
    · exact (List.all_eq_true.mp (h p hp).2) c hc
theorem join_some {ys : List Str} (h : ∀ a ∈ ys, a.length = 1 ∧ ab a = true) (hl : ys.length ≤ 1000000) : joinD (.str "") [.lst (ys.map .str)] = some (.str (Txt.join "" ys)) := by
  have e : (ys.map (·.length)).sum = ys.length := by
    have : ∀ l : List Str, (∀ a ∈ l, a.length = 1 ∧ ab a = true) → (l.map (·.length)).sum = l.length := fun l => by
      induction l with
      | nil => intro _; rfl
      | cons a l ih => intro h; rw [List.map_cons, List.sum_cons, (h a (by simp)).1, ih fun b hb => h b (List.mem_cons_of_mem _ hb), List.length_cons, Nat.add_comm]
    exact this _ h
  unfold joinD
  simp only [asStrs_map]
  rw [if_pos]
  have : ("" : Str).length = 0 := by decide
  rw [this, Nat.mul_zero, Nat.add_zero, e]
  exact lim1 hl
theorem sys_row {ns : List Int} {k j y : Int} {n wN : Nat} (hn : 1 ≤ n) (hn2 : n ≤ 1000) (hw : wN ≤ 3) {b2 b4 b5 b7 b9 b11 b12 b13 : B} : ∃ r : List Int, r.length = wN ∧ (∀ x ∈ r, inMark n x = true) ∧
    eLc (eRng (aCons (eVar 8) aNil)) (.nm 12) (fun _ => .ok true) m_law_system_C2 [12] [.fz (.scr ns), .fz (.int k), b2, .fz (.int (n : Int)), b4, b5, .fz (.int j), b7, .fz (.int (wN : Int)), b9, .fz (.int y), b11, b12, b13] = .ok (rowD' r) := by
  have hr : eRng (aCons (eVar 8) aNil) [.fz (.scr ns), .fz (.int k), b2, .fz (.int (n : Int)), b4, b5, .fz (.int j), b7, .fz (.int (wN : Int)), b9, .fz (.int y), b11, b12, b13] = .ok ((List.range wN).map fun (i : Nat) => .int (i : Int)) := rngE1 (by simp only [sSeq_ap, sSet_ap, sSetX_ap, sRet_ap, sRetX_ap, sDrop_ap, sIf_ap, sFor_ap, sNx_ap, sBk_ap, sCt_ap, sRetN_ap, sRaise_ap, e1_ap, e2_ap, e3_ap, eVar_0, eVar_s, eVarB_0, eVarB_s, eVarB_0o, eCon_ap, eCallB_ap, eCall_ap, eCallF_ap, eMeth_ap, aCons_ap, aNil_ap, eIter_ap, eIf_ap, eAnd_ap, eOr_ap, eNot_ap, eLst_ap, eTup_ap, bNot_ap, bAnd_ap, bOr_ap, tst_ap, tru_ap, R.bind_ok, R.of_some, rbd_ok, rbd_ex, obd_nx, obd_rt, obd_ex, obd_bk, obd_ct, scnd_t, scnd_f, cnd_t, cnd_f, cnd_or, cnd_and, bl_t, tru_bl, tru_non, ty_str, ty_lst, List.set_cons_zero, List.set_cons_succ, addI, subI, negI, ltI, leI, gtI, geI, eqI, neI, chain3_bb, chain3_t, chain3_f, fin_nx, fin_rt, fin_ex, sFz_ap, frzs_cons, frzs_nil, frz_s, frz_0z, frz_0o, frz_0n, bX_int, bX_str, bX_bl, bX_non, bX_lst, bX_tup, R.bind_ex, decT, decF]) (by omega)
  have e := eLc_map (i := 12) (elt := m_law_system_C2) (vs := [12]) (g := fun d => match d with | .int x => .int (mixZ ns (k + 9 + 30 * j + 3 * y + x) / 8 % (n : Int)) | _ => .non) hr (fun d hd => by
    obtain ⟨x, hx, rfl⟩ := List.mem_map.mp hd
    simp only [sSeq_ap, sSet_ap, sSetX_ap, sRet_ap, sRetX_ap, sDrop_ap, sIf_ap, sFor_ap, sNx_ap, sBk_ap, sCt_ap, sRetN_ap, sRaise_ap, e1_ap, e2_ap, e3_ap, eVar_0, eVar_s, eVarB_0, eVarB_s, eVarB_0o, eCon_ap, eCallB_ap, eCall_ap, eCallF_ap, eMeth_ap, aCons_ap, aNil_ap, eIter_ap, eIf_ap, eAnd_ap, eOr_ap, eNot_ap, eLst_ap, eTup_ap, bNot_ap, bAnd_ap, bOr_ap, tst_ap, tru_ap, R.bind_ok, R.of_some, rbd_ok, rbd_ex, obd_nx, obd_rt, obd_ex, obd_bk, obd_ct, scnd_t, scnd_f, cnd_t, cnd_f, cnd_or, cnd_and, bl_t, tru_bl, tru_non, ty_str, ty_lst, List.set_cons_zero, List.set_cons_succ, addI, subI, negI, ltI, leI, gtI, geI, eqI, neI, chain3_bb, chain3_t, chain3_f, fin_nx, fin_rt, fin_ex, sFz_ap, frzs_cons, frzs_nil, frz_s, frz_0z, frz_0o, frz_0n, bX_int, bX_str, bX_bl, bX_non, bX_lst, bX_tup, R.bind_ex, decT, decF, m_law_system_C2, wipeB, mulI' (show -(2 ^ 64) < (30 : Int) ∧ (30 : Int) < 2 ^ 64 by decide), mulI' (show -(2 ^ 64) < (3 : Int) ∧ (3 : Int) < 2 ^ 64 by decide), List.length_cons, List.length_nil, if_pos, fmix, fdivI (show (0 : Int) < 8 ∧ (8 : Int) < 1073741824 by decide), modI (show (0 : Int) < (n : Int) by omega)]) (by rw [List.length_map, List.length_range]; exact lim2 (by omega))
  refine ⟨(List.range wN).map fun (x : Nat) => mixZ ns (k + 9 + 30 * j + 3 * y + (x : Int)) / 8 % (n : Int), by rw [List.length_map, List.length_range], fun x hx => ?_, ?_⟩
  · obtain ⟨i, hi, rfl⟩ := List.mem_map.mp hx
    have h0 := Int.emod_nonneg (mixZ ns (k + 9 + 30 * j + 3 * y + (i : Int)) / 8) (show (n : Int) ≠ 0 by omega)
    have h1 := Int.emod_lt_of_pos (mixZ ns (k + 9 + 30 * j + 3 * y + (i : Int)) / 8) (show (0 : Int) < n by omega)
    simp only [inMark, Bool.and_eq_true, decide_eq_true_eq]
    omega
  · rw [e, List.map_map]
    unfold rowD'
    rw [List.map_map]; rfl
theorem sys_rows {ns : List Int} {k j : Int} {n wN : Nat} (hn : 1 ≤ n) (hn2 : n ≤ 1000) (hw : wN ≤ 3) {b2 b4 b5 b7 b11 b13 : B} : ∀ (ys : List Nat) (G : List (List Int)) (b10 b12 : B), Rect wN G → (∀ r ∈ G, ∀ x ∈ r, inMark n x = true) → G.length + ys.length ≤ 1000 → ∃ G' b10' b12', Rect wN G' ∧ (∀ r ∈ G', ∀ x ∈ r, inMark n x = true) ∧ G'.length = G.length + ys.length ∧
    forO (.nm 10) m_law_system_L3 (ys.map fun (y : Nat) => .int (y : Int)) [.fz (.scr ns), .fz (.int k), b2, .fz (.int (n : Int)), b4, b5, .fz (.int j), b7, .fz (.int (wN : Int)), .ow (gridD G), b10, b11, b12, b13] = .nx [.fz (.scr ns), .fz (.int k), b2, .fz (.int (n : Int)), b4, b5, .fz (.int j), b7, .fz (.int (wN : Int)), .ow (gridD G'), b10', b11, b12', b13]
  | [], G, b10, b12, R1, R2, _ => ⟨G, b10, b12, R1, R2, rfl, rfl⟩
  | y :: ys, G, b10, b12, R1, R2, hl => by
    rw [List.length_cons] at hl
    obtain ⟨r, h1, h2, e⟩ := sys_row (ns := ns) (k := k) (j := j) (y := (y : Int)) hn hn2 hw (b2 := b2) (b4 := b4) (b5 := b5) (b7 := b7) (b9 := .ow (gridD G)) (b11 := b11) (b12 := b12) (b13 := b13)
    obtain ⟨G', b10', b12', R1', R2', hl', e'⟩ := sys_rows hn hn2 hw (ns := ns) (k := k) (j := j) (b2 := b2) (b4 := b4) (b5 := b5) (b7 := b7) (b11 := b11) (b13 := b13) ys (G ++ [r]) (.fz (.int (y : Int))) b12
      ⟨fun q hq => by rcases List.mem_append.mp hq with hq | hq; exact R1.h q hq; rw [List.mem_singleton.mp hq]; exact h1⟩
      (fun q hq => by rcases List.mem_append.mp hq with hq | hq; exact R2 q hq; rw [List.mem_singleton.mp hq]; exact h2) (by rw [List.length_append, List.length_singleton]; omega)
    refine ⟨G', b10', b12', R1', R2', by rw [hl', List.length_append, List.length_singleton, List.length_cons]; omega, ?_⟩
    rw [List.map_cons, forO_nm]
    simp only [List.set_cons_zero, List.set_cons_succ]
    have e3 : m_law_system_L3 [.fz (.scr ns), .fz (.int k), b2, .fz (.int (n : Int)), b4, b5, .fz (.int j), b7, .fz (.int (wN : Int)), .ow (gridD G), .fz (.int (y : Int)), b11, b12, b13] = .nx [.fz (.scr ns), .fz (.int k), b2, .fz (.int (n : Int)), b4, b5, .fz (.int j), b7, .fz (.int (wN : Int)), .ow (gridD (G ++ [r])), .fz (.int (y : Int)), b11, b12, b13] := by
      have hg : gApp (G.map rowD') [rowD' r] = some ((G ++ [r]).map rowD') := by
        show (if (G.map rowD').length < LIM then _ else _) = _
        rw [if_pos (by rw [List.length_map]; exact lim2 (by omega)), List.map_append]; rfl
      unfold m_law_system_L3
      simp only [sSeq_ap, sFz_ap, frzs_cons, frzs_nil, frz_s, frz_0z]
      rw [sMut_at (xs := G.map rowD') rfl, aCons_ap, e]
      simp only [R.bind_ok, aNil_ap, rbd_ok, hg, optO_some, obd_nx, sNx_ap]
      rfl
    rw [e3, loopO_nx, e']
theorem sys_pic {ns : List Int} {k : Int} {j n : Nat} (hn : 1 ≤ n) (hn2 : n ≤ 1000) {b2 b4 b11 b13 : B} {A : List (List Int)} (hA : A.length ≤ 1000) (hA2 : ∀ t ∈ A, okT n t = true) {b7 b8 b9 b10 b12 : B} : ∃ A' b7' b8' b9' b10' b12', A'.length ≤ A.length + 16 ∧ (∀ t ∈ A', okT n t = true) ∧
    m_law_system_L4 [.fz (.scr ns), .fz (.int k), b2, .fz (.int (n : Int)), b4, .ow (.lst (tupsD A)), .fz (.int (j : Int)), b7, b8, b9, b10, b11, b12, b13] = .nx [.fz (.scr ns), .fz (.int k), b2, .fz (.int (n : Int)), b4, .ow (.lst (tupsD A')), .fz (.int (j : Int)), b7', b8', b9', b10', b11, b12', b13] := by
  obtain ⟨hN, eh, h1, h2⟩ := mixR ns (k + 7 + 30 * (j : Int)) (m := 3) (by omega)
  obtain ⟨wN, ew, w1, w2⟩ := mixR ns (k + 8 + 30 * (j : Int)) (m := 3) (by omega)
  have eh : 1 + mixZ ns (k + 7 + 30 * (j : Int)) % 3 = (hN : Int) := eh
  have ew : 1 + mixZ ns (k + 8 + 30 * (j : Int)) % 3 = (wN : Int) := ew
  obtain ⟨G, b10', b12', R1, R2, hl, e⟩ := sys_rows (ns := ns) (k := k) (j := (j : Int)) hn hn2 w2 (b2 := b2) (b4 := b4) (b5 := .ow (.lst (tupsD A))) (b7 := .fz (.int (hN : Int))) (b11 := b11) (b13 := b13) (List.range hN) [] b10 b12 ⟨fun q hq => by cases hq⟩ (fun q hq => by cases hq) (by rw [List.length_range, List.length_nil]; omega)
  rw [List.length_range, List.length_nil, Nat.zero_add] at hl
  have ht := sem_tiles R1 (fun z => by rw [z] at hl; simp at hl; omega) (by omega) (by omega)
  have tl := tilesP_len wN G
  have tb : (G.length + 1) * (wN + 1) ≤ 16 := Nat.mul_le_mul (show G.length + 1 ≤ 4 by omega) (show wN + 1 ≤ 4 by omega)
  refine ⟨A ++ tilesP wN G, .fz (.int (hN : Int)), .fz (.int (wN : Int)), .fz (gridD G), b10', b12', by rw [List.length_append]; omega, fun t ht => ?_, ?_⟩
  · rcases List.mem_append.mp ht with ht | ht
    · exact hA2 t ht
    · exact tilesP_ok R1 R2 t ht
  · have hadd : addD (.lst (tupsD A)) (.lst (tupsD (tilesP wN G))) = some (.lst (tupsD (A ++ tilesP wN G))) := by
      have : addD (.lst (tupsD A)) (.lst (tupsD (tilesP wN G))) = some (.lst (tupsD A ++ tupsD (tilesP wN G))) := if_pos (by unfold tupsD; rw [List.length_map, List.length_map]; exact lim1 (by omega))
      rw [this]; unfold tupsD; rw [List.map_append]
    have hr : eRng (aCons (eVar 7) aNil) [.fz (.scr ns), .fz (.int k), b2, .fz (.int (n : Int)), b4, .ow (.lst (tupsD A)), .fz (.int (j : Int)), .fz (.int (hN : Int)), .fz (.int (wN : Int)), .ow (.lst []), b10, b11, b12, b13] = .ok ((List.range hN).map fun (i : Nat) => .int (i : Int)) := rngE1 (by simp only [sSeq_ap, sSet_ap, sSetX_ap, sRet_ap, sRetX_ap, sDrop_ap, sIf_ap, sFor_ap, sNx_ap, sBk_ap, sCt_ap, sRetN_ap, sRaise_ap, e1_ap, e2_ap, e3_ap, eVar_0, eVar_s, eVarB_0, eVarB_s, eVarB_0o, eCon_ap, eCallB_ap, eCall_ap, eCallF_ap, eMeth_ap, aCons_ap, aNil_ap, eIter_ap, eIf_ap, eAnd_ap, eOr_ap, eNot_ap, eLst_ap, eTup_ap, bNot_ap, bAnd_ap, bOr_ap, tst_ap, tru_ap, R.bind_ok, R.of_some, rbd_ok, rbd_ex, obd_nx, obd_rt, obd_ex, obd_bk, obd_ct, scnd_t, scnd_f, cnd_t, cnd_f, cnd_or, cnd_and, bl_t, tru_bl, tru_non, ty_str, ty_lst, List.set_cons_zero, List.set_cons_succ, addI, subI, negI, ltI, leI, gtI, geI, eqI, neI, chain3_bb, chain3_t, chain3_f, fin_nx, fin_rt, fin_ex, sFz_ap, frzs_cons, frzs_nil, frz_s, frz_0z, frz_0o, frz_0n, bX_int, bX_str, bX_bl, bX_non, bX_lst, bX_tup, R.bind_ex, decT, decF]) (by omega)
    unfold m_law_system_L4
    simp only [sSeq_ap, sSet_ap, sSetX_ap, sRet_ap, sRetX_ap, sDrop_ap, sIf_ap, sFor_ap, sNx_ap, sBk_ap, sCt_ap, sRetN_ap, sRaise_ap, e1_ap, e2_ap, e3_ap, eVar_0, eVar_s, eVarB_0, eVarB_s, eVarB_0o, eCon_ap, eCallB_ap, eCall_ap, eCallF_ap, eMeth_ap, aCons_ap, aNil_ap, eIter_ap, eIf_ap, eAnd_ap, eOr_ap, eNot_ap, eLst_ap, eTup_ap, bNot_ap, bAnd_ap, bOr_ap, tst_ap, tru_ap, R.bind_ok, R.of_some, rbd_ok, rbd_ex, obd_nx, obd_rt, obd_ex, obd_bk, obd_ct, scnd_t, scnd_f, cnd_t, cnd_f, cnd_or, cnd_and, bl_t, tru_bl, tru_non, ty_str, ty_lst, List.set_cons_zero, List.set_cons_succ, addI, subI, negI, ltI, leI, gtI, geI, eqI, neI, chain3_bb, chain3_t, chain3_f, fin_nx, fin_rt, fin_ex, sFz_ap, frzs_cons, frzs_nil, frz_s, frz_0z, frz_0o, frz_0n, bX_int, bX_str, bX_bl, bX_non, bX_lst, bX_tup, R.bind_ex, decT, decF, mulI' (show -(2 ^ 64) < (30 : Int) ∧ (30 : Int) < 2 ^ 64 by decide), List.length_cons, List.length_nil, if_pos, fmix, modI (show (0 : Int) < 3 by decide), eh, ew, sFz_ap, frzs_cons, frzs_nil, frz_s, frz_0z]
    rw [if_pos (Nat.zero_le LIM)]
    simp only [sSeq_ap, sSet_ap, sSetX_ap, sRet_ap, sRetX_ap, sDrop_ap, sIf_ap, sFor_ap, sNx_ap, sBk_ap, sCt_ap, sRetN_ap, sRaise_ap, e1_ap, e2_ap, e3_ap, eVar_0, eVar_s, eVarB_0, eVarB_s, eVarB_0o, eCon_ap, eCallB_ap, eCall_ap, eCallF_ap, eMeth_ap, aCons_ap, aNil_ap, eIter_ap, eIf_ap, eAnd_ap, eOr_ap, eNot_ap, eLst_ap, eTup_ap, bNot_ap, bAnd_ap, bOr_ap, tst_ap, tru_ap, R.bind_ok, R.of_some, rbd_ok, rbd_ex, obd_nx, obd_rt, obd_ex, obd_bk, obd_ct, scnd_t, scnd_f, cnd_t, cnd_f, cnd_or, cnd_and, bl_t, tru_bl, tru_non, ty_str, ty_lst, List.set_cons_zero, List.set_cons_succ, addI, subI, negI, ltI, leI, gtI, geI, eqI, neI, chain3_bb, chain3_t, chain3_f, fin_nx, fin_rt, fin_ex, sFz_ap, frzs_cons, frzs_nil, frz_s, frz_0z, frz_0o, frz_0n, bX_int, bX_str, bX_bl, bX_non, bX_lst, bX_tup, R.bind_ex, decT, decF]
    rw [hr, rbd_ok]
    have e : forO (Tgt.nm 10) m_law_system_L3 ((List.range hN).map fun (y : Nat) => D.int (y : Int)) [.fz (.scr ns), .fz (.int k), b2, .fz (.int (n : Int)), b4, .ow (.lst (tupsD A)), .fz (.int (j : Int)), .fz (.int (hN : Int)), .fz (.int (wN : Int)), .ow (.lst []), b10, b11, b12, b13] = _ := e
    rw [e]
    simp only [sSeq_ap, sSet_ap, sSetX_ap, sRet_ap, sRetX_ap, sDrop_ap, sIf_ap, sFor_ap, sNx_ap, sBk_ap, sCt_ap, sRetN_ap, sRaise_ap, e1_ap, e2_ap, e3_ap, eVar_0, eVar_s, eVarB_0, eVarB_s, eVarB_0o, eCon_ap, eCallB_ap, eCall_ap, eCallF_ap, eMeth_ap, aCons_ap, aNil_ap, eIter_ap, eIf_ap, eAnd_ap, eOr_ap, eNot_ap, eLst_ap, eTup_ap, bNot_ap, bAnd_ap, bOr_ap, tst_ap, tru_ap, R.bind_ok, R.of_some, rbd_ok, rbd_ex, obd_nx, obd_rt, obd_ex, obd_bk, obd_ct, scnd_t, scnd_f, cnd_t, cnd_f, cnd_or, cnd_and, bl_t, tru_bl, tru_non, ty_str, ty_lst, List.set_cons_zero, List.set_cons_succ, addI, subI, negI, ltI, leI, gtI, geI, eqI, neI, chain3_bb, chain3_t, chain3_f, fin_nx, fin_rt, fin_ex, sFz_ap, frzs_cons, frzs_nil, frz_s, frz_0z, frz_0o, frz_0n, bX_int, bX_str, bX_bl, bX_non, bX_lst, bX_tup, R.bind_ex, decT, decF, sFz_ap, frzs_cons, frzs_nil, frz_s, frz_0o, List.length_cons, List.length_nil, if_pos, ht, hadd]
theorem sys_pics {ns : List Int} {k : Int} {n : Nat} (hn : 1 ≤ n) (hn2 : n ≤ 1000) {b2 b4 b11 b13 : B} : ∀ (js : List Nat) (A : List (List Int)) (b6 b7 b8 b9 b10 b12 : B), A.length + 16 * js.length ≤ 1000 → (∀ t ∈ A, okT n t = true) → ∃ A' b6' b7' b8' b9' b10' b12', A'.length ≤ A.length + 16 * js.length ∧ (∀ t ∈ A', okT n t = true) ∧
    forO (.nm 6) m_law_system_L4 (js.map fun (y : Nat) => .int (y : Int)) [.fz (.scr ns), .fz (.int k), b2, .fz (.int (n : Int)), b4, .ow (.lst (tupsD A)), b6, b7, b8, b9, b10, b11, b12, b13] = .nx [.fz (.scr ns), .fz (.int k), b2, .fz (.int (n : Int)), b4, .ow (.lst (tupsD A')), b6', b7', b8', b9', b10', b11, b12', b13]
  | [], A, b6, b7, b8, b9, b10, b12, hl, h => ⟨A, b6, b7, b8, b9, b10, b12, by simp, h, rfl⟩
  | j :: js, A, b6, b7, b8, b9, b10, b12, hl, h => by
    rw [List.length_cons] at hl
    obtain ⟨A1, c7, c8, c9, c10, c12, h1, h2, e⟩ := sys_pic (ns := ns) (k := k) (j := j) hn hn2 (b2 := b2) (b4 := b4) (b11 := b11) (b13 := b13) (A := A) (by omega) h (b7 := b7) (b8 := b8) (b9 := b9) (b10 := b10) (b12 := b12)
    obtain ⟨A', d6, d7, d8, d9, d10, d12, h3, h4, e2⟩ := sys_pics hn hn2 (ns := ns) (k := k) (b2 := b2) (b4 := b4) (b11 := b11) (b13 := b13) js A1 (.fz (.int (j : Int))) c7 c8 c9 c10 c12 (by omega) h2
    refine ⟨A', d6, d7, d8, d9, d10, d12, by rw [List.length_cons]; omega, h4, ?_⟩
    rw [List.map_cons, forO_nm]
    simp only [List.set_cons_zero, List.set_cons_succ]
    rw [e, loopO_nx, e2]
theorem sys_new {z : Int} {n : Nat} (hn2 : n ≤ 1000) {b0 b1 b2 b4 b5 b6 b7 b8 b9 b10 b12 b13 : B} : ∃ t : List Int, okT n t = true ∧
    eLc (eRng (aCons (eCon (.int (4))) aNil)) (.nm 13) (fun _ => .ok true) m_law_system_C5 [13] [b0, b1, b2, .fz (.int (n : Int)), b4, b5, b6, b7, b8, b9, b10, .fz (.int z), b12, b13] = .ok (.lst (t.map .int)) := by
  have hr : eRng (aCons (eCon (.int (4))) aNil) [b0, b1, b2, .fz (.int (n : Int)), b4, b5, b6, b7, b8, b9, b10, .fz (.int z), b12, b13] = .ok ((List.range 4).map fun (i : Nat) => .int (i : Int)) := rngE1 rfl (by decide)
  have e := eLc_map (i := 13) (elt := m_law_system_C5) (vs := [13]) (g := fun d => match d with | .int x => .int (z / ([4, 64, 1024, 16384].getD x.toNat 4) % ((n : Int) + 1) - 1) | _ => .non) hr (fun d hd => by
    obtain ⟨i, hi, rfl⟩ := List.mem_map.mp hd
    have hi := List.mem_range.mp hi
    have key : ∀ c : Int, 0 < c ∧ c < 1073741824 → ixD (.lst [.int 4, .int 64, .int 1024, .int 16384]) (.int (i : Int)) = some (.int c) → m_law_system_C5 ((wipeB [b0, b1, b2, .fz (.int (n : Int)), b4, b5, b6, b7, b8, b9, b10, .fz (.int z), b12, b13] [13]).set 13 (.fz (.int (i : Int)))) = .ok (.int (z / c % ((n : Int) + 1) - 1)) := fun c hc hx => by
      simp only [sSeq_ap, sSet_ap, sSetX_ap, sRet_ap, sRetX_ap, sDrop_ap, sIf_ap, sFor_ap, sNx_ap, sBk_ap, sCt_ap, sRetN_ap, sRaise_ap, e1_ap, e2_ap, e3_ap, eVar_0, eVar_s, eVarB_0, eVarB_s, eVarB_0o, eCon_ap, eCallB_ap, eCall_ap, eCallF_ap, eMeth_ap, aCons_ap, aNil_ap, eIter_ap, eIf_ap, eAnd_ap, eOr_ap, eNot_ap, eLst_ap, eTup_ap, bNot_ap, bAnd_ap, bOr_ap, tst_ap, tru_ap, R.bind_ok, R.of_some, rbd_ok, rbd_ex, obd_nx, obd_rt, obd_ex, obd_bk, obd_ct, scnd_t, scnd_f, cnd_t, cnd_f, cnd_or, cnd_and, bl_t, tru_bl, tru_non, ty_str, ty_lst, List.set_cons_zero, List.set_cons_succ, addI, subI, negI, ltI, leI, gtI, geI, eqI, neI, chain3_bb, chain3_t, chain3_f, fin_nx, fin_rt, fin_ex, sFz_ap, frzs_cons, frzs_nil, frz_s, frz_0z, frz_0o, frz_0n, bX_int, bX_str, bX_bl, bX_non, bX_lst, bX_tup, R.bind_ex, decT, decF, m_law_system_C5, wipeB, List.length_cons, List.length_nil]
      rw [if_pos (show 0 + 1 + 1 + 1 + 1 ≤ LIM by decide)]
      simp only [sSeq_ap, sSet_ap, sSetX_ap, sRet_ap, sRetX_ap, sDrop_ap, sIf_ap, sFor_ap, sNx_ap, sBk_ap, sCt_ap, sRetN_ap, sRaise_ap, e1_ap, e2_ap, e3_ap, eVar_0, eVar_s, eVarB_0, eVarB_s, eVarB_0o, eCon_ap, eCallB_ap, eCall_ap, eCallF_ap, eMeth_ap, aCons_ap, aNil_ap, eIter_ap, eIf_ap, eAnd_ap, eOr_ap, eNot_ap, eLst_ap, eTup_ap, bNot_ap, bAnd_ap, bOr_ap, tst_ap, tru_ap, R.bind_ok, R.of_some, rbd_ok, rbd_ex, obd_nx, obd_rt, obd_ex, obd_bk, obd_ct, scnd_t, scnd_f, cnd_t, cnd_f, cnd_or, cnd_and, bl_t, tru_bl, tru_non, ty_str, ty_lst, List.set_cons_zero, List.set_cons_succ, addI, subI, negI, ltI, leI, gtI, geI, eqI, neI, chain3_bb, chain3_t, chain3_f, fin_nx, fin_rt, fin_ex, sFz_ap, frzs_cons, frzs_nil, frz_s, frz_0z, frz_0o, frz_0n, bX_int, bX_str, bX_bl, bX_non, bX_lst, bX_tup, R.bind_ex, decT, decF, hx, fdivI hc, modI (show (0 : Int) < (n : Int) + 1 by omega)]
    have : i = 0 ∨ i = 1 ∨ i = 2 ∨ i = 3 := by omega
    rcases this with rfl | rfl | rfl | rfl
    · exact key 4 (by decide) rfl
    · exact key 64 (by decide) rfl
    · exact key 1024 (by decide) rfl
    · exact key 16384 (by decide) rfl) (by decide)
  refine ⟨(List.range 4).map fun (x : Nat) => z / ([4, 64, 1024, 16384].getD x 4) % ((n : Int) + 1) - 1, ?_, ?_⟩
  · have key : ∀ y : Int, inMark n (y % ((n : Int) + 1) - 1) = true := fun y => by
      have h0 := Int.emod_nonneg y (show (n : Int) + 1 ≠ 0 by omega)
      have h1 := Int.emod_lt_of_pos y (show (0 : Int) < (n : Int) + 1 by omega)
      simp only [inMark, Bool.and_eq_true, decide_eq_true_eq]
      omega
    unfold okT
    rw [Bool.and_eq_true]
    refine ⟨by simp, ?_⟩
    rw [List.all_eq_true]
    intro x hx
    obtain ⟨i, _, rfl⟩ := List.mem_map.mp hx
    exact key _
  · rw [e, List.map_map, List.map_map]; rfl
theorem erase_map {α β : Type} (f : α → β) : ∀ (l : List α) (i : Nat), (l.map f).eraseIdx i = (l.eraseIdx i).map f
  | [], _ => rfl
  | _ :: _, 0 => rfl
  | a :: l, i + 1 => by
    show f a :: (l.map f).eraseIdx i = f a :: (l.eraseIdx i).map f
    rw [erase_map f l i]
theorem sys_more {ns : List Int} {k : Int} {j n : Nat} (hn : 1 ≤ n) (hn2 : n ≤ 1000) {b2 b4 b7 b8 b9 b10 b11 b12 b13 : B} {A : List (List Int)} (hA : A.length ≤ 1000) (hA2 : ∀ t ∈ A, okT n t = true) : ∃ A' b11', A'.length ≤ A.length + 1 ∧ (∀ t ∈ A', okT n t = true) ∧
    m_law_system_L6 [.fz (.scr ns), .fz (.int k), b2, .fz (.int (n : Int)), b4, .ow (.lst (tupsD A)), .fz (.int (j : Int)), b7, b8, b9, b10, b11, b12, b13] = .nx [.fz (.scr ns), .fz (.int k), b2, .fz (.int (n : Int)), b4, .ow (.lst (tupsD A')), .fz (.int (j : Int)), b7, b8, b9, b10, b11', b12, b13] := by
  generalize hz : mixZ ns (k + 101 + (j : Int)) = z
  have e1 : m_law_system_L6 [.fz (.scr ns), .fz (.int k), b2, .fz (.int (n : Int)), b4, .ow (.lst (tupsD A)), .fz (.int (j : Int)), b7, b8, b9, b10, b11, b12, b13] =
      obd (scnd (decide (z % 3 = 0) && !(tupsD A).isEmpty)
        (obd (sMut gPopAt 5 (aCons (e2 modD (e2 fdivD (eVarB 11) (eCon (.int (4)))) (eCallB lenD (aCons (eVarB 5) aNil))) aNil) [.fz (.scr ns), .fz (.int k), b2, .fz (.int (n : Int)), b4, .ow (.lst (tupsD A)), .fz (.int (j : Int)), b7, b8, b9, b10, .fz (.int z), b12, b13]) sNx)
        (obd (sMut gApp 5 (aCons (eCallB tupleD (aCons (eLc (eRng (aCons (eCon (.int (4))) aNil)) (.nm 13) (fun _ => .ok true) m_law_system_C5 [13]) aNil)) aNil) [.fz (.scr ns), .fz (.int k), b2, .fz (.int (n : Int)), b4, .ow (.lst (tupsD A)), .fz (.int (j : Int)), b7, b8, b9, b10, .fz (.int z), b12, b13]) sNx)) sNx := by
    unfold m_law_system_L6
    simp only [sSeq_ap, sSet_ap, sSetX_ap, sRet_ap, sRetX_ap, sDrop_ap, sIf_ap, sFor_ap, sNx_ap, sBk_ap, sCt_ap, sRetN_ap, sRaise_ap, e1_ap, e2_ap, e3_ap, eVar_0, eVar_s, eVarB_0, eVarB_s, eVarB_0o, eCon_ap, eCallB_ap, eCall_ap, eCallF_ap, eMeth_ap, aCons_ap, aNil_ap, eIter_ap, eIf_ap, eAnd_ap, eOr_ap, eNot_ap, eLst_ap, eTup_ap, bNot_ap, bAnd_ap, bOr_ap, tst_ap, tru_ap, R.bind_ok, R.of_some, rbd_ok, rbd_ex, obd_nx, obd_rt, obd_ex, obd_bk, obd_ct, scnd_t, scnd_f, cnd_t, cnd_f, cnd_or, cnd_and, bl_t, tru_bl, tru_non, ty_str, ty_lst, List.set_cons_zero, List.set_cons_succ, addI, subI, negI, ltI, leI, gtI, geI, eqI, neI, chain3_bb, chain3_t, chain3_f, fin_nx, fin_rt, fin_ex, sFz_ap, frzs_cons, frzs_nil, frz_s, frz_0z, frz_0o, frz_0n, bX_int, bX_str, bX_bl, bX_non, bX_lst, bX_tup, R.bind_ex, decT, decF, List.length_cons, List.length_nil, if_pos, fmix, hz, modI (show (0 : Int) < 3 by decide), tru_lst]
  rw [e1]
  by_cases hc : (decide (z % 3 = 0) && !(tupsD A).isEmpty) = true
  · rw [hc, scnd_t]
    have hne : 0 < A.length := by
      rw [Bool.and_eq_true] at hc
      cases A with
      | nil => simp [tupsD] at hc
      | cons a r => rw [List.length_cons]; omega
    obtain ⟨i, hi, hi2⟩ := modN (z / 4) hne
    have hg : gPopAt (tupsD A) [.int (i : Int)] = some (tupsD (A.eraseIdx i)) := by
      show (if 0 ≤ (i : Int) ∧ (i : Int) < ((tupsD A).length : Int) ∧ (i : Int) < 2 ^ 63 then some ((tupsD A).eraseIdx ((i : Int)).toNat) else none) = _
      have hl : (tupsD A).length = A.length := by unfold tupsD; rw [List.length_map]
      rw [if_pos ⟨by omega, by rw [hl]; omega, by omega⟩]
      unfold tupsD
      rw [Int.toNat_natCast, erase_map]
    refine ⟨A.eraseIdx i, .fz (.int z), Nat.le_trans (List.length_eraseIdx_le ..) (by omega), fun t ht => hA2 t (List.mem_of_mem_eraseIdx ht), ?_⟩
    rw [sMut_at (xs := tupsD A) rfl]
    simp only [sSeq_ap, sSet_ap, sSetX_ap, sRet_ap, sRetX_ap, sDrop_ap, sIf_ap, sFor_ap, sNx_ap, sBk_ap, sCt_ap, sRetN_ap, sRaise_ap, e1_ap, e2_ap, e3_ap, eVar_0, eVar_s, eVarB_0, eVarB_s, eVarB_0o, eCon_ap, eCallB_ap, eCall_ap, eCallF_ap, eMeth_ap, aCons_ap, aNil_ap, eIter_ap, eIf_ap, eAnd_ap, eOr_ap, eNot_ap, eLst_ap, eTup_ap, bNot_ap, bAnd_ap, bOr_ap, tst_ap, tru_ap, R.bind_ok, R.of_some, rbd_ok, rbd_ex, obd_nx, obd_rt, obd_ex, obd_bk, obd_ct, scnd_t, scnd_f, cnd_t, cnd_f, cnd_or, cnd_and, bl_t, tru_bl, tru_non, ty_str, ty_lst, List.set_cons_zero, List.set_cons_succ, addI, subI, negI, ltI, leI, gtI, geI, eqI, neI, chain3_bb, chain3_t, chain3_f, fin_nx, fin_rt, fin_ex, sFz_ap, frzs_cons, frzs_nil, frz_s, frz_0z, frz_0o, frz_0n, bX_int, bX_str, bX_bl, bX_non, bX_lst, bX_tup, R.bind_ex, decT, decF, fdivI (show (0 : Int) < 4 ∧ (4 : Int) < 1073741824 by decide), len_tupsD, modI (show (0 : Int) < (A.length : Int) by omega), hi, hg, optO_some]
  · have hc : (decide (z % 3 = 0) && !(tupsD A).isEmpty) = false := by simpa using hc
    rw [hc, scnd_f]
    obtain ⟨t, ht, e⟩ := sys_new (z := z) (n := n) hn2 (b0 := .fz (.scr ns)) (b1 := .fz (.int k)) (b2 := b2) (b4 := b4) (b5 := .ow (.lst (tupsD A))) (b6 := .fz (.int (j : Int))) (b7 := b7) (b8 := b8) (b9 := b9) (b10 := b10) (b12 := b12) (b13 := b13)
    refine ⟨A ++ [t], .fz (.int z), by rw [List.length_append, List.length_singleton]; omega, fun q hq => ?_, ?_⟩
    · rcases List.mem_append.mp hq with hq | hq
      · exact hA2 q hq
      · rw [List.mem_singleton.mp hq]; exact ht
    · rw [app_tups (A := A) (t := t) rfl ?_ (by omega)]
      · rfl
      · have tl : tupleD [.lst (t.map .int)] = some (tupD t) := rfl
        simp only [sSeq_ap, sSet_ap, sSetX_ap, sRet_ap, sRetX_ap, sDrop_ap, sIf_ap, sFor_ap, sNx_ap, sBk_ap, sCt_ap, sRetN_ap, sRaise_ap, e1_ap, e2_ap, e3_ap, eVar_0, eVar_s, eVarB_0, eVarB_s, eVarB_0o, eCon_ap, eCallB_ap, eCall_ap, eCallF_ap, eMeth_ap, aCons_ap, aNil_ap, eIter_ap, eIf_ap, eAnd_ap, eOr_ap, eNot_ap, eLst_ap, eTup_ap, bNot_ap, bAnd_ap, bOr_ap, tst_ap, tru_ap, R.bind_ok, R.of_some, rbd_ok, rbd_ex, obd_nx, obd_rt, obd_ex, obd_bk, obd_ct, scnd_t, scnd_f, cnd_t, cnd_f, cnd_or, cnd_and, bl_t, tru_bl, tru_non, ty_str, ty_lst, List.set_cons_zero, List.set_cons_succ, addI, subI, negI, ltI, leI, gtI, geI, eqI, neI, chain3_bb, chain3_t, chain3_f, fin_nx, fin_rt, fin_ex, sFz_ap, frzs_cons, frzs_nil, frz_s, frz_0z, frz_0o, frz_0n, bX_int, bX_str, bX_bl, bX_non, bX_lst, bX_tup, R.bind_ex, decT, decF, e, tl]
theorem sys_mores {ns : List Int} {k : Int} {n : Nat} (hn : 1 ≤ n) (hn2 : n ≤ 1000) {b2 b4 b7 b8 b9 b10 b12 b13 : B} : ∀ (js : List Nat) (A : List (List Int)) (b6 b11 : B), A.length + js.length ≤ 1000 → (∀ t ∈ A, okT n t = true) → ∃ A' b6' b11', A'.length ≤ A.length + js.length ∧ (∀ t ∈ A', okT n t = true) ∧
    forO (.nm 6) m_law_system_L6 (js.map fun (y : Nat) => .int (y : Int)) [.fz (.scr ns), .fz (.int k), b2, .fz (.int (n : Int)), b4, .ow (.lst (tupsD A)), b6, b7, b8, b9, b10, b11, b12, b13] = .nx [.fz (.scr ns), .fz (.int k), b2, .fz (.int (n : Int)), b4, .ow (.lst (tupsD A')), b6', b7, b8, b9, b10, b11', b12, b13]
  | [], A, b6, b11, hl, h => ⟨A, b6, b11, by simp, h, rfl⟩
  | j :: js, A, b6, b11, hl, h => by
    rw [List.length_cons] at hl
    obtain ⟨A1, c11, h1, h2, e⟩ := sys_more (ns := ns) (k := k) (j := j) hn hn2 (b2 := b2) (b4 := b4) (b11 := b11) (b13 := b13) (A := A) (by omega) h (b7 := b7) (b8 := b8) (b9 := b9) (b10 := b10) (b12 := b12)
    obtain ⟨A', d6, d11, h3, h4, e2⟩ := sys_mores hn hn2 (ns := ns) (k := k) (b2 := b2) (b4 := b4) (b7 := b7) (b8 := b8) (b9 := b9) (b10 := b10) (b12 := b12) (b13 := b13) js A1 (.fz (.int (j : Int))) c11 (by omega) h2
    refine ⟨A', d6, d11, by rw [List.length_cons]; omega, h4, ?_⟩
    rw [List.map_cons, forO_nm]
    simp only [List.set_cons_zero, List.set_cons_succ]
    rw [e, loopO_nx, e2]
theorem sem_system {ns : List Int} {k : Int} {m : Nat} (hm : 1 ≤ m) (hm2 : m ≤ 16) : ∃ L T, sem_law_system [.scr ns, .int k, .int (m : Int)] = .ok (sysD L T) ∧ 1 ≤ L.length ∧ L.length ≤ m ∧ ab L = true ∧ chk L.length none T = true ∧ T.length < 64 := by
  obtain ⟨n, en, n1, n2⟩ := mixR ns k (m := m) hm
  obtain ⟨p, ep, p1, p2⟩ := mixR ns (k + 6) (m := 3) (by omega)
  have ep : 1 + mixZ ns (k + 6) % 3 = (p : Int) := ep
  obtain ⟨q, eq, q1⟩ := modN (mixZ ns (k + 100)) (m := 4) (by omega)
  have eq : mixZ ns (k + 100) % 4 = (q : Int) := eq
  have ys_ok : ∀ a ∈ ((List.range n).map fun (x : Nat) => chAB (mixZ ns (k + 1 + (x : Int)) / 4 % 2)), a.length = 1 ∧ ab a = true := fun a ha => by
    obtain ⟨i, _, rfl⟩ := List.mem_map.mp ha
    exact chAB_in _
  obtain ⟨j1, j2⟩ := join_ones _ ys_ok
  rw [List.length_map, List.length_range] at j1
  have ej := join_some ys_ok (by rw [List.length_map, List.length_range]; omega)
  generalize hL : Txt.join "" ((List.range n).map fun (x : Nat) => chAB (mixZ ns (k + 1 + (x : Int)) / 4 % 2)) = L at j1 j2 ej
  have hr3 : ∀ b4 b5 b6 b7 b8 b9 b10 b11 b12 b13 : B, eLc (eRng (aCons (eVar 3) aNil)) (.nm 6) (fun _ => .ok true) m_law_system_C1 [6] [.fz (.scr ns), .fz (.int k), .fz (.int (m : Int)), .fz (.int (n : Int)), b4, b5, b6, b7, b8, b9, b10, b11, b12, b13] = .ok (.lst (((List.range n).map fun (x : Nat) => chAB (mixZ ns (k + 1 + (x : Int)) / 4 % 2)).map .str)) := fun b4 b5 b6 b7 b8 b9 b10 b11 b12 b13 => by
    have hr : eRng (aCons (eVar 3) aNil) [.fz (.scr ns), .fz (.int k), .fz (.int (m : Int)), .fz (.int (n : Int)), b4, b5, b6, b7, b8, b9, b10, b11, b12, b13] = .ok ((List.range n).map fun (i : Nat) => .int (i : Int)) := rngE1 (by simp only [sSeq_ap, sSet_ap, sSetX_ap, sRet_ap, sRetX_ap, sDrop_ap, sIf_ap, sFor_ap, sNx_ap, sBk_ap, sCt_ap, sRetN_ap, sRaise_ap, e1_ap, e2_ap, e3_ap, eVar_0, eVar_s, eVarB_0, eVarB_s, eVarB_0o, eCon_ap, eCallB_ap, eCall_ap, eCallF_ap, eMeth_ap, aCons_ap, aNil_ap, eIter_ap, eIf_ap, eAnd_ap, eOr_ap, eNot_ap, eLst_ap, eTup_ap, bNot_ap, bAnd_ap, bOr_ap, tst_ap, tru_ap, R.bind_ok, R.of_some, rbd_ok, rbd_ex, obd_nx, obd_rt, obd_ex, obd_bk, obd_ct, scnd_t, scnd_f, cnd_t, cnd_f, cnd_or, cnd_and, bl_t, tru_bl, tru_non, ty_str, ty_lst, List.set_cons_zero, List.set_cons_succ, addI, subI, negI, ltI, leI, gtI, geI, eqI, neI, chain3_bb, chain3_t, chain3_f, fin_nx, fin_rt, fin_ex, sFz_ap, frzs_cons, frzs_nil, frz_s, frz_0z, frz_0o, frz_0n, bX_int, bX_str, bX_bl, bX_non, bX_lst, bX_tup, R.bind_ex, decT, decF]) (by omega)
    have e := eLc_map (i := 6) (elt := m_law_system_C1) (vs := [6]) (g := fun d => match d with | .int x => .str (chAB (mixZ ns (k + 1 + x) / 4 % 2)) | _ => .non) hr (fun d hd => by
      obtain ⟨x, hx, rfl⟩ := List.mem_map.mp hd
      simp only [sSeq_ap, sSet_ap, sSetX_ap, sRet_ap, sRetX_ap, sDrop_ap, sIf_ap, sFor_ap, sNx_ap, sBk_ap, sCt_ap, sRetN_ap, sRaise_ap, e1_ap, e2_ap, e3_ap, eVar_0, eVar_s, eVarB_0, eVarB_s, eVarB_0o, eCon_ap, eCallB_ap, eCall_ap, eCallF_ap, eMeth_ap, aCons_ap, aNil_ap, eIter_ap, eIf_ap, eAnd_ap, eOr_ap, eNot_ap, eLst_ap, eTup_ap, bNot_ap, bAnd_ap, bOr_ap, tst_ap, tru_ap, R.bind_ok, R.of_some, rbd_ok, rbd_ex, obd_nx, obd_rt, obd_ex, obd_bk, obd_ct, scnd_t, scnd_f, cnd_t, cnd_f, cnd_or, cnd_and, bl_t, tru_bl, tru_non, ty_str, ty_lst, List.set_cons_zero, List.set_cons_succ, addI, subI, negI, ltI, leI, gtI, geI, eqI, neI, chain3_bb, chain3_t, chain3_f, fin_nx, fin_rt, fin_ex, sFz_ap, frzs_cons, frzs_nil, frz_s, frz_0z, frz_0o, frz_0n, bX_int, bX_str, bX_bl, bX_non, bX_lst, bX_tup, R.bind_ex, decT, decF, m_law_system_C1, wipeB, List.length_cons, List.length_nil, if_pos, fmix, fdivI (show (0 : Int) < 4 ∧ (4 : Int) < 1073741824 by decide), modI (show (0 : Int) < 2 by decide), ix_ab]) (by rw [List.length_map, List.length_range]; exact lim2 (by omega))
    rw [e, List.map_map, List.map_map]; rfl
  obtain ⟨A1, c6, c7, c8, c9, c10, c12, h1, h2, e1⟩ := sys_pics (ns := ns) (k := k) n1 (by omega) (b2 := .fz (.int (m : Int))) (b4 := .fz (.str L)) (b11 := .no) (b13 := .no) (List.range p) [] .no .no .no .no .no .no (by rw [List.length_range, List.length_nil]; omega) (fun t ht => by cases ht)
  rw [List.length_range, List.length_nil, Nat.zero_add] at h1
  obtain ⟨A2, d6, d11, h3, h4, e2⟩ := sys_mores (ns := ns) (k := k) n1 (by omega) (b2 := .fz (.int (m : Int))) (b4 := .fz (.str L)) (b7 := c7) (b8 := c8) (b9 := c9) (b10 := c10) (b12 := c12) (b13 := .no) (List.range q) A1 c6 .no (by rw [List.length_range]; omega) h2
  rw [List.length_range] at h3
  have hs := sorted_ok h4
  refine ⟨L, sortI (ded A2), ?_, by omega, by omega, j2, by rw [j1]; exact hs.1, by omega⟩
  have r1 : ∀ b3 b4 b5 b6 b7 b8 b9 b10 b11 b12 b13 : B, eRng (aCons (QY.e2 addD (eCon (.int (1))) (QY.e2 modD (eCallF 2 sem_law_mix (aCons (eVarB 0) (aCons (QY.e2 addD (eVarB 1) (eCon (.int (6)))) aNil))) (eCon (.int (3))))) aNil) [.fz (.scr ns), .fz (.int k), .fz (.int (m : Int)), b3, b4, b5, b6, b7, b8, b9, b10, b11, b12, b13] = .ok ((List.range p).map fun (i : Nat) => .int (i : Int)) := fun b3 b4 b5 b6 b7 b8 b9 b10 b11 b12 b13 =>
    rngE1 (by simp only [sSeq_ap, sSet_ap, sSetX_ap, sRet_ap, sRetX_ap, sDrop_ap, sIf_ap, sFor_ap, sNx_ap, sBk_ap, sCt_ap, sRetN_ap, sRaise_ap, e1_ap, e2_ap, e3_ap, eVar_0, eVar_s, eVarB_0, eVarB_s, eVarB_0o, eCon_ap, eCallB_ap, eCall_ap, eCallF_ap, eMeth_ap, aCons_ap, aNil_ap, eIter_ap, eIf_ap, eAnd_ap, eOr_ap, eNot_ap, eLst_ap, eTup_ap, bNot_ap, bAnd_ap, bOr_ap, tst_ap, tru_ap, R.bind_ok, R.of_some, rbd_ok, rbd_ex, obd_nx, obd_rt, obd_ex, obd_bk, obd_ct, scnd_t, scnd_f, cnd_t, cnd_f, cnd_or, cnd_and, bl_t, tru_bl, tru_non, ty_str, ty_lst, List.set_cons_zero, List.set_cons_succ, addI, subI, negI, ltI, leI, gtI, geI, eqI, neI, chain3_bb, chain3_t, chain3_f, fin_nx, fin_rt, fin_ex, sFz_ap, frzs_cons, frzs_nil, frz_s, frz_0z, frz_0o, frz_0n, bX_int, bX_str, bX_bl, bX_non, bX_lst, bX_tup, R.bind_ex, decT, decF, List.length_cons, List.length_nil, if_pos, fmix, modI (show (0 : Int) < 3 by decide), ep]) (by omega)
  have r2 : ∀ b3 b4 b5 b6 b7 b8 b9 b10 b11 b12 b13 : B, eRng (aCons (QY.e2 modD (eCallF 2 sem_law_mix (aCons (eVarB 0) (aCons (QY.e2 addD (eVarB 1) (eCon (.int (100)))) aNil))) (eCon (.int (4)))) aNil) [.fz (.scr ns), .fz (.int k), .fz (.int (m : Int)), b3, b4, b5, b6, b7, b8, b9, b10, b11, b12, b13] = .ok ((List.range q).map fun (i : Nat) => .int (i : Int)) := fun b3 b4 b5 b6 b7 b8 b9 b10 b11 b12 b13 =>
    rngE1 (by simp only [sSeq_ap, sSet_ap, sSetX_ap, sRet_ap, sRetX_ap, sDrop_ap, sIf_ap, sFor_ap, sNx_ap, sBk_ap, sCt_ap, sRetN_ap, sRaise_ap, e1_ap, e2_ap, e3_ap, eVar_0, eVar_s, eVarB_0, eVarB_s, eVarB_0o, eCon_ap, eCallB_ap, eCall_ap, eCallF_ap, eMeth_ap, aCons_ap, aNil_ap, eIter_ap, eIf_ap, eAnd_ap, eOr_ap, eNot_ap, eLst_ap, eTup_ap, bNot_ap, bAnd_ap, bOr_ap, tst_ap, tru_ap, R.bind_ok, R.of_some, rbd_ok, rbd_ex, obd_nx, obd_rt, obd_ex, obd_bk, obd_ct, scnd_t, scnd_f, cnd_t, cnd_f, cnd_or, cnd_and, bl_t, tru_bl, tru_non, ty_str, ty_lst, List.set_cons_zero, List.set_cons_succ, addI, subI, negI, ltI, leI, gtI, geI, eqI, neI, chain3_bb, chain3_t, chain3_f, fin_nx, fin_rt, fin_ex, sFz_ap, frzs_cons, frzs_nil, frz_s, frz_0z, frz_0o, frz_0n, bX_int, bX_str, bX_bl, bX_non, bX_lst, bX_tup, R.bind_ex, decT, decF, List.length_cons, List.length_nil, if_pos, fmix, modI (show (0 : Int) < 4 by decide), eq]) (by omega)
  rw [at_law_system]
  unfold m_law_system
  simp only [sSeq_ap, sSet_ap, sSetX_ap, sRet_ap, sRetX_ap, sDrop_ap, sIf_ap, sFor_ap, sNx_ap, sBk_ap, sCt_ap, sRetN_ap, sRaise_ap, e1_ap, e2_ap, e3_ap, eVar_0, eVar_s, eVarB_0, eVarB_s, eVarB_0o, eCon_ap, eCallB_ap, eCall_ap, eCallF_ap, eMeth_ap, aCons_ap, aNil_ap, eIter_ap, eIf_ap, eAnd_ap, eOr_ap, eNot_ap, eLst_ap, eTup_ap, bNot_ap, bAnd_ap, bOr_ap, tst_ap, tru_ap, R.bind_ok, R.of_some, rbd_ok, rbd_ex, obd_nx, obd_rt, obd_ex, obd_bk, obd_ct, scnd_t, scnd_f, cnd_t, cnd_f, cnd_or, cnd_and, bl_t, tru_bl, tru_non, ty_str, ty_lst, List.set_cons_zero, List.set_cons_succ, addI, subI, negI, ltI, leI, gtI, geI, eqI, neI, chain3_bb, chain3_t, chain3_f, fin_nx, fin_rt, fin_ex, sFz_ap, frzs_cons, frzs_nil, frz_s, frz_0z, frz_0o, frz_0n, bX_int, bX_str, bX_bl, bX_non, bX_lst, bX_tup, R.bind_ex, decT, decF, List.length_cons, List.length_nil, if_pos, fmix, modI (show (0 : Int) < (m : Int) by omega), en, hr3, ej]
  rw [if_pos (Nat.zero_le LIM)]
  simp only [sSeq_ap, sSet_ap, sSetX_ap, sRet_ap, sRetX_ap, sDrop_ap, sIf_ap, sFor_ap, sNx_ap, sBk_ap, sCt_ap, sRetN_ap, sRaise_ap, e1_ap, e2_ap, e3_ap, eVar_0, eVar_s, eVarB_0, eVarB_s, eVarB_0o, eCon_ap, eCallB_ap, eCall_ap, eCallF_ap, eMeth_ap, aCons_ap, aNil_ap, eIter_ap, eIf_ap, eAnd_ap, eOr_ap, eNot_ap, eLst_ap, eTup_ap, bNot_ap, bAnd_ap, bOr_ap, tst_ap, tru_ap, R.bind_ok, R.of_some, rbd_ok, rbd_ex, obd_nx, obd_rt, obd_ex, obd_bk, obd_ct, scnd_t, scnd_f, cnd_t, cnd_f, cnd_or, cnd_and, bl_t, tru_bl, tru_non, ty_str, ty_lst, List.set_cons_zero, List.set_cons_succ, addI, subI, negI, ltI, leI, gtI, geI, eqI, neI, chain3_bb, chain3_t, chain3_f, fin_nx, fin_rt, fin_ex, sFz_ap, frzs_cons, frzs_nil, frz_s, frz_0z, frz_0o, frz_0n, bX_int, bX_str, bX_bl, bX_non, bX_lst, bX_tup, R.bind_ex, decT, decF]
  rw [r1, rbd_ok]
  have e1 : forO (Tgt.nm 6) m_law_system_L4 ((List.range p).map fun (y : Nat) => D.int (y : Int)) [.fz (.scr ns), .fz (.int k), .fz (.int (m : Int)), .fz (.int (n : Int)), .fz (.str L), .ow (.lst []), .no, .no, .no, .no, .no, .no, .no, .no] = _ := e1
  rw [e1, obd_nx]
  simp only [sSeq_ap, sSet_ap, sSetX_ap, sRet_ap, sRetX_ap, sDrop_ap, sIf_ap, sFor_ap, sNx_ap, sBk_ap, sCt_ap, sRetN_ap, sRaise_ap, e1_ap, e2_ap, e3_ap, eVar_0, eVar_s, eVarB_0, eVarB_s, eVarB_0o, eCon_ap, eCallB_ap, eCall_ap, eCallF_ap, eMeth_ap, aCons_ap, aNil_ap, eIter_ap, eIf_ap, eAnd_ap, eOr_ap, eNot_ap, eLst_ap, eTup_ap, bNot_ap, bAnd_ap, bOr_ap, tst_ap, tru_ap, R.bind_ok, R.of_some, rbd_ok, rbd_ex, obd_nx, obd_rt, obd_ex, obd_bk, obd_ct, scnd_t, scnd_f, cnd_t, cnd_f, cnd_or, cnd_and, bl_t, tru_bl, tru_non, ty_str, ty_lst, List.set_cons_zero, List.set_cons_succ, addI, subI, negI, ltI, leI, gtI, geI, eqI, neI, chain3_bb, chain3_t, chain3_f, fin_nx, fin_rt, fin_ex, sFz_ap, frzs_cons, frzs_nil, frz_s, frz_0z, frz_0o, frz_0n, bX_int, bX_str, bX_bl, bX_non, bX_lst, bX_tup, R.bind_ex, decT, decF]
  rw [r2, rbd_ok, e2]
  simp only [sSeq_ap, sSet_ap, sSetX_ap, sRet_ap, sRetX_ap, sDrop_ap, sIf_ap, sFor_ap, sNx_ap, sBk_ap, sCt_ap, sRetN_ap, sRaise_ap, e1_ap, e2_ap, e3_ap, eVar_0, eVar_s, eVarB_0, eVarB_s, eVarB_0o, eCon_ap, eCallB_ap, eCall_ap, eCallF_ap, eMeth_ap, aCons_ap, aNil_ap, eIter_ap, eIf_ap, eAnd_ap, eOr_ap, eNot_ap, eLst_ap, eTup_ap, bNot_ap, bAnd_ap, bOr_ap, tst_ap, tru_ap, R.bind_ok, R.of_some, rbd_ok, rbd_ex, obd_nx, obd_rt, obd_ex, obd_bk, obd_ct, scnd_t, scnd_f, cnd_t, cnd_f, cnd_or, cnd_and, bl_t, tru_bl, tru_non, ty_str, ty_lst, List.set_cons_zero, List.set_cons_succ, addI, subI, negI, ltI, leI, gtI, geI, eqI, neI, chain3_bb, chain3_t, chain3_f, fin_nx, fin_rt, fin_ex, sFz_ap, frzs_cons, frzs_nil, frz_s, frz_0z, frz_0o, frz_0n, bX_int, bX_str, bX_bl, bX_non, bX_lst, bX_tup, R.bind_ex, decT, decF, sortSet_tups h4 (by omega), List.length_cons, List.length_nil, if_pos (show 0 + 1 + 1 ≤ LIM by decide)]
  rfl

end K10

namespace K10
open PySem PySem.Spec PyProof.Rows L2 QY
/-! ### _law_last, _law_column -/
theorem neg1 {ρ : List B} : QY.e1 negD (eCon (.int (1))) ρ = .ok (.int (-1)) := by simp only [sSeq_ap, sSet_ap, sSetX_ap, sRet_ap, sRetX_ap, sDrop_ap, sIf_ap, sFor_ap, sNx_ap, sBk_ap, sCt_ap, sRetN_ap, sRaise_ap, e1_ap, e2_ap, e3_ap, eVar_0, eVar_s, eVarB_0, eVarB_s, eVarB_0o, eCon_ap, eCallB_ap, eCall_ap, eCallF_ap, eMeth_ap, aCons_ap, aNil_ap, eIter_ap, eIf_ap, eAnd_ap, eOr_ap, eNot_ap, eLst_ap, eTup_ap, bNot_ap, bAnd_ap, bOr_ap, tst_ap, tru_ap, R.bind_ok, R.of_some, rbd_ok, rbd_ex, obd_nx, obd_rt, obd_ex, obd_bk, obd_ct, scnd_t, scnd_f, cnd_t, cnd_f, cnd_or, cnd_and, bl_t, tru_bl, tru_non, ty_str, ty_lst, List.set_cons_zero, List.set_cons_succ, addI, subI, negI, ltI, leI, gtI, geI, eqI, neI, chain3_bb, chain3_t, chain3_f, fin_nx, fin_rt, fin_ex, sFz_ap, frzs_cons, frzs_nil, frz_s, frz_0z, frz_0o, frz_0n, bX_int, bX_str, bX_bl, bX_non, bX_lst, bX_tup, R.bind_ex, decT, decF]
theorem sem_last {L : Str} {T : List (List Int)} {a : List Int} (ha : a.length ≤ 1000) : sem_law_last [sysD L T, tupD a] = .ok (.bl (lastP T a)) := by
  have a1 : addD (.tup [.int (-1)]) (tupD a) = some (tupD ([-1] ++ a)) := tup_add (a := [-1]) (by rw [List.length_singleton]; omega) (by omega)
  have a2 : addD (tupD ([-1] ++ a)) (.tup [.int (-1)]) = some (tupD (bd a)) := tup_add (b := [-1]) (by simp; omega) (by rw [List.length_singleton]; omega)
  have la := bd_len a
  rw [at_law_last]; unfold m_law_last
  simp only [sSeq_ap, sSet_ap, sSetX_ap, sRet_ap, sRetX_ap, sDrop_ap, sIf_ap, sFor_ap, sNx_ap, sBk_ap, sCt_ap, sRetN_ap, sRaise_ap, e1_ap, e2_ap, e3_ap, eVar_0, eVar_s, eVarB_0, eVarB_s, eVarB_0o, eCon_ap, eCallB_ap, eCall_ap, eCallF_ap, eMeth_ap, aCons_ap, aNil_ap, eIter_ap, eIf_ap, eAnd_ap, eOr_ap, eNot_ap, eLst_ap, eTup_ap, bNot_ap, bAnd_ap, bOr_ap, tst_ap, tru_ap, R.bind_ok, R.of_some, rbd_ok, rbd_ex, obd_nx, obd_rt, obd_ex, obd_bk, obd_ct, scnd_t, scnd_f, cnd_t, cnd_f, cnd_or, cnd_and, bl_t, tru_bl, tru_non, ty_str, ty_lst, List.set_cons_zero, List.set_cons_succ, addI, subI, negI, ltI, leI, gtI, geI, eqI, neI, chain3_bb, chain3_t, chain3_f, fin_nx, fin_rt, fin_ex, sFz_ap, frzs_cons, frzs_nil, frz_s, frz_0z, frz_0o, frz_0n, bX_int, bX_str, bX_bl, bX_non, bX_lst, bX_tup, R.bind_ex, decT, decF, List.length_cons, List.length_nil, if_pos (show 0 + 1 ≤ LIM by decide), a1, a2, bX_tupD]
  have hr : eRng (aCons (QY.e2 subD (eCallB lenD (aCons (eVarB 2) aNil)) (eCon (.int (1)))) aNil) [.fz (sysD L T), .fz (tupD a), .fz (tupD (bd a)), .no] = .ok ((List.range (a.length + 1)).map fun (i : Nat) => .int (i : Int)) := by
    refine rngE1 ?_ (by omega)
    simp only [sSeq_ap, sSet_ap, sSetX_ap, sRet_ap, sRetX_ap, sDrop_ap, sIf_ap, sFor_ap, sNx_ap, sBk_ap, sCt_ap, sRetN_ap, sRaise_ap, e1_ap, e2_ap, e3_ap, eVar_0, eVar_s, eVarB_0, eVarB_s, eVarB_0o, eCon_ap, eCallB_ap, eCall_ap, eCallF_ap, eMeth_ap, aCons_ap, aNil_ap, eIter_ap, eIf_ap, eAnd_ap, eOr_ap, eNot_ap, eLst_ap, eTup_ap, bNot_ap, bAnd_ap, bOr_ap, tst_ap, tru_ap, R.bind_ok, R.of_some, rbd_ok, rbd_ex, obd_nx, obd_rt, obd_ex, obd_bk, obd_ct, scnd_t, scnd_f, cnd_t, cnd_f, cnd_or, cnd_and, bl_t, tru_bl, tru_non, ty_str, ty_lst, List.set_cons_zero, List.set_cons_succ, addI, subI, negI, ltI, leI, gtI, geI, eqI, neI, chain3_bb, chain3_t, chain3_f, fin_nx, fin_rt, fin_ex, sFz_ap, frzs_cons, frzs_nil, frz_s, frz_0z, frz_0o, frz_0n, bX_int, bX_str, bX_bl, bX_non, bX_lst, bX_tup, R.bind_ex, decT, decF, len_tupD, la]
    rw [show ((a.length + 2 : Nat) : Int) - 1 = ((a.length + 1 : Nat) : Int) by omega]
  have lc := lc_range (i := 3) (elt := m_law_last_C1) (vs := [3]) (g := fun k => .bl (decide ([(bd a).getD k 0, -1, (bd a).getD (k + 1) 0, -1] ∈ T))) hr (by omega) (fun k hk => by
    have ek : (k : Int) + 1 = ((k + 1 : Nat) : Int) := by omega
    have t4 : inE false (.tup [.int ((bd a).getD k 0), .int (-1), .int ((bd a).getD (k + 1) 0), .int (-1)]) (.lst (tupsD T)) = some (.bl (decide ([(bd a).getD k 0, -1, (bd a).getD (k + 1) 0, -1] ∈ T))) := in_tups (t := [(bd a).getD k 0, -1, (bd a).getD (k + 1) 0, -1])
    unfold m_law_last_C1
    simp only [sSeq_ap, sSet_ap, sSetX_ap, sRet_ap, sRetX_ap, sDrop_ap, sIf_ap, sFor_ap, sNx_ap, sBk_ap, sCt_ap, sRetN_ap, sRaise_ap, e1_ap, e2_ap, e3_ap, eVar_0, eVar_s, eVarB_0, eVarB_s, eVarB_0o, eCon_ap, eCallB_ap, eCall_ap, eCallF_ap, eMeth_ap, aCons_ap, aNil_ap, eIter_ap, eIf_ap, eAnd_ap, eOr_ap, eNot_ap, eLst_ap, eTup_ap, bNot_ap, bAnd_ap, bOr_ap, tst_ap, tru_ap, R.bind_ok, R.of_some, rbd_ok, rbd_ex, obd_nx, obd_rt, obd_ex, obd_bk, obd_ct, scnd_t, scnd_f, cnd_t, cnd_f, cnd_or, cnd_and, bl_t, tru_bl, tru_non, ty_str, ty_lst, List.set_cons_zero, List.set_cons_succ, addI, subI, negI, ltI, leI, gtI, geI, eqI, neI, chain3_bb, chain3_t, chain3_f, fin_nx, fin_rt, fin_ex, sFz_ap, frzs_cons, frzs_nil, frz_s, frz_0z, frz_0o, frz_0n, bX_int, bX_str, bX_bl, bX_non, bX_lst, bX_tup, R.bind_ex, decT, decF, wipeB, ek, ix_tupD (show k < (bd a).length by omega), ix_tupD (show k + 1 < (bd a).length by omega), List.length_cons, List.length_nil, if_pos (show 0 + 1 + 1 + 1 + 1 ≤ LIM by decide), sys_1, t4])
  rw [lc]
  simp only [sSeq_ap, sSet_ap, sSetX_ap, sRet_ap, sRetX_ap, sDrop_ap, sIf_ap, sFor_ap, sNx_ap, sBk_ap, sCt_ap, sRetN_ap, sRaise_ap, e1_ap, e2_ap, e3_ap, eVar_0, eVar_s, eVarB_0, eVarB_s, eVarB_0o, eCon_ap, eCallB_ap, eCall_ap, eCallF_ap, eMeth_ap, aCons_ap, aNil_ap, eIter_ap, eIf_ap, eAnd_ap, eOr_ap, eNot_ap, eLst_ap, eTup_ap, bNot_ap, bAnd_ap, bOr_ap, tst_ap, tru_ap, R.bind_ok, R.of_some, rbd_ok, rbd_ex, obd_nx, obd_rt, obd_ex, obd_bk, obd_ct, scnd_t, scnd_f, cnd_t, cnd_f, cnd_or, cnd_and, bl_t, tru_bl, tru_non, ty_str, ty_lst, List.set_cons_zero, List.set_cons_succ, addI, subI, negI, ltI, leI, gtI, geI, eqI, neI, chain3_bb, chain3_t, chain3_f, fin_nx, fin_rt, fin_ex, sFz_ap, frzs_cons, frzs_nil, frz_s, frz_0z, frz_0o, frz_0n, bX_int, bX_str, bX_bl, bX_non, bX_lst, bX_tup, R.bind_ex, decT, decF, all_bls]
  rfl
theorem flast {L : Str} {T : List (List Int)} {a : List Int} (ha : a.length ≤ 1000) : flatR (sem_law_last [sysD L T, tupD a]) = .ok (.bl (lastP T a)) := by rw [sem_last ha]; rfl
theorem col_above {b0 b1 b2 b3 b4 b5 b6 b7 b9 b10 b11 b12 b13 : B} {c : List Int} (hc : c.length ≤ 1000) : QY.e2 ixD (eOr (eVar 8) (eTup (aCons (QY.e1 negD (eCon (.int (1)))) aNil))) (QY.e1 negD (eCon (.int (1)))) [b0, b1, b2, b3, b4, b5, b6, b7, .fz (tupD c), b9, b10, b11, b12, b13] = .ok (.int (above c)) := by
  simp only [sSeq_ap, sSet_ap, sSetX_ap, sRet_ap, sRetX_ap, sDrop_ap, sIf_ap, sFor_ap, sNx_ap, sBk_ap, sCt_ap, sRetN_ap, sRaise_ap, e1_ap, e2_ap, e3_ap, eVar_0, eVar_s, eVarB_0, eVarB_s, eVarB_0o, eCon_ap, eCallB_ap, eCall_ap, eCallF_ap, eMeth_ap, aCons_ap, aNil_ap, eIter_ap, eIf_ap, eAnd_ap, eOr_ap, eNot_ap, eLst_ap, eTup_ap, bNot_ap, bAnd_ap, bOr_ap, tst_ap, tru_ap, R.bind_ok, R.of_some, rbd_ok, rbd_ex, obd_nx, obd_rt, obd_ex, obd_bk, obd_ct, scnd_t, scnd_f, cnd_t, cnd_f, cnd_or, cnd_and, bl_t, tru_bl, tru_non, ty_str, ty_lst, List.set_cons_zero, List.set_cons_succ, addI, subI, negI, ltI, leI, gtI, geI, eqI, neI, chain3_bb, chain3_t, chain3_f, fin_nx, fin_rt, fin_ex, sFz_ap, frzs_cons, frzs_nil, frz_s, frz_0z, frz_0o, frz_0n, bX_int, bX_str, bX_bl, bX_non, bX_lst, bX_tup, R.bind_ex, decT, decF, show truD (tupD c) = some !(c.map D.int).isEmpty from rfl, neg1, List.length_cons, List.length_nil, if_pos (show 0 + 1 ≤ LIM by decide)]
  cases c with
  | nil => rfl
  | cons x r =>
    simp only [sSeq_ap, sSet_ap, sSetX_ap, sRet_ap, sRetX_ap, sDrop_ap, sIf_ap, sFor_ap, sNx_ap, sBk_ap, sCt_ap, sRetN_ap, sRaise_ap, e1_ap, e2_ap, e3_ap, eVar_0, eVar_s, eVarB_0, eVarB_s, eVarB_0o, eCon_ap, eCallB_ap, eCall_ap, eCallF_ap, eMeth_ap, aCons_ap, aNil_ap, eIter_ap, eIf_ap, eAnd_ap, eOr_ap, eNot_ap, eLst_ap, eTup_ap, bNot_ap, bAnd_ap, bOr_ap, tst_ap, tru_ap, R.bind_ok, R.of_some, rbd_ok, rbd_ex, obd_nx, obd_rt, obd_ex, obd_bk, obd_ct, scnd_t, scnd_f, cnd_t, cnd_f, cnd_or, cnd_and, bl_t, tru_bl, tru_non, ty_str, ty_lst, List.set_cons_zero, List.set_cons_succ, addI, subI, negI, ltI, leI, gtI, geI, eqI, neI, chain3_bb, chain3_t, chain3_f, fin_nx, fin_rt, fin_ex, sFz_ap, frzs_cons, frzs_nil, frz_s, frz_0z, frz_0o, frz_0n, bX_int, bX_str, bX_bl, bX_non, bX_lst, bX_tup, R.bind_ex, decT, decF, List.map_cons, List.isEmpty_cons, Bool.not_false]
    rw [ix_last]; rfl
theorem col_mark {L : Str} {T : List (List Int)} {one : List Int} {k : Nat} {c : List Int} {m : Int} {A : List (List Int)} (hk : k + 1 < one.length + 2) (ho : one.length ≤ 1000) (hc : c.length ≤ 1000) (hA : A.length ≤ 900000) {b2 b3 b4 b6 b9 b11 b12 b13 : B} : ∃ c12 c13,
    m_law_column_L3 [.fz (sysD L T), .fz (tupD one), b2, b3, b4, .fz (.int (k : Int)), b6, .ow (.lst (tupsD A)), .fz (tupD c), b9, .fz (.int m), b11, b12, b13] =
      .nx [.fz (sysD L T), .fz (tupD one), b2, b3, b4, .fz (.int (k : Int)), b6, .ow (.lst (tupsD (A ++ if condC T one k c m then [c ++ [m]] else []))), .fz (tupD c), b9, .fz (.int m), b11, c12, c13] := by
  have a1 : addD (.tup [.int (-1)]) (tupD one) = some (tupD ([-1] ++ one)) := tup_add (a := [-1]) (by rw [List.length_singleton]; omega) (by omega)
  have a2 : addD (tupD ([-1] ++ one)) (.tup [.int (-1)]) = some (tupD (bd one)) := tup_add (b := [-1]) (by simp; omega) (by rw [List.length_singleton]; omega)
  have a3 : addD (tupD c) (.tup [.int m]) = some (tupD (c ++ [m])) := tup_add (b := [m]) (by omega) (by rw [List.length_singleton]; omega)
  have la := bd_len one
  have ek : (k : Int) + 2 = ((k + 2 : Nat) : Int) := by omega
  have es := sl_two (b := bd one) (k := k) (by omega)
  have et : inE false (.tup [.int ((bd one).getD k 0), .int (above c), .int ((bd one).getD (k + 1) 0), .int m]) (.lst (tupsD T)) = some (.bl (condC T one k c m)) := in_tups (t := [(bd one).getD k 0, above c, (bd one).getD (k + 1) 0, m])
  have i0 : ixD (tupD [(bd one).getD k 0, (bd one).getD (k + 1) 0]) (.int 0) = some (.int ((bd one).getD k 0)) := rfl
  have i1 : ixD (tupD [(bd one).getD k 0, (bd one).getD (k + 1) 0]) (.int 1) = some (.int ((bd one).getD (k + 1) 0)) := rfl
  refine ⟨.fz (.int (above c)), .fz (tupD [(bd one).getD k 0, (bd one).getD (k + 1) 0]), ?_⟩
  unfold m_law_column_L3
  rw [sSeq_ap, sSet_ap, col_above hc, rbd_ok]
  simp only [sSeq_ap, sSet_ap, sSetX_ap, sRet_ap, sRetX_ap, sDrop_ap, sIf_ap, sFor_ap, sNx_ap, sBk_ap, sCt_ap, sRetN_ap, sRaise_ap, e1_ap, e2_ap, e3_ap, eVar_0, eVar_s, eVarB_0, eVarB_s, eVarB_0o, eCon_ap, eCallB_ap, eCall_ap, eCallF_ap, eMeth_ap, aCons_ap, aNil_ap, eIter_ap, eIf_ap, eAnd_ap, eOr_ap, eNot_ap, eLst_ap, eTup_ap, bNot_ap, bAnd_ap, bOr_ap, tst_ap, tru_ap, R.bind_ok, R.of_some, rbd_ok, rbd_ex, obd_nx, obd_rt, obd_ex, obd_bk, obd_ct, scnd_t, scnd_f, cnd_t, cnd_f, cnd_or, cnd_and, bl_t, tru_bl, tru_non, ty_str, ty_lst, List.set_cons_zero, List.set_cons_succ, addI, subI, negI, ltI, leI, gtI, geI, eqI, neI, chain3_bb, chain3_t, chain3_f, fin_nx, fin_rt, fin_ex, sFz_ap, frzs_cons, frzs_nil, frz_s, frz_0z, frz_0o, frz_0n, bX_int, bX_str, bX_bl, bX_non, bX_lst, bX_tup, R.bind_ex, decT, decF, neg1, List.length_cons, List.length_nil, if_pos (show 0 + 1 ≤ LIM by decide), a1, a2, eSl_ap, oPart_s, int_q, ek, es, bX_tupD, i0, i1, if_pos (show 0 + 1 + 1 + 1 + 1 ≤ LIM by decide), sys_1, et]
  cases hcd : condC T one k c m with
  | false => rw [if_neg (by decide), List.append_nil]; rfl
  | true =>
    rw [if_pos rfl, scnd_t, app_tups (A := A) (t := c ++ [m]) rfl ?_ (by omega)]
    · rfl
    · simp only [sSeq_ap, sSet_ap, sSetX_ap, sRet_ap, sRetX_ap, sDrop_ap, sIf_ap, sFor_ap, sNx_ap, sBk_ap, sCt_ap, sRetN_ap, sRaise_ap, e1_ap, e2_ap, e3_ap, eVar_0, eVar_s, eVarB_0, eVarB_s, eVarB_0o, eCon_ap, eCallB_ap, eCall_ap, eCallF_ap, eMeth_ap, aCons_ap, aNil_ap, eIter_ap, eIf_ap, eAnd_ap, eOr_ap, eNot_ap, eLst_ap, eTup_ap, bNot_ap, bAnd_ap, bOr_ap, tst_ap, tru_ap, R.bind_ok, R.of_some, rbd_ok, rbd_ex, obd_nx, obd_rt, obd_ex, obd_bk, obd_ct, scnd_t, scnd_f, cnd_t, cnd_f, cnd_or, cnd_and, bl_t, tru_bl, tru_non, ty_str, ty_lst, List.set_cons_zero, List.set_cons_succ, addI, subI, negI, ltI, leI, gtI, geI, eqI, neI, chain3_bb, chain3_t, chain3_f, fin_nx, fin_rt, fin_ex, sFz_ap, frzs_cons, frzs_nil, frz_s, frz_0z, frz_0o, frz_0n, bX_int, bX_str, bX_bl, bX_non, bX_lst, bX_tup, R.bind_ex, decT, decF, List.length_cons, List.length_nil, if_pos (show 0 + 1 ≤ LIM by decide), a3]
theorem col_marks {L : Str} {T : List (List Int)} {one : List Int} {k : Nat} {c : List Int} (hk : k + 1 < one.length + 2) (ho : one.length ≤ 1000) (hc : c.length ≤ 1000) {b2 b3 b4 b6 b9 b11 : B} : ∀ (ms : List Int) (A : List (List Int)) (b10 b12 b13 : B), A.length + ms.length ≤ 900000 → ∃ c10 c12 c13,
    forO (.nm 10) m_law_column_L3 (ms.map .int) [.fz (sysD L T), .fz (tupD one), b2, b3, b4, .fz (.int (k : Int)), b6, .ow (.lst (tupsD A)), .fz (tupD c), b9, b10, b11, b12, b13] =
      .nx [.fz (sysD L T), .fz (tupD one), b2, b3, b4, .fz (.int (k : Int)), b6, .ow (.lst (tupsD (A ++ (ms.filter (condC T one k c)).map fun m => c ++ [m]))), .fz (tupD c), b9, c10, b11, c12, c13]
  | [], A, b10, b12, b13, _ => ⟨b10, b12, b13, by simp⟩
  | m :: ms, A, b10, b12, b13, hl => by
    rw [List.length_cons] at hl
    obtain ⟨c12, c13, e1⟩ := col_mark (L := L) (T := T) (m := m) hk ho hc (A := A) (by omega) (b2 := b2) (b3 := b3) (b4 := b4) (b6 := b6) (b9 := b9) (b11 := b11) (b12 := b12) (b13 := b13)
    obtain ⟨d10, d12, d13, e2⟩ := col_marks (L := L) (T := T) hk ho hc (b2 := b2) (b3 := b3) (b4 := b4) (b6 := b6) (b9 := b9) (b11 := b11) ms (A ++ if condC T one k c m then [c ++ [m]] else []) (.fz (.int m)) c12 c13 (by
      rw [List.length_append]
      split <;> simp <;> omega)
    refine ⟨d10, d12, d13, ?_⟩
    rw [List.map_cons, forO_nm]
    simp only [List.set_cons_zero, List.set_cons_succ]
    rw [e1, loopO_nx, e2, List.append_assoc]
    have ef : (if condC T one k c m then [c ++ [m]] else []) ++ (ms.filter (condC T one k c)).map (fun m => c ++ [m]) = ((m :: ms).filter (condC T one k c)).map fun m => c ++ [m] := by
      cases hg : condC T one k c m with
      | true => rw [List.filter_cons_of_pos hg]; rfl
      | false => rw [List.filter_cons_of_neg (by rw [hg]; decide)]; rfl
    rw [ef]
theorem col_some {L : Str} {T : List (List Int)} {one : List Int} {tx : Str} {k : Nat} (hL : L.length ≤ 16) (ht : tx.length = one.length) (hk : k + 1 < one.length + 2) (ho : one.length ≤ 1000) {b3 b4 b6 b11 : B} : ∀ (S A : List (List Int)) (b8 b9 b10 b12 b13 : B), (∀ c ∈ S, c.length ≤ 1000) → A.length + S.length * 17 ≤ 900000 → ∃ c8 c9 c10 c12 c13,
    forO (.nm 8) m_law_column_L4 (tupsD S) [.fz (sysD L T), .fz (tupD one), .fz (.str tx), b3, b4, .fz (.int (k : Int)), b6, .ow (.lst (tupsD A)), b8, b9, b10, b11, b12, b13] =
      .nx [.fz (sysD L T), .fz (tupD one), .fz (.str tx), b3, b4, .fz (.int (k : Int)), b6, .ow (.lst (tupsD (A ++ S.flatMap (stepC L T one tx k)))), c8, c9, c10, b11, c12, c13]
  | [], A, b8, b9, b10, b12, b13, _, _ => ⟨b8, b9, b10, b12, b13, by simp [tupsD]⟩
  | c :: S, A, b8, b9, b10, b12, b13, hS, hl => by
    rw [List.length_cons] at hl
    have hm := marksC_len L tx k hL
    obtain ⟨c10, c12, c13, e1⟩ := col_marks (L := L) (T := T) hk ho (hS c (by simp)) (b2 := .fz (.str tx)) (b3 := b3) (b4 := b4) (b6 := b6) (b9 := .fz (.lst ((marksC L tx k).map .int))) (b11 := b11) (marksC L tx k) A b10 b12 b13 (by omega)
    have hs : (stepC L T one tx k c).length ≤ 17 := stepC_len hL
    obtain ⟨d8, d9, d10, d12, d13, e2⟩ := col_some (T := T) hL ht hk ho (b3 := b3) (b4 := b4) (b6 := b6) (b11 := b11) S (A ++ stepC L T one tx k c) (.fz (tupD c)) (.fz (.lst ((marksC L tx k).map .int))) c10 c12 c13 (fun q hq => hS q (List.mem_cons_of_mem _ hq)) (by
      rw [List.length_append]; omega)
    refine ⟨d8, d9, d10, d12, d13, ?_⟩
    have e3 : m_law_column_L4 [.fz (sysD L T), .fz (tupD one), .fz (.str tx), b3, b4, .fz (.int (k : Int)), b6, .ow (.lst (tupsD A)), .fz (tupD c), b9, b10, b11, b12, b13] = .nx [.fz (sysD L T), .fz (tupD one), .fz (.str tx), b3, b4, .fz (.int (k : Int)), b6, .ow (.lst (tupsD (A ++ stepC L T one tx k c))), .fz (tupD c), .fz (.lst ((marksC L tx k).map .int)), c10, b11, c12, c13] := by
      unfold m_law_column_L4
      simp only [sSeq_ap, sSet_ap, sSetX_ap, sRet_ap, sRetX_ap, sDrop_ap, sIf_ap, sFor_ap, sNx_ap, sBk_ap, sCt_ap, sRetN_ap, sRaise_ap, e1_ap, e2_ap, e3_ap, eVar_0, eVar_s, eVarB_0, eVarB_s, eVarB_0o, eCon_ap, eCallB_ap, eCall_ap, eCallF_ap, eMeth_ap, aCons_ap, aNil_ap, eIter_ap, eIf_ap, eAnd_ap, eOr_ap, eNot_ap, eLst_ap, eTup_ap, bNot_ap, bAnd_ap, bOr_ap, tst_ap, tru_ap, R.bind_ok, R.of_some, rbd_ok, rbd_ex, obd_nx, obd_rt, obd_ex, obd_bk, obd_ct, scnd_t, scnd_f, cnd_t, cnd_f, cnd_or, cnd_and, bl_t, tru_bl, tru_non, ty_str, ty_lst, List.set_cons_zero, List.set_cons_succ, addI, subI, negI, ltI, leI, gtI, geI, eqI, neI, chain3_bb, chain3_t, chain3_f, fin_nx, fin_rt, fin_ex, sFz_ap, frzs_cons, frzs_nil, frz_s, frz_0z, frz_0o, frz_0n, bX_int, bX_str, bX_bl, bX_non, bX_lst, bX_tup, R.bind_ex, decT, decF, neg1, List.length_cons, List.length_nil, if_pos (show 0 + 1 ≤ LIM by decide), len_str (lim1 (show tx.length ≤ 1000000 by omega))]
      by_cases hlt : k < tx.length
      · rw [decide_eq_true (show (k : Int) < (tx.length : Int) by omega)]
        have hr : eRng (aCons (eCallB lenD (aCons (QY.e2 ixD (eVarB 0) (eCon (.int (0)))) aNil)) aNil) [.fz (sysD L T), .fz (tupD one), .fz (.str tx), b3, b4, .fz (.int (k : Int)), b6, .ow (.lst (tupsD A)), .fz (tupD c), .ow (.lst [.int (-1)]), b10, b11, b12, b13] = .ok ((List.range L.length).map fun (i : Nat) => .int (i : Int)) := by
          refine rngE1 ?_ (by omega)
          simp only [sSeq_ap, sSet_ap, sSetX_ap, sRet_ap, sRetX_ap, sDrop_ap, sIf_ap, sFor_ap, sNx_ap, sBk_ap, sCt_ap, sRetN_ap, sRaise_ap, e1_ap, e2_ap, e3_ap, eVar_0, eVar_s, eVarB_0, eVarB_s, eVarB_0o, eCon_ap, eCallB_ap, eCall_ap, eCallF_ap, eMeth_ap, aCons_ap, aNil_ap, eIter_ap, eIf_ap, eAnd_ap, eOr_ap, eNot_ap, eLst_ap, eTup_ap, bNot_ap, bAnd_ap, bOr_ap, tst_ap, tru_ap, R.bind_ok, R.of_some, rbd_ok, rbd_ex, obd_nx, obd_rt, obd_ex, obd_bk, obd_ct, scnd_t, scnd_f, cnd_t, cnd_f, cnd_or, cnd_and, bl_t, tru_bl, tru_non, ty_str, ty_lst, List.set_cons_zero, List.set_cons_succ, addI, subI, negI, ltI, leI, gtI, geI, eqI, neI, chain3_bb, chain3_t, chain3_f, fin_nx, fin_rt, fin_ex, sFz_ap, frzs_cons, frzs_nil, frz_s, frz_0z, frz_0o, frz_0n, bX_int, bX_str, bX_bl, bX_non, bX_lst, bX_tup, R.bind_ex, decT, decF, sys_0, len_str (lim1 (show L.length ≤ 1000000 by omega))]
        have lc := lc_gen (it := eRng (aCons (eCallB lenD (aCons (QY.e2 ixD (eVarB 0) (eCon (.int (0)))) aNil)) aNil)) (t := .nm 10) (tt := m_law_column_T2) (elt := m_law_column_C1) (vs := [10]) (ρ := [.fz (sysD L T), .fz (tupD one), .fz (.str tx), b3, b4, .fz (.int (k : Int)), b6, .ow (.lst (tupsD A)), .fz (tupD c), .ow (.lst [.int (-1)]), b10, b11, b12, b13]) (f := fun (i : Nat) => .int (i : Int)) (g := fun (i : Nat) => .int (i : Int)) (p := fun m => decide (letAt L m = letAt tx k)) (A := List.range L.length) hr (by rw [List.length_range]; omega) (fun m hm => ⟨_, rfl, by
          have hm' := List.mem_range.mp hm
          unfold m_law_column_T2
          simp only [sSeq_ap, sSet_ap, sSetX_ap, sRet_ap, sRetX_ap, sDrop_ap, sIf_ap, sFor_ap, sNx_ap, sBk_ap, sCt_ap, sRetN_ap, sRaise_ap, e1_ap, e2_ap, e3_ap, eVar_0, eVar_s, eVarB_0, eVarB_s, eVarB_0o, eCon_ap, eCallB_ap, eCall_ap, eCallF_ap, eMeth_ap, aCons_ap, aNil_ap, eIter_ap, eIf_ap, eAnd_ap, eOr_ap, eNot_ap, eLst_ap, eTup_ap, bNot_ap, bAnd_ap, bOr_ap, tst_ap, tru_ap, R.bind_ok, R.of_some, rbd_ok, rbd_ex, obd_nx, obd_rt, obd_ex, obd_bk, obd_ct, scnd_t, scnd_f, cnd_t, cnd_f, cnd_or, cnd_and, bl_t, tru_bl, tru_non, ty_str, ty_lst, List.set_cons_zero, List.set_cons_succ, addI, subI, negI, ltI, leI, gtI, geI, eqI, neI, chain3_bb, chain3_t, chain3_f, fin_nx, fin_rt, fin_ex, sFz_ap, frzs_cons, frzs_nil, frz_s, frz_0z, frz_0o, frz_0n, bX_int, bX_str, bX_bl, bX_non, bX_lst, bX_tup, R.bind_ex, decT, decF, wipeB, sys_0, ix_letter hm' (by omega), ix_letter hlt (by omega), eqS, one_eq], fun _ => by unfold m_law_column_C1; simp only [sSeq_ap, sSet_ap, sSetX_ap, sRet_ap, sRetX_ap, sDrop_ap, sIf_ap, sFor_ap, sNx_ap, sBk_ap, sCt_ap, sRetN_ap, sRaise_ap, e1_ap, e2_ap, e3_ap, eVar_0, eVar_s, eVarB_0, eVarB_s, eVarB_0o, eCon_ap, eCallB_ap, eCall_ap, eCallF_ap, eMeth_ap, aCons_ap, aNil_ap, eIter_ap, eIf_ap, eAnd_ap, eOr_ap, eNot_ap, eLst_ap, eTup_ap, bNot_ap, bAnd_ap, bOr_ap, tst_ap, tru_ap, R.bind_ok, R.of_some, rbd_ok, rbd_ex, obd_nx, obd_rt, obd_ex, obd_bk, obd_ct, scnd_t, scnd_f, cnd_t, cnd_f, cnd_or, cnd_and, bl_t, tru_bl, tru_non, ty_str, ty_lst, List.set_cons_zero, List.set_cons_succ, addI, subI, negI, ltI, leI, gtI, geI, eqI, neI, chain3_bb, chain3_t, chain3_f, fin_nx, fin_rt, fin_ex, sFz_ap, frzs_cons, frzs_nil, frz_s, frz_0z, frz_0o, frz_0n, bX_int, bX_str, bX_bl, bX_non, bX_lst, bX_tup, R.bind_ex, decT, decF, wipeB]⟩)
        simp only [sSeq_ap, sSet_ap, sSetX_ap, sRet_ap, sRetX_ap, sDrop_ap, sIf_ap, sFor_ap, sNx_ap, sBk_ap, sCt_ap, sRetN_ap, sRaise_ap, e1_ap, e2_ap, e3_ap, eVar_0, eVar_s, eVarB_0, eVarB_s, eVarB_0o, eCon_ap, eCallB_ap, eCall_ap, eCallF_ap, eMeth_ap, aCons_ap, aNil_ap, eIter_ap, eIf_ap, eAnd_ap, eOr_ap, eNot_ap, eLst_ap, eTup_ap, bNot_ap, bAnd_ap, bOr_ap, tst_ap, tru_ap, R.bind_ok, R.of_some, rbd_ok, rbd_ex, obd_nx, obd_rt, obd_ex, obd_bk, obd_ct, scnd_t, scnd_f, cnd_t, cnd_f, cnd_or, cnd_and, bl_t, tru_bl, tru_non, ty_str, ty_lst, List.set_cons_zero, List.set_cons_succ, addI, subI, negI, ltI, leI, gtI, geI, eqI, neI, chain3_bb, chain3_t, chain3_f, fin_nx, fin_rt, fin_ex, sFz_ap, frzs_cons, frzs_nil, frz_s, frz_0z, frz_0o, frz_0n, bX_int, bX_str, bX_bl, bX_non, bX_lst, bX_tup, R.bind_ex, decT, decF, lc]
        have em : (marksC L tx k).map D.int = ((List.range L.length).filter fun m => decide (letAt L m = letAt tx k)).map fun (i : Nat) => .int (i : Int) := by
          unfold marksC
          rw [if_pos hlt, List.map_map]; rfl
        rw [← em]
        simp only [sSeq_ap, sSet_ap, sSetX_ap, sRet_ap, sRetX_ap, sDrop_ap, sIf_ap, sFor_ap, sNx_ap, sBk_ap, sCt_ap, sRetN_ap, sRaise_ap, e1_ap, e2_ap, e3_ap, eVar_0, eVar_s, eVarB_0, eVarB_s, eVarB_0o, eCon_ap, eCallB_ap, eCall_ap, eCallF_ap, eMeth_ap, aCons_ap, aNil_ap, eIter_ap, eIf_ap, eAnd_ap, eOr_ap, eNot_ap, eLst_ap, eTup_ap, bNot_ap, bAnd_ap, bOr_ap, tst_ap, tru_ap, R.bind_ok, R.of_some, rbd_ok, rbd_ex, obd_nx, obd_rt, obd_ex, obd_bk, obd_ct, scnd_t, scnd_f, cnd_t, cnd_f, cnd_or, cnd_and, bl_t, tru_bl, tru_non, ty_str, ty_lst, List.set_cons_zero, List.set_cons_succ, addI, subI, negI, ltI, leI, gtI, geI, eqI, neI, chain3_bb, chain3_t, chain3_f, fin_nx, fin_rt, fin_ex, sFz_ap, frzs_cons, frzs_nil, frz_s, frz_0z, frz_0o, frz_0n, bX_int, bX_str, bX_bl, bX_non, bX_lst, bX_tup, R.bind_ex, decT, decF, items_lst]
        rw [e1]
        rfl
      · rw [decide_eq_false (show ¬ (k : Int) < (tx.length : Int) by omega)]
        have em : (marksC L tx k).map D.int = [.int (-1)] := by
          unfold marksC
          rw [if_neg hlt]; rfl
        rw [em] at e1
        simp only [sSeq_ap, sSet_ap, sSetX_ap, sRet_ap, sRetX_ap, sDrop_ap, sIf_ap, sFor_ap, sNx_ap, sBk_ap, sCt_ap, sRetN_ap, sRaise_ap, e1_ap, e2_ap, e3_ap, eVar_0, eVar_s, eVarB_0, eVarB_s, eVarB_0o, eCon_ap, eCallB_ap, eCall_ap, eCallF_ap, eMeth_ap, aCons_ap, aNil_ap, eIter_ap, eIf_ap, eAnd_ap, eOr_ap, eNot_ap, eLst_ap, eTup_ap, bNot_ap, bAnd_ap, bOr_ap, tst_ap, tru_ap, R.bind_ok, R.of_some, rbd_ok, rbd_ex, obd_nx, obd_rt, obd_ex, obd_bk, obd_ct, scnd_t, scnd_f, cnd_t, cnd_f, cnd_or, cnd_and, bl_t, tru_bl, tru_non, ty_str, ty_lst, List.set_cons_zero, List.set_cons_succ, addI, subI, negI, ltI, leI, gtI, geI, eqI, neI, chain3_bb, chain3_t, chain3_f, fin_nx, fin_rt, fin_ex, sFz_ap, frzs_cons, frzs_nil, frz_s, frz_0z, frz_0o, frz_0n, bX_int, bX_str, bX_bl, bX_non, bX_lst, bX_tup, R.bind_ex, decT, decF, items_lst]
        have e1 : forO (Tgt.nm 10) m_law_column_L3 [.int (-1)] _ = _ := e1
        rw [e1, em]
        rfl
    rw [show tupsD (c :: S) = tupD c :: tupsD S from rfl, forO_nm]
    simp only [List.set_cons_zero, List.set_cons_succ]
    rw [e3, loopO_nx, e2, List.append_assoc, List.flatMap_cons]
theorem col_ks {L : Str} {T : List (List Int)} {one : List Int} {tx : Str} (hL : L.length ≤ 16) (ht : tx.length = one.length) (ho : one.length ≤ 4) {b3 b6 b11 : B} : ∀ (ks : List Nat) (S : List (List Int)) (b4 b5 b7 b8 b9 b10 b12 b13 : B), (b4 = .fz (.lst (tupsD S)) ∨ b4 = .ow (.lst (tupsD S))) → (∀ k ∈ ks, k < one.length + 1) → (∀ c ∈ S, c.length + ks.length ≤ 1000) → (∀ q, (levelC L T one tx (ks.take q) S).length ≤ 50000) → ∃ c4 c5 c7 c8 c9 c10 c12 c13,
    (c4 = .fz (.lst (tupsD (levelC L T one tx ks S))) ∨ c4 = .ow (.lst (tupsD (levelC L T one tx ks S)))) ∧
    forO (.nm 5) m_law_column_L5 (ks.map fun (k : Nat) => .int (k : Int)) [.fz (sysD L T), .fz (tupD one), .fz (.str tx), b3, b4, b5, b6, b7, b8, b9, b10, b11, b12, b13] =
      .nx [.fz (sysD L T), .fz (tupD one), .fz (.str tx), b3, c4, c5, b6, c7, c8, c9, c10, b11, c12, c13]
  | [], S, b4, b5, b7, b8, b9, b10, b12, b13, h4, _, _, _ => ⟨b4, b5, b7, b8, b9, b10, b12, b13, h4, rfl⟩
  | k :: ks, S, b4, b5, b7, b8, b9, b10, b12, b13, h4, hk, hS, hq => by
    have h0 := hq 0
    have h0 : S.length ≤ 50000 := h0
    obtain ⟨d8, d9, d10, d12, d13, e1⟩ := col_some (T := T) hL ht (show k + 1 < one.length + 2 by have := hk k (by simp); omega) (by omega) (b3 := b3) (b4 := .fz (.lst (tupsD S))) (b6 := b6) (b11 := b11) S [] b8 b9 b10 b12 b13 (fun c hc => by have := hS c hc; omega) (by rw [List.length_nil]; omega)
    rw [List.nil_append] at e1
    obtain ⟨f4, f5, f7, f8, f9, f10, f12, f13, h4', e2⟩ := col_ks (T := T) hL ht ho (b3 := b3) (b6 := b6) (b11 := b11) ks (S.flatMap (stepC L T one tx k)) (.fz (.lst (tupsD (S.flatMap (stepC L T one tx k))))) (.fz (.int (k : Int))) (.fz (.lst (tupsD (S.flatMap (stepC L T one tx k))))) d8 d9 d10 d12 d13 (.inl rfl) (fun q hq => hk q (List.mem_cons_of_mem _ hq)) (fun c hc => by
      obtain ⟨c0, h1, h2⟩ := List.mem_flatMap.mp hc
      obtain ⟨m, _, rfl⟩ := List.mem_map.mp h2
      have := hS c0 h1
      rw [List.length_cons] at this
      rw [List.length_append, List.length_singleton]; omega) (fun q => hq (q + 1))
    refine ⟨f4, f5, f7, f8, f9, f10, f12, f13, h4', ?_⟩
    have e3 : m_law_column_L5 [.fz (sysD L T), .fz (tupD one), .fz (.str tx), b3, b4, .fz (.int (k : Int)), b6, b7, b8, b9, b10, b11, b12, b13] = .nx [.fz (sysD L T), .fz (tupD one), .fz (.str tx), b3, .fz (.lst (tupsD (S.flatMap (stepC L T one tx k)))), .fz (.int (k : Int)), b6, .fz (.lst (tupsD (S.flatMap (stepC L T one tx k)))), d8, d9, d10, b11, d12, d13] := by
      unfold m_law_column_L5
      simp only [sSeq_ap, sSet_ap, sSetX_ap, sRet_ap, sRetX_ap, sDrop_ap, sIf_ap, sFor_ap, sNx_ap, sBk_ap, sCt_ap, sRetN_ap, sRaise_ap, e1_ap, e2_ap, e3_ap, eVar_0, eVar_s, eVarB_0, eVarB_s, eVarB_0o, eCon_ap, eCallB_ap, eCall_ap, eCallF_ap, eMeth_ap, aCons_ap, aNil_ap, eIter_ap, eIf_ap, eAnd_ap, eOr_ap, eNot_ap, eLst_ap, eTup_ap, bNot_ap, bAnd_ap, bOr_ap, tst_ap, tru_ap, R.bind_ok, R.of_some, rbd_ok, rbd_ex, obd_nx, obd_rt, obd_ex, obd_bk, obd_ct, scnd_t, scnd_f, cnd_t, cnd_f, cnd_or, cnd_and, bl_t, tru_bl, tru_non, ty_str, ty_lst, List.set_cons_zero, List.set_cons_succ, addI, subI, negI, ltI, leI, gtI, geI, eqI, neI, chain3_bb, chain3_t, chain3_f, fin_nx, fin_rt, fin_ex, sFz_ap, frzs_cons, frzs_nil, frz_s, frz_0z, frz_0o, frz_0n, bX_int, bX_str, bX_bl, bX_non, bX_lst, bX_tup, R.bind_ex, decT, decF, List.length_nil, if_pos (Nat.zero_le LIM)]
      have ez : frz (b4 :: [.fz (.int (k : Int)), b6, .ow (.lst []), b8, b9, b10, b11, b12, b13]) 0 = .fz (.lst (tupsD S)) :: [.fz (.int (k : Int)), b6, .ow (.lst []), b8, b9, b10, b11, b12, b13] := by
        rcases h4 with rfl | rfl
        · exact frz_0z
        · exact frz_0o
      rw [ez]
      simp only [sSeq_ap, sSet_ap, sSetX_ap, sRet_ap, sRetX_ap, sDrop_ap, sIf_ap, sFor_ap, sNx_ap, sBk_ap, sCt_ap, sRetN_ap, sRaise_ap, e1_ap, e2_ap, e3_ap, eVar_0, eVar_s, eVarB_0, eVarB_s, eVarB_0o, eCon_ap, eCallB_ap, eCall_ap, eCallF_ap, eMeth_ap, aCons_ap, aNil_ap, eIter_ap, eIf_ap, eAnd_ap, eOr_ap, eNot_ap, eLst_ap, eTup_ap, bNot_ap, bAnd_ap, bOr_ap, tst_ap, tru_ap, R.bind_ok, R.of_some, rbd_ok, rbd_ex, obd_nx, obd_rt, obd_ex, obd_bk, obd_ct, scnd_t, scnd_f, cnd_t, cnd_f, cnd_or, cnd_and, bl_t, tru_bl, tru_non, ty_str, ty_lst, List.set_cons_zero, List.set_cons_succ, addI, subI, negI, ltI, leI, gtI, geI, eqI, neI, chain3_bb, chain3_t, chain3_f, fin_nx, fin_rt, fin_ex, sFz_ap, frzs_cons, frzs_nil, frz_s, frz_0z, frz_0o, frz_0n, bX_int, bX_str, bX_bl, bX_non, bX_lst, bX_tup, R.bind_ex, decT, decF, items_lst]
      have e1 : forO (Tgt.nm 8) m_law_column_L4 (tupsD S) [.fz (sysD L T), .fz (tupD one), .fz (.str tx), b3, .fz (.lst (tupsD S)), .fz (.int (k : Int)), b6, .ow (.lst []), b8, b9, b10, b11, b12, b13] = _ := e1
      rw [e1]
      simp only [sSeq_ap, sSet_ap, sSetX_ap, sRet_ap, sRetX_ap, sDrop_ap, sIf_ap, sFor_ap, sNx_ap, sBk_ap, sCt_ap, sRetN_ap, sRaise_ap, e1_ap, e2_ap, e3_ap, eVar_0, eVar_s, eVarB_0, eVarB_s, eVarB_0o, eCon_ap, eCallB_ap, eCall_ap, eCallF_ap, eMeth_ap, aCons_ap, aNil_ap, eIter_ap, eIf_ap, eAnd_ap, eOr_ap, eNot_ap, eLst_ap, eTup_ap, bNot_ap, bAnd_ap, bOr_ap, tst_ap, tru_ap, R.bind_ok, R.of_some, rbd_ok, rbd_ex, obd_nx, obd_rt, obd_ex, obd_bk, obd_ct, scnd_t, scnd_f, cnd_t, cnd_f, cnd_or, cnd_and, bl_t, tru_bl, tru_non, ty_str, ty_lst, List.set_cons_zero, List.set_cons_succ, addI, subI, negI, ltI, leI, gtI, geI, eqI, neI, chain3_bb, chain3_t, chain3_f, fin_nx, fin_rt, fin_ex, sFz_ap, frzs_cons, frzs_nil, frz_s, frz_0z, frz_0o, frz_0n, bX_int, bX_str, bX_bl, bX_non, bX_lst, bX_tup, R.bind_ex, decT, decF]
    rw [List.map_cons, forO_nm]
    simp only [List.set_cons_zero, List.set_cons_succ]
    rw [e3, loopO_nx, e2]
theorem sem_column {L : Str} {T : List (List Int)} {one : List Int} {tx : Str} {r : Bool} (hL : L.length ≤ 8) (ht : tx.length = one.length) (ho : one.length ≤ 4) : sem_law_column [sysD L T, tupD one, .str tx, .bl r] = .ok (.lst (tupsD ((behP L T one (some tx)).filter fun c => !r || lastP T c))) := by
  obtain ⟨c4, c5, c7, c8, c9, c10, c12, c13, h4, e⟩ := col_ks (T := T) (show L.length ≤ 16 by omega) ht ho (b3 := .fz (.bl r)) (b6 := .no) (b11 := .no) (List.range (one.length + 1)) [[]] (.ow (.lst (tupsD [[]]))) .no .no .no .no .no .no .no (.inr rfl) (fun k hk => List.mem_range.mp hk) (fun c hc => by
    rw [List.mem_singleton] at hc; subst hc
    rw [List.length_range, List.length_nil]; omega) (fun q => by
    refine Nat.le_trans (levelC_len (L := L) hL _ _) ?_
    rw [List.length_singleton, Nat.one_mul, List.length_take, List.length_range]
    exact Nat.le_trans (Nat.pow_le_pow_right (by decide) (show min q (one.length + 1) ≤ 5 by omega)) (by decide))
  have hlen := levelC_len (T := T) (one := one) (tx := tx) hL (List.range (one.length + 1)) [[]]
  rw [List.length_singleton, Nat.one_mul, List.length_range] at hlen
  have hlen : (levelC L T one tx (List.range (one.length + 1)) [[]]).length ≤ 50000 := Nat.le_trans hlen (Nat.le_trans (Nat.pow_le_pow_right (by decide) (show one.length + 1 ≤ 5 by omega)) (by decide))
  have hr : eRng (aCons (QY.e2 addD (eCallB lenD (aCons (eVarB 2) aNil)) (eCon (.int (1)))) aNil) [.fz (sysD L T), .fz (tupD one), .fz (.str tx), .fz (.bl r), .ow (.lst [.tup []]), .no, .no, .no, .no, .no, .no, .no, .no, .no] = .ok ((List.range (one.length + 1)).map fun (i : Nat) => .int (i : Int)) := by
    refine rngE1 ?_ (by omega)
    simp only [sSeq_ap, sSet_ap, sSetX_ap, sRet_ap, sRetX_ap, sDrop_ap, sIf_ap, sFor_ap, sNx_ap, sBk_ap, sCt_ap, sRetN_ap, sRaise_ap, e1_ap, e2_ap, e3_ap, eVar_0, eVar_s, eVarB_0, eVarB_s, eVarB_0o, eCon_ap, eCallB_ap, eCall_ap, eCallF_ap, eMeth_ap, aCons_ap, aNil_ap, eIter_ap, eIf_ap, eAnd_ap, eOr_ap, eNot_ap, eLst_ap, eTup_ap, bNot_ap, bAnd_ap, bOr_ap, tst_ap, tru_ap, R.bind_ok, R.of_some, rbd_ok, rbd_ex, obd_nx, obd_rt, obd_ex, obd_bk, obd_ct, scnd_t, scnd_f, cnd_t, cnd_f, cnd_or, cnd_and, bl_t, tru_bl, tru_non, ty_str, ty_lst, List.set_cons_zero, List.set_cons_succ, addI, subI, negI, ltI, leI, gtI, geI, eqI, neI, chain3_bb, chain3_t, chain3_f, fin_nx, fin_rt, fin_ex, sFz_ap, frzs_cons, frzs_nil, frz_s, frz_0z, frz_0o, frz_0n, bX_int, bX_str, bX_bl, bX_non, bX_lst, bX_tup, R.bind_ex, decT, decF, len_str (lim1 (show tx.length ≤ 1000000 by omega)), ht]
    rw [show (one.length : Int) + 1 = ((one.length + 1 : Nat) : Int) by omega]
  rw [at_law_column]; unfold m_law_column
  simp only [sSeq_ap, sSet_ap, sSetX_ap, sRet_ap, sRetX_ap, sDrop_ap, sIf_ap, sFor_ap, sNx_ap, sBk_ap, sCt_ap, sRetN_ap, sRaise_ap, e1_ap, e2_ap, e3_ap, eVar_0, eVar_s, eVarB_0, eVarB_s, eVarB_0o, eCon_ap, eCallB_ap, eCall_ap, eCallF_ap, eMeth_ap, aCons_ap, aNil_ap, eIter_ap, eIf_ap, eAnd_ap, eOr_ap, eNot_ap, eLst_ap, eTup_ap, bNot_ap, bAnd_ap, bOr_ap, tst_ap, tru_ap, R.bind_ok, R.of_some, rbd_ok, rbd_ex, obd_nx, obd_rt, obd_ex, obd_bk, obd_ct, scnd_t, scnd_f, cnd_t, cnd_f, cnd_or, cnd_and, bl_t, tru_bl, tru_non, ty_str, ty_lst, List.set_cons_zero, List.set_cons_succ, addI, subI, negI, ltI, leI, gtI, geI, eqI, neI, chain3_bb, chain3_t, chain3_f, fin_nx, fin_rt, fin_ex, sFz_ap, frzs_cons, frzs_nil, frz_s, frz_0z, frz_0o, frz_0n, bX_int, bX_str, bX_bl, bX_non, bX_lst, bX_tup, R.bind_ex, decT, decF, List.length_cons, List.length_nil, if_pos (Nat.zero_le LIM), if_pos (show 0 + 1 ≤ LIM by decide)]
  rw [hr, rbd_ok]
  have e : forO (Tgt.nm 5) m_law_column_L5 ((List.range (one.length + 1)).map fun (k : Nat) => D.int (k : Int)) [.fz (sysD L T), .fz (tupD one), .fz (.str tx), .fz (.bl r), .ow (.lst [.tup []]), .no, .no, .no, .no, .no, .no, .no, .no, .no] = _ := e
  rw [e]
  have hs := col_same (L := L) (T := T) ht
  generalize levelC L T one tx (List.range (one.length + 1)) [[]] = S at hs hlen h4
  simp only [sSeq_ap, sSet_ap, sSetX_ap, sRet_ap, sRetX_ap, sDrop_ap, sIf_ap, sFor_ap, sNx_ap, sBk_ap, sCt_ap, sRetN_ap, sRaise_ap, e1_ap, e2_ap, e3_ap, eVar_0, eVar_s, eVarB_0, eVarB_s, eVarB_0o, eCon_ap, eCallB_ap, eCall_ap, eCallF_ap, eMeth_ap, aCons_ap, aNil_ap, eIter_ap, eIf_ap, eAnd_ap, eOr_ap, eNot_ap, eLst_ap, eTup_ap, bNot_ap, bAnd_ap, bOr_ap, tst_ap, tru_ap, R.bind_ok, R.of_some, rbd_ok, rbd_ex, obd_nx, obd_rt, obd_ex, obd_bk, obd_ct, scnd_t, scnd_f, cnd_t, cnd_f, cnd_or, cnd_and, bl_t, tru_bl, tru_non, ty_str, ty_lst, List.set_cons_zero, List.set_cons_succ, addI, subI, negI, ltI, leI, gtI, geI, eqI, neI, chain3_bb, chain3_t, chain3_f, fin_nx, fin_rt, fin_ex, sFz_ap, frzs_cons, frzs_nil, frz_s, frz_0z, frz_0o, frz_0n, bX_int, bX_str, bX_bl, bX_non, bX_lst, bX_tup, R.bind_ex, decT, decF]
  have ez : frz (c4 :: [c5, .no, c7, c8, c9, c10, .no, c12, c13]) 0 = .fz (.lst (tupsD S)) :: [c5, .no, c7, c8, c9, c10, .no, c12, c13] := by
    rcases h4 with rfl | rfl
    · exact frz_0z
    · exact frz_0o
  rw [ez]
  have l1 := lc_gen (it := eIter (eVar 4)) (t := .nm 8) (tt := fun _ => .ok true) (elt := m_law_column_C6) (vs := [8]) (ρ := [.fz (sysD L T), .fz (tupD one), .fz (.str tx), .fz (.bl r), .fz (.lst (tupsD S)), c5, .no, c7, c8, c9, c10, .no, c12, c13]) (f := tupD) (g := fun c => tupD c.dropLast) (p := fun _ => true) (A := S) (by simp only [sSeq_ap, sSet_ap, sSetX_ap, sRet_ap, sRetX_ap, sDrop_ap, sIf_ap, sFor_ap, sNx_ap, sBk_ap, sCt_ap, sRetN_ap, sRaise_ap, e1_ap, e2_ap, e3_ap, eVar_0, eVar_s, eVarB_0, eVarB_s, eVarB_0o, eCon_ap, eCallB_ap, eCall_ap, eCallF_ap, eMeth_ap, aCons_ap, aNil_ap, eIter_ap, eIf_ap, eAnd_ap, eOr_ap, eNot_ap, eLst_ap, eTup_ap, bNot_ap, bAnd_ap, bOr_ap, tst_ap, tru_ap, R.bind_ok, R.of_some, rbd_ok, rbd_ex, obd_nx, obd_rt, obd_ex, obd_bk, obd_ct, scnd_t, scnd_f, cnd_t, cnd_f, cnd_or, cnd_and, bl_t, tru_bl, tru_non, ty_str, ty_lst, List.set_cons_zero, List.set_cons_succ, addI, subI, negI, ltI, leI, gtI, geI, eqI, neI, chain3_bb, chain3_t, chain3_f, fin_nx, fin_rt, fin_ex, sFz_ap, frzs_cons, frzs_nil, frz_s, frz_0z, frz_0o, frz_0n, bX_int, bX_str, bX_bl, bX_non, bX_lst, bX_tup, R.bind_ex, decT, decF, items_lst]; rfl) (by omega) (fun c _ => ⟨_, rfl, rfl, fun _ => by
    unfold m_law_column_C6
    simp only [sSeq_ap, sSet_ap, sSetX_ap, sRet_ap, sRetX_ap, sDrop_ap, sIf_ap, sFor_ap, sNx_ap, sBk_ap, sCt_ap, sRetN_ap, sRaise_ap, e1_ap, e2_ap, e3_ap, eVar_0, eVar_s, eVarB_0, eVarB_s, eVarB_0o, eCon_ap, eCallB_ap, eCall_ap, eCallF_ap, eMeth_ap, aCons_ap, aNil_ap, eIter_ap, eIf_ap, eAnd_ap, eOr_ap, eNot_ap, eLst_ap, eTup_ap, bNot_ap, bAnd_ap, bOr_ap, tst_ap, tru_ap, R.bind_ok, R.of_some, rbd_ok, rbd_ex, obd_nx, obd_rt, obd_ex, obd_bk, obd_ct, scnd_t, scnd_f, cnd_t, cnd_f, cnd_or, cnd_and, bl_t, tru_bl, tru_non, ty_str, ty_lst, List.set_cons_zero, List.set_cons_succ, addI, subI, negI, ltI, leI, gtI, geI, eqI, neI, chain3_bb, chain3_t, chain3_f, fin_nx, fin_rt, fin_ex, sFz_ap, frzs_cons, frzs_nil, frz_s, frz_0z, frz_0o, frz_0n, bX_int, bX_str, bX_bl, bX_non, bX_lst, bX_tup, R.bind_ex, decT, decF, wipeB, eSl_ap, oPart_n, oPart_s, neg1, int_q, sl_dl]⟩)
  rw [List.filter_eq_self.mpr (fun _ _ => rfl)] at l1
  have e1 : S.map (fun c => tupD c.dropLast) = tupsD (behP L T one (some tx)) := by
    rw [← hs]; unfold tupsD; rw [List.map_map]; rfl
  rw [e1] at l1
  simp only [sSeq_ap, sSet_ap, sSetX_ap, sRet_ap, sRetX_ap, sDrop_ap, sIf_ap, sFor_ap, sNx_ap, sBk_ap, sCt_ap, sRetN_ap, sRaise_ap, e1_ap, e2_ap, e3_ap, eVar_0, eVar_s, eVarB_0, eVarB_s, eVarB_0o, eCon_ap, eCallB_ap, eCall_ap, eCallF_ap, eMeth_ap, aCons_ap, aNil_ap, eIter_ap, eIf_ap, eAnd_ap, eOr_ap, eNot_ap, eLst_ap, eTup_ap, bNot_ap, bAnd_ap, bOr_ap, tst_ap, tru_ap, R.bind_ok, R.of_some, rbd_ok, rbd_ex, obd_nx, obd_rt, obd_ex, obd_bk, obd_ct, scnd_t, scnd_f, cnd_t, cnd_f, cnd_or, cnd_and, bl_t, tru_bl, tru_non, ty_str, ty_lst, List.set_cons_zero, List.set_cons_succ, addI, subI, negI, ltI, leI, gtI, geI, eqI, neI, chain3_bb, chain3_t, chain3_f, fin_nx, fin_rt, fin_ex, sFz_ap, frzs_cons, frzs_nil, frz_s, frz_0z, frz_0o, frz_0n, bX_int, bX_str, bX_bl, bX_non, bX_lst, bX_tup, R.bind_ex, decT, decF, l1]
  have hb : (behP L T one (some tx)).length ≤ 50000 := by rw [← hs, List.length_map]; exact hlen
  have hcl : ∀ c ∈ behP L T one (some tx), c.length ≤ 1000 := fun c hc => by
    have := (behP_ok c hc).1; omega
  have l2 := lc_gen (it := eIter (eVar 6)) (t := .nm 11) (tt := m_law_column_T8) (elt := m_law_column_C7) (vs := [11]) (ρ := [.fz (sysD L T), .fz (tupD one), .fz (.str tx), .fz (.bl r), .fz (.lst (tupsD S)), c5, .fz (.lst (tupsD (behP L T one (some tx)))), c7, c8, c9, c10, .no, c12, c13]) (f := tupD) (g := tupD) (p := fun c => !r || lastP T c) (A := behP L T one (some tx)) (by simp only [sSeq_ap, sSet_ap, sSetX_ap, sRet_ap, sRetX_ap, sDrop_ap, sIf_ap, sFor_ap, sNx_ap, sBk_ap, sCt_ap, sRetN_ap, sRaise_ap, e1_ap, e2_ap, e3_ap, eVar_0, eVar_s, eVarB_0, eVarB_s, eVarB_0o, eCon_ap, eCallB_ap, eCall_ap, eCallF_ap, eMeth_ap, aCons_ap, aNil_ap, eIter_ap, eIf_ap, eAnd_ap, eOr_ap, eNot_ap, eLst_ap, eTup_ap, bNot_ap, bAnd_ap, bOr_ap, tst_ap, tru_ap, R.bind_ok, R.of_some, rbd_ok, rbd_ex, obd_nx, obd_rt, obd_ex, obd_bk, obd_ct, scnd_t, scnd_f, cnd_t, cnd_f, cnd_or, cnd_and, bl_t, tru_bl, tru_non, ty_str, ty_lst, List.set_cons_zero, List.set_cons_succ, addI, subI, negI, ltI, leI, gtI, geI, eqI, neI, chain3_bb, chain3_t, chain3_f, fin_nx, fin_rt, fin_ex, sFz_ap, frzs_cons, frzs_nil, frz_s, frz_0z, frz_0o, frz_0n, bX_int, bX_str, bX_bl, bX_non, bX_lst, bX_tup, R.bind_ex, decT, decF, items_lst]; rfl) (by omega) (fun c hc => ⟨_, rfl, by
    unfold m_law_column_T8
    cases r with
    | false => rfl
    | true =>
      simp only [sSeq_ap, sSet_ap, sSetX_ap, sRet_ap, sRetX_ap, sDrop_ap, sIf_ap, sFor_ap, sNx_ap, sBk_ap, sCt_ap, sRetN_ap, sRaise_ap, e1_ap, e2_ap, e3_ap, eVar_0, eVar_s, eVarB_0, eVarB_s, eVarB_0o, eCon_ap, eCallB_ap, eCall_ap, eCallF_ap, eMeth_ap, aCons_ap, aNil_ap, eIter_ap, eIf_ap, eAnd_ap, eOr_ap, eNot_ap, eLst_ap, eTup_ap, bNot_ap, bAnd_ap, bOr_ap, tst_ap, tru_ap, R.bind_ok, R.of_some, rbd_ok, rbd_ex, obd_nx, obd_rt, obd_ex, obd_bk, obd_ct, scnd_t, scnd_f, cnd_t, cnd_f, cnd_or, cnd_and, bl_t, tru_bl, tru_non, ty_str, ty_lst, List.set_cons_zero, List.set_cons_succ, addI, subI, negI, ltI, leI, gtI, geI, eqI, neI, chain3_bb, chain3_t, chain3_f, fin_nx, fin_rt, fin_ex, sFz_ap, frzs_cons, frzs_nil, frz_s, frz_0z, frz_0o, frz_0n, bX_int, bX_str, bX_bl, bX_non, bX_lst, bX_tup, R.bind_ex, decT, decF, wipeB, tru_bl, Bool.not_true, List.length_cons, List.length_nil, if_pos, flast (hcl c hc)], fun _ => by unfold m_law_column_C7; simp only [sSeq_ap, sSet_ap, sSetX_ap, sRet_ap, sRetX_ap, sDrop_ap, sIf_ap, sFor_ap, sNx_ap, sBk_ap, sCt_ap, sRetN_ap, sRaise_ap, e1_ap, e2_ap, e3_ap, eVar_0, eVar_s, eVarB_0, eVarB_s, eVarB_0o, eCon_ap, eCallB_ap, eCall_ap, eCallF_ap, eMeth_ap, aCons_ap, aNil_ap, eIter_ap, eIf_ap, eAnd_ap, eOr_ap, eNot_ap, eLst_ap, eTup_ap, bNot_ap, bAnd_ap, bOr_ap, tst_ap, tru_ap, R.bind_ok, R.of_some, rbd_ok, rbd_ex, obd_nx, obd_rt, obd_ex, obd_bk, obd_ct, scnd_t, scnd_f, cnd_t, cnd_f, cnd_or, cnd_and, bl_t, tru_bl, tru_non, ty_str, ty_lst, List.set_cons_zero, List.set_cons_succ, addI, subI, negI, ltI, leI, gtI, geI, eqI, neI, chain3_bb, chain3_t, chain3_f, fin_nx, fin_rt, fin_ex, sFz_ap, frzs_cons, frzs_nil, frz_s, frz_0z, frz_0o, frz_0n, bX_int, bX_str, bX_bl, bX_non, bX_lst, bX_tup, R.bind_ex, decT, decF, wipeB]⟩)
  rw [l2]
  simp only [sSeq_ap, sSet_ap, sSetX_ap, sRet_ap, sRetX_ap, sDrop_ap, sIf_ap, sFor_ap, sNx_ap, sBk_ap, sCt_ap, sRetN_ap, sRaise_ap, e1_ap, e2_ap, e3_ap, eVar_0, eVar_s, eVarB_0, eVarB_s, eVarB_0o, eCon_ap, eCallB_ap, eCall_ap, eCallF_ap, eMeth_ap, aCons_ap, aNil_ap, eIter_ap, eIf_ap, eAnd_ap, eOr_ap, eNot_ap, eLst_ap, eTup_ap, bNot_ap, bAnd_ap, bOr_ap, tst_ap, tru_ap, R.bind_ok, R.of_some, rbd_ok, rbd_ex, obd_nx, obd_rt, obd_ex, obd_bk, obd_ct, scnd_t, scnd_f, cnd_t, cnd_f, cnd_or, cnd_and, bl_t, tru_bl, tru_non, ty_str, ty_lst, List.set_cons_zero, List.set_cons_succ, addI, subI, negI, ltI, leI, gtI, geI, eqI, neI, chain3_bb, chain3_t, chain3_f, fin_nx, fin_rt, fin_ex, sFz_ap, frzs_cons, frzs_nil, frz_s, frz_0z, frz_0o, frz_0n, bX_int, bX_str, bX_bl, bX_non, bX_lst, bX_tup, R.bind_ex, decT, decF, finX_rtT]
  rfl

end K10

namespace K10
open PySem PySem.Spec PyProof.Rows L2 QY
/-! ### look_picture, columns_of -/
theorem lets_of {r : Str} {P b2 : B} (h : r.length ≤ 1000) : eLc (eIter (eVar 1)) (.nm 2) (fun _ => .ok true) m_look_picture_C1 [2] [P, .fz (.str r), b2] = .ok (.lst (bls r)) := by
  have e := eLc_map (i := 2) (ρ := [P, .fz (.str r), b2]) (it := eIter (eVar 1)) (elt := m_look_picture_C1) (vs := [2]) (ds := r.cps.toList.map fun c => .str ⟨#[c]⟩)
    (g := fun d => match d with | .str s => .bl (letB (s.cps.getD 0 0)) | _ => .non) (by simp) (fun d hd => by
      obtain ⟨c, _, rfl⟩ := List.mem_map.mp hd
      simp [m_look_picture_C1, wipeB, inE, inD, letB]) (by rw [List.length_map, size_len]; exact lim2 (Nat.le_trans h (by decide)))
  rw [e, List.map_map]
  rfl
theorem look_row {r0 r : Str} {rest : List Str} {b2 : B} (h0 : r0.length ≤ 1000) (h : r.length ≤ 1000) : m_look_picture_L2 [.fz (picD (r0 :: rest)), .fz (.str r), b2] =
    if goodR r0.length r then .nx [.fz (picD (r0 :: rest)), .fz (.str r), b2] else .ex 1 [] [.fz (picD (r0 :: rest)), .fz (.str r), b2] := by
  have ix : ixD (picD (r0 :: rest)) (.int 0) = some (.str r0) := ix_lst (j := 0)
  simp [m_look_picture_L2, bOr_ap, ix, len_str (lim1 (Nat.le_trans h0 (by decide))), len_str (lim1 (Nat.le_trans h (by decide))), lets_of h, all_lets, goodR, natInt]
  by_cases hw : r.length = r0.length
  · cases ha : lets r <;> simp [hw, ha]
  · simp [hw]
theorem look_rows {r0 : Str} {rest : List Str} (h0 : r0.length ≤ 1000) : ∀ (xs : List Str) (b1 b2 : B), (∀ r ∈ xs, r.length ≤ 1000) → ∃ b1' b2', forO (.nm 1) m_look_picture_L2 (xs.map .str) [.fz (picD (r0 :: rest)), b1, b2] =
    if xs.all (goodR r0.length) then .nx [.fz (picD (r0 :: rest)), b1', b2'] else .ex 1 [] [.fz (picD (r0 :: rest)), b1', b2']
  | [], b1, b2, _ => ⟨b1, b2, rfl⟩
  | r :: xs, b1, b2, h => by
    have h1 := h r List.mem_cons_self
    cases hg : goodR r0.length r with
    | true =>
      obtain ⟨b1', b2', e⟩ := look_rows h0 (rest := rest) xs (.fz (.str r)) b2 fun r hr => h r (List.mem_cons_of_mem _ hr)
      refine ⟨b1', b2', ?_⟩
      simp [look_row h0 h1, hg, e]
    | false =>
      refine ⟨.fz (.str r), b2, ?_⟩
      simp [look_row h0 h1, hg]
theorem sem_lookp {rows : List Str} (h : Small rows) : sem_look_picture [picD rows] = if good rows then .ok .non else .ex 1 [] := by
  cases rows with
  | nil => rw [at_look_picture]; simp [m_look_picture, bOr_ap, picD, good]
  | cons r0 rest =>
    have ix : ixD (picD (r0 :: rest)) (.int 0) = some (.str r0) := ix_lst (j := 0)
    have h0 := h.w r0 List.mem_cons_self
    obtain ⟨b1, b2, e⟩ := look_rows h0 (rest := rest) (r0 :: rest) .no .no h.w
    have ln : lenD [picD (r0 :: rest)] = some (.int ((r0 :: rest).length : Nat)) := by unfold picD; rw [len_lst, List.length_map]
    have it : itemsD (picD (r0 :: rest)) = some ((r0 :: rest).map .str) := rfl
    have n1 : (1 : Int) ≤ ((r0 :: rest).length : Nat) := by rw [List.length_cons]; omega
    rw [at_look_picture]
    simp only [m_look_picture, sSeq_ap, sIf_ap, bOr_ap, bNot_ap, tst_ap, e3_ap, eCon_ap, eCallB_ap, aCons_ap, eVarB_0, e2_ap, ix, ln, len_str (lim1 (Nat.le_trans h0 (by decide))), R.of_some, R.bind_ok, aNil_ap, leI, chain3_bb, bl_t, cnd_or, rbd_ok]
    have k1 : (decide ((1 : Int) ≤ ((r0 :: rest).length : Nat)) && decide ((((r0 :: rest).length : Nat) : Int) ≤ 4)) = decide ((r0 :: rest).length ≤ 4) := by
      rw [decide_eq_true n1, Bool.true_and]
      exact decide_eq_decide.mpr (by omega)
    have k2 : (decide ((1 : Int) ≤ (r0.length : Nat)) && decide (((r0.length : Nat) : Int) ≤ 12)) = decide (1 ≤ r0.length ∧ r0.length ≤ 12) := by
      rw [← Bool.decide_and]
      exact decide_eq_decide.mpr (by omega)
    have gd : good (r0 :: rest) = (decide ((r0 :: rest).length ≤ 4) && (decide (1 ≤ r0.length ∧ r0.length ≤ 12) && (r0 :: rest).all (goodR r0.length))) := rfl
    rw [k1, k2, gd]
    generalize decide ((r0 :: rest).length ≤ 4) = A
    generalize decide (1 ≤ r0.length ∧ r0.length ≤ 12) = C
    cases A with
    | false => rfl
    | true =>
      cases C with
      | false => rfl
      | true =>
        simp only [Bool.not_true, Bool.or_false, scnd_f, sNx_ap, obd_nx, sSeq_ap, sFor_ap, eIter_ap, eVar_0, R.bind_ok, it, R.of_some, rbd_ok, e, Bool.true_and]
        generalize (r0 :: rest).all (goodR r0.length) = Z
        cases Z <;> rfl
theorem flookp {rows : List Str} (h : Small rows) : flatR (sem_look_picture [picD rows]) = if good rows then .ok .non else .ex 1 [] := by
  rw [sem_lookp h]
  cases good rows <;> rfl
theorem sem_cols {a : List Str} (h : Small a) : sem_columns_of [picD a] = if good a then .ok (.lst (colsL a)) else .ex 1 [] := by
  rw [at_columns_of]
  simp only [m_columns_of, sSeq_ap, sDrop_ap, eCallF_ap, aCons_ap, eVarB_0, eVarB_s, R.bind_ok, aNil_ap, List.length_cons, List.length_nil, if_pos, flookp h]
  cases hg : good a with
  | false => rfl
  | true =>
    cases a with
    | nil => cases hg
    | cons r0 rest =>
      obtain ⟨g1, g2, g3, g4⟩ := good_w hg
      have e := eLc_map (i := 1) (ρ := [.fz (picD (r0 :: rest)), .no, .no]) (it := eRng (aCons (eCallB lenD (aCons (e2 ixD (eVarB 0) (eCon (.int 0))) aNil)) aNil)) (elt := m_columns_of_C2) (vs := [1]) (ds := (List.range r0.length).map fun (i : Nat) => .int (i : Int))
        (g := fun d => match d with | .int k => .str (Txt.join "" ((r0 :: rest).map fun r => chr r k.toNat)) | _ => .non)
        (rngE1 (by simp only [aCons_ap, eCallB_ap, e2_ap, eVarB_0, eCon_ap, R.bind_ok, pic_ix, R.of_some, aNil_ap, len_str (lim1 (Nat.le_trans (h.w r0 List.mem_cons_self) (by decide)))]) (by omega))
        (fun d hd => by
          obtain ⟨x, hx, rfl⟩ := List.mem_map.mp hd
          have hx : x < r0.length := List.mem_range.mp hx
          exact col_of (x := x) (fun r hr => ⟨by rw [(g4 r hr).1]; exact hx, h.w r hr⟩) h.n (by simp [wipeB, pic_items]) fun s => by simp [m_columns_of_C1, wipeB])
        (by rw [List.length_map, List.length_range]; exact lim2 (by omega))
      have e2 : (((List.range r0.length).map fun (i : Nat) => D.int (i : Int)).map fun d => match d with | .int k => D.str (Txt.join "" ((r0 :: rest).map fun r => chr r k.toNat)) | _ => .non) = colsL (r0 :: rest) := by
        rw [List.map_map]
        unfold colsL
        refine List.map_congr_left fun x _ => ?_
        show D.str (Txt.join "" ((r0 :: rest).map fun r => chr r ((x : Int)).toNat)) = _
        rw [Int.toNat_natCast]
      rw [e2] at e
      simp only [rbd_ok, obd_nx, sSeq_ap, sRetX_ap, e, obd_rt, finX_rtT, if_pos]

/-! ### Walk -/
theorem sem_mk {L : Str} {T : List (List Int)} {h : Nat} (hL : L.length ≤ 1000000) (ok : okSys L T = true) (hT : T.length < 1000000) (h1 : 1 ≤ h) (h4 : h ≤ 4) : sem_Walk [sysD L T, .int (h : Int)] = .ok (wD L T h) := by
  have lg : flatR (sem_look_system [sysD L T]) = .ok .non := by
    rw [flook hL (by omega) (fun t ht => by
      have := (okT_all (chk_okT (okSys_chk ok) t ht)).1
      omega), if_pos ok]
  rw [at_Walk]
  exact walkR_ok lg (okSys_chk ok) hT h1 h4
theorem fits_C {W : D} {L : Str} {T : List (List Int)} {h : Nat} (hW : W = wD L T h) {a b : List Int} {k : Nat} (ha : k + 1 < a.length) (hb : k + 1 < b.length) {b1 b2 : B} :
    m_Walk_fits_C1 [.fz W, b1, b2, .fz (tupD a), .fz (tupD b), .fz (.int (k : Int))] = .ok (.bl (decide ([a.getD k 0, b.getD k 0, a.getD (k + 1) 0, b.getD (k + 1) 0] ∈ T))) := by
  subst hW
  have ek : (k : Int) + 1 = ((k + 1 : Nat) : Int) := by omega
  have t4 := in_dct (K := T) (t := [a.getD k 0, b.getD k 0, a.getD (k + 1) 0, b.getD (k + 1) 0])
  unfold m_Walk_fits_C1
  simp only [sSeq_ap, sSet_ap, sSetX_ap, sRet_ap, sRetX_ap, sDrop_ap, sIf_ap, sFor_ap, sNx_ap, sBk_ap, sCt_ap, sRetN_ap, sRaise_ap, e1_ap, e2_ap, e3_ap, eVar_0, eVar_s, eVarB_0, eVarB_s, eVarB_0o, eCon_ap, eCallB_ap, eCall_ap, eCallF_ap, eMeth_ap, aCons_ap, aNil_ap, eIter_ap, eIf_ap, eAnd_ap, eOr_ap, eNot_ap, eLst_ap, eTup_ap, bNot_ap, bAnd_ap, bOr_ap, tst_ap, tru_ap, R.bind_ok, R.of_some, rbd_ok, rbd_ex, obd_nx, obd_rt, obd_ex, obd_bk, obd_ct, scnd_t, scnd_f, cnd_t, cnd_f, cnd_or, cnd_and, bl_t, tru_bl, tru_non, ty_str, ty_lst, List.set_cons_zero, List.set_cons_succ, addI, subI, negI, ltI, leI, gtI, geI, eqI, neI, chain3_bb, chain3_t, chain3_f, fin_nx, fin_rt, fin_ex, sFz_ap, frzs_cons, frzs_nil, frz_s, frz_0z, frz_0o, frz_0n, bX_int, bX_str, bX_bl, bX_non, bX_lst, bX_tup, R.bind_ex, decT, decF, ek, ix_tupD (show k < a.length by omega), ix_tupD ha, ix_tupD (show k < b.length by omega), ix_tupD hb, List.length_cons, List.length_nil, if_pos (show 0 + 1 + 1 + 1 + 1 ≤ LIM by decide), wD_tiles]
  rw [show D.tup [.int (a.getD k 0), .int (b.getD k 0), .int (a.getD (k + 1) 0), .int (b.getD (k + 1) 0)] = tupD [a.getD k 0, b.getD k 0, a.getD (k + 1) 0, b.getD (k + 1) 0] from rfl, t4]
  rfl
theorem sem_fits {L : Str} {T : List (List Int)} {h : Nat} {a b : List Int} (ha : a.length ≤ 1000) (hb : b.length = a.length) : sem_Walk_fits [wD L T h, tupD a, tupD b] = .ok (.bl (fitsP T a b)) := by
  have a1 : ∀ c : List Int, c.length ≤ 1000 → addD (.tup [.int (-1)]) (tupD c) = some (tupD ([-1] ++ c)) := fun c hc => tup_add (a := [-1]) (by rw [List.length_singleton]; omega) (by omega)
  have a2 : ∀ c : List Int, c.length ≤ 1000 → addD (tupD ([-1] ++ c)) (.tup [.int (-1)]) = some (tupD (bd c)) := fun c hc => tup_add (b := [-1]) (by simp; omega) (by rw [List.length_singleton]; omega)
  have la : (bd a).length = a.length + 2 := bd_len a
  have lb : (bd b).length = a.length + 2 := by rw [bd_len, hb]
  rw [at_Walk_fits]; unfold m_Walk_fits
  simp only [sSeq_ap, sSet_ap, sSetX_ap, sRet_ap, sRetX_ap, sDrop_ap, sIf_ap, sFor_ap, sNx_ap, sBk_ap, sCt_ap, sRetN_ap, sRaise_ap, e1_ap, e2_ap, e3_ap, eVar_0, eVar_s, eVarB_0, eVarB_s, eVarB_0o, eCon_ap, eCallB_ap, eCall_ap, eCallF_ap, eMeth_ap, aCons_ap, aNil_ap, eIter_ap, eIf_ap, eAnd_ap, eOr_ap, eNot_ap, eLst_ap, eTup_ap, bNot_ap, bAnd_ap, bOr_ap, tst_ap, tru_ap, R.bind_ok, R.of_some, rbd_ok, rbd_ex, obd_nx, obd_rt, obd_ex, obd_bk, obd_ct, scnd_t, scnd_f, cnd_t, cnd_f, cnd_or, cnd_and, bl_t, tru_bl, tru_non, ty_str, ty_lst, List.set_cons_zero, List.set_cons_succ, addI, subI, negI, ltI, leI, gtI, geI, eqI, neI, chain3_bb, chain3_t, chain3_f, fin_nx, fin_rt, fin_ex, sFz_ap, frzs_cons, frzs_nil, frz_s, frz_0z, frz_0o, frz_0n, bX_int, bX_str, bX_bl, bX_non, bX_lst, bX_tup, R.bind_ex, decT, decF, List.length_cons, List.length_nil, if_pos (show 0 + 1 ≤ LIM by decide), a1 a ha, a2 a ha, a1 b (by omega), a2 b (by omega), bX_tupD]
  have hr : eRng (aCons (QY.e2 subD (eCallB lenD (aCons (eVarB 3) aNil)) (eCon (.int (1)))) aNil) [.fz (wD L T h), .fz (tupD a), .fz (tupD b), .fz (tupD (bd a)), .fz (tupD (bd b)), .no] = .ok ((List.range (a.length + 1)).map fun (i : Nat) => .int (i : Int)) := by
    refine rngE1 ?_ (by omega)
    simp only [sSeq_ap, sSet_ap, sSetX_ap, sRet_ap, sRetX_ap, sDrop_ap, sIf_ap, sFor_ap, sNx_ap, sBk_ap, sCt_ap, sRetN_ap, sRaise_ap, e1_ap, e2_ap, e3_ap, eVar_0, eVar_s, eVarB_0, eVarB_s, eVarB_0o, eCon_ap, eCallB_ap, eCall_ap, eCallF_ap, eMeth_ap, aCons_ap, aNil_ap, eIter_ap, eIf_ap, eAnd_ap, eOr_ap, eNot_ap, eLst_ap, eTup_ap, bNot_ap, bAnd_ap, bOr_ap, tst_ap, tru_ap, R.bind_ok, R.of_some, rbd_ok, rbd_ex, obd_nx, obd_rt, obd_ex, obd_bk, obd_ct, scnd_t, scnd_f, cnd_t, cnd_f, cnd_or, cnd_and, bl_t, tru_bl, tru_non, ty_str, ty_lst, List.set_cons_zero, List.set_cons_succ, addI, subI, negI, ltI, leI, gtI, geI, eqI, neI, chain3_bb, chain3_t, chain3_f, fin_nx, fin_rt, fin_ex, sFz_ap, frzs_cons, frzs_nil, frz_s, frz_0z, frz_0o, frz_0n, bX_int, bX_str, bX_bl, bX_non, bX_lst, bX_tup, R.bind_ex, decT, decF, len_tupD, la]
    rw [show ((a.length + 2 : Nat) : Int) - 1 = ((a.length + 1 : Nat) : Int) by omega]
  have lc := lc_range (i := 5) (elt := m_Walk_fits_C1) (vs := [5]) (g := fun k => .bl (decide ([(bd a).getD k 0, (bd b).getD k 0, (bd a).getD (k + 1) 0, (bd b).getD (k + 1) 0] ∈ T))) hr (by omega) (fun x hx => fits_C (L := L) (h := h) rfl (by omega) (by omega))
  rw [lc]
  simp only [sSeq_ap, sSet_ap, sSetX_ap, sRet_ap, sRetX_ap, sDrop_ap, sIf_ap, sFor_ap, sNx_ap, sBk_ap, sCt_ap, sRetN_ap, sRaise_ap, e1_ap, e2_ap, e3_ap, eVar_0, eVar_s, eVarB_0, eVarB_s, eVarB_0o, eCon_ap, eCallB_ap, eCall_ap, eCallF_ap, eMeth_ap, aCons_ap, aNil_ap, eIter_ap, eIf_ap, eAnd_ap, eOr_ap, eNot_ap, eLst_ap, eTup_ap, bNot_ap, bAnd_ap, bOr_ap, tst_ap, tru_ap, R.bind_ok, R.of_some, rbd_ok, rbd_ex, obd_nx, obd_rt, obd_ex, obd_bk, obd_ct, scnd_t, scnd_f, cnd_t, cnd_f, cnd_or, cnd_and, bl_t, tru_bl, tru_non, ty_str, ty_lst, List.set_cons_zero, List.set_cons_succ, addI, subI, negI, ltI, leI, gtI, geI, eqI, neI, chain3_bb, chain3_t, chain3_f, fin_nx, fin_rt, fin_ex, sFz_ap, frzs_cons, frzs_nil, frz_s, frz_0z, frz_0o, frz_0n, bX_int, bX_str, bX_bl, bX_non, bX_lst, bX_tup, R.bind_ex, decT, decF, all_bls]
  rfl
theorem sem_ends {L : Str} {T : List (List Int)} {h : Nat} {a : List Int} (hh : h ≤ 1000) (ha : a.length = h) : sem_Walk_ends [wD L T h, tupD a] = .ok (.bl (fitsP T a (List.replicate h (-1)))) := by
  have e := sem_fits (L := L) (T := T) (h := h) (a := a) (b := List.replicate h (-1)) (by omega) (by rw [List.length_replicate, ha])
  rw [at_Walk_ends]; unfold m_Walk_ends
  simp only [sSeq_ap, sSet_ap, sSetX_ap, sRet_ap, sRetX_ap, sDrop_ap, sIf_ap, sFor_ap, sNx_ap, sBk_ap, sCt_ap, sRetN_ap, sRaise_ap, e1_ap, e2_ap, e3_ap, eVar_0, eVar_s, eVarB_0, eVarB_s, eVarB_0o, eCon_ap, eCallB_ap, eCall_ap, eCallF_ap, eMeth_ap, aCons_ap, aNil_ap, eIter_ap, eIf_ap, eAnd_ap, eOr_ap, eNot_ap, eLst_ap, eTup_ap, bNot_ap, bAnd_ap, bOr_ap, tst_ap, tru_ap, R.bind_ok, R.of_some, rbd_ok, rbd_ex, obd_nx, obd_rt, obd_ex, obd_bk, obd_ct, scnd_t, scnd_f, cnd_t, cnd_f, cnd_or, cnd_and, bl_t, tru_bl, tru_non, ty_str, ty_lst, List.set_cons_zero, List.set_cons_succ, addI, subI, negI, ltI, leI, gtI, geI, eqI, neI, chain3_bb, chain3_t, chain3_f, fin_nx, fin_rt, fin_ex, sFz_ap, frzs_cons, frzs_nil, frz_s, frz_0z, frz_0o, frz_0n, bX_int, bX_str, bX_bl, bX_non, bX_lst, bX_tup, R.bind_ex, decT, decF, eMc_ap, wD_edge, wD_is, List.length_cons, List.length_nil, if_pos, e, okR_ok]
/-! behind -/
theorem beh_mark {L : Str} {T : List (List Int)} {h : Nat} {one : List Int} {tx : Option Str} {k m : Nat} {A : List Tri} {s : Tri} {b3 : B} (hL : L.length ≤ 16) (hm : m < L.length) (ho : one.length ≤ 4) (hk : k < one.length) (htx : ∀ t, tx = some t → t.length = one.length) (hs : s.1.length ≤ 100) (hA : A.length ≤ 900000) :
    m_Walk_behind_L1 [.fz (wD L T h), .fz (tupD one), .fz (txD tx), b3, .fz (.int (k : Int)), .ow (.lst (A.map triD)), .fz (tupD s.1), .fz (.int s.2.1), .fz (.int s.2.2), .fz (.int (m : Int))] =
      .nx [.fz (wD L T h), .fz (tupD one), .fz (txD tx), b3, .fz (.int (k : Int)), .ow (.lst ((A ++ (if goM L T one tx k s m then [nxM one k s m] else [])).map triD)), .fz (tupD s.1), .fz (.int s.2.1), .fz (.int s.2.2), .fz (.int (m : Int))] := by
  have ei : inE false (.tup [.int s.2.1, .int s.2.2, .int (one.getD k 0), .int (m : Int)]) (.dct (tupsD T) (trues T)) = some (.bl (decide ([s.2.1, s.2.2, one.getD k 0, (m : Int)] ∈ T))) := in_dct (K := T) (t := [s.2.1, s.2.2, one.getD k 0, (m : Int)])
  have ea : addD (tupD s.1) (.tup [.int (m : Int)]) = some (tupD (s.1 ++ [(m : Int)])) := tup_add (b := [(m : Int)]) (by omega) (by rw [List.length_singleton]; omega)
  have et : (bOr (tst (QY.e2 (isD false) (eVarB 2) (eCon .non))) (tst (QY.e2 eqD (QY.e2 ixD (QY.e1 (fldD 0 0) (eVar 0)) (eVarB 9)) (QY.e2 ixD (eVarB 2) (eVarB 4))))) [.fz (wD L T h), .fz (tupD one), .fz (txD tx), b3, .fz (.int (k : Int)), .ow (.lst (A.map triD)), .fz (tupD s.1), .fz (.int s.2.1), .fz (.int s.2.2), .fz (.int (m : Int))] = .ok (okM L tx k m) := by
    cases tx with
    | none => rfl
    | some t =>
      have ht := htx t rfl
      simp only [sSeq_ap, sSet_ap, sSetX_ap, sRet_ap, sRetX_ap, sDrop_ap, sIf_ap, sFor_ap, sNx_ap, sBk_ap, sCt_ap, sRetN_ap, sRaise_ap, e1_ap, e2_ap, e3_ap, eVar_0, eVar_s, eVarB_0, eVarB_s, eVarB_0o, eCon_ap, eCallB_ap, eCall_ap, eCallF_ap, eMeth_ap, aCons_ap, aNil_ap, eIter_ap, eIf_ap, eAnd_ap, eOr_ap, eNot_ap, eLst_ap, eTup_ap, bNot_ap, bAnd_ap, bOr_ap, tst_ap, tru_ap, R.bind_ok, R.of_some, rbd_ok, rbd_ex, obd_nx, obd_rt, obd_ex, obd_bk, obd_ct, scnd_t, scnd_f, cnd_t, cnd_f, cnd_or, cnd_and, bl_t, tru_bl, tru_non, ty_str, ty_lst, List.set_cons_zero, List.set_cons_succ, addI, subI, negI, ltI, leI, gtI, geI, eqI, neI, chain3_bb, chain3_t, chain3_f, fin_nx, fin_rt, fin_ex, sFz_ap, frzs_cons, frzs_nil, frz_s, frz_0z, frz_0o, frz_0n, bX_int, bX_str, bX_bl, bX_non, bX_lst, bX_tup, R.bind_ex, decT, decF, txD, show isD false (.str t) .non = some (.bl false) from rfl, wD_letters, ix_letter hm (by omega), ix_letter (show k < t.length by omega) (by omega), eqS, one_eq]
      rfl
  unfold m_Walk_behind_L1
  rw [sSeq_ap, sIf_ap, et, rbd_ok]
  unfold goM
  cases okM L tx k m with
  | false => rw [Bool.false_and, if_neg (by decide), List.append_nil]; rfl
  | true =>
    rw [Bool.true_and, scnd_t]
    simp only [sSeq_ap, sSet_ap, sSetX_ap, sRet_ap, sRetX_ap, sDrop_ap, sIf_ap, sFor_ap, sNx_ap, sBk_ap, sCt_ap, sRetN_ap, sRaise_ap, e1_ap, e2_ap, e3_ap, eVar_0, eVar_s, eVarB_0, eVarB_s, eVarB_0o, eCon_ap, eCallB_ap, eCall_ap, eCallF_ap, eMeth_ap, aCons_ap, aNil_ap, eIter_ap, eIf_ap, eAnd_ap, eOr_ap, eNot_ap, eLst_ap, eTup_ap, bNot_ap, bAnd_ap, bOr_ap, tst_ap, tru_ap, R.bind_ok, R.of_some, rbd_ok, rbd_ex, obd_nx, obd_rt, obd_ex, obd_bk, obd_ct, scnd_t, scnd_f, cnd_t, cnd_f, cnd_or, cnd_and, bl_t, tru_bl, tru_non, ty_str, ty_lst, List.set_cons_zero, List.set_cons_succ, addI, subI, negI, ltI, leI, gtI, geI, eqI, neI, chain3_bb, chain3_t, chain3_f, fin_nx, fin_rt, fin_ex, sFz_ap, frzs_cons, frzs_nil, frz_s, frz_0z, frz_0o, frz_0n, bX_int, bX_str, bX_bl, bX_non, bX_lst, bX_tup, R.bind_ex, decT, decF, ix_tupD hk, List.length_cons, List.length_nil, if_pos (show 0 + 1 + 1 + 1 + 1 ≤ LIM by decide), wD_tiles, ei]
    cases decide ([s.2.1, s.2.2, one.getD k 0, (m : Int)] ∈ T) with
    | false => rw [if_neg (by decide), List.append_nil]; rfl
    | true =>
      rw [scnd_t, if_pos rfl, app_any (A := A.map triD) (d := triD (nxM one k s m)) rfl ?_ (by rw [List.length_map]; omega), List.map_append]
      · rfl
      · simp only [sSeq_ap, sSet_ap, sSetX_ap, sRet_ap, sRetX_ap, sDrop_ap, sIf_ap, sFor_ap, sNx_ap, sBk_ap, sCt_ap, sRetN_ap, sRaise_ap, e1_ap, e2_ap, e3_ap, eVar_0, eVar_s, eVarB_0, eVarB_s, eVarB_0o, eCon_ap, eCallB_ap, eCall_ap, eCallF_ap, eMeth_ap, aCons_ap, aNil_ap, eIter_ap, eIf_ap, eAnd_ap, eOr_ap, eNot_ap, eLst_ap, eTup_ap, bNot_ap, bAnd_ap, bOr_ap, tst_ap, tru_ap, R.bind_ok, R.of_some, rbd_ok, rbd_ex, obd_nx, obd_rt, obd_ex, obd_bk, obd_ct, scnd_t, scnd_f, cnd_t, cnd_f, cnd_or, cnd_and, bl_t, tru_bl, tru_non, ty_str, ty_lst, List.set_cons_zero, List.set_cons_succ, addI, subI, negI, ltI, leI, gtI, geI, eqI, neI, chain3_bb, chain3_t, chain3_f, fin_nx, fin_rt, fin_ex, sFz_ap, frzs_cons, frzs_nil, frz_s, frz_0z, frz_0o, frz_0n, bX_int, bX_str, bX_bl, bX_non, bX_lst, bX_tup, R.bind_ex, decT, decF, ix_tupD hk, List.length_cons, List.length_nil, if_pos (show 0 + 1 ≤ LIM by decide), if_pos (show 0 + 1 + 1 + 1 ≤ LIM by decide), ea]
        rfl
theorem beh_marks {L : Str} {T : List (List Int)} {h : Nat} {one : List Int} {tx : Option Str} {k : Nat} {s : Tri} {b3 : B} (hL : L.length ≤ 16) (ho : one.length ≤ 4) (hk : k < one.length) (htx : ∀ t, tx = some t → t.length = one.length) (hs : s.1.length ≤ 100) :
    ∀ (ms : List Nat) (A : List Tri) (b9 : B), (∀ m ∈ ms, m < L.length) → A.length + ms.length ≤ 900000 → ∃ b9',
    forO (.nm 9) m_Walk_behind_L1 (ms.map fun (m : Nat) => .int (m : Int)) [.fz (wD L T h), .fz (tupD one), .fz (txD tx), b3, .fz (.int (k : Int)), .ow (.lst (A.map triD)), .fz (tupD s.1), .fz (.int s.2.1), .fz (.int s.2.2), b9] =
      .nx [.fz (wD L T h), .fz (tupD one), .fz (txD tx), b3, .fz (.int (k : Int)), .ow (.lst ((A ++ (ms.filter (goM L T one tx k s)).map (nxM one k s)).map triD)), .fz (tupD s.1), .fz (.int s.2.1), .fz (.int s.2.2), b9']
  | [], A, b9, _, _ => ⟨b9, by simp⟩
  | m :: ms, A, b9, hm, hl => by
    rw [List.length_cons] at hl
    have e1 := beh_mark (L := L) (T := T) (h := h) (tx := tx) (b3 := b3) hL (hm m (by simp)) ho hk htx hs (A := A) (by omega)
    obtain ⟨b9', e2⟩ := beh_marks (h := h) (b3 := b3) hL ho hk htx hs ms (A ++ (if goM L T one tx k s m then [nxM one k s m] else [])) (.fz (.int (m : Int))) (fun q hq => hm q (List.mem_cons_of_mem _ hq)) (by
      rw [List.length_append]
      split <;> simp <;> omega)
    refine ⟨b9', ?_⟩
    rw [List.map_cons, forO_nm]
    simp only [List.set_cons_zero, List.set_cons_succ]
    rw [e1, loopO_nx, e2, List.append_assoc]
    have ef : (if goM L T one tx k s m then [nxM one k s m] else []) ++ (ms.filter (goM L T one tx k s)).map (nxM one k s) = ((m :: ms).filter (goM L T one tx k s)).map (nxM one k s) := by
      cases hg : goM L T one tx k s m with
      | true => rw [List.filter_cons_of_pos hg]; rfl
      | false => rw [List.filter_cons_of_neg (by rw [hg]; decide)]; rfl
    rw [ef]
theorem beh_some {L : Str} {T : List (List Int)} {h : Nat} {one : List Int} {tx : Option Str} {k : Nat} {b3 : B} (hL : L.length ≤ 16) (ho : one.length ≤ 4) (hk : k < one.length) (htx : ∀ t, tx = some t → t.length = one.length) :
    ∀ (S A : List Tri) (b6 b7 b8 b9 : B), (∀ s ∈ S, s.1.length ≤ 100) → A.length + S.length * 16 ≤ 900000 → ∃ b6' b7' b8' b9',
    forO (.tp [6, 7, 8]) m_Walk_behind_L2 (S.map triD) [.fz (wD L T h), .fz (tupD one), .fz (txD tx), b3, .fz (.int (k : Int)), .ow (.lst (A.map triD)), b6, b7, b8, b9] =
      .nx [.fz (wD L T h), .fz (tupD one), .fz (txD tx), b3, .fz (.int (k : Int)), .ow (.lst ((A ++ S.flatMap (step1 L T one tx k)).map triD)), b6', b7', b8', b9']
  | [], A, b6, b7, b8, b9, _, _ => ⟨b6, b7, b8, b9, by simp⟩
  | s :: S, A, b6, b7, b8, b9, hs, hl => by
    rw [List.length_cons] at hl
    obtain ⟨b9', e1⟩ := beh_marks (h := h) (T := T) (b3 := b3) hL ho hk htx (hs s (by simp)) (List.range L.length) A b9 (fun m hm => List.mem_range.mp hm) (by rw [List.length_range]; omega)
    have h1 : (step1 L T one tx k s).length ≤ L.length := step1_len
    obtain ⟨c6, c7, c8, c9, e2⟩ := beh_some (h := h) (T := T) (b3 := b3) hL ho hk htx S (A ++ step1 L T one tx k s) (.fz (tupD s.1)) (.fz (.int s.2.1)) (.fz (.int s.2.2)) b9' (fun q hq => hs q (List.mem_cons_of_mem _ hq)) (by
      rw [List.length_append]; omega)
    refine ⟨c6, c7, c8, c9, ?_⟩
    have hr : eRng (aCons (eCallB lenD (aCons (QY.e1 (fldD 0 0) (eVar 0)) aNil)) aNil) [.fz (wD L T h), .fz (tupD one), .fz (txD tx), b3, .fz (.int (k : Int)), .ow (.lst (A.map triD)), .fz (tupD s.1), .fz (.int s.2.1), .fz (.int s.2.2), b9] = .ok ((List.range L.length).map fun (i : Nat) => .int (i : Int)) := by
      refine rngE1 ?_ (by omega)
      simp only [sSeq_ap, sSet_ap, sSetX_ap, sRet_ap, sRetX_ap, sDrop_ap, sIf_ap, sFor_ap, sNx_ap, sBk_ap, sCt_ap, sRetN_ap, sRaise_ap, e1_ap, e2_ap, e3_ap, eVar_0, eVar_s, eVarB_0, eVarB_s, eVarB_0o, eCon_ap, eCallB_ap, eCall_ap, eCallF_ap, eMeth_ap, aCons_ap, aNil_ap, eIter_ap, eIf_ap, eAnd_ap, eOr_ap, eNot_ap, eLst_ap, eTup_ap, bNot_ap, bAnd_ap, bOr_ap, tst_ap, tru_ap, R.bind_ok, R.of_some, rbd_ok, rbd_ex, obd_nx, obd_rt, obd_ex, obd_bk, obd_ct, scnd_t, scnd_f, cnd_t, cnd_f, cnd_or, cnd_and, bl_t, tru_bl, tru_non, ty_str, ty_lst, List.set_cons_zero, List.set_cons_succ, addI, subI, negI, ltI, leI, gtI, geI, eqI, neI, chain3_bb, chain3_t, chain3_f, fin_nx, fin_rt, fin_ex, sFz_ap, frzs_cons, frzs_nil, frz_s, frz_0z, frz_0o, frz_0n, bX_int, bX_str, bX_bl, bX_non, bX_lst, bX_tup, R.bind_ex, decT, decF, wD_letters, len_str (lim1 (show L.length ≤ 1000000 by omega))]
    have e3 : m_Walk_behind_L2 [.fz (wD L T h), .fz (tupD one), .fz (txD tx), b3, .fz (.int (k : Int)), .ow (.lst (A.map triD)), .fz (tupD s.1), .fz (.int s.2.1), .fz (.int s.2.2), b9] = .nx [.fz (wD L T h), .fz (tupD one), .fz (txD tx), b3, .fz (.int (k : Int)), .ow (.lst ((A ++ step1 L T one tx k s).map triD)), .fz (tupD s.1), .fz (.int s.2.1), .fz (.int s.2.2), b9'] := by
      unfold m_Walk_behind_L2
      rw [sSeq_ap, sFor_ap, hr, rbd_ok, e1, obd_nx, sNx_ap]; rfl
    rw [List.map_cons, show triD s = .tup [tupD s.1, .int s.2.1, .int s.2.2] from rfl, forO_tp3]
    simp only [List.set_cons_zero, List.set_cons_succ]
    rw [e3, loopO_nx, e2, List.append_assoc, List.flatMap_cons]
theorem beh_k {L : Str} {T : List (List Int)} {h : Nat} {one : List Int} {tx : Option Str} {k : Nat} {S : List Tri} {b3 b5 b6 b7 b8 b9 : B} (h3 : b3 = .fz (.lst (S.map triD)) ∨ b3 = .ow (.lst (S.map triD))) (hL : L.length ≤ 16) (ho : one.length ≤ 4) (hk : k < one.length) (htx : ∀ t, tx = some t → t.length = one.length)
    (hs : ∀ s ∈ S, s.1.length ≤ 100) (hl : S.length ≤ 50000) : ∃ b5' b6' b7' b8' b9',
    m_Walk_behind_L3 [.fz (wD L T h), .fz (tupD one), .fz (txD tx), b3, .fz (.int (k : Int)), b5, b6, b7, b8, b9] =
      .nx [.fz (wD L T h), .fz (tupD one), .fz (txD tx), .fz (.lst ((S.flatMap (step1 L T one tx k)).map triD)), .fz (.int (k : Int)), b5', b6', b7', b8', b9'] := by
  obtain ⟨c6, c7, c8, c9, e⟩ := beh_some (h := h) (T := T) (b3 := .fz (.lst (S.map triD))) hL ho hk htx S [] b6 b7 b8 b9 hs (by rw [List.length_nil]; omega)
  rw [List.nil_append, List.map_nil] at e
  refine ⟨.fz (.lst ((S.flatMap (step1 L T one tx k)).map triD)), c6, c7, c8, c9, ?_⟩
  unfold m_Walk_behind_L3
  simp only [sSeq_ap, sSet_ap, sSetX_ap, sRet_ap, sRetX_ap, sDrop_ap, sIf_ap, sFor_ap, sNx_ap, sBk_ap, sCt_ap, sRetN_ap, sRaise_ap, e1_ap, e2_ap, e3_ap, eVar_0, eVar_s, eVarB_0, eVarB_s, eVarB_0o, eCon_ap, eCallB_ap, eCall_ap, eCallF_ap, eMeth_ap, aCons_ap, aNil_ap, eIter_ap, eIf_ap, eAnd_ap, eOr_ap, eNot_ap, eLst_ap, eTup_ap, bNot_ap, bAnd_ap, bOr_ap, tst_ap, tru_ap, R.bind_ok, R.of_some, rbd_ok, rbd_ex, obd_nx, obd_rt, obd_ex, obd_bk, obd_ct, scnd_t, scnd_f, cnd_t, cnd_f, cnd_or, cnd_and, bl_t, tru_bl, tru_non, ty_str, ty_lst, List.set_cons_zero, List.set_cons_succ, addI, subI, negI, ltI, leI, gtI, geI, eqI, neI, chain3_bb, chain3_t, chain3_f, fin_nx, fin_rt, fin_ex, sFz_ap, frzs_cons, frzs_nil, frz_s, frz_0z, frz_0o, frz_0n, bX_int, bX_str, bX_bl, bX_non, bX_lst, bX_tup, R.bind_ex, decT, decF, List.length_nil, if_pos (Nat.zero_le LIM)]
  have ez : frz (b3 :: [.fz (.int (k : Int)), .ow (.lst []), b6, b7, b8, b9]) 0 = .fz (.lst (S.map triD)) :: [.fz (.int (k : Int)), .ow (.lst []), b6, b7, b8, b9] := by
    rcases h3 with rfl | rfl
    · exact frz_0z
    · exact frz_0o
  rw [ez]
  simp only [sSeq_ap, sSet_ap, sSetX_ap, sRet_ap, sRetX_ap, sDrop_ap, sIf_ap, sFor_ap, sNx_ap, sBk_ap, sCt_ap, sRetN_ap, sRaise_ap, e1_ap, e2_ap, e3_ap, eVar_0, eVar_s, eVarB_0, eVarB_s, eVarB_0o, eCon_ap, eCallB_ap, eCall_ap, eCallF_ap, eMeth_ap, aCons_ap, aNil_ap, eIter_ap, eIf_ap, eAnd_ap, eOr_ap, eNot_ap, eLst_ap, eTup_ap, bNot_ap, bAnd_ap, bOr_ap, tst_ap, tru_ap, R.bind_ok, R.of_some, rbd_ok, rbd_ex, obd_nx, obd_rt, obd_ex, obd_bk, obd_ct, scnd_t, scnd_f, cnd_t, cnd_f, cnd_or, cnd_and, bl_t, tru_bl, tru_non, ty_str, ty_lst, List.set_cons_zero, List.set_cons_succ, addI, subI, negI, ltI, leI, gtI, geI, eqI, neI, chain3_bb, chain3_t, chain3_f, fin_nx, fin_rt, fin_ex, sFz_ap, frzs_cons, frzs_nil, frz_s, frz_0z, frz_0o, frz_0n, bX_int, bX_str, bX_bl, bX_non, bX_lst, bX_tup, R.bind_ex, decT, decF, items_lst]
  rw [e]
  simp only [sSeq_ap, sSet_ap, sSetX_ap, sRet_ap, sRetX_ap, sDrop_ap, sIf_ap, sFor_ap, sNx_ap, sBk_ap, sCt_ap, sRetN_ap, sRaise_ap, e1_ap, e2_ap, e3_ap, eVar_0, eVar_s, eVarB_0, eVarB_s, eVarB_0o, eCon_ap, eCallB_ap, eCall_ap, eCallF_ap, eMeth_ap, aCons_ap, aNil_ap, eIter_ap, eIf_ap, eAnd_ap, eOr_ap, eNot_ap, eLst_ap, eTup_ap, bNot_ap, bAnd_ap, bOr_ap, tst_ap, tru_ap, R.bind_ok, R.of_some, rbd_ok, rbd_ex, obd_nx, obd_rt, obd_ex, obd_bk, obd_ct, scnd_t, scnd_f, cnd_t, cnd_f, cnd_or, cnd_and, bl_t, tru_bl, tru_non, ty_str, ty_lst, List.set_cons_zero, List.set_cons_succ, addI, subI, negI, ltI, leI, gtI, geI, eqI, neI, chain3_bb, chain3_t, chain3_f, fin_nx, fin_rt, fin_ex, sFz_ap, frzs_cons, frzs_nil, frz_s, frz_0z, frz_0o, frz_0n, bX_int, bX_str, bX_bl, bX_non, bX_lst, bX_tup, R.bind_ex, decT, decF]
theorem beh_ks {L : Str} {T : List (List Int)} {h : Nat} {one : List Int} {tx : Option Str} (hL : L.length ≤ 16) (hL1 : 1 ≤ L.length) (ho : one.length ≤ 4) (htx : ∀ t, tx = some t → t.length = one.length) :
    ∀ (ks : List Nat) (S : List Tri) (b3 b4 b5 b6 b7 b8 b9 : B), (b3 = .fz (.lst (S.map triD)) ∨ b3 = .ow (.lst (S.map triD))) → (∀ k ∈ ks, k < one.length) → (∀ s ∈ S, s.1.length + ks.length ≤ 100) → S.length * L.length ^ ks.length ≤ 65536 → (ks ≠ [] → S.length ≤ 50000) → ∃ b3' b4' b5' b6' b7' b8' b9',
    (b3' = .fz (.lst ((stepAll L T one tx ks S).map triD)) ∨ b3' = .ow (.lst ((stepAll L T one tx ks S).map triD))) ∧
    forO (.nm 4) m_Walk_behind_L3 (ks.map fun (k : Nat) => .int (k : Int)) [.fz (wD L T h), .fz (tupD one), .fz (txD tx), b3, b4, b5, b6, b7, b8, b9] =
      .nx [.fz (wD L T h), .fz (tupD one), .fz (txD tx), b3', b4', b5', b6', b7', b8', b9']
  | [], S, b3, b4, b5, b6, b7, b8, b9, h3, _, _, _, _ => ⟨b3, b4, b5, b6, b7, b8, b9, h3, rfl⟩
  | k :: ks, S, b3, b4, b5, b6, b7, b8, b9, h3, hk, hs, hl, h5 => by
    obtain ⟨c5, c6, c7, c8, c9, e1⟩ := beh_k (h := h) (T := T) (b5 := b5) (b6 := b6) (b7 := b7) (b8 := b8) (b9 := b9) h3 hL ho (hk k (by simp)) htx (fun s hq => by have := hs s hq; omega) (h5 (by simp))
    have hf := flat_len (f := step1 L T one tx k) (n := L.length) (fun _ => step1_len) S
    have hmul : (S.flatMap (step1 L T one tx k)).length * L.length ^ ks.length ≤ S.length * L.length ^ (k :: ks).length := by
      refine Nat.le_trans (Nat.mul_le_mul_right _ hf) ?_
      rw [List.length_cons, Nat.pow_succ, Nat.mul_assoc, Nat.mul_comm (L.length ^ ks.length)]
      exact Nat.le_refl _
    have hp : 1 ≤ L.length ^ ks.length := Nat.one_le_pow _ _ hL1
    obtain ⟨d3, d4, d5, d6, d7, d8, d9, h3', e2⟩ := beh_ks hL hL1 ho htx (h := h) (T := T) ks (S.flatMap (step1 L T one tx k)) _ (.fz (.int (k : Int))) c5 c6 c7 c8 c9 (.inl rfl) (fun q hq => hk q (List.mem_cons_of_mem _ hq)) (fun s hq => by
      obtain ⟨s0, g0, g1⟩ := List.mem_flatMap.mp hq
      obtain ⟨m, hm, rfl⟩ := List.mem_map.mp g1
      have := hs s0 g0
      show (s0.1 ++ [(m : Int)]).length + ks.length ≤ 100
      rw [List.length_append, List.length_singleton]
      rw [List.length_cons] at this; omega) (Nat.le_trans hmul hl) (fun hne => by
      have h2 : 2 ≤ L.length ∨ L.length = 1 := by omega
      rcases h2 with h2 | h2
      · have : 2 ≤ L.length ^ ks.length := by
          cases ks with
          | nil => exact absurd rfl hne
          | cons q r =>
            rw [List.length_cons, Nat.pow_succ]
            have : 1 ≤ L.length ^ r.length := Nat.one_le_pow _ _ hL1
            exact Nat.le_trans h2 (Nat.le_mul_of_pos_left _ (by omega))
        have h3 := Nat.le_trans (Nat.mul_le_mul_left (S.flatMap (step1 L T one tx k)).length this) (Nat.le_trans hmul hl)
        omega
      · have := h5 (by simp)
        rw [h2, Nat.mul_one] at hf; omega)
    refine ⟨d3, d4, d5, d6, d7, d8, d9, h3', ?_⟩
    rw [List.map_cons, forO_nm]
    simp only [List.set_cons_zero, List.set_cons_succ]
    rw [e1, loopO_nx, e2]
theorem sem_behind {L : Str} {T : List (List Int)} {h : Nat} {one : List Int} {tx : Option Str} (hL : L.length ≤ 16) (hL1 : 1 ≤ L.length) (ho : one.length ≤ 4) (htx : ∀ t, tx = some t → t.length = one.length) : sem_Walk_behind [wD L T h, tupD one, txD tx] = .ok (.lst (tupsD (behP L T one tx))) := by
  obtain ⟨b3, b4, b5, b6, b7, b8, b9, h3, e⟩ := beh_ks (h := h) (T := T) hL hL1 ho htx (List.range one.length) [([], -1, -1)] _ .no .no .no .no .no .no (.inr rfl) (fun k hk => List.mem_range.mp hk) (fun s hs => by
    rw [List.mem_singleton] at hs; subst hs
    rw [List.length_range]; show 0 + _ ≤ _; omega) (by rw [List.length_singleton, Nat.one_mul, List.length_range]; exact pow_small hL ho) (fun _ => by rw [List.length_singleton]; omega)
  have hlen := stepAll_len (L := L) (T := T) (one := one) (tx := tx) (List.range one.length) [([], -1, -1)]
  rw [List.length_singleton, Nat.one_mul, List.length_range] at hlen
  have hlen := Nat.le_trans hlen (pow_small hL ho)
  have hr : eRng (aCons (eCallB lenD (aCons (eVarB 1) aNil)) aNil) [.fz (wD L T h), .fz (tupD one), .fz (txD tx), .ow (.lst [triD ([], -1, -1)]), .no, .no, .no, .no, .no, .no] = .ok ((List.range one.length).map fun (i : Nat) => .int (i : Int)) := by
    refine rngE1 ?_ (by omega)
    simp only [sSeq_ap, sSet_ap, sSetX_ap, sRet_ap, sRetX_ap, sDrop_ap, sIf_ap, sFor_ap, sNx_ap, sBk_ap, sCt_ap, sRetN_ap, sRaise_ap, e1_ap, e2_ap, e3_ap, eVar_0, eVar_s, eVarB_0, eVarB_s, eVarB_0o, eCon_ap, eCallB_ap, eCall_ap, eCallF_ap, eMeth_ap, aCons_ap, aNil_ap, eIter_ap, eIf_ap, eAnd_ap, eOr_ap, eNot_ap, eLst_ap, eTup_ap, bNot_ap, bAnd_ap, bOr_ap, tst_ap, tru_ap, R.bind_ok, R.of_some, rbd_ok, rbd_ex, obd_nx, obd_rt, obd_ex, obd_bk, obd_ct, scnd_t, scnd_f, cnd_t, cnd_f, cnd_or, cnd_and, bl_t, tru_bl, tru_non, ty_str, ty_lst, List.set_cons_zero, List.set_cons_succ, addI, subI, negI, ltI, leI, gtI, geI, eqI, neI, chain3_bb, chain3_t, chain3_f, fin_nx, fin_rt, fin_ex, sFz_ap, frzs_cons, frzs_nil, frz_s, frz_0z, frz_0o, frz_0n, bX_int, bX_str, bX_bl, bX_non, bX_lst, bX_tup, R.bind_ex, decT, decF, len_tupD]
  rw [at_Walk_behind]; unfold m_Walk_behind
  simp only [sSeq_ap, sSet_ap, sSetX_ap, sRet_ap, sRetX_ap, sDrop_ap, sIf_ap, sFor_ap, sNx_ap, sBk_ap, sCt_ap, sRetN_ap, sRaise_ap, e1_ap, e2_ap, e3_ap, eVar_0, eVar_s, eVarB_0, eVarB_s, eVarB_0o, eCon_ap, eCallB_ap, eCall_ap, eCallF_ap, eMeth_ap, aCons_ap, aNil_ap, eIter_ap, eIf_ap, eAnd_ap, eOr_ap, eNot_ap, eLst_ap, eTup_ap, bNot_ap, bAnd_ap, bOr_ap, tst_ap, tru_ap, R.bind_ok, R.of_some, rbd_ok, rbd_ex, obd_nx, obd_rt, obd_ex, obd_bk, obd_ct, scnd_t, scnd_f, cnd_t, cnd_f, cnd_or, cnd_and, bl_t, tru_bl, tru_non, ty_str, ty_lst, List.set_cons_zero, List.set_cons_succ, addI, subI, negI, ltI, leI, gtI, geI, eqI, neI, chain3_bb, chain3_t, chain3_f, fin_nx, fin_rt, fin_ex, sFz_ap, frzs_cons, frzs_nil, frz_s, frz_0z, frz_0o, frz_0n, bX_int, bX_str, bX_bl, bX_non, bX_lst, bX_tup, R.bind_ex, decT, decF, List.length_cons, List.length_nil, if_pos (Nat.zero_le LIM), if_pos (show 0 + 1 ≤ LIM by decide), if_pos (show 0 + 1 + 1 + 1 ≤ LIM by decide)]
  rw [show D.tup [.tup [], .int (-1), .int (-1)] = triD ([], -1, -1) from rfl, hr, rbd_ok]
  have e : forO (Tgt.nm 4) m_Walk_behind_L3 ((List.range one.length).map fun (k : Nat) => D.int (k : Int)) [.fz (wD L T h), .fz (tupD one), .fz (txD tx), .ow (.lst [triD ([], -1, -1)]), .no, .no, .no, .no, .no, .no] = _ := e
  rw [e]
  simp only [sSeq_ap, sSet_ap, sSetX_ap, sRet_ap, sRetX_ap, sDrop_ap, sIf_ap, sFor_ap, sNx_ap, sBk_ap, sCt_ap, sRetN_ap, sRaise_ap, e1_ap, e2_ap, e3_ap, eVar_0, eVar_s, eVarB_0, eVarB_s, eVarB_0o, eCon_ap, eCallB_ap, eCall_ap, eCallF_ap, eMeth_ap, aCons_ap, aNil_ap, eIter_ap, eIf_ap, eAnd_ap, eOr_ap, eNot_ap, eLst_ap, eTup_ap, bNot_ap, bAnd_ap, bOr_ap, tst_ap, tru_ap, R.bind_ok, R.of_some, rbd_ok, rbd_ex, obd_nx, obd_rt, obd_ex, obd_bk, obd_ct, scnd_t, scnd_f, cnd_t, cnd_f, cnd_or, cnd_and, bl_t, tru_bl, tru_non, ty_str, ty_lst, List.set_cons_zero, List.set_cons_succ, addI, subI, negI, ltI, leI, gtI, geI, eqI, neI, chain3_bb, chain3_t, chain3_f, fin_nx, fin_rt, fin_ex, sFz_ap, frzs_cons, frzs_nil, frz_s, frz_0z, frz_0o, frz_0n, bX_int, bX_str, bX_bl, bX_non, bX_lst, bX_tup, R.bind_ex, decT, decF]
  have ez : frz (b3 :: [b4, b5, b6, b7, b8, b9]) 0 = .fz (.lst ((stepAll L T one tx (List.range one.length) [([], -1, -1)]).map triD)) :: [b4, b5, b6, b7, b8, b9] := by
    rcases h3 with rfl | rfl
    · exact frz_0z
    · exact frz_0o
  rw [ez]
  unfold behP behT
  generalize stepAll L T one tx (List.range one.length) [([], -1, -1)] = S at hlen
  have lc := lc_gen (it := eIter (eVar 3)) (t := .tp [6, 7, 8]) (tt := m_Walk_behind_T5) (elt := m_Walk_behind_C4) (vs := [6, 7, 8]) (ρ := [.fz (wD L T h), .fz (tupD one), .fz (txD tx), .fz (.lst (S.map triD)), b4, b5, b6, b7, b8, b9]) (f := triD) (g := fun s => tupD s.1) (p := fun s => decide ([s.2.1, s.2.2, -1, -1] ∈ T)) (A := S)
    (by simp only [sSeq_ap, sSet_ap, sSetX_ap, sRet_ap, sRetX_ap, sDrop_ap, sIf_ap, sFor_ap, sNx_ap, sBk_ap, sCt_ap, sRetN_ap, sRaise_ap, e1_ap, e2_ap, e3_ap, eVar_0, eVar_s, eVarB_0, eVarB_s, eVarB_0o, eCon_ap, eCallB_ap, eCall_ap, eCallF_ap, eMeth_ap, aCons_ap, aNil_ap, eIter_ap, eIf_ap, eAnd_ap, eOr_ap, eNot_ap, eLst_ap, eTup_ap, bNot_ap, bAnd_ap, bOr_ap, tst_ap, tru_ap, R.bind_ok, R.of_some, rbd_ok, rbd_ex, obd_nx, obd_rt, obd_ex, obd_bk, obd_ct, scnd_t, scnd_f, cnd_t, cnd_f, cnd_or, cnd_and, bl_t, tru_bl, tru_non, ty_str, ty_lst, List.set_cons_zero, List.set_cons_succ, addI, subI, negI, ltI, leI, gtI, geI, eqI, neI, chain3_bb, chain3_t, chain3_f, fin_nx, fin_rt, fin_ex, sFz_ap, frzs_cons, frzs_nil, frz_s, frz_0z, frz_0o, frz_0n, bX_int, bX_str, bX_bl, bX_non, bX_lst, bX_tup, R.bind_ex, decT, decF, items_lst]) (by omega) (fun s _ => ⟨[.fz (wD L T h), .fz (tupD one), .fz (txD tx), .fz (.lst (S.map triD)), b4, b5, .fz (tupD s.1), .fz (.int s.2.1), .fz (.int s.2.2), b9], rfl, by
      have ei : inE false (.tup [.int s.2.1, .int s.2.2, .int (-1), .int (-1)]) (.dct (tupsD T) (trues T)) = some (.bl (decide ([s.2.1, s.2.2, -1, -1] ∈ T))) := in_dct (K := T) (t := [s.2.1, s.2.2, -1, -1])
      unfold m_Walk_behind_T5
      simp only [sSeq_ap, sSet_ap, sSetX_ap, sRet_ap, sRetX_ap, sDrop_ap, sIf_ap, sFor_ap, sNx_ap, sBk_ap, sCt_ap, sRetN_ap, sRaise_ap, e1_ap, e2_ap, e3_ap, eVar_0, eVar_s, eVarB_0, eVarB_s, eVarB_0o, eCon_ap, eCallB_ap, eCall_ap, eCallF_ap, eMeth_ap, aCons_ap, aNil_ap, eIter_ap, eIf_ap, eAnd_ap, eOr_ap, eNot_ap, eLst_ap, eTup_ap, bNot_ap, bAnd_ap, bOr_ap, tst_ap, tru_ap, R.bind_ok, R.of_some, rbd_ok, rbd_ex, obd_nx, obd_rt, obd_ex, obd_bk, obd_ct, scnd_t, scnd_f, cnd_t, cnd_f, cnd_or, cnd_and, bl_t, tru_bl, tru_non, ty_str, ty_lst, List.set_cons_zero, List.set_cons_succ, addI, subI, negI, ltI, leI, gtI, geI, eqI, neI, chain3_bb, chain3_t, chain3_f, fin_nx, fin_rt, fin_ex, sFz_ap, frzs_cons, frzs_nil, frz_s, frz_0z, frz_0o, frz_0n, bX_int, bX_str, bX_bl, bX_non, bX_lst, bX_tup, R.bind_ex, decT, decF, List.length_cons, List.length_nil, if_pos (show 0 + 1 + 1 + 1 + 1 ≤ LIM by decide), wD_tiles, ei], fun _ => by unfold m_Walk_behind_C4; simp only [sSeq_ap, sSet_ap, sSetX_ap, sRet_ap, sRetX_ap, sDrop_ap, sIf_ap, sFor_ap, sNx_ap, sBk_ap, sCt_ap, sRetN_ap, sRaise_ap, e1_ap, e2_ap, e3_ap, eVar_0, eVar_s, eVarB_0, eVarB_s, eVarB_0o, eCon_ap, eCallB_ap, eCall_ap, eCallF_ap, eMeth_ap, aCons_ap, aNil_ap, eIter_ap, eIf_ap, eAnd_ap, eOr_ap, eNot_ap, eLst_ap, eTup_ap, bNot_ap, bAnd_ap, bOr_ap, tst_ap, tru_ap, R.bind_ok, R.of_some, rbd_ok, rbd_ex, obd_nx, obd_rt, obd_ex, obd_bk, obd_ct, scnd_t, scnd_f, cnd_t, cnd_f, cnd_or, cnd_and, bl_t, tru_bl, tru_non, ty_str, ty_lst, List.set_cons_zero, List.set_cons_succ, addI, subI, negI, ltI, leI, gtI, geI, eqI, neI, chain3_bb, chain3_t, chain3_f, fin_nx, fin_rt, fin_ex, sFz_ap, frzs_cons, frzs_nil, frz_s, frz_0z, frz_0o, frz_0n, bX_int, bX_str, bX_bl, bX_non, bX_lst, bX_tup, R.bind_ex, decT, decF]⟩)
  rw [lc]
  simp only [sSeq_ap, sSet_ap, sSetX_ap, sRet_ap, sRetX_ap, sDrop_ap, sIf_ap, sFor_ap, sNx_ap, sBk_ap, sCt_ap, sRetN_ap, sRaise_ap, e1_ap, e2_ap, e3_ap, eVar_0, eVar_s, eVarB_0, eVarB_s, eVarB_0o, eCon_ap, eCallB_ap, eCall_ap, eCallF_ap, eMeth_ap, aCons_ap, aNil_ap, eIter_ap, eIf_ap, eAnd_ap, eOr_ap, eNot_ap, eLst_ap, eTup_ap, bNot_ap, bAnd_ap, bOr_ap, tst_ap, tru_ap, R.bind_ok, R.of_some, rbd_ok, rbd_ex, obd_nx, obd_rt, obd_ex, obd_bk, obd_ct, scnd_t, scnd_f, cnd_t, cnd_f, cnd_or, cnd_and, bl_t, tru_bl, tru_non, ty_str, ty_lst, List.set_cons_zero, List.set_cons_succ, addI, subI, negI, ltI, leI, gtI, geI, eqI, neI, chain3_bb, chain3_t, chain3_f, fin_nx, fin_rt, fin_ex, sFz_ap, frzs_cons, frzs_nil, frz_s, frz_0z, frz_0o, frz_0n, bX_int, bX_str, bX_bl, bX_non, bX_lst, bX_tup, R.bind_ex, decT, decF, finX_rtT]
  unfold tupsD
  rw [List.map_map]; rfl

end K10

namespace K10
open PySem PySem.Spec PyProof.Rows L2 QY
/-! ### Walk.step -/
theorem step_cols {W S O : B} {tx : B} : ∀ (cs K : List (List Int)) (b5 : B), K.length + cs.length < 1000000 → ∃ b5', forO (.nm 5) m_Walk_step_L1 (tupsD cs) [W, S, tx, .ow (.dct (tupsD K) (trues K)), O, b5] = .nx [W, S, tx, .ow (.dct (tupsD (insAll K cs)) (trues (insAll K cs))), O, b5']
  | [], K, b5, _ => ⟨b5, rfl⟩
  | c :: cs, K, b5, h => by
    rw [List.length_cons] at h
    have h2 := insK_len K c
    obtain ⟨b5', e⟩ := step_cols (W := W) (S := S) (O := O) (tx := tx) cs (insK K c) (.fz (tupD c)) (by omega)
    refine ⟨b5', ?_⟩
    have e1 : m_Walk_step_L1 [W, S, tx, .ow (.dct (tupsD K) (trues K)), O, .fz (tupD c)] = .nx [W, S, tx, .ow (.dct (tupsD (insK K c)) (trues (insK K c))), O, .fz (tupD c)] := by
      unfold m_Walk_step_L1
      rw [sSeq_ap, sPut_ap]
      simp only [sSeq_ap, sSet_ap, sSetX_ap, sRet_ap, sRetX_ap, sDrop_ap, sIf_ap, sFor_ap, sNx_ap, sBk_ap, sCt_ap, sRetN_ap, sRaise_ap, e1_ap, e2_ap, e3_ap, eVar_0, eVar_s, eVarB_0, eVarB_s, eVarB_0o, eCon_ap, eCallB_ap, eCall_ap, eCallF_ap, eMeth_ap, aCons_ap, aNil_ap, eIter_ap, eIf_ap, eAnd_ap, eOr_ap, eNot_ap, eLst_ap, eTup_ap, bNot_ap, bAnd_ap, bOr_ap, tst_ap, tru_ap, R.bind_ok, R.of_some, rbd_ok, rbd_ex, obd_nx, obd_rt, obd_ex, obd_bk, obd_ct, scnd_t, scnd_f, cnd_t, cnd_f, cnd_or, cnd_and, bl_t, tru_bl, tru_non, ty_str, ty_lst, List.set_cons_zero, List.set_cons_succ, addI, subI, negI, ltI, leI, gtI, geI, eqI, neI, chain3_bb, chain3_t, chain3_f, fin_nx, fin_rt, fin_ex, sFz_ap, frzs_cons, frzs_nil, frz_s, frz_0z, frz_0o, frz_0n, bX_int, bX_str, bX_bl, bX_non, bX_lst, bX_tup, R.bind_ex, decT, decF]
      show obd (optP (putE (tupsD K) (trues K) (tupD c) (.bl true)) _) sNx = _
      rw [putE_tups (by omega)]
      rfl
    rw [show tupsD (c :: cs) = tupD c :: tupsD cs from rfl, forO_nm]
    simp only [List.set_cons_zero, List.set_cons_succ]
    rw [e1, loopO_nx, e]; rfl
theorem step_ones {L : Str} {T : List (List Int)} {h : Nat} {S : B} {t : Str} (hL : L.length ≤ 4) (hL1 : 1 ≤ L.length) (hh : h ≤ 4) (ht : t.length = h) : ∀ (os K : List (List Int)) (b4 b5 : B), (∀ o ∈ os, o.length = h) → K.length + os.length * 256 < 1000000 → ∃ b4' b5',
    forO (.nm 4) m_Walk_step_L2 (tupsD os) [.fz (wD L T h), S, .fz (.str t), .ow (.dct (tupsD K) (trues K)), b4, b5] = .nx [.fz (wD L T h), S, .fz (.str t), .ow (.dct (tupsD (insAll K (os.flatMap fun o => behP L T o (some t)))) (trues (insAll K (os.flatMap fun o => behP L T o (some t))))), b4', b5']
  | [], K, b4, b5, _, _ => ⟨b4, b5, rfl⟩
  | o :: os, K, b4, b5, ho, hk => by
    rw [List.length_cons] at hk
    have hl := behP_len4 (T := T) (one := o) (tx := some t) hL (by rw [ho o (by simp)]; exact hh)
    have hi := insAll_len (behP L T o (some t)) K
    obtain ⟨c5, e1⟩ := step_cols (W := .fz (wD L T h)) (S := S) (O := .fz (tupD o)) (tx := .fz (.str t)) (behP L T o (some t)) K b5 (by omega)
    obtain ⟨d4, d5, e2⟩ := step_ones (T := T) (S := S) hL hL1 hh ht os (insAll K (behP L T o (some t))) (.fz (tupD o)) c5 (fun q hq => ho q (List.mem_cons_of_mem _ hq)) (by omega)
    refine ⟨d4, d5, ?_⟩
    have eb := sem_behind (L := L) (T := T) (h := h) (one := o) (tx := some t) (by omega) hL1 (by rw [ho o (by simp)]; exact hh) (fun z hz => by cases hz; rw [ho o (by simp)]; exact ht)
    have eb : sem_Walk_behind [wD L T h, tupD o, .str t] = _ := eb
    have e3 : m_Walk_step_L2 [.fz (wD L T h), S, .fz (.str t), .ow (.dct (tupsD K) (trues K)), .fz (tupD o), b5] = .nx [.fz (wD L T h), S, .fz (.str t), .ow (.dct (tupsD (insAll K (behP L T o (some t)))) (trues (insAll K (behP L T o (some t))))), .fz (tupD o), c5] := by
      unfold m_Walk_step_L2
      simp only [sSeq_ap, sSet_ap, sSetX_ap, sRet_ap, sRetX_ap, sDrop_ap, sIf_ap, sFor_ap, sNx_ap, sBk_ap, sCt_ap, sRetN_ap, sRaise_ap, e1_ap, e2_ap, e3_ap, eVar_0, eVar_s, eVarB_0, eVarB_s, eVarB_0o, eCon_ap, eCallB_ap, eCall_ap, eCallF_ap, eMeth_ap, aCons_ap, aNil_ap, eIter_ap, eIf_ap, eAnd_ap, eOr_ap, eNot_ap, eLst_ap, eTup_ap, bNot_ap, bAnd_ap, bOr_ap, tst_ap, tru_ap, R.bind_ok, R.of_some, rbd_ok, rbd_ex, obd_nx, obd_rt, obd_ex, obd_bk, obd_ct, scnd_t, scnd_f, cnd_t, cnd_f, cnd_or, cnd_and, bl_t, tru_bl, tru_non, ty_str, ty_lst, List.set_cons_zero, List.set_cons_succ, addI, subI, negI, ltI, leI, gtI, geI, eqI, neI, chain3_bb, chain3_t, chain3_f, fin_nx, fin_rt, fin_ex, sFz_ap, frzs_cons, frzs_nil, frz_s, frz_0z, frz_0o, frz_0n, bX_int, bX_str, bX_bl, bX_non, bX_lst, bX_tup, R.bind_ex, decT, decF, Int.reduceEq, Int.reduceLT, Int.reduceLE, Int.reduceAdd, Int.reduceSub, Int.reduceMul, List.length_cons, List.length_nil, Nat.reduceAdd, if_pos, eMc_ap, wD_is, eb, okR_ok, items_lst]
      rw [e1]
      simp only [sSeq_ap, sSet_ap, sSetX_ap, sRet_ap, sRetX_ap, sDrop_ap, sIf_ap, sFor_ap, sNx_ap, sBk_ap, sCt_ap, sRetN_ap, sRaise_ap, e1_ap, e2_ap, e3_ap, eVar_0, eVar_s, eVarB_0, eVarB_s, eVarB_0o, eCon_ap, eCallB_ap, eCall_ap, eCallF_ap, eMeth_ap, aCons_ap, aNil_ap, eIter_ap, eIf_ap, eAnd_ap, eOr_ap, eNot_ap, eLst_ap, eTup_ap, bNot_ap, bAnd_ap, bOr_ap, tst_ap, tru_ap, R.bind_ok, R.of_some, rbd_ok, rbd_ex, obd_nx, obd_rt, obd_ex, obd_bk, obd_ct, scnd_t, scnd_f, cnd_t, cnd_f, cnd_or, cnd_and, bl_t, tru_bl, tru_non, ty_str, ty_lst, List.set_cons_zero, List.set_cons_succ, addI, subI, negI, ltI, leI, gtI, geI, eqI, neI, chain3_bb, chain3_t, chain3_f, fin_nx, fin_rt, fin_ex, sFz_ap, frzs_cons, frzs_nil, frz_s, frz_0z, frz_0o, frz_0n, bX_int, bX_str, bX_bl, bX_non, bX_lst, bX_tup, R.bind_ex, decT, decF]
    rw [show tupsD (o :: os) = tupD o :: tupsD os from rfl, forO_nm]
    simp only [List.set_cons_zero, List.set_cons_succ]
    rw [e3, loopO_nx, e2, List.flatMap_cons, insAll_app]
theorem noE_cols {h : Nat} (h1 : 1 ≤ h) {K : List (List Int)} (hK : ∀ c ∈ K, c.length = h) : noE K = true := by
  unfold noE
  refine List.all_eq_true.mpr fun c hc => ?_
  have := hK c hc
  cases c with
  | nil => simp at this; omega
  | cons a r => rfl
theorem sem_step {L : Str} {T : List (List Int)} {h : Nat} {S : List (List Int)} {t : Str} (hL : L.length ≤ 4) (hL1 : 1 ≤ L.length) (h1 : 1 ≤ h) (hh : h ≤ 4) (ht : t.length = h) (hS : ∀ o ∈ S, o.length = h) (hn : S.length ≤ 256) : sem_Walk_step [wD L T h, .tup (tupsD S), .str t] = .ok (.tup (tupsD (stepP L T S t))) := by
  obtain ⟨b4, b5, e⟩ := step_ones (T := T) (S := .fz (.tup (tupsD S))) hL hL1 hh ht S [] .no .no hS (by rw [List.length_nil]; omega)
  have hK : ∀ c ∈ insAll [] (S.flatMap fun o => behP L T o (some t)), c.length = h := fun c hc => by
    rcases insAll_mem.mp hc with z | z
    · cases z
    · obtain ⟨o, g1, g2⟩ := List.mem_flatMap.mp z
      rw [(behP_ok c g2).1, hS o g1]
  rw [at_Walk_step]; unfold m_Walk_step
  simp only [sSeq_ap, sSet_ap, sSetX_ap, sRet_ap, sRetX_ap, sDrop_ap, sIf_ap, sFor_ap, sNx_ap, sBk_ap, sCt_ap, sRetN_ap, sRaise_ap, e1_ap, e2_ap, e3_ap, eVar_0, eVar_s, eVarB_0, eVarB_s, eVarB_0o, eCon_ap, eCallB_ap, eCall_ap, eCallF_ap, eMeth_ap, aCons_ap, aNil_ap, eIter_ap, eIf_ap, eAnd_ap, eOr_ap, eNot_ap, eLst_ap, eTup_ap, bNot_ap, bAnd_ap, bOr_ap, tst_ap, tru_ap, R.bind_ok, R.of_some, rbd_ok, rbd_ex, obd_nx, obd_rt, obd_ex, obd_bk, obd_ct, scnd_t, scnd_f, cnd_t, cnd_f, cnd_or, cnd_and, bl_t, tru_bl, tru_non, ty_str, ty_lst, List.set_cons_zero, List.set_cons_succ, addI, subI, negI, ltI, leI, gtI, geI, eqI, neI, chain3_bb, chain3_t, chain3_f, fin_nx, fin_rt, fin_ex, sFz_ap, frzs_cons, frzs_nil, frz_s, frz_0z, frz_0o, frz_0n, bX_int, bX_str, bX_bl, bX_non, bX_lst, bX_tup, R.bind_ex, decT, decF, Int.reduceEq, Int.reduceLT, Int.reduceLE, Int.reduceAdd, Int.reduceSub, Int.reduceMul, List.length_cons, List.length_nil, Nat.reduceAdd, if_pos, show bX (.dct [] []) = .ow (.dct [] []) from rfl, items_tup]
  have e : forO (Tgt.nm 4) m_Walk_step_L2 (tupsD S) [.fz (wD L T h), .fz (.tup (tupsD S)), .fz (.str t), .ow (.dct [] []), .no, .no] = _ := e
  rw [e]
  simp only [sSeq_ap, sSet_ap, sSetX_ap, sRet_ap, sRetX_ap, sDrop_ap, sIf_ap, sFor_ap, sNx_ap, sBk_ap, sCt_ap, sRetN_ap, sRaise_ap, e1_ap, e2_ap, e3_ap, eVar_0, eVar_s, eVarB_0, eVarB_s, eVarB_0o, eCon_ap, eCallB_ap, eCall_ap, eCallF_ap, eMeth_ap, aCons_ap, aNil_ap, eIter_ap, eIf_ap, eAnd_ap, eOr_ap, eNot_ap, eLst_ap, eTup_ap, bNot_ap, bAnd_ap, bOr_ap, tst_ap, tru_ap, R.bind_ok, R.of_some, rbd_ok, rbd_ex, obd_nx, obd_rt, obd_ex, obd_bk, obd_ct, scnd_t, scnd_f, cnd_t, cnd_f, cnd_or, cnd_and, bl_t, tru_bl, tru_non, ty_str, ty_lst, List.set_cons_zero, List.set_cons_succ, addI, subI, negI, ltI, leI, gtI, geI, eqI, neI, chain3_bb, chain3_t, chain3_f, fin_nx, fin_rt, fin_ex, sFz_ap, frzs_cons, frzs_nil, frz_s, frz_0z, frz_0o, frz_0n, bX_int, bX_str, bX_bl, bX_non, bX_lst, bX_tup, R.bind_ex, decT, decF, Int.reduceEq, Int.reduceLT, Int.reduceLE, Int.reduceAdd, Int.reduceSub, Int.reduceMul, List.length_cons, List.length_nil, Nat.reduceAdd, if_pos, sorted_dct (noE_cols h1 hK)]
  rfl

/-! ### lets -/
def sD (S : List (List Int)) : D := .tup (tupsD S)
def lD (S : List (List Int)) : D := .lst (tupsD S)
theorem ix_end {A : List D} {d : D} : ixD (.lst (A ++ [d])) (.int (-1)) = some d := by
  show atI (A ++ [d]) (-1) = _
  exact atI_last _ _
theorem lets_fwd {L : Str} {T : List (List Int)} {h : Nat} (hL : L.length ≤ 4) (hL1 : 1 ≤ L.length) (h1 : 1 ≤ h) (hh : h ≤ 4) {b0 b1 b2 b6 b7 b8 b9 b10 b11 b12 b13 b14 b15 : B} : ∀ (ts : List Str) (S : List (List Int)) (A : List D) (b5 : B), (∀ t ∈ ts, t.length = h) → (∀ o ∈ S, o.length = h) → S.length ≤ 256 → A.length + ts.length ≤ 1000 → ∃ b5' A' S',
    A ++ sD S :: (fwd L T ts S).map sD = A' ++ [sD S'] ∧ (S' ∈ S :: fwd L T ts S) ∧
    forO (.nm 5) m_lets_L1 (ts.map .str) [b0, b1, b2, .fz (wD L T h), .ow (.lst (A ++ [sD S])), b5, b6, b7, b8, b9, b10, b11, b12, b13, b14, b15] =
      .nx [b0, b1, b2, .fz (wD L T h), .ow (.lst (A ++ sD S :: (fwd L T ts S).map sD)), b5', b6, b7, b8, b9, b10, b11, b12, b13, b14, b15]
  | [], S, A, b5, _, _, _, _ => ⟨b5, A, S, rfl, by simp, rfl⟩
  | t :: ts, S, A, b5, ht, hS, hn, hl => by
    rw [List.length_cons] at hl
    have es := sem_step (T := T) hL hL1 h1 hh (ht t (by simp)) hS hn
    have es : sem_Walk_step [wD L T h, sD S, .str t] = .ok (sD (stepP L T S t)) := es
    obtain ⟨c5, A', S', g1, g2, e⟩ := lets_fwd hL hL1 h1 hh (b0 := b0) (b1 := b1) (b2 := b2) (b6 := b6) (b7 := b7) (b8 := b8) (b9 := b9) (b10 := b10) (b11 := b11) (b12 := b12) (b13 := b13) (b14 := b14) (b15 := b15) (T := T) ts (stepP L T S t) (A ++ [sD S]) (.fz (.str t)) (fun q hq => ht q (List.mem_cons_of_mem _ hq)) (fun c hc => (stepP_col hS c hc).1) (stepP_len hL hh hS) (by rw [List.length_append, List.length_singleton]; omega)
    have ea : A ++ [sD S] ++ sD (stepP L T S t) :: (fwd L T ts (stepP L T S t)).map sD = A ++ sD S :: (fwd L T (t :: ts) S).map sD := by
      rw [List.append_assoc]; rfl
    rw [ea] at g1 e
    refine ⟨c5, A', S', g1, List.mem_cons_of_mem _ g2, ?_⟩
    rw [List.map_cons, forO_nm]
    simp only [List.set_cons_zero, List.set_cons_succ]
    have e1 : m_lets_L1 [b0, b1, b2, .fz (wD L T h), .ow (.lst (A ++ [sD S])), .fz (.str t), b6, b7, b8, b9, b10, b11, b12, b13, b14, b15] = .nx [b0, b1, b2, .fz (wD L T h), .ow (.lst (A ++ [sD S] ++ [sD (stepP L T S t)])), .fz (.str t), b6, b7, b8, b9, b10, b11, b12, b13, b14, b15] := by
      unfold m_lets_L1
      rw [sSeq_ap, app_any (A := A ++ [sD S]) (d := sD (stepP L T S t)) rfl ?_ (by rw [List.length_append, List.length_singleton]; omega)]
      · rfl
      · simp only [sSeq_ap, sSet_ap, sSetX_ap, sRet_ap, sRetX_ap, sDrop_ap, sIf_ap, sFor_ap, sNx_ap, sBk_ap, sCt_ap, sRetN_ap, sRaise_ap, e1_ap, e2_ap, e3_ap, eVar_0, eVar_s, eVarB_0, eVarB_s, eVarB_0o, eCon_ap, eCallB_ap, eCall_ap, eCallF_ap, eMeth_ap, aCons_ap, aNil_ap, eIter_ap, eIf_ap, eAnd_ap, eOr_ap, eNot_ap, eLst_ap, eTup_ap, bNot_ap, bAnd_ap, bOr_ap, tst_ap, tru_ap, R.bind_ok, R.of_some, rbd_ok, rbd_ex, obd_nx, obd_rt, obd_ex, obd_bk, obd_ct, scnd_t, scnd_f, cnd_t, cnd_f, cnd_or, cnd_and, bl_t, tru_bl, tru_non, ty_str, ty_lst, List.set_cons_zero, List.set_cons_succ, addI, subI, negI, ltI, leI, gtI, geI, eqI, neI, chain3_bb, chain3_t, chain3_f, fin_nx, fin_rt, fin_ex, sFz_ap, frzs_cons, frzs_nil, frz_s, frz_0z, frz_0o, frz_0n, bX_int, bX_str, bX_bl, bX_non, bX_lst, bX_tup, R.bind_ex, decT, decF, Int.reduceEq, Int.reduceLT, Int.reduceLE, Int.reduceAdd, Int.reduceSub, Int.reduceMul, List.length_cons, List.length_nil, Nat.reduceAdd, if_pos, ix_end, eMc_ap, wD_is, es, okR_ok]
    rw [e1, loopO_nx, e]
theorem lets_back {L : Str} {T : List (List Int)} {h k : Nat} {ds : List D} {F V : List (List Int)} {Ws : List (List (List Int))} (hh : h ≤ 4) (hk : ds[k]? = some (sD F)) (hF : ∀ c ∈ F, c.length = h) (hV : ∀ c ∈ V, c.length = h) (hFn : F.length ≤ 256) (hVn : V.length ≤ 256) (hW : Ws.length ≤ 1000) {b0 b1 b2 b5 b6 b9 b10 b11 b12 b13 b14 b15 : B} :
    m_lets_L7 [b0, b1, b2, .fz (wD L T h), .ow (.lst ds), b5, b6, .ow (.lst ((V :: Ws).map lD)), .fz (.int (k : Int)), b9, b10, b11, b12, b13, b14, b15] =
      .nx [b0, b1, b2, .fz (wD L T h), .ow (.lst ds), b5, .fz (lD (F.filter fun o => V.any fun x => fitsP T o x)), .ow (.lst (((F.filter fun o => V.any fun x => fitsP T o x) :: V :: Ws).map lD)), .fz (.int (k : Int)), b9, b10, b11, b12, b13, b14, b15] := by
  have l1 := lc_gen (it := eIter (QY.e2 ixD (eVarB 4) (eVarB 8))) (t := .nm 13) (tt := m_lets_T6) (elt := m_lets_C5) (vs := [13]) (ρ := [b0, b1, b2, .fz (wD L T h), .ow (.lst ds), b5, b6, .ow (.lst ((V :: Ws).map lD)), .fz (.int (k : Int)), b9, b10, b11, b12, b13, b14, b15]) (f := tupD) (g := tupD) (p := fun o => V.any fun x => fitsP T o x) (A := F)
    (by simp only [sSeq_ap, sSet_ap, sSetX_ap, sRet_ap, sRetX_ap, sDrop_ap, sIf_ap, sFor_ap, sNx_ap, sBk_ap, sCt_ap, sRetN_ap, sRaise_ap, e1_ap, e2_ap, e3_ap, eVar_0, eVar_s, eVarB_0, eVarB_s, eVarB_0o, eCon_ap, eCallB_ap, eCall_ap, eCallF_ap, eMeth_ap, aCons_ap, aNil_ap, eIter_ap, eIf_ap, eAnd_ap, eOr_ap, eNot_ap, eLst_ap, eTup_ap, bNot_ap, bAnd_ap, bOr_ap, tst_ap, tru_ap, R.bind_ok, R.of_some, rbd_ok, rbd_ex, obd_nx, obd_rt, obd_ex, obd_bk, obd_ct, scnd_t, scnd_f, cnd_t, cnd_f, cnd_or, cnd_and, bl_t, tru_bl, tru_non, ty_str, ty_lst, List.set_cons_zero, List.set_cons_succ, addI, subI, negI, ltI, leI, gtI, geI, eqI, neI, chain3_bb, chain3_t, chain3_f, fin_nx, fin_rt, fin_ex, sFz_ap, frzs_cons, frzs_nil, frz_s, frz_0z, frz_0o, frz_0n, bX_int, bX_str, bX_bl, bX_non, bX_lst, bX_tup, R.bind_ex, decT, decF, Int.reduceEq, Int.reduceLT, Int.reduceLE, Int.reduceAdd, Int.reduceSub, Int.reduceMul, List.length_cons, List.length_nil, Nat.reduceAdd, if_pos, ix_lst, hk, show itemsD (sD F) = some (tupsD F) from rfl]; rfl) (by omega) (fun o ho => ⟨_, rfl, by
      have l2 := lc_gen (it := eIter (QY.e2 ixD (eVarB 7) (eCon (.int (0))))) (t := .nm 15) (tt := fun _ => .ok true) (elt := m_lets_C4) (vs := [15]) (ρ := [b0, b1, b2, .fz (wD L T h), .ow (.lst ds), b5, b6, .ow (.lst ((V :: Ws).map lD)), .fz (.int (k : Int)), b9, b10, b11, b12, .fz (tupD o), b14, b15]) (f := tupD) (g := fun x => .bl (fitsP T o x)) (p := fun _ => true) (A := V)
        (by simp only [sSeq_ap, sSet_ap, sSetX_ap, sRet_ap, sRetX_ap, sDrop_ap, sIf_ap, sFor_ap, sNx_ap, sBk_ap, sCt_ap, sRetN_ap, sRaise_ap, e1_ap, e2_ap, e3_ap, eVar_0, eVar_s, eVarB_0, eVarB_s, eVarB_0o, eCon_ap, eCallB_ap, eCall_ap, eCallF_ap, eMeth_ap, aCons_ap, aNil_ap, eIter_ap, eIf_ap, eAnd_ap, eOr_ap, eNot_ap, eLst_ap, eTup_ap, bNot_ap, bAnd_ap, bOr_ap, tst_ap, tru_ap, R.bind_ok, R.of_some, rbd_ok, rbd_ex, obd_nx, obd_rt, obd_ex, obd_bk, obd_ct, scnd_t, scnd_f, cnd_t, cnd_f, cnd_or, cnd_and, bl_t, tru_bl, tru_non, ty_str, ty_lst, List.set_cons_zero, List.set_cons_succ, addI, subI, negI, ltI, leI, gtI, geI, eqI, neI, chain3_bb, chain3_t, chain3_f, fin_nx, fin_rt, fin_ex, sFz_ap, frzs_cons, frzs_nil, frz_s, frz_0z, frz_0o, frz_0n, bX_int, bX_str, bX_bl, bX_non, bX_lst, bX_tup, R.bind_ex, decT, decF, Int.reduceEq, Int.reduceLT, Int.reduceLE, Int.reduceAdd, Int.reduceSub, Int.reduceMul, List.length_cons, List.length_nil, Nat.reduceAdd, if_pos, List.map_cons, ix_0, show itemsD (lD V) = some (tupsD V) from rfl]; rfl) (by omega) (fun x hx => ⟨_, rfl, rfl, fun _ => by
          have hox : x.length = o.length := by rw [hV x hx, hF o ho]
          unfold m_lets_C4
          simp only [sSeq_ap, sSet_ap, sSetX_ap, sRet_ap, sRetX_ap, sDrop_ap, sIf_ap, sFor_ap, sNx_ap, sBk_ap, sCt_ap, sRetN_ap, sRaise_ap, e1_ap, e2_ap, e3_ap, eVar_0, eVar_s, eVarB_0, eVarB_s, eVarB_0o, eCon_ap, eCallB_ap, eCall_ap, eCallF_ap, eMeth_ap, aCons_ap, aNil_ap, eIter_ap, eIf_ap, eAnd_ap, eOr_ap, eNot_ap, eLst_ap, eTup_ap, bNot_ap, bAnd_ap, bOr_ap, tst_ap, tru_ap, R.bind_ok, R.of_some, rbd_ok, rbd_ex, obd_nx, obd_rt, obd_ex, obd_bk, obd_ct, scnd_t, scnd_f, cnd_t, cnd_f, cnd_or, cnd_and, bl_t, tru_bl, tru_non, ty_str, ty_lst, List.set_cons_zero, List.set_cons_succ, addI, subI, negI, ltI, leI, gtI, geI, eqI, neI, chain3_bb, chain3_t, chain3_f, fin_nx, fin_rt, fin_ex, sFz_ap, frzs_cons, frzs_nil, frz_s, frz_0z, frz_0o, frz_0n, bX_int, bX_str, bX_bl, bX_non, bX_lst, bX_tup, R.bind_ex, decT, decF, Int.reduceEq, Int.reduceLT, Int.reduceLE, Int.reduceAdd, Int.reduceSub, Int.reduceMul, List.length_cons, List.length_nil, Nat.reduceAdd, if_pos, wipeB, eMc_ap, wD_is, sem_fits (L := L) (T := T) (h := h) (a := o) (b := x) (by rw [hF o ho]; omega) hox, okR_ok]⟩)
      rw [List.filter_eq_self.mpr (fun _ _ => rfl)] at l2
      unfold m_lets_T6
      simp only [sSeq_ap, sSet_ap, sSetX_ap, sRet_ap, sRetX_ap, sDrop_ap, sIf_ap, sFor_ap, sNx_ap, sBk_ap, sCt_ap, sRetN_ap, sRaise_ap, e1_ap, e2_ap, e3_ap, eVar_0, eVar_s, eVarB_0, eVarB_s, eVarB_0o, eCon_ap, eCallB_ap, eCall_ap, eCallF_ap, eMeth_ap, aCons_ap, aNil_ap, eIter_ap, eIf_ap, eAnd_ap, eOr_ap, eNot_ap, eLst_ap, eTup_ap, bNot_ap, bAnd_ap, bOr_ap, tst_ap, tru_ap, R.bind_ok, R.of_some, rbd_ok, rbd_ex, obd_nx, obd_rt, obd_ex, obd_bk, obd_ct, scnd_t, scnd_f, cnd_t, cnd_f, cnd_or, cnd_and, bl_t, tru_bl, tru_non, ty_str, ty_lst, List.set_cons_zero, List.set_cons_succ, addI, subI, negI, ltI, leI, gtI, geI, eqI, neI, chain3_bb, chain3_t, chain3_f, fin_nx, fin_rt, fin_ex, sFz_ap, frzs_cons, frzs_nil, frz_s, frz_0z, frz_0o, frz_0n, bX_int, bX_str, bX_bl, bX_non, bX_lst, bX_tup, R.bind_ex, decT, decF, Int.reduceEq, Int.reduceLT, Int.reduceLE, Int.reduceAdd, Int.reduceSub, Int.reduceMul, List.length_cons, List.length_nil, Nat.reduceAdd, if_pos, wipeB, l2, any_bls], fun _ => by unfold m_lets_C5; simp only [sSeq_ap, sSet_ap, sSetX_ap, sRet_ap, sRetX_ap, sDrop_ap, sIf_ap, sFor_ap, sNx_ap, sBk_ap, sCt_ap, sRetN_ap, sRaise_ap, e1_ap, e2_ap, e3_ap, eVar_0, eVar_s, eVarB_0, eVarB_s, eVarB_0o, eCon_ap, eCallB_ap, eCall_ap, eCallF_ap, eMeth_ap, aCons_ap, aNil_ap, eIter_ap, eIf_ap, eAnd_ap, eOr_ap, eNot_ap, eLst_ap, eTup_ap, bNot_ap, bAnd_ap, bOr_ap, tst_ap, tru_ap, R.bind_ok, R.of_some, rbd_ok, rbd_ex, obd_nx, obd_rt, obd_ex, obd_bk, obd_ct, scnd_t, scnd_f, cnd_t, cnd_f, cnd_or, cnd_and, bl_t, tru_bl, tru_non, ty_str, ty_lst, List.set_cons_zero, List.set_cons_succ, addI, subI, negI, ltI, leI, gtI, geI, eqI, neI, chain3_bb, chain3_t, chain3_f, fin_nx, fin_rt, fin_ex, sFz_ap, frzs_cons, frzs_nil, frz_s, frz_0z, frz_0o, frz_0n, bX_int, bX_str, bX_bl, bX_non, bX_lst, bX_tup, R.bind_ex, decT, decF, Int.reduceEq, Int.reduceLT, Int.reduceLE, Int.reduceAdd, Int.reduceSub, Int.reduceMul, List.length_cons, List.length_nil, Nat.reduceAdd, if_pos, wipeB]⟩)
  unfold m_lets_L7
  rw [sSeq_ap, sSetX_ap, l1, rbd_ok]
  simp only [sSeq_ap, sSet_ap, sSetX_ap, sRet_ap, sRetX_ap, sDrop_ap, sIf_ap, sFor_ap, sNx_ap, sBk_ap, sCt_ap, sRetN_ap, sRaise_ap, e1_ap, e2_ap, e3_ap, eVar_0, eVar_s, eVarB_0, eVarB_s, eVarB_0o, eCon_ap, eCallB_ap, eCall_ap, eCallF_ap, eMeth_ap, aCons_ap, aNil_ap, eIter_ap, eIf_ap, eAnd_ap, eOr_ap, eNot_ap, eLst_ap, eTup_ap, bNot_ap, bAnd_ap, bOr_ap, tst_ap, tru_ap, R.bind_ok, R.of_some, rbd_ok, rbd_ex, obd_nx, obd_rt, obd_ex, obd_bk, obd_ct, scnd_t, scnd_f, cnd_t, cnd_f, cnd_or, cnd_and, bl_t, tru_bl, tru_non, ty_str, ty_lst, List.set_cons_zero, List.set_cons_succ, addI, subI, negI, ltI, leI, gtI, geI, eqI, neI, chain3_bb, chain3_t, chain3_f, fin_nx, fin_rt, fin_ex, sFz_ap, frzs_cons, frzs_nil, frz_s, frz_0z, frz_0o, frz_0n, bX_int, bX_str, bX_bl, bX_non, bX_lst, bX_tup, R.bind_ex, decT, decF, Int.reduceEq, Int.reduceLT, Int.reduceLE, Int.reduceAdd, Int.reduceSub, Int.reduceMul, List.length_cons, List.length_nil, Nat.reduceAdd, if_pos]
  have eg : gIns ((V :: Ws).map lD) [.int 0, lD (F.filter fun o => V.any fun x => fitsP T o x)] = some (((F.filter fun o => V.any fun x => fitsP T o x) :: V :: Ws).map lD) := by
    show (if 0 ≤ (0 : Int) ∧ (0 : Int) < 2 ^ 63 ∧ ((V :: Ws).map lD).length < LIM then some (((V :: Ws).map lD).take (0 : Int).toNat ++ [lD (F.filter fun o => V.any fun x => fitsP T o x)] ++ ((V :: Ws).map lD).drop (0 : Int).toNat) else none) = _
    rw [if_pos ⟨by decide, by decide, by rw [List.length_map, List.length_cons]; exact lim2 (by omega)⟩]
    rfl
  rw [sMut_at (xs := (V :: Ws).map lD) rfl]
  simp only [sSeq_ap, sSet_ap, sSetX_ap, sRet_ap, sRetX_ap, sDrop_ap, sIf_ap, sFor_ap, sNx_ap, sBk_ap, sCt_ap, sRetN_ap, sRaise_ap, e1_ap, e2_ap, e3_ap, eVar_0, eVar_s, eVarB_0, eVarB_s, eVarB_0o, eCon_ap, eCallB_ap, eCall_ap, eCallF_ap, eMeth_ap, aCons_ap, aNil_ap, eIter_ap, eIf_ap, eAnd_ap, eOr_ap, eNot_ap, eLst_ap, eTup_ap, bNot_ap, bAnd_ap, bOr_ap, tst_ap, tru_ap, R.bind_ok, R.of_some, rbd_ok, rbd_ex, obd_nx, obd_rt, obd_ex, obd_bk, obd_ct, scnd_t, scnd_f, cnd_t, cnd_f, cnd_or, cnd_and, bl_t, tru_bl, tru_non, ty_str, ty_lst, List.set_cons_zero, List.set_cons_succ, addI, subI, negI, ltI, leI, gtI, geI, eqI, neI, chain3_bb, chain3_t, chain3_f, fin_nx, fin_rt, fin_ex, sFz_ap, frzs_cons, frzs_nil, frz_s, frz_0z, frz_0o, frz_0n, bX_int, bX_str, bX_bl, bX_non, bX_lst, bX_tup, R.bind_ex, decT, decF, Int.reduceEq, Int.reduceLT, Int.reduceLE, Int.reduceAdd, Int.reduceSub, Int.reduceMul, List.length_cons, List.length_nil, Nat.reduceAdd, if_pos, eg, optO_some]
  rw [show D.lst ((F.filter fun o => V.any fun x => fitsP T o x).map tupD) = lD (F.filter fun o => V.any fun x => fitsP T o x) from rfl, eg, optO_some]
  rfl
theorem lets_bw {L : Str} {T : List (List Int)} {h : Nat} {e : D} (hh : h ≤ 4) {b0 b1 b2 b5 b9 b10 b11 b12 b13 b14 b15 : B} : ∀ (q : Nat) (P Q : List (List (List Int))) (G : List (List Int)) (b6 b8 : B), P.length = q → (∀ F ∈ P ++ G :: Q, (∀ c ∈ F, c.length = h) ∧ F.length ≤ 256) → (P ++ G :: Q).length ≤ 500 → ∃ b6' b8',
    forO (.nm 8) m_lets_L7 ((List.range q).map fun (i : Nat) => .int ((q - i : Nat) : Int)) [b0, b1, b2, .fz (wD L T h), .ow (.lst (e :: (P ++ G :: Q).map sD)), b5, b6, .ow (.lst ((bw T (G :: Q)).map lD)), b8, b9, b10, b11, b12, b13, b14, b15] =
      .nx [b0, b1, b2, .fz (wD L T h), .ow (.lst (e :: (P ++ G :: Q).map sD)), b5, b6', .ow (.lst ((bw T (P ++ G :: Q)).map lD)), b8', b9, b10, b11, b12, b13, b14, b15]
  | 0, P, Q, G, b6, b8, hq, _, _ => by
    have : P = [] := List.length_eq_zero_iff.mp hq
    subst this
    exact ⟨b6, b8, rfl⟩
  | q + 1, P, Q, G, b6, b8, hq, hF, hl => by
    have hne : P ≠ [] := fun z => by rw [z] at hq; simp at hq
    have ec := (List.dropLast_concat_getLast hne).symm
    generalize P.dropLast = P' at ec
    generalize P.getLast hne = F at ec
    subst ec
    have hq' : P'.length = q := by rw [List.length_append] at hq; simpa using hq
    have ea : P' ++ [F] ++ G :: Q = P' ++ F :: G :: Q := by rw [List.append_assoc]; rfl
    rw [ea] at hF hl ⊢
    have hv : ∀ c ∈ (bw T (G :: Q)).headD [], c ∈ G := by
      intro c hc
      cases Q with
      | nil => exact (List.mem_filter.mp hc).1
      | cons A B => exact (List.mem_filter.mp hc).1
    have hvl : ((bw T (G :: Q)).headD []).length ≤ G.length := by
      cases Q with
      | nil => exact List.length_filter_le _ _
      | cons A B => exact List.length_filter_le _ _
    obtain ⟨hG1, hG2⟩ := hF G (by simp)
    obtain ⟨hF1, hF2⟩ := hF F (by simp)
    have eb : bw T (G :: Q) = (bw T (G :: Q)).headD [] :: (bw T (G :: Q)).tail := by
      cases Q <;> rfl
    have htl : (bw T (G :: Q)).tail.length ≤ 1000 := by
      rw [List.length_tail, bw_len]
      rw [List.length_append, List.length_cons, List.length_cons] at hl
      rw [List.length_cons]; omega
    have e1 := lets_back (L := L) (T := T) (h := h) (k := q + 1) (ds := e :: (P' ++ F :: G :: Q).map sD) (F := F) (V := (bw T (G :: Q)).headD []) (Ws := (bw T (G :: Q)).tail) hh (by
      rw [List.getElem?_cons_succ, List.getElem?_map, List.getElem?_append_right (by omega), hq', Nat.sub_self]; rfl) hF1 (fun c hc => hG1 c (hv c hc)) hF2 (Nat.le_trans hvl hG2) htl (b0 := b0) (b1 := b1) (b2 := b2) (b5 := b5) (b6 := b6) (b9 := b9) (b10 := b10) (b11 := b11) (b12 := b12) (b13 := b13) (b14 := b14) (b15 := b15)
    rw [← eb] at e1
    obtain ⟨c6, c8, e2⟩ := lets_bw (L := L) (T := T) (e := e) hh (b0 := b0) (b1 := b1) (b2 := b2) (b5 := b5) (b9 := b9) (b10 := b10) (b11 := b11) (b12 := b12) (b13 := b13) (b14 := b14) (b15 := b15) q P' (G :: Q) F (.fz (lD (F.filter fun o => ((bw T (G :: Q)).headD []).any fun x => fitsP T o x))) (.fz (.int ((q + 1 : Nat) : Int))) hq' hF hl
    refine ⟨c6, c8, ?_⟩
    have er : ((List.range (q + 1)).map fun (i : Nat) => D.int ((q + 1 - i : Nat) : Int)) = .int ((q + 1 : Nat) : Int) :: (List.range q).map fun (i : Nat) => .int ((q - i : Nat) : Int) := by
      rw [List.range_succ_eq_map, List.map_cons, List.map_map]
      congr 1
      refine List.map_congr_left fun i _ => ?_
      show D.int ((q + 1 - (i + 1) : Nat) : Int) = _
      rw [Nat.add_sub_add_right]
    rw [er, forO_nm]
    simp only [List.set_cons_zero, List.set_cons_succ]
    rw [e1, loopO_nx]
    exact e2
theorem lets_gr {L : Str} {T : List (List Int)} {h : Nat} (hh : h ≤ 4) {b0 b1 b2 b4 b5 b6 b7 b8 b14 b15 : B} : ∀ (Ws : List (List (List Int))) (l : List Int) (A : List (List Int)) (b11 b12 b13 : B), l.length = h → (∀ W ∈ Ws, (∀ c ∈ W, c.length = h) ∧ W.length ≤ 256) → A.length + Ws.length ≤ 1000 → ∃ c10 c11 c12 c13,
    forO (.nm 11) m_lets_L10 (Ws.map lD) [b0, b1, b2, .fz (wD L T h), b4, b5, b6, b7, b8, .ow (.lst (tupsD A)), .fz (tupD l), b11, b12, b13, b14, b15] =
      (match gr T l Ws with
        | none => .rt .non true
        | some cs => .nx [b0, b1, b2, .fz (wD L T h), b4, b5, b6, b7, b8, .ow (.lst (tupsD (A ++ cs))), c10, c11, c12, c13, b14, b15])
  | [], l, A, b11, b12, b13, _, _, _ => ⟨.fz (tupD l), b11, b12, b13, by simp [gr]⟩
  | W :: Ws, l, A, b11, b12, b13, hl, hW, hA => by
    rw [List.length_cons] at hA
    obtain ⟨w1, w2⟩ := hW W (by simp)
    have l1 := lc_gen (it := eIter (eVar 11)) (t := .nm 13) (tt := m_lets_T9) (elt := m_lets_C8) (vs := [13]) (ρ := [b0, b1, b2, .fz (wD L T h), b4, b5, b6, b7, b8, .ow (.lst (tupsD A)), .fz (tupD l), .fz (lD W), b12, b13, b14, b15]) (f := tupD) (g := tupD) (p := fun c => fitsP T l c) (A := W)
      (by simp only [sSeq_ap, sSet_ap, sSetX_ap, sRet_ap, sRetX_ap, sDrop_ap, sIf_ap, sFor_ap, sNx_ap, sBk_ap, sCt_ap, sRetN_ap, sRaise_ap, e1_ap, e2_ap, e3_ap, eVar_0, eVar_s, eVarB_0, eVarB_s, eVarB_0o, eCon_ap, eCallB_ap, eCall_ap, eCallF_ap, eMeth_ap, aCons_ap, aNil_ap, eIter_ap, eIf_ap, eAnd_ap, eOr_ap, eNot_ap, eLst_ap, eTup_ap, bNot_ap, bAnd_ap, bOr_ap, tst_ap, tru_ap, R.bind_ok, R.of_some, rbd_ok, rbd_ex, obd_nx, obd_rt, obd_ex, obd_bk, obd_ct, scnd_t, scnd_f, cnd_t, cnd_f, cnd_or, cnd_and, bl_t, tru_bl, tru_non, ty_str, ty_lst, List.set_cons_zero, List.set_cons_succ, addI, subI, negI, ltI, leI, gtI, geI, eqI, neI, chain3_bb, chain3_t, chain3_f, fin_nx, fin_rt, fin_ex, sFz_ap, frzs_cons, frzs_nil, frz_s, frz_0z, frz_0o, frz_0n, bX_int, bX_str, bX_bl, bX_non, bX_lst, bX_tup, R.bind_ex, decT, decF, Int.reduceEq, Int.reduceLT, Int.reduceLE, Int.reduceAdd, Int.reduceSub, Int.reduceMul, List.length_cons, List.length_nil, Nat.reduceAdd, if_pos, show itemsD (lD W) = some (tupsD W) from rfl]; rfl) (by omega) (fun c hc => ⟨_, rfl, by
        unfold m_lets_T9
        simp only [sSeq_ap, sSet_ap, sSetX_ap, sRet_ap, sRetX_ap, sDrop_ap, sIf_ap, sFor_ap, sNx_ap, sBk_ap, sCt_ap, sRetN_ap, sRaise_ap, e1_ap, e2_ap, e3_ap, eVar_0, eVar_s, eVarB_0, eVarB_s, eVarB_0o, eCon_ap, eCallB_ap, eCall_ap, eCallF_ap, eMeth_ap, aCons_ap, aNil_ap, eIter_ap, eIf_ap, eAnd_ap, eOr_ap, eNot_ap, eLst_ap, eTup_ap, bNot_ap, bAnd_ap, bOr_ap, tst_ap, tru_ap, R.bind_ok, R.of_some, rbd_ok, rbd_ex, obd_nx, obd_rt, obd_ex, obd_bk, obd_ct, scnd_t, scnd_f, cnd_t, cnd_f, cnd_or, cnd_and, bl_t, tru_bl, tru_non, ty_str, ty_lst, List.set_cons_zero, List.set_cons_succ, addI, subI, negI, ltI, leI, gtI, geI, eqI, neI, chain3_bb, chain3_t, chain3_f, fin_nx, fin_rt, fin_ex, sFz_ap, frzs_cons, frzs_nil, frz_s, frz_0z, frz_0o, frz_0n, bX_int, bX_str, bX_bl, bX_non, bX_lst, bX_tup, R.bind_ex, decT, decF, Int.reduceEq, Int.reduceLT, Int.reduceLE, Int.reduceAdd, Int.reduceSub, Int.reduceMul, List.length_cons, List.length_nil, Nat.reduceAdd, if_pos, wipeB, eMc_ap, wD_is, sem_fits (L := L) (T := T) (h := h) (a := l) (b := c) (by omega) (by rw [w1 c hc, hl]), okR_ok], fun _ => by unfold m_lets_C8; simp only [sSeq_ap, sSet_ap, sSetX_ap, sRet_ap, sRetX_ap, sDrop_ap, sIf_ap, sFor_ap, sNx_ap, sBk_ap, sCt_ap, sRetN_ap, sRaise_ap, e1_ap, e2_ap, e3_ap, eVar_0, eVar_s, eVarB_0, eVarB_s, eVarB_0o, eCon_ap, eCallB_ap, eCall_ap, eCallF_ap, eMeth_ap, aCons_ap, aNil_ap, eIter_ap, eIf_ap, eAnd_ap, eOr_ap, eNot_ap, eLst_ap, eTup_ap, bNot_ap, bAnd_ap, bOr_ap, tst_ap, tru_ap, R.bind_ok, R.of_some, rbd_ok, rbd_ex, obd_nx, obd_rt, obd_ex, obd_bk, obd_ct, scnd_t, scnd_f, cnd_t, cnd_f, cnd_or, cnd_and, bl_t, tru_bl, tru_non, ty_str, ty_lst, List.set_cons_zero, List.set_cons_succ, addI, subI, negI, ltI, leI, gtI, geI, eqI, neI, chain3_bb, chain3_t, chain3_f, fin_nx, fin_rt, fin_ex, sFz_ap, frzs_cons, frzs_nil, frz_s, frz_0z, frz_0o, frz_0n, bX_int, bX_str, bX_bl, bX_non, bX_lst, bX_tup, R.bind_ex, decT, decF, Int.reduceEq, Int.reduceLT, Int.reduceLE, Int.reduceAdd, Int.reduceSub, Int.reduceMul, List.length_cons, List.length_nil, Nat.reduceAdd, if_pos, wipeB]⟩)
    have ef : forO (.nm 11) m_lets_L10 ((W :: Ws).map lD) [b0, b1, b2, .fz (wD L T h), b4, b5, b6, b7, b8, .ow (.lst (tupsD A)), .fz (tupD l), b11, b12, b13, b14, b15] = loopO (m_lets_L10 [b0, b1, b2, .fz (wD L T h), b4, b5, b6, b7, b8, .ow (.lst (tupsD A)), .fz (tupD l), .fz (lD W), b12, b13, b14, b15]) (forO (.nm 11) m_lets_L10 (Ws.map lD)) := by
      rw [List.map_cons, forO_nm]
      simp only [List.set_cons_zero, List.set_cons_succ]
    have eg : gr T l (W :: Ws) = (match W.filter fun c => fitsP T l c with
      | [] => none
      | c :: _ => (gr T c Ws).map fun r => c :: r) := rfl
    rw [ef, eg]
    cases hY : W.filter fun c => fitsP T l c with
    | nil =>
      rw [hY] at l1
      refine ⟨b11, b11, b12, b13, ?_⟩
      have : m_lets_L10 [b0, b1, b2, .fz (wD L T h), b4, b5, b6, b7, b8, .ow (.lst (tupsD A)), .fz (tupD l), .fz (lD W), b12, b13, b14, b15] = .rt .non true := by
        unfold m_lets_L10
        rw [sSeq_ap, sSetX_ap, l1, rbd_ok]
        simp only [sSeq_ap, sSet_ap, sSetX_ap, sRet_ap, sRetX_ap, sDrop_ap, sIf_ap, sFor_ap, sNx_ap, sBk_ap, sCt_ap, sRetN_ap, sRaise_ap, e1_ap, e2_ap, e3_ap, eVar_0, eVar_s, eVarB_0, eVarB_s, eVarB_0o, eCon_ap, eCallB_ap, eCall_ap, eCallF_ap, eMeth_ap, aCons_ap, aNil_ap, eIter_ap, eIf_ap, eAnd_ap, eOr_ap, eNot_ap, eLst_ap, eTup_ap, bNot_ap, bAnd_ap, bOr_ap, tst_ap, tru_ap, R.bind_ok, R.of_some, rbd_ok, rbd_ex, obd_nx, obd_rt, obd_ex, obd_bk, obd_ct, scnd_t, scnd_f, cnd_t, cnd_f, cnd_or, cnd_and, bl_t, tru_bl, tru_non, ty_str, ty_lst, List.set_cons_zero, List.set_cons_succ, addI, subI, negI, ltI, leI, gtI, geI, eqI, neI, chain3_bb, chain3_t, chain3_f, fin_nx, fin_rt, fin_ex, sFz_ap, frzs_cons, frzs_nil, frz_s, frz_0z, frz_0o, frz_0n, bX_int, bX_str, bX_bl, bX_non, bX_lst, bX_tup, R.bind_ex, decT, decF, Int.reduceEq, Int.reduceLT, Int.reduceLE, Int.reduceAdd, Int.reduceSub, Int.reduceMul, List.length_cons, List.length_nil, Nat.reduceAdd, if_pos, List.map_nil, tru_lst, List.isEmpty_nil, nlE_ap]
        rfl
      rw [this]; rfl
    | cons c Y =>
      rw [hY] at l1
      have hc : c ∈ W := by
        have : c ∈ c :: Y := by simp
        rw [← hY] at this
        exact (List.mem_filter.mp this).1
      obtain ⟨c10, c11, c12, c13, e2⟩ := lets_gr (L := L) (T := T) hh (b0 := b0) (b1 := b1) (b2 := b2) (b4 := b4) (b5 := b5) (b6 := b6) (b7 := b7) (b8 := b8) (b14 := b14) (b15 := b15) Ws c (A ++ [c]) (.fz (lD W)) (.ow (.lst (tupsD (c :: Y)))) b13 (w1 c hc) (fun X hX => hW X (List.mem_cons_of_mem _ hX)) (by rw [List.length_append, List.length_singleton]; omega)
      refine ⟨c10, c11, c12, c13, ?_⟩
      have : m_lets_L10 [b0, b1, b2, .fz (wD L T h), b4, b5, b6, b7, b8, .ow (.lst (tupsD A)), .fz (tupD l), .fz (lD W), b12, b13, b14, b15] = .nx [b0, b1, b2, .fz (wD L T h), b4, b5, b6, b7, b8, .ow (.lst (tupsD (A ++ [c]))), .fz (tupD c), .fz (lD W), .ow (.lst (tupsD (c :: Y))), b13, b14, b15] := by
        unfold m_lets_L10
        rw [sSeq_ap, sSetX_ap, l1, rbd_ok]
        simp only [sSeq_ap, sSet_ap, sSetX_ap, sRet_ap, sRetX_ap, sDrop_ap, sIf_ap, sFor_ap, sNx_ap, sBk_ap, sCt_ap, sRetN_ap, sRaise_ap, e1_ap, e2_ap, e3_ap, eVar_0, eVar_s, eVarB_0, eVarB_s, eVarB_0o, eCon_ap, eCallB_ap, eCall_ap, eCallF_ap, eMeth_ap, aCons_ap, aNil_ap, eIter_ap, eIf_ap, eAnd_ap, eOr_ap, eNot_ap, eLst_ap, eTup_ap, bNot_ap, bAnd_ap, bOr_ap, tst_ap, tru_ap, R.bind_ok, R.of_some, rbd_ok, rbd_ex, obd_nx, obd_rt, obd_ex, obd_bk, obd_ct, scnd_t, scnd_f, cnd_t, cnd_f, cnd_or, cnd_and, bl_t, tru_bl, tru_non, ty_str, ty_lst, List.set_cons_zero, List.set_cons_succ, addI, subI, negI, ltI, leI, gtI, geI, eqI, neI, chain3_bb, chain3_t, chain3_f, fin_nx, fin_rt, fin_ex, sFz_ap, frzs_cons, frzs_nil, frz_s, frz_0z, frz_0o, frz_0n, bX_int, bX_str, bX_bl, bX_non, bX_lst, bX_tup, R.bind_ex, decT, decF, Int.reduceEq, Int.reduceLT, Int.reduceLE, Int.reduceAdd, Int.reduceSub, Int.reduceMul, List.length_cons, List.length_nil, Nat.reduceAdd, if_pos, tru_lst, List.map_cons, List.isEmpty_cons, Bool.not_false, Bool.not_true, ix_0]
        rw [app_tups (A := A) (t := c) rfl (by simp only [sSeq_ap, sSet_ap, sSetX_ap, sRet_ap, sRetX_ap, sDrop_ap, sIf_ap, sFor_ap, sNx_ap, sBk_ap, sCt_ap, sRetN_ap, sRaise_ap, e1_ap, e2_ap, e3_ap, eVar_0, eVar_s, eVarB_0, eVarB_s, eVarB_0o, eCon_ap, eCallB_ap, eCall_ap, eCallF_ap, eMeth_ap, aCons_ap, aNil_ap, eIter_ap, eIf_ap, eAnd_ap, eOr_ap, eNot_ap, eLst_ap, eTup_ap, bNot_ap, bAnd_ap, bOr_ap, tst_ap, tru_ap, R.bind_ok, R.of_some, rbd_ok, rbd_ex, obd_nx, obd_rt, obd_ex, obd_bk, obd_ct, scnd_t, scnd_f, cnd_t, cnd_f, cnd_or, cnd_and, bl_t, tru_bl, tru_non, ty_str, ty_lst, List.set_cons_zero, List.set_cons_succ, addI, subI, negI, ltI, leI, gtI, geI, eqI, neI, chain3_bb, chain3_t, chain3_f, fin_nx, fin_rt, fin_ex, sFz_ap, frzs_cons, frzs_nil, frz_s, frz_0z, frz_0o, frz_0n, bX_int, bX_str, bX_bl, bX_non, bX_lst, bX_tup, R.bind_ex, decT, decF, Int.reduceEq, Int.reduceLT, Int.reduceLE, Int.reduceAdd, Int.reduceSub, Int.reduceMul, List.length_cons, List.length_nil, Nat.reduceAdd, if_pos]) (by omega)]
        rfl
      rw [this, loopO_nx, e2]
      show _ = (match (gr T c Ws).map fun r => c :: r with
        | none => O.rt .non true
        | some cs => .nx [b0, b1, b2, .fz (wD L T h), b4, b5, b6, b7, b8, .ow (.lst (tupsD (A ++ cs))), c10, c11, c12, c13, b14, b15])
      cases gr T c Ws with
      | none => rfl
      | some cs =>
        show O.nx _ = O.nx _
        rw [List.append_assoc]; rfl
theorem lets_ok {L : Str} {T : List (List Int)} {P : List Str} (hL : L.length ≤ 4) (hL1 : 1 ≤ L.length) (ok : okSys L T = true) (hT : T.length < 1000000) (hP : good P = true) :
    sem_lets [sysD L T, picD P] = .ok (match leastP L T (colsT P) (List.replicate P.length (-1)) with
      | none => .non
      | some cs => gridD (transp P.length cs)) := by
  obtain ⟨h1, hh, w1, w2, hts, htl⟩ := good_cols hP
  generalize hh0 : P.length = h at h1 hh hts
  have lg : flatR (sem_look_system [sysD L T]) = .ok .non := by
    rw [flook (by omega) (by omega) (fun t ht => by
      have := (okT_all (chk_okT (okSys_chk ok) t ht)).1
      omega), if_pos ok]
  have mk := sem_mk (T := T) (by omega) ok hT h1 hh
  have sc := sem_cols (good_sm hP)
  rw [if_pos hP, show colsL P = (colsT P).map .str from colsL_eq P] at sc
  have hpl : lenD [picD P] = some (.int (h : Int)) := by rw [pic_len, hh0]
  generalize colsT P = ts at hts htl sc w1 w2
  obtain ⟨t, ts', rfl⟩ : ∃ t ts', ts = t :: ts' := by
    cases ts with
    | nil => simp at w1
    | cons t r => exact ⟨t, r, rfl⟩
  generalize hE : List.replicate h (-1) = E
  have hEl : E.length = h := by rw [← hE, List.length_replicate]
  have hE1 : ∀ o ∈ [E], o.length = h := fun o ho => by rw [List.mem_singleton] at ho; rw [ho, hEl]
  have ged : fldD 0 2 (wD L T h) = some (tupD E) := by rw [wD_edge, hE]
  rw [at_lets]; unfold m_lets
  simp only [sSeq_ap, sSet_ap, sSetX_ap, sRet_ap, sRetX_ap, sDrop_ap, sIf_ap, sFor_ap, sNx_ap, sBk_ap, sCt_ap, sRetN_ap, sRaise_ap, e1_ap, e2_ap, e3_ap, eVar_0, eVar_s, eVarB_0, eVarB_s, eVarB_0o, eCon_ap, eCallB_ap, eCall_ap, eCallF_ap, eMeth_ap, aCons_ap, aNil_ap, eIter_ap, eIf_ap, eAnd_ap, eOr_ap, eNot_ap, eLst_ap, eTup_ap, bNot_ap, bAnd_ap, bOr_ap, tst_ap, tru_ap, R.bind_ok, R.of_some, rbd_ok, rbd_ex, obd_nx, obd_rt, obd_ex, obd_bk, obd_ct, scnd_t, scnd_f, cnd_t, cnd_f, cnd_or, cnd_and, bl_t, tru_bl, tru_non, ty_str, ty_lst, List.set_cons_zero, List.set_cons_succ, addI, subI, negI, ltI, leI, gtI, geI, eqI, neI, chain3_bb, chain3_t, chain3_f, fin_nx, fin_rt, fin_ex, sFz_ap, frzs_cons, frzs_nil, frz_s, frz_0z, frz_0o, frz_0n, bX_int, bX_str, bX_bl, bX_non, bX_lst, bX_tup, R.bind_ex, decT, decF, Int.reduceEq, Int.reduceLT, Int.reduceLE, Int.reduceAdd, Int.reduceSub, Int.reduceMul, List.length_cons, List.length_nil, Nat.reduceAdd, if_pos, lg, sc, bX_lst, hpl, eMk_ap, mk, ged, if_pos (show 1 ≤ LIM by decide)]
  obtain ⟨c5, _, _, _, _, e1⟩ := lets_fwd (T := T) hL hL1 h1 hh (b0 := .fz (sysD L T)) (b1 := .fz (picD P)) (b2 := .fz (.lst ((t :: ts').map .str))) (b6 := .no) (b7 := .no) (b8 := .no) (b9 := .no) (b10 := .no) (b11 := .no) (b12 := .no) (b13 := .no) (b14 := .no) (b15 := .no) (t :: ts') [E] [] .no hts hE1 (by rw [List.length_singleton]; decide) (by rw [List.length_nil]; omega)
  have e1 : forO (Tgt.nm 5) m_lets_L1 ((t :: ts').map D.str) [.fz (sysD L T), .fz (picD P), .fz (.lst ((t :: ts').map .str)), .fz (wD L T h), .ow (.lst [.tup [tupD E]]), .no, .no, .no, .no, .no, .no, .no, .no, .no, .no, .no] = _ := e1
  rw [items_lst]
  simp only [sSeq_ap, sSet_ap, sSetX_ap, sRet_ap, sRetX_ap, sDrop_ap, sIf_ap, sFor_ap, sNx_ap, sBk_ap, sCt_ap, sRetN_ap, sRaise_ap, e1_ap, e2_ap, e3_ap, eVar_0, eVar_s, eVarB_0, eVarB_s, eVarB_0o, eCon_ap, eCallB_ap, eCall_ap, eCallF_ap, eMeth_ap, aCons_ap, aNil_ap, eIter_ap, eIf_ap, eAnd_ap, eOr_ap, eNot_ap, eLst_ap, eTup_ap, bNot_ap, bAnd_ap, bOr_ap, tst_ap, tru_ap, R.bind_ok, R.of_some, rbd_ok, rbd_ex, obd_nx, obd_rt, obd_ex, obd_bk, obd_ct, scnd_t, scnd_f, cnd_t, cnd_f, cnd_or, cnd_and, bl_t, tru_bl, tru_non, ty_str, ty_lst, List.set_cons_zero, List.set_cons_succ, addI, subI, negI, ltI, leI, gtI, geI, eqI, neI, chain3_bb, chain3_t, chain3_f, fin_nx, fin_rt, fin_ex, sFz_ap, frzs_cons, frzs_nil, frz_s, frz_0z, frz_0o, frz_0n, bX_int, bX_str, bX_bl, bX_non, bX_lst, bX_tup, R.bind_ex, decT, decF, Int.reduceEq, Int.reduceLT, Int.reduceLE, Int.reduceAdd, Int.reduceSub, Int.reduceMul, List.length_cons, List.length_nil, Nat.reduceAdd, if_pos]
  rw [e1]
  have hFok := fwd_ok (T := T) hL hh (t :: ts') [E] hE1
  have hFl := fwd_len (L := L) (T := T) (t :: ts') [E]
  have hgr := gr_least (L := L) (T := T) ts' t [E] hE1 E (by simp)
  rw [← hgr]
  generalize fwd L T (t :: ts') [E] = Fs at hFok hFl
  have hne : Fs ≠ [] := fun z => by rw [z] at hFl; simp at hFl
  have ec := (List.dropLast_concat_getLast hne).symm
  generalize Fs.dropLast = Ps at ec
  generalize Fs.getLast hne = G at ec
  subst ec
  rw [List.length_append, List.length_singleton] at hFl
  obtain ⟨G1, G2⟩ := hFok G (by simp)
  have est : [] ++ sD [E] :: (Ps ++ [G]).map sD = (sD [E] :: Ps.map sD) ++ [sD G] := by rw [List.map_append]; rfl
  have l1 : ∀ b5 b6 b7 b8 b9 b10 b11 b12 b13 b14 b15 : B, eLc (eIter (QY.e2 ixD (eVarB 4) (QY.e1 negD (eCon (.int (1)))))) (.nm 13) m_lets_T3 m_lets_C2 [13] [.fz (sysD L T), .fz (picD P), .fz (.lst ((t :: ts').map .str)), .fz (wD L T h), .ow (.lst ([] ++ sD [E] :: (Ps ++ [G]).map sD)), b5, b6, b7, b8, b9, b10, b11, b12, b13, b14, b15] = .ok (lD (G.filter (endP T))) := fun b5 b6 b7 b8 b9 b10 b11 b12 b13 b14 b15 =>
    lc_gen (f := tupD) (g := tupD) (p := endP T) (A := G) (by simp only [sSeq_ap, sSet_ap, sSetX_ap, sRet_ap, sRetX_ap, sDrop_ap, sIf_ap, sFor_ap, sNx_ap, sBk_ap, sCt_ap, sRetN_ap, sRaise_ap, e1_ap, e2_ap, e3_ap, eVar_0, eVar_s, eVarB_0, eVarB_s, eVarB_0o, eCon_ap, eCallB_ap, eCall_ap, eCallF_ap, eMeth_ap, aCons_ap, aNil_ap, eIter_ap, eIf_ap, eAnd_ap, eOr_ap, eNot_ap, eLst_ap, eTup_ap, bNot_ap, bAnd_ap, bOr_ap, tst_ap, tru_ap, R.bind_ok, R.of_some, rbd_ok, rbd_ex, obd_nx, obd_rt, obd_ex, obd_bk, obd_ct, scnd_t, scnd_f, cnd_t, cnd_f, cnd_or, cnd_and, bl_t, tru_bl, tru_non, ty_str, ty_lst, List.set_cons_zero, List.set_cons_succ, addI, subI, negI, ltI, leI, gtI, geI, eqI, neI, chain3_bb, chain3_t, chain3_f, fin_nx, fin_rt, fin_ex, sFz_ap, frzs_cons, frzs_nil, frz_s, frz_0z, frz_0o, frz_0n, bX_int, bX_str, bX_bl, bX_non, bX_lst, bX_tup, R.bind_ex, decT, decF, Int.reduceEq, Int.reduceLT, Int.reduceLE, Int.reduceAdd, Int.reduceSub, Int.reduceMul, List.length_cons, List.length_nil, Nat.reduceAdd, if_pos, neg1, est, ix_end, show itemsD (sD G) = some (tupsD G) from rfl]; rfl) (by omega) (fun c hc => ⟨_, rfl, by
      unfold m_lets_T3
      have := sem_ends (L := L) (T := T) (h := h) (a := c) (by omega) (G1 c hc)
      have ee : endP T c = fitsP T c (List.replicate h (-1)) := by unfold endP; rw [G1 c hc]
      simp only [sSeq_ap, sSet_ap, sSetX_ap, sRet_ap, sRetX_ap, sDrop_ap, sIf_ap, sFor_ap, sNx_ap, sBk_ap, sCt_ap, sRetN_ap, sRaise_ap, e1_ap, e2_ap, e3_ap, eVar_0, eVar_s, eVarB_0, eVarB_s, eVarB_0o, eCon_ap, eCallB_ap, eCall_ap, eCallF_ap, eMeth_ap, aCons_ap, aNil_ap, eIter_ap, eIf_ap, eAnd_ap, eOr_ap, eNot_ap, eLst_ap, eTup_ap, bNot_ap, bAnd_ap, bOr_ap, tst_ap, tru_ap, R.bind_ok, R.of_some, rbd_ok, rbd_ex, obd_nx, obd_rt, obd_ex, obd_bk, obd_ct, scnd_t, scnd_f, cnd_t, cnd_f, cnd_or, cnd_and, bl_t, tru_bl, tru_non, ty_str, ty_lst, List.set_cons_zero, List.set_cons_succ, addI, subI, negI, ltI, leI, gtI, geI, eqI, neI, chain3_bb, chain3_t, chain3_f, fin_nx, fin_rt, fin_ex, sFz_ap, frzs_cons, frzs_nil, frz_s, frz_0z, frz_0o, frz_0n, bX_int, bX_str, bX_bl, bX_non, bX_lst, bX_tup, R.bind_ex, decT, decF, Int.reduceEq, Int.reduceLT, Int.reduceLE, Int.reduceAdd, Int.reduceSub, Int.reduceMul, List.length_cons, List.length_nil, Nat.reduceAdd, if_pos, wipeB, eMc_ap, wD_is, this, okR_ok, ee], fun _ => by unfold m_lets_C2; simp only [sSeq_ap, sSet_ap, sSetX_ap, sRet_ap, sRetX_ap, sDrop_ap, sIf_ap, sFor_ap, sNx_ap, sBk_ap, sCt_ap, sRetN_ap, sRaise_ap, e1_ap, e2_ap, e3_ap, eVar_0, eVar_s, eVarB_0, eVarB_s, eVarB_0o, eCon_ap, eCallB_ap, eCall_ap, eCallF_ap, eMeth_ap, aCons_ap, aNil_ap, eIter_ap, eIf_ap, eAnd_ap, eOr_ap, eNot_ap, eLst_ap, eTup_ap, bNot_ap, bAnd_ap, bOr_ap, tst_ap, tru_ap, R.bind_ok, R.of_some, rbd_ok, rbd_ex, obd_nx, obd_rt, obd_ex, obd_bk, obd_ct, scnd_t, scnd_f, cnd_t, cnd_f, cnd_or, cnd_and, bl_t, tru_bl, tru_non, ty_str, ty_lst, List.set_cons_zero, List.set_cons_succ, addI, subI, negI, ltI, leI, gtI, geI, eqI, neI, chain3_bb, chain3_t, chain3_f, fin_nx, fin_rt, fin_ex, sFz_ap, frzs_cons, frzs_nil, frz_s, frz_0z, frz_0o, frz_0n, bX_int, bX_str, bX_bl, bX_non, bX_lst, bX_tup, R.bind_ex, decT, decF, Int.reduceEq, Int.reduceLT, Int.reduceLE, Int.reduceAdd, Int.reduceSub, Int.reduceMul, List.length_cons, List.length_nil, Nat.reduceAdd, if_pos, wipeB]⟩)
  simp only [sSeq_ap, sSet_ap, sSetX_ap, sRet_ap, sRetX_ap, sDrop_ap, sIf_ap, sFor_ap, sNx_ap, sBk_ap, sCt_ap, sRetN_ap, sRaise_ap, e1_ap, e2_ap, e3_ap, eVar_0, eVar_s, eVarB_0, eVarB_s, eVarB_0o, eCon_ap, eCallB_ap, eCall_ap, eCallF_ap, eMeth_ap, aCons_ap, aNil_ap, eIter_ap, eIf_ap, eAnd_ap, eOr_ap, eNot_ap, eLst_ap, eTup_ap, bNot_ap, bAnd_ap, bOr_ap, tst_ap, tru_ap, R.bind_ok, R.of_some, rbd_ok, rbd_ex, obd_nx, obd_rt, obd_ex, obd_bk, obd_ct, scnd_t, scnd_f, cnd_t, cnd_f, cnd_or, cnd_and, bl_t, tru_bl, tru_non, ty_str, ty_lst, List.set_cons_zero, List.set_cons_succ, addI, subI, negI, ltI, leI, gtI, geI, eqI, neI, chain3_bb, chain3_t, chain3_f, fin_nx, fin_rt, fin_ex, sFz_ap, frzs_cons, frzs_nil, frz_s, frz_0z, frz_0o, frz_0n, bX_int, bX_str, bX_bl, bX_non, bX_lst, bX_tup, R.bind_ex, decT, decF, Int.reduceEq, Int.reduceLT, Int.reduceLE, Int.reduceAdd, Int.reduceSub, Int.reduceMul, List.length_cons, List.length_nil, Nat.reduceAdd, if_pos, l1, show bX (lD (G.filter (endP T))) = .ow (lD (G.filter (endP T))) from rfl, if_pos (show 1 ≤ LIM by decide)]
  have hr : ∀ b5 b6 b7 b8 b9 b10 b11 b12 b13 b14 b15 : B, eRevR (eCon (.int (1))) (QY.e2 subD (eCallB lenD (aCons (eVarB 4) aNil)) (eCon (.int (1)))) [.fz (sysD L T), .fz (picD P), .fz (.lst ((t :: ts').map .str)), .fz (wD L T h), .ow (.lst ([] ++ sD [E] :: (Ps ++ [G]).map sD)), b5, b6, b7, b8, b9, b10, b11, b12, b13, b14, b15] = .ok ((List.range Ps.length).map fun (i : Nat) => .int ((Ps.length - i : Nat) : Int)) := fun b5 b6 b7 b8 b9 b10 b11 b12 b13 b14 b15 => by
    have el : ([] ++ sD [E] :: (Ps ++ [G]).map sD).length = Ps.length + 2 := by simp
    simp only [sSeq_ap, sSet_ap, sSetX_ap, sRet_ap, sRetX_ap, sDrop_ap, sIf_ap, sFor_ap, sNx_ap, sBk_ap, sCt_ap, sRetN_ap, sRaise_ap, e1_ap, e2_ap, e3_ap, eVar_0, eVar_s, eVarB_0, eVarB_s, eVarB_0o, eCon_ap, eCallB_ap, eCall_ap, eCallF_ap, eMeth_ap, aCons_ap, aNil_ap, eIter_ap, eIf_ap, eAnd_ap, eOr_ap, eNot_ap, eLst_ap, eTup_ap, bNot_ap, bAnd_ap, bOr_ap, tst_ap, tru_ap, R.bind_ok, R.of_some, rbd_ok, rbd_ex, obd_nx, obd_rt, obd_ex, obd_bk, obd_ct, scnd_t, scnd_f, cnd_t, cnd_f, cnd_or, cnd_and, bl_t, tru_bl, tru_non, ty_str, ty_lst, List.set_cons_zero, List.set_cons_succ, addI, subI, negI, ltI, leI, gtI, geI, eqI, neI, chain3_bb, chain3_t, chain3_f, fin_nx, fin_rt, fin_ex, sFz_ap, frzs_cons, frzs_nil, frz_s, frz_0z, frz_0o, frz_0n, bX_int, bX_str, bX_bl, bX_non, bX_lst, bX_tup, R.bind_ex, decT, decF, Int.reduceEq, Int.reduceLT, Int.reduceLE, Int.reduceAdd, Int.reduceSub, Int.reduceMul, List.length_cons, List.length_nil, Nat.reduceAdd, if_pos, eRevR_ap, len_lst, el]
    exact rev_down (by omega)
  rw [hr, rbd_ok]
  obtain ⟨d6, d8, e2⟩ := lets_bw (L := L) (T := T) (h := h) (e := sD [E]) hh (b0 := .fz (sysD L T)) (b1 := .fz (picD P)) (b2 := .fz (.lst ((t :: ts').map .str))) (b5 := c5) (b9 := .no) (b10 := .no) (b11 := .no) (b12 := .no) (b13 := .no) (b14 := .no) (b15 := .no) Ps.length Ps [] G (.fz (lD (G.filter (endP T)))) .no rfl hFok (by rw [List.length_append, List.length_singleton]; omega)
  have e2 : forO (Tgt.nm 8) m_lets_L7 ((List.range Ps.length).map fun (i : Nat) => D.int ((Ps.length - i : Nat) : Int)) [.fz (sysD L T), .fz (picD P), .fz (.lst ((t :: ts').map .str)), .fz (wD L T h), .ow (.lst ([] ++ sD [E] :: (Ps ++ [G]).map sD)), c5, .fz (lD (G.filter (endP T))), .ow (.lst [lD (G.filter (endP T))]), .no, .no, .no, .no, .no, .no, .no, .no] = _ := e2
  rw [e2]
  have hWok := bw_ok (T := T) (Ps ++ [G]) hFok
  have hWl := bw_len (T := T) (Ps ++ [G])
  rw [List.length_append, List.length_singleton] at hWl
  generalize bw T (Ps ++ [G]) = Ws at hWok hWl
  simp only [sSeq_ap, sSet_ap, sSetX_ap, sRet_ap, sRetX_ap, sDrop_ap, sIf_ap, sFor_ap, sNx_ap, sBk_ap, sCt_ap, sRetN_ap, sRaise_ap, e1_ap, e2_ap, e3_ap, eVar_0, eVar_s, eVarB_0, eVarB_s, eVarB_0o, eCon_ap, eCallB_ap, eCall_ap, eCallF_ap, eMeth_ap, aCons_ap, aNil_ap, eIter_ap, eIf_ap, eAnd_ap, eOr_ap, eNot_ap, eLst_ap, eTup_ap, bNot_ap, bAnd_ap, bOr_ap, tst_ap, tru_ap, R.bind_ok, R.of_some, rbd_ok, rbd_ex, obd_nx, obd_rt, obd_ex, obd_bk, obd_ct, scnd_t, scnd_f, cnd_t, cnd_f, cnd_or, cnd_and, bl_t, tru_bl, tru_non, ty_str, ty_lst, List.set_cons_zero, List.set_cons_succ, addI, subI, negI, ltI, leI, gtI, geI, eqI, neI, chain3_bb, chain3_t, chain3_f, fin_nx, fin_rt, fin_ex, sFz_ap, frzs_cons, frzs_nil, frz_s, frz_0z, frz_0o, frz_0n, bX_int, bX_str, bX_bl, bX_non, bX_lst, bX_tup, R.bind_ex, decT, decF, Int.reduceEq, Int.reduceLT, Int.reduceLE, Int.reduceAdd, Int.reduceSub, Int.reduceMul, List.length_cons, List.length_nil, Nat.reduceAdd, if_pos, ged, if_pos (Nat.zero_le LIM), items_lst]
  obtain ⟨f10, f11, f12, f13, e3⟩ := lets_gr (L := L) (T := T) (h := h) hh (b0 := .fz (sysD L T)) (b1 := .fz (picD P)) (b2 := .fz (.lst ((t :: ts').map .str))) (b4 := .ow (.lst (sD [E] :: (Ps ++ [G]).map sD))) (b5 := c5) (b6 := d6) (b7 := .fz (.lst (Ws.map lD))) (b8 := d8) (b14 := .no) (b15 := .no) Ws E [] .no .no .no hEl hWok (by rw [List.length_nil]; omega)
  have e3 : forO (Tgt.nm 11) m_lets_L10 (Ws.map lD) [.fz (sysD L T), .fz (picD P), .fz (.lst ((t :: ts').map .str)), .fz (wD L T h), .ow (.lst (sD [E] :: (Ps ++ [G]).map sD)), c5, d6, .fz (.lst (Ws.map lD)), d8, .ow (.lst []), .fz (tupD E), .no, .no, .no, .no, .no] = _ := e3
  rw [e3]
  cases hg : gr T E Ws with
  | none => rfl
  | some cs =>
    obtain ⟨k1, k2⟩ := gr_col Ws E cs (fun W hW => (hWok W hW).1) hg
    simp only
    simp only [sSeq_ap, sSet_ap, sSetX_ap, sRet_ap, sRetX_ap, sDrop_ap, sIf_ap, sFor_ap, sNx_ap, sBk_ap, sCt_ap, sRetN_ap, sRaise_ap, e1_ap, e2_ap, e3_ap, eVar_0, eVar_s, eVarB_0, eVarB_s, eVarB_0o, eCon_ap, eCallB_ap, eCall_ap, eCallF_ap, eMeth_ap, aCons_ap, aNil_ap, eIter_ap, eIf_ap, eAnd_ap, eOr_ap, eNot_ap, eLst_ap, eTup_ap, bNot_ap, bAnd_ap, bOr_ap, tst_ap, tru_ap, R.bind_ok, R.of_some, rbd_ok, rbd_ex, obd_nx, obd_rt, obd_ex, obd_bk, obd_ct, scnd_t, scnd_f, cnd_t, cnd_f, cnd_or, cnd_and, bl_t, tru_bl, tru_non, ty_str, ty_lst, List.set_cons_zero, List.set_cons_succ, addI, subI, negI, ltI, leI, gtI, geI, eqI, neI, chain3_bb, chain3_t, chain3_f, fin_nx, fin_rt, fin_ex, sFz_ap, frzs_cons, frzs_nil, frz_s, frz_0z, frz_0o, frz_0n, bX_int, bX_str, bX_bl, bX_non, bX_lst, bX_tup, R.bind_ex, decT, decF, Int.reduceEq, Int.reduceLT, Int.reduceLE, Int.reduceAdd, Int.reduceSub, Int.reduceMul, List.length_cons, List.length_nil, Nat.reduceAdd, if_pos, List.nil_append]
    have hr2 : eRng (aCons (eCallB lenD (aCons (eVarB 1) aNil)) aNil) [.fz (sysD L T), .fz (picD P), .fz (.lst ((t :: ts').map .str)), .fz (wD L T h), .ow (.lst (sD [E] :: (Ps ++ [G]).map sD)), c5, d6, .fz (.lst (Ws.map lD)), d8, .fz (.lst (tupsD cs)), f10, f11, f12, f13, .no, .no] = .ok ((List.range h).map fun (i : Nat) => .int (i : Int)) := rngE1 (by simp only [sSeq_ap, sSet_ap, sSetX_ap, sRet_ap, sRetX_ap, sDrop_ap, sIf_ap, sFor_ap, sNx_ap, sBk_ap, sCt_ap, sRetN_ap, sRaise_ap, e1_ap, e2_ap, e3_ap, eVar_0, eVar_s, eVarB_0, eVarB_s, eVarB_0o, eCon_ap, eCallB_ap, eCall_ap, eCallF_ap, eMeth_ap, aCons_ap, aNil_ap, eIter_ap, eIf_ap, eAnd_ap, eOr_ap, eNot_ap, eLst_ap, eTup_ap, bNot_ap, bAnd_ap, bOr_ap, tst_ap, tru_ap, R.bind_ok, R.of_some, rbd_ok, rbd_ex, obd_nx, obd_rt, obd_ex, obd_bk, obd_ct, scnd_t, scnd_f, cnd_t, cnd_f, cnd_or, cnd_and, bl_t, tru_bl, tru_non, ty_str, ty_lst, List.set_cons_zero, List.set_cons_succ, addI, subI, negI, ltI, leI, gtI, geI, eqI, neI, chain3_bb, chain3_t, chain3_f, fin_nx, fin_rt, fin_ex, sFz_ap, frzs_cons, frzs_nil, frz_s, frz_0z, frz_0o, frz_0n, bX_int, bX_str, bX_bl, bX_non, bX_lst, bX_tup, R.bind_ex, decT, decF, Int.reduceEq, Int.reduceLT, Int.reduceLE, Int.reduceAdd, Int.reduceSub, Int.reduceMul, List.length_cons, List.length_nil, Nat.reduceAdd, if_pos, hpl]) (by omega)
    have l3 := lc_range (i := 8) (elt := m_lets_C12) (vs := [8]) (g := fun k => rowD' (cs.map fun c => c.getD k 0)) hr2 (by omega) (fun k hk => by
      have l4 := lc_gen (it := eIter (eVar 9)) (t := .nm 14) (tt := fun _ => .ok true) (elt := m_lets_C11) (vs := [14]) (ρ := [.fz (sysD L T), .fz (picD P), .fz (.lst ((t :: ts').map .str)), .fz (wD L T h), .ow (.lst (sD [E] :: (Ps ++ [G]).map sD)), c5, d6, .fz (.lst (Ws.map lD)), .fz (.int (k : Int)), .fz (.lst (tupsD cs)), f10, f11, f12, f13, .no, .no]) (f := tupD) (g := fun c => .int (c.getD k 0)) (p := fun _ => true) (A := cs)
        (by simp only [sSeq_ap, sSet_ap, sSetX_ap, sRet_ap, sRetX_ap, sDrop_ap, sIf_ap, sFor_ap, sNx_ap, sBk_ap, sCt_ap, sRetN_ap, sRaise_ap, e1_ap, e2_ap, e3_ap, eVar_0, eVar_s, eVarB_0, eVarB_s, eVarB_0o, eCon_ap, eCallB_ap, eCall_ap, eCallF_ap, eMeth_ap, aCons_ap, aNil_ap, eIter_ap, eIf_ap, eAnd_ap, eOr_ap, eNot_ap, eLst_ap, eTup_ap, bNot_ap, bAnd_ap, bOr_ap, tst_ap, tru_ap, R.bind_ok, R.of_some, rbd_ok, rbd_ex, obd_nx, obd_rt, obd_ex, obd_bk, obd_ct, scnd_t, scnd_f, cnd_t, cnd_f, cnd_or, cnd_and, bl_t, tru_bl, tru_non, ty_str, ty_lst, List.set_cons_zero, List.set_cons_succ, addI, subI, negI, ltI, leI, gtI, geI, eqI, neI, chain3_bb, chain3_t, chain3_f, fin_nx, fin_rt, fin_ex, sFz_ap, frzs_cons, frzs_nil, frz_s, frz_0z, frz_0o, frz_0n, bX_int, bX_str, bX_bl, bX_non, bX_lst, bX_tup, R.bind_ex, decT, decF, Int.reduceEq, Int.reduceLT, Int.reduceLE, Int.reduceAdd, Int.reduceSub, Int.reduceMul, List.length_cons, List.length_nil, Nat.reduceAdd, if_pos, items_lst]; rfl) (by omega) (fun c hc => ⟨_, rfl, rfl, fun _ => by
          unfold m_lets_C11
          simp only [sSeq_ap, sSet_ap, sSetX_ap, sRet_ap, sRetX_ap, sDrop_ap, sIf_ap, sFor_ap, sNx_ap, sBk_ap, sCt_ap, sRetN_ap, sRaise_ap, e1_ap, e2_ap, e3_ap, eVar_0, eVar_s, eVarB_0, eVarB_s, eVarB_0o, eCon_ap, eCallB_ap, eCall_ap, eCallF_ap, eMeth_ap, aCons_ap, aNil_ap, eIter_ap, eIf_ap, eAnd_ap, eOr_ap, eNot_ap, eLst_ap, eTup_ap, bNot_ap, bAnd_ap, bOr_ap, tst_ap, tru_ap, R.bind_ok, R.of_some, rbd_ok, rbd_ex, obd_nx, obd_rt, obd_ex, obd_bk, obd_ct, scnd_t, scnd_f, cnd_t, cnd_f, cnd_or, cnd_and, bl_t, tru_bl, tru_non, ty_str, ty_lst, List.set_cons_zero, List.set_cons_succ, addI, subI, negI, ltI, leI, gtI, geI, eqI, neI, chain3_bb, chain3_t, chain3_f, fin_nx, fin_rt, fin_ex, sFz_ap, frzs_cons, frzs_nil, frz_s, frz_0z, frz_0o, frz_0n, bX_int, bX_str, bX_bl, bX_non, bX_lst, bX_tup, R.bind_ex, decT, decF, Int.reduceEq, Int.reduceLT, Int.reduceLE, Int.reduceAdd, Int.reduceSub, Int.reduceMul, List.length_cons, List.length_nil, Nat.reduceAdd, if_pos, wipeB, ix_tupD (show k < c.length by rw [k2 c hc]; exact hk)]⟩)
      rw [List.filter_eq_self.mpr (fun _ _ => rfl)] at l4
      unfold m_lets_C12
      simp only [sSeq_ap, sSet_ap, sSetX_ap, sRet_ap, sRetX_ap, sDrop_ap, sIf_ap, sFor_ap, sNx_ap, sBk_ap, sCt_ap, sRetN_ap, sRaise_ap, e1_ap, e2_ap, e3_ap, eVar_0, eVar_s, eVarB_0, eVarB_s, eVarB_0o, eCon_ap, eCallB_ap, eCall_ap, eCallF_ap, eMeth_ap, aCons_ap, aNil_ap, eIter_ap, eIf_ap, eAnd_ap, eOr_ap, eNot_ap, eLst_ap, eTup_ap, bNot_ap, bAnd_ap, bOr_ap, tst_ap, tru_ap, R.bind_ok, R.of_some, rbd_ok, rbd_ex, obd_nx, obd_rt, obd_ex, obd_bk, obd_ct, scnd_t, scnd_f, cnd_t, cnd_f, cnd_or, cnd_and, bl_t, tru_bl, tru_non, ty_str, ty_lst, List.set_cons_zero, List.set_cons_succ, addI, subI, negI, ltI, leI, gtI, geI, eqI, neI, chain3_bb, chain3_t, chain3_f, fin_nx, fin_rt, fin_ex, sFz_ap, frzs_cons, frzs_nil, frz_s, frz_0z, frz_0o, frz_0n, bX_int, bX_str, bX_bl, bX_non, bX_lst, bX_tup, R.bind_ex, decT, decF, Int.reduceEq, Int.reduceLT, Int.reduceLE, Int.reduceAdd, Int.reduceSub, Int.reduceMul, List.length_cons, List.length_nil, Nat.reduceAdd, if_pos, wipeB]
      rw [l4]
      unfold rowD'
      rw [List.map_map]; rfl)
    simp only [sSeq_ap, sSet_ap, sSetX_ap, sRet_ap, sRetX_ap, sDrop_ap, sIf_ap, sFor_ap, sNx_ap, sBk_ap, sCt_ap, sRetN_ap, sRaise_ap, e1_ap, e2_ap, e3_ap, eVar_0, eVar_s, eVarB_0, eVarB_s, eVarB_0o, eCon_ap, eCallB_ap, eCall_ap, eCallF_ap, eMeth_ap, aCons_ap, aNil_ap, eIter_ap, eIf_ap, eAnd_ap, eOr_ap, eNot_ap, eLst_ap, eTup_ap, bNot_ap, bAnd_ap, bOr_ap, tst_ap, tru_ap, R.bind_ok, R.of_some, rbd_ok, rbd_ex, obd_nx, obd_rt, obd_ex, obd_bk, obd_ct, scnd_t, scnd_f, cnd_t, cnd_f, cnd_or, cnd_and, bl_t, tru_bl, tru_non, ty_str, ty_lst, List.set_cons_zero, List.set_cons_succ, addI, subI, negI, ltI, leI, gtI, geI, eqI, neI, chain3_bb, chain3_t, chain3_f, fin_nx, fin_rt, fin_ex, sFz_ap, frzs_cons, frzs_nil, frz_s, frz_0z, frz_0o, frz_0n, bX_int, bX_str, bX_bl, bX_non, bX_lst, bX_tup, R.bind_ex, decT, decF, Int.reduceEq, Int.reduceLT, Int.reduceLE, Int.reduceAdd, Int.reduceSub, Int.reduceMul, List.length_cons, List.length_nil, Nat.reduceAdd, if_pos, l3, finX_rtT]
    unfold gridD transp
    rw [List.map_map]; rfl

end K10

namespace K10
open PySem PySem.Spec PyProof.Rows L2 QY
/-! ### framed, tiles_in, shows -/
def padR (r : List Int) : List Int := [-1] ++ r ++ [-1]
theorem row_add {a b : List Int} (ha : a.length ≤ 100000) (hb : b.length ≤ 100000) : addD (rowD' a) (rowD' b) = some (rowD' (a ++ b)) := by
  show (if (a.map D.int).length + (b.map D.int).length ≤ LIM then some (D.lst (a.map D.int ++ b.map D.int)) else none) = _
  rw [if_pos (by rw [List.length_map, List.length_map]; exact lim1 (by omega)), ← List.map_append]; rfl
theorem framed_rows {q0 q1 : B} : ∀ (rs A : List (List Int)) (b3 : B), (∀ r ∈ rs, r.length ≤ 1000) → A.length + rs.length ≤ 100000 → ∃ b3', forO (.nm 3) m_framed_L1 (rs.map rowD') [q0, q1, .ow (.lst (A.map rowD')), b3] = .nx [q0, q1, .ow (.lst ((A ++ rs.map padR).map rowD')), b3']
  | [], A, b3, _, _ => ⟨b3, by simp⟩
  | r :: rs, A, b3, h, hl => by
    rw [List.length_cons] at hl
    have hr := h r (by simp)
    obtain ⟨c3, e⟩ := framed_rows (q0 := q0) (q1 := q1) rs (A ++ [padR r]) (.fz (rowD' r)) (fun q hq => h q (List.mem_cons_of_mem _ hq)) (by rw [List.length_append, List.length_singleton]; omega)
    refine ⟨c3, ?_⟩
    have a1 : addD (.lst [.int (-1)]) (rowD' r) = some (rowD' ([-1] ++ r)) := row_add (a := [-1]) (by rw [List.length_singleton]; omega) (by omega)
    have a2 : addD (rowD' ([-1] ++ r)) (.lst [.int (-1)]) = some (rowD' (padR r)) := row_add (b := [-1]) (by simp; omega) (by rw [List.length_singleton]; omega)
    have l1 : listD [rowD' r] = some (rowD' r) := rfl
    have e1 : m_framed_L1 [q0, q1, .ow (.lst (A.map rowD')), .fz (rowD' r)] = .nx [q0, q1, .ow (.lst ((A ++ [padR r]).map rowD')), .fz (rowD' r)] := by
      unfold m_framed_L1
      rw [sSeq_ap, app_any (A := A.map rowD') (d := rowD' (padR r)) rfl (by simp only [sSeq_ap, sSet_ap, sSetX_ap, sRet_ap, sRetX_ap, sDrop_ap, sIf_ap, sFor_ap, sNx_ap, sBk_ap, sCt_ap, sRetN_ap, sRaise_ap, e1_ap, e2_ap, e3_ap, eVar_0, eVar_s, eVarB_0, eVarB_s, eVarB_0o, eCon_ap, eCallB_ap, eCall_ap, eCallF_ap, eMeth_ap, aCons_ap, aNil_ap, eIter_ap, eIf_ap, eAnd_ap, eOr_ap, eNot_ap, eLst_ap, eTup_ap, bNot_ap, bAnd_ap, bOr_ap, tst_ap, tru_ap, R.bind_ok, R.of_some, rbd_ok, rbd_ex, obd_nx, obd_rt, obd_ex, obd_bk, obd_ct, scnd_t, scnd_f, cnd_t, cnd_f, cnd_or, cnd_and, bl_t, tru_bl, tru_non, ty_str, ty_lst, List.set_cons_zero, List.set_cons_succ, addI, subI, negI, ltI, leI, gtI, geI, eqI, neI, chain3_bb, chain3_t, chain3_f, fin_nx, fin_rt, fin_ex, sFz_ap, frzs_cons, frzs_nil, frz_s, frz_0z, frz_0o, frz_0n, bX_int, bX_str, bX_bl, bX_non, bX_lst, bX_tup, R.bind_ex, decT, decF, Int.reduceEq, Int.reduceLT, Int.reduceLE, Int.reduceAdd, Int.reduceSub, Int.reduceMul, List.length_cons, List.length_nil, Nat.reduceAdd, if_pos, l1, if_pos (show 1 ≤ LIM by decide), a1, a2]) (by rw [List.length_map]; omega), List.map_append]
      rfl
    rw [List.map_cons, forO_nm]
    simp only [List.set_cons_zero, List.set_cons_succ]
    rw [e1, loopO_nx, e, List.append_assoc]; rfl
theorem sem_framed_ok {w : Nat} {rows : List (List Int)} (Rc : Rect w rows) (hn : rows ≠ []) (hw : w ≤ 900) (hr : rows.length ≤ 900) : sem_framed [gridD rows] = .ok (gridD (frame w rows)) := by
  obtain ⟨r0, rest, rfl⟩ : ∃ r0 rest, rows = r0 :: rest := by
    cases rows with
    | nil => exact absurd rfl hn
    | cons a b => exact ⟨a, b, rfl⟩
  have h0 : r0.length = w := Rc.h r0 (by simp)
  have ix : ixD (gridD (r0 :: rest)) (.int 0) = some (rowD' r0) := ix_grid (y := 0) rfl
  have ln : lenD [rowD' r0] = some (.int (w : Int)) := by unfold rowD'; rw [len_lst, List.length_map, h0]
  have m1 : mulD (.lst [.int (-1)]) (.int ((w : Int) + 2)) = some (rowD' (List.replicate (w + 2) (-1))) := by
    have z := mul_lst (a := [D.int (-1)]) (n := w + 2) (by omega) (by rw [List.length_singleton, Nat.one_mul]; exact lim1 (by omega))
    have e2 : (w : Int) + 2 = ((w + 2 : Nat) : Int) := by omega
    rw [e2, z, rep_lst]
    unfold rowD'; rw [List.map_replicate]
  obtain ⟨c3, e⟩ := framed_rows (q0 := .fz (gridD (r0 :: rest))) (q1 := .fz (.int ((w : Int) + 2))) (r0 :: rest) [List.replicate (w + 2) (-1)] .no (fun r hq => by rw [Rc.h r hq]; omega) (by rw [List.length_singleton]; omega)
  have a3 : addD (.lst (([List.replicate (w + 2) (-1)] ++ (r0 :: rest).map padR).map rowD')) (.lst [rowD' (List.replicate (w + 2) (-1))]) = some (gridD (frame w (r0 :: rest))) := by
    have : addD (.lst (([List.replicate (w + 2) (-1)] ++ (r0 :: rest).map padR).map rowD')) (.lst [rowD' (List.replicate (w + 2) (-1))]) = some (.lst (([List.replicate (w + 2) (-1)] ++ (r0 :: rest).map padR).map rowD' ++ [rowD' (List.replicate (w + 2) (-1))])) := if_pos (by
      rw [List.length_map, List.length_append, List.length_map, List.length_singleton]
      exact lim1 (by rw [List.length_singleton]; omega))
    rw [this]
    unfold gridD frame padR
    rw [← List.map_singleton (f := rowD') (a := List.replicate (w + 2) (-1)), ← List.map_append]
  rw [at_framed]; unfold m_framed
  simp only [sSeq_ap, sSet_ap, sSetX_ap, sRet_ap, sRetX_ap, sDrop_ap, sIf_ap, sFor_ap, sNx_ap, sBk_ap, sCt_ap, sRetN_ap, sRaise_ap, e1_ap, e2_ap, e3_ap, eVar_0, eVar_s, eVarB_0, eVarB_s, eVarB_0o, eCon_ap, eCallB_ap, eCall_ap, eCallF_ap, eMeth_ap, aCons_ap, aNil_ap, eIter_ap, eIf_ap, eAnd_ap, eOr_ap, eNot_ap, eLst_ap, eTup_ap, bNot_ap, bAnd_ap, bOr_ap, tst_ap, tru_ap, R.bind_ok, R.of_some, rbd_ok, rbd_ex, obd_nx, obd_rt, obd_ex, obd_bk, obd_ct, scnd_t, scnd_f, cnd_t, cnd_f, cnd_or, cnd_and, bl_t, tru_bl, tru_non, ty_str, ty_lst, List.set_cons_zero, List.set_cons_succ, addI, subI, negI, ltI, leI, gtI, geI, eqI, neI, chain3_bb, chain3_t, chain3_f, fin_nx, fin_rt, fin_ex, sFz_ap, frzs_cons, frzs_nil, frz_s, frz_0z, frz_0o, frz_0n, bX_int, bX_str, bX_bl, bX_non, bX_lst, bX_tup, R.bind_ex, decT, decF, Int.reduceEq, Int.reduceLT, Int.reduceLE, Int.reduceAdd, Int.reduceSub, Int.reduceMul, List.length_cons, List.length_nil, Nat.reduceAdd, if_pos, ix, ln, m1, if_pos (show 1 ≤ LIM by decide), show itemsD (gridD (r0 :: rest)) = some ((r0 :: rest).map rowD') from rfl]
  have e : forO (Tgt.nm 3) m_framed_L1 ((r0 :: rest).map rowD') [.fz (gridD (r0 :: rest)), .fz (.int ((w : Int) + 2)), .ow (.lst [rowD' (List.replicate (w + 2) (-1))]), .no] = _ := e
  rw [e]
  simp only [sSeq_ap, sSet_ap, sSetX_ap, sRet_ap, sRetX_ap, sDrop_ap, sIf_ap, sFor_ap, sNx_ap, sBk_ap, sCt_ap, sRetN_ap, sRaise_ap, e1_ap, e2_ap, e3_ap, eVar_0, eVar_s, eVarB_0, eVarB_s, eVarB_0o, eCon_ap, eCallB_ap, eCall_ap, eCallF_ap, eMeth_ap, aCons_ap, aNil_ap, eIter_ap, eIf_ap, eAnd_ap, eOr_ap, eNot_ap, eLst_ap, eTup_ap, bNot_ap, bAnd_ap, bOr_ap, tst_ap, tru_ap, R.bind_ok, R.of_some, rbd_ok, rbd_ex, obd_nx, obd_rt, obd_ex, obd_bk, obd_ct, scnd_t, scnd_f, cnd_t, cnd_f, cnd_or, cnd_and, bl_t, tru_bl, tru_non, ty_str, ty_lst, List.set_cons_zero, List.set_cons_succ, addI, subI, negI, ltI, leI, gtI, geI, eqI, neI, chain3_bb, chain3_t, chain3_f, fin_nx, fin_rt, fin_ex, sFz_ap, frzs_cons, frzs_nil, frz_s, frz_0z, frz_0o, frz_0n, bX_int, bX_str, bX_bl, bX_non, bX_lst, bX_tup, R.bind_ex, decT, decF, Int.reduceEq, Int.reduceLT, Int.reduceLE, Int.reduceAdd, Int.reduceSub, Int.reduceMul, List.length_cons, List.length_nil, Nat.reduceAdd, if_pos, m1, if_pos (show 1 ≤ LIM by decide), a3, finX_rtT]
theorem tin_tile {w : Nat} {rows K : List (List Int)} (Rc : Rect w rows) {y x : Nat} (hy : y ≤ rows.length) (hx : x ≤ w) (hK : K.length < 1000000) {b0 : B} :
    m_tiles_in_L1 [b0, .ow (gridD (frame w rows)), .ow (.dct (tupsD K) (trues K)), .fz (.int (y : Int)), .fz (.int (x : Int))] = .nx [b0, .ow (gridD (frame w rows)), .ow (.dct (tupsD (insK K (tl4 (frame w rows) y x))) (trues (insK K (tl4 (frame w rows) y x)))), .fz (.int (y : Int)), .fz (.int (x : Int))] := by
  obtain ⟨r, h1, h2⟩ := frame_get Rc (y := y) (x := x) (by omega) (by omega)
  obtain ⟨r', h3, h4⟩ := frame_get Rc (y := y) (x := x + 1) (by omega) (by omega)
  obtain ⟨q, h5, h6⟩ := frame_get Rc (y := y + 1) (x := x) (by omega) (by omega)
  obtain ⟨q', h7, h8⟩ := frame_get Rc (y := y + 1) (x := x + 1) (by omega) (by omega)
  cases h1.symm.trans h3
  cases h5.symm.trans h7
  have ex : (x : Int) + 1 = ((x + 1 : Nat) : Int) := by omega
  have ey : (y : Int) + 1 = ((y + 1 : Nat) : Int) := by omega
  unfold m_tiles_in_L1
  rw [sSeq_ap, sPut_ap]
  simp only [sSeq_ap, sSet_ap, sSetX_ap, sRet_ap, sRetX_ap, sDrop_ap, sIf_ap, sFor_ap, sNx_ap, sBk_ap, sCt_ap, sRetN_ap, sRaise_ap, e1_ap, e2_ap, e3_ap, eVar_0, eVar_s, eVarB_0, eVarB_s, eVarB_0o, eCon_ap, eCallB_ap, eCall_ap, eCallF_ap, eMeth_ap, aCons_ap, aNil_ap, eIter_ap, eIf_ap, eAnd_ap, eOr_ap, eNot_ap, eLst_ap, eTup_ap, bNot_ap, bAnd_ap, bOr_ap, tst_ap, tru_ap, R.bind_ok, R.of_some, rbd_ok, rbd_ex, obd_nx, obd_rt, obd_ex, obd_bk, obd_ct, scnd_t, scnd_f, cnd_t, cnd_f, cnd_or, cnd_and, bl_t, tru_bl, tru_non, ty_str, ty_lst, List.set_cons_zero, List.set_cons_succ, addI, subI, negI, ltI, leI, gtI, geI, eqI, neI, chain3_bb, chain3_t, chain3_f, fin_nx, fin_rt, fin_ex, sFz_ap, frzs_cons, frzs_nil, frz_s, frz_0z, frz_0o, frz_0n, bX_int, bX_str, bX_bl, bX_non, bX_lst, bX_tup, R.bind_ex, decT, decF, Int.reduceEq, Int.reduceLT, Int.reduceLE, Int.reduceAdd, Int.reduceSub, Int.reduceMul, List.length_cons, List.length_nil, Nat.reduceAdd, if_pos, ex, ey, ix_grid h1, ix_grid h3, ix_grid h5, ix_grid h7, ix_row h2, ix_row h4, ix_row h6, ix_row h8, if_pos (show 4 ≤ LIM by decide)]
  show obd (optP (putE (tupsD K) (trues K) (tupD (tl4 (frame w rows) y x)) (.bl true)) _) sNx = _
  rw [putE_tups hK]
  rfl
theorem tin_x {w : Nat} {rows : List (List Int)} (Rc : Rect w rows) {y : Nat} (hy : y ≤ rows.length) {b0 : B} : ∀ (xs : List Nat) (K : List (List Int)) (b4 : B), (∀ x ∈ xs, x ≤ w) → K.length + xs.length < 1000000 → ∃ b4',
    forO (.nm 4) m_tiles_in_L1 (xs.map fun (k : Nat) => .int (k : Int)) [b0, .ow (gridD (frame w rows)), .ow (.dct (tupsD K) (trues K)), .fz (.int (y : Int)), b4] = .nx [b0, .ow (gridD (frame w rows)), .ow (.dct (tupsD (insAll K (xs.map fun x => tl4 (frame w rows) y x))) (trues (insAll K (xs.map fun x => tl4 (frame w rows) y x)))), .fz (.int (y : Int)), b4']
  | [], K, b4, _, _ => ⟨b4, rfl⟩
  | x :: xs, K, b4, h, hl => by
    rw [List.length_cons] at hl
    have hi := insK_len K (tl4 (frame w rows) y x)
    obtain ⟨c4, e⟩ := tin_x Rc hy (b0 := b0) xs (insK K (tl4 (frame w rows) y x)) (.fz (.int (x : Int))) (fun q hq => h q (List.mem_cons_of_mem _ hq)) (by omega)
    refine ⟨c4, ?_⟩
    rw [List.map_cons, forO_nm]
    simp only [List.set_cons_zero, List.set_cons_succ]
    rw [tin_tile Rc hy (h x (by simp)) (by omega), loopO_nx, e]; rfl
theorem tin_y {w : Nat} {rows : List (List Int)} (Rc : Rect w rows) (hw : w ≤ 900) {b0 : B} : ∀ (ys : List Nat) (K : List (List Int)) (b3 b4 : B), (∀ y ∈ ys, y ≤ rows.length) → K.length + ys.length * (w + 1) < 1000000 → ∃ b3' b4',
    forO (.nm 3) m_tiles_in_L2 (ys.map fun (k : Nat) => .int (k : Int)) [b0, .ow (gridD (frame w rows)), .ow (.dct (tupsD K) (trues K)), b3, b4] = .nx [b0, .ow (gridD (frame w rows)), .ow (.dct (tupsD (insAll K (ys.flatMap fun y => (List.range (w + 1)).map fun x => tl4 (frame w rows) y x))) (trues (insAll K (ys.flatMap fun y => (List.range (w + 1)).map fun x => tl4 (frame w rows) y x)))), b3', b4']
  | [], K, b3, b4, _, _ => ⟨b3, b4, rfl⟩
  | y :: ys, K, b3, b4, h, hl => by
    have el : (ys.length + 1) * (w + 1) = ys.length * (w + 1) + (w + 1) := by rw [Nat.add_mul, Nat.one_mul]
    rw [List.length_cons, el] at hl
    obtain ⟨c4, e1⟩ := tin_x Rc (h y (by simp)) (b0 := b0) (List.range (w + 1)) K b4 (fun x hx => by have := List.mem_range.mp hx; omega) (by rw [List.length_range]; omega)
    have hi := insAll_len ((List.range (w + 1)).map fun x => tl4 (frame w rows) y x) K
    rw [List.length_map, List.length_range] at hi
    obtain ⟨d3, d4, e2⟩ := tin_y Rc hw (b0 := b0) ys (insAll K ((List.range (w + 1)).map fun x => tl4 (frame w rows) y x)) (.fz (.int (y : Int))) c4 (fun q hq => h q (List.mem_cons_of_mem _ hq)) (by omega)
    refine ⟨d3, d4, ?_⟩
    obtain ⟨r0, g1, _⟩ := frame_get Rc (y := 0) (x := 0) (by omega) (by omega)
    have hr0 : r0.length = w + 2 := frame_row Rc r0 (List.mem_of_getElem? g1)
    have ix0 : ixD (gridD (frame w rows)) (.int 0) = some (rowD' r0) := ix_grid (y := 0) g1
    have ln : lenD [rowD' r0] = some (.int ((w + 2 : Nat) : Int)) := by unfold rowD'; rw [len_lst, List.length_map, hr0]
    have hr : eRng (aCons (QY.e2 subD (eCallB lenD (aCons (QY.e2 ixD (eVarB 1) (eCon (.int (0)))) aNil)) (eCon (.int (1)))) aNil) [b0, .ow (gridD (frame w rows)), .ow (.dct (tupsD K) (trues K)), .fz (.int (y : Int)), b4] = .ok ((List.range (w + 1)).map fun (i : Nat) => .int (i : Int)) := by
      refine rngE1 ?_ (by omega)
      simp only [sSeq_ap, sSet_ap, sSetX_ap, sRet_ap, sRetX_ap, sDrop_ap, sIf_ap, sFor_ap, sNx_ap, sBk_ap, sCt_ap, sRetN_ap, sRaise_ap, e1_ap, e2_ap, e3_ap, eVar_0, eVar_s, eVarB_0, eVarB_s, eVarB_0o, eCon_ap, eCallB_ap, eCall_ap, eCallF_ap, eMeth_ap, aCons_ap, aNil_ap, eIter_ap, eIf_ap, eAnd_ap, eOr_ap, eNot_ap, eLst_ap, eTup_ap, bNot_ap, bAnd_ap, bOr_ap, tst_ap, tru_ap, R.bind_ok, R.of_some, rbd_ok, rbd_ex, obd_nx, obd_rt, obd_ex, obd_bk, obd_ct, scnd_t, scnd_f, cnd_t, cnd_f, cnd_or, cnd_and, bl_t, tru_bl, tru_non, ty_str, ty_lst, List.set_cons_zero, List.set_cons_succ, addI, subI, negI, ltI, leI, gtI, geI, eqI, neI, chain3_bb, chain3_t, chain3_f, fin_nx, fin_rt, fin_ex, sFz_ap, frzs_cons, frzs_nil, frz_s, frz_0z, frz_0o, frz_0n, bX_int, bX_str, bX_bl, bX_non, bX_lst, bX_tup, R.bind_ex, decT, decF, Int.reduceEq, Int.reduceLT, Int.reduceLE, Int.reduceAdd, Int.reduceSub, Int.reduceMul, List.length_cons, List.length_nil, Nat.reduceAdd, if_pos, ix0, ln]
      rw [show ((w + 2 : Nat) : Int) - 1 = ((w + 1 : Nat) : Int) by omega]
    have e3 : m_tiles_in_L2 [b0, .ow (gridD (frame w rows)), .ow (.dct (tupsD K) (trues K)), .fz (.int (y : Int)), b4] = .nx [b0, .ow (gridD (frame w rows)), .ow (.dct (tupsD (insAll K ((List.range (w + 1)).map fun x => tl4 (frame w rows) y x))) (trues (insAll K ((List.range (w + 1)).map fun x => tl4 (frame w rows) y x)))), .fz (.int (y : Int)), c4] := by
      unfold m_tiles_in_L2
      rw [sSeq_ap, sFor_ap, hr, rbd_ok, e1, obd_nx, sNx_ap]
    rw [List.map_cons, forO_nm]
    simp only [List.set_cons_zero, List.set_cons_succ]
    rw [e3, loopO_nx, e2, List.flatMap_cons, insAll_app]
theorem tl4_len {G : List (List Int)} {y x : Nat} : (tl4 G y x).length = 4 := rfl
theorem tilesP_len4 {w : Nat} {rows : List (List Int)} : ∀ t ∈ tilesP w rows, t.length = 4 := fun t ht => by
  obtain ⟨y, _, h⟩ := List.mem_flatMap.mp ht
  obtain ⟨x, _, rfl⟩ := List.mem_map.mp h
  rfl
theorem sem_tin {w : Nat} {rows : List (List Int)} (Rc : Rect w rows) (hn : rows ≠ []) (hw : w ≤ 900) (hr : rows.length ≤ 900) : sem_tiles_in [gridD rows] = .ok (.lst (tupsD (sortI (insAll [] (tilesP w rows))))) := by
  obtain ⟨c3, c4, e⟩ := tin_y Rc hw (b0 := .fz (gridD rows)) (List.range (rows.length + 1)) [] .no .no (fun y hy => by have := List.mem_range.mp hy; omega) (by
    rw [List.length_range, List.length_nil, Nat.zero_add]
    exact Nat.lt_of_le_of_lt (Nat.mul_le_mul (show rows.length + 1 ≤ 901 by omega) (show w + 1 ≤ 901 by omega)) (by decide))
  have hl : lenD [gridD (frame w rows)] = some (.int ((rows.length + 2 : Nat) : Int)) := by unfold gridD; rw [len_lst, List.length_map, frame_len]
  have hrg : ∀ b2 b3 b4 : B, eRng (aCons (QY.e2 subD (eCallB lenD (aCons (eVarB 1) aNil)) (eCon (.int (1)))) aNil) [.fz (gridD rows), .ow (gridD (frame w rows)), b2, b3, b4] = .ok ((List.range (rows.length + 1)).map fun (i : Nat) => .int (i : Int)) := fun b2 b3 b4 => by
    refine rngE1 ?_ (by omega)
    simp only [sSeq_ap, sSet_ap, sSetX_ap, sRet_ap, sRetX_ap, sDrop_ap, sIf_ap, sFor_ap, sNx_ap, sBk_ap, sCt_ap, sRetN_ap, sRaise_ap, e1_ap, e2_ap, e3_ap, eVar_0, eVar_s, eVarB_0, eVarB_s, eVarB_0o, eCon_ap, eCallB_ap, eCall_ap, eCallF_ap, eMeth_ap, aCons_ap, aNil_ap, eIter_ap, eIf_ap, eAnd_ap, eOr_ap, eNot_ap, eLst_ap, eTup_ap, bNot_ap, bAnd_ap, bOr_ap, tst_ap, tru_ap, R.bind_ok, R.of_some, rbd_ok, rbd_ex, obd_nx, obd_rt, obd_ex, obd_bk, obd_ct, scnd_t, scnd_f, cnd_t, cnd_f, cnd_or, cnd_and, bl_t, tru_bl, tru_non, ty_str, ty_lst, List.set_cons_zero, List.set_cons_succ, addI, subI, negI, ltI, leI, gtI, geI, eqI, neI, chain3_bb, chain3_t, chain3_f, fin_nx, fin_rt, fin_ex, sFz_ap, frzs_cons, frzs_nil, frz_s, frz_0z, frz_0o, frz_0n, bX_int, bX_str, bX_bl, bX_non, bX_lst, bX_tup, R.bind_ex, decT, decF, Int.reduceEq, Int.reduceLT, Int.reduceLE, Int.reduceAdd, Int.reduceSub, Int.reduceMul, List.length_cons, List.length_nil, Nat.reduceAdd, if_pos, hl]
    rw [show ((rows.length + 2 : Nat) : Int) - 1 = ((rows.length + 1 : Nat) : Int) by omega]
  have hne : noE (insAll [] (tilesP w rows)) = true := by
    unfold noE
    refine List.all_eq_true.mpr fun c hc => ?_
    rcases insAll_mem.mp hc with z | z
    · cases z
    · have := tilesP_len4 c z
      cases c with
      | nil => cases this
      | cons a r => rfl
  rw [at_tiles_in]; unfold m_tiles_in
  simp only [sSeq_ap, sSet_ap, sSetX_ap, sRet_ap, sRetX_ap, sDrop_ap, sIf_ap, sFor_ap, sNx_ap, sBk_ap, sCt_ap, sRetN_ap, sRaise_ap, e1_ap, e2_ap, e3_ap, eVar_0, eVar_s, eVarB_0, eVarB_s, eVarB_0o, eCon_ap, eCallB_ap, eCall_ap, eCallF_ap, eMeth_ap, aCons_ap, aNil_ap, eIter_ap, eIf_ap, eAnd_ap, eOr_ap, eNot_ap, eLst_ap, eTup_ap, bNot_ap, bAnd_ap, bOr_ap, tst_ap, tru_ap, R.bind_ok, R.of_some, rbd_ok, rbd_ex, obd_nx, obd_rt, obd_ex, obd_bk, obd_ct, scnd_t, scnd_f, cnd_t, cnd_f, cnd_or, cnd_and, bl_t, tru_bl, tru_non, ty_str, ty_lst, List.set_cons_zero, List.set_cons_succ, addI, subI, negI, ltI, leI, gtI, geI, eqI, neI, chain3_bb, chain3_t, chain3_f, fin_nx, fin_rt, fin_ex, sFz_ap, frzs_cons, frzs_nil, frz_s, frz_0z, frz_0o, frz_0n, bX_int, bX_str, bX_bl, bX_non, bX_lst, bX_tup, R.bind_ex, decT, decF, Int.reduceEq, Int.reduceLT, Int.reduceLE, Int.reduceAdd, Int.reduceSub, Int.reduceMul, List.length_cons, List.length_nil, Nat.reduceAdd, if_pos, sem_framed_ok Rc hn hw hr, show bX (gridD (frame w rows)) = .ow (gridD (frame w rows)) from rfl, show bX (.dct [] []) = .ow (.dct [] []) from rfl]
  rw [hrg, rbd_ok]
  have e : forO (Tgt.nm 3) m_tiles_in_L2 ((List.range (rows.length + 1)).map fun (k : Nat) => D.int (k : Int)) [.fz (gridD rows), .ow (gridD (frame w rows)), .ow (.dct [] []), .no, .no] = _ := e
  rw [e]
  simp only [sSeq_ap, sSet_ap, sSetX_ap, sRet_ap, sRetX_ap, sDrop_ap, sIf_ap, sFor_ap, sNx_ap, sBk_ap, sCt_ap, sRetN_ap, sRaise_ap, e1_ap, e2_ap, e3_ap, eVar_0, eVar_s, eVarB_0, eVarB_s, eVarB_0o, eCon_ap, eCallB_ap, eCall_ap, eCallF_ap, eMeth_ap, aCons_ap, aNil_ap, eIter_ap, eIf_ap, eAnd_ap, eOr_ap, eNot_ap, eLst_ap, eTup_ap, bNot_ap, bAnd_ap, bOr_ap, tst_ap, tru_ap, R.bind_ok, R.of_some, rbd_ok, rbd_ex, obd_nx, obd_rt, obd_ex, obd_bk, obd_ct, scnd_t, scnd_f, cnd_t, cnd_f, cnd_or, cnd_and, bl_t, tru_bl, tru_non, ty_str, ty_lst, List.set_cons_zero, List.set_cons_succ, addI, subI, negI, ltI, leI, gtI, geI, eqI, neI, chain3_bb, chain3_t, chain3_f, fin_nx, fin_rt, fin_ex, sFz_ap, frzs_cons, frzs_nil, frz_s, frz_0z, frz_0o, frz_0n, bX_int, bX_str, bX_bl, bX_non, bX_lst, bX_tup, R.bind_ex, decT, decF, Int.reduceEq, Int.reduceLT, Int.reduceLE, Int.reduceAdd, Int.reduceSub, Int.reduceMul, List.length_cons, List.length_nil, Nat.reduceAdd, if_pos]
  rw [show (List.flatMap (fun y => (List.range (w + 1)).map fun x => tl4 (frame w rows) y x) (List.range (rows.length + 1))) = tilesP w rows from rfl, sorted_dct hne]
  simp only [sSeq_ap, sSet_ap, sSetX_ap, sRet_ap, sRetX_ap, sDrop_ap, sIf_ap, sFor_ap, sNx_ap, sBk_ap, sCt_ap, sRetN_ap, sRaise_ap, e1_ap, e2_ap, e3_ap, eVar_0, eVar_s, eVarB_0, eVarB_s, eVarB_0o, eCon_ap, eCallB_ap, eCall_ap, eCallF_ap, eMeth_ap, aCons_ap, aNil_ap, eIter_ap, eIf_ap, eAnd_ap, eOr_ap, eNot_ap, eLst_ap, eTup_ap, bNot_ap, bAnd_ap, bOr_ap, tst_ap, tru_ap, R.bind_ok, R.of_some, rbd_ok, rbd_ex, obd_nx, obd_rt, obd_ex, obd_bk, obd_ct, scnd_t, scnd_f, cnd_t, cnd_f, cnd_or, cnd_and, bl_t, tru_bl, tru_non, ty_str, ty_lst, List.set_cons_zero, List.set_cons_succ, addI, subI, negI, ltI, leI, gtI, geI, eqI, neI, chain3_bb, chain3_t, chain3_f, fin_nx, fin_rt, fin_ex, sFz_ap, frzs_cons, frzs_nil, frz_s, frz_0z, frz_0o, frz_0n, bX_int, bX_str, bX_bl, bX_non, bX_lst, bX_tup, R.bind_ex, decT, decF, Int.reduceEq, Int.reduceLT, Int.reduceLE, Int.reduceAdd, Int.reduceSub, Int.reduceMul, List.length_cons, List.length_nil, Nat.reduceAdd, if_pos, finX_rtT]
theorem shows_cell {L : Str} {P : List Str} {G : List (List Int)} {w y x : Nat} (Rc : Rect w G) (hL : L.length ≤ 16) (hP : ∀ r ∈ P, r.length = w) (hw : w ≤ 1000) (hl : G.length = P.length) (hy : y < G.length) (hx : x < w) {b0 b5 b7 b8 : B} :
    m_shows_L3 [b0, .fz (picD P), .fz (gridD G), .fz (.int (y : Int)), .fz (.str L), b5, .fz (.int (x : Int)), b7, b8] =
      if cellP L P G y x then .nx [b0, .fz (picD P), .fz (gridD G), .fz (.int (y : Int)), .fz (.str L), b5, .fz (.int (x : Int)), b7, b8] else .rt (.bl false) false := by
  obtain ⟨r, h1, h2⟩ := grid_get Rc hy hx
  have e1 : ixD (gridD G) (.int (y : Int)) = some (rowD' r) := ix_grid h1
  have e2 : ixD (rowD' r) (.int (x : Int)) = some (.int (get2 G y x)) := ix_row h2
  have hm : P.getD y "" ∈ P := by
    rw [List.getD_eq_getElem?_getD, List.getElem?_eq_getElem (by omega : y < P.length)]
    exact List.getElem_mem _
  have e3 := pic_ixN (rows := P) (k := y) (by omega)
  have hpw := hP _ hm
  unfold m_shows_L3 cellP
  generalize get2 G y x = z at e2
  simp only [sSeq_ap, sSet_ap, sSetX_ap, sRet_ap, sRetX_ap, sDrop_ap, sIf_ap, sFor_ap, sNx_ap, sBk_ap, sCt_ap, sRetN_ap, sRaise_ap, e1_ap, e2_ap, e3_ap, eVar_0, eVar_s, eVarB_0, eVarB_s, eVarB_0o, eCon_ap, eCallB_ap, eCall_ap, eCallF_ap, eMeth_ap, aCons_ap, aNil_ap, eIter_ap, eIf_ap, eAnd_ap, eOr_ap, eNot_ap, eLst_ap, eTup_ap, bNot_ap, bAnd_ap, bOr_ap, tst_ap, tru_ap, R.bind_ok, R.of_some, rbd_ok, rbd_ex, obd_nx, obd_rt, obd_ex, obd_bk, obd_ct, scnd_t, scnd_f, cnd_t, cnd_f, cnd_or, cnd_and, bl_t, tru_bl, tru_non, ty_str, ty_lst, List.set_cons_zero, List.set_cons_succ, addI, subI, negI, ltI, leI, gtI, geI, eqI, neI, chain3_bb, chain3_t, chain3_f, fin_nx, fin_rt, fin_ex, sFz_ap, frzs_cons, frzs_nil, frz_s, frz_0z, frz_0o, frz_0n, bX_int, bX_str, bX_bl, bX_non, bX_lst, bX_tup, R.bind_ex, decT, decF, Int.reduceEq, Int.reduceLT, Int.reduceLE, Int.reduceAdd, Int.reduceSub, Int.reduceMul, List.length_cons, List.length_nil, Nat.reduceAdd, if_pos, e1, e2, len_str (lim1 (show L.length ≤ 1000000 by omega))]
  by_cases h0 : 0 ≤ z
  · rw [decide_eq_true h0]
    by_cases hn : z < (L.length : Int)
    · rw [decide_eq_true hn]
      obtain ⟨m, rfl⟩ : ∃ m : Nat, z = (m : Int) := ⟨z.toNat, by omega⟩
      have hm2 : m < L.length := by omega
      simp only [sSeq_ap, sSet_ap, sSetX_ap, sRet_ap, sRetX_ap, sDrop_ap, sIf_ap, sFor_ap, sNx_ap, sBk_ap, sCt_ap, sRetN_ap, sRaise_ap, e1_ap, e2_ap, e3_ap, eVar_0, eVar_s, eVarB_0, eVarB_s, eVarB_0o, eCon_ap, eCallB_ap, eCall_ap, eCallF_ap, eMeth_ap, aCons_ap, aNil_ap, eIter_ap, eIf_ap, eAnd_ap, eOr_ap, eNot_ap, eLst_ap, eTup_ap, bNot_ap, bAnd_ap, bOr_ap, tst_ap, tru_ap, R.bind_ok, R.of_some, rbd_ok, rbd_ex, obd_nx, obd_rt, obd_ex, obd_bk, obd_ct, scnd_t, scnd_f, cnd_t, cnd_f, cnd_or, cnd_and, bl_t, tru_bl, tru_non, ty_str, ty_lst, List.set_cons_zero, List.set_cons_succ, addI, subI, negI, ltI, leI, gtI, geI, eqI, neI, chain3_bb, chain3_t, chain3_f, fin_nx, fin_rt, fin_ex, sFz_ap, frzs_cons, frzs_nil, frz_s, frz_0z, frz_0o, frz_0n, bX_int, bX_str, bX_bl, bX_non, bX_lst, bX_tup, R.bind_ex, decT, decF, Int.reduceEq, Int.reduceLT, Int.reduceLE, Int.reduceAdd, Int.reduceSub, Int.reduceMul, List.length_cons, List.length_nil, Nat.reduceAdd, if_pos, Bool.and_self, Bool.not_true, ix_letter hm2 (by omega), e3, ix_letter (show x < (P.getD y "").length by omega) (by omega), neS, one_eq, Int.toNat_natCast]
      cases decide (letAt L m = letAt (P.getD y "") x) <;> rfl
    · rw [decide_eq_false hn]
      rfl
  · rw [decide_eq_false h0]
    rfl
theorem shows_x {L : Str} {P : List Str} {G : List (List Int)} {w y : Nat} (Rc : Rect w G) (hL : L.length ≤ 16) (hP : ∀ r ∈ P, r.length = w) (hw : w ≤ 1000) (hl : G.length = P.length) (hy : y < G.length) {b0 b5 b7 b8 : B} : ∀ (xs : List Nat) (b6 : B), (∀ x ∈ xs, x < w) → ∃ b6',
    forO (.nm 6) m_shows_L3 (xs.map fun (k : Nat) => .int (k : Int)) [b0, .fz (picD P), .fz (gridD G), .fz (.int (y : Int)), .fz (.str L), b5, b6, b7, b8] =
      if xs.all fun x => cellP L P G y x then .nx [b0, .fz (picD P), .fz (gridD G), .fz (.int (y : Int)), .fz (.str L), b5, b6', b7, b8] else .rt (.bl false) false
  | [], b6, _ => ⟨b6, rfl⟩
  | x :: xs, b6, h => by
    obtain ⟨c6, e⟩ := shows_x Rc hL hP hw hl hy (b0 := b0) (b5 := b5) (b7 := b7) (b8 := b8) xs (.fz (.int (x : Int))) (fun q hq => h q (List.mem_cons_of_mem _ hq))
    refine ⟨c6, ?_⟩
    rw [List.map_cons, forO_nm]
    simp only [List.set_cons_zero, List.set_cons_succ]
    rw [shows_cell Rc hL hP hw hl hy (h x (by simp)), List.all_cons]
    cases cellP L P G y x with
    | true => rw [if_pos rfl, loopO_nx, e, Bool.true_and]
    | false => rfl
theorem shows_y {L : Str} {P : List Str} {G : List (List Int)} {w : Nat} (Rc : Rect w G) (hL : L.length ≤ 16) (hP : ∀ r ∈ P, r.length = w) (hw : w ≤ 1000) (hl : G.length = P.length) {b0 b5 b7 b8 : B} : ∀ (ys : List Nat) (b3 b6 : B), (∀ y ∈ ys, y < G.length) → ∃ b3' b6',
    forO (.nm 3) m_shows_L4 (ys.map fun (k : Nat) => .int (k : Int)) [b0, .fz (picD P), .fz (gridD G), b3, .fz (.str L), b5, b6, b7, b8] =
      if ys.all fun y => (List.range w).all fun x => cellP L P G y x then .nx [b0, .fz (picD P), .fz (gridD G), b3', .fz (.str L), b5, b6', b7, b8] else .rt (.bl false) false
  | [], b3, b6, _ => ⟨b3, b6, rfl⟩
  | y :: ys, b3, b6, h => by
    have hy := h y (by simp)
    obtain ⟨c6, e1⟩ := shows_x Rc hL hP hw hl hy (b0 := b0) (b5 := b5) (b7 := b7) (b8 := b8) (List.range w) b6 (fun x hx => List.mem_range.mp hx)
    obtain ⟨d3, d6, e2⟩ := shows_y Rc hL hP hw hl (b0 := b0) (b5 := b5) (b7 := b7) (b8 := b8) ys (.fz (.int (y : Int))) c6 (fun q hq => h q (List.mem_cons_of_mem _ hq))
    refine ⟨d3, d6, ?_⟩
    have hr : eRng (aCons (eCallB lenD (aCons (QY.e2 ixD (eVarB 2) (eVarB 3)) aNil)) aNil) [b0, .fz (picD P), .fz (gridD G), .fz (.int (y : Int)), .fz (.str L), b5, b6, b7, b8] = .ok ((List.range w).map fun (i : Nat) => .int (i : Int)) := by
      refine rngE1 ?_ (by omega)
      have e1 : ixD (gridD G) (.int (y : Int)) = some (rowD' G[y]) := ix_grid (List.getElem?_eq_getElem hy)
      have ln : lenD [rowD' G[y]] = some (.int (w : Int)) := by unfold rowD'; rw [len_lst, List.length_map, Rc.h _ (List.getElem_mem hy)]
      simp only [sSeq_ap, sSet_ap, sSetX_ap, sRet_ap, sRetX_ap, sDrop_ap, sIf_ap, sFor_ap, sNx_ap, sBk_ap, sCt_ap, sRetN_ap, sRaise_ap, e1_ap, e2_ap, e3_ap, eVar_0, eVar_s, eVarB_0, eVarB_s, eVarB_0o, eCon_ap, eCallB_ap, eCall_ap, eCallF_ap, eMeth_ap, aCons_ap, aNil_ap, eIter_ap, eIf_ap, eAnd_ap, eOr_ap, eNot_ap, eLst_ap, eTup_ap, bNot_ap, bAnd_ap, bOr_ap, tst_ap, tru_ap, R.bind_ok, R.of_some, rbd_ok, rbd_ex, obd_nx, obd_rt, obd_ex, obd_bk, obd_ct, scnd_t, scnd_f, cnd_t, cnd_f, cnd_or, cnd_and, bl_t, tru_bl, tru_non, ty_str, ty_lst, List.set_cons_zero, List.set_cons_succ, addI, subI, negI, ltI, leI, gtI, geI, eqI, neI, chain3_bb, chain3_t, chain3_f, fin_nx, fin_rt, fin_ex, sFz_ap, frzs_cons, frzs_nil, frz_s, frz_0z, frz_0o, frz_0n, bX_int, bX_str, bX_bl, bX_non, bX_lst, bX_tup, R.bind_ex, decT, decF, Int.reduceEq, Int.reduceLT, Int.reduceLE, Int.reduceAdd, Int.reduceSub, Int.reduceMul, List.length_cons, List.length_nil, Nat.reduceAdd, if_pos, e1, ln]
    rw [List.map_cons, forO_nm, List.all_cons]
    simp only [List.set_cons_zero, List.set_cons_succ]
    unfold m_shows_L4
    rw [sSeq_ap, sFor_ap, hr, rbd_ok, e1]
    cases (List.range w).all fun x => cellP L P G y x with
    | true => rw [if_pos rfl, obd_nx, sNx_ap, loopO_nx, Bool.true_and]; exact e2
    | false => rfl
theorem shows_ok {L : Str} {T : List (List Int)} {P : List Str} {G : List (List Int)} (hL : L.length ≤ 16) (ok : okSys L T = true) (hT : T.length < 1000000) (hP : good P = true) (hG : G.length ≤ 900) (hGr : ∀ r ∈ G, r.length ≤ 900) : sem_shows [sysD L T, picD P, gridD G] = .ok (.bl (showsP L T P G)) := by
  have lg : flatR (sem_look_system [sysD L T]) = .ok .non := by
    rw [flook (by omega) (by omega) (fun t ht => by
      have := (okT_all (chk_okT (okSys_chk ok) t ht)).1
      omega), if_pos ok]
  have lp : flatR (sem_look_picture [picD P]) = .ok .non := by rw [flookp (good_sm hP), if_pos hP]
  obtain ⟨g1, g2, g3, g4, _, g6⟩ := good_cols hP
  have hwid : widP P = (colsT P).length := by
    cases P with
    | nil => cases hP
    | cons r0 rest => exact g6 r0 (by simp)
  have hPw : ∀ r ∈ P, r.length = widP P := fun r hr => by rw [hwid]; exact g6 r hr
  have l1 : ∀ b3 b4 b5 b6 b7 b8 : B, eLc (eIter (eVar 2)) (.nm 7) (fun _ => .ok true) m_shows_C1 [7] [.fz (sysD L T), .fz (picD P), .fz (gridD G), b3, b4, b5, b6, b7, b8] = .ok (.lst ((G.map (·.length)).map fun (n : Nat) => .int (n : Int))) := fun b3 b4 b5 b6 b7 b8 => by
    have := lc_gen (it := eIter (eVar 2)) (t := .nm 7) (tt := fun _ => .ok true) (elt := m_shows_C1) (vs := [7]) (ρ := [.fz (sysD L T), .fz (picD P), .fz (gridD G), b3, b4, b5, b6, b7, b8]) (f := rowD') (g := fun r => .int (r.length : Int)) (p := fun _ => true) (A := G) (by simp only [sSeq_ap, sSet_ap, sSetX_ap, sRet_ap, sRetX_ap, sDrop_ap, sIf_ap, sFor_ap, sNx_ap, sBk_ap, sCt_ap, sRetN_ap, sRaise_ap, e1_ap, e2_ap, e3_ap, eVar_0, eVar_s, eVarB_0, eVarB_s, eVarB_0o, eCon_ap, eCallB_ap, eCall_ap, eCallF_ap, eMeth_ap, aCons_ap, aNil_ap, eIter_ap, eIf_ap, eAnd_ap, eOr_ap, eNot_ap, eLst_ap, eTup_ap, bNot_ap, bAnd_ap, bOr_ap, tst_ap, tru_ap, R.bind_ok, R.of_some, rbd_ok, rbd_ex, obd_nx, obd_rt, obd_ex, obd_bk, obd_ct, scnd_t, scnd_f, cnd_t, cnd_f, cnd_or, cnd_and, bl_t, tru_bl, tru_non, ty_str, ty_lst, List.set_cons_zero, List.set_cons_succ, addI, subI, negI, ltI, leI, gtI, geI, eqI, neI, chain3_bb, chain3_t, chain3_f, fin_nx, fin_rt, fin_ex, sFz_ap, frzs_cons, frzs_nil, frz_s, frz_0z, frz_0o, frz_0n, bX_int, bX_str, bX_bl, bX_non, bX_lst, bX_tup, R.bind_ex, decT, decF, Int.reduceEq, Int.reduceLT, Int.reduceLE, Int.reduceAdd, Int.reduceSub, Int.reduceMul, List.length_cons, List.length_nil, Nat.reduceAdd, if_pos, show itemsD (gridD G) = some (G.map rowD') from rfl]) (by omega) (fun r _ => ⟨_, rfl, rfl, fun _ => by
      unfold m_shows_C1
      simp only [sSeq_ap, sSet_ap, sSetX_ap, sRet_ap, sRetX_ap, sDrop_ap, sIf_ap, sFor_ap, sNx_ap, sBk_ap, sCt_ap, sRetN_ap, sRaise_ap, e1_ap, e2_ap, e3_ap, eVar_0, eVar_s, eVarB_0, eVarB_s, eVarB_0o, eCon_ap, eCallB_ap, eCall_ap, eCallF_ap, eMeth_ap, aCons_ap, aNil_ap, eIter_ap, eIf_ap, eAnd_ap, eOr_ap, eNot_ap, eLst_ap, eTup_ap, bNot_ap, bAnd_ap, bOr_ap, tst_ap, tru_ap, R.bind_ok, R.of_some, rbd_ok, rbd_ex, obd_nx, obd_rt, obd_ex, obd_bk, obd_ct, scnd_t, scnd_f, cnd_t, cnd_f, cnd_or, cnd_and, bl_t, tru_bl, tru_non, ty_str, ty_lst, List.set_cons_zero, List.set_cons_succ, addI, subI, negI, ltI, leI, gtI, geI, eqI, neI, chain3_bb, chain3_t, chain3_f, fin_nx, fin_rt, fin_ex, sFz_ap, frzs_cons, frzs_nil, frz_s, frz_0z, frz_0o, frz_0n, bX_int, bX_str, bX_bl, bX_non, bX_lst, bX_tup, R.bind_ex, decT, decF, Int.reduceEq, Int.reduceLT, Int.reduceLE, Int.reduceAdd, Int.reduceSub, Int.reduceMul, List.length_cons, List.length_nil, Nat.reduceAdd, if_pos, wipeB, show lenD [rowD' r] = some (.int (r.length : Int)) by unfold rowD'; rw [len_lst, List.length_map]]⟩)
    rw [List.filter_eq_self.mpr (fun _ _ => rfl)] at this
    rw [this, List.map_map]; rfl
  have l2 : ∀ b2 b3 b4 b5 b6 b7 b8 : B, eLc (eIter (eVar 1)) (.nm 7) (fun _ => .ok true) m_shows_C2 [7] [.fz (sysD L T), .fz (picD P), b2, b3, b4, b5, b6, b7, b8] = .ok (.lst ((P.map (·.length)).map fun (n : Nat) => .int (n : Int))) := fun b2 b3 b4 b5 b6 b7 b8 => by
    have := lc_gen (it := eIter (eVar 1)) (t := .nm 7) (tt := fun _ => .ok true) (elt := m_shows_C2) (vs := [7]) (ρ := [.fz (sysD L T), .fz (picD P), b2, b3, b4, b5, b6, b7, b8]) (f := D.str) (g := fun r => .int (r.length : Int)) (p := fun _ => true) (A := P) (by simp only [sSeq_ap, sSet_ap, sSetX_ap, sRet_ap, sRetX_ap, sDrop_ap, sIf_ap, sFor_ap, sNx_ap, sBk_ap, sCt_ap, sRetN_ap, sRaise_ap, e1_ap, e2_ap, e3_ap, eVar_0, eVar_s, eVarB_0, eVarB_s, eVarB_0o, eCon_ap, eCallB_ap, eCall_ap, eCallF_ap, eMeth_ap, aCons_ap, aNil_ap, eIter_ap, eIf_ap, eAnd_ap, eOr_ap, eNot_ap, eLst_ap, eTup_ap, bNot_ap, bAnd_ap, bOr_ap, tst_ap, tru_ap, R.bind_ok, R.of_some, rbd_ok, rbd_ex, obd_nx, obd_rt, obd_ex, obd_bk, obd_ct, scnd_t, scnd_f, cnd_t, cnd_f, cnd_or, cnd_and, bl_t, tru_bl, tru_non, ty_str, ty_lst, List.set_cons_zero, List.set_cons_succ, addI, subI, negI, ltI, leI, gtI, geI, eqI, neI, chain3_bb, chain3_t, chain3_f, fin_nx, fin_rt, fin_ex, sFz_ap, frzs_cons, frzs_nil, frz_s, frz_0z, frz_0o, frz_0n, bX_int, bX_str, bX_bl, bX_non, bX_lst, bX_tup, R.bind_ex, decT, decF, Int.reduceEq, Int.reduceLT, Int.reduceLE, Int.reduceAdd, Int.reduceSub, Int.reduceMul, List.length_cons, List.length_nil, Nat.reduceAdd, if_pos, pic_items]) (by omega) (fun r hr => ⟨_, rfl, rfl, fun _ => by
      unfold m_shows_C2
      simp only [sSeq_ap, sSet_ap, sSetX_ap, sRet_ap, sRetX_ap, sDrop_ap, sIf_ap, sFor_ap, sNx_ap, sBk_ap, sCt_ap, sRetN_ap, sRaise_ap, e1_ap, e2_ap, e3_ap, eVar_0, eVar_s, eVarB_0, eVarB_s, eVarB_0o, eCon_ap, eCallB_ap, eCall_ap, eCallF_ap, eMeth_ap, aCons_ap, aNil_ap, eIter_ap, eIf_ap, eAnd_ap, eOr_ap, eNot_ap, eLst_ap, eTup_ap, bNot_ap, bAnd_ap, bOr_ap, tst_ap, tru_ap, R.bind_ok, R.of_some, rbd_ok, rbd_ex, obd_nx, obd_rt, obd_ex, obd_bk, obd_ct, scnd_t, scnd_f, cnd_t, cnd_f, cnd_or, cnd_and, bl_t, tru_bl, tru_non, ty_str, ty_lst, List.set_cons_zero, List.set_cons_succ, addI, subI, negI, ltI, leI, gtI, geI, eqI, neI, chain3_bb, chain3_t, chain3_f, fin_nx, fin_rt, fin_ex, sFz_ap, frzs_cons, frzs_nil, frz_s, frz_0z, frz_0o, frz_0n, bX_int, bX_str, bX_bl, bX_non, bX_lst, bX_tup, R.bind_ex, decT, decF, Int.reduceEq, Int.reduceLT, Int.reduceLE, Int.reduceAdd, Int.reduceSub, Int.reduceMul, List.length_cons, List.length_nil, Nat.reduceAdd, if_pos, wipeB, len_str (lim1 (show r.length ≤ 1000000 by rw [hPw r hr, hwid]; omega))]⟩)
    rw [List.filter_eq_self.mpr (fun _ _ => rfl)] at this
    rw [this, List.map_map]; rfl
  have enc : Enc (fun (n : Nat) => D.int (n : Int)) 0 := ⟨fun _ => rfl, fun _ => Nat.le_refl _, fun a b => by
    show ((a : Int) == (b : Int)) = _
    rw [beq_dec]; exact decide_eq_decide.mpr natInt⟩
  have ne := enc_ne (enc_lst enc) (by decide) (a := G.map (·.length)) (b := P.map (·.length))
  rw [at_shows]; unfold m_shows
  simp only [sSeq_ap, sSet_ap, sSetX_ap, sRet_ap, sRetX_ap, sDrop_ap, sIf_ap, sFor_ap, sNx_ap, sBk_ap, sCt_ap, sRetN_ap, sRaise_ap, e1_ap, e2_ap, e3_ap, eVar_0, eVar_s, eVarB_0, eVarB_s, eVarB_0o, eCon_ap, eCallB_ap, eCall_ap, eCallF_ap, eMeth_ap, aCons_ap, aNil_ap, eIter_ap, eIf_ap, eAnd_ap, eOr_ap, eNot_ap, eLst_ap, eTup_ap, bNot_ap, bAnd_ap, bOr_ap, tst_ap, tru_ap, R.bind_ok, R.of_some, rbd_ok, rbd_ex, obd_nx, obd_rt, obd_ex, obd_bk, obd_ct, scnd_t, scnd_f, cnd_t, cnd_f, cnd_or, cnd_and, bl_t, tru_bl, tru_non, ty_str, ty_lst, List.set_cons_zero, List.set_cons_succ, addI, subI, negI, ltI, leI, gtI, geI, eqI, neI, chain3_bb, chain3_t, chain3_f, fin_nx, fin_rt, fin_ex, sFz_ap, frzs_cons, frzs_nil, frz_s, frz_0z, frz_0o, frz_0n, bX_int, bX_str, bX_bl, bX_non, bX_lst, bX_tup, R.bind_ex, decT, decF, Int.reduceEq, Int.reduceLT, Int.reduceLE, Int.reduceAdd, Int.reduceSub, Int.reduceMul, List.length_cons, List.length_nil, Nat.reduceAdd, if_pos, lg, lp]
  rw [sTup2 (a := .str L) (b := .lst (tupsD T)) (by simp only [sSeq_ap, sSet_ap, sSetX_ap, sRet_ap, sRetX_ap, sDrop_ap, sIf_ap, sFor_ap, sNx_ap, sBk_ap, sCt_ap, sRetN_ap, sRaise_ap, e1_ap, e2_ap, e3_ap, eVar_0, eVar_s, eVarB_0, eVarB_s, eVarB_0o, eCon_ap, eCallB_ap, eCall_ap, eCallF_ap, eMeth_ap, aCons_ap, aNil_ap, eIter_ap, eIf_ap, eAnd_ap, eOr_ap, eNot_ap, eLst_ap, eTup_ap, bNot_ap, bAnd_ap, bOr_ap, tst_ap, tru_ap, R.bind_ok, R.of_some, rbd_ok, rbd_ex, obd_nx, obd_rt, obd_ex, obd_bk, obd_ct, scnd_t, scnd_f, cnd_t, cnd_f, cnd_or, cnd_and, bl_t, tru_bl, tru_non, ty_str, ty_lst, List.set_cons_zero, List.set_cons_succ, addI, subI, negI, ltI, leI, gtI, geI, eqI, neI, chain3_bb, chain3_t, chain3_f, fin_nx, fin_rt, fin_ex, sFz_ap, frzs_cons, frzs_nil, frz_s, frz_0z, frz_0o, frz_0n, bX_int, bX_str, bX_bl, bX_non, bX_lst, bX_tup, R.bind_ex, decT, decF, Int.reduceEq, Int.reduceLT, Int.reduceLE, Int.reduceAdd, Int.reduceSub, Int.reduceMul, List.length_cons, List.length_nil, Nat.reduceAdd, if_pos]; rfl)]
  simp only [sSeq_ap, sSet_ap, sSetX_ap, sRet_ap, sRetX_ap, sDrop_ap, sIf_ap, sFor_ap, sNx_ap, sBk_ap, sCt_ap, sRetN_ap, sRaise_ap, e1_ap, e2_ap, e3_ap, eVar_0, eVar_s, eVarB_0, eVarB_s, eVarB_0o, eCon_ap, eCallB_ap, eCall_ap, eCallF_ap, eMeth_ap, aCons_ap, aNil_ap, eIter_ap, eIf_ap, eAnd_ap, eOr_ap, eNot_ap, eLst_ap, eTup_ap, bNot_ap, bAnd_ap, bOr_ap, tst_ap, tru_ap, R.bind_ok, R.of_some, rbd_ok, rbd_ex, obd_nx, obd_rt, obd_ex, obd_bk, obd_ct, scnd_t, scnd_f, cnd_t, cnd_f, cnd_or, cnd_and, bl_t, tru_bl, tru_non, ty_str, ty_lst, List.set_cons_zero, List.set_cons_succ, addI, subI, negI, ltI, leI, gtI, geI, eqI, neI, chain3_bb, chain3_t, chain3_f, fin_nx, fin_rt, fin_ex, sFz_ap, frzs_cons, frzs_nil, frz_s, frz_0z, frz_0o, frz_0n, bX_int, bX_str, bX_bl, bX_non, bX_lst, bX_tup, R.bind_ex, decT, decF, Int.reduceEq, Int.reduceLT, Int.reduceLE, Int.reduceAdd, Int.reduceSub, Int.reduceMul, List.length_cons, List.length_nil, Nat.reduceAdd, if_pos, l1, l2, ne]
  unfold showsP
  by_cases hlen : G.map (·.length) = P.map (·.length)
  · rw [decide_eq_true hlen, Bool.true_and, Bool.not_true, scnd_f]
    have hGl : G.length = P.length := by simpa using congrArg List.length hlen
    have Rc : Rect (widP P) G := ⟨fun r hr => by
      have : r.length ∈ G.map (·.length) := List.mem_map.mpr ⟨r, hr, rfl⟩
      rw [hlen] at this
      obtain ⟨q, hq, e⟩ := List.mem_map.mp this
      rw [← e]; exact hPw q hq⟩
    have hne : G ≠ [] := fun z => by rw [z] at hGl; rw [List.length_nil] at hGl; omega
    have hr : ∀ b3 b6 b7 b8 : B, eRng (aCons (eCallB lenD (aCons (eVarB 2) aNil)) aNil) [.fz (sysD L T), .fz (picD P), .fz (gridD G), b3, .fz (.str L), .fz (.lst (tupsD T)), b6, b7, b8] = .ok ((List.range G.length).map fun (i : Nat) => .int (i : Int)) := fun b3 b6 b7 b8 => by
      refine rngE1 ?_ (by omega)
      simp only [sSeq_ap, sSet_ap, sSetX_ap, sRet_ap, sRetX_ap, sDrop_ap, sIf_ap, sFor_ap, sNx_ap, sBk_ap, sCt_ap, sRetN_ap, sRaise_ap, e1_ap, e2_ap, e3_ap, eVar_0, eVar_s, eVarB_0, eVarB_s, eVarB_0o, eCon_ap, eCallB_ap, eCall_ap, eCallF_ap, eMeth_ap, aCons_ap, aNil_ap, eIter_ap, eIf_ap, eAnd_ap, eOr_ap, eNot_ap, eLst_ap, eTup_ap, bNot_ap, bAnd_ap, bOr_ap, tst_ap, tru_ap, R.bind_ok, R.of_some, rbd_ok, rbd_ex, obd_nx, obd_rt, obd_ex, obd_bk, obd_ct, scnd_t, scnd_f, cnd_t, cnd_f, cnd_or, cnd_and, bl_t, tru_bl, tru_non, ty_str, ty_lst, List.set_cons_zero, List.set_cons_succ, addI, subI, negI, ltI, leI, gtI, geI, eqI, neI, chain3_bb, chain3_t, chain3_f, fin_nx, fin_rt, fin_ex, sFz_ap, frzs_cons, frzs_nil, frz_s, frz_0z, frz_0o, frz_0n, bX_int, bX_str, bX_bl, bX_non, bX_lst, bX_tup, R.bind_ex, decT, decF, Int.reduceEq, Int.reduceLT, Int.reduceLE, Int.reduceAdd, Int.reduceSub, Int.reduceMul, List.length_cons, List.length_nil, Nat.reduceAdd, if_pos, show lenD [gridD G] = some (.int (G.length : Int)) by unfold gridD; rw [len_lst, List.length_map]]
    obtain ⟨c3, c6, e⟩ := shows_y Rc hL hPw (by omega) hGl (b0 := .fz (sysD L T)) (b5 := .fz (.lst (tupsD T))) (b7 := .no) (b8 := .no) (List.range G.length) .no .no (fun y hy => List.mem_range.mp hy)
    simp only [sSeq_ap, sSet_ap, sSetX_ap, sRet_ap, sRetX_ap, sDrop_ap, sIf_ap, sFor_ap, sNx_ap, sBk_ap, sCt_ap, sRetN_ap, sRaise_ap, e1_ap, e2_ap, e3_ap, eVar_0, eVar_s, eVarB_0, eVarB_s, eVarB_0o, eCon_ap, eCallB_ap, eCall_ap, eCallF_ap, eMeth_ap, aCons_ap, aNil_ap, eIter_ap, eIf_ap, eAnd_ap, eOr_ap, eNot_ap, eLst_ap, eTup_ap, bNot_ap, bAnd_ap, bOr_ap, tst_ap, tru_ap, R.bind_ok, R.of_some, rbd_ok, rbd_ex, obd_nx, obd_rt, obd_ex, obd_bk, obd_ct, scnd_t, scnd_f, cnd_t, cnd_f, cnd_or, cnd_and, bl_t, tru_bl, tru_non, ty_str, ty_lst, List.set_cons_zero, List.set_cons_succ, addI, subI, negI, ltI, leI, gtI, geI, eqI, neI, chain3_bb, chain3_t, chain3_f, fin_nx, fin_rt, fin_ex, sFz_ap, frzs_cons, frzs_nil, frz_s, frz_0z, frz_0o, frz_0n, bX_int, bX_str, bX_bl, bX_non, bX_lst, bX_tup, R.bind_ex, decT, decF, Int.reduceEq, Int.reduceLT, Int.reduceLE, Int.reduceAdd, Int.reduceSub, Int.reduceMul, List.length_cons, List.length_nil, Nat.reduceAdd, if_pos]
    rw [hr, rbd_ok, e]
    cases (List.range G.length).all fun y => (List.range (widP P)).all fun x => cellP L P G y x with
    | false => rfl
    | true =>
      rw [if_pos rfl, Bool.true_and]
      have lt : (sortI (insAll [] (tilesP (widP P) G))).length ≤ 1000000 := by
        rw [(sortI_perm _).length_eq]
        refine Nat.le_trans (insAll_len _ _) ?_
        rw [List.length_nil, Nat.zero_add, tilesP_len]
        exact Nat.le_trans (Nat.mul_le_mul (show G.length + 1 ≤ 901 by omega) (show widP P + 1 ≤ 901 by omega)) (by decide)
      have l3 := lc_gen (it := eIter (eCall 1 sem_tiles_in (aCons (eVar 2) aNil))) (t := .nm 8) (tt := fun _ => .ok true) (elt := m_shows_C5) (vs := [8]) (ρ := [.fz (sysD L T), .fz (picD P), .fz (gridD G), c3, .fz (.str L), .fz (.lst (tupsD T)), c6, .no, .no]) (f := tupD) (g := fun t => .bl (decide (t ∈ T))) (p := fun _ => true) (A := sortI (insAll [] (tilesP (widP P) G)))
        (by simp only [sSeq_ap, sSet_ap, sSetX_ap, sRet_ap, sRetX_ap, sDrop_ap, sIf_ap, sFor_ap, sNx_ap, sBk_ap, sCt_ap, sRetN_ap, sRaise_ap, e1_ap, e2_ap, e3_ap, eVar_0, eVar_s, eVarB_0, eVarB_s, eVarB_0o, eCon_ap, eCallB_ap, eCall_ap, eCallF_ap, eMeth_ap, aCons_ap, aNil_ap, eIter_ap, eIf_ap, eAnd_ap, eOr_ap, eNot_ap, eLst_ap, eTup_ap, bNot_ap, bAnd_ap, bOr_ap, tst_ap, tru_ap, R.bind_ok, R.of_some, rbd_ok, rbd_ex, obd_nx, obd_rt, obd_ex, obd_bk, obd_ct, scnd_t, scnd_f, cnd_t, cnd_f, cnd_or, cnd_and, bl_t, tru_bl, tru_non, ty_str, ty_lst, List.set_cons_zero, List.set_cons_succ, addI, subI, negI, ltI, leI, gtI, geI, eqI, neI, chain3_bb, chain3_t, chain3_f, fin_nx, fin_rt, fin_ex, sFz_ap, frzs_cons, frzs_nil, frz_s, frz_0z, frz_0o, frz_0n, bX_int, bX_str, bX_bl, bX_non, bX_lst, bX_tup, R.bind_ex, decT, decF, Int.reduceEq, Int.reduceLT, Int.reduceLE, Int.reduceAdd, Int.reduceSub, Int.reduceMul, List.length_cons, List.length_nil, Nat.reduceAdd, if_pos, sem_tin Rc hne (by omega) hG, items_lst]; rfl) lt (fun t _ => ⟨_, rfl, rfl, fun _ => by
          unfold m_shows_C5
          simp only [sSeq_ap, sSet_ap, sSetX_ap, sRet_ap, sRetX_ap, sDrop_ap, sIf_ap, sFor_ap, sNx_ap, sBk_ap, sCt_ap, sRetN_ap, sRaise_ap, e1_ap, e2_ap, e3_ap, eVar_0, eVar_s, eVarB_0, eVarB_s, eVarB_0o, eCon_ap, eCallB_ap, eCall_ap, eCallF_ap, eMeth_ap, aCons_ap, aNil_ap, eIter_ap, eIf_ap, eAnd_ap, eOr_ap, eNot_ap, eLst_ap, eTup_ap, bNot_ap, bAnd_ap, bOr_ap, tst_ap, tru_ap, R.bind_ok, R.of_some, rbd_ok, rbd_ex, obd_nx, obd_rt, obd_ex, obd_bk, obd_ct, scnd_t, scnd_f, cnd_t, cnd_f, cnd_or, cnd_and, bl_t, tru_bl, tru_non, ty_str, ty_lst, List.set_cons_zero, List.set_cons_succ, addI, subI, negI, ltI, leI, gtI, geI, eqI, neI, chain3_bb, chain3_t, chain3_f, fin_nx, fin_rt, fin_ex, sFz_ap, frzs_cons, frzs_nil, frz_s, frz_0z, frz_0o, frz_0n, bX_int, bX_str, bX_bl, bX_non, bX_lst, bX_tup, R.bind_ex, decT, decF, Int.reduceEq, Int.reduceLT, Int.reduceLE, Int.reduceAdd, Int.reduceSub, Int.reduceMul, List.length_cons, List.length_nil, Nat.reduceAdd, if_pos, wipeB, in_tups]⟩)
      rw [List.filter_eq_self.mpr (fun _ _ => rfl)] at l3
      simp only [sSeq_ap, sSet_ap, sSetX_ap, sRet_ap, sRetX_ap, sDrop_ap, sIf_ap, sFor_ap, sNx_ap, sBk_ap, sCt_ap, sRetN_ap, sRaise_ap, e1_ap, e2_ap, e3_ap, eVar_0, eVar_s, eVarB_0, eVarB_s, eVarB_0o, eCon_ap, eCallB_ap, eCall_ap, eCallF_ap, eMeth_ap, aCons_ap, aNil_ap, eIter_ap, eIf_ap, eAnd_ap, eOr_ap, eNot_ap, eLst_ap, eTup_ap, bNot_ap, bAnd_ap, bOr_ap, tst_ap, tru_ap, R.bind_ok, R.of_some, rbd_ok, rbd_ex, obd_nx, obd_rt, obd_ex, obd_bk, obd_ct, scnd_t, scnd_f, cnd_t, cnd_f, cnd_or, cnd_and, bl_t, tru_bl, tru_non, ty_str, ty_lst, List.set_cons_zero, List.set_cons_succ, addI, subI, negI, ltI, leI, gtI, geI, eqI, neI, chain3_bb, chain3_t, chain3_f, fin_nx, fin_rt, fin_ex, sFz_ap, frzs_cons, frzs_nil, frz_s, frz_0z, frz_0o, frz_0n, bX_int, bX_str, bX_bl, bX_non, bX_lst, bX_tup, R.bind_ex, decT, decF, Int.reduceEq, Int.reduceLT, Int.reduceLE, Int.reduceAdd, Int.reduceSub, Int.reduceMul, List.length_cons, List.length_nil, Nat.reduceAdd, if_pos, l3, all_bls]
      refine congrArg (fun b => R.ok (D.bl b)) ?_
      rw [Bool.eq_iff_iff, List.all_eq_true, List.all_eq_true]
      have hm : ∀ t, t ∈ sortI (insAll [] (tilesP (widP P) G)) ↔ t ∈ tilesP (widP P) G := fun t => by
        rw [(sortI_perm _).mem_iff, insAll_mem]; simp
      exact ⟨fun q t ht => q t ((hm t).mpr ht), fun q t ht => q t ((hm t).mp ht)⟩
  · rw [decide_eq_false hlen, Bool.false_and]
    rfl
theorem fshows {L : Str} {T : List (List Int)} {P : List Str} {G : List (List Int)} (hL : L.length ≤ 16) (ok : okSys L T = true) (hT : T.length < 1000000) (hP : good P = true) (hG : G.length ≤ 900) (hGr : ∀ r ∈ G, r.length ≤ 900) : flatR (sem_shows [sysD L T, picD P, gridD G]) = .ok (.bl (showsP L T P G)) := by rw [shows_ok hL ok hT hP hG hGr]; rfl

end K10

namespace K10
open PySem PySem.Spec PyProof.Rows L2 QY
/-! ### the law's pictures -/
def ltI1 (L : Str) (z : Int) : Str := ⟨#[letAt L (z % (L.length : Int)).toNat]⟩
theorem ltI1_in {L : Str} (h1 : 1 ≤ L.length) (ha : ab L = true) (z : Int) : (ltI1 L z).length = 1 ∧ ab (ltI1 L z) = true := by
  refine ⟨rfl, ?_⟩
  have h0 := Int.emod_nonneg z (show (L.length : Int) ≠ 0 by omega)
  have h2 := Int.emod_lt_of_pos z (show (0 : Int) < L.length by omega)
  have hm : (z % (L.length : Int)).toNat < L.cps.toList.length := by rw [size_len]; omega
  have : letAt L (z % (L.length : Int)).toNat ∈ L.cps.toList := by
    unfold letAt
    rw [List.getD_eq_getElem?_getD, List.getElem?_eq_getElem hm]
    exact List.getElem_mem hm
  have := List.all_eq_true.mp ha _ this
  show ([letAt L (z % (L.length : Int)).toNat].all abB) = true
  rw [List.all_cons, this]; rfl
theorem ix_ltI1 {L : Str} (h1 : 1 ≤ L.length) (hL : L.length ≤ 1000) (z : Int) : ixD (.str L) (.int (z % (L.length : Int))) = some (.str (ltI1 L z)) := by
  have h0 := Int.emod_nonneg z (show (L.length : Int) ≠ 0 by omega)
  have h2 := Int.emod_lt_of_pos z (show (0 : Int) < L.length by omega)
  obtain ⟨m, hm⟩ : ∃ m : Nat, z % (L.length : Int) = (m : Int) := ⟨(z % (L.length : Int)).toNat, by omega⟩
  unfold ltI1
  rw [hm, ix_letter (by omega) (by omega)]; rfl
def rowP (ns : List Int) (k : Int) (L : Str) (w : Nat) (y : Nat) : Str := Txt.join "" ((List.range w).map fun (x : Nat) => ltI1 L (mixZ ns (k + 6 * (y : Int) + (x : Int)) / 8))
theorem rowP_in {ns : List Int} {k : Int} {L : Str} {w y : Nat} (h1 : 1 ≤ L.length) (ha : ab L = true) : (rowP ns k L w y).length = w ∧ ab (rowP ns k L w y) = true := by
  obtain ⟨a, b⟩ := join_ones ((List.range w).map fun (x : Nat) => ltI1 L (mixZ ns (k + 6 * (y : Int) + (x : Int)) / 8)) fun q hq => by
    obtain ⟨x, _, rfl⟩ := List.mem_map.mp hq
    exact ltI1_in h1 ha _
  rw [List.length_map, List.length_range] at a
  exact ⟨a, b⟩
theorem pic_row {ns : List Int} {k : Int} {L : Str} {w y : Nat} (h1 : 1 ≤ L.length) (hL : L.length ≤ 1000) (ha : ab L = true) (hw : w ≤ 1000) {b2 b7 : B} {A : List D} (hA : A.length ≤ 1000) :
    m_law_picture_L2 [.fz (.scr ns), .fz (.int k), b2, .fz (.int (w : Int)), .fz (.str L), .ow (.lst A), .fz (.int (y : Int)), b7] = .nx [.fz (.scr ns), .fz (.int k), b2, .fz (.int (w : Int)), .fz (.str L), .ow (.lst (A ++ [.str (rowP ns k L w y)])), .fz (.int (y : Int)), b7] := by
  have hr : eRng (aCons (eVar 3) aNil) [.fz (.scr ns), .fz (.int k), b2, .fz (.int (w : Int)), .fz (.str L), .ow (.lst A), .fz (.int (y : Int)), b7] = .ok ((List.range w).map fun (i : Nat) => .int (i : Int)) := rngE1 (by simp only [sSeq_ap, sSet_ap, sSetX_ap, sRet_ap, sRetX_ap, sDrop_ap, sIf_ap, sFor_ap, sNx_ap, sBk_ap, sCt_ap, sRetN_ap, sRaise_ap, e1_ap, e2_ap, e3_ap, eVar_0, eVar_s, eVarB_0, eVarB_s, eVarB_0o, eCon_ap, eCallB_ap, eCall_ap, eCallF_ap, eMeth_ap, aCons_ap, aNil_ap, eIter_ap, eIf_ap, eAnd_ap, eOr_ap, eNot_ap, eLst_ap, eTup_ap, bNot_ap, bAnd_ap, bOr_ap, tst_ap, tru_ap, R.bind_ok, R.of_some, rbd_ok, rbd_ex, obd_nx, obd_rt, obd_ex, obd_bk, obd_ct, scnd_t, scnd_f, cnd_t, cnd_f, cnd_or, cnd_and, bl_t, tru_bl, tru_non, ty_str, ty_lst, List.set_cons_zero, List.set_cons_succ, addI, subI, negI, ltI, leI, gtI, geI, eqI, neI, chain3_bb, chain3_t, chain3_f, fin_nx, fin_rt, fin_ex, sFz_ap, frzs_cons, frzs_nil, frz_s, frz_0z, frz_0o, frz_0n, bX_int, bX_str, bX_bl, bX_non, bX_lst, bX_tup, R.bind_ex, decT, decF]) (by omega)
  have e := lc_range (i := 7) (elt := m_law_picture_C1) (vs := [7]) (g := fun (x : Nat) => .str (ltI1 L (mixZ ns (k + 6 * (y : Int) + (x : Int)) / 8))) hr (by omega) (fun x hx => by
    unfold m_law_picture_C1
    simp only [sSeq_ap, sSet_ap, sSetX_ap, sRet_ap, sRetX_ap, sDrop_ap, sIf_ap, sFor_ap, sNx_ap, sBk_ap, sCt_ap, sRetN_ap, sRaise_ap, e1_ap, e2_ap, e3_ap, eVar_0, eVar_s, eVarB_0, eVarB_s, eVarB_0o, eCon_ap, eCallB_ap, eCall_ap, eCallF_ap, eMeth_ap, aCons_ap, aNil_ap, eIter_ap, eIf_ap, eAnd_ap, eOr_ap, eNot_ap, eLst_ap, eTup_ap, bNot_ap, bAnd_ap, bOr_ap, tst_ap, tru_ap, R.bind_ok, R.of_some, rbd_ok, rbd_ex, obd_nx, obd_rt, obd_ex, obd_bk, obd_ct, scnd_t, scnd_f, cnd_t, cnd_f, cnd_or, cnd_and, bl_t, tru_bl, tru_non, ty_str, ty_lst, List.set_cons_zero, List.set_cons_succ, addI, subI, negI, ltI, leI, gtI, geI, eqI, neI, chain3_bb, chain3_t, chain3_f, fin_nx, fin_rt, fin_ex, sFz_ap, frzs_cons, frzs_nil, frz_s, frz_0z, frz_0o, frz_0n, bX_int, bX_str, bX_bl, bX_non, bX_lst, bX_tup, R.bind_ex, decT, decF, Int.reduceEq, Int.reduceLT, Int.reduceLE, Int.reduceAdd, Int.reduceSub, Int.reduceMul, List.length_cons, List.length_nil, Nat.reduceAdd, if_pos, wipeB, mulI' (show -(2 ^ 64) < (6 : Int) ∧ (6 : Int) < 2 ^ 64 by decide), fmix, fdivI (show (0 : Int) < 8 ∧ (8 : Int) < 1073741824 by decide), len_str (lim1 (show L.length ≤ 1000000 by omega)), modI (show (0 : Int) < (L.length : Int) by omega), ix_ltI1 h1 hL])
  have ej := join_some (ys := (List.range w).map fun (x : Nat) => ltI1 L (mixZ ns (k + 6 * (y : Int) + (x : Int)) / 8)) (fun q hq => by
    obtain ⟨x, _, rfl⟩ := List.mem_map.mp hq
    exact ltI1_in h1 ha _) (by rw [List.length_map, List.length_range]; omega)
  rw [List.map_map] at ej
  have ej : joinD (.str "") [.lst ((List.range w).map fun (x : Nat) => .str (ltI1 L (mixZ ns (k + 6 * (y : Int) + (x : Int)) / 8)))] = some (.str (rowP ns k L w y)) := ej
  unfold m_law_picture_L2
  rw [sSeq_ap, app_any (A := A) (d := .str (rowP ns k L w y)) rfl (by simp only [sSeq_ap, sSet_ap, sSetX_ap, sRet_ap, sRetX_ap, sDrop_ap, sIf_ap, sFor_ap, sNx_ap, sBk_ap, sCt_ap, sRetN_ap, sRaise_ap, e1_ap, e2_ap, e3_ap, eVar_0, eVar_s, eVarB_0, eVarB_s, eVarB_0o, eCon_ap, eCallB_ap, eCall_ap, eCallF_ap, eMeth_ap, aCons_ap, aNil_ap, eIter_ap, eIf_ap, eAnd_ap, eOr_ap, eNot_ap, eLst_ap, eTup_ap, bNot_ap, bAnd_ap, bOr_ap, tst_ap, tru_ap, R.bind_ok, R.of_some, rbd_ok, rbd_ex, obd_nx, obd_rt, obd_ex, obd_bk, obd_ct, scnd_t, scnd_f, cnd_t, cnd_f, cnd_or, cnd_and, bl_t, tru_bl, tru_non, ty_str, ty_lst, List.set_cons_zero, List.set_cons_succ, addI, subI, negI, ltI, leI, gtI, geI, eqI, neI, chain3_bb, chain3_t, chain3_f, fin_nx, fin_rt, fin_ex, sFz_ap, frzs_cons, frzs_nil, frz_s, frz_0z, frz_0o, frz_0n, bX_int, bX_str, bX_bl, bX_non, bX_lst, bX_tup, R.bind_ex, decT, decF, Int.reduceEq, Int.reduceLT, Int.reduceLE, Int.reduceAdd, Int.reduceSub, Int.reduceMul, List.length_cons, List.length_nil, Nat.reduceAdd, if_pos, e, ej]) (by omega)]
  rfl
theorem pic_rows {ns : List Int} {k : Int} {L : Str} {w : Nat} (h1 : 1 ≤ L.length) (hL : L.length ≤ 1000) (ha : ab L = true) (hw : w ≤ 1000) {b2 b7 : B} : ∀ (ys : List Nat) (A : List D) (b6 : B), A.length + ys.length ≤ 1000 → ∃ b6',
    forO (.nm 6) m_law_picture_L2 (ys.map fun (i : Nat) => .int (i : Int)) [.fz (.scr ns), .fz (.int k), b2, .fz (.int (w : Int)), .fz (.str L), .ow (.lst A), b6, b7] = .nx [.fz (.scr ns), .fz (.int k), b2, .fz (.int (w : Int)), .fz (.str L), .ow (.lst (A ++ ys.map fun y => .str (rowP ns k L w y))), b6', b7]
  | [], A, b6, _ => ⟨b6, by simp⟩
  | y :: ys, A, b6, h => by
    rw [List.length_cons] at h
    obtain ⟨c6, e⟩ := pic_rows h1 hL ha hw (b2 := b2) (b7 := b7) ys (A ++ [.str (rowP ns k L w y)]) (.fz (.int (y : Int))) (by rw [List.length_append, List.length_singleton]; omega)
    refine ⟨c6, ?_⟩
    rw [List.map_cons, forO_nm]
    simp only [List.set_cons_zero, List.set_cons_succ]
    rw [pic_row h1 hL ha hw (by omega), loopO_nx, e, List.append_assoc]; rfl
theorem sem_picture {ns : List Int} {k : Int} {L : Str} {h w : Nat} (h1 : 1 ≤ L.length) (hL : L.length ≤ 1000) (ha : ab L = true) (hw : w ≤ 1000) (hh : h ≤ 1000) : ∃ P : List Str, sem_law_picture [.scr ns, .int k, .int (h : Int), .int (w : Int), .str L] = .ok (picD P) ∧ P.length = h ∧ ∀ r ∈ P, r.length = w ∧ ab r = true := by
  obtain ⟨c6, e⟩ := pic_rows (ns := ns) (k := k) h1 hL ha hw (b2 := .fz (.int (h : Int))) (b7 := .no) (List.range h) [] .no (by rw [List.length_range, List.length_nil]; omega)
  refine ⟨(List.range h).map (rowP ns k L w), ?_, by rw [List.length_map, List.length_range], fun r hr => by
    obtain ⟨y, _, rfl⟩ := List.mem_map.mp hr
    exact rowP_in h1 ha⟩
  have hr : ∀ b5 b6 b7 : B, eRng (aCons (eVar 2) aNil) [.fz (.scr ns), .fz (.int k), .fz (.int (h : Int)), .fz (.int (w : Int)), .fz (.str L), b5, b6, b7] = .ok ((List.range h).map fun (i : Nat) => .int (i : Int)) := fun b5 b6 b7 => rngE1 (by simp only [sSeq_ap, sSet_ap, sSetX_ap, sRet_ap, sRetX_ap, sDrop_ap, sIf_ap, sFor_ap, sNx_ap, sBk_ap, sCt_ap, sRetN_ap, sRaise_ap, e1_ap, e2_ap, e3_ap, eVar_0, eVar_s, eVarB_0, eVarB_s, eVarB_0o, eCon_ap, eCallB_ap, eCall_ap, eCallF_ap, eMeth_ap, aCons_ap, aNil_ap, eIter_ap, eIf_ap, eAnd_ap, eOr_ap, eNot_ap, eLst_ap, eTup_ap, bNot_ap, bAnd_ap, bOr_ap, tst_ap, tru_ap, R.bind_ok, R.of_some, rbd_ok, rbd_ex, obd_nx, obd_rt, obd_ex, obd_bk, obd_ct, scnd_t, scnd_f, cnd_t, cnd_f, cnd_or, cnd_and, bl_t, tru_bl, tru_non, ty_str, ty_lst, List.set_cons_zero, List.set_cons_succ, addI, subI, negI, ltI, leI, gtI, geI, eqI, neI, chain3_bb, chain3_t, chain3_f, fin_nx, fin_rt, fin_ex, sFz_ap, frzs_cons, frzs_nil, frz_s, frz_0z, frz_0o, frz_0n, bX_int, bX_str, bX_bl, bX_non, bX_lst, bX_tup, R.bind_ex, decT, decF]) (by omega)
  rw [at_law_picture]; unfold m_law_picture
  simp only [sSeq_ap, sSet_ap, sSetX_ap, sRet_ap, sRetX_ap, sDrop_ap, sIf_ap, sFor_ap, sNx_ap, sBk_ap, sCt_ap, sRetN_ap, sRaise_ap, e1_ap, e2_ap, e3_ap, eVar_0, eVar_s, eVarB_0, eVarB_s, eVarB_0o, eCon_ap, eCallB_ap, eCall_ap, eCallF_ap, eMeth_ap, aCons_ap, aNil_ap, eIter_ap, eIf_ap, eAnd_ap, eOr_ap, eNot_ap, eLst_ap, eTup_ap, bNot_ap, bAnd_ap, bOr_ap, tst_ap, tru_ap, R.bind_ok, R.of_some, rbd_ok, rbd_ex, obd_nx, obd_rt, obd_ex, obd_bk, obd_ct, scnd_t, scnd_f, cnd_t, cnd_f, cnd_or, cnd_and, bl_t, tru_bl, tru_non, ty_str, ty_lst, List.set_cons_zero, List.set_cons_succ, addI, subI, negI, ltI, leI, gtI, geI, eqI, neI, chain3_bb, chain3_t, chain3_f, fin_nx, fin_rt, fin_ex, sFz_ap, frzs_cons, frzs_nil, frz_s, frz_0z, frz_0o, frz_0n, bX_int, bX_str, bX_bl, bX_non, bX_lst, bX_tup, R.bind_ex, decT, decF, Int.reduceEq, Int.reduceLT, Int.reduceLE, Int.reduceAdd, Int.reduceSub, Int.reduceMul, List.length_cons, List.length_nil, Nat.reduceAdd, if_pos, if_pos (Nat.zero_le LIM)]
  rw [hr, rbd_ok, e]
  simp only [sSeq_ap, sSet_ap, sSetX_ap, sRet_ap, sRetX_ap, sDrop_ap, sIf_ap, sFor_ap, sNx_ap, sBk_ap, sCt_ap, sRetN_ap, sRaise_ap, e1_ap, e2_ap, e3_ap, eVar_0, eVar_s, eVarB_0, eVarB_s, eVarB_0o, eCon_ap, eCallB_ap, eCall_ap, eCallF_ap, eMeth_ap, aCons_ap, aNil_ap, eIter_ap, eIf_ap, eAnd_ap, eOr_ap, eNot_ap, eLst_ap, eTup_ap, bNot_ap, bAnd_ap, bOr_ap, tst_ap, tru_ap, R.bind_ok, R.of_some, rbd_ok, rbd_ex, obd_nx, obd_rt, obd_ex, obd_bk, obd_ct, scnd_t, scnd_f, cnd_t, cnd_f, cnd_or, cnd_and, bl_t, tru_bl, tru_non, ty_str, ty_lst, List.set_cons_zero, List.set_cons_succ, addI, subI, negI, ltI, leI, gtI, geI, eqI, neI, chain3_bb, chain3_t, chain3_f, fin_nx, fin_rt, fin_ex, sFz_ap, frzs_cons, frzs_nil, frz_s, frz_0z, frz_0o, frz_0n, bX_int, bX_str, bX_bl, bX_non, bX_lst, bX_tup, R.bind_ex, decT, decF, Int.reduceEq, Int.reduceLT, Int.reduceLE, Int.reduceAdd, Int.reduceSub, Int.reduceMul, List.length_cons, List.length_nil, Nat.reduceAdd, if_pos, List.nil_append]
  have : picD ((List.range h).map (rowP ns k L w)) = .lst ((List.range h).map fun y => .str (rowP ns k L w y)) := by unfold picD; rw [List.map_map]; rfl
  rw [this]
  rfl
theorem good_pic {P : List Str} {h w : Nat} (hl : P.length = h) (h1 : 1 ≤ h) (h4 : h ≤ 4) (w1 : 1 ≤ w) (w12 : w ≤ 12) (hr : ∀ r ∈ P, r.length = w ∧ ab r = true) : good P = true := by
  cases P with
  | nil => rw [List.length_nil] at hl; omega
  | cons r0 rest =>
    have e0 := (hr r0 (by simp)).1
    show (decide ((r0 :: rest).length ≤ 4) && (decide (1 ≤ r0.length ∧ r0.length ≤ 12) && (r0 :: rest).all (goodR r0.length))) = true
    rw [decide_eq_true (show (r0 :: rest).length ≤ 4 by omega), decide_eq_true (show 1 ≤ r0.length ∧ r0.length ≤ 12 by omega), Bool.true_and, Bool.true_and, List.all_eq_true]
    intro r hm
    obtain ⟨q1, q2⟩ := hr r hm
    show (decide (r.length = r0.length) && lets r) = true
    rw [decide_eq_true (by omega), ab_lets q2]; rfl

end K10

namespace K10
open PySem PySem.Spec PyProof.Rows L2 QY
/-! ### _law_least -/
theorem sorted_lst {A : List (List Int)} (h : noE A = true) : sortedD [.lst (tupsD A)] = some (.lst (tupsD (sortI A))) := by
  show (asTups (tupsD A)).bind (fun nss => if noE nss then some (D.lst (tupsD (sortI nss))) else none) = _
  rw [asTups_map]
  show (if noE A then _ else _) = _
  rw [if_pos h]
theorem colsT_len {P : List Str} {r0 : Str} {rest : List Str} (e : P = r0 :: rest) : (colsT P).length = r0.length := by
  subst e
  show ((List.range r0.length).map _).length = _
  rw [List.length_map, List.length_range]
theorem colsT_get {P : List Str} {x : Nat} (hx : x < (colsT P).length) : (colsT P)[x] = Txt.join "" (P.map fun r => chr r x) := by
  cases P with
  | nil => exact absurd hx (Nat.not_lt_zero _)
  | cons r0 rest =>
    have hl := colsT_len (P := r0 :: rest) rfl
    have h2 : (colsT (r0 :: rest))[x]? = some (Txt.join "" ((r0 :: rest).map fun r => chr r x)) := by
      show ((List.range r0.length).map fun x => Txt.join "" ((r0 :: rest).map fun r => chr r x))[x]? = _
      rw [List.getElem?_map, List.getElem?_range (by omega)]; rfl
    exact Option.some.inj ((List.getElem?_eq_getElem hx).symm.trans h2)
abbrev lstD (cs : List (List Int)) : D := .lst (tupsD cs)
def resL (way : List (List Int)) : Option (List (List Int)) → D
  | none => .non
  | some r => lstD (way ++ r)
def envL (S P W : D) (a : Nat) (K : List (Nat × List Int)) (b4 b5 b6 b7 b8 : B) : List B := [.fz S, .fz P, .fz W, .ow (.dat a (K.map pkD) (trues K)), b4, b5, b6, b7, b8]
def okLeast (L : Str) (T : List (List Int)) (P : List Str) (rec : IOS) (x : Nat) : Prop := ∀ (a : Nat) (w0 : List (List Int)) (one : List Int) (K : List (Nat × List Int)), w0.length = x → (one = List.replicate P.length (-1) ∨ isCol L.length P.length one) → DeadK L T (colsT P) P.length K → ∃ K', DeadK L T (colsT P) P.length K' ∧
  rec a [sysD L T, picD P, lstD (w0 ++ [one])] (K.map pkD) (trues K) = some (resL (w0 ++ [one]) (leastP L T ((colsT P).drop x) one), K'.map pkD, trues K')
theorem way_last {w0 : List (List Int)} {one : List Int} : ixD (lstD (w0 ++ [one])) (.int (-1)) = some (tupD one) := by
  unfold lstD tupsD
  rw [List.map_append]
  exact ix_end
theorem way_add {way : List (List Int)} {c : List Int} (h : way.length ≤ 1000) : addD (lstD way) (.lst [tupD c]) = some (lstD (way ++ [c])) := by
  show (if (tupsD way).length + 1 ≤ LIM then some (D.lst (tupsD way ++ [tupD c])) else none) = _
  rw [if_pos (by unfold tupsD; rw [List.length_map]; exact lim1 (by omega))]
  unfold lstD tupsD; rw [List.map_append]; rfl
theorem least_loop {L : Str} {T : List (List Int)} {P : List Str} {rec : IOS} {w0 : List (List Int)} {one : List Int} {a : Nat} (hw : w0.length ≤ 100) (hrec : okLeast L T P rec (w0.length + 1)) {b4 b5 b8 : B} : ∀ (C : List (List Int)) (K : List (Nat × List Int)) (b6 b7 : B), (∀ c ∈ C, isCol L.length P.length c) → DeadK L T (colsT P) P.length K → ∃ K' b6' b7', DeadK L T (colsT P) P.length K' ∧
    forO (.nm 6) (m_law_least_L2 rec) (tupsD C) (envL (sysD L T) (picD P) (lstD (w0 ++ [one])) a K b4 b5 b6 b7 b8) = (match C.findSome? fun c => (leastP L T ((colsT P).drop (w0.length + 1)) c).map fun r => c :: r with
      | none => .nx (envL (sysD L T) (picD P) (lstD (w0 ++ [one])) a K' b4 b5 b6' b7' b8)
      | some r => .rw (lstD (w0 ++ [one] ++ r)) (envL (sysD L T) (picD P) (lstD (w0 ++ [one])) a K' b4 b5 b6' b7' b8))
  | [], K, b6, b7, _, hK => ⟨K, b6, b7, hK, rfl⟩
  | c :: C, K, b6, b7, hC, hK => by
    obtain ⟨K1, hK1, e1⟩ := hrec a (w0 ++ [one]) c K (by rw [List.length_append]; rfl) (.inr (hC c (by simp))) hK
    have ea := way_add (way := w0 ++ [one]) (c := c) (by rw [List.length_append, List.length_singleton]; omega)
    have er : m_law_least_L2 rec (envL (sysD L T) (picD P) (lstD (w0 ++ [one])) a K b4 b5 (.fz (tupD c)) b7 b8) = (match (leastP L T ((colsT P).drop (w0.length + 1)) c).map fun r => c :: r with
      | none => .nx (envL (sysD L T) (picD P) (lstD (w0 ++ [one])) a K1 b4 b5 (.fz (tupD c)) (.fz .non) b8)
      | some r => .rw (lstD (w0 ++ [one] ++ r)) (envL (sysD L T) (picD P) (lstD (w0 ++ [one])) a K1 b4 b5 (.fz (tupD c)) (.fz (lstD (w0 ++ [one] ++ r))) b8)) := by
      unfold m_law_least_L2 envL
      rw [sSeq_ap, sCallIO_ap]
      simp only [sSeq_ap, sSet_ap, sSetX_ap, sRet_ap, sRetX_ap, sDrop_ap, sIf_ap, sFor_ap, sNx_ap, sBk_ap, sCt_ap, sRetN_ap, sRaise_ap, e1_ap, e2_ap, e3_ap, eVar_0, eVar_s, eVarB_0, eVarB_s, eVarB_0o, eCon_ap, eCallB_ap, eCall_ap, eCallF_ap, eMeth_ap, aCons_ap, aNil_ap, eIter_ap, eIf_ap, eAnd_ap, eOr_ap, eNot_ap, eLst_ap, eTup_ap, bNot_ap, bAnd_ap, bOr_ap, tst_ap, tru_ap, R.bind_ok, R.of_some, rbd_ok, rbd_ex, obd_nx, obd_rt, obd_ex, obd_bk, obd_ct, scnd_t, scnd_f, cnd_t, cnd_f, cnd_or, cnd_and, bl_t, tru_bl, tru_non, ty_str, ty_lst, List.set_cons_zero, List.set_cons_succ, addI, subI, negI, ltI, leI, gtI, geI, eqI, neI, chain3_bb, chain3_t, chain3_f, fin_nx, fin_rt, fin_ex, sFz_ap, frzs_cons, frzs_nil, frz_s, frz_0z, frz_0o, frz_0n, bX_int, bX_str, bX_bl, bX_non, bX_lst, bX_tup, R.bind_ex, decT, decF, Int.reduceEq, Int.reduceLT, Int.reduceLE, Int.reduceAdd, Int.reduceSub, Int.reduceMul, List.length_cons, List.length_nil, Nat.reduceAdd, if_pos, if_pos (show 1 ≤ LIM by decide), ea]
      show obd (ioO 7 3 a (rec a [sysD L T, picD P, lstD (w0 ++ [one] ++ [c])] (K.map pkD) (trues K)) _) _ = _
      rw [e1]
      unfold ioO
      cases leastP L T ((colsT P).drop (w0.length + 1)) c with
      | none => rfl
      | some r =>
        have e2 : resL (w0 ++ [one] ++ [c]) (some r) = lstD (w0 ++ [one] ++ (c :: r)) := by
          show lstD (w0 ++ [one] ++ [c] ++ r) = _
          rw [List.append_assoc (w0 ++ [one])]; rfl
        rw [e2]; rfl
    have ef : forO (.nm 6) (m_law_least_L2 rec) (tupsD (c :: C)) (envL (sysD L T) (picD P) (lstD (w0 ++ [one])) a K b4 b5 b6 b7 b8) = loopO (m_law_least_L2 rec (envL (sysD L T) (picD P) (lstD (w0 ++ [one])) a K b4 b5 (.fz (tupD c)) b7 b8)) (forO (.nm 6) (m_law_least_L2 rec) (tupsD C)) := rfl
    rw [ef, er, List.findSome?_cons]
    cases (leastP L T ((colsT P).drop (w0.length + 1)) c).map fun r => c :: r with
    | some r => exact ⟨K1, _, _, hK1, rfl⟩
    | none =>
      obtain ⟨K2, d6, d7, hK2, e2⟩ := least_loop hw hrec (one := one) (a := a) (b4 := b4) (b5 := b5) (b8 := b8) C K1 (.fz (tupD c)) (.fz .non) (fun q hq => hC q (List.mem_cons_of_mem _ hq)) hK1
      exact ⟨K2, d6, d7, hK2, e2⟩
theorem least_drop {P : List Str} {x : Nat} (hx : x < (colsT P).length) : (colsT P).drop x = (colsT P)[x] :: (colsT P).drop (x + 1) := List.drop_eq_getElem_cons hx
theorem noE_isc {n h : Nat} {C : List (List Int)} (hh : 1 ≤ h) (hC : ∀ c ∈ C, isCol n h c) : noE C = true := by
  unfold noE
  refine List.all_eq_true.mpr fun c hc => ?_
  have := (hC c hc).1
  cases c with
  | nil => rw [List.length_nil] at this; omega
  | cons a r => rfl
theorem beh_col {L : Str} {T : List (List Int)} {one : List Int} {tx : Option Str} {h : Nat} (ho : one.length = h) : ∀ c ∈ behP L T one tx, isCol L.length h c := fun c hc => by
  obtain ⟨h1, h2, _⟩ := behP_iff.mp hc
  refine ⟨by omega, fun x hx => ?_⟩
  obtain ⟨k, hk, e⟩ := List.getElem_of_mem hx
  obtain ⟨m, g1, g2, _⟩ := h2 k (by omega)
  refine ⟨m, ?_, g2⟩
  rw [← g1, List.getD_eq_getElem?_getD, List.getElem?_eq_getElem hk, Option.getD_some, e]
theorem least_step {L : Str} {T : List (List Int)} {P : List Str} (hL : L.length ≤ 4) (hP : good P = true) {rec : IOS} {x : Nat} (hx : x < (colsT P).length) (hrec : okLeast L T P rec (x + 1)) {jj : Nat} (er : rec = sem_law_least jj) : okLeast L T P (sem_law_least (jj + 1)) x := by
  intro a w0 one K hw hone hK
  obtain ⟨g1, g2, g3, g4, g5, g6⟩ := good_cols hP
  have hol : one.length = P.length := by
    rcases hone with e | e
    · rw [e, List.length_replicate]
    · exact e.1
  obtain ⟨r0, rest, eP⟩ : ∃ r0 rest, P = r0 :: rest := by
    cases P with
    | nil => cases hP
    | cons r q => exact ⟨r, q, rfl⟩
  have hwid : r0.length = (colsT P).length := (colsT_len eP).symm
  have ix0 : ixD (picD P) (.int 0) = some (.str r0) := by rw [eP]; exact pic_ix
  have len0 : lenD [.str r0] = some (.int ((colsT P).length : Int)) := by rw [QY.len_str (lim1 (by omega)), hwid]
  have lenw : lenD [lstD (w0 ++ [one])] = some (.int ((x : Int) + 1)) := by
    unfold lstD tupsD
    rw [len_lst, List.length_map, List.length_append, hw]
    rfl
  have ew : (x : Int) + 1 - 1 = (x : Int) := by omega
  have wl := way_last (w0 := w0) (one := one)
  have ik := in_g pk_ok (K := K) (t := (x, one))
  have ik : inE false (.tup [.int (x : Int), tupD one]) (.dct (K.map pkD) (trues K)) = some (.bl (decide ((x, one) ∈ K))) := ik.trans (congrArg (fun b => some (D.bl b)) (decide_eq_decide.mpr Iff.rfl))
  rw [at_law_least, ← er]; unfold m_law_least
  simp only [sSeq_ap, sSet_ap, sSetX_ap, sRet_ap, sRetX_ap, sDrop_ap, sIf_ap, sFor_ap, sNx_ap, sBk_ap, sCt_ap, sRetN_ap, sRaise_ap, e1_ap, e2_ap, e3_ap, eVar_0, eVar_s, eVarB_0, eVarB_s, eVarB_0o, eCon_ap, eCallB_ap, eCall_ap, eCallF_ap, eMeth_ap, aCons_ap, aNil_ap, eIter_ap, eIf_ap, eAnd_ap, eOr_ap, eNot_ap, eLst_ap, eTup_ap, bNot_ap, bAnd_ap, bOr_ap, tst_ap, tru_ap, R.bind_ok, R.of_some, rbd_ok, rbd_ex, obd_nx, obd_rt, obd_ex, obd_bk, obd_ct, scnd_t, scnd_f, cnd_t, cnd_f, cnd_or, cnd_and, bl_t, tru_bl, tru_non, ty_str, ty_lst, List.set_cons_zero, List.set_cons_succ, addI, subI, negI, ltI, leI, gtI, geI, eqI, neI, chain3_bb, chain3_t, chain3_f, fin_nx, fin_rt, fin_ex, sFz_ap, frzs_cons, frzs_nil, frz_s, frz_0z, frz_0o, frz_0n, bX_int, bX_str, bX_bl, bX_non, bX_lst, bX_tup, R.bind_ex, decT, decF, Int.reduceEq, Int.reduceLT, Int.reduceLE, Int.reduceAdd, Int.reduceSub, Int.reduceMul, List.length_cons, List.length_nil, Nat.reduceAdd, if_pos, lenw, ew, ix0, len0, decide_eq_false (show ¬ ((x : Int) = ((colsT P).length : Int)) by omega), wl, if_pos (show 2 ≤ LIM by decide)]
  rw [show eVarD 3 [.fz (sysD L T), .fz (picD P), .fz (lstD (w0 ++ [one])), .ow (.dat a (K.map pkD) (trues K)), .fz (.int (x : Int)), .no, .no, .no, .no] = .ok (.dct (K.map pkD) (trues K)) from rfl]
  simp only [sSeq_ap, sSet_ap, sSetX_ap, sRet_ap, sRetX_ap, sDrop_ap, sIf_ap, sFor_ap, sNx_ap, sBk_ap, sCt_ap, sRetN_ap, sRaise_ap, e1_ap, e2_ap, e3_ap, eVar_0, eVar_s, eVarB_0, eVarB_s, eVarB_0o, eCon_ap, eCallB_ap, eCall_ap, eCallF_ap, eMeth_ap, aCons_ap, aNil_ap, eIter_ap, eIf_ap, eAnd_ap, eOr_ap, eNot_ap, eLst_ap, eTup_ap, bNot_ap, bAnd_ap, bOr_ap, tst_ap, tru_ap, R.bind_ok, R.of_some, rbd_ok, rbd_ex, obd_nx, obd_rt, obd_ex, obd_bk, obd_ct, scnd_t, scnd_f, cnd_t, cnd_f, cnd_or, cnd_and, bl_t, tru_bl, tru_non, ty_str, ty_lst, List.set_cons_zero, List.set_cons_succ, addI, subI, negI, ltI, leI, gtI, geI, eqI, neI, chain3_bb, chain3_t, chain3_f, fin_nx, fin_rt, fin_ex, sFz_ap, frzs_cons, frzs_nil, frz_s, frz_0z, frz_0o, frz_0n, bX_int, bX_str, bX_bl, bX_non, bX_lst, bX_tup, R.bind_ex, decT, decF, Int.reduceEq, Int.reduceLT, Int.reduceLE, Int.reduceAdd, Int.reduceSub, Int.reduceMul, List.length_cons, List.length_nil, Nat.reduceAdd, if_pos, ik]
  by_cases hin : (x, one) ∈ K
  · rw [decide_eq_true hin, scnd_t]
    obtain ⟨_, _, hn⟩ := hK.all _ hin
    refine ⟨K, hK, ?_⟩
    rw [show leastP L T ((colsT P).drop x) one = none from hn]
    exact if_pos rfl
  · rw [decide_eq_false hin, scnd_f]
    have htx : (colsT P)[x].length = one.length := by rw [g5 _ (List.getElem_mem hx), hol]
    have sc := sem_column (L := L) (T := T) (one := one) (tx := (colsT P)[x]) (r := decide ((x : Int) + 1 = ((colsT P).length : Int))) (by omega) htx (by omega)
    have hcol : ∀ c ∈ behP L T one (some (colsT P)[x]), isCol L.length P.length c := beh_col hol
    have ef : ((behP L T one (some (colsT P)[x])).filter fun c => !decide ((x : Int) + 1 = ((colsT P).length : Int)) || lastP T c) = (behP L T one (some (colsT P)[x])).filter fun c => !((colsT P).drop (x + 1)).isEmpty || endP T c := by
      refine List.filter_congr fun c hc => ?_
      have h1 : lastP T c = endP T c := by rw [last_same rfl]; rfl
      have h2 : decide ((x : Int) + 1 = ((colsT P).length : Int)) = ((colsT P).drop (x + 1)).isEmpty := by
        rw [Bool.eq_iff_iff, decide_eq_true_eq, List.isEmpty_iff, List.drop_eq_nil_iff]
        omega
      rw [h1, h2]
    rw [ef] at sc
    have hcol2 : ∀ c ∈ (behP L T one (some (colsT P)[x])).filter (fun c => !((colsT P).drop (x + 1)).isEmpty || endP T c), isCol L.length P.length c := fun c hc => hcol c (List.mem_filter.mp hc).1
    have ss := sorted_lst (noE_isc g1 hcol2)
    have hcol3 : ∀ c ∈ sortI ((behP L T one (some (colsT P)[x])).filter (fun c => !((colsT P).drop (x + 1)).isEmpty || endP T c)), isCol L.length P.length c := fun c hc => hcol2 c ((sortI_perm _).mem_iff.mp hc)
    have le : leastP L T ((colsT P).drop x) one = (sortI ((behP L T one (some (colsT P)[x])).filter (fun c => !((colsT P).drop (x + 1)).isEmpty || endP T c))).findSome? fun c => (leastP L T ((colsT P).drop (x + 1)) c).map fun r => c :: r := by rw [least_drop hx]; rfl
    generalize sortI ((behP L T one (some (colsT P)[x])).filter (fun c => !((colsT P).drop (x + 1)).isEmpty || endP T c)) = C at ss hcol3 le
    have lt : ∀ b5 b6 b7 b8 : B, eMeth "str" joinD (eCon (.str "")) (aCons (eLc (eIter (eVar 1)) (.nm 8) (fun _ => .ok true) (m_law_least_C1 rec) [8]) aNil) [.fz (sysD L T), .fz (picD P), .fz (lstD (w0 ++ [one])), .ow (.dat a (K.map pkD) (trues K)), .fz (.int (x : Int)), b5, b6, b7, b8] = .ok (.str (colsT P)[x]) := fun b5 b6 b7 b8 => by
      rw [colsT_get hx]
      exact col_of (x := x) (fun r hr => ⟨by rw [g6 r hr]; exact hx, by rw [g6 r hr]; omega⟩) (by omega) (by simp [wipeB, pic_items]) fun s => by simp [m_law_least_C1, wipeB]
    obtain ⟨K1, c6, c7, hK1, e1⟩ := least_loop (L := L) (T := T) (P := P) (rec := rec) (w0 := w0) (one := one) (a := a) (by omega) (by rw [hw]; exact hrec) (b4 := .fz (.int (x : Int))) (b5 := .fz (.str (colsT P)[x])) (b8 := .no) C K .no .no hcol3 hK
    rw [hw, ← le] at e1
    rw [obd_nx, sSeq_ap, sSet_ap, lt, rbd_ok]
    simp only [sSeq_ap, sSet_ap, sSetX_ap, sRet_ap, sRetX_ap, sDrop_ap, sIf_ap, sFor_ap, sNx_ap, sBk_ap, sCt_ap, sRetN_ap, sRaise_ap, e1_ap, e2_ap, e3_ap, eVar_0, eVar_s, eVarB_0, eVarB_s, eVarB_0o, eCon_ap, eCallB_ap, eCall_ap, eCallF_ap, eMeth_ap, aCons_ap, aNil_ap, eIter_ap, eIf_ap, eAnd_ap, eOr_ap, eNot_ap, eLst_ap, eTup_ap, bNot_ap, bAnd_ap, bOr_ap, tst_ap, tru_ap, R.bind_ok, R.of_some, rbd_ok, rbd_ex, obd_nx, obd_rt, obd_ex, obd_bk, obd_ct, scnd_t, scnd_f, cnd_t, cnd_f, cnd_or, cnd_and, bl_t, tru_bl, tru_non, ty_str, ty_lst, List.set_cons_zero, List.set_cons_succ, addI, subI, negI, ltI, leI, gtI, geI, eqI, neI, chain3_bb, chain3_t, chain3_f, fin_nx, fin_rt, fin_ex, sFz_ap, frzs_cons, frzs_nil, frz_s, frz_0z, frz_0o, frz_0n, bX_int, bX_str, bX_bl, bX_non, bX_lst, bX_tup, R.bind_ex, decT, decF, Int.reduceEq, Int.reduceLT, Int.reduceLE, Int.reduceAdd, Int.reduceSub, Int.reduceMul, List.length_cons, List.length_nil, Nat.reduceAdd, if_pos, wl, ix0, len0, sc, ss, items_lst]
    have e1 : forO (Tgt.nm 6) (m_law_least_L2 rec) (tupsD C) [.fz (sysD L T), .fz (picD P), .fz (lstD (w0 ++ [one])), .ow (.dat a (K.map pkD) (trues K)), .fz (.int (x : Int)), .fz (.str (colsT P)[x]), .no, .no, .no] = _ := e1
    rw [e1]
    cases hr : leastP L T ((colsT P).drop x) one with
    | some r => exact ⟨K1, hK1, if_pos rfl⟩
    | none =>
      have hl := hK1.len hL (by omega) (by omega)
      have pe := putE_g pk_ok (K := K1) (t := (x, one)) (by omega)
      have pe : putE (K1.map pkD) (trues K1) (.tup [.int (x : Int), tupD one]) (.bl true) = some ((insG K1 (x, one)).map pkD, trues (insG K1 (x, one))) := pe
      refine ⟨insG K1 (x, one), hK1.ins hx hone hr, ?_⟩
      simp only [envL]
      simp only [sSeq_ap, sSet_ap, sSetX_ap, sRet_ap, sRetX_ap, sDrop_ap, sIf_ap, sFor_ap, sNx_ap, sBk_ap, sCt_ap, sRetN_ap, sRaise_ap, e1_ap, e2_ap, e3_ap, eVar_0, eVar_s, eVarB_0, eVarB_s, eVarB_0o, eCon_ap, eCallB_ap, eCall_ap, eCallF_ap, eMeth_ap, aCons_ap, aNil_ap, eIter_ap, eIf_ap, eAnd_ap, eOr_ap, eNot_ap, eLst_ap, eTup_ap, bNot_ap, bAnd_ap, bOr_ap, tst_ap, tru_ap, R.bind_ok, R.of_some, rbd_ok, rbd_ex, obd_nx, obd_rt, obd_ex, obd_bk, obd_ct, scnd_t, scnd_f, cnd_t, cnd_f, cnd_or, cnd_and, bl_t, tru_bl, tru_non, ty_str, ty_lst, List.set_cons_zero, List.set_cons_succ, addI, subI, negI, ltI, leI, gtI, geI, eqI, neI, chain3_bb, chain3_t, chain3_f, fin_nx, fin_rt, fin_ex, sFz_ap, frzs_cons, frzs_nil, frz_s, frz_0z, frz_0o, frz_0n, bX_int, bX_str, bX_bl, bX_non, bX_lst, bX_tup, R.bind_ex, decT, decF, Int.reduceEq, Int.reduceLT, Int.reduceLE, Int.reduceAdd, Int.reduceSub, Int.reduceMul, List.length_cons, List.length_nil, Nat.reduceAdd, if_pos, sPutD_ap, wl, if_pos (show 2 ≤ LIM by decide)]
      simp only [datD, List.getElem?_cons_succ, List.getElem?_cons_zero]
      simp only [sSeq_ap, sSet_ap, sSetX_ap, sRet_ap, sRetX_ap, sDrop_ap, sIf_ap, sFor_ap, sNx_ap, sBk_ap, sCt_ap, sRetN_ap, sRaise_ap, e1_ap, e2_ap, e3_ap, eVar_0, eVar_s, eVarB_0, eVarB_s, eVarB_0o, eCon_ap, eCallB_ap, eCall_ap, eCallF_ap, eMeth_ap, aCons_ap, aNil_ap, eIter_ap, eIf_ap, eAnd_ap, eOr_ap, eNot_ap, eLst_ap, eTup_ap, bNot_ap, bAnd_ap, bOr_ap, tst_ap, tru_ap, R.bind_ok, R.of_some, rbd_ok, rbd_ex, obd_nx, obd_rt, obd_ex, obd_bk, obd_ct, scnd_t, scnd_f, cnd_t, cnd_f, cnd_or, cnd_and, bl_t, tru_bl, tru_non, ty_str, ty_lst, List.set_cons_zero, List.set_cons_succ, addI, subI, negI, ltI, leI, gtI, geI, eqI, neI, chain3_bb, chain3_t, chain3_f, fin_nx, fin_rt, fin_ex, sFz_ap, frzs_cons, frzs_nil, frz_s, frz_0z, frz_0o, frz_0n, bX_int, bX_str, bX_bl, bX_non, bX_lst, bX_tup, R.bind_ex, decT, decF, Int.reduceEq, Int.reduceLT, Int.reduceLE, Int.reduceAdd, Int.reduceSub, Int.reduceMul, List.length_cons, List.length_nil, Nat.reduceAdd, if_pos, wl, if_pos (show 2 ≤ LIM by decide), pe, optP, sRetW_ap]
      exact if_pos rfl
theorem least_end {L : Str} {T : List (List Int)} {P : List Str} (hP : good P = true) {jj : Nat} : okLeast L T P (sem_law_least (jj + 1)) (colsT P).length := by
  intro a w0 one K hw hone hK
  obtain ⟨g1, g2, g3, g4, g5, g6⟩ := good_cols hP
  obtain ⟨r0, rest, eP⟩ : ∃ r0 rest, P = r0 :: rest := by
    cases P with
    | nil => cases hP
    | cons r q => exact ⟨r, q, rfl⟩
  have hwid : r0.length = (colsT P).length := (colsT_len eP).symm
  have ix0 : ixD (picD P) (.int 0) = some (.str r0) := by rw [eP]; exact pic_ix
  have len0 : lenD [.str r0] = some (.int ((colsT P).length : Int)) := by rw [QY.len_str (lim1 (by omega)), hwid]
  have lenw : lenD [lstD (w0 ++ [one])] = some (.int (((colsT P).length : Int) + 1)) := by
    unfold lstD tupsD
    rw [len_lst, List.length_map, List.length_append, hw]
    rfl
  have ew : ((colsT P).length : Int) + 1 - 1 = ((colsT P).length : Int) := by omega
  refine ⟨K, hK, ?_⟩
  rw [at_law_least]; unfold m_law_least
  simp only [sSeq_ap, sSet_ap, sSetX_ap, sRet_ap, sRetX_ap, sDrop_ap, sIf_ap, sFor_ap, sNx_ap, sBk_ap, sCt_ap, sRetN_ap, sRaise_ap, e1_ap, e2_ap, e3_ap, eVar_0, eVar_s, eVarB_0, eVarB_s, eVarB_0o, eCon_ap, eCallB_ap, eCall_ap, eCallF_ap, eMeth_ap, aCons_ap, aNil_ap, eIter_ap, eIf_ap, eAnd_ap, eOr_ap, eNot_ap, eLst_ap, eTup_ap, bNot_ap, bAnd_ap, bOr_ap, tst_ap, tru_ap, R.bind_ok, R.of_some, rbd_ok, rbd_ex, obd_nx, obd_rt, obd_ex, obd_bk, obd_ct, scnd_t, scnd_f, cnd_t, cnd_f, cnd_or, cnd_and, bl_t, tru_bl, tru_non, ty_str, ty_lst, List.set_cons_zero, List.set_cons_succ, addI, subI, negI, ltI, leI, gtI, geI, eqI, neI, chain3_bb, chain3_t, chain3_f, fin_nx, fin_rt, fin_ex, sFz_ap, frzs_cons, frzs_nil, frz_s, frz_0z, frz_0o, frz_0n, bX_int, bX_str, bX_bl, bX_non, bX_lst, bX_tup, R.bind_ex, decT, decF, Int.reduceEq, Int.reduceLT, Int.reduceLE, Int.reduceAdd, Int.reduceSub, Int.reduceMul, List.length_cons, List.length_nil, Nat.reduceAdd, if_pos, lenw, ew, ix0, len0, decide_eq_true (show ((colsT P).length : Int) = ((colsT P).length : Int) from rfl), sRetW_ap, obd_rw]
  rw [List.drop_length]
  refine (if_pos rfl).trans ?_
  show some (lstD (w0 ++ [one]), _, _) = some (lstD (w0 ++ [one] ++ []), _, _)
  rw [List.append_nil]
theorem least_all {L : Str} {T : List (List Int)} {P : List Str} (hL : L.length ≤ 4) (hP : good P = true) : ∀ (m jj x : Nat), x + m = (colsT P).length → m ≤ jj → okLeast L T P (sem_law_least (jj + 1)) x
  | 0, jj, x, hx, hj => by
    rw [Nat.add_zero] at hx
    subst hx
    exact least_end hP
  | m + 1, jj, x, hx, hj => by
    obtain ⟨j, rfl⟩ : ∃ j, jj = j + 1 := ⟨jj - 1, by omega⟩
    exact least_step hL hP (by omega) (least_all hL hP m j (x + 1) (by omega) (by omega)) rfl
theorem io_least {L : Str} {T : List (List Int)} {P : List Str} (hL : L.length ≤ 4) (hP : good P = true) (hw : (colsT P).length ≤ 7) : ioR (sem_law_least 8) [sysD L T, picD P, lstD [List.replicate P.length (-1)]] = .ok (resL [List.replicate P.length (-1)] (leastP L T (colsT P) (List.replicate P.length (-1)))) := by
  refine ioR_eq fun p => ?_
  obtain ⟨K', _, e⟩ := least_all (T := T) hL hP (colsT P).length 7 0 (by omega) hw p [] (List.replicate P.length (-1)) [] rfl (.inl rfl) ⟨List.nodup_nil, fun p hp => by cases hp⟩
  exact ⟨_, _, e⟩

end K10

namespace K10
open PySem PySem.Spec PyProof.Rows L2 QY
theorem ab_chk {L : Str} {T : List (List Int)} (h3 : L.length ≤ 3) (ha : ab L = true) (hc : chk L.length none T = true) : okSys L T = true := by
  unfold okSys
  rw [decide_eq_true (show L.length ≤ 16 by omega), ab_lets ha, hc]; rfl
theorem list_pic {P : List Str} : listD [picD P] = some (picD P) := rfl
theorem mulE_edge {h : Nat} (h1 : 1 ≤ h) (hh : h ≤ 1000) : mulE (.tup [.int (-1)]) (.int (h : Int)) = some (tupD (List.replicate h (-1))) := by
  by_cases e : h = 1
  · subst e; rfl
  · have e2 : mulE (.tup [.int (-1)]) (.int (h : Int)) = mulD (.tup [.int (-1)]) (.int (h : Int)) := by
      unfold mulE
      split
      · rename_i q1 q2
        exact absurd (D.int.inj q2) (by omega)
      · rfl
    rw [e2]
    show (if ([D.int (-1)]).isEmpty = false ∧ 2 ≤ (h : Int) ∧ (h : Int) ≤ 1000 ∧ ([D.int (-1)]).length ≤ 1000 then some (D.tup (List.replicate (h : Int).toNat [D.int (-1)]).flatten) else none) = _
    rw [if_pos ⟨rfl, by omega, by omega, by decide⟩, Int.toNat_natCast, rep_lst]
    unfold tupD
    rw [List.map_replicate]
theorem ne_grid {G : List (List Int)} : neD (gridD G) (gridD G) = some (.bl false) := by
  have := enc_ne (enc_lst (enc_lst enc_int)) (by decide) (a := G) (b := G)
  rw [decide_eq_true rfl] at this
  exact this
theorem sl_tail {E : List Int} {cs : List (List Int)} : slD (lstD ([E] ++ cs)) (some 1) none = some (lstD cs) := by
  show some (D.lst (cutL (tupsD (E :: cs)) (some ((1 : Nat) : Int)) none)) = _
  unfold cutL
  rw [HT.sIx_nat, HT.sIx_none]
  have e : (tupsD (E :: cs)).length = cs.length + 1 := by unfold tupsD; rw [List.length_map, List.length_cons]
  rw [e, Nat.min_eq_left (by omega)]
  show some (D.lst ((tupsD cs).take cs.length)) = _
  rw [List.take_of_length_le (by unfold tupsD; rw [List.length_map]; exact Nat.le_refl _)]
theorem law_pic {ns : List Int} {L : Str} {T : List (List Int)} (hL1 : 1 ≤ L.length) (hL : L.length ≤ 3) (hab : ab L = true) (ok : okSys L T = true) (hT : T.length < 1000000) {k : Nat} (hk : k < 4) {b3 b4 b5 b6 b7 b8 b9 b10 : B} : ∃ c3 c4 c5 c6 c7 c8 c9 c10,
    m_law_L3 [.fz (.scr ns), .fz (sysD L T), .fz (.int (k : Int)), b3, b4, b5, b6, b7, b8, b9, b10] = .nx [.fz (.scr ns), .fz (sysD L T), .fz (.int (k : Int)), c3, c4, c5, c6, c7, c8, c9, c10] := by
  obtain ⟨h, eh, h1, h2⟩ := mixR ns (200 + (k : Int)) (m := 3) (by decide)
  have eh : 1 + mixZ ns (200 + (k : Int)) % 3 = (h : Int) := eh
  obtain ⟨w, ew, w1, w2⟩ := mixR ns (210 + (k : Int)) (m := 4) (by decide)
  have ew : 1 + mixZ ns (210 + (k : Int)) % 4 = (w : Int) := ew
  obtain ⟨c, ec, hc⟩ := modN (mixZ ns (205 + (k : Int))) (m := 2) (by decide)
  have ec : mixZ ns (205 + (k : Int)) % 2 = (c : Int) := ec
  have hA : ∃ A : Str, ixD (.lst [.str L, .str "ab"]) (.int (c : Int)) = some (.str A) ∧ 1 ≤ A.length ∧ A.length ≤ 1000 ∧ ab A = true := by
    have : c = 0 ∨ c = 1 := by omega
    rcases this with rfl | rfl
    · exact ⟨L, rfl, hL1, by omega, hab⟩
    · exact ⟨"ab", rfl, by decide, by decide, by decide⟩
  obtain ⟨A, eA, a1, a2, a3⟩ := hA
  obtain ⟨P, eP, p1, p2⟩ := sem_picture (ns := ns) (k := 220 + 30 * (k : Int)) (h := h) (w := w) a1 a2 a3 (by omega) (by omega)
  have hP := good_pic p1 h1 (by omega) w1 (by omega) p2
  obtain ⟨g1, g2, g3, g4, g5, g6⟩ := good_cols hP
  have hcw : (colsT P).length = w := by
    cases P with
    | nil => cases hP
    | cons r0 rest => rw [← g6 r0 (by simp)]; exact (p2 r0 (by simp)).1
  have io := io_least (T := T) (show L.length ≤ 4 by omega) hP (by omega)
  have le := lets_ok (T := T) (show L.length ≤ 4 by omega) hL1 ok hT hP
  rw [p1] at io le
  have me := mulE_edge (h := h) h1 (by omega)
  unfold m_law_L3
  simp only [sSeq_ap, sSet_ap, sSetX_ap, sRet_ap, sRetX_ap, sDrop_ap, sIf_ap, sFor_ap, sNx_ap, sBk_ap, sCt_ap, sRetN_ap, sRaise_ap, e1_ap, e2_ap, e3_ap, eVar_0, eVar_s, eVarB_0, eVarB_s, eVarB_0o, eCon_ap, eCallB_ap, eCall_ap, eCallF_ap, eMeth_ap, aCons_ap, aNil_ap, eIter_ap, eIf_ap, eAnd_ap, eOr_ap, eNot_ap, eLst_ap, eTup_ap, bNot_ap, bAnd_ap, bOr_ap, tst_ap, tru_ap, R.bind_ok, R.of_some, rbd_ok, rbd_ex, obd_nx, obd_rt, obd_ex, obd_bk, obd_ct, scnd_t, scnd_f, cnd_t, cnd_f, cnd_or, cnd_and, bl_t, tru_bl, tru_non, ty_str, ty_lst, List.set_cons_zero, List.set_cons_succ, addI, subI, negI, ltI, leI, gtI, geI, eqI, neI, chain3_bb, chain3_t, chain3_f, fin_nx, fin_rt, fin_ex, sFz_ap, frzs_cons, frzs_nil, frz_s, frz_0z, frz_0o, frz_0n, bX_int, bX_str, bX_bl, bX_non, bX_lst, bX_tup, R.bind_ex, decT, decF, Int.reduceEq, Int.reduceLT, Int.reduceLE, Int.reduceAdd, Int.reduceSub, Int.reduceMul, List.length_cons, List.length_nil, Nat.reduceAdd, if_pos, fmix, modI (show (0 : Int) < 3 by decide), eh, modI (show (0 : Int) < 4 by decide), ew, mulI' (show -(2 ^ 64) < (30 : Int) ∧ (30 : Int) < 2 ^ 64 by decide), sys_0, if_pos (show 2 ≤ LIM by decide), modI (show (0 : Int) < 2 by decide), ec, eA, eP, show bX (picD P) = .ow (picD P) from rfl]
  simp only [sSeq_ap, sSet_ap, sSetX_ap, sRet_ap, sRetX_ap, sDrop_ap, sIf_ap, sFor_ap, sNx_ap, sBk_ap, sCt_ap, sRetN_ap, sRaise_ap, e1_ap, e2_ap, e3_ap, eVar_0, eVar_s, eVarB_0, eVarB_s, eVarB_0o, eCon_ap, eCallB_ap, eCall_ap, eCallF_ap, eMeth_ap, aCons_ap, aNil_ap, eIter_ap, eIf_ap, eAnd_ap, eOr_ap, eNot_ap, eLst_ap, eTup_ap, bNot_ap, bAnd_ap, bOr_ap, tst_ap, tru_ap, R.bind_ok, R.of_some, rbd_ok, rbd_ex, obd_nx, obd_rt, obd_ex, obd_bk, obd_ct, scnd_t, scnd_f, cnd_t, cnd_f, cnd_or, cnd_and, bl_t, tru_bl, tru_non, ty_str, ty_lst, List.set_cons_zero, List.set_cons_succ, addI, subI, negI, ltI, leI, gtI, geI, eqI, neI, chain3_bb, chain3_t, chain3_f, fin_nx, fin_rt, fin_ex, sFz_ap, frzs_cons, frzs_nil, frz_s, frz_0z, frz_0o, frz_0n, bX_int, bX_str, bX_bl, bX_non, bX_lst, bX_tup, R.bind_ex, decT, decF, Int.reduceEq, Int.reduceLT, Int.reduceLE, Int.reduceAdd, Int.reduceSub, Int.reduceMul, List.length_cons, List.length_nil, Nat.reduceAdd, if_pos, eCallIO_ap, me, if_pos (show 1 ≤ LIM by decide), list_pic, le]
  have io : ioR (sem_law_least 8) [sysD L T, picD P, .lst [tupD (List.replicate h (-1))]] = _ := io
  rw [io]
  cases hr : leastP L T (colsT P) (List.replicate h (-1)) with
  | none =>
    simp only [hr] at le
    simp only [resL]
    simp only [sSeq_ap, sSet_ap, sSetX_ap, sRet_ap, sRetX_ap, sDrop_ap, sIf_ap, sFor_ap, sNx_ap, sBk_ap, sCt_ap, sRetN_ap, sRaise_ap, e1_ap, e2_ap, e3_ap, eVar_0, eVar_s, eVarB_0, eVarB_s, eVarB_0o, eCon_ap, eCallB_ap, eCall_ap, eCallF_ap, eMeth_ap, aCons_ap, aNil_ap, eIter_ap, eIf_ap, eAnd_ap, eOr_ap, eNot_ap, eLst_ap, eTup_ap, bNot_ap, bAnd_ap, bOr_ap, tst_ap, tru_ap, R.bind_ok, R.of_some, rbd_ok, rbd_ex, obd_nx, obd_rt, obd_ex, obd_bk, obd_ct, scnd_t, scnd_f, cnd_t, cnd_f, cnd_or, cnd_and, bl_t, tru_bl, tru_non, ty_str, ty_lst, List.set_cons_zero, List.set_cons_succ, addI, subI, negI, ltI, leI, gtI, geI, eqI, neI, chain3_bb, chain3_t, chain3_f, fin_nx, fin_rt, fin_ex, sFz_ap, frzs_cons, frzs_nil, frz_s, frz_0z, frz_0o, frz_0n, bX_int, bX_str, bX_bl, bX_non, bX_lst, bX_tup, R.bind_ex, decT, decF, Int.reduceEq, Int.reduceLT, Int.reduceLE, Int.reduceAdd, Int.reduceSub, Int.reduceMul, List.length_cons, List.length_nil, Nat.reduceAdd, if_pos, list_pic, le, show isD false .non .non = some (.bl true) from rfl, show neD .non .non = some (.bl false) from rfl]
    exact ⟨_, _, _, _, _, _, _, _, rfl⟩
  | some cs =>
    simp only [hr] at le
    simp only [resL]
    obtain ⟨s1, s2, s3⟩ := shows_least hP (by rw [p1]; exact hr)
    rw [p1] at s1 s3
    have l1 : ∀ b5 b7 b8 b9 b10 : B, eLc (eRng (aCons (eVar 3) aNil)) (.nm 9) (fun _ => .ok true) m_law_C2 [9] [.fz (.scr ns), .fz (sysD L T), .fz (.int (k : Int)), .fz (.int (h : Int)), .fz (.int (w : Int)), b5, .fz (lstD ([List.replicate h (-1)] ++ cs)), b7, b8, b9, b10] = .ok (gridD (transp h cs)) := fun b5 b7 b8 b9 b10 => by
      have hr2 : eRng (aCons (eVar 3) aNil) [.fz (.scr ns), .fz (sysD L T), .fz (.int (k : Int)), .fz (.int (h : Int)), .fz (.int (w : Int)), b5, .fz (lstD ([List.replicate h (-1)] ++ cs)), b7, b8, b9, b10] = .ok ((List.range h).map fun (i : Nat) => .int (i : Int)) := rngE1 (by simp only [sSeq_ap, sSet_ap, sSetX_ap, sRet_ap, sRetX_ap, sDrop_ap, sIf_ap, sFor_ap, sNx_ap, sBk_ap, sCt_ap, sRetN_ap, sRaise_ap, e1_ap, e2_ap, e3_ap, eVar_0, eVar_s, eVarB_0, eVarB_s, eVarB_0o, eCon_ap, eCallB_ap, eCall_ap, eCallF_ap, eMeth_ap, aCons_ap, aNil_ap, eIter_ap, eIf_ap, eAnd_ap, eOr_ap, eNot_ap, eLst_ap, eTup_ap, bNot_ap, bAnd_ap, bOr_ap, tst_ap, tru_ap, R.bind_ok, R.of_some, rbd_ok, rbd_ex, obd_nx, obd_rt, obd_ex, obd_bk, obd_ct, scnd_t, scnd_f, cnd_t, cnd_f, cnd_or, cnd_and, bl_t, tru_bl, tru_non, ty_str, ty_lst, List.set_cons_zero, List.set_cons_succ, addI, subI, negI, ltI, leI, gtI, geI, eqI, neI, chain3_bb, chain3_t, chain3_f, fin_nx, fin_rt, fin_ex, sFz_ap, frzs_cons, frzs_nil, frz_s, frz_0z, frz_0o, frz_0n, bX_int, bX_str, bX_bl, bX_non, bX_lst, bX_tup, R.bind_ex, decT, decF]) (by omega)
      have l3 := lc_range (i := 9) (elt := m_law_C2) (vs := [9]) (g := fun y => rowD' (cs.map fun c => c.getD y 0)) hr2 (by omega) (fun y hy => by
        have l4 := lc_gen (it := eIter (eSl (eVarB 6) (some (eCon (.int (1)))) none)) (t := .nm 10) (tt := fun _ => .ok true) (elt := m_law_C1) (vs := [10]) (ρ := [.fz (.scr ns), .fz (sysD L T), .fz (.int (k : Int)), .fz (.int (h : Int)), .fz (.int (w : Int)), b5, .fz (lstD ([List.replicate h (-1)] ++ cs)), b7, b8, .fz (.int (y : Int)), b10]) (f := tupD) (g := fun c => .int (c.getD y 0)) (p := fun _ => true) (A := cs)
          (by simp only [sSeq_ap, sSet_ap, sSetX_ap, sRet_ap, sRetX_ap, sDrop_ap, sIf_ap, sFor_ap, sNx_ap, sBk_ap, sCt_ap, sRetN_ap, sRaise_ap, e1_ap, e2_ap, e3_ap, eVar_0, eVar_s, eVarB_0, eVarB_s, eVarB_0o, eCon_ap, eCallB_ap, eCall_ap, eCallF_ap, eMeth_ap, aCons_ap, aNil_ap, eIter_ap, eIf_ap, eAnd_ap, eOr_ap, eNot_ap, eLst_ap, eTup_ap, bNot_ap, bAnd_ap, bOr_ap, tst_ap, tru_ap, R.bind_ok, R.of_some, rbd_ok, rbd_ex, obd_nx, obd_rt, obd_ex, obd_bk, obd_ct, scnd_t, scnd_f, cnd_t, cnd_f, cnd_or, cnd_and, bl_t, tru_bl, tru_non, ty_str, ty_lst, List.set_cons_zero, List.set_cons_succ, addI, subI, negI, ltI, leI, gtI, geI, eqI, neI, chain3_bb, chain3_t, chain3_f, fin_nx, fin_rt, fin_ex, sFz_ap, frzs_cons, frzs_nil, frz_s, frz_0z, frz_0o, frz_0n, bX_int, bX_str, bX_bl, bX_non, bX_lst, bX_tup, R.bind_ex, decT, decF, Int.reduceEq, Int.reduceLT, Int.reduceLE, Int.reduceAdd, Int.reduceSub, Int.reduceMul, List.length_cons, List.length_nil, Nat.reduceAdd, if_pos, eSl_ap, oPart_n, oPart_s, int_q, sl_tail, items_lst]; rfl) (by omega) (fun c hc => ⟨_, rfl, rfl, fun _ => by
            unfold m_law_C1
            simp only [sSeq_ap, sSet_ap, sSetX_ap, sRet_ap, sRetX_ap, sDrop_ap, sIf_ap, sFor_ap, sNx_ap, sBk_ap, sCt_ap, sRetN_ap, sRaise_ap, e1_ap, e2_ap, e3_ap, eVar_0, eVar_s, eVarB_0, eVarB_s, eVarB_0o, eCon_ap, eCallB_ap, eCall_ap, eCallF_ap, eMeth_ap, aCons_ap, aNil_ap, eIter_ap, eIf_ap, eAnd_ap, eOr_ap, eNot_ap, eLst_ap, eTup_ap, bNot_ap, bAnd_ap, bOr_ap, tst_ap, tru_ap, R.bind_ok, R.of_some, rbd_ok, rbd_ex, obd_nx, obd_rt, obd_ex, obd_bk, obd_ct, scnd_t, scnd_f, cnd_t, cnd_f, cnd_or, cnd_and, bl_t, tru_bl, tru_non, ty_str, ty_lst, List.set_cons_zero, List.set_cons_succ, addI, subI, negI, ltI, leI, gtI, geI, eqI, neI, chain3_bb, chain3_t, chain3_f, fin_nx, fin_rt, fin_ex, sFz_ap, frzs_cons, frzs_nil, frz_s, frz_0z, frz_0o, frz_0n, bX_int, bX_str, bX_bl, bX_non, bX_lst, bX_tup, R.bind_ex, decT, decF, Int.reduceEq, Int.reduceLT, Int.reduceLE, Int.reduceAdd, Int.reduceSub, Int.reduceMul, List.length_cons, List.length_nil, Nat.reduceAdd, if_pos, wipeB, ix_tupD (show y < c.length by rw [s3 c hc]; exact hy)]⟩)
        rw [List.filter_eq_self.mpr (fun _ _ => rfl)] at l4
        unfold m_law_C2
        simp only [sSeq_ap, sSet_ap, sSetX_ap, sRet_ap, sRetX_ap, sDrop_ap, sIf_ap, sFor_ap, sNx_ap, sBk_ap, sCt_ap, sRetN_ap, sRaise_ap, e1_ap, e2_ap, e3_ap, eVar_0, eVar_s, eVarB_0, eVarB_s, eVarB_0o, eCon_ap, eCallB_ap, eCall_ap, eCallF_ap, eMeth_ap, aCons_ap, aNil_ap, eIter_ap, eIf_ap, eAnd_ap, eOr_ap, eNot_ap, eLst_ap, eTup_ap, bNot_ap, bAnd_ap, bOr_ap, tst_ap, tru_ap, R.bind_ok, R.of_some, rbd_ok, rbd_ex, obd_nx, obd_rt, obd_ex, obd_bk, obd_ct, scnd_t, scnd_f, cnd_t, cnd_f, cnd_or, cnd_and, bl_t, tru_bl, tru_non, ty_str, ty_lst, List.set_cons_zero, List.set_cons_succ, addI, subI, negI, ltI, leI, gtI, geI, eqI, neI, chain3_bb, chain3_t, chain3_f, fin_nx, fin_rt, fin_ex, sFz_ap, frzs_cons, frzs_nil, frz_s, frz_0z, frz_0o, frz_0n, bX_int, bX_str, bX_bl, bX_non, bX_lst, bX_tup, R.bind_ex, decT, decF, Int.reduceEq, Int.reduceLT, Int.reduceLE, Int.reduceAdd, Int.reduceSub, Int.reduceMul, List.length_cons, List.length_nil, Nat.reduceAdd, if_pos, wipeB]
        rw [l4]
        unfold rowD'
        rw [List.map_map]; rfl)
      rw [l3]
      unfold gridD transp
      rw [List.map_map]; rfl
    have fs := fshows (T := T) (G := transp h cs) (show L.length ≤ 16 by omega) ok hT hP (by rw [tr_len]; omega) (fun r hr => by rw [tr_rect.h r hr]; omega)
    rw [s1] at fs
    have le : sem_lets [sysD L T, picD P] = .ok (gridD (transp h cs)) := le
    simp only [sSeq_ap, sSet_ap, sSetX_ap, sRet_ap, sRetX_ap, sDrop_ap, sIf_ap, sFor_ap, sNx_ap, sBk_ap, sCt_ap, sRetN_ap, sRaise_ap, e1_ap, e2_ap, e3_ap, eVar_0, eVar_s, eVarB_0, eVarB_s, eVarB_0o, eCon_ap, eCallB_ap, eCall_ap, eCallF_ap, eMeth_ap, aCons_ap, aNil_ap, eIter_ap, eIf_ap, eAnd_ap, eOr_ap, eNot_ap, eLst_ap, eTup_ap, bNot_ap, bAnd_ap, bOr_ap, tst_ap, tru_ap, R.bind_ok, R.of_some, rbd_ok, rbd_ex, obd_nx, obd_rt, obd_ex, obd_bk, obd_ct, scnd_t, scnd_f, cnd_t, cnd_f, cnd_or, cnd_and, bl_t, tru_bl, tru_non, ty_str, ty_lst, List.set_cons_zero, List.set_cons_succ, addI, subI, negI, ltI, leI, gtI, geI, eqI, neI, chain3_bb, chain3_t, chain3_f, fin_nx, fin_rt, fin_ex, sFz_ap, frzs_cons, frzs_nil, frz_s, frz_0z, frz_0o, frz_0n, bX_int, bX_str, bX_bl, bX_non, bX_lst, bX_tup, R.bind_ex, decT, decF, Int.reduceEq, Int.reduceLT, Int.reduceLE, Int.reduceAdd, Int.reduceSub, Int.reduceMul, List.length_cons, List.length_nil, Nat.reduceAdd, if_pos, list_pic, le, show bX (gridD (transp h cs)) = .ow (gridD (transp h cs)) from rfl, show isD false (lstD ([List.replicate h (-1)] ++ cs)) .non = some (.bl false) from rfl, show isD false (gridD (transp h cs)) .non = some (.bl false) from rfl]
    simp only [sSeq_ap, sSet_ap, sSetX_ap, sRet_ap, sRetX_ap, sDrop_ap, sIf_ap, sFor_ap, sNx_ap, sBk_ap, sCt_ap, sRetN_ap, sRaise_ap, e1_ap, e2_ap, e3_ap, eVar_0, eVar_s, eVarB_0, eVarB_s, eVarB_0o, eCon_ap, eCallB_ap, eCall_ap, eCallF_ap, eMeth_ap, aCons_ap, aNil_ap, eIter_ap, eIf_ap, eAnd_ap, eOr_ap, eNot_ap, eLst_ap, eTup_ap, bNot_ap, bAnd_ap, bOr_ap, tst_ap, tru_ap, R.bind_ok, R.of_some, rbd_ok, rbd_ex, obd_nx, obd_rt, obd_ex, obd_bk, obd_ct, scnd_t, scnd_f, cnd_t, cnd_f, cnd_or, cnd_and, bl_t, tru_bl, tru_non, ty_str, ty_lst, List.set_cons_zero, List.set_cons_succ, addI, subI, negI, ltI, leI, gtI, geI, eqI, neI, chain3_bb, chain3_t, chain3_f, fin_nx, fin_rt, fin_ex, sFz_ap, frzs_cons, frzs_nil, frz_s, frz_0z, frz_0o, frz_0n, bX_int, bX_str, bX_bl, bX_non, bX_lst, bX_tup, R.bind_ex, decT, decF, Int.reduceEq, Int.reduceLT, Int.reduceLE, Int.reduceAdd, Int.reduceSub, Int.reduceMul, List.length_cons, List.length_nil, Nat.reduceAdd, if_pos, l1, show bX (gridD (transp h cs)) = .ow (gridD (transp h cs)) from rfl, ne_grid, fs]
    rw [show (false && true) = false from rfl, scnd_f, show (false || !true) = false from rfl, scnd_f, obd_nx, sSeq_ap, app_any (A := (transp h cs).map rowD') (d := .lst []) rfl (by simp only [sSeq_ap, sSet_ap, sSetX_ap, sRet_ap, sRetX_ap, sDrop_ap, sIf_ap, sFor_ap, sNx_ap, sBk_ap, sCt_ap, sRetN_ap, sRaise_ap, e1_ap, e2_ap, e3_ap, eVar_0, eVar_s, eVarB_0, eVarB_s, eVarB_0o, eCon_ap, eCallB_ap, eCall_ap, eCallF_ap, eMeth_ap, aCons_ap, aNil_ap, eIter_ap, eIf_ap, eAnd_ap, eOr_ap, eNot_ap, eLst_ap, eTup_ap, bNot_ap, bAnd_ap, bOr_ap, tst_ap, tru_ap, R.bind_ok, R.of_some, rbd_ok, rbd_ex, obd_nx, obd_rt, obd_ex, obd_bk, obd_ct, scnd_t, scnd_f, cnd_t, cnd_f, cnd_or, cnd_and, bl_t, tru_bl, tru_non, ty_str, ty_lst, List.set_cons_zero, List.set_cons_succ, addI, subI, negI, ltI, leI, gtI, geI, eqI, neI, chain3_bb, chain3_t, chain3_f, fin_nx, fin_rt, fin_ex, sFz_ap, frzs_cons, frzs_nil, frz_s, frz_0z, frz_0o, frz_0n, bX_int, bX_str, bX_bl, bX_non, bX_lst, bX_tup, R.bind_ex, decT, decF, Int.reduceEq, Int.reduceLT, Int.reduceLE, Int.reduceAdd, Int.reduceSub, Int.reduceMul, List.length_cons, List.length_nil, Nat.reduceAdd, if_pos, if_pos (Nat.zero_le LIM)]) (by rw [List.length_map, tr_len]; omega), obd_nx, sNx_ap, obd_nx, sNx_ap]
    exact ⟨_, _, _, _, _, _, _, _, rfl⟩
theorem law_pics {ns : List Int} {L : Str} {T : List (List Int)} (hL1 : 1 ≤ L.length) (hL : L.length ≤ 3) (hab : ab L = true) (ok : okSys L T = true) (hT : T.length < 1000000) : ∀ (ks : List Nat) (b2 b3 b4 b5 b6 b7 b8 b9 b10 : B), (∀ k ∈ ks, k < 4) → ∃ c2 c3 c4 c5 c6 c7 c8 c9 c10,
    forO (.nm 2) m_law_L3 (ks.map fun (i : Nat) => .int (i : Int)) [.fz (.scr ns), .fz (sysD L T), b2, b3, b4, b5, b6, b7, b8, b9, b10] = .nx [.fz (.scr ns), .fz (sysD L T), c2, c3, c4, c5, c6, c7, c8, c9, c10]
  | [], b2, b3, b4, b5, b6, b7, b8, b9, b10, _ => ⟨b2, b3, b4, b5, b6, b7, b8, b9, b10, rfl⟩
  | k :: ks, b2, b3, b4, b5, b6, b7, b8, b9, b10, h => by
    obtain ⟨c3, c4, c5, c6, c7, c8, c9, c10, e1⟩ := law_pic (ns := ns) hL1 hL hab ok hT (h k (by simp)) (b3 := b3) (b4 := b4) (b5 := b5) (b6 := b6) (b7 := b7) (b8 := b8) (b9 := b9) (b10 := b10)
    obtain ⟨d2, d3, d4, d5, d6, d7, d8, d9, d10, e2⟩ := law_pics (ns := ns) hL1 hL hab ok hT ks (.fz (.int (k : Int))) c3 c4 c5 c6 c7 c8 c9 c10 fun q hq => h q (List.mem_cons_of_mem _ hq)
    refine ⟨d2, d3, d4, d5, d6, d7, d8, d9, d10, ?_⟩
    rw [List.map_cons, forO_nm]
    simp only [List.set_cons_zero, List.set_cons_succ]
    rw [e1, loopO_nx, e2]
theorem sem_law_ok (ns : List Int) (_ : ns.length ≤ 63) : sem_law [.scr ns] = .ok (.bl true) := by
  obtain ⟨L, T, eS, hL1, hL, hab, hchk, hT⟩ := sem_system (ns := ns) (k := 0) (m := 3) (by decide) (by decide)
  have eS : sem_law_system [.scr ns, .int 0, .int 3] = .ok (sysD L T) := eS
  have ok := ab_chk hL hab hchk
  obtain ⟨d2, d3, d4, d5, d6, d7, d8, d9, d10, e⟩ := law_pics (ns := ns) hL1 hL hab ok (by omega) (List.range 4) .no .no .no .no .no .no .no .no .no fun k hk => List.mem_range.mp hk
  rw [at_law]; unfold m_law
  simp only [sSeq_ap, sSet_ap, sSetX_ap, sRet_ap, sRetX_ap, sDrop_ap, sIf_ap, sFor_ap, sNx_ap, sBk_ap, sCt_ap, sRetN_ap, sRaise_ap, e1_ap, e2_ap, e3_ap, eVar_0, eVar_s, eVarB_0, eVarB_s, eVarB_0o, eCon_ap, eCallB_ap, eCall_ap, eCallF_ap, eMeth_ap, aCons_ap, aNil_ap, eIter_ap, eIf_ap, eAnd_ap, eOr_ap, eNot_ap, eLst_ap, eTup_ap, bNot_ap, bAnd_ap, bOr_ap, tst_ap, tru_ap, R.bind_ok, R.of_some, rbd_ok, rbd_ex, obd_nx, obd_rt, obd_ex, obd_bk, obd_ct, scnd_t, scnd_f, cnd_t, cnd_f, cnd_or, cnd_and, bl_t, tru_bl, tru_non, ty_str, ty_lst, List.set_cons_zero, List.set_cons_succ, addI, subI, negI, ltI, leI, gtI, geI, eqI, neI, chain3_bb, chain3_t, chain3_f, fin_nx, fin_rt, fin_ex, sFz_ap, frzs_cons, frzs_nil, frz_s, frz_0z, frz_0o, frz_0n, bX_int, bX_str, bX_bl, bX_non, bX_lst, bX_tup, R.bind_ex, decT, decF, Int.reduceEq, Int.reduceLT, Int.reduceLE, Int.reduceAdd, Int.reduceSub, Int.reduceMul, List.length_cons, List.length_nil, Nat.reduceAdd, if_pos, eS]
  have hr : ∀ b2 b3 b4 b5 b6 b7 b8 b9 b10 : B, eRng (aCons (eCon (.int (4))) aNil) [.fz (.scr ns), .fz (sysD L T), b2, b3, b4, b5, b6, b7, b8, b9, b10] = .ok ((List.range 4).map fun (i : Nat) => .int (i : Int)) := fun b2 b3 b4 b5 b6 b7 b8 b9 b10 => rngE1 (j := 4) (by simp only [sSeq_ap, sSet_ap, sSetX_ap, sRet_ap, sRetX_ap, sDrop_ap, sIf_ap, sFor_ap, sNx_ap, sBk_ap, sCt_ap, sRetN_ap, sRaise_ap, e1_ap, e2_ap, e3_ap, eVar_0, eVar_s, eVarB_0, eVarB_s, eVarB_0o, eCon_ap, eCallB_ap, eCall_ap, eCallF_ap, eMeth_ap, aCons_ap, aNil_ap, eIter_ap, eIf_ap, eAnd_ap, eOr_ap, eNot_ap, eLst_ap, eTup_ap, bNot_ap, bAnd_ap, bOr_ap, tst_ap, tru_ap, R.bind_ok, R.of_some, rbd_ok, rbd_ex, obd_nx, obd_rt, obd_ex, obd_bk, obd_ct, scnd_t, scnd_f, cnd_t, cnd_f, cnd_or, cnd_and, bl_t, tru_bl, tru_non, ty_str, ty_lst, List.set_cons_zero, List.set_cons_succ, addI, subI, negI, ltI, leI, gtI, geI, eqI, neI, chain3_bb, chain3_t, chain3_f, fin_nx, fin_rt, fin_ex, sFz_ap, frzs_cons, frzs_nil, frz_s, frz_0z, frz_0o, frz_0n, bX_int, bX_str, bX_bl, bX_non, bX_lst, bX_tup, R.bind_ex, decT, decF]; rfl) (by decide)
  rw [hr, rbd_ok, e]
  simp only [sSeq_ap, sSet_ap, sSetX_ap, sRet_ap, sRetX_ap, sDrop_ap, sIf_ap, sFor_ap, sNx_ap, sBk_ap, sCt_ap, sRetN_ap, sRaise_ap, e1_ap, e2_ap, e3_ap, eVar_0, eVar_s, eVarB_0, eVarB_s, eVarB_0o, eCon_ap, eCallB_ap, eCall_ap, eCallF_ap, eMeth_ap, aCons_ap, aNil_ap, eIter_ap, eIf_ap, eAnd_ap, eOr_ap, eNot_ap, eLst_ap, eTup_ap, bNot_ap, bAnd_ap, bOr_ap, tst_ap, tru_ap, R.bind_ok, R.of_some, rbd_ok, rbd_ex, obd_nx, obd_rt, obd_ex, obd_bk, obd_ct, scnd_t, scnd_f, cnd_t, cnd_f, cnd_or, cnd_and, bl_t, tru_bl, tru_non, ty_str, ty_lst, List.set_cons_zero, List.set_cons_succ, addI, subI, negI, ltI, leI, gtI, geI, eqI, neI, chain3_bb, chain3_t, chain3_f, fin_nx, fin_rt, fin_ex, sFz_ap, frzs_cons, frzs_nil, frz_s, frz_0z, frz_0o, frz_0n, bX_int, bX_str, bX_bl, bX_non, bX_lst, bX_tup, R.bind_ex, decT, decF, Int.reduceEq, Int.reduceLT, Int.reduceLE, Int.reduceAdd, Int.reduceSub, Int.reduceMul, List.length_cons, List.length_nil, Nat.reduceAdd, if_pos]
end K10

namespace K10
open PySem PySem.Spec PyProof.Rows L2 QY
theorem ne_of_beq_false {a b : Nat} (h : (a == b) = false) : a ≠ b := fun z => by rw [z] at h; simp at h
theorem all_mk {P : Program} {w : World} {K : PySem.W.Frag} {h : Heap} {mg : Str → Option Value} {fa e0 e1 e2 e3 : Addr} (KX : K.In h) (G : h.Ns mainGlobals mg) (hfa : mg "law" = some (.ref fa))
    {C0 : Addr}
    {f0 : Addr} {od0 an0 : Option Addr} {sl0 : Array (Option Value)} {oc0 kV0 dc0 pm0 cd0 ct0 : Value}
    {f1 : Addr} {od1 an1 : Option Addr} {sl1 : Array (Option Value)} {oc1 kV1 dc1 pm1 cd1 ct1 : Value}
    {f2 : Addr} {od2 an2 : Option Addr} {sl2 : Array (Option Value)} {oc2 kV2 dc2 pm2 cd2 ct2 : Value}
    {f3 : Addr} {od3 an3 : Option Addr} {sl3 : Array (Option Value)} {oc3 kV3 dc3 pm3 cd3 ct3 : Value}
    {f4 : Addr} {od4 an4 : Option Addr} {sl4 : Array (Option Value)} {oc4 kV4 dc4 pm4 cd4 ct4 : Value}
    {f5 : Addr} {od5 an5 : Option Addr} {sl5 : Array (Option Value)} {oc5 kV5 dc5 pm5 cd5 ct5 : Value}
    {f6 : Addr} {od6 an6 : Option Addr} {sl6 : Array (Option Value)} {oc6 kV6 dc6 pm6 cd6 ct6 : Value}
    {f7 : Addr} {od7 an7 : Option Addr} {sl7 : Array (Option Value)} {oc7 kV7 dc7 pm7 cd7 ct7 : Value}
    {f8 : Addr} {od8 an8 : Option Addr} {sl8 : Array (Option Value)} {oc8 kV8 dc8 pm8 cd8 ct8 : Value}
    {f9 : Addr} {od9 an9 : Option Addr} {sl9 : Array (Option Value)} {oc9 kV9 dc9 pm9 cd9 ct9 : Value}
    {f10 : Addr} {od10 an10 : Option Addr} {sl10 : Array (Option Value)} {oc10 kV10 dc10 pm10 cd10 ct10 : Value}
    {f11 : Addr} {od11 an11 : Option Addr} {sl11 : Array (Option Value)} {oc11 kV11 dc11 pm11 cd11 ct11 : Value}
    {f12 : Addr} {od12 an12 : Option Addr} {sl12 : Array (Option Value)} {oc12 kV12 dc12 pm12 cd12 ct12 : Value}
    {f13 : Addr} {od13 an13 : Option Addr} {sl13 : Array (Option Value)} {oc13 kV13 dc13 pm13 cd13 ct13 : Value}
    {f14 : Addr} {od14 an14 : Option Addr} {sl14 : Array (Option Value)} {oc14 kV14 dc14 pm14 cd14 ct14 : Value}
    {f15 : Addr} {od15 an15 : Option Addr} {sl15 : Array (Option Value)} {oc15 kV15 dc15 pm15 cd15 ct15 : Value}
    {f16 : Addr} {od16 an16 : Option Addr} {sl16 : Array (Option Value)} {oc16 kV16 dc16 pm16 cd16 ct16 : Value}
    {f17 : Addr} {od17 an17 : Option Addr} {sl17 : Array (Option Value)} {oc17 kV17 dc17 pm17 cd17 ct17 : Value}
    {f18 : Addr} {od18 an18 : Option Addr} {sl18 : Array (Option Value)} {oc18 kV18 dc18 pm18 cd18 ct18 : Value}
    {f19 : Addr} {od19 an19 : Option Addr} {sl19 : Array (Option Value)} {oc19 kV19 dc19 pm19 cd19 ct19 : Value}
    {f20 : Addr} {od20 an20 : Option Addr} {sl20 : Array (Option Value)} {oc20 kV20 dc20 pm20 cd20 ct20 : Value}
    {f21 : Addr} {od21 an21 : Option Addr} {sl21 : Array (Option Value)} {oc21 kV21 dc21 pm21 cd21 ct21 : Value}
    {f22 : Addr} {od22 an22 : Option Addr} {sl22 : Array (Option Value)} {oc22 kV22 dc22 pm22 cd22 ct22 : Value}
    {f23 : Addr} {od23 an23 : Option Addr} {sl23 : Array (Option Value)} {oc23 kV23 dc23 pm23 cd23 ct23 : Value}
    {f24 : Addr} {od24 an24 : Option Addr} {sl24 : Array (Option Value)} {oc24 kV24 dc24 pm24 cd24 ct24 : Value}
    {t_BORDER : Tok}
    {t_LETTERS : Tok}
    {t_MOST_HIGH : Tok}
    {t_MOST_MARKS : Tok}
    {t_MOST_WIDE : Tok}
    (aC0 : PySem.W.nsIn K mainGlobals "Walk" = some (some (.ref C0)))
    (a0 : PySem.W.nsIn K mainGlobals "_wall" = some (some (.ref f0)))
    (l0 : K.lookup f0 = some ⟨oc0, od0, .func (PySem.W.fnOf "_wall" "_wall" (defArgs st__wall) (defBody st__wall) (defScope st__wall) .none kV0 dc0 pm0 an0 cd0 ct0), sl0⟩)
    (c0 : PySem.W.codeIn K cd0 "_wall" = true)
    (k0 : PySem.W.keepIn K (.ref f0) = true)
    (a1 : PySem.W.nsIn K mainGlobals "look_picture" = some (some (.ref f1)))
    (l1 : K.lookup f1 = some ⟨oc1, od1, .func (PySem.W.fnOf "look_picture" "look_picture" (defArgs st_look_picture) (defBody st_look_picture) (defScope st_look_picture) .none kV1 dc1 pm1 an1 cd1 ct1), sl1⟩)
    (c1 : PySem.W.codeIn K cd1 "look_picture" = true)
    (k1 : PySem.W.keepIn K (.ref f1) = true)
    (a2 : PySem.W.nsIn K mainGlobals "columns_of" = some (some (.ref f2)))
    (l2 : K.lookup f2 = some ⟨oc2, od2, .func (PySem.W.fnOf "columns_of" "columns_of" (defArgs st_columns_of) (defBody st_columns_of) (defScope st_columns_of) .none kV2 dc2 pm2 an2 cd2 ct2), sl2⟩)
    (c2 : PySem.W.codeIn K cd2 "columns_of" = true)
    (k2 : PySem.W.keepIn K (.ref f2) = true)
    (a3 : PySem.W.nsIn K mainGlobals "look_system" = some (some (.ref f3)))
    (l3 : K.lookup f3 = some ⟨oc3, od3, .func (PySem.W.fnOf "look_system" "look_system" (defArgs st_look_system) (defBody st_look_system) (defScope st_look_system) .none kV3 dc3 pm3 an3 cd3 ct3), sl3⟩)
    (c3 : PySem.W.codeIn K cd3 "look_system" = true)
    (k3 : PySem.W.keepIn K (.ref f3) = true)
    (a4 : PySem.W.nsIn K mainGlobals "framed" = some (some (.ref f4)))
    (l4 : K.lookup f4 = some ⟨oc4, od4, .func (PySem.W.fnOf "framed" "framed" (defArgs st_framed) (defBody st_framed) (defScope st_framed) .none kV4 dc4 pm4 an4 cd4 ct4), sl4⟩)
    (c4 : PySem.W.codeIn K cd4 "framed" = true)
    (k4 : PySem.W.keepIn K (.ref f4) = true)
    (a5 : PySem.W.nsIn K mainGlobals "tiles_in" = some (some (.ref f5)))
    (l5 : K.lookup f5 = some ⟨oc5, od5, .func (PySem.W.fnOf "tiles_in" "tiles_in" (defArgs st_tiles_in) (defBody st_tiles_in) (defScope st_tiles_in) .none kV5 dc5 pm5 an5 cd5 ct5), sl5⟩)
    (c5 : PySem.W.codeIn K cd5 "tiles_in" = true)
    (k5 : PySem.W.keepIn K (.ref f5) = true)
    (a6 : PySem.W.nsIn K mainGlobals "shows" = some (some (.ref f6)))
    (l6 : K.lookup f6 = some ⟨oc6, od6, .func (PySem.W.fnOf "shows" "shows" (defArgs st_shows) (defBody st_shows) (defScope st_shows) .none kV6 dc6 pm6 an6 cd6 ct6), sl6⟩)
    (c6 : PySem.W.codeIn K cd6 "shows" = true)
    (k6 : PySem.W.keepIn K (.ref f6) = true)
    (a7 : PySem.W.findIn K (.ref C0) "__init__" = some (some (.ref f7)))
    (i7 : PySem.W.isFn K (.ref f7) = true)
    (l7 : K.lookup f7 = some ⟨oc7, od7, .func (PySem.W.fnOf "__init__" "Walk.__init__" (defArgs st_Walk_init) (defBody st_Walk_init) (defScope st_Walk_init) .none kV7 dc7 pm7 an7 cd7 ct7), sl7⟩)
    (c7 : PySem.W.codeIn K cd7 "Walk.__init__" = true)
    (k7 : PySem.W.keepIn K (.ref f7) = true)
    (a8 : PySem.W.findIn K (.ref C0) "fits" = some (some (.ref f8)))
    (i8 : PySem.W.isFn K (.ref f8) = true)
    (l8 : K.lookup f8 = some ⟨oc8, od8, .func (PySem.W.fnOf "fits" "Walk.fits" (defArgs st_Walk_fits) (defBody st_Walk_fits) (defScope st_Walk_fits) .none kV8 dc8 pm8 an8 cd8 ct8), sl8⟩)
    (c8 : PySem.W.codeIn K cd8 "Walk.fits" = true)
    (k8 : PySem.W.keepIn K (.ref f8) = true)
    (a9 : PySem.W.findIn K (.ref C0) "behind" = some (some (.ref f9)))
    (i9 : PySem.W.isFn K (.ref f9) = true)
    (l9 : K.lookup f9 = some ⟨oc9, od9, .func (PySem.W.fnOf "behind" "Walk.behind" (defArgs st_Walk_behind) (defBody st_Walk_behind) (defScope st_Walk_behind) .none kV9 dc9 pm9 an9 cd9 ct9), sl9⟩)
    (c9 : PySem.W.codeIn K cd9 "Walk.behind" = true)
    (k9 : PySem.W.keepIn K (.ref f9) = true)
    (a10 : PySem.W.findIn K (.ref C0) "ends" = some (some (.ref f10)))
    (i10 : PySem.W.isFn K (.ref f10) = true)
    (l10 : K.lookup f10 = some ⟨oc10, od10, .func (PySem.W.fnOf "ends" "Walk.ends" (defArgs st_Walk_ends) (defBody st_Walk_ends) (defScope st_Walk_ends) .none kV10 dc10 pm10 an10 cd10 ct10), sl10⟩)
    (c10 : PySem.W.codeIn K cd10 "Walk.ends" = true)
    (k10 : PySem.W.keepIn K (.ref f10) = true)
    (a11 : PySem.W.findIn K (.ref C0) "text" = some (some (.ref f11)))
    (i11 : PySem.W.isFn K (.ref f11) = true)
    (l11 : K.lookup f11 = some ⟨oc11, od11, .func (PySem.W.fnOf "text" "Walk.text" (defArgs st_Walk_text) (defBody st_Walk_text) (defScope st_Walk_text) .none kV11 dc11 pm11 an11 cd11 ct11), sl11⟩)
    (c11 : PySem.W.codeIn K cd11 "Walk.text" = true)
    (k11 : PySem.W.keepIn K (.ref f11) = true)
    (a12 : PySem.W.findIn K (.ref C0) "step" = some (some (.ref f12)))
    (i12 : PySem.W.isFn K (.ref f12) = true)
    (l12 : K.lookup f12 = some ⟨oc12, od12, .func (PySem.W.fnOf "step" "Walk.step" (defArgs st_Walk_step) (defBody st_Walk_step) (defScope st_Walk_step) .none kV12 dc12 pm12 an12 cd12 ct12), sl12⟩)
    (c12 : PySem.W.codeIn K cd12 "Walk.step" = true)
    (k12 : PySem.W.keepIn K (.ref f12) = true)
    (a13 : PySem.W.findIn K (.ref C0) "texts" = some (some (.ref f13)))
    (i13 : PySem.W.isFn K (.ref f13) = true)
    (l13 : K.lookup f13 = some ⟨oc13, od13, .func (PySem.W.fnOf "texts" "Walk.texts" (defArgs st_Walk_texts) (defBody st_Walk_texts) (defScope st_Walk_texts) .none kV13 dc13 pm13 an13 cd13 ct13), sl13⟩)
    (c13 : PySem.W.codeIn K cd13 "Walk.texts" = true)
    (k13 : PySem.W.keepIn K (.ref f13) = true)
    (a14 : PySem.W.findIn K (.ref C0) "is_end" = some (some (.ref f14)))
    (i14 : PySem.W.isFn K (.ref f14) = true)
    (l14 : K.lookup f14 = some ⟨oc14, od14, .func (PySem.W.fnOf "is_end" "Walk.is_end" (defArgs st_Walk_is_end) (defBody st_Walk_is_end) (defScope st_Walk_is_end) .none kV14 dc14 pm14 an14 cd14 ct14), sl14⟩)
    (c14 : PySem.W.codeIn K cd14 "Walk.is_end" = true)
    (k14 : PySem.W.keepIn K (.ref f14) = true)
    (a15 : PySem.W.nsIn K mainGlobals "lets" = some (some (.ref f15)))
    (l15 : K.lookup f15 = some ⟨oc15, od15, .func (PySem.W.fnOf "lets" "lets" (defArgs st_lets) (defBody st_lets) (defScope st_lets) .none kV15 dc15 pm15 an15 cd15 ct15), sl15⟩)
    (c15 : PySem.W.codeIn K cd15 "lets" = true)
    (k15 : PySem.W.keepIn K (.ref f15) = true)
    (a16 : PySem.W.nsIn K mainGlobals "_law_cell" = some (some (.ref f16)))
    (l16 : K.lookup f16 = some ⟨oc16, od16, .func (PySem.W.fnOf "_law_cell" "_law_cell" (defArgs st_law_cell) (defBody st_law_cell) (defScope st_law_cell) .none kV16 dc16 pm16 an16 cd16 ct16), sl16⟩)
    (c16 : PySem.W.codeIn K cd16 "_law_cell" = true)
    (k16 : PySem.W.keepIn K (.ref f16) = true)
    (a17 : PySem.W.nsIn K mainGlobals "_law_mix" = some (some (.ref f17)))
    (l17 : K.lookup f17 = some ⟨oc17, od17, .func (PySem.W.fnOf "_law_mix" "_law_mix" (defArgs st_law_mix) (defBody st_law_mix) (defScope st_law_mix) .none kV17 dc17 pm17 an17 cd17 ct17), sl17⟩)
    (c17 : PySem.W.codeIn K cd17 "_law_mix" = true)
    (k17 : PySem.W.keepIn K (.ref f17) = true)
    (a18 : PySem.W.nsIn K mainGlobals "_law_picture" = some (some (.ref f18)))
    (l18 : K.lookup f18 = some ⟨oc18, od18, .func (PySem.W.fnOf "_law_picture" "_law_picture" (defArgs st_law_picture) (defBody st_law_picture) (defScope st_law_picture) .none kV18 dc18 pm18 an18 cd18 ct18), sl18⟩)
    (c18 : PySem.W.codeIn K cd18 "_law_picture" = true)
    (k18 : PySem.W.keepIn K (.ref f18) = true)
    (a19 : PySem.W.nsIn K mainGlobals "_law_tiles" = some (some (.ref f19)))
    (l19 : K.lookup f19 = some ⟨oc19, od19, .func (PySem.W.fnOf "_law_tiles" "_law_tiles" (defArgs st_law_tiles) (defBody st_law_tiles) (defScope st_law_tiles) .none kV19 dc19 pm19 an19 cd19 ct19), sl19⟩)
    (c19 : PySem.W.codeIn K cd19 "_law_tiles" = true)
    (k19 : PySem.W.keepIn K (.ref f19) = true)
    (a20 : PySem.W.nsIn K mainGlobals "_law_system" = some (some (.ref f20)))
    (l20 : K.lookup f20 = some ⟨oc20, od20, .func (PySem.W.fnOf "_law_system" "_law_system" (defArgs st_law_system) (defBody st_law_system) (defScope st_law_system) .none kV20 dc20 pm20 an20 cd20 ct20), sl20⟩)
    (c20 : PySem.W.codeIn K cd20 "_law_system" = true)
    (k20 : PySem.W.keepIn K (.ref f20) = true)
    (a21 : PySem.W.nsIn K mainGlobals "_law_last" = some (some (.ref f21)))
    (l21 : K.lookup f21 = some ⟨oc21, od21, .func (PySem.W.fnOf "_law_last" "_law_last" (defArgs st_law_last) (defBody st_law_last) (defScope st_law_last) .none kV21 dc21 pm21 an21 cd21 ct21), sl21⟩)
    (c21 : PySem.W.codeIn K cd21 "_law_last" = true)
    (k21 : PySem.W.keepIn K (.ref f21) = true)
    (a22 : PySem.W.nsIn K mainGlobals "_law_column" = some (some (.ref f22)))
    (l22 : K.lookup f22 = some ⟨oc22, od22, .func (PySem.W.fnOf "_law_column" "_law_column" (defArgs st_law_column) (defBody st_law_column) (defScope st_law_column) .none kV22 dc22 pm22 an22 cd22 ct22), sl22⟩)
    (c22 : PySem.W.codeIn K cd22 "_law_column" = true)
    (k22 : PySem.W.keepIn K (.ref f22) = true)
    (a23 : PySem.W.nsIn K mainGlobals "_law_least" = some (some (.ref f23)))
    (l23 : K.lookup f23 = some ⟨oc23, od23, .func (PySem.W.fnOf "_law_least" "_law_least" (defArgs st_law_least) (defBody st_law_least) (defScope st_law_least) .none kV23 dc23 pm23 an23 cd23 ct23), sl23⟩)
    (c23 : PySem.W.codeIn K cd23 "_law_least" = true)
    (k23 : PySem.W.keepIn K (.ref f23) = true)
    (a24 : PySem.W.nsIn K mainGlobals "law" = some (some (.ref f24)))
    (l24 : K.lookup f24 = some ⟨oc24, od24, .func (PySem.W.fnOf "law" "law" (defArgs st_law) (defBody st_law) (defScope st_law) .none kV24 dc24 pm24 an24 cd24 ct24), sl24⟩)
    (c24 : PySem.W.codeIn K cd24 "law" = true)
    (k24 : PySem.W.keepIn K (.ref f24) = true)
    (pg0 : PySem.W.plainGet K C0 Str.empty = true)
    (hD0 : PySem.W.hasDictIn K C0 = true)
    (po0 : PySem.W.plainOver K C0 = true)
    (sA0 : PySem.W.findIn K (.ref C0) "__setattr__" = some (some (.builtin "object.__setattr__")))
    (mk0 : PySem.W.makesIn K C0 = true)
    (kC0 : PySem.W.keepIn K (.ref C0) = true)
    (nF_letters : PySem.W.findIn K (.ref C0) "letters" = some none)
    (nF_tiles : PySem.W.findIn K (.ref C0) "tiles" = some none)
    (nF_edge : PySem.W.findIn K (.ref C0) "edge" = some none)
    (n_all : PySem.W.nsIn K mainGlobals "all" = some none)
    (n_any : PySem.W.nsIn K mainGlobals "any" = some none)
    (n_len : PySem.W.nsIn K mainGlobals "len" = some none)
    (n_list : PySem.W.nsIn K mainGlobals "list" = some none)
    (n_range : PySem.W.nsIn K mainGlobals "range" = some none)
    (n_reversed : PySem.W.nsIn K mainGlobals "reversed" = some none)
    (n_set : PySem.W.nsIn K mainGlobals "set" = some none)
    (n_sorted : PySem.W.nsIn K mainGlobals "sorted" = some none)
    (n_tuple : PySem.W.nsIn K mainGlobals "tuple" = some none)
    (v_BORDER : PySem.W.nsIn K mainGlobals "BORDER" = some (some (.int (-1) t_BORDER)))
    (v_LETTERS : PySem.W.nsIn K mainGlobals "LETTERS" = some (some (.str "abcd" t_LETTERS)))
    (v_MOST_HIGH : PySem.W.nsIn K mainGlobals "MOST_HIGH" = some (some (.int (4) t_MOST_HIGH)))
    (v_MOST_MARKS : PySem.W.nsIn K mainGlobals "MOST_MARKS" = some (some (.int (16) t_MOST_MARKS)))
    (v_MOST_WIDE : PySem.W.nsIn K mainGlobals "MOST_WIDE" = some (some (.int (12) t_MOST_WIDE)))
    (x0 : PySem.W.nsIn K mainGlobals "QuiltError" = some (some (.ref e0)))
    (x1 : PySem.W.nsIn K mainGlobals "BadPicture" = some (some (.ref e1)))
    (x2 : PySem.W.nsIn K mainGlobals "BadSystem" = some (some (.ref e2)))
    (x3 : PySem.W.nsIn K mainGlobals "BadSize" = some (some (.ref e3)))
    (hg0 : PySem.W.findIn K (.ref e0) "__getattribute__" = some (some (.builtin "BaseException.__getattribute__")))
    (hk0 : PySem.W.findIn K (.ref e0) "__getattr__" = some none)
    (hs0 : PySem.W.subIn K (.ref e0) (.type "BaseException") = some true)
    (hd0 : PySem.W.hasDictIn K e0 = true)
    (ha0 : PySem.W.findIn K (.ref e0) "__class__" = some (some (.builtin "object.__class__")))
    (hm0 : PySem.W.mroIn K e0 (.type "object") = some true)
    (kp0 : PySem.W.keepIn K (.ref e0) = true)
    (ty0 : PySem.W.typeIn K (.ref e0) = some (.type "type"))
    (va0 : PySem.W.subIn K (.ref e0) (.type "ValueError") = some true)
    (sb00 : PySem.W.subIn K (.ref e0) (.ref e0) = some true)
    (sb01 : PySem.W.subIn K (.ref e0) (.ref e1) = some false)
    (sb02 : PySem.W.subIn K (.ref e0) (.ref e2) = some false)
    (sb03 : PySem.W.subIn K (.ref e0) (.ref e3) = some false)
    (hg1 : PySem.W.findIn K (.ref e1) "__getattribute__" = some (some (.builtin "BaseException.__getattribute__")))
    (hk1 : PySem.W.findIn K (.ref e1) "__getattr__" = some none)
    (hs1 : PySem.W.subIn K (.ref e1) (.type "BaseException") = some true)
    (hd1 : PySem.W.hasDictIn K e1 = true)
    (ha1 : PySem.W.findIn K (.ref e1) "__class__" = some (some (.builtin "object.__class__")))
    (hm1 : PySem.W.mroIn K e1 (.type "object") = some true)
    (kp1 : PySem.W.keepIn K (.ref e1) = true)
    (ty1 : PySem.W.typeIn K (.ref e1) = some (.type "type"))
    (va1 : PySem.W.subIn K (.ref e1) (.type "ValueError") = some true)
    (sb10 : PySem.W.subIn K (.ref e1) (.ref e0) = some true)
    (sb11 : PySem.W.subIn K (.ref e1) (.ref e1) = some true)
    (sb12 : PySem.W.subIn K (.ref e1) (.ref e2) = some false)
    (sb13 : PySem.W.subIn K (.ref e1) (.ref e3) = some false)
    (hg2 : PySem.W.findIn K (.ref e2) "__getattribute__" = some (some (.builtin "BaseException.__getattribute__")))
    (hk2 : PySem.W.findIn K (.ref e2) "__getattr__" = some none)
    (hs2 : PySem.W.subIn K (.ref e2) (.type "BaseException") = some true)
    (hd2 : PySem.W.hasDictIn K e2 = true)
    (ha2 : PySem.W.findIn K (.ref e2) "__class__" = some (some (.builtin "object.__class__")))
    (hm2 : PySem.W.mroIn K e2 (.type "object") = some true)
    (kp2 : PySem.W.keepIn K (.ref e2) = true)
    (ty2 : PySem.W.typeIn K (.ref e2) = some (.type "type"))
    (va2 : PySem.W.subIn K (.ref e2) (.type "ValueError") = some true)
    (sb20 : PySem.W.subIn K (.ref e2) (.ref e0) = some true)
    (sb21 : PySem.W.subIn K (.ref e2) (.ref e1) = some false)
    (sb22 : PySem.W.subIn K (.ref e2) (.ref e2) = some true)
    (sb23 : PySem.W.subIn K (.ref e2) (.ref e3) = some false)
    (hg3 : PySem.W.findIn K (.ref e3) "__getattribute__" = some (some (.builtin "BaseException.__getattribute__")))
    (hk3 : PySem.W.findIn K (.ref e3) "__getattr__" = some none)
    (hs3 : PySem.W.subIn K (.ref e3) (.type "BaseException") = some true)
    (hd3 : PySem.W.hasDictIn K e3 = true)
    (ha3 : PySem.W.findIn K (.ref e3) "__class__" = some (some (.builtin "object.__class__")))
    (hm3 : PySem.W.mroIn K e3 (.type "object") = some true)
    (kp3 : PySem.W.keepIn K (.ref e3) = true)
    (ty3 : PySem.W.typeIn K (.ref e3) = some (.type "type"))
    (va3 : PySem.W.subIn K (.ref e3) (.type "ValueError") = some true)
    (sb30 : PySem.W.subIn K (.ref e3) (.ref e0) = some true)
    (sb31 : PySem.W.subIn K (.ref e3) (.ref e1) = some false)
    (sb32 : PySem.W.subIn K (.ref e3) (.ref e2) = some false)
    (sb33 : PySem.W.subIn K (.ref e3) (.ref e3) = some true)
    (hn : PySem.W.specialIn K (.builtin "object.__class__") "__get__" = some (some (.builtin "getset_descriptor.__get__")))
    (ht : PySem.W.takesIn K (.builtin "object.__class__") = some true)
    (ex1 : PySem.W.excIn K e1 [.type "ValueError", .type "Exception", .type "BaseException", .type "object"] "ValueError.__new__" = true)
    (ex2 : PySem.W.excIn K e2 [.type "ValueError", .type "Exception", .type "BaseException", .type "object"] "ValueError.__new__" = true)
    (ex3 : PySem.W.excIn K e3 [.type "ValueError", .type "Exception", .type "BaseException", .type "object"] "ValueError.__new__" = true)
    (ne01 : (e0 == e1) = false)
    (ne02 : (e0 == e2) = false)
    (ne03 : (e0 == e3) = false)
    (ne12 : (e1 == e2) = false)
    (ne13 : (e1 == e3) = false)
    (ne23 : (e2 == e3) = false)
    : ∃ fd : FuncData, (∀ (s : Shared) (v : Value), BindsTo s fd ⟨[v], []⟩ [("_law_script", v)]) ∧ ∀ base : Heap, K.In base → base.Ns mainGlobals mg → FnOk P w K mg base (L2.CX P w) 11 fa fd ["_law_script"] (QY.lawSp K) := by
  have e := hfa.symm.trans (PySem.W.mg_of KX G a24)
  cases e
  let κ : Kap := { P := P, w := w, K := K, cls := clA C0 0, fld := flA, exc := exA e0 e1 e2 e3 0 0 }
  have op : ∀ c, okX c = true → c = 0 ∨ c = 1 ∨ c = 2 ∨ c = 3 := fun c hc => by
    have hc : c ∈ [0, 1, 2, 3] := of_decide_eq_true hc
    simp only [List.mem_cons, List.not_mem_nil, or_false] at hc
    exact hc
  have cl : ∀ c, okX c = true → ClsT κ.K (κ.exc c) := fun c hc => by
    rcases op c hc with rfl | rfl | rfl | rfl
    · exact ⟨hg0, hk0, hs0, hd0, ha0, hm0, kp0, ty0, va0⟩
    · exact ⟨hg1, hk1, hs1, hd1, ha1, hm1, kp1, ty1, va1⟩
    · exact ⟨hg2, hk2, hs2, hd2, ha2, hm2, kp2, ty2, va2⟩
    · exact ⟨hg3, hk3, hs3, hd3, ha3, hm3, kp3, ty3, va3⟩
  have sub : ∀ c c', okX c = true → okX c' = true → PySem.W.subIn κ.K (.ref (κ.exc c)) (.ref (κ.exc c')) = some (c == c' || c' == 0) := fun c c' hc hc' => by
    rcases op c hc with rfl | rfl | rfl | rfl <;> rcases op c' hc' with rfl | rfl | rfl | rfl
    · exact sb00
    · exact sb01
    · exact sb02
    · exact sb03
    · exact sb10
    · exact sb11
    · exact sb12
    · exact sb13
    · exact sb20
    · exact sb21
    · exact sb22
    · exact sb23
    · exact sb30
    · exact sb31
    · exact sb32
    · exact sb33
  have inj : ∀ c c', okX c = true → okX c' = true → κ.exc c = κ.exc c' → c = c' := fun c c' hc hc' => by
    rcases op c hc with rfl | rfl | rfl | rfl <;> rcases op c' hc' with rfl | rfl | rfl | rfl
    · exact fun _ => rfl
    · exact fun z => absurd z (ne_of_beq_false ne01)
    · exact fun z => absurd z (ne_of_beq_false ne02)
    · exact fun z => absurd z (ne_of_beq_false ne03)
    · exact fun z => absurd z.symm (ne_of_beq_false ne01)
    · exact fun _ => rfl
    · exact fun z => absurd z (ne_of_beq_false ne12)
    · exact fun z => absurd z (ne_of_beq_false ne13)
    · exact fun z => absurd z.symm (ne_of_beq_false ne02)
    · exact fun z => absurd z.symm (ne_of_beq_false ne12)
    · exact fun _ => rfl
    · exact fun z => absurd z (ne_of_beq_false ne23)
    · exact fun z => absurd z.symm (ne_of_beq_false ne03)
    · exact fun z => absurd z.symm (ne_of_beq_false ne13)
    · exact fun z => absurd z.symm (ne_of_beq_false ne23)
    · exact fun _ => rfl
  have E : Gls κ mg := { F := excF_mkG cl hn ht sub inj, hq := exm_mkG rfl cl sub, cl0 := objF_W rfl rfl pg0 hD0 po0 sA0 nF_letters nF_tiles nF_edge, n_all := PySem.W.mg_none_of KX G n_all, n_any := PySem.W.mg_none_of KX G n_any, n_len := PySem.W.mg_none_of KX G n_len, n_list := PySem.W.mg_none_of KX G n_list, n_range := PySem.W.mg_none_of KX G n_range, n_reversed := PySem.W.mg_none_of KX G n_reversed, n_set := PySem.W.mg_none_of KX G n_set, n_sorted := PySem.W.mg_none_of KX G n_sorted, n_tuple := PySem.W.mg_none_of KX G n_tuple, r_1 := ⟨ex1, kp1, hs1, ty1⟩, r_2 := ⟨ex2, kp2, hs2, ty2⟩, r_3 := ⟨ex3, kp3, hs3, ty3⟩, t_BORDER := ⟨_, PySem.W.mg_of KX G v_BORDER⟩, t_LETTERS := ⟨_, PySem.W.mg_of KX G v_LETTERS⟩, t_MOST_HIGH := ⟨_, PySem.W.mg_of KX G v_MOST_HIGH⟩, t_MOST_MARKS := ⟨_, PySem.W.mg_of KX G v_MOST_MARKS⟩, t_MOST_WIDE := ⟨_, PySem.W.mg_of KX G v_MOST_WIDE⟩, x_BadPicture := PySem.W.mg_of KX G x1, x_BadSize := PySem.W.mg_of KX G x3, x_BadSystem := PySem.W.mg_of KX G x2 }
  have D0 : Fun κ.K "_wall" "_wall" st__wall f0 _ := fun_mk (st := st__wall) l0 c0 k0
  have D1 : Fun κ.K "look_picture" "look_picture" st_look_picture f1 _ := fun_mk (st := st_look_picture) l1 c1 k1
  have D2 : Fun κ.K "columns_of" "columns_of" st_columns_of f2 _ := fun_mk (st := st_columns_of) l2 c2 k2
  have D3 : Fun κ.K "look_system" "look_system" st_look_system f3 _ := fun_mk (st := st_look_system) l3 c3 k3
  have D4 : Fun κ.K "framed" "framed" st_framed f4 _ := fun_mk (st := st_framed) l4 c4 k4
  have D5 : Fun κ.K "tiles_in" "tiles_in" st_tiles_in f5 _ := fun_mk (st := st_tiles_in) l5 c5 k5
  have D6 : Fun κ.K "shows" "shows" st_shows f6 _ := fun_mk (st := st_shows) l6 c6 k6
  have D7 : Fun κ.K "__init__" "Walk.__init__" st_Walk_init f7 _ := fun_mk (st := st_Walk_init) l7 c7 k7
  have D8 : Fun κ.K "fits" "Walk.fits" st_Walk_fits f8 _ := fun_mk (st := st_Walk_fits) l8 c8 k8
  have D9 : Fun κ.K "behind" "Walk.behind" st_Walk_behind f9 _ := fun_mk (st := st_Walk_behind) l9 c9 k9
  have D10 : Fun κ.K "ends" "Walk.ends" st_Walk_ends f10 _ := fun_mk (st := st_Walk_ends) l10 c10 k10
  have D11 : Fun κ.K "text" "Walk.text" st_Walk_text f11 _ := fun_mk (st := st_Walk_text) l11 c11 k11
  have D12 : Fun κ.K "step" "Walk.step" st_Walk_step f12 _ := fun_mk (st := st_Walk_step) l12 c12 k12
  have D13 : Fun κ.K "texts" "Walk.texts" st_Walk_texts f13 _ := fun_mk (st := st_Walk_texts) l13 c13 k13
  have D14 : Fun κ.K "is_end" "Walk.is_end" st_Walk_is_end f14 _ := fun_mk (st := st_Walk_is_end) l14 c14 k14
  have D15 : Fun κ.K "lets" "lets" st_lets f15 _ := fun_mk (st := st_lets) l15 c15 k15
  have D16 : Fun κ.K "_law_cell" "_law_cell" st_law_cell f16 _ := fun_mk (st := st_law_cell) l16 c16 k16
  have D17 : Fun κ.K "_law_mix" "_law_mix" st_law_mix f17 _ := fun_mk (st := st_law_mix) l17 c17 k17
  have D18 : Fun κ.K "_law_picture" "_law_picture" st_law_picture f18 _ := fun_mk (st := st_law_picture) l18 c18 k18
  have D19 : Fun κ.K "_law_tiles" "_law_tiles" st_law_tiles f19 _ := fun_mk (st := st_law_tiles) l19 c19 k19
  have D20 : Fun κ.K "_law_system" "_law_system" st_law_system f20 _ := fun_mk (st := st_law_system) l20 c20 k20
  have D21 : Fun κ.K "_law_last" "_law_last" st_law_last f21 _ := fun_mk (st := st_law_last) l21 c21 k21
  have D22 : Fun κ.K "_law_column" "_law_column" st_law_column f22 _ := fun_mk (st := st_law_column) l22 c22 k22
  have D23 : Fun κ.K "_law_least" "_law_least" st_law_least f23 _ := fun_mk (st := st_law_least) l23 c23 k23
  have D24 : Fun κ.K "law" "law" st_law fa _ := fun_mk (st := st_law) l24 c24 k24
  refine ⟨PySem.W.fnOf "law" "law" (defArgs st_law) (defBody st_law) (defScope st_law) .none kV24 dc24 pm24 an24 cd24 ct24, fun s v => .of_eq rfl, fun base _ _ => ?_⟩
  have F__wall := fc__wall (base := base) E  D0 (PySem.W.mg_of KX G a0)
  have F_look_picture := fc_look_picture (base := base) E  D1 (PySem.W.mg_of KX G a1)
  have F_columns_of := fc_columns_of (base := base) E F_look_picture D2 (PySem.W.mg_of KX G a2)
  have F_look_system := fc_look_system (base := base) E  D3 (PySem.W.mg_of KX G a3)
  have F_framed := fc_framed (base := base) E  D4 (PySem.W.mg_of KX G a4)
  have F_tiles_in := fc_tiles_in (base := base) E F_framed D5 (PySem.W.mg_of KX G a5)
  have F_shows := fc_shows (base := base) E F_look_system F_look_picture F_tiles_in D6 (PySem.W.mg_of KX G a6)
  have F_Walk_init := fc_Walk_init (base := base) E F_look_system D7 ⟨mk0, a7, i7, kC0⟩ (PySem.W.mg_of KX G aC0)
  have F_Walk_fits := fc_Walk_fits (base := base) E  D8 ⟨a8, i8, k8⟩
  have F_Walk_behind := fc_Walk_behind (base := base) E  D9 ⟨a9, i9, k9⟩
  have F_Walk_ends := fc_Walk_ends (base := base) E F_Walk_fits D10 ⟨a10, i10, k10⟩
  have F_Walk_text := fc_Walk_text (base := base) E  D11 ⟨a11, i11, k11⟩
  have F_Walk_step := fc_Walk_step (base := base) E F_Walk_behind D12 ⟨a12, i12, k12⟩
  have F_Walk_texts := fc_Walk_texts (base := base) E F_Walk_behind F_Walk_text D13 ⟨a13, i13, k13⟩
  have F_Walk_is_end := fc_Walk_is_end (base := base) E F__wall D14 ⟨a14, i14, k14⟩
  have F_lets := fc_lets (base := base) E F_look_system F_columns_of F_Walk_init F_Walk_step F_Walk_ends F_Walk_fits D15 (PySem.W.mg_of KX G a15)
  have F_law_cell := fc_law_cell (base := base) E  D16 (PySem.W.mg_of KX G a16)
  have F_law_mix := fc_law_mix (base := base) E F_law_cell D17 (PySem.W.mg_of KX G a17)
  have F_law_picture := fc_law_picture (base := base) E F_law_mix D18 (PySem.W.mg_of KX G a18)
  have F_law_tiles := fc_law_tiles (base := base) E  D19 (PySem.W.mg_of KX G a19)
  have F_law_system := fc_law_system (base := base) E F_law_mix F_law_tiles D20 (PySem.W.mg_of KX G a20)
  have F_law_last := fc_law_last (base := base) E  D21 (PySem.W.mg_of KX G a21)
  have F_law_column := fc_law_column (base := base) E F_law_last D22 (PySem.W.mg_of KX G a22)
  have F_law_least := fc_law_least (base := base) E F_law_column D23 (PySem.W.mg_of KX G a23) 8
  exact law_sp (fk_of D24 sc_law rfl fun X W GG hp T => b_law E F_law_system F_law_mix F_law_picture F_law_least F_lets F_shows GG hp T) fun ns h => sem_law_ok ns h
end K10
open PySem PySem.W PyProof.Rows
set_option maxHeartbeats 0 in
theorem PySem.Challenge.cw_quiltyard_k10_whole_lets_holds : PySem.Challenge.rw_quiltyard_k10_whole_lets.Holds := by
  w_on; o_law; k_head; (case hw => w_witness2)
  k_fill
  refine L2.walk_of (l := PySem.Challenge.rw_quiltyard_k10_whole_lets) (n := 63) (k := 11) (x := "_law_script") (CX := fun w => L2.CX PySem.Challenge.rw_quiltyard_k10_whole_lets.prog w) (sp := fun w => QY.lawSp _) rfl (by decide) rfl ⟨rfl, by decide, by decide⟩ (fun w h Y => PySem.W.kIn_of Y) ?F (fun _ _ a ns hl _ hS => ⟨a, ns, rfl, hl, hS, fun _ _ z => z⟩) (fun _ _ _ _ _ h => QY.cx_end h)
  case F =>
    intro w mg fa h KX G hmg
    refine' K10.all_mk KX G hmg ?aC0 ?a0 ?l0 ?c0 ?k0 ?a1 ?l1 ?c1 ?k1 ?a2 ?l2 ?c2 ?k2 ?a3 ?l3 ?c3 ?k3 ?a4 ?l4 ?c4 ?k4 ?a5 ?l5 ?c5 ?k5 ?a6 ?l6 ?c6 ?k6 ?a7 ?i7 ?l7 ?c7 ?k7 ?a8 ?i8 ?l8 ?c8 ?k8 ?a9 ?i9 ?l9 ?c9 ?k9 ?a10 ?i10 ?l10 ?c10 ?k10 ?a11 ?i11 ?l11 ?c11 ?k11 ?a12 ?i12 ?l12 ?c12 ?k12 ?a13 ?i13 ?l13 ?c13 ?k13 ?a14 ?i14 ?l14 ?c14 ?k14 ?a15 ?l15 ?c15 ?k15 ?a16 ?l16 ?c16 ?k16 ?a17 ?l17 ?c17 ?k17 ?a18 ?l18 ?c18 ?k18 ?a19 ?l19 ?c19 ?k19 ?a20 ?l20 ?c20 ?k20 ?a21 ?l21 ?c21 ?k21 ?a22 ?l22 ?c22 ?k22 ?a23 ?l23 ?c23 ?k23 ?a24 ?l24 ?c24 ?k24 ?pg0 ?hD0 ?po0 ?sA0 ?mk0 ?kC0 ?nF_letters ?nF_tiles ?nF_edge ?n_all ?n_any ?n_len ?n_list ?n_range ?n_reversed ?n_set ?n_sorted ?n_tuple ?v_BORDER ?v_LETTERS ?v_MOST_HIGH ?v_MOST_MARKS ?v_MOST_WIDE ?x0 ?x1 ?x2 ?x3 ?hg0 ?hk0 ?hs0 ?hd0 ?ha0 ?hm0 ?kp0 ?ty0 ?va0 ?sb00 ?sb01 ?sb02 ?sb03 ?hg1 ?hk1 ?hs1 ?hd1 ?ha1 ?hm1 ?kp1 ?ty1 ?va1 ?sb10 ?sb11 ?sb12 ?sb13 ?hg2 ?hk2 ?hs2 ?hd2 ?ha2 ?hm2 ?kp2 ?ty2 ?va2 ?sb20 ?sb21 ?sb22 ?sb23 ?hg3 ?hk3 ?hs3 ?hd3 ?ha3 ?hm3 ?kp3 ?ty3 ?va3 ?sb30 ?sb31 ?sb32 ?sb33 ?hn ?ht ?ex1 ?ex2 ?ex3 ?ne01 ?ne02 ?ne03 ?ne12 ?ne13 ?ne23
    (case aC0 => k_is)
    (case a0 => k_is)
    (case l0 => k_is)
    (case c0 => k_is)
    (case k0 => k_is)
    (case a1 => k_is)
    (case l1 => k_is)
    (case c1 => k_is)
    (case k1 => k_is)
    (case a2 => k_is)
    (case l2 => k_is)
    (case c2 => k_is)
    (case k2 => k_is)
    (case a3 => k_is)
    (case l3 => k_is)
    (case c3 => k_is)
    (case k3 => k_is)
    (case a4 => k_is)
    (case l4 => k_is)
    (case c4 => k_is)
    (case k4 => k_is)
    (case a5 => k_is)
    (case l5 => k_is)
    (case c5 => k_is)
    (case k5 => k_is)
    (case a6 => k_is)
    (case l6 => k_is)
    (case c6 => k_is)
    (case k6 => k_is)
    (case a7 => k_is)
    (case i7 => k_is)
    (case l7 => k_is)
    (case c7 => k_is)
    (case k7 => k_is)
    (case a8 => k_is)
    (case i8 => k_is)
    (case l8 => k_is)
    (case c8 => k_is)
    (case k8 => k_is)
    (case a9 => k_is)
    (case i9 => k_is)
    (case l9 => k_is)
    (case c9 => k_is)
    (case k9 => k_is)
    (case a10 => k_is)
    (case i10 => k_is)
    (case l10 => k_is)
    (case c10 => k_is)
    (case k10 => k_is)
    (case a11 => k_is)
    (case i11 => k_is)
    (case l11 => k_is)
    (case c11 => k_is)
    (case k11 => k_is)
    (case a12 => k_is)
    (case i12 => k_is)
    (case l12 => k_is)
    (case c12 => k_is)
    (case k12 => k_is)
    (case a13 => k_is)
    (case i13 => k_is)
    (case l13 => k_is)
    (case c13 => k_is)
    (case k13 => k_is)
    (case a14 => k_is)
    (case i14 => k_is)
    (case l14 => k_is)
    (case c14 => k_is)
    (case k14 => k_is)
    (case a15 => k_is)
    (case l15 => k_is)
    (case c15 => k_is)
    (case k15 => k_is)
    (case a16 => k_is)
    (case l16 => k_is)
    (case c16 => k_is)
    (case k16 => k_is)
    (case a17 => k_is)
    (case l17 => k_is)
    (case c17 => k_is)
    (case k17 => k_is)
    (case a18 => k_is)
    (case l18 => k_is)
    (case c18 => k_is)
    (case k18 => k_is)
    (case a19 => k_is)
    (case l19 => k_is)
    (case c19 => k_is)
    (case k19 => k_is)
    (case a20 => k_is)
    (case l20 => k_is)
    (case c20 => k_is)
    (case k20 => k_is)
    (case a21 => k_is)
    (case l21 => k_is)
    (case c21 => k_is)
    (case k21 => k_is)
    (case a22 => k_is)
    (case l22 => k_is)
    (case c22 => k_is)
    (case k22 => k_is)
    (case a23 => k_is)
    (case l23 => k_is)
    (case c23 => k_is)
    (case k23 => k_is)
    (case a24 => k_is)
    (case l24 => k_is)
    (case c24 => k_is)
    (case k24 => k_is)
    (case pg0 => k_is)
    (case hD0 => k_is)
    (case po0 => k_is)
    (case sA0 => k_is)
    (case mk0 => k_is)
    (case kC0 => k_is)
    (case nF_letters => k_is)
    (case nF_tiles => k_is)
    (case nF_edge => k_is)
    (case n_all => k_is)
    (case n_any => k_is)
    (case n_len => k_is)
    (case n_list => k_is)
    (case n_range => k_is)
    (case n_reversed => k_is)
    (case n_set => k_is)
    (case n_sorted => k_is)
    (case n_tuple => k_is)
    (case v_BORDER => k_is)
    (case v_LETTERS => k_is)
    (case v_MOST_HIGH => k_is)
    (case v_MOST_MARKS => k_is)
    (case v_MOST_WIDE => k_is)
    (case x0 => k_is)
    (case x1 => k_is)
    (case x2 => k_is)
    (case x3 => k_is)
    (case hg0 => k_is)
    (case hk0 => k_is)
    (case hs0 => k_is)
    (case hd0 => k_is)
    (case ha0 => k_is)
    (case hm0 => k_is)
    (case kp0 => k_is)
    (case ty0 => k_is)
    (case va0 => k_is)
    (case sb00 => k_is)
    (case sb01 => k_is)
    (case sb02 => k_is)
    (case sb03 => k_is)
    (case hg1 => k_is)
    (case hk1 => k_is)
    (case hs1 => k_is)
    (case hd1 => k_is)
    (case ha1 => k_is)
    (case hm1 => k_is)
    (case kp1 => k_is)
    (case ty1 => k_is)
    (case va1 => k_is)
    (case sb10 => k_is)
    (case sb11 => k_is)
    (case sb12 => k_is)
    (case sb13 => k_is)
    (case hg2 => k_is)
    (case hk2 => k_is)
    (case hs2 => k_is)
    (case hd2 => k_is)
    (case ha2 => k_is)
    (case hm2 => k_is)
    (case kp2 => k_is)
    (case ty2 => k_is)
    (case va2 => k_is)
    (case sb20 => k_is)
    (case sb21 => k_is)
    (case sb22 => k_is)
    (case sb23 => k_is)
    (case hg3 => k_is)
    (case hk3 => k_is)
    (case hs3 => k_is)
    (case hd3 => k_is)
    (case ha3 => k_is)
    (case hm3 => k_is)
    (case kp3 => k_is)
    (case ty3 => k_is)
    (case va3 => k_is)
    (case sb30 => k_is)
    (case sb31 => k_is)
    (case sb32 => k_is)
    (case sb33 => k_is)
    (case hn => k_is)
    (case ht => k_is)
    (case ex1 => k_exc)
    (case ex2 => k_exc)
    (case ex3 => k_exc)
    (case ne01 => decide)
    (case ne02 => decide)
    (case ne03 => decide)
    (case ne12 => decide)
    (case ne13 => decide)
    (case ne23 => decide)

