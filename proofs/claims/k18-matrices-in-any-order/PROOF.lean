import PyProof.Rows.All
import Wide.All
import OpenK.AllK
import Wide.FinOn
import HandS.ForMost
import HandS.Exc
import HandS.ExcOwn
import HandS.Deep
import KE.KDictKeyed
import HandS.TupAny
import HandS.Flow
import HandS.Style
import HandS.Comp
import HandS.Defaults
import HandS.WordsExc
import HandS.Small
import HandS.Wide
import HandS.Conv
import HandS.Text
import HandS.More
import HandS.Sort
import HandS.TupLe
import HandS.TupMul
import HandS.WordsDict
import KE.KeyNested
import HandS.SortInts
import KE.DataAny
import HandS.Lambda
import HandS.DictComp
import KE.KDictDisplayH
import KE.KDictCopyH
import KE.KDictSum
import KE.SortData
import HandS.HeadHook4
import HandS.HeadWalk
import HandS.Head0
import PySem.Challenge.RW_heldsteady_k18_whole_matrices_in_any_ord
import KE.KStateDown
import HandS.Head1
import HandS.Head2
import HandS.Head3
import HandS.HeadEnd
import HandS.Words
section
set_option Elab.async false
set_option linter.all false
set_option maxRecDepth 100000
set_option maxHeartbeats 1000000
set_option autoImplicit false
/-! HF0: values without a heap, slots with owned lists and dicts, what a state bears. -/
namespace HF
open PySem PySem.Spec PyProof.Rows L2

/-- a value without the heap. dct k: k = 0: keys ints and texts; 1: tuples of such; 2: nested -/
inductive PV where
  | non | bl (b : Bool) | int (i : Int) | str (x : Str) | tup (xs : List PV) | lst (xs : List PV) | dct (k : Nat) (kvs : List (PV × PV)) | rng (lo hi : Int) | scr (xs : List Int)

/-- what is written in the text, the program, the world -/
structure Frg where
  K : PySem.W.Frag
  P : Program
  w : World
abbrev kx (X : Cx) : Frg := ⟨X.K, X.prog, X.w⟩
def kPV : Key → PV
  | .inl i => .int i
  | .inr x => .str x
/-! a key of a dict whose keys are tuples -/
mutual
def pvK : NestedKey → PV
  | .none => .non
  | .num i => .int i
  | .text x => .str x
  | .tup ks => .tup (pvKs ks)
def pvKs : List NestedKey → List PV
  | [] => []
  | k :: ks => pvK k :: pvKs ks
end
/-- the entries of a dict with tuple keys: the keys' own tuples, the values -/
abbrev KN : List (NestedKey × Addr × V) → List (NestedKey × Addr × Value) → Prop := Paired fun p q => p.1 = q.1 ∧ p.2.1 = q.2.1 ∧ RelV p.2.2 q.2.2
/-- such a dict at d -/
def DNo (P : Program) (w : World) (d : Addr) (l : List (NestedKey × Addr × V)) : HO := .ext fun h => l.length ≤ sizeLine ∧ (d == sysModules) = false ∧ ∃ xs : List (NestedKey × Addr × Value), KN l xs ∧
  ∃ o es ep, h.get? d = some o ∧ o.ExactDict ∧ o.data = .dict es ep ∧ es.toList = xs.map (entryOfKey (nestedKind P w)) ∧ (xs.map (·.1)).Nodup
/-- a dict at a: its kind, its keys (as they are, as they stand) with their values. 0: ints and texts, 1: tuples -/
def DAt (K : Frg) (H : Hp) (a : Addr) : Nat → List (PV × V × V) → Prop
  | 0, l => ∃ kvs : List (Key × V), H a = some (.dK kvs) ∧ l = kvs.map fun p => (kPV p.1, kV p.1, p.2)
  | 1, l => ∃ xs : List (NestedKey × Addr × V), H a = some (DNo K.P K.w a xs) ∧ l = xs.map fun x => (pvK x.1, .ref x.2.1, x.2.2)
  | _, _ => False
/-- .. that may be read (it may be locked) -/
def RDAt (K : Frg) (H : Hp) (a : Addr) : Nat → List (PV × V × V) → Prop
  | 0, l => ∃ kvs : List (Key × V), Rd H a (.dK kvs) ∧ l = kvs.map fun p => (kPV p.1, kV p.1, p.2)
  | 1, l => ∃ xs : List (NestedKey × Addr × V), Rd H a (DNo K.P K.w a xs) ∧ l = xs.map fun x => (pvK x.1, .ref x.2.1, x.2.2)
  | _, _ => False
theorem DAt.rd {K : Frg} {H : Hp} {a : Addr} : ∀ {k : Nat} {l : List (PV × V × V)}, DAt K H a k l → RDAt K H a k l
  | 0, _, ⟨kvs, h, q⟩ => ⟨kvs, .of h, q⟩
  | 1, _, ⟨kvs, h, q⟩ => ⟨kvs, .of h, q⟩

mutual
inductive Rep (K : Frg) (H : Hp) : V → PV → Prop
  | non : Rep K H .non .non
  | bl (b : Bool) : Rep K H (.bl b) (.bl b)
  | int (i : Int) : Rep K H (.int i) (.int i)
  | str (x : Str) : Rep K H (.str x) (.str x)
  | tup {a : Addr} {vs : List V} {ps : List PV} : SqT K.K H a vs → Reps K H vs ps → Rep K H (.ref a) (.tup ps)
  | lst {a : Addr} {vs : List V} {ps : List PV} : H a = some (.lst vs) → Reps K H vs ps → Rep K H (.ref a) (.lst ps)
  | scr {a : Addr} {ns : List Int} : SqL K.K H a (ns.map V.int) → Rep K H (.ref a) (.scr ns)
  | rng {a : Addr} {lo hi : Int} : H a = some (.rng lo hi) → Rep K H (.ref a) (.rng lo hi)
  | dct {a : Addr} {k : Nat} {l : List (PV × V × V)} {kvs : List (PV × PV)} : RDAt K H a k l → RepD K H l kvs → Rep K H (.ref a) (.dct k kvs)
inductive Reps (K : Frg) (H : Hp) : List V → List PV → Prop
  | nil : Reps K H [] []
  | cons {v : V} {vs : List V} {p : PV} {ps : List PV} : Rep K H v p → Reps K H vs ps → Reps K H (v :: vs) (p :: ps)
inductive RepD (K : Frg) (H : Hp) : List (PV × V × V) → List (PV × PV) → Prop
  | nil : RepD K H [] []
  | cons {k : PV} {u v : V} {l : List (PV × V × V)} {p : PV} {kvs : List (PV × PV)} : Rep K H u k → Rep K H v p → RepD K H l kvs → RepD K H ((k, u, v) :: l) ((k, p) :: kvs)
end

/-- all that is told in H is told in H' -/
def Ext (H H' : Hp) : Prop := ∀ a o, H a = some o → H' a = some o
theorem Ext.refl {H : Hp} : Ext H H := fun _ _ e => e
theorem Ext.trans {H H1 H2 : Hp} (a : Ext H H1) (b : Ext H1 H2) : Ext H H2 := fun c o e => b c o (a c o e)
theorem Ext.rd {H H' : Hp} (e : Ext H H') {a : Addr} {u : HO} (r : Rd H a u) : Rd H' a u := by
  rcases r with r | ⟨o, r⟩
  · exact .inl (e _ _ r)
  · exact .inr ⟨o, e _ _ r⟩
theorem Ext.sqL {K : PySem.W.Frag} {H H' : Hp} (e : Ext H H') {a : Addr} {xs : List V} (r : SqL K H a xs) : SqL K H' a xs := by
  rcases r with r | r
  · exact .inl (e.rd r)
  · exact .inr r
theorem Ext.sqT {K : PySem.W.Frag} {H H' : Hp} (e : Ext H H') {a : Addr} {xs : List V} (r : SqT K H a xs) : SqT K H' a xs := by
  rcases r with r | r
  · exact .inl (e.rd r)
  · exact .inr r
theorem Ext.dAt {K : Frg} {H H' : Hp} (e : Ext H H') {a : Addr} : ∀ {k : Nat} {l : List (PV × V × V)}, RDAt K H a k l → RDAt K H' a k l
  | 0, _, ⟨kvs, h, q⟩ => ⟨kvs, e.rd h, q⟩
  | 1, _, ⟨kvs, h, q⟩ => ⟨kvs, e.rd h, q⟩
section
variable {K : Frg} {H H' : Hp}
mutual
theorem Rep.ext (e : Ext H H') : ∀ {v : V} {p : PV}, Rep K H v p → Rep K H' v p
  | _, _, .non => .non
  | _, _, .bl b => .bl b
  | _, _, .int i => .int i
  | _, _, .str x => .str x
  | _, _, .tup h r => .tup (e.sqT h) (Reps.ext e r)
  | _, _, .lst h r => .lst (e _ _ h) (Reps.ext e r)
  | _, _, .scr h => .scr (e.sqL h)
  | _, _, .rng h => .rng (e _ _ h)
  | _, _, .dct h r => .dct (e.dAt h) (RepD.ext e r)
theorem Reps.ext (e : Ext H H') : ∀ {vs : List V} {ps : List PV}, Reps K H vs ps → Reps K H' vs ps
  | _, _, .nil => .nil
  | _, _, .cons a r => .cons (Rep.ext e a) (Reps.ext e r)
theorem RepD.ext (e : Ext H H') : ∀ {l : List (PV × V × V)} {kvs : List (PV × PV)}, RepD K H l kvs → RepD K H' l kvs
  | _, _, .nil => .nil
  | _, _, .cons b a r => .cons (Rep.ext e b) (Rep.ext e a) (RepD.ext e r)
end
end
section
variable {K : Frg} {H H' : Hp}
theorem Reps.length : ∀ {vs : List V} {ps : List PV}, Reps K H vs ps → vs.length = ps.length
  | _, _, .nil => rfl
  | _, _, .cons _ r => by simp [Reps.length r]
theorem Reps.get : ∀ {vs : List V} {ps : List PV} {i : Nat} {p : PV}, Reps K H vs ps → ps[i]? = some p → ∃ v, vs[i]? = some v ∧ Rep K H v p
  | _, _, _, _, .nil, e => by simp at e
  | _, _, 0, _, .cons r _, e => by simp at e; subst e; exact ⟨_, rfl, r⟩
  | _, _, i + 1, p, .cons _ t, e => by
    obtain ⟨v, h1, h2⟩ := Reps.get (i := i) (p := p) t (by simpa using e)
    exact ⟨v, by simpa using h1, h2⟩
theorem Reps.get' : ∀ {vs : List V} {ps : List PV} {i : Nat} {v : V}, Reps K H vs ps → vs[i]? = some v → ∃ p, ps[i]? = some p ∧ Rep K H v p
  | _, _, _, _, .nil, e => by simp at e
  | _, _, 0, _, .cons r _, e => by simp at e; subst e; exact ⟨_, rfl, r⟩
  | _, _, i + 1, p, .cons _ t, e => by
    obtain ⟨v, h1, h2⟩ := Reps.get' (i := i) (v := p) t (by simpa using e)
    exact ⟨v, by simpa using h1, h2⟩
theorem Reps.append : ∀ {vs ws : List V} {ps qs : List PV}, Reps K H vs ps → Reps K H ws qs → Reps K H (vs ++ ws) (ps ++ qs)
  | _, _, _, _, .nil, s => s
  | _, _, _, _, .cons r t, s => .cons r (Reps.append t s)
theorem Reps.take : ∀ {vs : List V} {ps : List PV} (n : Nat), Reps K H vs ps → Reps K H (vs.take n) (ps.take n)
  | _, _, 0, _ => .nil
  | _, _, _ + 1, .nil => .nil
  | _, _, n + 1, .cons r t => .cons r (Reps.take n t)
theorem Reps.drop : ∀ {vs : List V} {ps : List PV} (n : Nat), Reps K H vs ps → Reps K H (vs.drop n) (ps.drop n)
  | _, _, 0, r => r
  | _, _, _ + 1, .nil => .nil
  | _, _, n + 1, .cons _ t => Reps.drop n t
theorem Reps.set {v : V} {p : PV} (r : Rep K H v p) : ∀ {vs : List V} {ps : List PV} (i : Nat), Reps K H vs ps → Reps K H (vs.set i v) (ps.set i p)
  | _, _, _, .nil => .nil
  | _, _, 0, .cons _ t => .cons r t
  | _, _, i + 1, .cons q t => .cons q (Reps.set r i t)
theorem Reps.eraseIdx : ∀ {vs : List V} {ps : List PV} (i : Nat), Reps K H vs ps → Reps K H (vs.eraseIdx i) (ps.eraseIdx i)
  | _, _, _, .nil => .nil
  | _, _, 0, .cons _ t => t
  | _, _, i + 1, .cons q t => .cons q (Reps.eraseIdx i t)
theorem Reps.reverse : ∀ {vs : List V} {ps : List PV}, Reps K H vs ps → Reps K H vs.reverse ps.reverse
  | _, _, .nil => .nil
  | _, _, .cons a r => by simp only [List.reverse_cons]; exact (Reps.reverse r).append (.cons a .nil)
end

open Classical in
/-- H without what is hidden -/
noncomputable def hid (B : Addr → Prop) (H : Hp) : Hp := fun a => if B a then none else H a
theorem hid_some {B : Addr → Prop} {H : Hp} {a : Addr} {o : HO} : hid B H a = some o ↔ ¬ B a ∧ H a = some o := by
  unfold hid
  split
  · rename_i h; simp [h]
  · rename_i h; simp [h]
theorem hid_sub {B : Addr → Prop} {H : Hp} : Ext (hid B H) H := fun _ _ e => (hid_some.mp e).2
theorem hid_mono {B B' : Addr → Prop} {H H' : Hp} (h : ∀ a o, ¬ B a → H a = some o → ¬ B' a ∧ H' a = some o) : Ext (hid B H) (hid B' H') := fun a o e => by
  obtain ⟨n, q⟩ := hid_some.mp e
  exact hid_some.mpr (h a o n q)
/-- what was hidden, and what is new -/
def grow (Hv H H' : Hp) : Hp := fun a => match H a with
  | none => H' a
  | some _ => Hv a
theorem grow_old {Hv H H' : Hp} (e : Ext Hv H) : Ext Hv (grow Hv H H') := fun a o q => by
  unfold grow; rw [e a o q]; exact q
theorem grow_new {Hv H H' : Hp} {a : Addr} (n : H a = none) : grow Hv H H' a = H' a := by unfold grow; rw [n]
theorem grow_self {Hv H : Hp} (e : Ext Hv H) : grow Hv H H = Hv := by
  funext a
  unfold grow
  cases h : H a with
  | none =>
    cases q : Hv a with
    | none => rfl
    | some o => rw [e a o q] at h; cases h
  | some o => rfl
theorem grow_hid {B : Addr → Prop} {H H' : Hp} (hB : ∀ a, B a → H a ≠ none) (e : Ext H H') : grow (hid B H) H H' = hid B H' := by
  funext a
  unfold grow
  cases h : H a with
  | none =>
    have n : ¬ B a := fun b => hB a b h
    simp [hid, n]
  | some o =>
    by_cases b : B a
    · simp [hid, b]
    · simp [hid, b, h, e a o h]

/-! ### slots -/
abbrev SlV := Option (Bool × PV)
abbrev SE := List SlV
/-- an address that a slot owns -/
def Owns (σ : L2.St) (s : SE) (a : Addr) : Prop := ∃ (i : Nat) (p : PV), s[i]? = some (some (true, p)) ∧ σ[i]? = some (some (V.ref a))
/-- an owned list, an owned dict -/
def Ob (K : Frg) (H Hv : Hp) (a : Addr) : PV → Prop
  | .lst ps => ∃ vs, H a = some (.lst vs) ∧ Reps K Hv vs ps
  | .dct k kvs => ∃ l, DAt K H a k l ∧ RepD K Hv l kvs
  | _ => False
/-- an object that is a list or a dict -/
def LD : HO → Prop
  | .lst _ => True
  | .dK _ => True
  | .ext _ => True
  | _ => False
theorem LD.mut {o : HO} (h : LD o) : Mut (some o) := by cases o <;> first | trivial | exact h.elim
theorem Ob.at_ {K : Frg} {H Hv : Hp} {a : Addr} {p : PV} (h : Ob K H Hv a p) : ∃ o, H a = some o ∧ LD o := by
  cases p with
  | lst ps => obtain ⟨vs, e, _⟩ := h; exact ⟨_, e, trivial⟩
  | dct k kvs =>
    obtain ⟨l, e, _⟩ := h
    match k, e with
    | 0, ⟨kvs, e, _⟩ => exact ⟨_, e, trivial⟩
    | 1, ⟨kvs, e, _⟩ => exact ⟨_, e, trivial⟩
  | _ => exact h.elim
theorem DAt.eq {K : Frg} {H H' : Hp} {a : Addr} (h : H' a = H a) : ∀ {k : Nat} {l : List (PV × V × V)}, DAt K H a k l → DAt K H' a k l
  | 0, _, ⟨kvs, e, q⟩ => ⟨kvs, h.trans e, q⟩
  | 1, _, ⟨kvs, e, q⟩ => ⟨kvs, h.trans e, q⟩
theorem Ob.ext {K : Frg} {H H' Hv Hv' : Hp} {a : Addr} (h : H' a = H a) (e : Ext Hv Hv') {p : PV} (o : Ob K H Hv a p) : Ob K H' Hv' a p := by
  cases p with
  | lst ps => obtain ⟨vs, q, r⟩ := o; exact ⟨vs, h.trans q, r.ext e⟩
  | dct k kvs => obtain ⟨l, q, r⟩ := o; exact ⟨l, q.eq h, RepD.ext e r⟩
  | _ => exact o.elim
/-- an owned object that may be read by all -/
theorem Ob.rep {K : Frg} {H Hv Hw : Hp} {a : Addr} (h : Hw a = H a) (e : Ext Hv Hw) {p : PV} (o : Ob K H Hv a p) : Rep K Hw (.ref a) p := by
  cases p with
  | lst ps => obtain ⟨vs, q, r⟩ := o; exact .lst (h.trans q) (r.ext e)
  | dct k kvs => obtain ⟨l, q, r⟩ := o; exact .dct (q.eq h).rd (RepD.ext e r)
  | _ => exact o.elim

/-- hidden from what is shared -/
noncomputable abbrev Hd (Z : Addr → Prop) (σ : L2.St) (s : SE) (H : Hp) : Hp := hid (fun a => Z a ∨ Owns σ s a) H
/-- the state: slots and heap. Z: the callers' own objects, and what waits -/
structure Rl (K : Frg) (Z : Addr → Prop) (H : Hp) (σ : L2.St) (s : SE) : Prop where
  len : s.length = σ.length
  zin : ∀ a, Z a → H a ≠ none
  sh : ∀ (i : Nat) (p : PV), s[i]? = some (some (false, p)) → ∃ v, σ[i]? = some (some v) ∧ Rep K (Hd Z σ s H) v p
  ow : ∀ (i : Nat) (p : PV), s[i]? = some (some (true, p)) → ∃ a, σ[i]? = some (some (V.ref a)) ∧ ¬ Z a ∧ Ob K H (Hd Z σ s H) a p
  dj : ∀ (i j : Nat) (p q : PV) (a : Addr), s[i]? = some (some (true, p)) → s[j]? = some (some (true, q)) → σ[i]? = some (some (V.ref a)) → σ[j]? = some (some (V.ref a)) → i = j
theorem Rl.ownIn {K : Frg} {Z : Addr → Prop} {H : Hp} {σ : L2.St} {s : SE} (R : Rl K Z H σ s) {a : Addr} (o : Owns σ s a) : H a ≠ none := by
  obtain ⟨i, p, e, e2⟩ := o
  obtain ⟨b, e3, _, q⟩ := R.ow i p e
  rw [e2] at e3; cases e3
  obtain ⟨o, h, _⟩ := q.at_
  rw [h]; nofun
theorem Rl.hidIn {K : Frg} {Z : Addr → Prop} {H : Hp} {σ : L2.St} {s : SE} (R : Rl K Z H σ s) : ∀ a, (Z a ∨ Owns σ s a) → H a ≠ none := fun a h => h.elim (R.zin a) fun o => R.ownIn o
/-- an expression's way: the slots' values stay, what is not owned stays -/
structure Go (K : Frg) (Z Z' : Addr → Prop) (H : Hp) (σ : L2.St) (s s' : SE) (H' : Hp) : Prop where
  rl : Rl K Z' H' σ s'
  fr : ∀ a o, H a = some o → ¬ Owns σ s a → H' a = some o
  ow : ∀ a, Owns σ s' a → Owns σ s a
  tr : ∀ a, H a ≠ none → H' a ≠ none
  kp : ∀ (i : Nat) (q : Bool × PV), s[i]? = some (some q) → ∃ q', s'[i]? = some (some q')
section
variable {K : Frg} {Z Z' : Addr → Prop} {H H' H'' : Hp} {σ : L2.St} {s s' s'' : SE}
theorem Rl.weak (R : Rl K Z' H σ s) (h : ∀ a, Z a → Z' a) : Rl K Z H σ s where
  len := R.len
  zin := fun a z => R.zin a (h a z)
  sh := fun i p e => by
    obtain ⟨v, e1, r⟩ := R.sh i p e
    exact ⟨v, e1, r.ext (hid_mono fun a o n q => ⟨fun z => n (z.imp (h a) id), q⟩)⟩
  ow := fun i p e => by
    obtain ⟨a, e1, n, r⟩ := R.ow i p e
    exact ⟨a, e1, fun z => n (h a z), r.ext rfl (hid_mono fun a o n q => ⟨fun z => n (z.imp (h a) id), q⟩)⟩
  dj := R.dj
theorem Go.refl (R : Rl K Z H σ s) : Go K Z Z H σ s s H := ⟨R, fun _ _ e _ => e, fun _ o => o, fun _ h => h, fun _ q e => ⟨q, e⟩⟩
theorem Go.trans (a : Go K Z Z H σ s s' H') (b : Go K Z Z' H' σ s' s'' H'') : Go K Z Z' H σ s s'' H'' :=
  ⟨b.rl, fun c o e n => b.fr c o (a.fr c o e n) fun z => n (a.ow c z), fun c z => a.ow c (b.ow c z), fun c h => b.tr c (a.tr c h), fun i q e => let ⟨_, e1⟩ := a.kp i q e; b.kp i _ e1⟩
theorem Go.weak (a : Go K Z Z' H σ s s' H') (h : ∀ a, Z a → Z' a) : Go K Z Z H σ s s' H' := ⟨a.rl.weak h, a.fr, a.ow, a.tr, a.kp⟩
/-- what is shared stays so -/
theorem Go.vis (a : Go K Z Z H σ s s' H') : Ext (Hd Z σ s H) (Hd Z σ s' H') := hid_mono fun b o n q => by
  refine ⟨fun z => ?_, a.fr b o q fun z => n (.inr z)⟩
  rcases z with z | z
  · exact n (.inl z)
  · exact n (.inr (a.ow b z))
/-- only new things -/
theorem Go.grown (R : Rl K Z H σ s) (e : Ext H H') : Go K Z Z H σ s s H' := by
  refine ⟨⟨R.len, fun a z => ?_, fun i p q => ?_, fun i p q => ?_, R.dj⟩, fun a o q _ => e a o q, fun _ o => o, fun a h => ?_, fun _ q e => ⟨q, e⟩⟩
  · cases h : H a with
    | none => exact absurd h (R.zin a z)
    | some o => rw [e a o h]; nofun
  · obtain ⟨v, e1, r⟩ := R.sh i p q
    exact ⟨v, e1, r.ext (hid_mono fun a o n q => ⟨n, e a o q⟩)⟩
  · obtain ⟨a, e1, n, r⟩ := R.ow i p q
    refine ⟨a, e1, n, r.ext ?_ (hid_mono fun a o n q => ⟨n, e a o q⟩)⟩
    obtain ⟨o, h, _⟩ := r.at_
    rw [h]; exact e a o h
  · cases q : H a with
    | none => exact absurd q h
    | some o => rw [e a o q]; nofun
/-- .. of which one object waits, not shared -/
theorem Rl.hold {a : Addr} (R : Rl K Z H σ s) (hn : H a = none) (e : Ext H H') (hz : H' a ≠ none) : Rl K (fun b => Z b ∨ b = a) H' σ s := by
  have key : Ext (Hd Z σ s H) (Hd (fun b => Z b ∨ b = a) σ s H') := hid_mono fun b o n q => by
    refine ⟨fun z => ?_, e b o q⟩
    rcases z with (z | z) | z
    · exact n (.inl z)
    · subst z; rw [hn] at q; cases q
    · exact n (.inr z)
  refine ⟨R.len, fun b z => ?_, fun i p q => ?_, fun i p q => ?_, R.dj⟩
  · rcases z with z | rfl
    · cases h : H b with
      | none => exact absurd h (R.zin b z)
      | some o => rw [e b o h]; nofun
    · exact hz
  · obtain ⟨v, e1, r⟩ := R.sh i p q
    exact ⟨v, e1, r.ext key⟩
  · obtain ⟨b, e1, n, r⟩ := R.ow i p q
    obtain ⟨o, h, _⟩ := r.at_
    refine ⟨b, e1, fun z => ?_, r.ext ?_ key⟩
    · rcases z with z | rfl
      · exact n z
      · rw [hn] at h; cases h
    · rw [h]; exact e b o h
end

/-! ### what comes of a piece -/
inductive Rs (α : Type) where
  | ok (a : α) (s : SE)
  | exc (c : Str) (s : SE)
  | stuck
abbrev PM (α : Type) := SE → Rs α
/-- a value: as it is; new and not shared (fr); or what the slot i holds, which stays owned -/
inductive Arg where
  | val (p : PV) (fr : Bool)
  | bor (i : Nat)
def PostE (K : Frg) (Z : Addr → Prop) (H : Hp) (σ : L2.St) (s : SE) (r : Arg) (s' : SE) (v : V) (H' : Hp) : Prop :=
  match r with
  | .val p false => Go K Z Z H σ s s' H' ∧ Rep K (Hd Z σ s' H') v p
  | .val p true => ∃ a, v = .ref a ∧ H a = none ∧ Go K Z (fun b => Z b ∨ b = a) H σ s s' H' ∧ Ob K H' (Hd (fun b => Z b ∨ b = a) σ s' H') a p ∧ ¬ Owns σ s' a ∧ ¬ Z a
  | .bor i => Go K Z Z H σ s s' H' ∧ σ[i]? = some (some v) ∧ ∃ p, s'[i]? = some (some (true, p))
section
variable {K : Frg} {Z Z' : Addr → Prop} {H H' H'' : Hp} {σ : L2.St} {s s' s'' : SE} {v : V} {p : PV}
theorem PostE.go {r : Arg} (h : PostE K Z H σ s r s' v H') : Go K Z Z H σ s s' H' := by
  match r, h with
  | .val p false, h => exact h.1
  | .val p true, ⟨a, _, _, g, _⟩ => exact g.weak fun b z => .inl z
  | .bor i, h => exact h.1
/-- not new any more -/
theorem PostE.old {fr : Bool} (h : PostE K Z H σ s (.val p fr) s' v H') : Go K Z Z H σ s s' H' ∧ Rep K (Hd Z σ s' H') v p := by
  cases fr with
  | false => exact h
  | true =>
    obtain ⟨a, rfl, hn, g, ob, no, nz⟩ := h
    refine ⟨g.weak fun b z => .inl z, ob.rep ?_ (hid_mono fun b o n q => ⟨fun z => n (z.imp .inl id), q⟩)⟩
    unfold hid
    rw [if_neg (fun z => z.elim nz no)]
/-- ahead of it another way -/
theorem PostE.after {r : Arg} (g : Go K Z Z H σ s s' H') (h : PostE K Z H' σ s' r s'' v H'') : PostE K Z H σ s r s'' v H'' := by
  match r, h with
  | .val p false, h => exact ⟨g.trans h.1, h.2⟩
  | .val p true, ⟨a, e, hn, g', q⟩ =>
    refine ⟨a, e, ?_, g.trans g', q⟩
    cases h : H a with
    | none => rfl
    | some o => exact absurd hn (g.tr a (by rw [h]; nofun))
  | .bor i, h => exact ⟨g.trans h.1, h.2⟩
end

/-- what is wanted behind a piece, by what it gave -/
def Mt {α : Type} (r : Rs α) (ok : α → SE → Prop) (ex : Str → SE → Prop) : Prop := match r with
  | .ok a s => ok a s
  | .exc c s => ex c s
  | .stuck => False
/-! ### judgements: expressions, tests, arguments -/
/-- what leaves by an exception of the class named c -/
def XOut (K : Frg) (mg : Str → Option Value) (W : WX) (Z : Addr → Prop) (H : Hp) (σ : L2.St) (s : SE) (c : Str) (s' : SE) : Prop :=
  ∀ C H', mg c = some (.ref C) → Go K Z Z H σ s s' H' → W (.ref C) none σ H'
def lE (K : Frg) (mg : Str → Option Value) (W : WX) (f : PM Arg) : TE := fun σ H Q => ∃ (Z : Addr → Prop) (s : SE), Rl K Z H σ s ∧ Mt (f s) (fun r s' => ∀ v H', PostE K Z H σ s r s' v H' → Q v H') (fun c s' => XOut K mg W Z H σ s c s')
structure QE (X : Cx) (W : WX) (e : Expr) (f : PM Arg) : Prop where
  pe : PE X e (lE (kx X) X.mg W f)
def lT (K : Frg) (mg : Str → Option Value) (W : WX) (f : PM Bool) : TT := fun σ H Q => ∃ (Z : Addr → Prop) (s : SE), Rl K Z H σ s ∧ Mt (f s) (fun b s' => ∀ H', Go K Z Z H σ s s' H' → Q b H') (fun c s' => XOut K mg W Z H σ s c s')
structure QT (X : Cx) (W : WX) (e : Expr) (f : PM Bool) : Prop where
  pt : PT X e (lT (kx X) X.mg W f)
structure QW (X : Cx) (W : WX) (e : Expr) (f : PM Bool) : Prop where
  pw : PW X e (lT (kx X) X.mg W f)
/-- an argument that has come and waits -/
def ArgAt (K : Frg) (Z : Addr → Prop) (H : Hp) (σ : L2.St) (s : SE) (v : V) : Arg → Prop
  | .val p _ => Rep K (Hd Z σ s H) v p
  | .bor i => σ[i]? = some (some v) ∧ ∃ f p, s[i]? = some (some (f, p))
inductive ArgsAt (K : Frg) (Z : Addr → Prop) (H : Hp) (σ : L2.St) (s : SE) : List V → List Arg → Prop
  | nil : ArgsAt K Z H σ s [] []
  | cons {v : V} {vs : List V} {r : Arg} {rs : List Arg} : ArgAt K Z H σ s v r → ArgsAt K Z H σ s vs rs → ArgsAt K Z H σ s (v :: vs) (r :: rs)
def lA (K : Frg) (mg : Str → Option Value) (W : WX) (f : PM (List Arg)) : TA := fun σ H Q => ∃ (Z : Addr → Prop) (s : SE), Rl K Z H σ s ∧ Mt (f s) (fun rs s' => ∀ vs H', Go K Z Z H σ s s' H' → ArgsAt K Z H' σ s' vs rs → Q vs H') (fun c s' => XOut K mg W Z H σ s c s')
structure QA (X : Cx) (W : WX) (es : List Expr) (f : PM (List Arg)) : Prop where
  pa : PA X es (lA (kx X) X.mg W f)
  len : ∀ s rs s', f s = .ok rs s' → rs.length = es.length
/-! ### tables apart -/
def NT (o : HO) : Prop := ∀ ps, o ≠ .tbl ps
/-- without the tables -/
noncomputable def noT (H : Hp) : Hp := hid (fun a => ∃ ps, H a = some (.tbl ps)) H
theorem noT_some {H : Hp} {a : Addr} {o : HO} : noT H a = some o ↔ H a = some o ∧ NT o := by
  unfold noT
  rw [hid_some]
  constructor
  · rintro ⟨n, e⟩
    exact ⟨e, fun ps z => n ⟨ps, by rw [e, z]⟩⟩
  · rintro ⟨e, n⟩
    exact ⟨fun ⟨ps, z⟩ => n ps (by rw [e] at z; exact Option.some.inj z), e⟩
theorem noT_sub {H : Hp} : Ext (noT H) H := fun a o e => (noT_some.mp e).1
theorem noT_mono {H H' : Hp} (e : Ext H H') : Ext (noT H) (noT H') := fun a o h => noT_some.mpr ⟨e _ _ (noT_some.mp h).1, (noT_some.mp h).2⟩
theorem rd_noT {H : Hp} {a : Addr} {u : HO} (r : Rd H a u) (n : NT u) : Rd (noT H) a u := by
  rcases r with r | ⟨o, r⟩
  · exact .inl (noT_some.mpr ⟨r, n⟩)
  · exact .inr ⟨o, noT_some.mpr ⟨r, fun ps z => by cases z⟩⟩
theorem sqL_noT {K : PySem.W.Frag} {H : Hp} {a : Addr} {xs : List V} (r : SqL K H a xs) : SqL K (noT H) a xs := by
  rcases r with r | r
  · exact .inl (rd_noT r fun ps z => by cases z)
  · exact .inr r
theorem sqT_noT {K : PySem.W.Frag} {H : Hp} {a : Addr} {xs : List V} (r : SqT K H a xs) : SqT K (noT H) a xs := by
  rcases r with r | r
  · exact .inl (rd_noT r fun ps z => by cases z)
  · exact .inr r
theorem dAt_noT {K : Frg} {H : Hp} {a : Addr} : ∀ {k : Nat} {l : List (PV × V × V)}, RDAt K H a k l → RDAt K (noT H) a k l
  | 0, _, ⟨kvs, h, q⟩ => ⟨kvs, rd_noT h (fun ps z => (by cases z)), q⟩
  | 1, _, ⟨kvs, h, q⟩ => ⟨kvs, rd_noT h (fun ps z => (by unfold DNo at z; cases z)), q⟩
section
variable {K : Frg} {H : Hp}
mutual
theorem Rep.noT : ∀ {v : V} {p : PV}, Rep K H v p → Rep K (noT H) v p
  | _, _, .non => .non
  | _, _, .bl b => .bl b
  | _, _, .int i => .int i
  | _, _, .str x => .str x
  | _, _, .tup h r => .tup (sqT_noT h) (Reps.noT r)
  | _, _, .lst h r => .lst (noT_some.mpr ⟨h, fun ps z => by cases z⟩) (Reps.noT r)
  | _, _, .scr h => .scr (sqL_noT h)
  | _, _, .rng h => .rng (noT_some.mpr ⟨h, fun ps z => by cases z⟩)
  | _, _, .dct h r => .dct (dAt_noT h) (RepD.noT r)
theorem Reps.noT : ∀ {vs : List V} {ps : List PV}, Reps K H vs ps → Reps K (noT H) vs ps
  | _, _, .nil => .nil
  | _, _, .cons a r => .cons (Rep.noT a) (Reps.noT r)
theorem RepD.noT : ∀ {l : List (PV × V × V)} {kvs : List (PV × PV)}, RepD K H l kvs → RepD K (noT H) l kvs
  | _, _, .nil => .nil
  | _, _, .cons b a r => .cons (Rep.noT b) (Rep.noT a) (RepD.noT r)
end
end
end HF
end

section
set_option Elab.async false
set_option linter.all false
set_option maxRecDepth 100000
set_option maxHeartbeats 1000000
set_option autoImplicit false
/-! HF1: expressions, tests, arguments. -/
namespace HF
open PySem PySem.Spec PyProof.Rows L2

/-! ### ways in a row -/
def bnd {α β : Type} (f : PM α) (g : α → PM β) : PM β := fun s => match f s with
  | .ok a s' => g a s'
  | .exc c s' => .exc c s'
  | .stuck => .stuck
def ret {α : Type} (a : α) : PM α := fun s => .ok a s
def stk {α : Type} : PM α := fun _ => .stuck
theorem pe_mono {X : Cx} {e : Expr} {t t' : TE} (h : PE X e t) (m : ∀ σ H Q, t' σ H Q → t σ H Q) : PE X e t' := ⟨fun pins s σ H Q I q => h.run pins s σ H Q I (m σ H Q q)⟩
theorem pt_mono {X : Cx} {e : Expr} {t t' : TT} (h : PT X e t) (m : ∀ σ H Q, t' σ H Q → t σ H Q) : PT X e t' := ⟨fun pins s σ H Q I q => h.run pins s σ H Q I (m σ H Q q)⟩
theorem pw_mono {X : Cx} {e : Expr} {t t' : TT} (h : PW X e t) (m : ∀ σ H Q, t' σ H Q → t σ H Q) : PW X e t' := ⟨fun wh pins s σ H Q I q => h.run wh pins s σ H Q I (m σ H Q q)⟩
theorem pa_mono {X : Cx} {es : List Expr} {t t' : TA} (h : PA X es t) (m : ∀ σ H Q, t' σ H Q → t σ H Q) : PA X es t' := ⟨fun pos pins s σ H Q I q => h.run pos pins s σ H Q I (m σ H Q q)⟩

section
variable {K : Frg} {mg : Str → Option Value} {W : WX} {Z : Addr → Prop} {H H' H1 : Hp} {σ : L2.St} {s s1 s' : SE}
theorem XOut.after {c : Str} (x : XOut K mg W Z H σ s c s') (g : Go K Z Z H σ s s1 H1) : XOut K mg W Z H1 σ s1 c s' := fun C H' e g' => x C H' e (g.trans g')
theorem Mt.bnd_ {α β : Type} {f : PM α} {g : α → PM β} {ok : β → SE → Prop} {ex : Str → SE → Prop} (h : Mt (bnd f g s) ok ex) : Mt (f s) (fun a s1 => Mt (g a s1) ok ex) ex := by
  unfold bnd at h
  cases q : f s with
  | ok a s1 => rw [q] at h; exact h
  | exc c s1 => rw [q] at h; exact h
  | stuck => rw [q] at h; exact h
theorem lE_iff {f : PM Arg} {Q : VK} : lE K mg W f σ H Q ↔ ∃ (Z : Addr → Prop) (s : SE), Rl K Z H σ s ∧ Mt (f s) (fun r s' => ∀ v H', PostE K Z H σ s r s' v H' → Q v H') (fun c s' => XOut K mg W Z H σ s c s') := by
  exact Iff.rfl
theorem lT_iff {f : PM Bool} {Q : Bool → Hp → Prop} : lT K mg W f σ H Q ↔ ∃ (Z : Addr → Prop) (s : SE), Rl K Z H σ s ∧ Mt (f s) (fun b s' => ∀ H', Go K Z Z H σ s s' H' → Q b H') (fun c s' => XOut K mg W Z H σ s c s') := by
  exact Iff.rfl
theorem lA_iff {f : PM (List Arg)} {Q : List V → Hp → Prop} : lA K mg W f σ H Q ↔ ∃ (Z : Addr → Prop) (s : SE), Rl K Z H σ s ∧ Mt (f s) (fun rs s' => ∀ vs H', Go K Z Z H σ s s' H' → ArgsAt K Z H' σ s' vs rs → Q vs H') (fun c s' => XOut K mg W Z H σ s c s') := by
  exact Iff.rfl
/-- a first expression, then more -/
theorem lE_step {f : PM Arg} {Q : VK} {ok : Arg → SE → Prop} (R : Rl K Z H σ s) (h : Mt (f s) ok (fun c s' => XOut K mg W Z H σ s c s')) (k : ∀ r s1 v H1, ok r s1 → PostE K Z H σ s r s1 v H1 → Q v H1) : lE K mg W f σ H Q :=
  lE_iff.mpr ⟨Z, s, R, by
    cases q : f s with
    | ok r s1 => rw [q] at h; exact fun v H1 p => k r s1 v H1 h p
    | exc c s1 => rw [q] at h; exact h
    | stuck => rw [q] at h; exact h⟩
theorem lT_step {f : PM Bool} {Q : Bool → Hp → Prop} {ok : Bool → SE → Prop} (R : Rl K Z H σ s) (h : Mt (f s) ok (fun c s' => XOut K mg W Z H σ s c s')) (k : ∀ b s1 H1, ok b s1 → Go K Z Z H σ s s1 H1 → Q b H1) : lT K mg W f σ H Q :=
  lT_iff.mpr ⟨Z, s, R, by
    cases q : f s with
    | ok r s1 => rw [q] at h; exact fun H1 p => k r s1 H1 h p
    | exc c s1 => rw [q] at h; exact h
    | stuck => rw [q] at h; exact h⟩
theorem lA_step {f : PM (List Arg)} {Q : List V → Hp → Prop} {ok : List Arg → SE → Prop} (R : Rl K Z H σ s) (h : Mt (f s) ok (fun c s' => XOut K mg W Z H σ s c s')) (k : ∀ rs s1 vs H1, ok rs s1 → Go K Z Z H σ s s1 H1 → ArgsAt K Z H1 σ s1 vs rs → Q vs H1) : lA K mg W f σ H Q :=
  lA_iff.mpr ⟨Z, s, R, by
    cases q : f s with
    | ok r s1 => rw [q] at h; exact fun vs H1 p p2 => k r s1 vs H1 h p p2
    | exc c s1 => rw [q] at h; exact h
    | stuck => rw [q] at h; exact h⟩
/-- an exception's wish, from a later place -/
theorem Mt.later {α : Type} {r : Rs α} {ok : α → SE → Prop} (h : Mt r ok (fun c s' => XOut K mg W Z H σ s c s')) (g : Go K Z Z H σ s s1 H1) : Mt r ok (fun c s' => XOut K mg W Z H1 σ s1 c s') := by
  cases r with
  | ok a s => exact h
  | exc c s => exact XOut.after h g
  | stuck => exact h
theorem Mt.imp {α : Type} {r : Rs α} {ok ok' : α → SE → Prop} {ex : Str → SE → Prop} (h : Mt r ok ex) (k : ∀ a s, ok a s → ok' a s) : Mt r ok' ex := by
  cases r with
  | ok a s => exact k a s h
  | exc c s => exact h
  | stuck => exact h
end

/-! ### what waits -/
/-- a value that waits is not new any more -/
def wait : Arg → Arg
  | .val p _ => .val p false
  | .bor i => .bor i
def rv (s : SE) : Arg → Option PV
  | .val p _ => some p
  | .bor i => match s[i]? with
    | some (some (_, p)) => some p
    | _ => none
inductive RepB (K : Frg) (H Hv : Hp) : V → PV → Prop
  | of {v : V} {p : PV} : Rep K Hv v p → RepB K H Hv v p
  | ob {a : Addr} {p : PV} : Ob K H Hv a p → RepB K H Hv (.ref a) p
inductive RepBs (K : Frg) (H Hv : Hp) : List V → List PV → Prop
  | nil : RepBs K H Hv [] []
  | cons {v : V} {vs : List V} {p : PV} {ps : List PV} : RepB K H Hv v p → RepBs K H Hv vs ps → RepBs K H Hv (v :: vs) (p :: ps)
section
variable {K : Frg} {Z : Addr → Prop} {H H' H1 : Hp} {σ : L2.St} {s s1 s' : SE} {v : V} {vs : List V}
theorem PostE.wait {r : Arg} (h : PostE K Z H σ s r s1 v H1) : Go K Z Z H σ s s1 H1 ∧ ArgAt K Z H1 σ s1 v r := by
  match r, h with
  | .val p fr, h => exact h.old
  | .bor i, h => exact ⟨h.1, h.2.1, _, h.2.2⟩
theorem ArgAt.go {r : Arg} (h : ArgAt K Z H σ s v r) (g : Go K Z Z H σ s s1 H1) : ArgAt K Z H1 σ s1 v r := by
  match r, h with
  | .val p fr, h => exact Rep.ext g.vis h
  | .bor i, ⟨e, f, p, q⟩ =>
    obtain ⟨⟨f', p'⟩, q'⟩ := g.kp i _ q
    exact ⟨e, f', p', q'⟩
theorem ArgsAt.go {rs : List Arg} (h : ArgsAt K Z H σ s vs rs) (g : Go K Z Z H σ s s1 H1) : ArgsAt K Z H1 σ s1 vs rs := by
  induction h with
  | nil => exact .nil
  | cons a _ ih => exact .cons (a.go g) ih
theorem ArgAt.repB {r : Arg} {p : PV} (R : Rl K Z H σ s) (h : ArgAt K Z H σ s v r) (e : rv s r = some p) : RepB K H (Hd Z σ s H) v p := by
  match r, h with
  | .val q fr, h => cases e; exact .of h
  | .bor i, ⟨e1, f, q, e2⟩ =>
    simp only [rv, e2, Option.some.injEq] at e
    subst e
    cases f with
    | false =>
      obtain ⟨v', e3, r⟩ := R.sh i _ e2
      rw [e1] at e3; cases e3
      exact .of r
    | true =>
      obtain ⟨a, e3, _, r⟩ := R.ow i _ e2
      rw [e1] at e3; cases e3
      exact .ob r
def rvs (s : SE) : List Arg → Option (List PV)
  | [] => some []
  | r :: rs => match rv s r, rvs s rs with
    | some p, some ps => some (p :: ps)
    | _, _ => none
theorem ArgsAt.repBs {rs : List Arg} (R : Rl K Z H σ s) (h : ArgsAt K Z H σ s vs rs) : ∀ {ps : List PV}, rvs s rs = some ps → RepBs K H (Hd Z σ s H) vs ps := by
  induction h with
  | nil => intro ps e; cases e; exact .nil
  | cons a _ ih =>
    rename_i v vs r rs _
    intro ps e
    unfold rvs at e
    cases h1 : rv s r with
    | none => rw [h1] at e; simp at e
    | some p =>
      cases h2 : rvs s rs with
      | none => rw [h1, h2] at e; simp at e
      | some qs =>
        rw [h1, h2] at e
        simp at e
        subst e
        exact .cons (a.repB R h1) (ih h2)
end

/-! ### operations by values -/
/-- what an operation gives: new things alone -/
def Post1 (K : Frg) (H Hv : Hp) (v : V) (H' : Hp) (p : PV) (fr : Bool) : Prop := Ext H H' ∧ match fr with
  | false => Rep K (grow Hv H H') v p
  | true => ∃ a, v = .ref a ∧ H a = none ∧ Ob K H' (hid (· = a) (grow Hv H H')) a p
abbrev Op1 := PV → Option (PV × Bool)
abbrev Op2 := PV → PV → Option (PV × Bool)
abbrev OpN := List PV → Option (PV × Bool)
def ROk1 (K : Frg) (r : V → Hp → VK → Prop) (op : Op1) : Prop := ∀ (H Hv : Hp) (x : V) (p q : PV) (fr : Bool) (Q : VK), Ext Hv H → RepB K H Hv x p → op p = some (q, fr) → (∀ v H', Post1 K H Hv v H' q fr → Q v H') → r x H Q
def ROk2 (K : Frg) (r : R2) (op : Op2) : Prop := ∀ (H Hv : Hp) (x y : V) (p1 p2 q : PV) (fr : Bool) (Q : VK), Ext Hv H → RepB K H Hv x p1 → RepB K H Hv y p2 → op p1 p2 = some (q, fr) → (∀ v H', Post1 K H Hv v H' q fr → Q v H') → r x y H Q
def ROkN (K : Frg) (r : List V → Hp → VK → Prop) (op : OpN) : Prop := ∀ (H Hv : Hp) (xs : List V) (ps : List PV) (q : PV) (fr : Bool) (Q : VK), Ext Hv H → RepBs K H Hv xs ps → op ps = some (q, fr) → (∀ v H', Post1 K H Hv v H' q fr → Q v H') → r xs H Q
section
variable {K : Frg} {Z : Addr → Prop} {H Hv H' H1 : Hp} {σ : L2.St} {s s1 s' : SE} {v : V} {vs : List V} {p : PV} {ps : List PV} {a : Addr} {o : HO}
theorem ext_upd (hn : H a = none) : Ext H (upd H a o) := fun b u e => by rw [upd_ne (ne_of_none e hn)]; exact e
theorem post1_same (e : Ext Hv H) (r : Rep K Hv v p) : Post1 K H Hv v H p false := ⟨Ext.refl, by show Rep K (grow Hv H H) v p; rw [grow_self e]; exact r⟩
theorem grow_upd (e : Ext Hv H) (hn : H a = none) : grow Hv H (upd H a o) = upd Hv a o := by
  funext b
  by_cases hb : b = a
  · subst hb; rw [grow_new hn, upd_same, upd_same]
  · rw [upd_ne hb]
    unfold grow
    cases q : H b with
    | none =>
      show upd H a o b = _
      rw [upd_ne hb, q]
      cases z : Hv b with
      | none => rfl
      | some u => rw [e b u z] at q; cases q
    | some u => rfl
theorem ext_none (e : Ext Hv H) (hn : H a = none) : Hv a = none := by
  cases z : Hv a with
  | none => rfl
  | some u => rw [e a u z] at hn; cases hn
theorem post1_tup (e : Ext Hv H) (hn : H a = none) (r : Reps K Hv vs ps) : Post1 K H Hv (.ref a) (upd H a (.tup vs)) (.tup ps) false :=
  ⟨ext_upd hn, by show Rep K (grow Hv H _) _ _; rw [grow_upd e hn]; exact .tup (.of upd_same) (r.ext (ext_upd (ext_none e hn)))⟩
theorem hid_grow (e : Ext Hv H) (hn : H a = none) : Ext Hv (hid (· = a) (grow Hv H (upd H a o))) := fun b u q => hid_some.mpr ⟨fun z => (by subst z; rw [ext_none e hn] at q; cases q), (by rw [grow_upd e hn, upd_ne (ne_of_none q (ext_none e hn))]; exact q)⟩
theorem post1_lst (e : Ext Hv H) (hn : H a = none) (r : Reps K Hv vs ps) : Post1 K H Hv (.ref a) (upd H a (.lst vs)) (.lst ps) true :=
  ⟨ext_upd hn, a, rfl, hn, vs, upd_same, r.ext (hid_grow e hn)⟩
theorem Post1.postE {fr : Bool} (R : Rl K Z H σ s) (h : Post1 K H (Hd Z σ s H) v H' p fr) : PostE K Z H σ s (.val p fr) s v H' := by
  obtain ⟨e, h⟩ := h
  cases fr with
  | false => exact ⟨Go.grown R e, by show Rep K (hid _ H') v p; rw [← grow_hid R.hidIn e]; exact h⟩
  | true =>
    obtain ⟨a, rfl, hn, ob⟩ := h
    have g := Go.grown R e
    obtain ⟨o, ho, _⟩ := ob.at_
    have hz : H' a ≠ none := by rw [ho]; nofun
    refine ⟨a, rfl, hn, ⟨R.hold hn e hz, g.fr, g.ow, g.tr, g.kp⟩, ob.ext rfl fun b u q => ?_, fun z => R.ownIn z hn, fun z => R.zin a z hn⟩
    obtain ⟨q1, q2⟩ := hid_some.mp q
    rw [grow_hid R.hidIn e] at q2
    obtain ⟨q3, q4⟩ := hid_some.mp q2
    refine hid_some.mpr ⟨fun z => ?_, q4⟩
    rcases z with (z | z) | z
    · exact q3 (.inl z)
    · exact q1 z
    · exact q3 (.inr z)
end

/-! ### expressions -/
def fin (o : Option (PV × Bool)) : PM Arg := match o with
  | some (p, fr) => ret (.val p fr)
  | none => stk
def eVar (i : Nat) : PM Arg := fun s => match s[i]? with
  | some (some (true, _)) => .ok (.bor i) s
  | some (some (false, p)) => .ok (.val p false) s
  | _ => .stuck
def eC (p : PV) : PM Arg := ret (.val p false)
def opt1 (op : Op1) (a : Arg) : PM Arg := fun s => match rv s a with
  | some p => fin (op p) s
  | none => .stuck
def opt2 (op : Op2) (a b : Arg) : PM Arg := fun s => match rv s a, rv s b with
  | some p, some q => fin (op p q) s
  | _, _ => .stuck
def optN (op : OpN) (as : List Arg) : PM Arg := fun s => match rvs s as with
  | some ps => fin (op ps) s
  | none => .stuck
def eOp1 (op : Op1) (f : PM Arg) : PM Arg := bnd f (opt1 op)
def eOp2 (op : Op2) (f g : PM Arg) : PM Arg := bnd f fun a => bnd g fun b => opt2 op a b
def eOpN (op : OpN) (f : PM (List Arg)) : PM Arg := bnd f (optN op)
def aNil : PM (List Arg) := ret []
def aCons (f : PM Arg) (g : PM (List Arg)) : PM (List Arg) := bnd f fun a => bnd g fun as => ret (wait a :: as)
section
variable {K : Frg} {mg : Str → Option Value} {W : WX} {Z : Addr → Prop} {H H' H1 : Hp} {σ : L2.St} {s s1 s' : SE} {v w : V} {vs : List V} {Q : VK}
/-- the ends of operations -/
theorem end1 {r : V → Hp → VK → Prop} {op : Op1} {a : Arg} (R : Rl K Z H σ s) (ro : ROk1 K r op) (ha : ArgAt K Z H σ s v a)
    (h : Mt (opt1 op a s) (fun q s' => ∀ v H', PostE K Z H σ s q s' v H' → Q v H') (fun c s' => XOut K mg W Z H σ s c s')) : r v H Q := by
  unfold opt1 at h
  cases e1 : rv s a with
  | none => rw [e1] at h; exact h.elim
  | some p =>
    rw [e1] at h
    simp only [fin] at h
    cases e3 : op p with
    | none => rw [e3] at h; exact h.elim
    | some q =>
      obtain ⟨q, fr⟩ := q
      rw [e3] at h
      exact ro H _ _ _ _ _ _ hid_sub (ha.repB R e1) e3 fun v H' z => h v H' (z.postE R)
theorem end2 {r : R2} {op : Op2} {a b : Arg} (R : Rl K Z H σ s) (ro : ROk2 K r op) (ha : ArgAt K Z H σ s v a) (hb : ArgAt K Z H σ s w b)
    (h : Mt (opt2 op a b s) (fun q s' => ∀ v H', PostE K Z H σ s q s' v H' → Q v H') (fun c s' => XOut K mg W Z H σ s c s')) : r v w H Q := by
  unfold opt2 at h
  cases e1 : rv s a with
  | none => rw [e1] at h; exact h.elim
  | some p =>
    cases e2 : rv s b with
    | none => rw [e1, e2] at h; exact h.elim
    | some p2 =>
      rw [e1, e2] at h
      simp only [fin] at h
      cases e3 : op p p2 with
      | none => rw [e3] at h; exact h.elim
      | some q =>
        obtain ⟨q, fr⟩ := q
        rw [e3] at h
        exact ro H _ _ _ _ _ _ _ _ hid_sub (ha.repB R e1) (hb.repB R e2) e3 fun v H' z => h v H' (z.postE R)
theorem endN {r : List V → Hp → VK → Prop} {op : OpN} {as : List Arg} (R : Rl K Z H σ s) (ro : ROkN K r op) (ha : ArgsAt K Z H σ s vs as)
    (h : Mt (optN op as s) (fun q s' => ∀ v H', PostE K Z H σ s q s' v H' → Q v H') (fun c s' => XOut K mg W Z H σ s c s')) : r vs H Q := by
  unfold optN at h
  cases e1 : rvs s as with
  | none => rw [e1] at h; exact h.elim
  | some p =>
    rw [e1] at h
    simp only [fin] at h
    cases e3 : op p with
    | none => rw [e3] at h; exact h.elim
    | some q =>
      obtain ⟨q, fr⟩ := q
      rw [e3] at h
      exact ro H _ _ _ _ _ _ hid_sub (ha.repBs R e1) e3 fun v H' z => h v H' (z.postE R)
/-- a wish told from an earlier state -/
theorem Mt.fromE {r : Rs Arg} (h : Mt r (fun q s' => ∀ v H', PostE K Z H σ s q s' v H' → Q v H') (fun c s' => XOut K mg W Z H σ s c s')) (g : Go K Z Z H σ s s1 H1) :
    Mt r (fun q s' => ∀ v H', PostE K Z H1 σ s1 q s' v H' → Q v H') (fun c s' => XOut K mg W Z H1 σ s1 c s') :=
  (h.imp fun q s' k v H' p => k v H' (p.after g)).later g
end
section
variable {X : Cx} {W : WX} {a b c e : Expr} {es : List Expr} {f g h : PM Arg} {fs : PM (List Arg)} {pos : Pos}
theorem qe_of {t : TE} (p : PE X e t) (m : ∀ σ H Q, lE (kx X) X.mg W f σ H Q → t σ H Q) : QE X W e f := ⟨pe_mono p m⟩
theorem qe_var {i : Nat} {x : Str} (hN : X.N[i]? = some x) (hv : Vis X.env.scope x) (hd : (x == ("__debug__" : Str)) = false := by decide) (hcd : (x == ("__classdict__" : Str)) = false := by decide) : QE X W (.Name x pos) (eVar i) :=
  qe_of (pe_var hN hv hd hcd) fun σ H Q h => by
    obtain ⟨Z, s, R, h⟩ := lE_iff.mp h
    unfold eVar at h
    cases q : s[i]? with
    | none => rw [q] at h; exact h.elim
    | some sl =>
      rw [q] at h
      match sl, q, h with
      | some (true, p), q, h =>
        obtain ⟨a, e, _, _⟩ := R.ow i p q
        exact ⟨_, e, h _ _ ⟨Go.refl R, e, p, q⟩⟩
      | some (false, p), q, h =>
        obtain ⟨v, e, r⟩ := R.sh i p q
        exact ⟨_, e, h _ _ ⟨Go.refl R, r⟩⟩
theorem qe_c {v : V} {p : PV} (h : PE X e (tC v)) (r : ∀ H, Rep (kx X) H v p) : QE X W e (eC p) :=
  qe_of h fun σ H Q h => by
    obtain ⟨Z, s, R, h⟩ := lE_iff.mp h
    exact h _ _ ⟨Go.refl R, r _⟩
theorem qe_int {i : Int} {j : Nat} : QE X W (.Constant (.int i) j pos) (eC (.int i)) := qe_c pe_int fun _ => .int i
theorem qe_bl {b : Bool} {j : Nat} : QE X W (.Constant (.bool b) j pos) (eC (.bl b)) := qe_c pe_bl fun _ => .bl b
theorem qe_non {j : Nat} : QE X W (.Constant .none j pos) (eC .non) := qe_c pe_non fun _ => .non
theorem qe_str {x : Str} {j : Nat} : QE X W (.Constant (.str x) j pos) (eC (.str x)) := qe_c pe_str fun _ => .str x
theorem qe_glob {x : Str} {v : V} {u : Value} {p : PV} (hg : Gl X x) (hm : X.mg x = some u) (r : RelV v u) (rp : ∀ H, Rep (kx X) H v p) (hd : (x == ("__debug__" : Str)) = false := by decide) : QE X W (.Name x pos) (eC p) := qe_c (pe_glob hg hm r hd) rp

theorem qe_op {op : Operator} {r : R2} {o : Op2} (ho : OpR X (binaryOp op) r) (ro : ROk2 (kx X) r o) (ha : QE X W a f) (hb : QE X W b g) : QE X W (.BinOp a op b pos) (eOp2 o f g) :=
  qe_of (pe_op ho ha.pe hb.pe) fun σ H Q h => by
    obtain ⟨Z, s, R, h⟩ := lE_iff.mp h
    refine lE_step R h.bnd_ fun r1 s1 v H1 k p1 => ?_
    obtain ⟨g1, a1⟩ := p1.wait
    refine lE_step g1.rl ((Mt.bnd_ k).later g1) fun r2 s2 w H2 k2 p2 => ?_
    obtain ⟨g2, a2⟩ := p2.wait
    exact end2 g2.rl ro (a1.go g2) a2 (k2.fromE (g1.trans g2))
theorem qe_cmp {op : CmpOp} {r : R2} {o : Op2} (ho : OpR X (compareOp op) r) (ro : ROk2 (kx X) r o) (ha : QE X W a f) (hb : QE X W b g) (hm : behindInMarks op b = false) : QE X W (.Compare a [op] [b] pos) (eOp2 o f g) :=
  qe_of (pe_cmpR ho ha.pe hb.pe hm) fun σ H Q h => by
    obtain ⟨Z, s, R, h⟩ := lE_iff.mp h
    refine lE_step R h.bnd_ fun r1 s1 v H1 k p1 => ?_
    obtain ⟨g1, a1⟩ := p1.wait
    refine lE_step g1.rl ((Mt.bnd_ k).later g1) fun r2 s2 w H2 k2 p2 => ?_
    obtain ⟨g2, a2⟩ := p2.wait
    exact end2 g2.rl ro (a1.go g2) a2 (k2.fromE (g1.trans g2))
theorem qe_un {op : UnaryOp} {r : V → Hp → VK → Prop} {o : Op1} (ho : UnR X (unaryOp op) r) (ro : ROk1 (kx X) r o) (ha : QE X W a f) : QE X W (.UnaryOp op a pos) (eOp1 o f) :=
  qe_of (pe_un ho ha.pe) fun σ H Q h => by
    obtain ⟨Z, s, R, h⟩ := lE_iff.mp h
    refine lE_step R h.bnd_ fun r1 s1 v H1 k p1 => ?_
    obtain ⟨g1, a1⟩ := p1.wait
    exact end1 g1.rl ro a1 (k.fromE g1)
theorem qe_ix {r : R2} {o : Op2} (ho : IxR X r) (ro : ROk2 (kx X) r o) (ha : QE X W a f) (hb : QE X W b g) (hs : PlainIx b) : QE X W (.Subscript a b pos) (eOp2 o f g) :=
  qe_of (pe_ix ho ha.pe hb.pe hs) fun σ H Q h => by
    obtain ⟨Z, s, R, h⟩ := lE_iff.mp h
    refine lE_step R h.bnd_ fun r1 s1 v H1 k p1 => ?_
    obtain ⟨g1, a1⟩ := p1.wait
    refine lE_step g1.rl ((Mt.bnd_ k).later g1) fun r2 s2 w H2 k2 p2 => ?_
    obtain ⟨g2, a2⟩ := p2.wait
    exact end2 g2.rl ro (a1.go g2) a2 (k2.fromE (g1.trans g2))
theorem qa_nil : QA X W [] aNil := ⟨pa_mono pa_nil fun σ H Q h => by
  obtain ⟨Z, s, R, h⟩ := lA_iff.mp h
  exact h _ _ (Go.refl R) .nil, fun s rs s' e => by cases e; rfl⟩
theorem argAt_wait {K : Frg} {Z : Addr → Prop} {H : Hp} {σ : L2.St} {s : SE} {v : V} {r : Arg} (h : ArgAt K Z H σ s v r) : ArgAt K Z H σ s v (wait r) := by
  cases r <;> exact h
theorem qa_cons (ha : QE X W e f) (hr : QA X W es fs) (hs : starEach (e :: es) X.env = (false, eval e X.env) :: starEach es X.env := by rfl) : QA X W (e :: es) (aCons f fs) := ⟨pa_mono (pa_cons ha.pe hr.pa hs) fun σ H Q h => by
  obtain ⟨Z, s, R, h⟩ := lA_iff.mp h
  refine lE_step R h.bnd_ fun r1 s1 v H1 k p1 => ?_
  obtain ⟨g1, a1⟩ := p1.wait
  refine lA_step g1.rl ((Mt.bnd_ k).later g1) fun r2 s2 w H2 k2 g2 a2 => ?_
  exact k2 _ _ (g1.trans g2) (.cons (argAt_wait (a1.go g2)) a2), fun s rs s' q => by
  unfold aCons bnd at q
  cases h1 : f s with
  | stuck => rw [h1] at q; cases q
  | exc c s1 => rw [h1] at q; cases q
  | ok a s1 =>
    rw [h1] at q
    dsimp only [bnd] at q
    cases h2 : fs s1 with
    | stuck => rw [h2] at q; cases q
    | exc c s2 => rw [h2] at q; cases q
    | ok as s2 =>
      rw [h2] at q
      cases q
      simp [hr.len _ _ _ h2]⟩
theorem qe_call {x : Str} {id : String} {r : List V → Hp → VK → Prop} {o : OpN} {p : Pos} (hc : CallR X (.builtin id) r) (ro : ROkN (kx X) r o) (hg : Gl X x) (hm : X.mg x = none) (hv : bootBuiltins x = some (.builtin id)) (ha : QA X W (e :: es) fs)
    (hn : x ≠ "__name__" := by decide) (hdb : (x == ("__debug__" : Str)) = false := by decide)
    (he : starEach (e :: es) X.env = (false, eval e X.env) :: starEach es X.env := by rfl) (hpl : (backTo pos (starEach es X.env)).any (·.1) = false := by rfl) : QE X W (.Call (.Name x p) (e :: es) [] pos) (eOpN o fs) :=
  qe_of (pe_callB hc hg hm hv ha.pa hn hdb he hpl) fun σ H Q h => by
    obtain ⟨Z, s, R, h⟩ := lE_iff.mp h
    refine lA_step R h.bnd_ fun r1 s1 vs H1 k g1 a1 => ?_
    exact endN g1.rl ro a1 (k.fromE g1)
theorem qe_callT {x : Str} {T : String} {r : List V → Hp → VK → Prop} {o : OpN} {p : Pos} (hc : CallR X (.type T) r) (ro : ROkN (kx X) r o) (hg : Gl X x) (hm : X.mg x = none) (hv : bootBuiltins x = some (.type T)) (ha : QA X W (e :: es) fs)
    (hn : x ≠ "__name__" := by decide) (hdb : (x == ("__debug__" : Str)) = false := by decide)
    (he : starEach (e :: es) X.env = (false, eval e X.env) :: starEach es X.env := by rfl) (hpl : (backTo pos (starEach es X.env)).any (·.1) = false := by rfl) : QE X W (.Call (.Name x p) (e :: es) [] pos) (eOpN o fs) :=
  qe_of (pe_callTy hc hg hm hv ha.pa hn hdb he hpl) fun σ H Q h => by
    obtain ⟨Z, s, R, h⟩ := lE_iff.mp h
    refine lA_step R h.bnd_ fun r1 s1 vs H1 k g1 a1 => ?_
    exact endN g1.rl ro a1 (k.fromE g1)
end
end HF
end

section
set_option Elab.async false
set_option linter.all false
set_option maxRecDepth 100000
set_option maxHeartbeats 1000000
set_option autoImplicit false
/-! HF2: tests, chains, displays, slices, stores. -/
namespace HF
open PySem PySem.Spec PyProof.Rows L2

/-! ### ends with any wish -/
section
variable {K : Frg} {mg : Str → Option Value} {W : WX} {Z : Addr → Prop} {H H' H1 : Hp} {σ : L2.St} {s s1 s' : SE} {v w : V} {vs : List V} {Q : VK} {ok : Arg → SE → Prop} {ex : Str → SE → Prop}
theorem end2' {r : R2} {op : Op2} {a b : Arg} (R : Rl K Z H σ s) (ro : ROk2 K r op) (ha : ArgAt K Z H σ s v a) (hb : ArgAt K Z H σ s w b)
    (h : Mt (opt2 op a b s) ok ex) (k : ∀ q s' v H', ok q s' → PostE K Z H σ s q s' v H' → Q v H') : r v w H Q :=
  end2 (mg := fun _ => none) (W := fun _ _ _ _ => True) R ro ha hb (by
    unfold opt2 at h ⊢
    cases e1 : rv s a with
    | none => rw [e1] at h; exact h.elim
    | some p =>
      cases e2 : rv s b with
      | none => rw [e1, e2] at h; exact h.elim
      | some p2 =>
        rw [e1, e2] at h
        simp only [fin] at h ⊢
        cases e3 : op p p2 with
        | none => rw [e3] at h; exact h.elim
        | some q => rw [e3] at h; exact fun v H' z => k _ _ v H' h z)
end

/-! ### tests -/
def asB : Arg → PM Bool
  | .val (.bl b) _ => ret b
  | _ => stk
def tBool (f : PM Arg) : PM Bool := bnd f asB
def truthP : PV → Option Bool
  | .non => some false
  | .bl b => some b
  | .int i => some (i != 0)
  | .str y => if y.length ≤ sizeLine then some ((y.length : Int) != 0) else none
  | .tup xs => some (!xs.isEmpty)
  | .lst xs => some (!xs.isEmpty)
  | _ => none
/-- an owned dict's truth -/
def truD (s : SE) : Arg → Option Bool
  | .bor i => (match s[i]? with
    | some (some (true, .dct 0 kvs)) => some (!kvs.isEmpty)
    | _ => none)
  | _ => none
def truA (a : Arg) : PM Bool := fun s => match rv s a with
  | some p => (match truthP p with
    | some b => .ok b s
    | none => (match truD s a with
      | some b => .ok b s
      | none => .stuck))
  | none => .stuck
def tTru (f : PM Arg) : PM Bool := bnd f truA
theorem Reps.isEmpty {K : Frg} {H : Hp} {vs : List V} {ps : List PV} (r : Reps K H vs ps) : vs.isEmpty = ps.isEmpty := by cases r <;> rfl
theorem RepD.isEmpty {K : Frg} {H : Hp} {l : List (PV × V × V)} {kvs : List (PV × PV)} (r : RepD K H l kvs) : l.isEmpty = kvs.isEmpty := by cases r <;> rfl
theorem truV_of {K : Frg} {H Hv : Hp} {v : V} {p : PV} {b : Bool} (e : Ext Hv H) (r : RepB K H Hv v p) (h : truthP p = some b) : TruV K.K v H b := by
  cases r with
  | of r =>
    cases r with
    | non => cases h; rfl
    | bl c => cases h; rfl
    | int i => cases h; rfl
    | str x =>
      simp only [truthP] at h
      split at h
      · cases h; rename_i z; exact ⟨z, rfl⟩
      · cases h
    | tup q r => cases h; exact .inr (.inl ⟨_, e.sqT q, by rw [r.isEmpty]⟩)
    | lst q r => cases h; exact .inl ⟨_, e.sqL (.of q), by rw [r.isEmpty]⟩
    | scr q => cases h
    | rng q => cases h
    | dct q r => cases h
  | ob o =>
    cases p with
    | lst ps => obtain ⟨vs, q, r⟩ := o; cases h; exact .inl ⟨_, .of q, by rw [r.isEmpty]⟩
    | dct k kvs => cases h
    | _ => exact o.elim
section
variable {X : Cx} {W : WX} {a b c e : Expr} {es rest : List Expr} {f g h : PM Arg} {ft gt : PM Bool} {fs : PM (List Arg)} {pos : Pos}
variable {K : Frg} {mg : Str → Option Value} {σ : L2.St} {H : Hp}
theorem lT_tBool {Q : Bool → Hp → Prop} (h : lT K mg W (tBool f) σ H Q) : lE K mg W f σ H fun x H1 => ∃ k, x = .bl k ∧ Q k H1 := by
  obtain ⟨Z, s, R, h⟩ := lT_iff.mp h
  refine lE_step R h.bnd_ fun r1 s1 v H1 k p1 => ?_
  match r1, k, p1 with
  | .val (.bl b) fr, k, p1 =>
    obtain ⟨g, r⟩ := p1.old
    cases r
    exact ⟨b, rfl, k _ g⟩
theorem op2_m {r : R2} {o : Op2} {Q : VK} (ro : ROk2 K r o) (h : lE K mg W (eOp2 o f g) σ H Q) : tOp r (lE K mg W f) (lE K mg W g) σ H Q := by
  obtain ⟨Z, s, R, h⟩ := lE_iff.mp h
  refine lE_step R h.bnd_ fun r1 s1 v H1 k p1 => ?_
  obtain ⟨g1, a1⟩ := p1.wait
  refine lE_step g1.rl ((Mt.bnd_ k).later g1) fun r2 s2 w H2 k2 p2 => ?_
  obtain ⟨g2, a2⟩ := p2.wait
  exact end2 g2.rl ro (a1.go g2) a2 (k2.fromE (g1.trans g2))
theorem qt_cmp {op : CmpOp} {r : R2} {o : Op2} (ho : OpR X (compareOp op) r) (ro : ROk2 (kx X) r o) (ha : QE X W a f) (hb : QE X W b g) (hm : behindInMarks op b = false) : QT X W (.Compare a [op] [b] pos) (tBool (eOp2 o f g)) :=
  ⟨pt_mono (pt_cmpR ho ha.pe hb.pe hm) fun σ H Q h => op2_m ro (lT_tBool h)⟩
end

/-! ### chains, and, or, not, if else -/
def eChain (o o' : Op2) (f g h : PM Arg) : PM Arg := bnd f fun a => bnd g fun b => bnd (opt2 o a b) fun z => bnd (asB z) fun k => if k = true then bnd h fun c => opt2 o' (wait b) c else ret (.val (.bl false) false)
def eAnd (f g : PM Arg) : PM Arg := bnd f fun a => bnd (asB a) fun k => if k = true then g else ret (.val (.bl false) false)
def eOr (f g : PM Arg) : PM Arg := bnd f fun a => bnd (asB a) fun k => if k = true then ret (.val (.bl true) false) else g
def eNot (f : PM Arg) : PM Arg := bnd (tTru f) fun k => ret (.val (.bl (!k)) false)
def eIf (c : PM Bool) (f g : PM Arg) : PM Arg := bnd c fun k => if k = true then f else g
def tAndP (f g : PM Bool) : PM Bool := bnd f fun k => if k = true then g else ret false
def tOrP (f g : PM Bool) : PM Bool := bnd f fun k => if k = true then ret true else g
def tNotP (f : PM Bool) : PM Bool := bnd f fun k => ret (!k)
section
variable {X : Cx} {W : WX} {a b c e : Expr} {es rest : List Expr} {f g h : PM Arg} {ft gt ct : PM Bool} {fs : PM (List Arg)} {pos : Pos}
variable {K : Frg} {mg : Str → Option Value} {σ : L2.St} {H : Hp}
theorem asB_post {Z : Addr → Prop} {s s1 : SE} {r : Arg} {v : V} {H1 : Hp} {ok : Bool → SE → Prop} {ex : Str → SE → Prop} (p : PostE K Z H σ s r s1 v H1) (h : Mt (asB r s1) ok ex) : ∃ k, v = .bl k ∧ Go K Z Z H σ s s1 H1 ∧ ok k s1 := by
  match r, h, p with
  | .val (.bl b) fr, h, p =>
    obtain ⟨g, r⟩ := p.old
    cases r
    exact ⟨b, rfl, g, h⟩
theorem rep_bl {k : Bool} : Rep K H (.bl k) (.bl k) := .bl k
theorem chain_m {r r' : R2} {o o' : Op2} {Q : VK} (ro : ROk2 K r o) (ro' : ROk2 K r' o') (q : lE K mg W (eChain o o' f g h) σ H Q) : tChain r r' (lE K mg W f) (lE K mg W g) (lE K mg W h) σ H Q := by
  obtain ⟨Z, s, R, q⟩ := lE_iff.mp q
  refine lE_step R q.bnd_ fun r1 s1 v H1 k p1 => ?_
  obtain ⟨g1, a1⟩ := p1.wait
  refine lE_step g1.rl ((Mt.bnd_ k).later g1) fun r2 s2 w H2 k2 p2 => ?_
  obtain ⟨g2, a2⟩ := p2.wait
  refine end2' g2.rl ro (a1.go g2) a2 k2.bnd_ fun z s3 u H3 k3 p3 => ?_
  obtain ⟨b, rfl, g3, k4⟩ := asB_post p3 k3.bnd_
  refine ⟨b, rfl, ?_⟩
  have G3 := (g1.trans g2).trans g3
  cases b with
  | false => exact k4 _ _ ⟨G3, .bl false⟩
  | true =>
    refine lE_step g3.rl ((Mt.bnd_ k4).later G3) fun r4 s4 x H4 k5 p4 => ?_
    obtain ⟨g4, a4⟩ := p4.wait
    exact end2 g4.rl ro' ((argAt_wait (a2.go g3)).go g4) a4 (k5.fromE (G3.trans g4))
theorem qe_chain {op op' : CmpOp} {r r' : R2} {o o' : Op2} (ho : OpR X (compareOp op) r) (ro : ROk2 (kx X) r o) (ho' : OpR X (compareOp op') r') (ro' : ROk2 (kx X) r' o') (ha : QE X W a f) (hb : QE X W b g) (hc : QE X W c h)
    (hm : lastMarks [op, op'] [b, c] = false := by rfl) (h1 : behindInMarks op b = false := by rfl) : QE X W (.Compare a [op, op'] [b, c] pos) (eChain o o' f g h) :=
  qe_of (pe_chain ho ho' ha.pe hb.pe hc.pe hm) fun σ H Q h => chain_m ro ro' h
theorem qt_chain {op op' : CmpOp} {r r' : R2} {o o' : Op2} (ho : OpR X (compareOp op) r) (ro : ROk2 (kx X) r o) (ho' : OpR X (compareOp op') r') (ro' : ROk2 (kx X) r' o') (ha : QE X W a f) (hb : QE X W b g) (hc : QE X W c h)
    (hm : lastMarks [op, op'] [b, c] = false := by rfl) (h1 : behindInMarks op b = false := by rfl) : QT X W (.Compare a [op, op'] [b, c] pos) (tBool (eChain o o' f g h)) :=
  ⟨pt_mono (pt_chain ho ho' ha.pe hb.pe hc.pe hm) fun σ H Q h => chain_m ro ro' (lT_tBool h)⟩
theorem qe_one {op : BoolOp} (ha : QE X W a f) : QE X W (.BoolOp op [a] pos) f := ⟨pe_one ha.pe⟩
theorem qe_and (ha : QE X W a f) (hb : QE X W (.BoolOp .And (b :: rest) pos) g) : QE X W (.BoolOp .And (a :: b :: rest) pos) (eAnd f g) :=
  qe_of (pe_and ha.pe hb.pe) fun σ H Q h => by
    obtain ⟨Z, s, R, h⟩ := lE_iff.mp h
    refine lE_step R h.bnd_ fun r1 s1 v H1 k p1 => ?_
    obtain ⟨b, rfl, g1, k2⟩ := asB_post p1 k.bnd_
    refine ⟨b, rfl, ?_⟩
    cases b with
    | false => exact k2 _ _ ⟨g1, .bl false⟩
    | true => exact lE_iff.mpr ⟨Z, s1, g1.rl, Mt.fromE k2 g1⟩
theorem qe_or (ha : QE X W a f) (hb : QE X W (.BoolOp .Or (b :: rest) pos) g) : QE X W (.BoolOp .Or (a :: b :: rest) pos) (eOr f g) :=
  qe_of (pe_or ha.pe hb.pe) fun σ H Q h => by
    obtain ⟨Z, s, R, h⟩ := lE_iff.mp h
    refine lE_step R h.bnd_ fun r1 s1 v H1 k p1 => ?_
    obtain ⟨b, rfl, g1, k2⟩ := asB_post p1 k.bnd_
    refine ⟨b, rfl, ?_⟩
    cases b with
    | true => exact k2 _ _ ⟨g1, .bl true⟩
    | false => exact lE_iff.mpr ⟨Z, s1, g1.rl, Mt.fromE k2 g1⟩
theorem truA_post {Z : Addr → Prop} {s s1 : SE} {r : Arg} {v : V} {H1 : Hp} {ok : Bool → SE → Prop} {ex : Str → SE → Prop} (p1 : PostE K Z H σ s r s1 v H1) (k : Mt (truA r s1) ok ex) : ∃ b, TruV K.K v H1 b ∧ Go K Z Z H σ s s1 H1 ∧ ok b s1 := by
  obtain ⟨g1, a1⟩ := p1.wait
  unfold truA at k
  cases e1 : rv s1 r with
  | none => rw [e1] at k; exact k.elim
  | some p =>
    rw [e1] at k
    cases e2 : truthP p with
    | some b =>
      simp only [e2] at k
      exact ⟨b, truV_of hid_sub (a1.repB g1.rl e1) e2, g1, k⟩
    | none =>
      simp only [e2] at k
      cases e3 : truD s1 r with
      | none => simp only [e3] at k; exact k.elim
      | some b =>
        simp only [e3] at k
        refine ⟨b, ?_, g1, k⟩
        match r, e3, a1 with
        | .bor i, e3, ⟨q1, _⟩ =>
          unfold truD at e3
          cases q : s1[i]? with
          | none => simp [q] at e3
          | some sl =>
            match sl, q, e3 with
            | some (true, .dct 0 kvs), q, e3 =>
              simp only [q, Option.some.injEq] at e3
              subst e3
              obtain ⟨a, q2, _, l, ⟨kv, q3, q4⟩, r⟩ := g1.rl.ow i _ q
              rw [q1] at q2; cases q2
              refine .inr (.inr ⟨kv, q3, ?_⟩)
              rw [← r.isEmpty, q4]
              simp
            | none, q, e3 => simp [q] at e3
            | some (false, _), q, e3 => simp [q] at e3
            | some (true, .non), q, e3 => simp [q] at e3
            | some (true, .bl _), q, e3 => simp [q] at e3
            | some (true, .int _), q, e3 => simp [q] at e3
            | some (true, .str _), q, e3 => simp [q] at e3
            | some (true, .tup _), q, e3 => simp [q] at e3
            | some (true, .lst _), q, e3 => simp [q] at e3
            | some (true, .rng _ _), q, e3 => simp [q] at e3
            | some (true, .scr _), q, e3 => simp [q] at e3
            | some (true, .dct (_ + 1) _), q, e3 => simp [q] at e3
theorem qt_truth (ha : QE X W a f) (he : ∀ whole, isTrue a X.env whole = (do let v ← whole; standAt a.pos; holding [v] (truthy v)) := by intro _; rfl) : QT X W a (tTru f) :=
  ⟨pt_mono (pt_truth ha.pe he) fun σ H Q h => by
    obtain ⟨Z, s, R, h⟩ := lT_iff.mp h
    refine lE_step R h.bnd_ fun r1 s1 v H1 k p1 => ?_
    obtain ⟨b, t, g1, k⟩ := truA_post p1 k
    exact ⟨b, t, k _ g1⟩⟩
theorem qe_not (ha : QE X W a f) : QE X W (.UnaryOp .Not a pos) (eNot f) :=
  qe_of (pe_notT ha.pe) fun σ H Q h => by
    obtain ⟨Z, s, R, h⟩ := lE_iff.mp h
    refine lE_step R h.bnd_.bnd_ fun r1 s1 v H1 k p1 => ?_
    obtain ⟨b, t, g1, k⟩ := truA_post p1 k
    exact ⟨b, t, k _ _ ⟨g1, .bl _⟩⟩
theorem qe_if (hc : QT X W c ct) (ha : QE X W a f) (hb : QE X W b g) : QE X W (.IfExp c a b pos) (eIf ct f g) :=
  qe_of (pe_ifExp hc.pt ha.pe hb.pe) fun σ H Q h => by
    obtain ⟨Z, s, R, h⟩ := lE_iff.mp h
    refine lT_step R h.bnd_ fun b s1 H1 k g1 => ?_
    cases b with
    | true => exact lE_iff.mpr ⟨Z, s1, g1.rl, Mt.fromE k g1⟩
    | false => exact lE_iff.mpr ⟨Z, s1, g1.rl, Mt.fromE k g1⟩
/-- a test whose whole has no say -/
theorem qt_of (h : QW X W a ft) : QT X W a ft := ⟨h.pw.pt⟩
theorem qw_and1 (ha : QT X W a ft) : QW X W (.BoolOp .And [a] pos) ft := ⟨pw_and1 ha.pt⟩
theorem qw_or1 (ha : QT X W a ft) : QW X W (.BoolOp .Or [a] pos) ft := ⟨pw_or1 ha.pt⟩
theorem Mt.fromT {mg : Str → Option Value} {Z : Addr → Prop} {s s1 : SE} {H1 : Hp} {r : Rs Bool} {Q : Bool → Hp → Prop} (h : Mt r (fun b s' => ∀ H', Go K Z Z H σ s s' H' → Q b H') (fun c s' => XOut K mg W Z H σ s c s')) (g : Go K Z Z H σ s s1 H1) :
    Mt r (fun b s' => ∀ H', Go K Z Z H1 σ s1 s' H' → Q b H') (fun c s' => XOut K mg W Z H1 σ s1 c s') :=
  (h.imp fun q s' k H' p => k H' (g.trans p)).later g
theorem qw_and (ha : QT X W a ft) (hb : QW X W (.BoolOp .And (b :: rest) pos) gt) : QW X W (.BoolOp .And (a :: b :: rest) pos) (tAndP ft gt) :=
  ⟨pw_mono (pw_and ha.pt hb.pw) fun σ H Q h => by
    obtain ⟨Z, s, R, h⟩ := lT_iff.mp h
    refine lT_step R h.bnd_ fun b s1 H1 k g1 => ?_
    cases b with
    | true => exact lT_iff.mpr ⟨Z, s1, g1.rl, Mt.fromT k g1⟩
    | false => exact k _ g1⟩
theorem qw_or (ha : QT X W a ft) (hb : QW X W (.BoolOp .Or (b :: rest) pos) gt) : QW X W (.BoolOp .Or (a :: b :: rest) pos) (tOrP ft gt) :=
  ⟨pw_mono (pw_or ha.pt hb.pw) fun σ H Q h => by
    obtain ⟨Z, s, R, h⟩ := lT_iff.mp h
    refine lT_step R h.bnd_ fun b s1 H1 k g1 => ?_
    cases b with
    | false => exact lT_iff.mpr ⟨Z, s1, g1.rl, Mt.fromT k g1⟩
    | true => exact k _ g1⟩
theorem qt_not (ha : QT X W a ft) : QT X W (.UnaryOp .Not a pos) (tNotP ft) :=
  ⟨pt_mono (pt_not ha.pt) fun σ H Q h => by
    obtain ⟨Z, s, R, h⟩ := lT_iff.mp h
    refine lT_step R h.bnd_ fun b s1 H1 k g1 => ?_
    exact k _ g1⟩
end

/-! ### letting go -/
def rel1 : Arg → PM PV
  | .val p _ => ret p
  | .bor i => fun s => match s[i]? with
    | some (some (true, p)) => .ok p (s.set i (some (false, p)))
    | some (some (false, p)) => .ok p s
    | _ => .stuck
def relAll : List Arg → PM (List PV)
  | [] => ret []
  | a :: as => bnd (rel1 a) fun p => bnd (relAll as) fun ps => ret (p :: ps)
section
variable {K : Frg} {mg : Str → Option Value} {W : WX} {Z : Addr → Prop} {H H' H1 : Hp} {σ : L2.St} {s s1 s' : SE} {v w : V} {vs : List V} {Q : VK}
theorem owns_set {i : Nat} {p : PV} {a : Addr} (h : Owns σ (s.set i (some (false, p))) a) : Owns σ s a ∧ ¬ σ[i]? = some (some (V.ref a)) ∨ Owns σ s a ∧ ∃ j q, j ≠ i ∧ s[j]? = some (some (true, q)) ∧ σ[j]? = some (some (V.ref a)) := by
  obtain ⟨j, q, e1, e2⟩ := h
  by_cases hj : i = j
  · subst hj
    rw [List.getElem?_set] at e1
    simp only [if_true] at e1
    split at e1 <;> simp at e1
  · rw [List.getElem?_set_ne hj] at e1
    exact .inr ⟨⟨j, q, e1, e2⟩, j, q, Ne.symm hj, e1, e2⟩
theorem Rl.release {i : Nat} {p : PV} (R : Rl K Z H σ s) (e : s[i]? = some (some (true, p))) : Go K Z Z H σ s (s.set i (some (false, p))) H ∧ ∃ a, σ[i]? = some (some (V.ref a)) ∧ Rep K (Hd Z σ (s.set i (some (false, p))) H) (.ref a) p := by
  obtain ⟨a, ea, na, ob⟩ := R.ow i p e
  have hi : i < s.length := (List.getElem?_eq_some_iff.mp e).1
  have sub : ∀ b, Owns σ (s.set i (some (false, p))) b → Owns σ s b ∧ b ≠ a := fun b h => by
    rcases owns_set h with ⟨h1, h2⟩ | ⟨h1, j, q, hj, h3, h4⟩
    · exact ⟨h1, fun z => h2 (z ▸ ea)⟩
    · exact ⟨h1, fun z => hj (R.dj j i q p a h3 e (z ▸ h4) ea)⟩
  have ext : Ext (Hd Z σ s H) (Hd Z σ (s.set i (some (false, p))) H) := hid_mono fun b o n q => ⟨fun z => n (z.imp id fun z => (sub b z).1), q⟩
  have ra : Rep K (Hd Z σ (s.set i (some (false, p))) H) (.ref a) p := ob.rep (by
    show hid _ H a = H a
    unfold hid
    rw [if_neg (fun z => z.elim na fun z => (sub a z).2 rfl)]) ext
  refine ⟨⟨⟨by rw [List.length_set]; exact R.len, R.zin, fun j q z => ?_, fun j q z => ?_, fun j k q r b z1 z2 z3 z4 => ?_⟩, fun _ _ q _ => q, fun b z => (sub b z).1, fun _ h => h, fun j q z => ?_⟩, a, ea, ra⟩
  · by_cases hj : i = j
    · subst hj
      rw [List.getElem?_set_self hi] at z
      cases z
      exact ⟨_, ea, ra⟩
    · rw [List.getElem?_set_ne hj] at z
      obtain ⟨v, e1, r⟩ := R.sh j q z
      exact ⟨v, e1, r.ext ext⟩
  · by_cases hj : i = j
    · subst hj
      rw [List.getElem?_set_self hi] at z
      cases z
    · rw [List.getElem?_set_ne hj] at z
      obtain ⟨b, e1, n, r⟩ := R.ow j q z
      exact ⟨b, e1, n, r.ext rfl ext⟩
  · have c : ∀ m x, (s.set i (some (false, p)))[m]? = some (some (true, x)) → s[m]? = some (some (true, x)) := fun m x y => by
      by_cases hm : i = m
      · subst hm
        rw [List.getElem?_set_self hi] at y
        cases y
      · rw [List.getElem?_set_ne hm] at y
        exact y
    exact R.dj j k q r b (c j q z1) (c k r z2) z3 z4
  · by_cases hj : i = j
    · subst hj
      exact ⟨_, List.getElem?_set_self hi⟩
    · exact ⟨q, by rw [List.getElem?_set_ne hj]; exact z⟩
theorem rel1_post {r : Arg} {p : PV} (R : Rl K Z H σ s) (h : ArgAt K Z H σ s v r) (e : rel1 r s = .ok p s') : Go K Z Z H σ s s' H ∧ Rep K (Hd Z σ s' H) v p := by
  match r, h with
  | .val q fr, h => cases e; exact ⟨Go.refl R, h⟩
  | .bor i, ⟨e1, f, q, e2⟩ =>
    unfold rel1 at e
    simp only [e2] at e
    cases f with
    | true =>
      cases e
      obtain ⟨g, a, e3, r⟩ := R.release e2
      rw [e1] at e3; cases e3
      exact ⟨g, r⟩
    | false =>
      cases e
      obtain ⟨v', e3, r⟩ := R.sh i _ e2
      rw [e1] at e3; cases e3
      exact ⟨Go.refl R, r⟩
theorem rel1_noexc {r : Arg} {c : Str} : rel1 r s ≠ .exc c s' := by
  cases r with
  | val p f => exact nofun
  | bor i =>
    unfold rel1
    dsimp only
    split <;> nofun
theorem relAll_post {rs : List Arg} : ∀ {s : SE} {vs : List V} {ok : List PV → SE → Prop} {ex : Str → SE → Prop}, Rl K Z H σ s → ArgsAt K Z H σ s vs rs → Mt (relAll rs s) ok ex → ∃ ps s', ok ps s' ∧ Go K Z Z H σ s s' H ∧ Reps K (Hd Z σ s' H) vs ps := by
  induction rs with
  | nil =>
    intro s vs ok ex R h m
    cases h
    exact ⟨[], s, m, Go.refl R, .nil⟩
  | cons a as ih =>
    intro s vs ok ex R h m
    cases h with
    | cons h1 h2 =>
      have m1 := Mt.bnd_ m
      cases e1 : rel1 a s with
      | stuck => rw [e1] at m1; exact m1.elim
      | exc c s1 => exact absurd e1 rel1_noexc
      | ok p s1 =>
        rw [e1] at m1
        obtain ⟨g1, r1⟩ := rel1_post R h1 e1
        obtain ⟨ps, s2, k, g2, r2⟩ := ih g1.rl (h2.go g1) (Mt.bnd_ m1)
        exact ⟨p :: ps, s2, k, g1.trans g2, .cons (r1.ext g2.vis) r2⟩
end

/-! ### displays -/
def mkTup (ps : List PV) : PM Arg := if ps.length ≤ sizeLine then ret (.val (.tup ps) false) else stk
def mkLst (ps : List PV) : PM Arg := if ps.length ≤ sizeLine then ret (.val (.lst ps) true) else stk
def eTup (fs : PM (List Arg)) : PM Arg := bnd fs fun as => bnd (relAll as) mkTup
def eLst (fs : PM (List Arg)) : PM Arg := bnd fs fun as => bnd (relAll as) mkLst
section
variable {X : Cx} {W : WX} {a b c e : Expr} {es rest : List Expr} {f g h : PM Arg} {fs : PM (List Arg)} {pos : Pos}
theorem qe_tup {x1 : Nat} (h : QA X W es fs) : QE X W (.Tuple es x1 pos) (eTup fs) :=
  qe_of (pe_tup h.pa) fun σ H Q h => by
    obtain ⟨Z, s, R, h⟩ := lE_iff.mp h
    refine lA_step R h.bnd_ fun rs s1 vs H1 k g1 a1 => ?_
    obtain ⟨ps, s2, k, g2, r⟩ := relAll_post g1.rl a1 k.bnd_
    unfold mkTup at k
    split at k
    · rename_i hl
      refine ⟨by rw [r.length]; exact hl, fun p hp => ?_⟩
      exact k _ _ (((post1_tup hid_sub hp r).postE g2.rl).after (g1.trans g2))
    · exact k.elim
theorem qe_lst (h : QA X W es fs) : QE X W (.List es pos) (eLst fs) :=
  qe_of (pe_lst h.pa) fun σ H Q h => by
    obtain ⟨Z, s, R, h⟩ := lE_iff.mp h
    refine lA_step R h.bnd_ fun rs s1 vs H1 k g1 a1 => ?_
    obtain ⟨ps, s2, k, g2, r⟩ := relAll_post g1.rl a1 k.bnd_
    unfold mkLst at k
    split at k
    · rename_i hl
      refine ⟨by rw [r.length]; exact hl, fun p hp => ?_⟩
      exact k _ _ (((post1_lst hid_sub hp r).postE g2.rl).after (g1.trans g2))
    · exact k.elim
end
end HF
end

section
set_option Elab.async false
set_option linter.all false
set_option maxRecDepth 100000
set_option maxHeartbeats 1000000
set_option autoImplicit false
/-! HF3: statements. -/
namespace HF
open PySem PySem.Spec PyProof.Rows L2

/-- how a statement ends -/
inductive Fl where
  | next | brk | cont | ret (r : Arg)
/-- a statement's way -/
structure GoS (K : Frg) (pin : List Nat) (Z Z' : Addr → Prop) (H : Hp) (σ : L2.St) (s : SE) (H' : Hp) (σ' : L2.St) (s' : SE) : Prop where
  rl : Rl K Z' H' σ' s'
  fr : ∀ a o, H a = some o → ¬ Owns σ s a → H' a = some o
  ow : ∀ a, Owns σ' s' a → Owns σ s a ∨ H a = none
  tr : ∀ a, H a ≠ none → H' a ≠ none
  pn : ∀ i ∈ pin, σ'[i]? = σ[i]?
  ln : σ'.length = σ.length
  kp : ∀ (i : Nat) (q : Bool × PV), s[i]? = some (some q) → ∃ q', s'[i]? = some (some q')
section
variable {K : Frg} {mg : Str → Option Value} {W : WX} {pin : List Nat} {Z Z' : Addr → Prop} {H H' H1 H2 : Hp} {σ σ' σ1 σ2 : L2.St} {s s1 s2 s' : SE} {v w : V} {vs : List V} {Q : VK} {D : Ends}
theorem GoS.refl (R : Rl K Z H σ s) : GoS K pin Z Z H σ s H σ s := ⟨R, fun _ _ e _ => e, fun _ o => .inl o, fun _ h => h, fun _ _ => rfl, rfl, fun _ q e => ⟨q, e⟩⟩
theorem Go.st (g : Go K Z Z' H σ s s' H') : GoS K pin Z Z' H σ s H' σ s' := ⟨g.rl, g.fr, fun a o => .inl (g.ow a o), g.tr, fun _ _ => rfl, rfl, g.kp⟩
theorem GoS.trans (a : GoS K pin Z Z H σ s H1 σ1 s1) (b : GoS K pin Z Z' H1 σ1 s1 H2 σ2 s2) : GoS K pin Z Z' H σ s H2 σ2 s2 where
  rl := b.rl
  fr := fun c o e n => b.fr c o (a.fr c o e n) fun z => (a.ow c z).elim n fun y => by rw [e] at y; cases y
  ow := fun c z => by
    rcases b.ow c z with y | y
    · exact a.ow c y
    · refine .inr ?_
      cases e : H c with
      | none => rfl
      | some o => exact absurd y (a.tr c (by rw [e]; nofun))
  tr := fun c h => b.tr c (a.tr c h)
  pn := fun i h => (b.pn i h).trans (a.pn i h)
  ln := b.ln.trans a.ln
  kp := fun i q e => let ⟨_, e1⟩ := a.kp i q e; b.kp i _ e1
theorem GoS.vis (a : GoS K pin Z Z H σ s H' σ' s') : Ext (Hd Z σ s H) (Hd Z σ' s' H') := hid_mono fun b o n q => by
  refine ⟨fun z => ?_, a.fr b o q fun z => n (.inr z)⟩
  rcases z with z | z
  · exact n (.inl z)
  · rcases a.ow b z with z | z
    · exact n (.inr z)
    · rw [q] at z; cases z
/-- all but what is owned -/
theorem GoS.visQ (a : GoS K pin Z Z' H σ s H' σ' s') : Ext (hid (Owns σ s) H) (hid (Owns σ' s') H') := hid_mono fun b o n q => by
  refine ⟨fun z => ?_, a.fr b o q n⟩
  rcases a.ow b z with z | z
  · exact n z
  · rw [q] at z; cases z
end
/-- what a return hands back -/
def PostR (K : Frg) (pin : List Nat) (Z : Addr → Prop) (H : Hp) (σ : L2.St) (s : SE) (r : Arg) (s' : SE) (v : V) (H' : Hp) (σ' : L2.St) : Prop :=
  match r with
  | .val p false => GoS K pin Z Z H σ s H' σ' s' ∧ Rep K (Hd Z σ' s' H') v p
  | .val p true => ∃ a, v = .ref a ∧ H a = none ∧ GoS K pin Z (fun b => Z b ∨ b = a) H σ s H' σ' s' ∧ Ob K H' (Hd (fun b => Z b ∨ b = a) σ' s' H') a p ∧ ¬ Owns σ' s' a ∧ ¬ Z a
  | .bor i => GoS K pin Z Z H σ s H' σ' s' ∧ σ'[i]? = some (some v) ∧ ∃ p, s'[i]? = some (some (true, p))
def XOutS (K : Frg) (mg : Str → Option Value) (W : WX) (pin : List Nat) (Z : Addr → Prop) (H : Hp) (σ : L2.St) (s : SE) (c : Str) (s' : SE) : Prop :=
  ∀ C H' σ', mg c = some (.ref C) → GoS K pin Z Z H σ s H' σ' s' → W (.ref C) none σ' H'
def lF (K : Frg) (pin : List Nat) (Z : Addr → Prop) (H : Hp) (σ : L2.St) (s : SE) (D : Ends) (f : Fl) (s' : SE) : Prop :=
  match f with
  | .next => ∀ σ' H', GoS K pin Z Z H σ s H' σ' s' → D.nx σ' H'
  | .brk => ∀ σ' H', GoS K pin Z Z H σ s H' σ' s' → D.bk σ' H'
  | .cont => ∀ σ' H', GoS K pin Z Z H σ s H' σ' s' → D.ct σ' H'
  | .ret r => ∀ v σ' H', PostR K pin Z H σ s r s' v H' σ' → D.rt v H'
def lS (K : Frg) (mg : Str → Option Value) (W : WX) (pin : List Nat) (F : PM Fl) : TS := fun D σ H => ∃ (Z : Addr → Prop) (s : SE), Rl K Z H σ s ∧ Mt (F s) (lF K pin Z H σ s D) (XOutS K mg W pin Z H σ s)
structure QS (X : Cx) (W : WX) (pin : List Nat) (st : Stmt) (F : PM Fl) : Prop where
  ps : PS X st (lS (kx X) X.mg W pin F)
structure QSs (X : Cx) (W : WX) (pin : List Nat) (sts : List Stmt) (F : PM Fl) : Prop where
  pss : PSs X sts (lS (kx X) X.mg W pin F)
theorem ps_mono {X : Cx} {st : Stmt} {t t' : TS} (h : PS X st t) (m : ∀ D σ H, t' D σ H → t D σ H) : PS X st t' := ⟨fun pins s σ H D I q => h.run pins s σ H D I (m D σ H q)⟩
theorem pss_mono {X : Cx} {sts : List Stmt} {t t' : TS} (h : PSs X sts t) (m : ∀ D σ H, t' D σ H → t D σ H) : PSs X sts t' := ⟨fun pins s σ H D I q => h.run pins s σ H D I (m D σ H q)⟩
section
variable {K : Frg} {mg : Str → Option Value} {W : WX} {pin : List Nat} {Z Z' : Addr → Prop} {H H' H1 H2 : Hp} {σ σ' σ1 σ2 : L2.St} {s s1 s2 s' : SE} {v w : V} {vs : List V} {Q : VK} {D : Ends}
theorem PostR.after {r : Arg} (g : GoS K pin Z Z H σ s H1 σ1 s1) (h : PostR K pin Z H1 σ1 s1 r s2 v H2 σ2) : PostR K pin Z H σ s r s2 v H2 σ2 := by
  match r, h with
  | .val p false, h => exact ⟨g.trans h.1, h.2⟩
  | .val p true, ⟨a, e, hn, g', q⟩ =>
    refine ⟨a, e, ?_, g.trans g', q⟩
    cases h : H a with
    | none => rfl
    | some o => exact absurd hn (g.tr a (by rw [h]; nofun))
  | .bor i, h => exact ⟨g.trans h.1, h.2⟩
theorem lF.after {f : Fl} (h : lF K pin Z H σ s D f s2) (g : GoS K pin Z Z H σ s H1 σ1 s1) : lF K pin Z H1 σ1 s1 D f s2 := by
  cases f with
  | next => exact fun σ' H' p => h σ' H' (g.trans p)
  | brk => exact fun σ' H' p => h σ' H' (g.trans p)
  | cont => exact fun σ' H' p => h σ' H' (g.trans p)
  | ret r => exact fun v σ' H' p => h v σ' H' (p.after g)
theorem XOutS.after {c : Str} (h : XOutS K mg W pin Z H σ s c s2) (g : GoS K pin Z Z H σ s H1 σ1 s1) : XOutS K mg W pin Z H1 σ1 s1 c s2 := fun C H' σ' e p => h C H' σ' e (g.trans p)
theorem XOutS.e {c : Str} (h : XOutS K mg W pin Z H σ s c s2) : XOut K mg W Z H σ s c s2 := fun C H' e p => h C H' σ e p.st
theorem MtS.after {r : Rs Fl} (h : Mt r (lF K pin Z H σ s D) (XOutS K mg W pin Z H σ s)) (g : GoS K pin Z Z H σ s H1 σ1 s1) : Mt r (lF K pin Z H1 σ1 s1 D) (XOutS K mg W pin Z H1 σ1 s1) := by
  cases r with
  | ok a s => exact lF.after h g
  | exc c s => exact XOutS.after h g
  | stuck => exact h
theorem MtS.ex {α : Type} {r : Rs α} {ok : α → SE → Prop} (h : Mt r ok (XOutS K mg W pin Z H σ s)) : Mt r ok (fun c s' => XOut K mg W Z H σ s c s') := by
  cases r with
  | ok a s => exact h
  | exc c s => exact XOutS.e h
  | stuck => exact h
theorem MtS.later {α : Type} {r : Rs α} {ok : α → SE → Prop} (h : Mt r ok (XOutS K mg W pin Z H σ s)) (g : GoS K pin Z Z H σ s H1 σ1 s1) : Mt r ok (XOutS K mg W pin Z H1 σ1 s1) := by
  cases r with
  | ok a s => exact h
  | exc c s => exact XOutS.after h g
  | stuck => exact h
end

/-! ### blocks, if, return, break .. -/
def sSeq (F G : PM Fl) : PM Fl := fun s => match F s with
  | .ok .next s1 => G s1
  | r => r
def sNext : PM Fl := ret .next
def sRet (f : PM Arg) : PM Fl := bnd f fun a => ret (.ret a)
def sExpr (f : PM Arg) : PM Fl := bnd f fun _ => ret .next
def sIf (c : PM Bool) (F G : PM Fl) : PM Fl := bnd c fun k => if k = true then F else G
section
variable {X : Cx} {W : WX} {pin : List Nat} {st : Stmt} {rest a b : List Stmt} {F G : PM Fl} {e c : Expr} {f : PM Arg} {ct : PM Bool} {pos : Pos}
theorem qss_nil : QSs X W pin [] sNext := ⟨pss_mono pss_nil fun D σ H h => by
  obtain ⟨Z, s, R, h⟩ := h
  exact h _ _ (GoS.refl R)⟩
theorem qss_cons (h1 : QS X W pin st F) (h2 : QSs X W pin rest G) : QSs X W pin (st :: rest) (sSeq F G) := ⟨pss_mono (pss_cons h1.ps h2.pss) fun D σ H h => by
  obtain ⟨Z, s, R, h⟩ := h
  refine ⟨Z, s, R, ?_⟩
  unfold sSeq at h
  cases q : F s with
  | stuck => rw [q] at h; exact h
  | exc c s1 => rw [q] at h; exact h
  | ok fl s1 =>
    rw [q] at h
    cases fl with
    | next => exact fun σ' H' g => ⟨Z, s1, g.rl, MtS.after h g⟩
    | brk => exact h
    | cont => exact h
    | ret r => exact h⟩
theorem qss_one (h1 : QS X W pin st F) : QSs X W pin [st] F := ⟨pss_one h1.ps⟩
theorem qs_pass : QS X W pin (.Pass pos) sNext := ⟨ps_mono ps_pass fun D σ H ⟨Z, s, R, h⟩ => h _ _ (GoS.refl R)⟩
theorem qs_break : QS X W pin (.Break pos) (ret .brk) := ⟨ps_mono ps_break fun D σ H ⟨Z, s, R, h⟩ => h _ _ (GoS.refl R)⟩
theorem qs_continue : QS X W pin (.Continue pos) (ret .cont) := ⟨ps_mono ps_continue fun D σ H ⟨Z, s, R, h⟩ => h _ _ (GoS.refl R)⟩
theorem qs_ret (he : QE X W e f) : QS X W pin (.Return (some e) pos) (sRet f) := ⟨ps_mono (ps_ret he.pe) fun D σ H ⟨Z, s, R, h⟩ => by
  refine lE_step R (MtS.ex (Mt.bnd_ h)) fun r s1 v H1 k p => ?_
  refine k v σ H1 ?_
  match r, p with
  | .val q false, p => exact ⟨p.1.st, p.2⟩
  | .val q true, ⟨a, e, hn, g, z⟩ => exact ⟨a, e, hn, g.st, z⟩
  | .bor i, p => exact ⟨p.1.st, p.2⟩⟩
theorem qs_retN : QS X W pin (.Return none pos) (ret (.ret (.val .non false))) := ⟨ps_mono ps_retN fun D σ H ⟨Z, s, R, h⟩ => h _ σ _ ⟨GoS.refl R, .non⟩⟩
theorem qs_expr (he : QE X W e f) (hs : swapsWith e none pos.line X.env = pure false := by rfl) : QS X W pin (.Expr e pos) (sExpr f) := ⟨ps_mono (ps_expr he.pe hs) fun D σ H ⟨Z, s, R, h⟩ => by
  refine lE_step R (MtS.ex (Mt.bnd_ h)) fun r s1 v H1 k p => ?_
  exact k σ H1 p.go.st⟩
theorem qs_if (hc : QT X W c ct) (ha : QSs X W pin a F) (hb : QSs X W pin b G) : QS X W pin (.If c a b pos) (sIf ct F G) := ⟨ps_mono (ps_if hc.pt ha.pss hb.pss) fun D σ H ⟨Z, s, R, h⟩ => by
  refine lT_step R (MtS.ex (Mt.bnd_ h)) fun k s1 H1 q g => ?_
  cases k with
  | true => exact ⟨Z, s1, g.rl, MtS.after q g.st⟩
  | false => exact ⟨Z, s1, g.rl, MtS.after q g.st⟩⟩
end

/-! ### stores -/
def setV (i : Nat) (p : PV) (fr : Bool) : PM Unit := fun s => if i < s.length then .ok () (s.set i (some (fr, p))) else .stuck
section
variable {K : Frg} {mg : Str → Option Value} {W : WX} {pin : List Nat} {Z Z' : Addr → Prop} {H H' H1 H2 : Hp} {σ σ' σ1 σ2 : L2.St} {s s1 s2 s' : SE} {v w : V} {vs : List V} {Q : VK} {D : Ends} {p : PV} {i : Nat}
theorem owns_set' {fr : Bool} {a : Addr} (hl : s.length = σ.length) (h : Owns (σ.set i (some v)) (s.set i (some (fr, p))) a) : (∃ j q, j ≠ i ∧ s[j]? = some (some (true, q)) ∧ σ[j]? = some (some (V.ref a))) ∨ (fr = true ∧ v = .ref a) := by
  obtain ⟨j, q, e1, e2⟩ := h
  by_cases hj : i = j
  · subst hj
    refine .inr ?_
    by_cases hi : i < s.length
    · rw [List.getElem?_set_self hi] at e1
      rw [List.getElem?_set_self (by omega)] at e2
      simp at e1 e2
      exact ⟨e1.1, e2⟩
    · rw [List.getElem?_eq_none (by simpa using hi)] at e1
      cases e1
  · rw [List.getElem?_set_ne hj] at e1 e2
    exact .inl ⟨j, q, Ne.symm hj, e1, e2⟩
theorem set_kp {i : Nat} {x : Bool × PV} : ∀ (j : Nat) (q : Bool × PV), s[j]? = some (some q) → ∃ q', (s.set i (some x))[j]? = some (some q') := fun j q e => by
  by_cases hj : i = j
  · subst hj
    exact ⟨_, List.getElem?_set_self (List.getElem?_eq_some_iff.mp e).1⟩
  · exact ⟨q, by rw [List.getElem?_set_ne hj]; exact e⟩
theorem store_ow_sub {a : Addr} (hl : s.length = σ.length) (h : Owns (σ.set i (some v)) (s.set i (some (false, p))) a) : Owns σ s a := by
  rcases owns_set' hl h with ⟨j, q, _, e1, e2⟩ | ⟨e, _⟩
  · exact ⟨j, q, e1, e2⟩
  · cases e
/-- a slot takes a value that is shared -/
theorem store_sh (R : Rl K Z H σ s) (r : Rep K (Hd Z σ s H) v p) (hp : i ∉ pin) (hi : i < s.length) : GoS K pin Z Z H σ s H (σ.set i (some v)) (s.set i (some (false, p))) := by
  have hl := R.len
  have sub : ∀ a, Owns (σ.set i (some v)) (s.set i (some (false, p))) a → Owns σ s a := fun a h => by
    rcases owns_set' hl h with ⟨j, q, _, e1, e2⟩ | ⟨e, _⟩
    · exact ⟨j, q, e1, e2⟩
    · cases e
  have ext : Ext (Hd Z σ s H) (Hd Z (σ.set i (some v)) (s.set i (some (false, p))) H) := hid_mono fun b o n q => ⟨fun z => n (z.imp id (sub b)), q⟩
  refine ⟨⟨by rw [List.length_set, List.length_set]; exact hl, R.zin, fun j q z => ?_, fun j q z => ?_, fun j k q r a z1 z2 z3 z4 => ?_⟩, fun _ _ e _ => e, fun a h => .inl (sub a h), fun _ h => h, fun j hj => ?_, List.length_set, set_kp⟩
  · by_cases hj : i = j
    · subst hj
      rw [List.getElem?_set_self hi] at z
      cases z
      exact ⟨v, List.getElem?_set_self (by omega), r.ext ext⟩
    · rw [List.getElem?_set_ne hj] at z
      obtain ⟨u, e1, r⟩ := R.sh j q z
      exact ⟨u, by rw [List.getElem?_set_ne hj]; exact e1, r.ext ext⟩
  · by_cases hj : i = j
    · subst hj
      rw [List.getElem?_set_self hi] at z
      cases z
    · rw [List.getElem?_set_ne hj] at z
      obtain ⟨a, e1, n, r⟩ := R.ow j q z
      exact ⟨a, by rw [List.getElem?_set_ne hj]; exact e1, n, r.ext rfl ext⟩
  · have c : ∀ m x, (s.set i (some (false, p)))[m]? = some (some (true, x)) → i ≠ m ∧ s[m]? = some (some (true, x)) := fun m x y => by
      by_cases hm : i = m
      · subst hm
        rw [List.getElem?_set_self hi] at y
        cases y
      · rw [List.getElem?_set_ne hm] at y
        exact ⟨hm, y⟩
    obtain ⟨n1, c1⟩ := c j q z1
    obtain ⟨n2, c2⟩ := c k r z2
    rw [List.getElem?_set_ne n1] at z3
    rw [List.getElem?_set_ne n2] at z4
    exact R.dj j k q r a c1 c2 z3 z4
  · rw [List.getElem?_set_ne (by intro e; subst e; exact hp hj)]
/-- a slot takes a new object -/
theorem store_ow {a : Addr} (R : Rl K (fun b => Z b ∨ b = a) H σ s) (ob : Ob K H (Hd (fun b => Z b ∨ b = a) σ s H) a p) (no : ¬ Owns σ s a) (nz : ¬ Z a) (hp : i ∉ pin) (hi : i < s.length) :
    Rl K Z H (σ.set i (some (.ref a))) (s.set i (some (true, p))) ∧ (∀ b, Owns (σ.set i (some (.ref a))) (s.set i (some (true, p))) b → Owns σ s b ∨ b = a) ∧ ∀ j ∈ pin, (σ.set i (some (.ref a)))[j]? = σ[j]? := by
  have hl := R.len
  have sub : ∀ b, Owns (σ.set i (some (.ref a))) (s.set i (some (true, p))) b → Owns σ s b ∨ b = a := fun b h => by
    rcases owns_set' hl h with ⟨j, q, _, e1, e2⟩ | ⟨_, e⟩
    · exact .inl ⟨j, q, e1, e2⟩
    · cases e; exact .inr rfl
  have ext : Ext (Hd (fun b => Z b ∨ b = a) σ s H) (Hd Z (σ.set i (some (.ref a))) (s.set i (some (true, p))) H) := hid_mono fun b o n q => ⟨fun z => n (by
    rcases z with z | z
    · exact .inl (.inl z)
    · rcases sub b z with z | z
      · exact .inr z
      · exact .inl (.inr z)), q⟩
  refine ⟨⟨by rw [List.length_set, List.length_set]; exact hl, fun b z => R.zin b (.inl z), fun j q z => ?_, fun j q z => ?_, fun j k q r b z1 z2 z3 z4 => ?_⟩, sub, fun j hj => ?_⟩
  · by_cases hj : i = j
    · subst hj
      rw [List.getElem?_set_self hi] at z
      cases z
    · rw [List.getElem?_set_ne hj] at z
      obtain ⟨u, e1, r⟩ := R.sh j q z
      exact ⟨u, by rw [List.getElem?_set_ne hj]; exact e1, r.ext ext⟩
  · by_cases hj : i = j
    · subst hj
      rw [List.getElem?_set_self hi] at z
      cases z
      exact ⟨a, List.getElem?_set_self (by omega), nz, ob.ext rfl ext⟩
    · rw [List.getElem?_set_ne hj] at z
      obtain ⟨b, e1, n, r⟩ := R.ow j q z
      exact ⟨b, by rw [List.getElem?_set_ne hj]; exact e1, fun z => n (.inl z), r.ext rfl ext⟩
  · have c : ∀ m x, (s.set i (some (true, p)))[m]? = some (some (true, x)) → (σ.set i (some (V.ref a)))[m]? = some (some (V.ref b)) → (i = m ∧ b = a) ∨ (i ≠ m ∧ s[m]? = some (some (true, x)) ∧ σ[m]? = some (some (V.ref b))) := fun m x y z => by
      by_cases hm : i = m
      · subst hm
        rw [List.getElem?_set_self (by omega)] at z
        cases z
        exact .inl ⟨rfl, rfl⟩
      · rw [List.getElem?_set_ne hm] at y z
        exact .inr ⟨hm, y, z⟩
    rcases c j q z1 z3 with ⟨e1, e2⟩ | ⟨n1, c1, d1⟩
    · rcases c k r z2 z4 with ⟨f1, _⟩ | ⟨_, c2, d2⟩
      · exact e1 ▸ f1
      · subst e2; exact absurd ⟨k, r, c2, d2⟩ no
    · rcases c k r z2 z4 with ⟨_, f2⟩ | ⟨_, c2, d2⟩
      · subst f2; exact absurd ⟨j, q, c1, d1⟩ no
      · exact R.dj j k q r b c1 c2 d1 d2
  · rw [List.getElem?_set_ne (by intro e; subst e; exact hp hj)]
/-- a value goes into a slot -/
def setA (i : Nat) : Arg → PM Unit
  | .val p fr => setV i p fr
  | .bor j => bnd (rel1 (.bor j)) fun p => setV i p false
theorem setA_post {r : Arg} {ok : Unit → SE → Prop} {ex : Str → SE → Prop} (p1 : PostE K Z H σ s r s1 v H1) (hp : i ∉ pin) (m : Mt (setA i r s1) ok ex) : ∃ s2, ok () s2 ∧ GoS K pin Z Z H σ s H1 (σ.set i (some v)) s2 := by
  match r, p1, m with
  | .val p false, p1, m =>
    simp only [setA, setV] at m
    split at m
    · rename_i hi
      exact ⟨_, m, (p1.1.st).trans (store_sh p1.1.rl p1.2 hp hi)⟩
    · exact m.elim
  | .val p true, ⟨a, e, hn, g, ob, no, nz⟩, m =>
    subst e
    simp only [setA, setV] at m
    split at m
    · rename_i hi
      obtain ⟨R, ow, pn⟩ := store_ow g.rl ob no nz hp hi
      refine ⟨_, m, R, g.fr, fun b z => ?_, g.tr, pn, List.length_set, fun j q e => let ⟨_, e1⟩ := g.kp j q e; set_kp j _ e1⟩
      rcases ow b z with z | rfl
      · exact .inl (g.ow b z)
      · exact .inr hn
    · exact m.elim
  | .bor j, p1, m =>
    obtain ⟨g, a1⟩ := PostE.wait p1
    have m := Mt.bnd_ m
    cases e1 : rel1 (.bor j) s1 with
    | stuck => rw [e1] at m; exact m.elim
    | exc c s2 => exact absurd e1 rel1_noexc
    | ok q s2 =>
      rw [e1] at m
      obtain ⟨g1, r1⟩ := rel1_post g.rl a1 e1
      have m : Mt (setV i q false s2) ok ex := m
      simp only [setV] at m
      split at m
      · rename_i hi
        exact ⟨_, m, ((g.trans g1).st).trans (store_sh g1.rl r1 hp hi)⟩
      · exact m.elim
end
def sSet (i : Nat) (f : PM Arg) : PM Fl := bnd f fun a => bnd (setA i a) fun _ => ret .next
section
variable {X : Cx} {W : WX} {pin : List Nat} {e c : Expr} {f g : PM Arg} {pos : Pos}
theorem qs_set {i : Nat} {x : Str} {pos' : Pos} (hp : i ∉ pin) (hN : X.N.Nodup) (hi : X.N[i]? = some x) (hx : Loc X.env.scope x) (he : QE X W e f) (hs : swapsWith e (some (.Name x pos')) pos.line X.env = pure false := by rfl)
    (hf : X.fn x = true ∨ X.env.scope.names.lookup x = some .local := by first | exact .inl rfl | exact .inr rfl | assumption) : QS X W pin (.Assign [.Name x pos'] e pos) (sSet i f) :=
  ⟨ps_mono (ps_set hN hi hx he.pe hs hf) fun D σ H ⟨Z, s, R, h⟩ => by
    refine lE_step R (MtS.ex (Mt.bnd_ h)) fun r s1 v H1 k p => ?_
    obtain ⟨s2, k2, g⟩ := setA_post p hp k.bnd_
    exact k2 _ _ g⟩
end

/-! ### targets -/
def lG (K : Frg) (pin : List Nat) (G : PV → PM Unit) : TG := fun v σ H Q => ∃ (Z : Addr → Prop) (s : SE) (p : PV), Rl K Z H σ s ∧ Rep K (Hd Z σ s H) v p ∧ Mt (G p s) (fun _ s' => ∀ σ' H', GoS K pin Z Z H σ s H' σ' s' → (∀ a, Owns σ' s' a → Owns σ s a) → Q σ' H') (fun _ _ => False)
structure QG (X : Cx) (pin : List Nat) (tg : Expr) (G : PV → PM Unit) : Prop where
  pg : PG X tg (lG (kx X) pin G)
def lGs (K : Frg) (pin : List Nat) (G : List PV → PM Unit) : TGs := fun vs σ H Q => ∃ (Z : Addr → Prop) (s : SE) (ps : List PV), Rl K Z H σ s ∧ Reps K (Hd Z σ s H) vs ps ∧ Mt (G ps s) (fun _ s' => ∀ σ' H', GoS K pin Z Z H σ s H' σ' s' → (∀ a, Owns σ' s' a → Owns σ s a) → Q σ' H') (fun _ _ => False)
structure QGs (X : Cx) (pin : List Nat) (tgs : List Expr) (G : List PV → PM Unit) : Prop where
  pgs : PGs X tgs (lGs (kx X) pin G)
def gNm (i : Nat) : PV → PM Unit := fun p => setV i p false
def gsNil : List PV → PM Unit
  | [] => ret ()
  | _ => stk
def gsCons (G : PV → PM Unit) (Gs : List PV → PM Unit) : List PV → PM Unit
  | p :: ps => bnd (G p) fun _ => Gs ps
  | [] => stk
def gTp (n : Nat) (Gs : List PV → PM Unit) : PV → PM Unit
  | .tup ps => if ps.length = n then Gs ps else stk
  | _ => stk
theorem pg_mono {X : Cx} {e : Expr} {t t' : TG} (h : PG X e t) (m : ∀ v σ H Q, t' v σ H Q → t v σ H Q) : PG X e t' := ⟨fun pins s σ H v u Q I r q => h.run pins s σ H v u Q I r (m v σ H Q q)⟩
theorem pgs_mono {X : Cx} {e : List Expr} {t t' : TGs} (h : PGs X e t) (m : ∀ v σ H Q, t' v σ H Q → t v σ H Q) : PGs X e t' := ⟨fun pins s σ H v u Q I r q => h.run pins s σ H v u Q I r (m v σ H Q q)⟩
section
variable {X : Cx} {W : WX} {pin : List Nat} {e c : Expr} {es : List Expr} {f g : PM Arg} {pos : Pos} {G : PV → PM Unit} {Gs : List PV → PM Unit}
theorem qg_name {i : Nat} {x : Str} (hp : i ∉ pin) (hN : X.N.Nodup) (hi : X.N[i]? = some x) (hx : Loc X.env.scope x) (hf : X.fn x = true ∨ X.env.scope.names.lookup x = some .local := by first | exact .inl rfl | exact .inr rfl | assumption) :
    QG X pin (.Name x pos) (gNm i) := ⟨pg_mono (pg_name hN hi hx hf) fun v σ H Q ⟨Z, s, p, R, r, h⟩ => by
  simp only [gNm, setV] at h
  split at h
  · rename_i hi
    exact h _ _ (store_sh R r hp hi) fun a z => store_ow_sub R.len z
  · exact h.elim⟩
theorem qgs_nil : QGs X pin [] gsNil := ⟨pgs_mono pgs_nil fun vs σ H Q ⟨Z, s, ps, R, r, h⟩ => by
  cases r with
  | nil => exact ⟨rfl, h _ _ (GoS.refl R) fun _ z => z⟩
  | cons _ _ => exact h.elim⟩
theorem qgs_cons (h1 : QG X pin e G) (h2 : QGs X pin es Gs) (hs : (assignEach (e :: es) X.env).map (·.2) = assign e X.env :: (assignEach es X.env).map (·.2) := by rfl) : QGs X pin (e :: es) (gsCons G Gs) :=
  ⟨pgs_mono (pgs_cons h1.pg h2.pgs hs) fun vs σ H Q ⟨Z, s, ps, R, r, h⟩ => by
    cases r with
    | nil => exact h.elim
    | cons a r =>
      refine ⟨_, _, rfl, Z, s, _, R, a, ?_⟩
      refine Mt.imp (Mt.bnd_ h) fun u s1 h σ' H' g ow => ?_
      exact ⟨Z, s1, _, g.rl, r.ext g.vis, Mt.imp h fun _ s2 k σ2 H2 g2 ow2 => k σ2 H2 (g.trans g2) fun a z => ow a (ow2 a z)⟩⟩
theorem qg_tup {k n : Nat} (hc : X.calm = true) (h : QGs X pin es Gs) (hn : (assignEach es X.env).length = n := by rfl) (hst : (assignEach es X.env).findIdx? (·.1) = none := by rfl) : QG X pin (.Tuple es k pos) (gTp n Gs) :=
  ⟨pg_mono (pg_tup hc h.pgs hn hst) fun v σ H Q ⟨Z, s, p, R, r, h⟩ => by
    cases r with
    | tup q r =>
      simp only [gTp] at h
      split at h
      · rename_i hl
        exact ⟨_, _, rfl, hid_sub.sqT q, by rw [r.length]; exact hl, Z, s, _, R, r, h⟩
      · exact h.elim
    | _ => exact h.elim⟩
end
/-- target = value -/
def nx {α : Type} (f : PM α) : PM α := fun s => match f s with
  | .ok a s' => .ok a s'
  | _ => .stuck
theorem Mt.nx {α : Type} {f : PM α} {s : SE} {ok : α → SE → Prop} {ex ex' : Str → SE → Prop} (h : Mt (nx f s) ok ex) : Mt (f s) ok ex' := by
  unfold HF.nx at h
  cases q : f s with
  | ok a s' => rw [q] at h; exact h
  | exc c s' => rw [q] at h; exact h.elim
  | stuck => rw [q] at h; exact h.elim
def sAsg (f : PM Arg) (G : PV → PM Unit) : PM Fl := bnd f fun a => bnd (rel1 a) fun p => bnd (nx (G p)) fun _ => ret .next
section
variable {X : Cx} {W : WX} {pin : List Nat} {e tg c : Expr} {f g : PM Arg} {pos : Pos} {G : PV → PM Unit}
theorem qs_asg (he : QE X W e f) (hg : QG X pin tg G) (hs : swapsWithSole [tg] e pos.line X.env = pure false := by rfl) (hw : swappedStores [tg] e X.env = pure none := by rfl)
    (h1 : (assignEach [tg] X.env).map (·.2) = [assign tg X.env] := by rfl) : QS X W pin (.Assign [tg] e pos) (sAsg f G) :=
  ⟨ps_mono (ps_asg he.pe hg.pg hs hw h1) fun D σ H ⟨Z, s, R, h⟩ => by
    refine lE_step R (MtS.ex (Mt.bnd_ h)) fun r s1 v H1 k p => ?_
    obtain ⟨g, a1⟩ := p.wait
    have m := Mt.bnd_ k
    cases e1 : rel1 r s1 with
    | stuck => rw [e1] at m; exact m.elim
    | exc c s2 => exact absurd e1 rel1_noexc
    | ok q s2 =>
      rw [e1] at m
      obtain ⟨g1, r1⟩ := rel1_post g.rl a1 e1
      refine ⟨Z, s2, q, g1.rl, r1, ?_⟩
      refine Mt.imp (Mt.nx (Mt.bnd_ m)) fun u s3 k3 σ' H' gs _ => k3 σ' H' (((g.trans g1).st).trans gs)⟩
end
end HF
end

section
set_option Elab.async false
set_option linter.all false
set_option maxRecDepth 100000
set_option maxHeartbeats 1000000
set_option autoImplicit false
/-! HF4: loops, stores into owned things, raise. -/
namespace HF
open PySem PySem.Spec PyProof.Rows L2

/-! ### while -/
/-- n turns at most -/
def wl (c : PM Bool) (F : PM Fl) : Nat → PM Fl
  | 0 => stk
  | n + 1 => bnd c fun k => if k = true then (fun s => match F s with
    | .ok .next s1 => wl c F n s1
    | .ok .cont s1 => wl c F n s1
    | .ok .brk s1 => .ok .next s1
    | r => r) else ret .next
theorem wl_mono (c : PM Bool) (F : PM Fl) : ∀ (n m : Nat) (s : SE), n ≤ m → wl c F n s ≠ .stuck → wl c F m s = wl c F n s := by
  intro n
  induction n with
  | zero => intro m s _ h; exact absurd rfl h
  | succ n ih =>
    intro m s hm h
    obtain ⟨m, rfl⟩ : ∃ k, m = k + 1 := ⟨m - 1, by omega⟩
    have hm : n ≤ m := by omega
    unfold wl bnd at h ⊢
    cases q : c s with
    | stuck => rfl
    | exc x s1 => rfl
    | ok k s1 =>
      rw [q] at h
      cases k with
      | false => rfl
      | true =>
        simp only [if_true] at h ⊢
        cases q2 : F s1 with
        | stuck => rfl
        | exc x s2 => rfl
        | ok fl s2 =>
          rw [q2] at h
          cases fl with
          | next => exact ih m s2 hm h
          | cont => exact ih m s2 hm h
          | brk => rfl
          | ret r => rfl
open Classical in
/-- while, as many turns as it takes -/
noncomputable def sWhile (c : PM Bool) (F : PM Fl) : PM Fl := fun s => if h : ∃ n, wl c F n s ≠ .stuck then wl c F (Classical.choose h) s else .stuck
theorem sWhile_eq {c : PM Bool} {F : PM Fl} {s : SE} (n : Nat) (h : wl c F n s ≠ .stuck) : sWhile c F s = wl c F n s := by
  unfold sWhile
  have e : ∃ n, wl c F n s ≠ .stuck := ⟨n, h⟩
  rw [dif_pos e]
  have h2 := Classical.choose_spec e
  rcases Nat.le_total n (Classical.choose e) with z | z
  · exact wl_mono c F _ _ s z h
  · exact (wl_mono c F _ _ s z h2).symm
theorem sWhile_out {c : PM Bool} {F : PM Fl} {s : SE} (h : sWhile c F s ≠ .stuck) : ∃ n, sWhile c F s = wl c F n s := by
  unfold sWhile at h ⊢
  split
  · exact ⟨_, rfl⟩
  · rename_i e
    rw [dif_neg e] at h
    exact absurd rfl h
section
variable {X : Cx} {W : WX} {pin : List Nat} {c : Expr} {body : List Stmt} {ct : PM Bool} {F : PM Fl} {pos : Pos}
theorem qs_while (hp : PassesOwn (model X.prog X.w) X.A X.env X.xe) (hc : QT X W c ct) (hb : QSs X W pin body F) : QS X W pin (.While c body [] pos) (sWhile ct F) :=
  ⟨ps_mono (ps_while hp hc.pt hb.pss) fun D σ H ⟨Z, s, R, h⟩ => by
    have ns : sWhile ct F s ≠ .stuck := fun e => by rw [e] at h; exact h
    obtain ⟨n, en⟩ := sWhile_out ns
    rw [en] at h
    refine ⟨fun m σ H => ∃ (Z : Addr → Prop) (s : SE), Rl (kx X) Z H σ s ∧ Mt (wl ct F m s) (lF (kx X) pin Z H σ s D) (XOutS (kx X) X.mg W pin Z H σ s), ⟨n, Z, s, R, h⟩, ?_⟩
    clear ns en h R s Z n
    intro m σ H ⟨Z, s, R, h⟩
    cases m with
    | zero => exact h.elim
    | succ m =>
      refine lT_step R (MtS.ex (Mt.bnd_ h)) fun k s1 H1 q g => ?_
      cases k with
      | false => exact q σ H1 g.st
      | true =>
        rw [if_pos rfl] at q ⊢
        refine ⟨fun σ' H' => ∃ (Z : Addr → Prop) (s : SE), Rl (kx X) Z H' σ' s ∧ Mt (wl ct F m s) (lF (kx X) pin Z H' σ' s D) (XOutS (kx X) X.mg W pin Z H' σ' s), fun σ' H' z => ⟨m, Nat.lt_succ_self m, z⟩, Z, s1, g.rl, ?_⟩
        cases e : F s1 with
        | stuck => rw [e] at q; exact q.elim
        | exc x s2 => rw [e] at q; exact XOutS.after q g.st
        | ok fl s2 =>
          rw [e] at q
          cases fl with
          | next => exact fun σ' H' gs => ⟨Z, s2, gs.rl, MtS.after q (g.st.trans gs)⟩
          | cont => exact fun σ' H' gs => ⟨Z, s2, gs.rl, MtS.after q (g.st.trans gs)⟩
          | brk => exact fun σ' H' gs => q σ' H' (g.st.trans gs)
          | ret r => exact fun v σ' H' p => q v σ' H' (PostR.after g.st p)⟩
end

/-! ### what is walked -/
/-- an iterator that yields ps while Rb stands -/
structure Wk (K : Frg) (J : It) (Rb : Hp → Hp → Prop) (ps : List PV) : Prop where
  mono : ∀ Hq Hv Hq' Hv', Rb Hq Hv → Ext Hq Hq' → Ext Hv Hv' → Rb Hq' Hv'
  nt : ∀ Hq Hv, Rb Hq Hv → Rb (noT Hq) (noT Hv)
  go : ∀ i p H Hq Hv, Rb Hq Hv → Ext Hq H → Ext Hv Hq → ps[i]? = some p → J.go i H
  yld : ∀ i p H Hq Hv x H', Rb Hq Hv → Ext Hq H → Ext Hv Hq → ps[i]? = some p → J.yld i H x H' → Ext H H' ∧ Rep K (grow Hv H H') x p
  stop : ∀ i H Hq Hv, Rb Hq Hv → Ext Hq H → Ext Hv Hq → ps.length ≤ i → J.stop i H
noncomputable abbrev Hq (σ : L2.St) (s : SE) (H : Hp) : Hp := hid (Owns σ s) H
theorem hv_hq {Z : Addr → Prop} {σ : L2.St} {s : SE} {H : Hp} : Ext (Hd Z σ s H) (Hq σ s H) := hid_mono fun a o n e => ⟨fun z => n (.inr z), e⟩
def lI (K : Frg) (mg : Str → Option Value) (W : WX) (f : PM (List PV)) : TI := fun σ H R => ∃ (Z : Addr → Prop) (s : SE), Rl K Z H σ s ∧
  Mt (f s) (fun ps s' => ∀ J H' Rb, Go K Z Z H σ s s' H' → Wk K J Rb ps → Rb (Hq σ s' H') (Hd Z σ s' H') → R J H') (fun c s' => XOut K mg W Z H σ s c s')
structure QI (X : Cx) (W : WX) (tg iter : Expr) (f : PM (List PV)) : Prop where
  pi : PI X tg iter (lI (kx X) X.mg W f)
theorem pi_mono {X : Cx} {tg iter : Expr} {t t' : TI} (h : PI X tg iter t) (m : ∀ σ H R, t' σ H R → t σ H R) : PI X tg iter t' := ⟨fun pins s σ H R I q => h.run pins s σ H R I (m σ H R q)⟩
section
variable {K : Frg} {a : Addr} {ps : List PV} {vs : List V}
theorem reps_ints {H : Hp} : ∀ ns : List Int, Reps K H (ns.map V.int) (ns.map PV.int)
  | [] => .nil
  | n :: ns => .cons (.int n) (reps_ints ns)
theorem wk_list (a : Addr) (vs : List V) (ps : List PV) : Wk K (Itl K.K a) (fun Hq Hv => SqL K.K Hq a vs ∧ Reps K Hv vs ps) ps where
  mono := fun _ _ _ _ ⟨h, r⟩ e1 e2 => ⟨e1.sqL h, r.ext e2⟩
  nt := fun _ _ ⟨h, r⟩ => ⟨sqL_noT h, r.noT⟩
  go := fun i p H Hq Hv ⟨h, r⟩ e1 e2 hp => by
    obtain ⟨v, hv, _⟩ := r.get hp
    exact ⟨vs, v, e1.sqL h, hv⟩
  yld := fun i p H Hq Hv x H' ⟨h, r⟩ e1 e2 hp ⟨e, hy⟩ => by
    subst e
    obtain ⟨v, hv, r1⟩ := r.get hp
    have q := hy vs (e1.sqL h)
    rw [hv] at q; cases q
    exact ⟨Ext.refl, by rw [grow_self (e2.trans e1)]; exact r1⟩
  stop := fun i H Hq Hv ⟨h, r⟩ e1 e2 hl => ⟨vs, e1.sqL h, by rw [r.length]; exact hl⟩
theorem wk_tup (a : Addr) (vs : List V) (ps : List PV) : Wk K (Itt K.K a) (fun Hq Hv => SqT K.K Hq a vs ∧ Reps K Hv vs ps) ps where
  mono := fun _ _ _ _ ⟨h, r⟩ e1 e2 => ⟨e1.sqT h, r.ext e2⟩
  nt := fun _ _ ⟨h, r⟩ => ⟨sqT_noT h, r.noT⟩
  go := fun i p H Hq Hv ⟨h, r⟩ e1 e2 hp => by
    obtain ⟨v, hv, _⟩ := r.get hp
    exact ⟨vs, v, e1.sqT h, hv⟩
  yld := fun i p H Hq Hv x H' ⟨h, r⟩ e1 e2 hp ⟨e, hy⟩ => by
    subst e
    obtain ⟨v, hv, r1⟩ := r.get hp
    have q := hy vs (e1.sqT h)
    rw [hv] at q; cases q
    exact ⟨Ext.refl, by rw [grow_self (e2.trans e1)]; exact r1⟩
  stop := fun i H Hq Hv ⟨h, r⟩ e1 e2 hl => ⟨vs, e1.sqT h, by rw [r.length]; exact hl⟩
/-- lo, lo + 1, .. -/
def rngL (lo : Int) (n : Nat) : List PV := (List.range n).map fun (i : Nat) => PV.int (lo + (i : Int))
theorem wk_rng (lo : Int) (n : Nat) : Wk K (Itr lo n) (fun _ _ => True) (rngL lo n) where
  mono := fun _ _ _ _ _ _ _ => trivial
  nt := fun _ _ _ => trivial
  go := fun i p H Hq Hv _ _ _ hp => by
    have h := (List.getElem?_eq_some_iff.mp hp).1
    exact (by simpa [rngL] using h : i < n)
  yld := fun i p H Hq Hv x H' _ e1 e2 hp ⟨e, hy⟩ => by
    subst e; subst hy
    have h : i < n := by simpa [rngL] using (List.getElem?_eq_some_iff.mp hp).1
    have q : p = .int (lo + (i : Int)) := by
      simp only [rngL, List.getElem?_map, List.getElem?_range h, Option.map_some, Option.some.injEq] at hp
      exact hp.symm
    subst q
    exact ⟨Ext.refl, .int _⟩
  stop := fun i H Hq Hv _ _ _ hl => (by simpa [rngL] using hl : n ≤ i)
end

/-! ### for -/
def forL (G : PV → PM Unit) (F : PM Fl) : List PV → PM Fl
  | [] => ret .next
  | p :: ps => bnd (nx (G p)) fun _ => fun s => match F s with
    | .ok .next s1 => forL G F ps s1
    | .ok .cont s1 => forL G F ps s1
    | .ok .brk s1 => .ok .next s1
    | r => r
def sFor (I : PM (List PV)) (G : PV → PM Unit) (F : PM Fl) : PM Fl := bnd I fun ps => forL G F ps
section
variable {X : Cx} {W : WX} {pin : List Nat} {tg iter : Expr} {body : List Stmt} {I : PM (List PV)} {G : PV → PM Unit} {F : PM Fl} {pos : Pos}
theorem qs_for (hp : PassesOwn (model X.prog X.w) X.A X.env X.xe) (hc : X.calm = true) (hi : QI X W tg iter I) (hg : QG X pin tg G) (hb : QSs X W pin body F) (hs : ∀ x, foldedSetIterable iter X.env x = pure x := by intro _; rfl) :
    QS X W pin (.For tg iter body [] pos) (sFor I G F) :=
  ⟨ps_mono (ps_for hp hc hi.pi hg.pg hb.pss hs) fun D σ H ⟨Z, s, R, h⟩ => by
    refine ⟨Z, s, R, Mt.imp (MtS.ex (Mt.bnd_ h)) fun ps s1 q J H1 Rb g wk rb => ?_⟩
    refine ⟨fun i m σ' H' => m + i = ps.length ∧ ∃ (Z : Addr → Prop) (s : SE), Rl (kx X) Z H' σ' s ∧ Rb (Hq σ' s H') (Hd Z σ' s H') ∧ Mt (forL G F (ps.drop i) s) (lF (kx X) pin Z H' σ' s D) (XOutS (kx X) X.mg W pin Z H' σ' s), ?_, ?_⟩
    · exact ⟨ps.length, by omega, Z, s1, g.rl, rb, MtS.after q g.st⟩
    · clear q g rb H1 s1 h R s Z
      intro i m σ H ⟨em, Z, s, R, rb, h⟩
      cases e : ps[i]? with
      | none =>
        have hl : ps.length ≤ i := List.getElem?_eq_none_iff.mp e
        rw [List.drop_of_length_le hl] at h
        exact .inl ⟨wk.stop i H _ _ rb hid_sub hv_hq hl, h σ H (GoS.refl R)⟩
      | some p =>
        obtain ⟨hl, ep⟩ := List.getElem?_eq_some_iff.mp e
        rw [List.drop_eq_getElem_cons hl, ep] at h
        refine .inr ⟨wk.go i p H _ _ rb hid_sub hv_hq e, fun σ' H' => ∃ (Z : Addr → Prop) (s : SE), Rl (kx X) Z H' σ' s ∧ Rb (Hq σ' s H') (Hd Z σ' s H') ∧ Mt (forL G F (ps.drop (i + 1)) s) (lF (kx X) pin Z H' σ' s D) (XOutS (kx X) X.mg W pin Z H' σ' s),
          fun σ' H' z => ⟨m - 1, by omega, by omega, z⟩, fun x H' hy => ?_⟩
        obtain ⟨ex, rp⟩ := wk.yld i p H _ _ x H' rb hid_sub hv_hq e hy
        have g0 : Go (kx X) Z Z H σ s s H' := Go.grown R ex
        rw [grow_hid R.hidIn ex] at rp
        refine ⟨Z, s, p, g0.rl, rp, Mt.imp (Mt.nx (Mt.bnd_ h)) fun _ s1 q σ1 H1 g1 _ => ⟨Z, s1, g1.rl, ?_⟩⟩
        have G1 := (g0.st (pin := pin)).trans g1
        have rb1 := wk.mono _ _ _ _ rb G1.visQ G1.vis
        cases e2 : F s1 with
        | stuck => rw [e2] at q; exact q.elim
        | exc x s2 => rw [e2] at q; exact XOutS.after q G1
        | ok fl s2 =>
          rw [e2] at q
          cases fl with
          | next => exact fun σ' H' gs => ⟨Z, s2, gs.rl, wk.mono _ _ _ _ rb1 gs.visQ gs.vis, MtS.after q (G1.trans gs)⟩
          | cont => exact fun σ' H' gs => ⟨Z, s2, gs.rl, wk.mono _ _ _ _ rb1 gs.visQ gs.vis, MtS.after q (G1.trans gs)⟩
          | brk => exact fun σ' H' gs => q σ' H' (G1.trans gs)
          | ret r => exact fun v σ' H' p => q v σ' H' (PostR.after G1 p)⟩
end

/-! ### iterables -/
/-- the items of a value that is let go -/
def itemsP : PV → Option (List PV)
  | .lst ps => some ps
  | .tup ps => some ps
  | _ => none
def iLst (f : PM Arg) : PM (List PV) := bnd f fun a => bnd (rel1 a) fun p => match p with
  | .lst ps => ret ps
  | .scr ns => ret (ns.map PV.int)
  | _ => stk
def iTp (f : PM Arg) : PM (List PV) := bnd f fun a => bnd (rel1 a) fun p => match p with
  | .tup ps => ret ps
  | _ => stk
def iRg1 (fs : PM (List Arg)) : PM (List PV) := bnd fs fun as => match as with
  | [.val (.int j) _] => if -(2 ^ 62) ≤ j ∧ j < 2 ^ 62 then ret (rngL 0 j.toNat) else stk
  | _ => stk
def iRg2 (fs : PM (List Arg)) : PM (List PV) := bnd fs fun as => match as with
  | [.val (.int i) _, .val (.int j) _] => if -(2 ^ 62) ≤ i ∧ i < 2 ^ 62 ∧ -(2 ^ 62) ≤ j ∧ j < 2 ^ 62 then ret (rngL i (j - i).toNat) else stk
  | _ => stk
section
variable {X : Cx} {W : WX} {tg e a b : Expr} {f : PM Arg} {fs : PM (List Arg)} {p pos : Pos}
theorem rel1_step {K : Frg} {mg : Str → Option Value} {Z : Addr → Prop} {H H1 : Hp} {σ : L2.St} {s s1 : SE} {v : V} {r : Arg} {ok : PV → SE → Prop} {ex : Str → SE → Prop} (p : PostE K Z H σ s r s1 v H1) (h : Mt (rel1 r s1) ok ex) :
    ∃ q s2, ok q s2 ∧ Go K Z Z H σ s s2 H1 ∧ Rep K (Hd Z σ s2 H1) v q := by
  obtain ⟨g, a1⟩ := p.wait
  cases e1 : rel1 r s1 with
  | stuck => rw [e1] at h; exact h.elim
  | exc c s2 => exact absurd e1 rel1_noexc
  | ok q s2 =>
    rw [e1] at h
    obtain ⟨g1, r1⟩ := rel1_post g.rl a1 e1
    exact ⟨q, s2, h, g.trans g1, r1⟩
theorem qi_lst (he : QE X W e f) : QI X W tg e (iLst f) := ⟨pi_mono (pi_list he.pe) fun σ H R ⟨Z, s, R1, h⟩ => by
  refine lE_step R1 (Mt.bnd_ h) fun r s1 v H1 k p => ?_
  obtain ⟨q, s2, k, g, rp⟩ := rel1_step (mg := X.mg) p k.bnd_
  cases rp with
  | lst hq rs => exact ⟨_, rfl, ⟨_, hid_sub.sqL (.of hq)⟩, k _ _ _ g (wk_list _ _ _) ⟨hv_hq.sqL (.of hq), rs⟩⟩
  | scr hq => exact ⟨_, rfl, ⟨_, hid_sub.sqL hq⟩, k _ _ _ g (wk_list _ _ _) ⟨hv_hq.sqL hq, reps_ints _⟩⟩
  | _ => exact k.elim⟩
theorem qi_tp (he : QE X W e f) : QI X W tg e (iTp f) := ⟨pi_mono (pi_tup he.pe) fun σ H R ⟨Z, s, R1, h⟩ => by
  refine lE_step R1 (Mt.bnd_ h) fun r s1 v H1 k p => ?_
  obtain ⟨q, s2, k, g, rp⟩ := rel1_step (mg := X.mg) p k.bnd_
  cases rp with
  | tup hq rs => exact ⟨_, rfl, ⟨_, hid_sub.sqT hq⟩, k _ _ _ g (wk_tup _ _ _) ⟨hv_hq.sqT hq, rs⟩⟩
  | _ => exact k.elim⟩
theorem qi_rg1 (hg : Gl X "range") (hm : X.mg "range" = none) (ha : QA X W [a] fs) (hs : starEach [a] X.env = [(false, eval a X.env)] := by rfl) : QI X W tg (.Call (.Name "range" p) [a] [] pos) (iRg1 fs) := ⟨pi_mono (pi_range1 hg hm ha.pa hs) fun σ H R ⟨Z, s, R1, h⟩ => by
  refine lA_step R1 (Mt.bnd_ h) fun rs s1 vs H1 k g a1 => ?_
  match rs, a1, k with
  | [.val (.int j) _], .cons h1 .nil, k =>
    cases h1
    simp only at k
    split at k
    · rename_i hb
      refine ⟨j, rfl, hb.1, hb.2, k _ _ _ g (wk_rng _ _) trivial⟩
    · exact k.elim⟩
theorem qi_rg2 (hg : Gl X "range") (hm : X.mg "range" = none) (ha : QA X W [a, b] fs) (hs : starEach [a, b] X.env = [(false, eval a X.env), (false, eval b X.env)] := by rfl) (hs2 : starEach [b] X.env = [(false, eval b X.env)] := by rfl) : QI X W tg (.Call (.Name "range" p) [a, b] [] pos) (iRg2 fs) := ⟨pi_mono (pi_range2 hg hm ha.pa hs hs2) fun σ H R ⟨Z, s, R1, h⟩ => by
  refine lA_step R1 (Mt.bnd_ h) fun rs s1 vs H1 k g a1 => ?_
  match rs, a1, k with
  | [.val (.int i) _, .val (.int j) _], .cons h1 (.cons h2 .nil), k =>
    cases h1
    cases h2
    simp only at k
    split at k
    · rename_i hb
      exact ⟨i, j, rfl, hb, k _ _ _ g (wk_rng _ _) trivial⟩
    · exact k.elim⟩
end
end HF
end

section
set_option Elab.async false
set_option linter.all false
set_option maxRecDepth 100000
set_option maxHeartbeats 1000000
set_option autoImplicit false
/-! HF5: list comprehensions. -/
namespace HF
open PySem PySem.Spec PyProof.Rows L2

/-! ### slots laid aside -/
def wipeS (s : SE) : List Nat → SE
  | [] => s
  | v :: vs => (wipeS s vs).set v none
/-- .. and taken back from s0 -/
def unw (s0 s : SE) : List Nat → SE
  | [] => s
  | v :: vs => (unw s0 s vs).set v (match s0[v]? with
    | some x => x
    | none => none)
theorem wipeS_len (s : SE) : ∀ vs, (wipeS s vs).length = s.length
  | [] => rfl
  | v :: vs => by simp [wipeS, wipeS_len s vs]
theorem unw_len (s0 s : SE) : ∀ vs, (unw s0 s vs).length = s.length
  | [] => rfl
  | v :: vs => by simp [unw, unw_len s0 s vs]
theorem wipeS_in {s : SE} {i : Nat} : ∀ {vs : List Nat}, i ∈ vs → i < s.length → (wipeS s vs)[i]? = some none
  | [], h, _ => nomatch h
  | v :: vs, h, hl => by
    unfold wipeS
    by_cases e : v = i
    · subst e; exact List.getElem?_set_self (by rw [wipeS_len]; exact hl)
    · rw [List.getElem?_set_ne e]
      exact wipeS_in ((List.mem_cons.mp h).resolve_left fun z => e z.symm) hl
theorem wipeS_out {s : SE} {i : Nat} : ∀ {vs : List Nat}, i ∉ vs → (wipeS s vs)[i]? = s[i]?
  | [], _ => rfl
  | v :: vs, h => by
    unfold wipeS
    rw [List.getElem?_set_ne (by intro e; subst e; exact h List.mem_cons_self)]
    exact wipeS_out fun z => h (List.mem_cons_of_mem _ z)
theorem unw_in {s0 s : SE} {i : Nat} : ∀ {vs : List Nat}, i ∈ vs → i < s.length → i < s0.length → (unw s0 s vs)[i]? = s0[i]?
  | [], h, _, _ => nomatch h
  | v :: vs, h, hl, h0 => by
    unfold unw
    by_cases e : v = i
    · subst e
      rw [List.getElem?_set_self (by rw [unw_len]; exact hl), List.getElem?_eq_getElem h0]
    · rw [List.getElem?_set_ne e]
      exact unw_in ((List.mem_cons.mp h).resolve_left fun z => e z.symm) hl h0
theorem unw_out {s0 s : SE} {i : Nat} : ∀ {vs : List Nat}, i ∉ vs → (unw s0 s vs)[i]? = s[i]?
  | [], _ => rfl
  | v :: vs, h => by
    unfold unw
    rw [List.getElem?_set_ne (by intro e; subst e; exact h List.mem_cons_self)]
    exact unw_out fun z => h (List.mem_cons_of_mem _ z)
theorem wipe_out' {σ : L2.St} {i : Nat} : ∀ {vs : List Nat}, i ∉ vs → (wipe σ vs)[i]? = σ[i]?
  | [], _ => rfl
  | v :: vs, h => by
    unfold wipe
    rw [List.getElem?_set_ne (by intro e; subst e; exact h List.mem_cons_self)]
    exact wipe_out' fun z => h (List.mem_cons_of_mem _ z)
theorem wipe_in' {σ : L2.St} {i : Nat} : ∀ {vs : List Nat}, i ∈ vs → i < σ.length → (wipe σ vs)[i]? = some none
  | [], h, _ => nomatch h
  | v :: vs, h, hl => by
    unfold wipe
    by_cases e : v = i
    · subst e; exact List.getElem?_set_self (by rw [wipe_length]; exact hl)
    · rw [List.getElem?_set_ne e]
      exact wipe_in' ((List.mem_cons.mp h).resolve_left fun z => e z.symm) hl
section
variable {K : Frg} {Z Z' : Addr → Prop} {H H' H1 : Hp} {σ : L2.St} {s s0 s1 s' : SE} {vs us : List Nat} {a : Addr}
/-- what is laid aside -/
def Pk (σ : L2.St) (s : SE) (vs us : List Nat) (a : Addr) : Prop := Owns σ s a ∧ ¬ Owns (wipe σ vs) (wipeS s us) a
theorem owns_wipe (hv : ∀ i ∈ vs, i ∈ us) (h : Owns (wipe σ vs) (wipeS s us) a) : Owns σ s a := by
  obtain ⟨i, p, e1, e2⟩ := h
  have hl : i < s.length := by
    have z := (List.getElem?_eq_some_iff.mp e1).1
    rw [wipeS_len] at z
    exact z
  by_cases hi : i ∈ us
  · rw [wipeS_in hi hl] at e1; cases e1
  · rw [wipeS_out hi] at e1
    exact ⟨i, p, e1, (wipe_some e2).1⟩
theorem hd_park (hv : ∀ i ∈ vs, i ∈ us) : Hd (fun b => Z b ∨ Pk σ s vs us b) (wipe σ vs) (wipeS s us) H = Hd Z σ s H := by
  have e : (fun a => (Z a ∨ Pk σ s vs us a) ∨ Owns (wipe σ vs) (wipeS s us) a) = fun a => Z a ∨ Owns σ s a := by
    funext b
    refine propext ⟨fun h => ?_, fun h => ?_⟩
    · rcases h with (h | h) | h
      · exact .inl h
      · exact .inr h.1
      · exact .inr (owns_wipe hv h)
    · rcases h with h | h
      · exact .inl (.inl h)
      · by_cases z : Owns (wipe σ vs) (wipeS s us) b
        · exact .inr z
        · exact .inl (.inr ⟨h, z⟩)
  show hid _ H = hid _ H
  rw [e]
theorem Rl.park (R : Rl K Z H σ s) (hv : ∀ i ∈ vs, i ∈ us) : Rl K (fun b => Z b ∨ Pk σ s vs us b) H (wipe σ vs) (wipeS s us) := by
  have inn : ∀ (i : Nat) (x : Bool × PV), (wipeS s us)[i]? = some (some x) → i ∉ us ∧ s[i]? = some (some x) := fun i x e => by
    have hl : i < s.length := by
      have z := (List.getElem?_eq_some_iff.mp e).1
      rw [wipeS_len] at z
      exact z
    by_cases hi : i ∈ us
    · rw [wipeS_in hi hl] at e; cases e
    · rw [wipeS_out hi] at e; exact ⟨hi, e⟩
  refine ⟨by rw [wipeS_len, wipe_length]; exact R.len, fun b z => z.elim (R.zin b) fun z => R.ownIn z.1, fun i p e => ?_, fun i p e => ?_, fun i j p q b e1 e2 e3 e4 => ?_⟩
  · obtain ⟨hi, e⟩ := inn i _ e
    obtain ⟨v, e1, r⟩ := R.sh i p e
    exact ⟨v, by rw [wipe_out' fun z => hi (hv i z)]; exact e1, by rw [hd_park hv]; exact r⟩
  · obtain ⟨hi, e'⟩ := inn i _ e
    obtain ⟨b, e1, n, r⟩ := R.ow i p e'
    have ew : (wipe σ vs)[i]? = some (some (V.ref b)) := by rw [wipe_out' fun z => hi (hv i z)]; exact e1
    exact ⟨b, ew, fun z => z.elim n fun z => z.2 ⟨i, p, e, ew⟩, by rw [hd_park hv]; exact r⟩
  · exact R.dj i j p q b (inn i _ e1).2 (inn j _ e2).2 (wipe_some e3).1 (wipe_some e4).1
/-- the block's end: all is taken back -/
theorem Rl.unpark (R : Rl K Z H σ s) (hv : ∀ i ∈ vs, i ∈ us) (hZ : ∀ a, Z a → Z' a) (hZn : ∀ a, Z' a → ¬ Z a → H a = none)
    (g : Go K (fun b => Z b ∨ Pk σ s vs us b) (fun b => Z' b ∨ Pk σ s vs us b) H (wipe σ vs) (wipeS s us) s' H') : Go K Z Z' H σ s (unw s s' us) H' := by
  have W := R.park hv
  have hl' : s'.length = s.length := by rw [g.rl.len, wipe_length, R.len]
  -- who owns at the end
  have own : ∀ b, Owns σ (unw s s' us) b → (∃ i p, i ∈ us ∧ s[i]? = some (some (true, p)) ∧ σ[i]? = some (some (V.ref b))) ∨ (∃ i p, i ∉ us ∧ s'[i]? = some (some (true, p)) ∧ σ[i]? = some (some (V.ref b)) ∧ (wipe σ vs)[i]? = some (some (V.ref b))) := fun b ⟨i, p, e1, e2⟩ => by
    have hl : i < s.length := by
      have z := (List.getElem?_eq_some_iff.mp e1).1
      rw [unw_len, hl'] at z
      exact z
    by_cases hi : i ∈ us
    · rw [unw_in hi (by rw [hl']; exact hl) hl] at e1
      exact .inl ⟨i, p, hi, e1, e2⟩
    · rw [unw_out hi] at e1
      exact .inr ⟨i, p, hi, e1, e2, by rw [wipe_out' fun z => hi (hv i z)]; exact e2⟩
  have pk : ∀ b, (∃ i p, i ∈ us ∧ s[i]? = some (some (true, p)) ∧ σ[i]? = some (some (V.ref b))) → Pk σ s vs us b := fun b ⟨i, p, hi, e1, e2⟩ => by
    refine ⟨⟨i, p, e1, e2⟩, fun ⟨j, q, e3, e4⟩ => ?_⟩
    have hl : j < s.length := by
      have z := (List.getElem?_eq_some_iff.mp e3).1
      rw [wipeS_len] at z
      exact z
    by_cases hj : j ∈ us
    · rw [wipeS_in hj hl] at e3; cases e3
    · rw [wipeS_out hj] at e3
      have z := R.dj i j p q b e1 e3 e2 (wipe_some e4).1
      subst z
      exact hj hi
  have ow : ∀ b, Owns σ (unw s s' us) b → Owns σ s b := fun b h => by
    rcases own b h with h | ⟨i, p, _, e1, _, e3⟩
    · exact (pk b h).1
    · exact owns_wipe hv (g.ow b ⟨i, p, e1, e3⟩)
  -- what is shared at the start
  have ext : Ext (Hd Z σ s H) (Hd Z' σ (unw s s' us) H') := hid_mono fun b o n q => by
    refine ⟨fun z => ?_, g.fr b o q fun z => n (.inr (owns_wipe hv z))⟩
    rcases z with z | z
    · by_cases zb : Z b
      · exact n (.inl zb)
      · have := hZn b z zb; rw [q] at this; cases this
    · exact n (.inr (ow b z))
  -- what is shared at the end, within
  have ext' : Ext (Hd (fun b => Z' b ∨ Pk σ s vs us b) (wipe σ vs) s' H') (Hd Z' σ (unw s s' us) H') := hid_mono fun b o n q => by
    refine ⟨fun z => ?_, q⟩
    rcases z with z | z
    · exact n (.inl (.inl z))
    · rcases own b z with h | ⟨i, p, _, e1, _, e3⟩
      · exact n (.inl (.inr (pk b h)))
      · exact n (.inr ⟨i, p, e1, e3⟩)
  refine ⟨⟨by rw [unw_len, hl']; exact R.len, fun b z => g.rl.zin b (.inl z), fun i p e => ?_, fun i p e => ?_, fun i j p q b e1 e2 e3 e4 => ?_⟩, fun b o e n => g.fr b o e fun z => n (owns_wipe hv z), ow, g.tr, fun i q e => ?_⟩
  · have hl : i < s.length := by
      have z := (List.getElem?_eq_some_iff.mp e).1
      rw [unw_len, hl'] at z
      exact z
    by_cases hi : i ∈ us
    · rw [unw_in hi (by rw [hl']; exact hl) hl] at e
      obtain ⟨v, e1, r⟩ := R.sh i p e
      exact ⟨v, e1, r.ext ext⟩
    · rw [unw_out hi] at e
      obtain ⟨v, e1, r⟩ := g.rl.sh i p e
      exact ⟨v, (wipe_some e1).1, r.ext ext'⟩
  · have hl : i < s.length := by
      have z := (List.getElem?_eq_some_iff.mp e).1
      rw [unw_len, hl'] at z
      exact z
    by_cases hi : i ∈ us
    · rw [unw_in hi (by rw [hl']; exact hl) hl] at e
      obtain ⟨b, e1, n, r⟩ := R.ow i p e
      obtain ⟨o, ho, _⟩ := r.at_
      have pb := pk b ⟨i, p, hi, e, e1⟩
      refine ⟨b, e1, fun z => ?_, r.ext ?_ ext⟩
      · have := hZn b z n; rw [ho] at this; cases this
      · rw [ho]; exact g.fr b o ho pb.2
    · rw [unw_out hi] at e
      obtain ⟨b, e1, n, r⟩ := g.rl.ow i p e
      exact ⟨b, (wipe_some e1).1, fun z => n (.inl z), r.ext rfl ext'⟩
  · have c : ∀ (m : Nat) (x : PV), (unw s s' us)[m]? = some (some (true, x)) → σ[m]? = some (some (V.ref b)) → (m ∈ us ∧ s[m]? = some (some (true, x))) ∨ (m ∉ us ∧ s'[m]? = some (some (true, x)) ∧ (wipe σ vs)[m]? = some (some (V.ref b))) := fun m x y z => by
      have hl : m < s.length := by
        have z := (List.getElem?_eq_some_iff.mp y).1
        rw [unw_len, hl'] at z
        exact z
      by_cases hm : m ∈ us
      · rw [unw_in hm (by rw [hl']; exact hl) hl] at y
        exact .inl ⟨hm, y⟩
      · rw [unw_out hm] at y
        exact .inr ⟨hm, y, by rw [wipe_out' fun z => hm (hv m z)]; exact z⟩
    rcases c i p e1 e3 with ⟨i1, i2⟩ | ⟨i1, i2, i3⟩
    · rcases c j q e2 e4 with ⟨j1, j2⟩ | ⟨j1, j2, j3⟩
      · exact R.dj i j p q b i2 j2 e3 e4
      · exact absurd (g.ow b ⟨j, q, j2, j3⟩) (pk b ⟨i, p, i1, i2, e3⟩).2
    · rcases c j q e2 e4 with ⟨j1, j2⟩ | ⟨j1, j2, j3⟩
      · exact absurd (g.ow b ⟨i, p, i2, i3⟩) (pk b ⟨j, q, j1, j2, e4⟩).2
      · exact g.rl.dj i j p q b i2 j2 i3 j3
  · have hl : i < s.length := (List.getElem?_eq_some_iff.mp e).1
    by_cases hi : i ∈ us
    · exact ⟨q, by rw [unw_in hi (by rw [hl']; exact hl) hl]; exact e⟩
    · rw [unw_out hi]
      exact g.kp i q (by rw [wipeS_out hi]; exact e)
end

/-! ### list comprehensions -/
def WF : WX := fun _ _ _ _ => False
def wp (us : List Nat) : PM Unit := fun s => .ok () (wipeS s us)
def compL (us : List Nat) (G : PV → PM Unit) (T : PM Bool) (E : PM Arg) : List PV → PM (List PV)
  | [] => ret []
  | p :: ps => bnd (nx (G p)) fun _ => bnd T fun k => if k = true then bnd E fun a => bnd (rel1 a) fun q => bnd (wp us) fun _ => bnd (compL us G T E ps) fun qs => ret (q :: qs)
    else bnd (wp us) fun _ => compL us G T E ps
def eComp (own : List Nat) (I : PM (List PV × List Nat)) (G : PV → PM Unit) (T : PM Bool) (E : PM Arg) : PM Arg := bnd I fun x => fun s =>
  if x.1.length ≤ sizeLine then (match compL (x.2 ++ own) G T E x.1 (wipeS s (x.2 ++ own)) with
    | .ok qs s1 => .ok (.val (.lst qs) true) (unw s s1 (x.2 ++ own))
    | _ => .stuck) else .stuck
theorem Rl.forget {K : Frg} {Z : Addr → Prop} {H : Hp} {σ : L2.St} {s : SE} {own us : List Nat} (R : Rl K Z H σ s) (hv : ∀ i ∈ own, i ∈ us) : Rl K Z H (wipe σ own) (wipeS s us) ∧ Ext (Hd Z σ s H) (Hd Z (wipe σ own) (wipeS s us) H) := by
  refine ⟨(R.park hv).weak fun b z => .inl z, ?_⟩
  rw [← hd_park (H := H) (Z := Z) (σ := σ) (s := s) hv]
  exact hid_mono fun b o n e => ⟨fun z => n (z.imp .inl id), e⟩
/-- something that is hidden is written -/
theorem hd_z {Z : Addr → Prop} {H : Hp} {σ : L2.St} {s : SE} {a : Addr} {o : HO} (z : Z a) : Hd Z σ s (upd H a o) = Hd Z σ s H := by
  funext b
  by_cases e : b = a
  · subst e
    simp [hid, z]
  · show hid _ _ b = hid _ _ b
    unfold hid
    rw [upd_ne e]
theorem Rl.zwrite {K : Frg} {Z : Addr → Prop} {H : Hp} {σ : L2.St} {s : SE} {a : Addr} {o : HO} (R : Rl K Z H σ s) (z : Z a) : Rl K Z (upd H a o) σ s := by
  refine ⟨R.len, fun b y => ?_, fun i p e => ?_, fun i p e => ?_, R.dj⟩
  · by_cases e : b = a
    · subst e; rw [upd_same]; nofun
    · rw [upd_ne e]; exact R.zin b y
  · rw [hd_z z]; exact R.sh i p e
  · obtain ⟨b, e1, n, r⟩ := R.ow i p e
    exact ⟨b, e1, n, r.ext (upd_ne fun e => n (by rw [e]; exact z)) (by rw [hd_z z]; exact Ext.refl)⟩
/-- iterables of comprehensions: the slots that wait are told -/
def lIB (K : Frg) (mg : Str → Option Value) (W : WX) (own : List Nat) (f : PM (List PV × List Nat)) : TI := fun σ H R => ∃ (Z : Addr → Prop) (s : SE), Rl K Z H σ s ∧
  Mt (f s) (fun x s' => ∀ J H' Rb, Go K Z Z H σ s s' H' → Wk K J Rb x.1 → Rb (Hq (wipe σ own) (wipeS s' (x.2 ++ own)) H') (Hd Z σ s' H') → R J H') (fun c s' => XOut K mg W Z H σ s c s')
structure QIB (X : Cx) (W : WX) (own : List Nat) (tg iter : Expr) (f : PM (List PV × List Nat)) : Prop where
  pi : PI X tg iter (lIB (kx X) X.mg W own f)
def iOf (f : PM (List PV)) : PM (List PV × List Nat) := bnd f fun ps => ret (ps, [])
def ifsT (X : Cx) (ifs : List Expr) (T : PM Bool) : Prop := PTs X ifs (lT (kx X) X.mg WF T)
theorem Mt.noex {α : Type} {r : Rs α} {ok : α → SE → Prop} {ex : Str → SE → Prop} (h : Mt r ok fun _ _ => False) : Mt r ok ex := by
  cases r with
  | ok a s => exact h
  | exc c s => exact h.elim
  | stuck => exact h
section
variable {K : Frg} {mg : Str → Option Value} {W : WX} {Z : Addr → Prop} {H H' H1 : Hp} {σ : L2.St} {s s1 s' : SE}
theorem hq_park {own us : List Nat} (hv : ∀ i ∈ own, i ∈ us) : Ext (Hq σ s H) (Hq (wipe σ own) (wipeS s us) H) := hid_mono fun a o n e => ⟨fun z => n (owns_wipe hv z), e⟩
theorem lIB_of {own : List Nat} {f : PM (List PV)} {R : It → Hp → Prop} (h : lIB K mg W own (iOf f) σ H R) : lI K mg W f σ H R := by
  obtain ⟨Z, s, R1, h⟩ := h
  refine ⟨Z, s, R1, Mt.imp (Mt.bnd_ h) fun ps s' k J H' Rb g wk rb => k J H' Rb g wk ?_⟩
  exact wk.mono _ _ _ _ rb (hq_park fun i hi => hi) Ext.refl
end
theorem qib_of {X : Cx} {W : WX} {own : List Nat} {tg iter : Expr} {f : PM (List PV)} (h : QI X W tg iter f) : QIB X W own tg iter (iOf f) := ⟨pi_mono h.pi fun σ H R h => lIB_of h⟩
/-- the slots of a def that are not the block's own -/
def others (n : Nat) (own : List Nat) : List Nat := (List.range n).filter fun i => !own.contains i
theorem others_mem {n : Nat} {own : List Nat} {i : Nat} : i ∈ others n own ↔ i < n ∧ i ∉ own := by
  unfold others
  simp [List.mem_filter]
theorem wipe_same {n : Nat} {own : List Nat} {σ σ' : L2.St} (hn : σ.length = n) (hl : σ'.length = σ.length) (h : ∀ i ∈ others n own, σ'[i]? = (wipe σ own)[i]?) : wipe σ' own = wipe σ own := by
  refine List.ext_getElem? fun i => ?_
  by_cases hi : i < n
  · by_cases ho : i ∈ own
    · rw [wipe_in' ho (by omega), wipe_in' ho (by omega)]
    · rw [wipe_out' ho, h i (others_mem.mpr ⟨hi, ho⟩)]
  · rw [List.getElem?_eq_none (by rw [wipe_length]; omega), List.getElem?_eq_none (by rw [wipe_length]; omega)]
section
variable {K : Frg} {mg : Str → Option Value} {W : WX} {own : List Nat} {I : PM (List PV × List Nat)} {G : PV → PM Unit} {T : PM Bool} {E : PM Arg} {n : Nat}
noncomputable abbrev HqD (D : Addr) (σ : L2.St) (s : SE) (H : Hp) : Hp := hid (fun b => Owns σ s b ∨ b = D) H
theorem lc_m {σ : L2.St} {H : Hp} {Q : VK} (hn : σ.length = n) (h : lE K mg W (eComp own I G T E) σ H Q) : tLc (lIB K mg W own I) (lG K (others n own) G) (lT K mg WF T) (lE K mg WF E) own σ H Q := by
  obtain ⟨Z, s, R, h⟩ := lE_iff.mp h
  refine ⟨Z, s, R, Mt.imp (Mt.bnd_ h) fun x s1 q J H1 Rb g wk rb D hD => ?_⟩
  obtain ⟨ps, us0⟩ := x
  dsimp only at q wk rb
  by_cases hz : ps.length ≤ sizeLine
  · rw [if_pos hz] at q
    generalize hus : us0 ++ own = us at q rb
    have hv : ∀ i ∈ own, i ∈ us := fun i hi => by rw [← hus]; exact List.mem_append_right _ hi
    cases e : compL us G T E ps (wipeS s1 us) with
    | stuck => rw [e] at q; exact q.elim
    | exc c s2 => rw [e] at q; exact q.elim
    | ok qs s2 =>
      rw [e] at q
      have R1 := g.rl
      have P1 := R1.park hv
      have nD : ∀ b o, H1 b = some o → b ≠ D := fun b o e z => by rw [z, hD] at e; cases e
      -- at the start
      have hp0 : Hd (fun b => Z b ∨ Pk σ s1 own us b) (wipe σ own) (wipeS s1 us) H1 = Hd Z σ s1 H1 := hd_park hv
      refine ⟨fun i m H => m + i = ps.length ∧ ∃ (s : SE) (acc : List V) (as : List PV), Go K (fun b => Z b ∨ Pk σ s1 own us b) (fun b => (Z b ∨ b = D) ∨ Pk σ s1 own us b) H1 (wipe σ own) (wipeS s1 us) s H ∧
        Rb (HqD D (wipe σ own) s H) (Hd (fun b => (Z b ∨ b = D) ∨ Pk σ s1 own us b) (wipe σ own) s H) ∧ H D = some (.lst acc) ∧ acc.length ≤ i ∧ Reps K (Hd (fun b => (Z b ∨ b = D) ∨ Pk σ s1 own us b) (wipe σ own) s H) acc as ∧
        ∃ rest, compL us G T E (ps.drop i) s = .ok rest s2 ∧ qs = as ++ rest, ⟨ps.length, by omega, wipeS s1 us, [], [], ?_⟩, ?_⟩
      · have g0 := Go.grown P1 (ext_upd (o := .lst []) hD)
        have r0 : Rl K (fun b => (Z b ∨ b = D) ∨ Pk σ s1 own us b) (upd H1 D (.lst [])) (wipe σ own) (wipeS s1 us) := (P1.hold hD (ext_upd hD) (by rw [upd_same]; nofun)).weak fun b z => by
          rcases z with (z | z) | z
          · exact .inl (.inl z)
          · exact .inr z
          · exact .inl (.inr z)
        refine ⟨⟨r0, g0.fr, g0.ow, g0.tr, g0.kp⟩, wk.mono _ _ _ _ rb (hid_mono fun b o n e => ⟨fun z => z.elim n (nD b o e), ext_upd hD b o e⟩) ?_, upd_same, Nat.zero_le _, .nil, qs, e, rfl⟩
        rw [← hp0]
        refine hid_mono fun b o n e => ⟨fun z => n ?_, ext_upd hD b o e⟩
        rcases z with ((z | z) | z) | z
        · exact .inl (.inl z)
        · exact absurd z (nD b o e)
        · exact .inl (.inr z)
        · exact .inr z
      · intro i m H2 ⟨em, s3, acc, as, g3, rb3, hacc, la, ra, rest, e3, eq⟩
        cases ei : ps[i]? with
        | none =>
          have hl : ps.length ≤ i := List.getElem?_eq_none_iff.mp ei
          refine .inl ⟨wk.stop i H2 _ _ rb3 hid_sub (hid_mono fun b o n e => ⟨fun z => n (z.elim .inr fun z => .inl (.inl (.inr z))), e⟩) hl, ?_⟩
          rw [List.drop_of_length_le hl] at e3
          obtain ⟨rfl, rfl⟩ : ([] : List PV) = rest ∧ s3 = s2 := by simpa [compL, ret] using e3
          rw [List.append_nil] at eq
          subst eq
          have gu := R1.unpark hv (Z' := fun b => Z b ∨ b = D) (fun _ z => .inl z) (fun b z n => (z.elim (fun z => absurd z n) fun z => by rw [z]; exact hD)) g3
          have nown : ¬ Owns σ (unw s1 s3 us) D := fun z => R1.ownIn (gu.ow D z) hD
          refine q (.ref D) H2 ((show PostE K Z H1 σ s1 (.val (.lst qs) true) (unw s1 s3 us) (.ref D) H2 from ⟨D, rfl, hD, gu, ⟨acc, hacc, ra.ext ?_⟩, nown, fun z => R1.zin D z hD⟩).after g)
          -- what is shared within is shared behind
          refine hid_mono fun b o n e => ⟨fun z => ?_, e⟩
          rcases z with z | ⟨i, p, z1, z2⟩
          · exact n (.inl (.inl z))
          · have hl' : s3.length = s1.length := by rw [g3.rl.len, wipe_length, R1.len]
            have hli : i < s1.length := by
              have z := (List.getElem?_eq_some_iff.mp z1).1
              rw [unw_len, hl'] at z
              exact z
            by_cases hi : i ∈ us
            · rw [unw_in hi (by rw [hl']; exact hli) hli] at z1
              refine n (.inl (.inr ⟨⟨i, p, z1, z2⟩, fun ⟨j, r, y1, y2⟩ => ?_⟩))
              have hlj : j < s1.length := by
                have z := (List.getElem?_eq_some_iff.mp y1).1
                rw [wipeS_len] at z
                exact z
              by_cases hj : j ∈ us
              · rw [wipeS_in hj hlj] at y1; cases y1
              · rw [wipeS_out hj] at y1
                have := R1.dj i j p r b z1 y1 z2 (wipe_some y2).1
                subst this
                exact hj hi
            · rw [unw_out hi] at z1
              exact n (.inr ⟨i, p, z1, by rw [wipe_out' fun z => hi (hv i z)]; exact z2⟩)
        | some p =>
          obtain ⟨hl, ep⟩ := List.getElem?_eq_some_iff.mp ei
          rw [List.drop_eq_getElem_cons hl, ep] at e3
          have subq : Ext (Hd (fun b => (Z b ∨ b = D) ∨ Pk σ s1 own us b) (wipe σ own) s3 H2) (HqD D (wipe σ own) s3 H2) := hid_mono fun b o n e => ⟨fun z => n (z.elim .inr fun z => .inl (.inl (.inr z))), e⟩
          refine .inr ⟨wk.go i p H2 _ _ rb3 hid_sub subq ei, fun H' => ∃ (s : SE) (acc : List V) (as : List PV), Go K (fun b => Z b ∨ Pk σ s1 own us b) (fun b => (Z b ∨ b = D) ∨ Pk σ s1 own us b) H1 (wipe σ own) (wipeS s1 us) s H' ∧
            Rb (HqD D (wipe σ own) s H') (Hd (fun b => (Z b ∨ b = D) ∨ Pk σ s1 own us b) (wipe σ own) s H') ∧ H' D = some (.lst acc) ∧ acc.length ≤ i + 1 ∧ Reps K (Hd (fun b => (Z b ∨ b = D) ∨ Pk σ s1 own us b) (wipe σ own) s H') acc as ∧
            ∃ rest, compL us G T E (ps.drop (i + 1)) s = .ok rest s2 ∧ qs = as ++ rest, fun H' z => ⟨m - 1, by omega, by omega, z⟩, fun x H' hy => ?_⟩
          obtain ⟨ex, rp⟩ := wk.yld i p H2 _ _ x H' rb3 hid_sub subq ei hy
          have g4 : Go K _ _ H2 (wipe σ own) s3 s3 H' := Go.grown g3.rl ex
          rw [grow_hid g3.rl.hidIn ex] at rp
          have m3 : Mt (compL us G T E (p :: ps.drop (i + 1)) s3) (fun r s' => r = rest ∧ s' = s2) (fun _ _ => False) := by rw [e3]; exact ⟨rfl, rfl⟩
          refine ⟨_, s3, p, g4.rl, rp, Mt.imp (Mt.nx (Mt.bnd_ m3)) fun _ s5 m5 σ5 H5 g5 ow5 => ?_⟩
          have hw : wipe σ5 own = wipe σ own := wipe_same hn (by rw [g5.ln, wipe_length]) fun i hi => g5.pn i hi
          have pD : (Z D ∨ D = D) ∨ Pk σ s1 own us D := .inl (.inr rfl)
          refine ⟨hw, ?_⟩
          -- a turn's end
          have fin : ∀ (s6 : SE) (H6 : Hp), Go K (fun b => (Z b ∨ b = D) ∨ Pk σ s1 own us b) (fun b => (Z b ∨ b = D) ∨ Pk σ s1 own us b) H5 σ5 s5 s6 H6 →
              Go K (fun b => Z b ∨ Pk σ s1 own us b) (fun b => (Z b ∨ b = D) ∨ Pk σ s1 own us b) H1 (wipe σ own) (wipeS s1 us) (wipeS s6 us) H6 ∧ Rb (HqD D (wipe σ own) (wipeS s6 us) H6) (Hd (fun b => (Z b ∨ b = D) ∨ Pk σ s1 own us b) (wipe σ own) (wipeS s6 us) H6) ∧
              H6 D = some (.lst acc) ∧ Reps K (Hd (fun b => (Z b ∨ b = D) ∨ Pk σ s1 own us b) (wipe σ own) (wipeS s6 us) H6) acc as ∧ Ext (Hd (fun b => (Z b ∨ b = D) ∨ Pk σ s1 own us b) σ5 s6 H6) (Hd (fun b => (Z b ∨ b = D) ∨ Pk σ s1 own us b) (wipe σ own) (wipeS s6 us) H6) := fun s6 H6 g6 => by
            have nD3 : ¬ Owns (wipe σ own) s3 D := fun z => by
              obtain ⟨i, p, e1, e2⟩ := z
              obtain ⟨b, e3, n, _⟩ := g3.rl.ow i p e1
              rw [e2] at e3; cases e3
              exact n pD
            have G : GoS K (others n own) _ _ H2 (wipe σ own) s3 H6 σ5 s6 := ((g4.st).trans g5).trans g6.st
            obtain ⟨rf, ef⟩ := g6.rl.forget hv
            rw [hw] at rf ef
            have ow6 : ∀ b, Owns (wipe σ own) (wipeS s6 us) b → Owns (wipe σ own) s3 b := fun b z => ow5 b (g6.ow b (owns_wipe (σ := σ5) (vs := own) hv (by rw [hw]; exact z)))
            have fr6 : ∀ b o, H2 b = some o → ¬ Owns (wipe σ own) s3 b → H6 b = some o := fun b o e nn => g6.fr b o (g5.fr b o (ex b o e) nn) fun z => nn (ow5 b z)
            refine ⟨⟨rf, fun b o e nn => fr6 b o (g3.fr b o e nn) fun z => nn (g3.ow b z), fun b z => g3.ow b (ow6 b z), fun b h => G.tr b (g3.tr b h), fun i q e => ?_⟩, ?_, fr6 D _ hacc nD3, ?_, ef⟩
            · have hl : i < s1.length := by
                have z := (List.getElem?_eq_some_iff.mp e).1
                rw [wipeS_len] at z
                exact z
              have hi : i ∉ us := fun hi => by rw [wipeS_in hi hl] at e; cases e
              obtain ⟨q1, e1⟩ := g3.kp i q e
              obtain ⟨q2, e2⟩ := G.kp i q1 e1
              exact ⟨q2, by rw [wipeS_out hi]; exact e2⟩
            · refine wk.mono _ _ _ _ rb3 (hid_mono fun b o nn e => ⟨fun z => nn (z.imp (ow6 b) id), fr6 b o e fun z => nn (.inl z)⟩) (hid_mono fun b o nn e => ⟨fun z => nn (z.imp id (ow6 b)), fr6 b o e fun z => nn (.inr z)⟩)
            · exact ra.ext (hid_mono fun b o nn e => ⟨fun z => nn (z.imp id (ow6 b)), fr6 b o e fun z => nn (.inr z)⟩)
          refine lT_step g5.rl (Mt.noex (Mt.bnd_ m5)) fun k s6 H6 m6 g6 => ?_
          cases k with
          | false =>
            obtain ⟨f1, f2, f3, f4, _⟩ := fin s6 H6 g6
            exact ⟨wipeS s6 us, acc, as, f1, f2, f3, Nat.le_succ_of_le la, f4, rest, by
              have m6 : Mt (compL us G T E (ps.drop (i + 1)) (wipeS s6 us)) (fun r s' => r = rest ∧ s' = s2) (fun _ _ => False) := m6
              cases e6 : compL us G T E (ps.drop (i + 1)) (wipeS s6 us) with
              | stuck => rw [e6] at m6; exact m6.elim
              | exc c s => rw [e6] at m6; exact m6.elim
              | ok r s => rw [e6] at m6; obtain ⟨rfl, rfl⟩ := m6; rfl, eq⟩
          | true =>
            refine lE_step g6.rl (Mt.noex (Mt.bnd_ m6)) fun r s7 y H7 m7 p7 => ?_
            obtain ⟨q8, s8, m8, g8, r8⟩ := rel1_step (mg := mg) p7 (Mt.bnd_ m7)
            obtain ⟨f1, f2, f3, f4, f5⟩ := fin s8 H7 (g6.trans g8)
            refine ⟨acc, f3, by omega, wipeS s8 us, acc ++ [y], as ++ [q8], ⟨f1.rl.zwrite pD, fun b o e nn => by rw [upd_ne (nD b o e)]; exact f1.fr b o e nn, f1.ow, fun b h => ?_, f1.kp⟩, wk.mono _ _ _ _ f2 ?_ (by rw [hd_z pD]; exact Ext.refl), upd_same, by simp; omega, by rw [hd_z pD]; exact f4.append (.cons (r8.ext f5) .nil), ?_⟩
            · by_cases e : b = D
              · subst e; rw [upd_same]; nofun
              · rw [upd_ne e]; exact f1.tr b h
            · exact hid_mono fun b o nn e => ⟨nn, by rw [upd_ne fun z => nn (.inr z)]; exact e⟩
            · have m8 : Mt (bnd (compL us G T E (ps.drop (i + 1))) (fun qs => ret (q8 :: qs)) (wipeS s8 us)) (fun r s' => r = rest ∧ s' = s2) (fun _ _ => False) := m8
              have m9 := Mt.bnd_ m8
              cases e6 : compL us G T E (ps.drop (i + 1)) (wipeS s8 us) with
              | stuck => rw [e6] at m9; exact m9.elim
              | exc c s => rw [e6] at m9; exact m9.elim
              | ok r s =>
                rw [e6] at m9
                obtain ⟨e7, e8⟩ := (m9 : q8 :: r = rest ∧ s = s2)
                exact ⟨r, by rw [e8], by rw [eq, ← e7]; simp⟩
  · rw [if_neg hz] at q
    exact q.elim
end

structure QTs (X : Cx) (W : WX) (ifs : List Expr) (T : PM Bool) : Prop where
  pts : PTs X ifs (lT (kx X) X.mg W T)
theorem pe_monoI {X : Cx} {e : Expr} {t t' : TE} (h : PE X e t) (m : ∀ pins s σ H Q, Inv X pins σ H s → t' σ H Q → t σ H Q) : PE X e t' := ⟨fun pins s σ H Q I q => h.run pins s σ H Q I (m pins s σ H Q I q)⟩
theorem ps_monoI {X : Cx} {st : Stmt} {t t' : TS} (h : PS X st t) (m : ∀ pins s D σ H, Inv X pins σ H s → t' D σ H → t D σ H) : PS X st t' := ⟨fun pins s σ H D I q => h.run pins s σ H D I (m pins s D σ H I q)⟩
section
variable {X : Cx} {W : WX} {pin : List Nat} {c : Expr} {ct : PM Bool}
theorem qts_nil : QTs X W [] (ret true) := ⟨⟨fun pins s σ H Q I ⟨Z, s1, R, h⟩ => pts_nil.run pins s σ H Q I (h _ (Go.refl R))⟩⟩
theorem qts_one (h : QT X W c ct) : QTs X W [c] ct := ⟨pts_one h.pt⟩
theorem qe_lc {elt tg iter : Expr} {ifs : List Expr} {scope : Scope} {own : List (Str × Nat)} {pos : Pos} {I : PM (List PV × List Nat)} {G : PV → PM Unit} {T : PM Bool} {E : PM Arg} (hc : X.calm = true) (hN : X.N.Nodup) (ok : BlkOk X.N X.env.scope scope own) (hi : QIB X W (own.map (·.2)) tg iter I)
    (hg : ∀ (s : Shared) (H : Hp) (C : Addr) (cl : List (Str × Addr)) (fp : List Addr), QG (X.blk s H scope (compEnvC scope cl C X.env) fp) (others X.N.length (own.map (·.2))) tg G)
    (ht : ∀ (s : Shared) (H : Hp) (C : Addr) (cl : List (Str × Addr)) (fp : List Addr), QTs (X.blk s H scope (compEnvC scope cl C X.env) fp) WF ifs T)
    (he : ∀ (s : Shared) (H : Hp) (C : Addr) (cl : List (Str × Addr)) (fp : List Addr), QE (X.blk s H scope (compEnvC scope cl C X.env) fp) WF elt E) (hs : ∀ x, foldedSetIterable iter X.env x = pure x := by intro _; rfl) :
    QE X W (.ListComp elt [⟨tg, iter, ifs, 0⟩] scope pos) (eComp (own.map (·.2)) I G T E) :=
  ⟨pe_monoI (pe_lc hc hN hi.pi ok (fun s H C cl fp => (hg s H C cl fp).pg) (fun s H C cl fp => (ht s H C cl fp).pts) (fun s H C cl fp => (he s H C cl fp).pe) hs) fun pins s σ H Q I h => lc_m I.len h⟩
/-- name = [..], the name a local -/
theorem qs_setLc {i : Nat} {y : Str} {py : Pos} {elt tg iter : Expr} {ifs : List Expr} {scope : Scope} {own : List (Str × Nat)} {pos spos : Pos} {I : PM (List PV × List Nat)} {G : PV → PM Unit} {T : PM Bool} {E : PM Arg} (hp : i ∉ pin) (hc : X.calm = true) (hN : X.N.Nodup) (hy : X.N[i]? = some y) (hyl : X.env.scope.names.lookup y = some .local)
    (hsw : swapsWith (.ListComp elt [⟨tg, iter, ifs, 0⟩] scope pos) (some (.Name y py)) spos.line X.env = pure true) (ok : BlkOk X.N X.env.scope scope own) (hi : QIB X W (own.map (·.2)) tg iter I)
    (hg : ∀ (s : Shared) (H : Hp) (C : Addr) (cl : List (Str × Addr)) (fp : List Addr), QG (X.blk s H scope (compEnvC scope cl C X.env) fp) (others X.N.length (own.map (·.2))) tg G)
    (ht : ∀ (s : Shared) (H : Hp) (C : Addr) (cl : List (Str × Addr)) (fp : List Addr), QTs (X.blk s H scope (compEnvC scope cl C X.env) fp) WF ifs T)
    (he : ∀ (s : Shared) (H : Hp) (C : Addr) (cl : List (Str × Addr)) (fp : List Addr), QE (X.blk s H scope (compEnvC scope cl C X.env) fp) WF elt E) (hs : ∀ x, foldedSetIterable iter X.env x = pure x := by intro _; rfl) :
    QS X W pin (.Assign [.Name y py] (.ListComp elt [⟨tg, iter, ifs, 0⟩] scope pos) spos) (sSet i (eComp (own.map (·.2)) I G T E)) :=
  ⟨ps_monoI (ps_setLc hc hN hy hyl hsw hi.pi ok (fun s H C cl fp => (hg s H C cl fp).pg) (fun s H C cl fp => (ht s H C cl fp).pts) (fun s H C cl fp => (he s H C cl fp).pe) hs) fun pins s D σ H In ⟨Z, s1, R, h⟩ => by
    refine lc_m In.len (lE_step R (MtS.ex (Mt.bnd_ h)) fun r s2 v H1 k p => ?_)
    obtain ⟨s3, k2, g⟩ := setA_post p hp k.bnd_
    exact k2 _ _ g⟩
end
end HF
end

section
set_option Elab.async false
set_option linter.all false
set_option maxRecDepth 100000
set_option maxHeartbeats 1000000
set_option autoImplicit false
/-! HF6: defs and their calls. -/
namespace HF
open PySem PySem.Spec PyProof.Rows L2

/-- what a def gives: a value (fr: new, not shared), behind it what its first parameter holds (where it may change that); an exception -/
inductive DR where
  | ok (p : PV) (fr : Bool) (io : Option PV)
  | exc (c : Str)
  | stuck
abbrev Den := List PV → DR
def st0 (n : Nat) (ps : List PV) : SE := ps.map (fun p => some (false, p)) ++ List.replicate (n - ps.length) none
def outR (r : Arg) (s : SE) (io : Option PV) : DR := match r with
  | .val p fr => .ok p fr io
  | .bor i => (match s[i]? with
    | some (some (true, p)) => .ok p true io
    | _ => .stuck)
/-- a body's worth -/
def denOf (n : Nat) (F : PM Fl) : Den := fun ps => match F (st0 n ps) with
  | .ok .next _ => .ok .non false none
  | .ok (.ret r) s => outR r s none
  | .exc c _ => .exc c
  | _ => .stuck
def ResAt (K : Frg) (Z : Addr → Prop) (H H' : Hp) (v : V) (p : PV) : Bool → Prop
  | false => Rep K (hid Z H') v p
  | true => ∃ a, v = .ref a ∧ H a = none ∧ Ob K H' (hid (fun b => Z b ∨ b = a) H') a p
/-- a def's promise -/
def spP (K : Frg) (mg : Str → Option Value) (n : Nat) (den : Den) : Sp := fun vs H Q E => ∃ (Z : Addr → Prop) (ps : List PV), ps.length = n ∧ (∀ a, Z a → H a ≠ none) ∧ Reps K (hid Z H) vs ps ∧
  match den ps with
  | .ok p fr _ => ∀ v H', Ext H H' → ResAt K Z H H' v p fr → Q v H'
  | .exc c => ∀ C H', mg c = some (.ref C) → Ext H H' → E (.ref C) none H'
  | .stuck => False
section
variable {K : Frg} {Z : Addr → Prop} {H H' : Hp} {vs : List V} {ps : List PV} {N : List Str} {n : Nat}
theorem st0_some {i : Nat} {f : Bool} {p : PV} (h : (st0 n ps)[i]? = some (some (f, p))) : f = false ∧ ps[i]? = some p := by
  unfold st0 at h
  by_cases hi : i < ps.length
  · rw [List.getElem?_append_left (by simpa using hi)] at h
    rw [List.getElem?_map, List.getElem?_eq_getElem hi] at h
    simp at h
    exact ⟨h.1, by rw [List.getElem?_eq_getElem hi, h.2]⟩
  · rw [List.getElem?_append_right (by simpa using Nat.le_of_not_lt hi)] at h
    have h2 := List.mem_of_getElem? h
    rw [List.mem_replicate] at h2
    cases h2.2
theorem start_some {i : Nat} {v : V} (h : vs[i]? = some v) : (L2.start N vs)[i]? = some (some v) := by
  unfold L2.start
  have hi := (List.getElem?_eq_some_iff.mp h).1
  rw [List.getElem?_append_left (by simpa using hi), List.getElem?_map, h]
  rfl
theorem noOwn {σ : L2.St} {a : Addr} : ¬ Owns σ (st0 n ps) a := fun ⟨i, p, e, _⟩ => by
  have := (st0_some e).1
  cases this
theorem hd_start {σ : L2.St} : Hd Z σ (st0 n ps) H = hid Z H := by
  have e : (fun a => Z a ∨ Owns σ (st0 n ps) a) = Z := by
    funext a
    exact propext ⟨fun h => h.elim id fun z => absurd z noOwn, .inl⟩
  show hid _ H = _
  rw [e]
theorem rl_start (hn : N.length = n) (hZ : ∀ a, Z a → H a ≠ none) (r : Reps K (hid Z H) vs ps) : Rl K Z H (L2.start N vs) (st0 n ps) := by
  refine ⟨?_, hZ, fun i p e => ?_, fun i p e => ?_, fun i j p q a e => ?_⟩
  · unfold st0 L2.start
    simp [r.length, hn]
  · obtain ⟨v, h1, h2⟩ := r.get (st0_some e).2
    exact ⟨v, start_some h1, by rw [hd_start]; exact h2⟩
  · have := (st0_some e).1; cases this
  · have := (st0_some e).1; cases this
end
abbrev WE0 (E : XK) : WX := fun cls d _ H => E cls d H
/-- a def by its body -/
theorem fn_pure {P : Program} {w : World} {K : PySem.W.Frag} {mg : Str → Option Value} {base : Heap} {x qual : Str} {params : Arguments} {body : List Stmt} {scope : Scope} {kws : List (Str × V)} {f : Addr} {fd : FuncData} {N ps : List Str} {k : Nat} {F : PM Fl}
    (Fd : FunD K x qual params body scope [] kws f fd) (S : FnScope N ps scope)
    (hbody : ∀ (cdv : Value) (A : Around) (outer : List Env) (s : Shared) (H : Hp) (E : XK), Room k (A.deeper (envOfC qual scope s.heap.objs.size f cdv)) →
      QSs (cxOf (L2.CX P w) P w K mg base N qual scope f cdv A outer s H E) (WE0 E) [] body F) : FnOk P w K mg base (L2.CX P w) (k + 1) f fd ps (spP ⟨K, P, w⟩ mg ps.length (denOf N.length F)) := by
  refine Fd.ok S (fun vs H Q E h => ?_) (fun cdv A outer s H vs Q E hr h => ⟨lS ⟨K, P, w⟩ mg (WE0 E) [] F, (hbody cdv A outer s H E hr).pss, ?_⟩)
  · obtain ⟨Z, qs, h1, _, h2, _⟩ := h
    rw [h2.length, h1]
  · obtain ⟨Z, qs, h1, h0, h2, h3⟩ := h
    have R := rl_start (N := N) rfl h0 h2
    refine ⟨Z, st0 N.length qs, R, ?_⟩
    unfold denOf at h3
    have nO : ∀ a, ¬ Owns (L2.start N vs) (st0 N.length qs) a := fun a => noOwn
    cases e : F (st0 N.length qs) with
    | stuck => simp only [e] at h3
    | exc c s1 =>
      simp only [e] at h3
      exact fun C H' σ' hc g => h3 C H' hc fun a o q => g.fr a o q (nO a)
    | ok fl s1 =>
      cases fl with
      | brk => simp only [e] at h3
      | cont => simp only [e] at h3
      | next =>
        simp only [e] at h3
        exact fun σ' H' g => h3 .non H' (fun a o q => g.fr a o q (nO a)) .non
      | ret r =>
        simp only [e] at h3
        intro v σ' H' p
        match r, h3, p with
        | .val q false, h3, p => exact h3 v H' (fun a o z => p.1.fr a o z (nO a)) (p.2.ext (hid_mono fun a o n z => ⟨fun y => n (.inl y), z⟩))
        | .val q true, h3, ⟨a, e, hn, g, ob, _⟩ => exact h3 v H' (fun a o z => g.fr a o z (nO a)) ⟨a, e, hn, ob.ext rfl (hid_mono fun a o n z => ⟨fun y => n (.inl y), z⟩)⟩
        | .bor i, h3, ⟨g, e1, q, e2⟩ =>
          simp only [outR, e2] at h3
          obtain ⟨a, e3, nz, ob⟩ := g.rl.ow i q e2
          rw [e1] at e3; cases e3
          refine h3 _ H' (fun a o z => g.fr a o z (nO a)) ⟨a, rfl, (g.ow a ⟨i, q, e2, e1⟩).resolve_left (nO a), ob.ext rfl (hid_mono fun b o n z => ⟨fun y => ?_, z⟩)⟩
          rcases y with y | y
          · exact n (.inl y)
          · exact n (.inr (y ▸ ⟨i, q, e2, e1⟩))

/-! ### values without lists and dicts -/
mutual
def imm : PV → Bool
  | .lst _ => false
  | .dct _ _ => false
  | .scr _ => false
  | .tup xs => imms xs
  | _ => true
def imms : List PV → Bool
  | [] => true
  | p :: ps => imm p && imms ps
end
section
variable {K : Frg} {B B' : Addr → Prop} {H : Hp}
theorem rd_imm (h : ∀ a o, ¬ B a → H a = some o → B' a → LD o) {a : Addr} {u : HO} (nu : ¬ LD u) (r : Rd (hid B H) a u) : Rd (hid B' H) a u := by
  rcases r with r | ⟨ob, r⟩
  · obtain ⟨n, e⟩ := hid_some.mp r
    exact .inl (hid_some.mpr ⟨fun z => nu (h a _ n e z), e⟩)
  · obtain ⟨n, e⟩ := hid_some.mp r
    exact .inr ⟨ob, hid_some.mpr ⟨fun z => h a _ n e z, e⟩⟩
mutual
theorem Rep.imm (h : ∀ a o, ¬ B a → H a = some o → B' a → LD o) : ∀ {v : V} {p : PV}, Rep K (hid B H) v p → HF.imm p = true → Rep K (hid B' H) v p
  | _, _, .non, _ => .non
  | _, _, .bl b, _ => .bl b
  | _, _, .int i, _ => .int i
  | _, _, .str x, _ => .str x
  | _, _, .tup q r, e => .tup (q.elim (fun q => .inl (rd_imm h (fun z => z) q)) .inr) (Reps.imm h r (by simpa [HF.imm] using e))
  | _, _, .lst q r, e => by simp [HF.imm] at e
  | _, _, .scr q, e => by simp [HF.imm] at e
  | _, _, .rng q, e => .rng (by
    obtain ⟨n, q⟩ := hid_some.mp q
    exact hid_some.mpr ⟨fun z => h _ _ n q z, q⟩)
  | _, _, .dct q r, e => by simp [HF.imm] at e
theorem Reps.imm (h : ∀ a o, ¬ B a → H a = some o → B' a → LD o) : ∀ {vs : List V} {ps : List PV}, Reps K (hid B H) vs ps → imms ps = true → Reps K (hid B' H) vs ps
  | _, _, .nil, _ => .nil
  | _, _, .cons a r, e => .cons (Rep.imm h a (by simp [imms] at e; exact e.1)) (Reps.imm h r (by simp [imms] at e; exact e.2))
end
theorem RepD.imm (h : ∀ a o, ¬ B a → H a = some o → B' a → LD o) : ∀ {l : List (PV × V × V)} {kvs : List (PV × PV)}, RepD K (hid B H) l kvs → kvs.all (fun p => HF.imm p.1 && HF.imm p.2) = true → RepD K (hid B' H) l kvs
  | _, _, .nil, _ => .nil
  | _, _, .cons b a r, e => by
    simp only [List.all_cons, Bool.and_eq_true] at e
    exact .cons (Rep.imm h b e.1.1) (Rep.imm h a e.1.2) (RepD.imm h r (by simpa using e.2))
end
theorem Reps.conv {K : Frg} {H1 H2 : Hp} {C : PV → Prop} (f : ∀ (w : V) (q : PV), C q → Rep K H1 w q → Rep K H2 w q) : ∀ {ws : List V} {qs : List PV}, Reps K H1 ws qs → (∀ q ∈ qs, C q) → Reps K H2 ws qs
  | _, _, .nil, _ => .nil
  | _, _, .cons a r, h => .cons (f _ _ (h _ List.mem_cons_self) a) (Reps.conv f r fun q hq => h q (List.mem_cons_of_mem _ hq))
theorem RepD.conv {K : Frg} {H1 H2 : Hp} {C : PV → Prop} (f : ∀ (w : V) (q : PV), C q → Rep K H1 w q → Rep K H2 w q) : ∀ {l : List (PV × V × V)} {kvs : List (PV × PV)}, RepD K H1 l kvs → (∀ q ∈ kvs, C q.1 ∧ C q.2) → RepD K H2 l kvs
  | _, _, .nil, _ => .nil
  | _, _, .cons b a r, h => .cons (f _ _ (h _ List.mem_cons_self).1 b) (f _ _ (h _ List.mem_cons_self).2 a) (RepD.conv f r fun q hq => h q (List.mem_cons_of_mem _ hq))
theorem imms_mem : ∀ {ps : List PV}, imms ps = true → ∀ q ∈ ps, imm q = true
  | [], _, q, h => nomatch h
  | p :: ps, e, q, h => by
    simp only [imms, Bool.and_eq_true] at e
    rcases List.mem_cons.mp h with h | h
    · rw [h]; exact e.1
    · exact imms_mem e.2 q h
/-- what comes bears no list, no dict (but itself, where it is new) -/
def immR : PV → Bool → Bool
  | p, false => imm p
  | .lst ps, true => imms ps
  | .dct _ kvs, true => kvs.all fun p => imm p.1 && imm p.2
  | _, true => false
def noBor : List Arg → Bool
  | [] => true
  | .val _ _ :: r => noBor r
  | .bor _ :: _ => false

/-! ### a call -/
def callD (den : Den) (as : List Arg) : PM Arg := fun s => match rvs s as with
  | none => .stuck
  | some ps => (match den ps with
    | .ok p fr _ => if noBor as || immR p fr then .ok (.val p fr) s else (match relAll as s with
      | .ok _ s' => .ok (.val p false) s'
      | _ => .stuck)
    | .exc c => .exc c s
    | .stuck => .stuck)
def eCall (den : Den) (fs : PM (List Arg)) : PM Arg := bnd fs (callD den)
section
variable {K : Frg} {mg : Str → Option Value} {W : WX} {Z : Addr → Prop} {H H' H1 : Hp} {σ : L2.St} {s s1 s' : SE} {v w : V} {vs : List V} {Q : VK} {as : List Arg} {ps : List PV}
/-- what a callee may not see: what is owned and not handed over -/
def Zc (Z : Addr → Prop) (σ : L2.St) (s : SE) (as : List Arg) (a : Addr) : Prop := Z a ∨ ∃ (j : Nat) (p : PV), s[j]? = some (some (true, p)) ∧ σ[j]? = some (some (V.ref a)) ∧ Arg.bor j ∉ as
theorem zc_ext (as : List Arg) : Ext (Hd Z σ s H) (hid (Zc Z σ s as) H) := hid_mono fun b o n q => ⟨fun z => n (z.imp id fun ⟨j, p, e1, e2, _⟩ => ⟨j, p, e1, e2⟩), q⟩
theorem ArgAt.seen {r : Arg} {p : PV} (R : Rl K Z H σ s) (h : ArgAt K Z H σ s v r) (e : rv s r = some p) (hv : r ∈ as) : Rep K (hid (Zc Z σ s as) H) v p := by
  match r, h, hv with
  | .val q fr, h, _ => cases e; exact Rep.ext (zc_ext as) h
  | .bor i, ⟨e1, f, q, e2⟩, hv =>
    simp only [rv, e2, Option.some.injEq] at e
    subst e
    cases f with
    | false =>
      obtain ⟨u, e3, r⟩ := R.sh i _ e2
      rw [e1] at e3; cases e3
      exact r.ext (zc_ext as)
    | true =>
      obtain ⟨a, e3, nz, ob⟩ := R.ow i _ e2
      rw [e1] at e3; cases e3
      refine ob.rep ?_ (zc_ext as)
      show hid _ H a = H a
      unfold hid
      refine if_neg fun z => z.elim nz fun ⟨j, q, e4, e5, nm⟩ => nm ?_
      rw [R.dj j i _ _ a e4 e2 e5 e1]
      exact hv
theorem ArgsAt.seen {bs : List Arg} (R : Rl K Z H σ s) (h : ArgsAt K Z H σ s vs bs) : ∀ {ps : List PV}, rvs s bs = some ps → (∀ r ∈ bs, r ∈ as) → Reps K (hid (Zc Z σ s as) H) vs ps := by
  induction h with
  | nil => intro ps e _; cases e; exact .nil
  | cons a _ ih =>
    rename_i v vs r rs _
    intro ps e hm
    unfold rvs at e
    cases h1 : rv s r with
    | none => rw [h1] at e; simp at e
    | some p =>
      cases h2 : rvs s rs with
      | none => rw [h1, h2] at e; simp at e
      | some qs =>
        rw [h1, h2] at e
        simp at e
        subst e
        exact .cons (a.seen R h1 (hm r List.mem_cons_self)) (ih h2 fun r hr => hm r (List.mem_cons_of_mem _ hr))
theorem noBor_out : ∀ {as : List Arg}, noBor as = true → ∀ j, Arg.bor j ∉ as
  | [], _, _ => by simp
  | .val p f :: r, h, j => by
    intro z
    rcases List.mem_cons.mp z with z | z
    · cases z
    · exact noBor_out (as := r) h j z
  | .bor i :: r, h, j => by cases h
theorem rel1_keep {r : Arg} {p : PV} (h : rel1 r s = .ok p s') : (∀ (j : Nat) (q : PV), s'[j]? = some (some (true, q)) → s[j]? = some (some (true, q)) ∧ r ≠ .bor j) := by
  match r, h with
  | .val q f, h => cases h; exact fun j q e => ⟨e, nofun⟩
  | .bor i, h =>
    unfold rel1 at h
    dsimp only at h
    split at h
    · rename_i q e
      cases h
      intro j q' e'
      by_cases hj : i = j
      · subst hj
        rw [List.getElem?_set_self (List.getElem?_eq_some_iff.mp e).1] at e'
        cases e'
      · rw [List.getElem?_set_ne hj] at e'
        exact ⟨e', fun z => hj (by cases z; rfl)⟩
    · rename_i q e
      cases h
      intro j q' e'
      refine ⟨e', fun z => ?_⟩
      cases z
      rw [e] at e'
      cases e'
    · cases h
theorem relAll_keep : ∀ {as : List Arg} {s s' : SE} {ps : List PV}, relAll as s = .ok ps s' → ∀ (j : Nat) (q : PV), s'[j]? = some (some (true, q)) → s[j]? = some (some (true, q)) ∧ Arg.bor j ∉ as
  | [], s, s', ps, h, j, q, e => by cases h; exact ⟨e, by simp⟩
  | a :: as, s, s', ps, h, j, q, e => by
    unfold relAll bnd at h
    cases h1 : rel1 a s with
    | stuck => rw [h1] at h; cases h
    | exc c s1 => rw [h1] at h; cases h
    | ok p s1 =>
      rw [h1] at h
      dsimp only [bnd] at h
      cases h2 : relAll as s1 with
      | stuck => rw [h2] at h; cases h
      | exc c s1 => rw [h2] at h; cases h
      | ok ps2 s2 =>
        rw [h2] at h
        cases h
        obtain ⟨e1, n1⟩ := relAll_keep h2 j q e
        obtain ⟨e2, n2⟩ := rel1_keep h1 j q e1
        exact ⟨e2, fun z => (List.mem_cons.mp z).elim (fun z => n2 z.symm) n1⟩
theorem call_m {n : Nat} {den : Den} {E : L2.St → XK} (hE : ∀ σ cls d H, E σ cls d H = W cls d σ H) {fs : PM (List Arg)} (hl : ∀ s rs s', fs s = .ok rs s' → rs.length = n)
    (h : lE K mg W (eCall den fs) σ H Q) : tCallS (spP K mg n den) E (lA K mg W fs) σ H Q := by
  obtain ⟨Z, s, R, h⟩ := lE_iff.mp h
  have hb := Mt.bnd_ h
  refine lA_iff.mpr ⟨Z, s, R, ?_⟩
  cases e0 : fs s with
  | stuck => rw [e0] at hb; exact hb
  | exc c s1 => rw [e0] at hb; exact hb
  | ok as s1 =>
    rw [e0] at hb
    intro vs H1 g a1
    have k : Mt (callD den as s1) (fun r s' => ∀ v H', PostE K Z H σ s r s' v H' → Q v H') (fun c s' => XOut K mg W Z H σ s c s') := hb
    unfold callD at k
    cases e1 : rvs s1 as with
    | none => simp only [e1] at k; exact k.elim
    | some ps =>
      simp only [e1] at k
      have lps : ps.length = n := by
        rw [← hl s as s1 e0]
        clear k hb h e0 a1
        induction as generalizing ps with
        | nil => cases e1; rfl
        | cons a as ih =>
          unfold rvs at e1
          cases h1 : rv s1 a with
          | none => rw [h1] at e1; simp at e1
          | some p =>
            cases h2 : rvs s1 as with
            | none => rw [h1, h2] at e1; simp at e1
            | some qs =>
              rw [h1, h2] at e1
              simp at e1
              subst e1
              simp [ih qs h2]
      have R1 := g.rl
      refine ⟨Zc Z σ s1 as, ps, lps, fun a z => z.elim (R1.zin a) fun ⟨j, p, x, y, _⟩ => R1.ownIn ⟨j, p, x, y⟩, a1.seen R1 e1 fun _ h => h, ?_⟩
      cases e2 : den ps with
      | stuck => simp only [e2] at k; exact k.elim
      | exc c =>
        simp only [e2] at k
        intro C H' hc ex
        rw [hE]
        exact k C H' hc (g.trans (Go.grown R1 ex))
      | ok p fr io =>
        simp only [e2] at k
        intro v H' ex res
        have g2 := Go.grown R1 ex
        by_cases c : (noBor as || immR p fr) = true
        · rw [if_pos c] at k
          refine k v H' (PostE.after g ?_)
          rw [Bool.or_eq_true] at c
          -- what the result leans on is not owned
          have key : ∀ (B : Addr → Prop) (w : V) (q : PV), (noBor as = true ∨ imm q = true) → Rep K (hid (fun a => Zc Z σ s1 as a ∨ B a) H') w q → Rep K (hid (fun a => (Z a ∨ Owns σ s1 a) ∨ B a) H') w q := fun B w q c r => by
            rcases c with c | c
            · refine r.ext (hid_mono fun b o n e => ⟨fun z => n (z.imp (fun z => z.imp id fun ⟨j, p, x, y⟩ => ⟨j, p, x, y, noBor_out c j⟩) id), e⟩)
            · refine Rep.imm (fun a o n e z => ?_) r c
              rcases z with (z | z) | z
              · exact absurd (.inl (.inl z)) n
              · obtain ⟨j, p, x, y⟩ := z
                obtain ⟨a', y', _, ob⟩ := R1.ow j p x
                rw [y] at y'; cases y'
                obtain ⟨o', h1, h2⟩ := ob.at_
                have := ex a o' h1
                rw [e] at this; cases this
                exact h2
              · exact absurd (.inr z) n
          have key0 : ∀ (w : V) (q : PV), (noBor as = true ∨ imm q = true) → Rep K (hid (Zc Z σ s1 as) H') w q → Rep K (Hd Z σ s1 H') w q := fun w q c r => by
            have r1 := key (fun _ => False) w q c (r.ext (hid_mono fun b o n e => ⟨fun z => z.elim n id, e⟩))
            exact r1.ext (hid_mono fun b o n e => ⟨fun z => n (.inl z), e⟩)
          cases fr with
          | false => exact ⟨g2, key0 v p c res⟩
          | true =>
            obtain ⟨a, rfl, hn, ob⟩ := res
            obtain ⟨o, ho, _⟩ := ob.at_
            have rh := R1.hold hn ex (by rw [ho]; nofun)
            refine ⟨a, rfl, hn, ⟨rh, g2.fr, g2.ow, g2.tr, g2.kp⟩, ?_, fun z => R1.ownIn z hn, fun z => R1.zin a z hn⟩
            have sw : ∀ (w : V) (q : PV), (noBor as = true ∨ imm q = true) → Rep K (hid (fun b => Zc Z σ s1 as b ∨ b = a) H') w q → Rep K (Hd (fun b => Z b ∨ b = a) σ s1 H') w q := fun w q c r =>
              (key (· = a) w q c r).ext (hid_mono fun b o n e => ⟨fun z => n (by
                rcases z with (z | z) | z
                · exact .inl (.inl z)
                · exact .inr z
                · exact .inl (.inr z)), e⟩)
            cases p with
            | lst xs =>
              obtain ⟨us, hu, ru⟩ := ob
              exact ⟨us, hu, Reps.conv (C := fun q => noBor as = true ∨ imm q = true) sw ru fun q hq => c.imp id fun c => imms_mem c q hq⟩
            | dct kd kvs =>
              obtain ⟨l, hu, ru⟩ := ob
              exact ⟨l, hu, RepD.conv (C := fun q => noBor as = true ∨ imm q = true) sw ru fun q hq => by
                rcases c with c | c
                · exact ⟨.inl c, .inl c⟩
                · have z := List.all_eq_true.mp c q hq
                  rw [Bool.and_eq_true] at z
                  exact ⟨.inr z.1, .inr z.2⟩⟩
            | _ => exact ob.elim
        · rw [if_neg c] at k
          cases e3 : relAll as s1 with
          | stuck => simp only [e3] at k; exact k.elim
          | exc c s2 => simp only [e3] at k; exact k.elim
          | ok qs s2 =>
            simp only [e3] at k
            refine k v H' (PostE.after g ?_)
            have m : Mt (relAll as s1) (fun _ s' => s' = s2) (fun _ _ => False) := by rw [e3]; rfl
            obtain ⟨_, s3, rfl, g3, _⟩ := relAll_post R1 a1 m
            have g4 := g3.trans (Go.grown g3.rl ex)
            refine ⟨g4, ?_⟩
            have ext : Ext (hid (Zc Z σ s1 as) H') (Hd Z σ s3 H') := hid_mono fun b o n e => ⟨fun z => n (z.imp id fun ⟨j, p, x, y⟩ => by
              obtain ⟨x1, x2⟩ := relAll_keep e3 j p x
              exact ⟨j, p, x1, y, x2⟩), e⟩
            cases fr with
            | false => exact Rep.ext ext res
            | true =>
              obtain ⟨a, rfl, hn, ob⟩ := res
              refine ob.rep ?_ (hid_mono fun b o n e => ⟨fun z => n (.inl (z.imp id fun ⟨j, p, x, y⟩ => by
                obtain ⟨x1, x2⟩ := relAll_keep e3 j p x
                exact ⟨j, p, x1, y, x2⟩)), e⟩)
              show hid _ H' a = H' a
              unfold hid
              refine if_neg fun z => ?_
              rcases z with z | z
              · exact R1.zin a z hn
              · exact g3.rl.ownIn z hn
end
end HF
end

section
set_option Elab.async false
set_option linter.all false
set_option maxRecDepth 100000
set_option maxHeartbeats 1000000
set_option autoImplicit false
/-! HF7: calls of defs, raise, several stores at once, changes of owned things. -/
namespace HF
open PySem PySem.Spec PyProof.Rows L2

/-! ### f(..), raise -/
section
variable {X : Cx} {W : WX} {pin : List Nat} {e : Expr} {es : List Expr} {fs : PM (List Arg)} {f : PM Arg} {p pos p2 pos2 : Pos} {x : Str} {den : Den}
theorem qe_fn {a C : Addr} {fd : FuncData} {ps : List Str} {k n : Nat} (F : FnOk X.prog X.w X.K X.mg X.base (L2.CX X.prog X.w) k a fd ps (spP (kx X) X.mg n den)) (hr : Room k X.A) (hg : Gl X x) (hm : X.mg x = some (.ref a)) (hk : PySem.W.keepIn X.K (.ref a) = true)
    (hb : Binds X.K fd ps []) (tk : Takes X W) (ha : QA X W (e :: es) fs) (hn : (e :: es).length = n) (hdb : (x == ("__debug__" : Str)) = false := by decide) (he : starEach (e :: es) X.env = (false, eval e X.env) :: starEach es X.env := by rfl)
    (hpl : (backTo pos (starEach es X.env)).any (·.1) = false := by rfl) : QE X W (.Call (.Name x p) (e :: es) [] pos) (eCall den fs) :=
  qe_of (pe_callS (E := WE W) F hr hg hm hk hb (fun σ => passAt tk σ) ha.pa hdb he hpl) fun σ H Q h => call_m (fun _ _ _ _ => rfl) (fun s rs s' q => (ha.len s rs s' q).trans hn) h
def sRaise (x : Str) : PM Fl := fun s => .exc x s
theorem qs_raise {m : Str} {C : Addr} {bmB : List Value} {B newId initId : String} {j : Nat} (hc : X.calm = true) (tk : Takes X W) (F : ExcBaseFacts B newId initId bmB) (q : PySem.W.excIn X.K C bmB newId = true) (gC : X.mg x = some (.ref C)) (kC : PySem.W.keepIn X.K (.ref C) = true)
    (r : Raises X (.ref C)) (hg : Gl X x) (hdb : (x == ("__debug__" : Str)) = false := by decide) : QS X W pin (.Raise (some (.Call (.Name x p) [.Constant (.str m) j p2] [] pos)) none pos2) (sRaise x) :=
  ⟨ps_mono (ps_raise hc tk (pmk_own F q gC kC r hg hdb)) fun D σ H ⟨Z, s, R, h⟩ => h C H σ gC (GoS.refl R)⟩
end

/-! ### values that wait, new ones among them -/
section
variable {K : Frg} {mg : Str → Option Value} {W : WX} {pin : List Nat} {Z Z1 Z2 Z' : Addr → Prop} {H H' H1 H2 : Hp} {σ σ' σ1 σ2 : L2.St} {s s1 s2 s' : SE} {v w u : V} {vs : List V} {Q : VK} {D : Ends} {p q : PV} {fr fr2 : Bool} {i j l : Nat}
def Pn (K : Frg) (Z Z1 : Addr → Prop) (H : Hp) (σ : L2.St) (s : SE) (v : V) (p : PV) : Bool → Prop
  | false => Z1 = Z ∧ Rep K (Hd Z1 σ s H) v p
  | true => ∃ a, v = .ref a ∧ Z1 = (fun b => Z b ∨ b = a) ∧ Ob K H (Hd Z1 σ s H) a p ∧ ¬ Owns σ s a ∧ ¬ Z a
/-- it stays -/
theorem Pn.keep (h : Pn K Z Z1 H σ s v p fr) (R : Rl K Z1 H σ s) (fk : ∀ a o, H a = some o → ¬ Owns σ s a → H' a = some o) (ow : ∀ a, Owns σ' s' a → Owns σ s a ∨ H a = none) : Pn K Z Z1 H' σ' s' v p fr := by
  have ext : Ext (Hd Z1 σ s H) (Hd Z1 σ' s' H') := hid_mono fun b o n e => ⟨fun z => z.elim (fun z => n (.inl z)) fun z => (ow b z).elim (fun z => n (.inr z)) fun z => (by rw [e] at z; cases z), fk b o e fun z => n (.inr z)⟩
  cases fr with
  | false => exact ⟨h.1, h.2.ext ext⟩
  | true =>
    obtain ⟨a, e, ez, ob, no, nz⟩ := h
    obtain ⟨o, ho, _⟩ := ob.at_
    refine ⟨a, e, ez, ob.ext (by rw [ho]; exact fk a o ho no) ext, fun z => ?_, nz⟩
    rcases ow a z with z | z
    · exact no z
    · rw [ho] at z; cases z
/-- a piece's value as one that waits -/
def norm : Arg → PM Arg
  | .val p fr => ret (.val p fr)
  | .bor i => bnd (rel1 (.bor i)) fun p => ret (.val p false)
theorem norm_post {r : Arg} {ok : Arg → SE → Prop} {ex : Str → SE → Prop} (h : PostE K Z H σ s r s1 v H1) (m : Mt (norm r s1) ok ex) : ∃ p fr s2 Z1, ok (.val p fr) s2 ∧ Go K Z Z1 H σ s s2 H1 ∧ Pn K Z Z1 H1 σ s2 v p fr ∧ (∀ a, Z a → Z1 a) ∧ (∀ a, Z1 a → ¬ Z a → H a = none) := by
  match r, h, m with
  | .val p false, h, m => exact ⟨p, false, s1, Z, m, h.1, ⟨rfl, h.2⟩, fun _ z => z, fun _ z n => absurd z n⟩
  | .val p true, ⟨a, e, hn, g, ob, no, nz⟩, m => exact ⟨p, true, s1, _, m, g, ⟨a, e, rfl, ob, no, nz⟩, fun _ z => .inl z, fun b z n => (z.elim (fun z => absurd z n) fun z => by rw [z]; exact hn)⟩
  | .bor i, h, m =>
    obtain ⟨q, s2, k, g, r⟩ := rel1_step (mg := fun _ => none) h (Mt.bnd_ m)
    exact ⟨q, false, s2, Z, k, g, ⟨rfl, r⟩, fun _ z => z, fun _ z n => absurd z n⟩
/-- a value that waits goes into a slot -/
theorem Pn.store (R : Rl K Z1 H σ s) (h : Pn K Z Z1 H σ s v p fr) (hp : i ∉ pin) (hi : i < s.length) :
    Rl K Z H (σ.set i (some v)) (s.set i (some (fr, p))) ∧ (∀ b, Owns (σ.set i (some v)) (s.set i (some (fr, p))) b → Owns σ s b ∨ (Z1 b ∧ ¬ Z b)) ∧ (∀ j ∈ pin, (σ.set i (some v))[j]? = σ[j]?) ∧ (σ.set i (some v)).length = σ.length := by
  cases fr with
  | false =>
    obtain ⟨rfl, r⟩ := h
    have g := store_sh (pin := pin) R r hp hi
    exact ⟨g.rl, fun b z => .inl (store_ow_sub R.len z), g.pn, g.ln⟩
  | true =>
    obtain ⟨a, rfl, rfl, ob, no, nz⟩ := h
    obtain ⟨r, ow, pn⟩ := store_ow (pin := pin) R ob no nz hp hi
    exact ⟨r, fun b z => (ow b z).imp id fun e => by subst e; exact ⟨.inr rfl, nz⟩, pn, List.length_set⟩
end
def setW (i : Nat) : Arg → PM Unit
  | .val p fr => setV i p fr
  | .bor _ => stk
def sPar (i j : Nat) (f g : PM Arg) : PM Fl := bnd f fun a => bnd (norm a) fun a => bnd g fun b => bnd (norm b) fun b => bnd (setW j b) fun _ => bnd (setW i a) fun _ => ret .next
def sPar3 (i j l : Nat) (f g h : PM Arg) : PM Fl := bnd f fun a => bnd (norm a) fun a => bnd g fun b => bnd (norm b) fun b => bnd h fun c => bnd (norm c) fun c => bnd (setW l c) fun _ => bnd (setW j b) fun _ => bnd (setW i a) fun _ => ret .next

section
variable {K : Frg} {mg : Str → Option Value} {W : WX} {pin : List Nat} {Z Z1 Z2 Z3 Z' : Addr → Prop} {H H' H1 H2 H3 : Hp} {σ σ' σ1 σ2 : L2.St} {s s0 s1 s2 s3 s' : SE} {v w u : V} {vs : List V} {Q : VK} {D : Ends} {p q : PV} {fr fr2 : Bool} {i j l : Nat}
theorem Go.thru (a : Go K Z Z1 H σ s s1 H1) (b : Go K Z1 Z2 H1 σ s1 s2 H2) : Go K Z Z2 H σ s s2 H2 :=
  ⟨b.rl, fun c o e n => b.fr c o (a.fr c o e n) fun z => n (a.ow c z), fun c z => a.ow c (b.ow c z), fun c h => b.tr c (a.tr c h), fun i q e => let ⟨_, e1⟩ := a.kp i q e; b.kp i _ e1⟩
theorem setW_in {r : Arg} {ok : Unit → SE → Prop} {ex : Str → SE → Prop} {p : PV} {fr : Bool} (e : r = .val p fr) (m : Mt (setW i r s) ok ex) : i < s.length ∧ ok () (s.set i (some (fr, p))) := by
  subst e
  simp only [setW, setV] at m
  split at m
  · rename_i hi; exact ⟨hi, m⟩
  · exact m.elim
/-- a chain of values that wait: what they are worth at the end -/
structure Ch (K : Frg) (pin : List Nat) (Z Z' : Addr → Prop) (H : Hp) (σ : L2.St) (s : SE) (H' : Hp) (σ' : L2.St) (s' : SE) : Prop where
  rl : Rl K Z' H' σ' s'
  fr : ∀ a o, H a = some o → ¬ Owns σ s a → H' a = some o
  ow : ∀ a, Owns σ' s' a → Owns σ s a ∨ H a = none
  tr : ∀ a, H a ≠ none → H' a ≠ none
  pn : ∀ i ∈ pin, σ'[i]? = σ[i]?
  ln : σ'.length = σ.length
  kp : ∀ (i : Nat) (q : Bool × PV), s[i]? = some (some q) → ∃ q', s'[i]? = some (some q')
theorem Ch.of (g : Go K Z Z1 H σ s s1 H1) : Ch K pin Z Z1 H σ s H1 σ s1 := ⟨g.rl, g.fr, fun a o => .inl (g.ow a o), g.tr, fun _ _ => rfl, rfl, g.kp⟩
theorem Ch.gos (c : Ch K pin Z Z H σ s H' σ' s') : GoS K pin Z Z H σ s H' σ' s' := ⟨c.rl, c.fr, c.ow, c.tr, c.pn, c.ln, c.kp⟩
theorem Ch.pre (g : Go K Z Z1 H σ s s1 H1) (c : Ch K pin Z1 Z2 H1 σ s1 H2 σ2 s2) : Ch K pin Z Z2 H σ s H2 σ2 s2 where
  rl := c.rl
  fr := fun a o e n => c.fr a o (g.fr a o e n) fun z => n (g.ow a z)
  ow := fun a z => (c.ow a z).imp (g.ow a) fun y => by
    cases e : H a with
    | none => rfl
    | some o => exact absurd y (g.tr a (by rw [e]; nofun))
  tr := fun a h => c.tr a (g.tr a h)
  pn := c.pn
  ln := c.ln
  kp := fun i q e => let ⟨_, e1⟩ := g.kp i q e; c.kp i _ e1
/-- the value that waited at (H1, s1) is stored behind all others -/
theorem Ch.store (hp : i ∉ pin) (hi : i < s2.length) (R1 : Rl K Z1 H1 σ s1) (hz : ∀ a, Z1 a → ¬ Z a → H1 a ≠ none → H a = none) (pn : Pn K Z Z1 H1 σ s1 v p fr) (hzn : ∀ a, Z1 a → ¬ Z a → H a = none) (g : Go K Z Z1 H σ s s1 H1)
    (c : Ch K pin Z1 Z1 H1 σ s1 H2 σ2 s2) : Ch K pin Z Z H σ s H2 (σ2.set i (some v)) (s2.set i (some (fr, p))) := by
  have p2 := pn.keep R1 c.fr c.ow
  obtain ⟨r, ow, pnn, ln⟩ := p2.store (pin := pin) c.rl hp hi
  have cc := Ch.pre g c
  refine ⟨r, cc.fr, fun a z => ?_, cc.tr, fun j hj => (pnn j hj).trans (cc.pn j hj), ln.trans cc.ln, fun j q e => let ⟨_, e1⟩ := cc.kp j q e; set_kp j _ e1⟩
  rcases ow a z with z | ⟨z1, z2⟩
  · exact cc.ow a z
  · exact .inr (hzn a z1 z2)
theorem par_m (hp : i ∉ pin) (hq : j ∉ pin) (hij : i ≠ j) {f g : PM Arg} (R : Rl K Z H σ s) (h : Mt (sPar i j f g s) (lF K pin Z H σ s D) (XOutS K mg W pin Z H σ s)) :
    lE K mg W f σ H fun x H1 => lE K mg W g σ H1 fun y H2 => ∀ H3, Ext H2 H3 → D.nx ((σ.set i (some x)).set j (some y)) H3 := by
  refine lE_step R (MtS.ex (Mt.bnd_ h)) fun r s1 v H1 k p1 => ?_
  obtain ⟨p, fr, s2, Z1, k, g1, n1, z1, zn1⟩ := norm_post p1 (Mt.bnd_ k)
  have k' : Mt (bnd g _ s2) (lF K pin Z H σ s D) (XOutS K mg W pin Z H σ s) := k
  have kb := Mt.bnd_ k'
  refine lE_iff.mpr ⟨Z1, s2, g1.rl, ?_⟩
  cases e : g s2 with
  | stuck => rw [e] at kb; exact kb
  | exc c s3 =>
    rw [e] at kb
    exact fun C H' hc gg => kb C H' σ hc ((g1.thru gg).weak z1).st
  | ok r2 s3 =>
    rw [e] at kb
    intro w H2 p2 H3 ex
    obtain ⟨q, fr2, s4, Z2, k2, g2, n2, z2, zn2⟩ := norm_post p2 (Mt.bnd_ kb)
    have m3 := Mt.bnd_ k2
    obtain ⟨hj, k3⟩ := setW_in rfl m3
    have m4 := Mt.bnd_ k3
    obtain ⟨hi, k4⟩ := setW_in rfl m4
    have g3 : Go K Z2 Z2 H2 σ s4 s4 H3 := Go.grown g2.rl ex
    have c2 : Ch K pin Z1 Z1 H1 σ s2 H3 (σ.set j (some w)) (s4.set j (some (fr2, q))) := Ch.store hq hj g2.rl (fun a x y _ => zn2 a x y) n2 zn2 g2 (Ch.of g3)
    have c1 := Ch.store hp hi g1.rl (fun a x y _ => zn1 a x y) n1 zn1 g1 c2
    rw [List.set_comm _ _ hij.symm] at c1
    exact k4 _ _ c1.gos
theorem par3_m (hp : i ∉ pin) (hq : j ∉ pin) (hl : l ∉ pin) (hij : i ≠ j) (hil : i ≠ l) (hjl : j ≠ l) {f g h : PM Arg} (R : Rl K Z H σ s) (m : Mt (sPar3 i j l f g h s) (lF K pin Z H σ s D) (XOutS K mg W pin Z H σ s)) :
    lE K mg W f σ H fun x H1 => lE K mg W g σ H1 fun y H2 => lE K mg W h σ H2 fun z H3 => ∀ H4, Ext H3 H4 → D.nx (((σ.set i (some x)).set j (some y)).set l (some z)) H4 := by
  refine lE_step R (MtS.ex (Mt.bnd_ m)) fun r s1 v H1 k p1 => ?_
  obtain ⟨p, fr, s2, Z1, k, g1, n1, z1, zn1⟩ := norm_post p1 (Mt.bnd_ k)
  have kb := Mt.bnd_ (show Mt (bnd g _ s2) (lF K pin Z H σ s D) (XOutS K mg W pin Z H σ s) from k)
  refine lE_iff.mpr ⟨Z1, s2, g1.rl, ?_⟩
  cases e : g s2 with
  | stuck => rw [e] at kb; exact kb
  | exc c s3 =>
    rw [e] at kb
    exact fun C H' hc gg => kb C H' σ hc ((g1.thru gg).weak z1).st
  | ok r2 s3 =>
    rw [e] at kb
    intro w H2 p2
    obtain ⟨q, fr2, s4, Z2, k2, g2, n2, z2, zn2⟩ := norm_post p2 (Mt.bnd_ kb)
    have kc := Mt.bnd_ (show Mt (bnd h _ s4) (lF K pin Z H σ s D) (XOutS K mg W pin Z H σ s) from k2)
    refine lE_iff.mpr ⟨Z2, s4, g2.rl, ?_⟩
    cases e2 : h s4 with
    | stuck => rw [e2] at kc; exact kc
    | exc c s5 =>
      rw [e2] at kc
      exact fun C H' hc gg => kc C H' σ hc (((g1.thru g2).thru gg).weak fun a z => z2 a (z1 a z)).st
    | ok r3 s5 =>
      rw [e2] at kc
      intro u H3 p3 H4 ex
      obtain ⟨q3, fr3, s6, Z3, k3, g3, n3, z3, zn3⟩ := norm_post p3 (Mt.bnd_ kc)
      obtain ⟨h1, k4⟩ := setW_in rfl (Mt.bnd_ k3)
      obtain ⟨h2, k5⟩ := setW_in rfl (Mt.bnd_ k4)
      obtain ⟨h3, k6⟩ := setW_in rfl (Mt.bnd_ k5)
      have g4 : Go K Z3 Z3 H3 σ s6 s6 H4 := Go.grown g3.rl ex
      have c3 : Ch K pin Z2 Z2 H2 σ s4 H4 (σ.set l (some u)) (s6.set l (some (fr3, q3))) := Ch.store hl h1 g3.rl (fun a x y _ => zn3 a x y) n3 zn3 g3 (Ch.of g4)
      have c2 := Ch.store hq h2 g2.rl (fun a x y _ => zn2 a x y) n2 zn2 g2 c3
      have c1 := Ch.store hp h3 g1.rl (fun a x y _ => zn1 a x y) n1 zn1 g1 c2
      rw [List.set_comm _ _ hjl.symm, List.set_comm _ _ hil.symm, List.set_comm _ _ hij.symm] at c1
      exact k6 _ _ c1.gos
end
section
variable {X : Cx} {W : WX} {pin : List Nat} {a b c : Expr} {f g h : PM Arg} {x y z : Str} {i j l : Nat} {px py pz pt pos : Pos} {kt k2 : Nat} {pt2 : Pos}
theorem qs_par (hp : i ∉ pin) (hq : j ∉ pin) (hc : X.calm = true) (hN : X.N.Nodup) (hi : X.N[i]? = some x) (hj : X.N[j]? = some y) (hij : i ≠ j)
    (hx : X.env.scope.names.lookup x = some .local) (hy : X.env.scope.names.lookup y = some .local) (ha : QE X W a f) (hb : QE X W b g)
    (hw : swappedStores [.Tuple [.Name x px, .Name y py] kt pt] (.Tuple [a, b] k2 pt2) X.env = pure (some [x, y]))
    (hs : swapsWithSole [.Tuple [.Name x px, .Name y py] kt pt] (.Tuple [a, b] k2 pt2) pos.line X.env = pure false := by rfl)
    (s1 : starEach [a, b] X.env = (false, eval a X.env) :: starEach [b] X.env := by rfl) (s2 : starEach [b] X.env = (false, eval b X.env) :: starEach [] X.env := by rfl) :
    QS X W pin (.Assign [.Tuple [.Name x px, .Name y py] kt pt] (.Tuple [a, b] k2 pt2) pos) (sPar i j f g) :=
  ⟨ps_mono (ps_par hc hN hi hj hij hx hy (pa_cons ha.pe (pa_cons hb.pe pa_nil s2) s1) hw hs) fun D σ H ⟨Z, s, R, h⟩ => by
    obtain ⟨Z', s', R', m⟩ := lE_iff.mp (par_m hp hq hij R h)
    refine lE_iff.mpr ⟨Z', s', R', m.imp fun r s1 k v H1 p => ?_⟩
    obtain ⟨Z2, s2, R2, m2⟩ := lE_iff.mp (k v H1 p)
    exact lE_iff.mpr ⟨Z2, s2, R2, m2.imp fun r s1 k w H2 p => ⟨v, w, rfl, k w H2 p H2 Ext.refl⟩⟩⟩
theorem qs_par3 (hp : i ∉ pin) (hq : j ∉ pin) (hl' : l ∉ pin) (hc : X.calm = true) (hN : X.N.Nodup) (hi : X.N[i]? = some x) (hj : X.N[j]? = some y) (hl : X.N[l]? = some z) (hij : i ≠ j) (hil : i ≠ l) (hjl : j ≠ l)
    (hx : X.env.scope.names.lookup x = some .local) (hy : X.env.scope.names.lookup y = some .local) (hz : X.env.scope.names.lookup z = some .local) (ha : QE X W a f) (hb : QE X W b g) (hcc : QE X W c h)
    (hw : swappedStores [.Tuple [.Name x px, .Name y py, .Name z pz] kt pt] (.Tuple [a, b, c] k2 pt2) X.env = pure (some [x, y, z]))
    (hs : swapsWithSole [.Tuple [.Name x px, .Name y py, .Name z pz] kt pt] (.Tuple [a, b, c] k2 pt2) pos.line X.env = pure false := by rfl)
    (s1 : starEach [a, b, c] X.env = (false, eval a X.env) :: starEach [b, c] X.env := by rfl) (s2 : starEach [b, c] X.env = (false, eval b X.env) :: starEach [c] X.env := by rfl) (s3 : starEach [c] X.env = (false, eval c X.env) :: starEach [] X.env := by rfl) :
    QS X W pin (.Assign [.Tuple [.Name x px, .Name y py, .Name z pz] kt pt] (.Tuple [a, b, c] k2 pt2) pos) (sPar3 i j l f g h) :=
  ⟨ps_mono (ps_par3 hc hN hi hj hl hij hil hjl hx hy hz (pa_cons ha.pe (pa_cons hb.pe (pa_cons hcc.pe pa_nil s3) s2) s1) hw hs) fun D σ H ⟨Z, s, R, h⟩ => by
    obtain ⟨Z', s', R', m⟩ := lE_iff.mp (par3_m hp hq hl' hij hil hjl R h)
    refine lE_iff.mpr ⟨Z', s', R', m.imp fun r s1 k v H1 p => ?_⟩
    obtain ⟨Z2, s2, R2, m2⟩ := lE_iff.mp (k v H1 p)
    refine lE_iff.mpr ⟨Z2, s2, R2, m2.imp fun r s1 k w H2 p => ?_⟩
    obtain ⟨Z3, s3, R3, m3⟩ := lE_iff.mp (k w H2 p)
    exact lE_iff.mpr ⟨Z3, s3, R3, m3.imp fun r s1 k u H3 p => ⟨v, w, u, rfl, k u H3 p H3 Ext.refl⟩⟩⟩
/-- the same where a name is captured: the tuple is made and taken apart -/
theorem qs_parC (hp : i ∉ pin) (hq : j ∉ pin) (hc : X.calm = true) (hN : X.N.Nodup) (hi : X.N[i]? = some x) (hj : X.N[j]? = some y) (hij : i ≠ j) (hx : Loc X.env.scope x) (hy : Loc X.env.scope y) (ha : QE X W a f) (hb : QE X W b g)
    (hw : swappedStores [.Tuple [.Name x px, .Name y py] kt pt] (.Tuple [a, b] k2 pt2) X.env = pure none)
    (fx : X.fn x = true ∨ X.env.scope.names.lookup x = some .local := by first | exact .inl rfl | exact .inr rfl) (fy : X.fn y = true ∨ X.env.scope.names.lookup y = some .local := by first | exact .inl rfl | exact .inr rfl)
    (hs : swapsWithSole [.Tuple [.Name x px, .Name y py] kt pt] (.Tuple [a, b] k2 pt2) pos.line X.env = pure false := by rfl)
    (s1 : starEach [a, b] X.env = (false, eval a X.env) :: starEach [b] X.env := by rfl) (s2 : starEach [b] X.env = (false, eval b X.env) :: starEach [] X.env := by rfl) :
    QS X W pin (.Assign [.Tuple [.Name x px, .Name y py] kt pt] (.Tuple [a, b] k2 pt2) pos) (sPar i j f g) :=
  ⟨ps_mono (ps_asg (pe_tup (pa_cons ha.pe (pa_cons hb.pe pa_nil s2) s1)) (pg_tup hc (pgs_cons (pg_name hN hi hx fx) (pgs_cons (pg_name hN hj hy fy) pgs_nil))) hs hw) fun D σ H ⟨Z, s, R, h⟩ => by
    obtain ⟨Z', s', R', m⟩ := lE_iff.mp (par_m hp hq hij R h)
    refine lE_iff.mpr ⟨Z', s', R', m.imp fun r s1 k v H1 p => ?_⟩
    obtain ⟨Z2, s2, R2, m2⟩ := lE_iff.mp (k v H1 p)
    refine lE_iff.mpr ⟨Z2, s2, R2, m2.imp fun r s1 k w H2 p => ⟨by show 2 ≤ sizeLine; decide, fun t ht => ?_⟩⟩
    exact ⟨t, [v, w], rfl, .of upd_same, rfl, v, [w], rfl, w, [], rfl, rfl, k w H2 p _ (ext_upd ht)⟩⟩
theorem qs_par3C (hp : i ∉ pin) (hq : j ∉ pin) (hl' : l ∉ pin) (hc : X.calm = true) (hN : X.N.Nodup) (hi : X.N[i]? = some x) (hj : X.N[j]? = some y) (hl : X.N[l]? = some z) (hij : i ≠ j) (hil : i ≠ l) (hjl : j ≠ l) (hx : Loc X.env.scope x) (hy : Loc X.env.scope y) (hz : Loc X.env.scope z)
    (ha : QE X W a f) (hb : QE X W b g) (hcc : QE X W c h)
    (hw : swappedStores [.Tuple [.Name x px, .Name y py, .Name z pz] kt pt] (.Tuple [a, b, c] k2 pt2) X.env = pure none)
    (fx : X.fn x = true ∨ X.env.scope.names.lookup x = some .local := by first | exact .inl rfl | exact .inr rfl) (fy : X.fn y = true ∨ X.env.scope.names.lookup y = some .local := by first | exact .inl rfl | exact .inr rfl) (fz : X.fn z = true ∨ X.env.scope.names.lookup z = some .local := by first | exact .inl rfl | exact .inr rfl)
    (hs : swapsWithSole [.Tuple [.Name x px, .Name y py, .Name z pz] kt pt] (.Tuple [a, b, c] k2 pt2) pos.line X.env = pure false := by rfl)
    (s1 : starEach [a, b, c] X.env = (false, eval a X.env) :: starEach [b, c] X.env := by rfl) (s2 : starEach [b, c] X.env = (false, eval b X.env) :: starEach [c] X.env := by rfl) (s3 : starEach [c] X.env = (false, eval c X.env) :: starEach [] X.env := by rfl) :
    QS X W pin (.Assign [.Tuple [.Name x px, .Name y py, .Name z pz] kt pt] (.Tuple [a, b, c] k2 pt2) pos) (sPar3 i j l f g h) :=
  ⟨ps_mono (ps_asg (pe_tup (pa_cons ha.pe (pa_cons hb.pe (pa_cons hcc.pe pa_nil s3) s2) s1)) (pg_tup hc (pgs_cons (pg_name hN hi hx fx) (pgs_cons (pg_name hN hj hy fy) (pgs_cons (pg_name hN hl hz fz) pgs_nil)))) hs hw) fun D σ H ⟨Z, s, R, h⟩ => by
    obtain ⟨Z', s', R', m⟩ := lE_iff.mp (par3_m hp hq hl' hij hil hjl R h)
    refine lE_iff.mpr ⟨Z', s', R', m.imp fun r s1 k v H1 p => ?_⟩
    obtain ⟨Z2, s2, R2, m2⟩ := lE_iff.mp (k v H1 p)
    refine lE_iff.mpr ⟨Z2, s2, R2, m2.imp fun r s1 k w H2 p => ?_⟩
    obtain ⟨Z3, s3, R3, m3⟩ := lE_iff.mp (k w H2 p)
    refine lE_iff.mpr ⟨Z3, s3, R3, m3.imp fun r s1 k u H3 p => ⟨by show 3 ≤ sizeLine; decide, fun t ht => ?_⟩⟩
    exact ⟨t, [v, w, u], rfl, .of upd_same, rfl, v, [w, u], rfl, w, [u], rfl, u, [], rfl, rfl, k u H3 p _ (ext_upd ht)⟩⟩
end
end HF
end

section
set_option Elab.async false
set_option linter.all false
set_option maxRecDepth 100000
set_option maxHeartbeats 1000000
set_option autoImplicit false
/-! HF8: owned lists and dicts are changed; op=. -/
namespace HF
open PySem PySem.Spec PyProof.Rows L2

section
variable {K : Frg} {mg : Str → Option Value} {W : WX} {pin : List Nat} {Z Z' : Addr → Prop} {H H' H1 : Hp} {σ : L2.St} {s s1 s' : SE} {v w : V} {vs : List V} {Q : VK} {p p' q : PV} {i : Nat} {a : Addr} {o : HO}
theorem owns_same (e : s[i]? = some (some (true, p))) {b : Addr} : Owns σ (s.set i (some (true, p'))) b ↔ Owns σ s b := by
  have hi := (List.getElem?_eq_some_iff.mp e).1
  refine ⟨fun ⟨j, q, e1, e2⟩ => ?_, fun ⟨j, q, e1, e2⟩ => ?_⟩
  · by_cases hj : i = j
    · subst hj; exact ⟨i, p, e, e2⟩
    · rw [List.getElem?_set_ne hj] at e1; exact ⟨j, q, e1, e2⟩
  · by_cases hj : i = j
    · subst hj; exact ⟨i, p', List.getElem?_set_self hi, e2⟩
    · exact ⟨j, q, by rw [List.getElem?_set_ne hj]; exact e1, e2⟩
/-- what an owned slot holds is changed -/
theorem Rl.change (R : Rl K Z H σ s) (e : s[i]? = some (some (true, p))) (ea : σ[i]? = some (some (V.ref a))) (ob : Ob K (upd H a o) (Hd Z σ s H) a p') : Go K Z Z H σ s (s.set i (some (true, p'))) (upd H a o) := by
  have hi := (List.getElem?_eq_some_iff.mp e).1
  have oa : Owns σ s a := ⟨i, p, e, ea⟩
  have hd : Hd Z σ (s.set i (some (true, p'))) (upd H a o) = Hd Z σ s H := by
    have e1 : (fun b => Z b ∨ Owns σ (s.set i (some (true, p'))) b) = fun b => Z b ∨ Owns σ s b := by
      funext b
      rw [owns_same e]
    show hid _ _ = hid _ _
    rw [e1]
    funext b
    unfold hid
    by_cases hb : b = a
    · subst hb; rw [if_pos (.inr oa), if_pos (.inr oa)]
    · rw [upd_ne hb]
  refine ⟨⟨by rw [List.length_set]; exact R.len, fun b z => ?_, fun j q z => ?_, fun j q z => ?_, fun j k q r b z1 z2 z3 z4 => ?_⟩, fun b u z n => ?_, fun b z => (owns_same e).mp z, fun b z => ?_, set_kp⟩
  · by_cases hb : b = a
    · subst hb; rw [upd_same]; nofun
    · rw [upd_ne hb]; exact R.zin b z
  · by_cases hj : i = j
    · subst hj
      rw [List.getElem?_set_self hi] at z
      cases z
    · rw [List.getElem?_set_ne hj] at z
      rw [hd]
      exact R.sh j q z
  · rw [hd]
    by_cases hj : i = j
    · subst hj
      rw [List.getElem?_set_self hi] at z
      cases z
      obtain ⟨a', e1, n, _⟩ := R.ow i p e
      rw [ea] at e1; cases e1
      exact ⟨a, ea, n, ob⟩
    · rw [List.getElem?_set_ne hj] at z
      obtain ⟨b, e1, n, r⟩ := R.ow j q z
      refine ⟨b, e1, n, r.ext (upd_ne fun x => hj ?_) Ext.refl⟩
      subst x
      exact R.dj i j p q b e z ea e1
  · have c : ∀ (m : Nat) (x : PV), (s.set i (some (true, p')))[m]? = some (some (true, x)) → ∃ y, s[m]? = some (some (true, y)) := fun m x y => by
      by_cases hm : i = m
      · subst hm; exact ⟨p, e⟩
      · rw [List.getElem?_set_ne hm] at y; exact ⟨x, y⟩
    obtain ⟨q', y1⟩ := c j q z1
    obtain ⟨r', y2⟩ := c k r z2
    exact R.dj j k q' r' b y1 y2 z3 z4
  · rw [upd_ne fun x => n (by rw [x]; exact oa)]; exact z
  · by_cases hb : b = a
    · subst hb; rw [upd_same]; nofun
    · rw [upd_ne hb]; exact z
end

/-! ### methods of lists -/
/-- what a method makes of the list, what it gives back -/
abbrev OpM := List PV → List PV → Option (List PV × PV)
def MOk (K : Frg) (r : V → List V → Hp → VK → Prop) (op : OpM) : Prop := ∀ (H Hv : Hp) (a : Addr) (vs : List V) (xs : List V) (ps qs ps' : List PV) (res : PV) (Q : VK), Ext Hv H → H a = some (.lst vs) → Reps K Hv vs ps → Reps K Hv xs qs → op ps qs = some (ps', res) →
  (∀ vs' v, Reps K Hv vs' ps' → Rep K Hv v res → Q v (upd H a (.lst vs'))) → r (.ref a) xs H Q
def onLst (i : Nat) (op : OpM) (qs : List PV) : PM Arg := fun s => match s[i]? with
  | some (some (true, .lst ps)) => (match op ps qs with
    | some (ps', res) => .ok (.val res false) (s.set i (some (true, .lst ps')))
    | none => .stuck)
  | _ => .stuck
def isOwnL (i : Nat) : PM Unit := fun s => match s[i]? with
  | some (some (true, .lst _)) => .ok () s
  | _ => .stuck
def eMeth (i : Nat) (op : OpM) (fs : PM (List Arg)) : PM Arg := bnd (isOwnL i) fun _ => bnd fs fun as => bnd (relAll as) fun qs => onLst i op qs
section
variable {K : Frg} {mg : Str → Option Value} {W : WX} {pin : List Nat} {Z Z' : Addr → Prop} {H H' H1 : Hp} {σ : L2.St} {s s1 s' : SE} {v w : V} {vs : List V} {Q : VK} {p p' q : PV} {i : Nat} {a : Addr} {o : HO}
theorem onLst_post {r : V → List V → Hp → VK → Prop} {op : OpM} {qs : List PV} {ok : Arg → SE → Prop} {ex : Str → SE → Prop} (R : Rl K Z H σ s) (mo : MOk K r op) (ea : σ[i]? = some (some (V.ref a))) (rq : Reps K (Hd Z σ s H) vs qs) (m : Mt (onLst i op qs s) ok ex)
    (k : ∀ x s' v H', ok x s' → PostE K Z H σ s x s' v H' → Q v H') : r (.ref a) vs H Q := by
  unfold onLst at m
  cases e : s[i]? with
  | none => simp only [e] at m; exact m.elim
  | some sl =>
    match sl, e, m with
    | some (true, .lst ps), e, m =>
      simp only [e] at m
      cases e2 : op ps qs with
      | none => simp only [e2] at m; exact m.elim
      | some x =>
        obtain ⟨ps', res⟩ := x
        simp only [e2] at m
        obtain ⟨a', e3, _, us, hu, ru⟩ := R.ow i _ e
        rw [ea] at e3; cases e3
        refine mo H _ a us vs ps qs ps' res Q hid_sub hu ru rq e2 fun vs' v r1 r2 => ?_
        have g := R.change e ea (p' := .lst ps') (o := .lst vs') ⟨vs', upd_same, r1⟩
        exact k _ _ v _ m ⟨g, r2.ext g.vis⟩
    | none, e, m => simp only [e] at m; exact m.elim
    | some (false, _), e, m => simp only [e] at m; exact m.elim
    | some (true, .non), e, m => simp only [e] at m; exact m.elim
    | some (true, .bl _), e, m => simp only [e] at m; exact m.elim
    | some (true, .int _), e, m => simp only [e] at m; exact m.elim
    | some (true, .str _), e, m => simp only [e] at m; exact m.elim
    | some (true, .tup _), e, m => simp only [e] at m; exact m.elim
    | some (true, .dct _ _), e, m => simp only [e] at m; exact m.elim
    | some (true, .rng _ _), e, m => simp only [e] at m; exact m.elim
    | some (true, .scr _), e, m => simp only [e] at m; exact m.elim
theorem isOwnL_post {ok : Unit → SE → Prop} {ex : Str → SE → Prop} (R : Rl K Z H σ s) (m : Mt (isOwnL i s) ok ex) : ok () s ∧ ∃ a vs, σ[i]? = some (some (V.ref a)) ∧ H a = some (.lst vs) := by
  unfold isOwnL at m
  cases e : s[i]? with
  | none => simp only [e] at m; exact m.elim
  | some sl =>
    match sl, e, m with
    | some (true, .lst ps), e, m =>
      simp only [e] at m
      obtain ⟨a, e3, _, us, hu, _⟩ := R.ow i _ e
      exact ⟨m, a, us, e3, hu⟩
    | none, e, m => simp only [e] at m; exact m.elim
    | some (false, _), e, m => simp only [e] at m; exact m.elim
    | some (true, .non), e, m => simp only [e] at m; exact m.elim
    | some (true, .bl _), e, m => simp only [e] at m; exact m.elim
    | some (true, .int _), e, m => simp only [e] at m; exact m.elim
    | some (true, .str _), e, m => simp only [e] at m; exact m.elim
    | some (true, .tup _), e, m => simp only [e] at m; exact m.elim
    | some (true, .dct _ _), e, m => simp only [e] at m; exact m.elim
    | some (true, .rng _ _), e, m => simp only [e] at m; exact m.elim
    | some (true, .scr _), e, m => simp only [e] at m; exact m.elim
end
section
variable {X : Cx} {W : WX} {pin : List Nat} {e : Expr} {es : List Expr} {fs : PM (List Arg)} {f : PM Arg} {i : Nat} {x name : Str} {p apos cpos : Pos}
theorem qe_meth {id : String} {r : V → List V → Hp → VK → Prop} {op : OpM} (pa : PlainAttrs "list") (slot : Slot "list" name id) (hty : typeOf (.builtin id) = pure (.type "method_descriptor")) (hm : MtR X id r) (mo : MOk (kx X) r op) (hN : X.N[i]? = some x) (hv : Vis X.env.scope x) (ha : QA X W (e :: es) fs)
    (hd : (x == ("__debug__" : Str)) = false := by decide) (hcd : (x == ("__classdict__" : Str)) = false := by decide)
    (hbase : attributeBase (.Name x p) name X.env (eval (.Name x p) X.env) = eval (.Name x p) X.env := by rfl)
    (hfew : ((backTo cpos (starEach (e :: es) X.env)).all (fun x => !x.1) && (backToKw cpos (keywordEach [] X.env)).all (fun x => x.1.isSome)
      && decide ((e :: es).length + ([] : List Keyword).length + (if ([] : List Keyword).isEmpty then 0 else 1) < 30)) = true := by rfl)
    (hline : (apos.endLine == cpos.line) = true := by rfl) (hs : starEach (e :: es) X.env = (false, eval e X.env) :: starEach es X.env := by rfl) (hplain : (backTo cpos (starEach es X.env)).any (·.1) = false := by rfl) :
    QE X W (.Call (.Attribute (.Name x p) name apos) (e :: es) [] cpos) (eMeth i op fs) :=
  qe_of (pe_bm pa slot hty hm (pe_var hN hv hd hcd) ha.pa hbase hfew hline hs hplain) fun σ H Q h => by
    obtain ⟨Z, s, R, h⟩ := lE_iff.mp h
    obtain ⟨h, a, vs, ea, hu⟩ := isOwnL_post R (Mt.bnd_ h)
    refine ⟨.ref a, ea, .inl ⟨rfl, vs, .of hu⟩, ?_⟩
    refine lA_step R h.bnd_ fun rs s1 xs H1 k g1 a1 => ?_
    obtain ⟨qs, s2, k, g2, r⟩ := relAll_post g1.rl a1 k.bnd_
    exact onLst_post g2.rl mo ea r k fun x s' v H' k p => k v H' (PostE.after (g1.trans g2) p)
theorem qe_meth0 {id : String} {r : V → List V → Hp → VK → Prop} {op : OpM} (pa : PlainAttrs "list") (slot : Slot "list" name id) (hty : typeOf (.builtin id) = pure (.type "method_descriptor")) (hm : MtR X id r) (mo : MOk (kx X) r op) (hN : X.N[i]? = some x) (hv : Vis X.env.scope x)
    (hd : (x == ("__debug__" : Str)) = false := by decide) (hcd : (x == ("__classdict__" : Str)) = false := by decide)
    (hbase : attributeBase (.Name x p) name X.env (eval (.Name x p) X.env) = eval (.Name x p) X.env := by rfl) (hline : (apos.endLine == cpos.line) = true := by rfl) :
    QE X W (.Call (.Attribute (.Name x p) name apos) [] [] cpos) (eMeth i op aNil) :=
  qe_of (pe_bm0 pa slot hty hm (pe_var hN hv hd hcd) hbase hline) fun σ H Q h => by
    obtain ⟨Z, s, R, h⟩ := lE_iff.mp h
    obtain ⟨h, a, vs, ea, hu⟩ := isOwnL_post R (Mt.bnd_ h)
    refine ⟨.ref a, ea, .inl ⟨rfl, vs, .of hu⟩, ?_⟩
    have k : Mt (onLst i op [] s) _ _ := h
    exact onLst_post R mo ea .nil k fun x s' v H' k p => k v H' p
end
/-! the operations -/
def opAppend : OpM := fun ps qs => match qs with
  | [q] => if ps.length < sizeLine then some (ps ++ [q], .non) else none
  | _ => none
def opExtend : OpM := fun ps qs => match qs with
  | [.lst zs] => if ps.length + zs.length ≤ sizeLine then some (ps ++ zs, .non) else none
  | _ => none
def opPop : OpM := fun ps qs => match qs, ps[ps.length - 1]? with
  | [], some q => some (ps.dropLast, q)
  | _, _ => none
def opPopAt : OpM := fun ps qs => match qs with
  | [.int i] => if -(2 ^ 63) ≤ i ∧ i < 2 ^ 63 then (match ixN ps.length i with
    | some k => (match ps[k]? with
      | some q => some (ps.eraseIdx k, q)
      | none => none)
    | none => none) else none
  | _ => none
section
variable {K : Frg}
theorem mo_append : MOk K rAppend opAppend := fun H Hv a vs xs ps qs ps' res Q e ha r rq op k => by
  match qs, rq, op with
  | [q], .cons r1 .nil, op =>
    simp only [opAppend] at op
    split at op
    · rename_i hl
      cases op
      exact ⟨a, vs, _, rfl, rfl, ha, by rw [r.length]; exact hl, k _ _ (r.append (.cons r1 .nil)) .non⟩
    · cases op
theorem mo_extend : MOk K rExtend opExtend := fun H Hv a vs xs ps qs ps' res Q e ha r rq op k => by
  match qs, rq, op with
  | [.lst zs], .cons (.lst hb rb) .nil, op =>
    simp only [opExtend] at op
    split at op
    · rename_i hl
      cases op
      exact ⟨a, _, vs, _, rfl, rfl, ha, e _ _ hb, by rw [r.length, rb.length]; exact hl, k _ _ (r.append rb) .non⟩
    · cases op
theorem Reps.dropLast {H : Hp} {vs : List V} {ps : List PV} (r : Reps K H vs ps) : Reps K H vs.dropLast ps.dropLast := by
  rw [List.dropLast_eq_take, List.dropLast_eq_take, r.length]
  exact r.take _
theorem mo_pop : MOk K rPop opPop := fun H Hv a vs xs ps qs ps' res Q e ha r rq op k => by
  match qs, rq, op with
  | [], .nil, op =>
    simp only [opPop] at op
    split at op
    · rename_i q _ eq
      cases op
      obtain ⟨v, hv, rv⟩ := r.get eq
      exact ⟨a, vs, v, rfl, rfl, ha, by rw [r.length]; exact hv, k _ _ r.dropLast rv⟩
    · cases op
theorem mo_popAt : MOk K rPopAt opPopAt := fun H Hv a vs xs ps qs ps' res Q e ha r rq op k => by
  match qs, rq, op with
  | [.int i], .cons (.int _) .nil, op =>
    simp only [opPopAt] at op
    split at op
    · rename_i hb
      split at op
      · rename_i j ej
        split at op
        · rename_i q eq
          cases op
          obtain ⟨v, hv, rv⟩ := r.get eq
          exact ⟨a, vs, i, j, v, rfl, rfl, ha, hb.1, hb.2, by rw [r.length]; exact (ixN_seq ej).1, hv, k _ _ (r.eraseIdx j) rv⟩
        · cases op
      · cases op
    · cases op
end

/-! ### o[i] = v -/
/-- what is stored into, at what, what: the object behind it -/
abbrev OpS := PV → PV → PV → Option PV
def SOk (K : Frg) (r : V → V → V → Hp → (Hp → Prop) → Prop) (op : OpS) : Prop := ∀ (H Hv : Hp) (a : Addr) (iv v : V) (p q x p' : PV) (Q : Hp → Prop), Ext Hv H → Ob K H Hv a p → Rep K Hv iv q → Rep K Hv v x → op p q x = some p' →
  (∀ o, Ob K (upd H a o) Hv a p' → Q (upd H a o)) → r (.ref a) iv v H Q
def gSubP (i : Nat) (op : OpS) (f : PM Arg) : PV → PM Unit := fun x => fun s => match s[i]? with
  | some (some (true, _)) => (bnd f fun b => bnd (rel1 b) fun q => fun s => match s[i]? with
    | some (some (true, p)) => (match op p q x with
      | some p' => .ok () (s.set i (some (true, p')))
      | none => .stuck)
    | _ => .stuck) s
  | _ => .stuck
section
variable {X : Cx} {W : WX} {pin : List Nat} {e : Expr} {f : PM Arg} {i : Nat} {y : Str} {p pos : Pos}
theorem qg_sub {r : V → V → V → Hp → (Hp → Prop) → Prop} {op : OpS} (hs : PSet X r) (so : SOk (kx X) r op) (hN : X.N[i]? = some y) (hv : Vis X.env.scope y) (he : QE X WF e f) (hd : (y == ("__debug__" : Str)) = false := by decide) (hcd : (y == ("__classdict__" : Str)) = false := by decide)
    (ha : ∀ v, assign (.Subscript (.Name y p) e pos) X.env v = (do
      let ov ← holding [v] (eval (.Name y p) X.env)
      let iv ← holding [v, ov] (eval e X.env)
      standAt pos
      holding [v, ov, iv] (setItem ov iv v)
      release [v, ov, iv] []) := by intro _; rfl) : QG X pin (.Subscript (.Name y p) e pos) (gSubP i op f) :=
  ⟨pg_mono (pg_sub (pe_var hN hv hd hcd) he.pe hs ha) fun v σ H Q ⟨Z, s, x, R, rx, h⟩ => by
    unfold gSubP at h
    cases e1 : s[i]? with
    | none => simp only [e1] at h; exact h.elim
    | some sl =>
      match sl, e1, h with
      | none, e1, h => simp only [e1] at h; exact h.elim
      | some (false, _), e1, h => simp only [e1] at h; exact h.elim
      | some (true, p0), e1, h =>
        simp only [e1] at h
        obtain ⟨a, ea, _, _⟩ := R.ow i p0 e1
        refine ⟨.ref a, ea, ?_⟩
        refine lE_step R (Mt.noex (Mt.bnd_ h)) fun r1 s1 w H1 k p1 => ?_
        obtain ⟨q, s2, k, g2, rq⟩ := rel1_step (mg := X.mg) p1 (Mt.bnd_ k)
        cases e2 : s2[i]? with
        | none => simp only [e2] at k; exact k.elim
        | some sl2 =>
          match sl2, e2, k with
          | none, e2, k => simp only [e2] at k; exact k.elim
          | some (false, _), e2, k => simp only [e2] at k; exact k.elim
          | some (true, p1), e2, k =>
            simp only [e2] at k
            cases e3 : op p1 q x with
            | none => simp only [e3] at k; exact k.elim
            | some p' =>
              simp only [e3] at k
              obtain ⟨a', ea', _, ob⟩ := g2.rl.ow i p1 e2
              rw [ea] at ea'; cases ea'
              refine so H1 _ a w v p1 q x p' _ hid_sub ob rq (rx.ext g2.vis) e3 fun o ob' => ?_
              have g3 := g2.rl.change e2 ea ob'
              exact k _ _ (g2.trans g3).st fun b z => (g2.trans g3).ow b z⟩
end
def opSetL : OpS := fun p q x => match p, q with
  | .lst ps, .int k => (match ixN ps.length k with
    | some j => some (.lst (ps.set j x))
    | none => none)
  | _, _ => none
theorem so_list {K : Frg} : SOk K rSetL opSetL := fun H Hv a iv v p q x p' Q e ob rq rx op k => by
  match p, q, ob, rq, op with
  | .lst ps, .int i, ⟨vs, hv, r⟩, .int _, op =>
    simp only [opSetL] at op
    split at op
    · rename_i j ej
      cases op
      exact ⟨a, vs, i, j, rfl, rfl, hv, by rw [r.length]; exact ej, k _ ⟨_, upd_same, r.set rx j⟩⟩
    · cases op
/-! ### name op= e -/
def sAug (i : Nat) (op : Op2) (f : PM Arg) : PM Fl := fun s => match s[i]? with
  | some (some (false, p)) => (bnd f fun a => bnd (opt2 op (.val p false) a) fun r => bnd (setA i r) fun _ => ret .next) s
  | _ => .stuck
section
variable {X : Cx} {W : WX} {pin : List Nat} {e : Expr} {f : PM Arg} {i : Nat} {x : Str} {p' pos : Pos}
theorem qs_aug {op : Operator} {r : R2} {o : Op2} (hp : i ∉ pin) (hN : X.N.Nodup) (hi : X.N[i]? = some x) (hx : Loc X.env.scope x) (he : QE X W e f) (ho : OpR X (inplaceOp op) r) (ro : ROk2 (kx X) r o)
    (hf : X.fn x = true ∨ X.env.scope.names.lookup x = some .local := by first | exact .inl rfl | exact .inr rfl | assumption) : QS X W pin (.AugAssign (.Name x p') op e pos) (sAug i o f) :=
  ⟨ps_mono (ps_aug hN hi hx he.pe (show PIp X op r from ho) hf) fun D σ H ⟨Z, s, R, h⟩ => by
    unfold sAug at h
    cases e1 : s[i]? with
    | none => simp only [e1] at h; exact h.elim
    | some sl =>
      match sl, e1, h with
      | none, e1, h => simp only [e1] at h; exact h.elim
      | some (true, _), e1, h => simp only [e1] at h; exact h.elim
      | some (false, p), e1, h =>
        simp only [e1] at h
        obtain ⟨v, ev, rp⟩ := R.sh i p e1
        refine ⟨v, ev, lE_step R (MtS.ex (Mt.bnd_ h)) fun r1 s1 w H1 k p1 => ?_⟩
        obtain ⟨g1, a1⟩ := p1.wait
        refine end2' g1.rl ro (show ArgAt (kx X) Z H1 σ s1 v (.val p false) from rp.ext g1.vis) a1 (Mt.bnd_ k) fun z s2 u H2 k2 p2 => ?_
        obtain ⟨s3, k3, g3⟩ := setA_post (p2.after g1) hp (Mt.bnd_ k2)
        exact k3 _ _ g3⟩
end
end HF
end

section
set_option Elab.async false
set_option linter.all false
set_option maxRecDepth 100000
set_option maxHeartbeats 1000000
set_option autoImplicit false
/-! HF9: defs that change what their first parameter holds. -/
namespace HF
open PySem PySem.Spec PyProof.Rows L2

def st1 (n : Nat) : List PV → SE
  | [] => st0 n []
  | p :: ps => some (true, p) :: (ps.map (fun p => some (false, p)) ++ List.replicate (n - (ps.length + 1)) none)
def denIO (n : Nat) (F : PM Fl) : Den := fun ps => match F (st1 n ps) with
  | .ok .next s => (match s[0]? with
    | some (some (true, q)) => .ok .non false (some q)
    | _ => .stuck)
  | .ok (.ret r) s => (match s[0]?, r with
    | some (some (true, q)), .val p fr => .ok p fr (some q)
    | some (some (true, q)), .bor i => if i = 0 then .stuck else outR (.bor i) s (some q)
    | _, _ => .stuck)
  | _ => .stuck
def ResM (K : Frg) (Z : Addr → Prop) (H H' : Hp) (a : Addr) (p0 : PV) (v : V) (p : PV) : Bool → Prop
  | false => Rep K (hid Z H') v p ∧ Ob K H' (hid Z H') a p0
  | true => ∃ b, v = .ref b ∧ H b = none ∧ Ob K H' (hid (fun c => Z c ∨ c = b) H') b p ∧ Ob K H' (hid (fun c => Z c ∨ c = b) H') a p0
def spM (K : Frg) (n : Nat) (den : Den) : Sp := fun vs H Q _ => ∃ (Z : Addr → Prop) (a : Addr) (vs' : List V) (p0 : PV) (ps : List PV), vs = .ref a :: vs' ∧ ps.length + 1 = n ∧ (∀ b, Z b → H b ≠ none) ∧ ¬ Z a ∧ Ob K H (hid (fun b => Z b ∨ b = a) H) a p0 ∧ Reps K (hid (fun b => Z b ∨ b = a) H) vs' ps ∧
  match den (p0 :: ps) with
  | .ok p fr (some p0') => ∀ v H', (∀ b o, H b = some o → b ≠ a → H' b = some o) → ResM K (fun b => Z b ∨ b = a) H H' a p0' v p fr → Q v H'
  | _ => False
section
variable {K : Frg} {Z Z' : Addr → Prop} {H H' : Hp} {vs : List V} {ps : List PV} {N : List Str} {n : Nat} {a : Addr} {p0 : PV}
theorem st1_some {i : Nat} {f : Bool} {p : PV} (h : (st1 n (p0 :: ps))[i]? = some (some (f, p))) : (i = 0 ∧ f = true ∧ p = p0) ∨ ∃ j, i = j + 1 ∧ f = false ∧ ps[j]? = some p := by
  unfold st1 at h
  cases i with
  | zero => simp at h; exact .inl ⟨rfl, h.1, h.2.symm⟩
  | succ j =>
    rw [List.getElem?_cons_succ] at h
    by_cases hi : j < ps.length
    · rw [List.getElem?_append_left (by simpa using hi)] at h
      rw [List.getElem?_map, List.getElem?_eq_getElem hi] at h
      simp at h
      exact .inr ⟨j, rfl, h.1, by rw [List.getElem?_eq_getElem hi, h.2]⟩
    · rw [List.getElem?_append_right (by simpa using Nat.le_of_not_lt hi)] at h
      have h2 := List.mem_of_getElem? h
      rw [List.mem_replicate] at h2
      cases h2.2
theorem own_st1 (hn : N.length = n) {b : Addr} : Owns (L2.start N (.ref a :: vs)) (st1 n (p0 :: ps)) b ↔ b = a := by
  refine ⟨fun ⟨i, p, e1, e2⟩ => ?_, fun e => ⟨0, p0, rfl, by rw [e]; exact start_some rfl⟩⟩
  rcases st1_some e1 with ⟨rfl, _, _⟩ | ⟨j, _, e, _⟩
  · have e3 : (L2.start N (V.ref a :: vs))[0]? = some (some (V.ref a)) := start_some rfl
    rw [e3] at e2
    simp at e2
    exact e2.symm
  · cases e
theorem rl_start1 (hn : N.length = n) (hZ : ∀ a, Z a → H a ≠ none) (nz : ¬ Z a) (ob : Ob K H (hid (fun b => Z b ∨ b = a) H) a p0) (r : Reps K (hid (fun b => Z b ∨ b = a) H) vs ps) : Rl K Z H (L2.start N (.ref a :: vs)) (st1 n (p0 :: ps)) := by
  have hd : Hd Z (L2.start N (.ref a :: vs)) (st1 n (p0 :: ps)) H = hid (fun b => Z b ∨ b = a) H := by
    show hid _ H = _
    congr 1
    funext b
    rw [own_st1 hn]
  refine ⟨?_, hZ, fun i p e => ?_, fun i p e => ?_, fun i j p q b e1 e2 _ _ => ?_⟩
  · unfold st1 L2.start
    simp [r.length, hn]
  · rcases st1_some e with ⟨_, e, _⟩ | ⟨j, rfl, _, e⟩
    · cases e
    · obtain ⟨v, h1, h2⟩ := r.get e
      exact ⟨v, start_some (by simpa using h1), by rw [hd]; exact h2⟩
  · rcases st1_some e with ⟨rfl, _, rfl⟩ | ⟨j, _, e, _⟩
    · exact ⟨a, start_some rfl, nz, by rw [hd]; exact ob⟩
    · cases e
  · rcases st1_some e1 with ⟨rfl, _, _⟩ | ⟨j, _, e, _⟩
    · rcases st1_some e2 with ⟨rfl, _, _⟩ | ⟨j, _, e, _⟩
      · rfl
      · cases e
    · cases e
end
/-- a def that changes what its first parameter holds, by its body -/
theorem fn_io {P : Program} {w : World} {K : PySem.W.Frag} {mg : Str → Option Value} {base : Heap} {x qual : Str} {params : Arguments} {body : List Stmt} {scope : Scope} {kws : List (Str × V)} {f : Addr} {fd : FuncData} {N ps : List Str} {k : Nat} {F : PM Fl}
    (Fd : FunD K x qual params body scope [] kws f fd) (S : FnScope N ps scope)
    (hbody : ∀ (cdv : Value) (A : Around) (outer : List Env) (s : Shared) (H : Hp) (E : XK), Room k (A.deeper (envOfC qual scope s.heap.objs.size f cdv)) →
      QSs (cxOf (L2.CX P w) P w K mg base N qual scope f cdv A outer s H E) (WE0 E) [0] body F) : FnOk P w K mg base (L2.CX P w) (k + 1) f fd ps (spM ⟨K, P, w⟩ ps.length (denIO N.length F)) := by
  refine Fd.ok S (fun vs H Q E h => ?_) (fun cdv A outer s H vs Q E hr h => ⟨lS ⟨K, P, w⟩ mg (WE0 E) [0] F, (hbody cdv A outer s H E hr).pss, ?_⟩)
  · obtain ⟨Z, a, vs', p0, qs, rfl, h1, _, _, _, h2, _⟩ := h
    rw [List.length_cons, h2.length, h1]
  · obtain ⟨Z, a, vs', p0, qs, rfl, h1, h0, nz, ob, h2, h3⟩ := h
    have R := rl_start1 (N := N) rfl h0 nz ob h2
    refine ⟨Z, st1 N.length (p0 :: qs), R, ?_⟩
    unfold denIO at h3
    have nO : ∀ b, b ≠ a → ¬ Owns (L2.start N (.ref a :: vs')) (st1 N.length (p0 :: qs)) b := fun b n z => n ((own_st1 rfl).mp z)
    have s0 : (L2.start N (V.ref a :: vs'))[0]? = some (some (V.ref a)) := start_some rfl
    -- the end
    have fin : ∀ {H' : Hp} {σ' : L2.St} {s' : SE} {Z' : Addr → Prop} {q : PV}, GoS ⟨K, P, w⟩ [0] Z Z' H (L2.start N (.ref a :: vs')) (st1 N.length (p0 :: qs)) H' σ' s' → s'[0]? = some (some (true, q)) → (∀ b, Z b → Z' b) →
        σ'[0]? = some (some (V.ref a)) ∧ (∀ b o, H b = some o → b ≠ a → H' b = some o) ∧ Ob ⟨K, P, w⟩ H' (Hd Z' σ' s' H') a q := fun {H' σ' s' Z' q} g e hz => by
      have e0 : σ'[0]? = some (some (V.ref a)) := (g.pn 0 (by simp)).trans s0
      obtain ⟨b, e1, _, obq⟩ := g.rl.ow 0 q e
      rw [e0] at e1; cases e1
      exact ⟨e0, fun b o y n => g.fr b o y (nO b n), obq⟩
    cases e : F (st1 N.length (p0 :: qs)) with
    | stuck => simp only [e] at h3
    | exc c s1 => simp only [e] at h3
    | ok fl s1 =>
      cases fl with
      | brk => simp only [e] at h3
      | cont => simp only [e] at h3
      | next =>
        simp only [e] at h3
        intro σ' H' g
        cases e0 : s1[0]? with
        | none => simp only [e0] at h3
        | some sl =>
          match sl, e0, h3 with
          | none, e0, h3 => simp only [e0] at h3
          | some (false, _), e0, h3 => simp only [e0] at h3
          | some (true, q), e0, h3 =>
            simp only [e0] at h3
            obtain ⟨f0, f1, f2⟩ := fin g e0 fun _ z => z
            exact h3 .non H' f1 ⟨.non, f2.ext rfl (hid_mono fun b o n y => ⟨fun z => n (z.imp id fun z => ⟨0, q, e0, by rw [z]; exact f0⟩), y⟩)⟩
      | ret r =>
        simp only [e] at h3
        intro v σ' H' p
        cases e0 : s1[0]? with
        | none => simp only [e0] at h3
        | some sl =>
          match sl, e0, h3 with
          | none, e0, h3 => simp only [e0] at h3
          | some (false, _), e0, h3 => simp only [e0] at h3
          | some (true, q), e0, h3 =>
            simp only [e0] at h3
            match r, h3, p with
            | .val p false, h3, ⟨g, rp⟩ =>
              obtain ⟨f0, f1, f2⟩ := fin g e0 fun _ z => z
              have ext : Ext (Hd Z σ' s1 H') (hid (fun b => Z b ∨ b = a) H') := hid_mono fun b o n y => ⟨fun z => n (z.imp id fun z => ⟨0, q, e0, by rw [z]; exact f0⟩), y⟩
              exact h3 v H' f1 ⟨rp.ext ext, f2.ext rfl ext⟩
            | .val p true, h3, ⟨b, eb, hn, g, ob, _, _⟩ =>
              obtain ⟨f0, f1, f2⟩ := fin g e0 fun _ z => .inl z
              have ext : Ext (Hd (fun c => Z c ∨ c = b) σ' s1 H') (hid (fun c => (Z c ∨ c = a) ∨ c = b) H') := hid_mono fun c o n y => ⟨fun z => n (by
                rcases z with (z | z) | z
                · exact .inl (.inl z)
                · exact .inr ⟨0, q, e0, by rw [z]; exact f0⟩
                · exact .inl (.inr z)), y⟩
              exact h3 v H' f1 ⟨b, eb, hn, ob.ext rfl ext, f2.ext rfl ext⟩
            | .bor i, h3, ⟨g, e1, pq, e2⟩ =>
              obtain ⟨f0, f1, f2⟩ := fin g e0 fun _ z => z
              simp only at h3
              by_cases hi : i = 0
              · rw [if_pos hi] at h3; exact h3.elim
              · rw [if_neg hi] at h3
                simp only [outR, e2] at h3
                obtain ⟨b, e3, nz', obp⟩ := g.rl.ow i pq e2
                rw [e1] at e3; cases e3
                have nab : b ≠ a := fun z => hi (g.rl.dj i 0 pq q a e2 e0 (z ▸ e1) f0)
                have ext : Ext (Hd Z σ' s1 H') (hid (fun c => (Z c ∨ c = a) ∨ c = b) H') := hid_mono fun c o n y => ⟨fun z => n (by
                  rcases z with (z | z) | z
                  · exact .inl z
                  · exact .inr ⟨0, q, e0, by rw [z]; exact f0⟩
                  · exact .inr ⟨i, pq, e2, by rw [z]; exact e1⟩), y⟩
                exact h3 _ H' f1 ⟨b, rfl, (g.ow b ⟨i, pq, e2, e1⟩).resolve_left (nO b nab), obp.ext rfl ext, f2.ext rfl ext⟩

/-! ### its call -/
def callM (den : Den) : List Arg → PM Arg
  | .bor i :: rest => bnd (relAll rest) fun ps => fun s => match s[i]? with
    | some (some (true, p0)) => (match den (p0 :: ps) with
      | .ok p fr (some p0') => .ok (.val p fr) (s.set i (some (true, p0')))
      | _ => .stuck)
    | _ => .stuck
  | _ => stk
def eCallM (den : Den) (fs : PM (List Arg)) : PM Arg := bnd fs (callM den)
section
variable {K : Frg} {mg : Str → Option Value} {W : WX} {pin : List Nat} {Z Z' : Addr → Prop} {H H' H1 : Hp} {σ : L2.St} {s s1 s' : SE} {v w : V} {vs : List V} {Q : VK} {p p' q : PV} {i : Nat} {a : Addr} {o : HO}
/-- what an owned slot holds is changed, new things come -/
theorem Rl.change' (R : Rl K Z H σ s) (e : s[i]? = some (some (true, p))) (ea : σ[i]? = some (some (V.ref a))) (fk : ∀ b o, H b = some o → b ≠ a → H' b = some o) (hz : ∀ b, Z b → Z' b) (hn : ∀ b, Z' b → ¬ Z b → H b = none ∧ H' b ≠ none)
    (ob : Ob K H' (hid (fun b => Z' b ∨ Owns σ s b) H') a p') : Go K Z Z' H σ s (s.set i (some (true, p'))) H' := by
  have hi := (List.getElem?_eq_some_iff.mp e).1
  have oa : Owns σ s a := ⟨i, p, e, ea⟩
  obtain ⟨a', ea', nza, _⟩ := R.ow i p e
  rw [ea] at ea'; cases ea'
  have hd : Hd Z' σ (s.set i (some (true, p'))) H' = hid (fun b => Z' b ∨ Owns σ s b) H' := by
    show hid _ _ = _
    congr 1
    funext b
    rw [owns_same e]
  obtain ⟨oo, ho, _⟩ := ob.at_
  have ext : Ext (Hd Z σ s H) (hid (fun b => Z' b ∨ Owns σ s b) H') := hid_mono fun b u n z => by
    refine ⟨fun y => ?_, fk b u z fun x => n (.inr (by rw [x]; exact oa))⟩
    rcases y with y | y
    · by_cases zb : Z b
      · exact n (.inl zb)
      · rw [(hn b y zb).1] at z; cases z
    · exact n (.inr y)
  have tr : ∀ b, H b ≠ none → H' b ≠ none := fun b h => by
    by_cases hb : b = a
    · rw [hb, ho]; nofun
    · cases x : H b with
      | none => exact absurd x h
      | some u => rw [fk b u x hb]; nofun
  refine ⟨⟨by rw [List.length_set]; exact R.len, fun b z => ?_, fun j q z => ?_, fun j q z => ?_, fun j k q r b z1 z2 z3 z4 => ?_⟩, fun b u z n => fk b u z fun x => n (by rw [x]; exact oa), fun b z => (owns_same e).mp z, tr, set_kp⟩
  · by_cases zb : Z b
    · exact tr b (R.zin b zb)
    · exact (hn b z zb).2
  · by_cases hj : i = j
    · subst hj
      rw [List.getElem?_set_self hi] at z
      cases z
    · rw [List.getElem?_set_ne hj] at z
      rw [hd]
      obtain ⟨u, e1, r⟩ := R.sh j q z
      exact ⟨u, e1, r.ext ext⟩
  · rw [hd]
    by_cases hj : i = j
    · subst hj
      rw [List.getElem?_set_self hi] at z
      cases z
      refine ⟨a, ea, fun z => ?_, ob⟩
      have := (hn a z nza).1
      exact R.ownIn oa this
    · rw [List.getElem?_set_ne hj] at z
      obtain ⟨b, e1, n, r⟩ := R.ow j q z
      obtain ⟨u, hu, _⟩ := r.at_
      have nb : b ≠ a := fun x => hj (by subst x; exact R.dj i j p q b e z ea e1)
      refine ⟨b, e1, fun z => ?_, r.ext (by rw [hu]; exact fk b u hu nb) ext⟩
      have := (hn b z n).1
      rw [hu] at this; cases this
  · have c : ∀ (m : Nat) (x : PV), (s.set i (some (true, p')))[m]? = some (some (true, x)) → ∃ y, s[m]? = some (some (true, y)) := fun m x y => by
      by_cases hm : i = m
      · subst hm; exact ⟨p, e⟩
      · rw [List.getElem?_set_ne hm] at y; exact ⟨x, y⟩
    obtain ⟨q', y1⟩ := c j q z1
    obtain ⟨r', y2⟩ := c k r z2
    exact R.dj j k q' r' b y1 y2 z3 z4
theorem callM_m {n : Nat} {den : Den} {E : L2.St → XK} {fs : PM (List Arg)} (hl : ∀ s rs s', fs s = .ok rs s' → rs.length = n) (h : lE K mg W (eCallM den fs) σ H Q) : tCallS (spM K n den) E (lA K mg W fs) σ H Q := by
  obtain ⟨Z, s, R, h⟩ := lE_iff.mp h
  have hb := Mt.bnd_ h
  refine lA_iff.mpr ⟨Z, s, R, ?_⟩
  cases e0 : fs s with
  | stuck => rw [e0] at hb; exact hb
  | exc c s1 => rw [e0] at hb; exact hb
  | ok as s1 =>
    rw [e0] at hb
    intro vs H1 g a1
    have ln := hl s as s1 e0
    match as, a1, hb, ln with
    | [], _, hb, _ => exact hb.elim
    | .val _ _ :: _, _, hb, _ => exact hb.elim
    | .bor i :: rest, .cons ai ar, hb, ln =>
      obtain ⟨ps, s2, k, g2, rps⟩ := relAll_post g.rl ar (Mt.bnd_ hb)
      obtain ⟨ea0, _⟩ := ai
      cases e1 : s2[i]? with
      | none => simp only [e1] at k; exact k.elim
      | some sl =>
        match sl, e1, k with
        | none, e1, k => simp only [e1] at k; exact k.elim
        | some (false, _), e1, k => simp only [e1] at k; exact k.elim
        | some (true, p0), e1, k =>
          simp only [e1] at k
          obtain ⟨a, ea, nz, ob⟩ := g2.rl.ow i p0 e1
          rw [ea0] at ea; cases ea
          have oa : Owns σ s2 a := ⟨i, p0, e1, ea0⟩
          have R2 := g2.rl
          have he : (fun b => (Z b ∨ (Owns σ s2 b ∧ b ≠ a)) ∨ b = a) = fun b => Z b ∨ Owns σ s2 b := by
            funext b
            refine propext ⟨fun z => ?_, fun z => ?_⟩
            · rcases z with (z | z) | z
              · exact .inl z
              · exact .inr z.1
              · rw [z]; exact .inr oa
            · rcases z with z | z
              · exact .inl (.inl z)
              · by_cases hb : b = a
                · exact .inr hb
                · exact .inl (.inr ⟨z, hb⟩)
          refine ⟨fun b => Z b ∨ (Owns σ s2 b ∧ b ≠ a), a, _, p0, ps, rfl, ?_, fun b z => z.elim (R2.zin b) fun z => R2.ownIn z.1, fun z => z.elim nz fun z => z.2 rfl, ?_, ?_, ?_⟩
          · rw [← rps.length]
            have := (show (Arg.bor i :: rest).length = n from ln)
            have l2 : ∀ {vs : List V} {rs : List Arg}, ArgsAt K Z H1 σ s1 vs rs → vs.length = rs.length := fun h => by
              induction h with
              | nil => rfl
              | cons _ _ ih => simp [ih]
            rw [← this, List.length_cons, l2 ar]
          · rw [he]; exact ob
          · rw [he]; exact rps
          · cases e2 : den (p0 :: ps) with
            | stuck => simp only [e2] at k; exact k.elim
            | exc c => simp only [e2] at k; exact k.elim
            | ok p fr io =>
              cases io with
              | none => simp only [e2] at k; exact k.elim
              | some p0' =>
                simp only [e2] at k
                intro v H' fk res
                cases fr with
                | false =>
                  obtain ⟨res, ob'⟩ := res
                  rw [he] at ob' res
                  have g3 := R2.change' e1 ea0 fk (fun _ z => z) (fun b z n => absurd z n) ob'
                  exact k v H' (PostE.after (g.trans g2) ⟨g3, res.ext (hid_mono fun b o n y => ⟨fun z => n (z.imp id (owns_same e1).mp), y⟩)⟩)
                | true =>
                  obtain ⟨b, rfl, hn, obb, oba⟩ := res
                  obtain ⟨u, hu, _⟩ := obb.at_
                  have he2 : (fun c => ((Z c ∨ (Owns σ s2 c ∧ c ≠ a)) ∨ c = a) ∨ c = b) = fun c => (Z c ∨ c = b) ∨ Owns σ s2 c := by
                    funext c
                    have hc : ((Z c ∨ (Owns σ s2 c ∧ c ≠ a)) ∨ c = a) = (Z c ∨ Owns σ s2 c) := congrFun he c
                    rw [hc]
                    exact propext ⟨fun z => z.elim (fun z => z.elim (fun z => .inl (.inl z)) .inr) fun z => .inl (.inr z), fun z => z.elim (fun z => z.elim (fun z => .inl (.inl z)) .inr) fun z => .inl (.inr z)⟩
                  rw [he2] at obb oba
                  have g3 := R2.change' (Z' := fun c => Z c ∨ c = b) e1 ea0 fk (fun _ z => .inl z) (fun c z n => by
                    rcases z with z | z
                    · exact absurd z n
                    · rw [z]; exact ⟨hn, by rw [hu]; nofun⟩) oba
                  exact k _ H' (PostE.after (g.trans g2) ⟨b, rfl, hn, g3, obb.ext rfl (hid_mono fun c o n y => ⟨fun z => n (z.imp id (owns_same e1).mp), y⟩), fun z => R2.ownIn ((owns_same e1).mp z) hn, fun z => R2.zin b z hn⟩)
end

section
variable {X : Cx} {W : WX} {e : Expr} {es : List Expr} {fs : PM (List Arg)} {p pos : Pos} {x : Str} {den : Den}
theorem qe_fnM {a C : Addr} {fd : FuncData} {ps : List Str} {k n : Nat} (F : FnOk X.prog X.w X.K X.mg X.base (L2.CX X.prog X.w) k a fd ps (spM (kx X) n den)) (hr : Room k X.A) (hg : Gl X x) (hm : X.mg x = some (.ref a)) (hk : PySem.W.keepIn X.K (.ref a) = true)
    (hb : Binds X.K fd ps []) (tk : Takes X W) (ha : QA X W (e :: es) fs) (hn : (e :: es).length = n) (hdb : (x == ("__debug__" : Str)) = false := by decide) (he : starEach (e :: es) X.env = (false, eval e X.env) :: starEach es X.env := by rfl)
    (hpl : (backTo pos (starEach es X.env)).any (·.1) = false := by rfl) : QE X W (.Call (.Name x p) (e :: es) [] pos) (eCallM den fs) :=
  qe_of (pe_callS (E := WE W) F hr hg hm hk hb (fun σ => passAt tk σ) ha.pa hdb he hpl) fun σ H Q h => callM_m (fun s rs s' q => (ha.len s rs s' q).trans hn) h
end
end HF
end

section
set_option Elab.async false
set_option linter.all false
set_option maxRecDepth 100000
set_option maxHeartbeats 1000000
set_option autoImplicit false
/-! HFA: what operators and built-in functions do with values. -/
namespace HF
open PySem PySem.Spec PyProof.Rows L2

/-! ### values as data -/
mutual
def peq : PV → PV → Bool
  | .non, .non => true
  | .bl a, .bl b => a == b
  | .int a, .int b => decide (a = b)
  | .str a, .str b => decide (a = b)
  | .tup a, .tup b => peqs a b
  | .lst a, .lst b => peqs a b
  | .dct k a, .dct l b => decide (k = l) && peqd a b
  | .rng a b, .rng c d => decide (a = c) && decide (b = d)
  | .scr a, .scr b => decide (a = b)
  | _, _ => false
def peqs : List PV → List PV → Bool
  | [], [] => true
  | a :: as, b :: bs => peq a b && peqs as bs
  | _, _ => false
def peqd : List (PV × PV) → List (PV × PV) → Bool
  | [], [] => true
  | (a, c) :: as, (b, d) :: bs => peq a b && peq c d && peqd as bs
  | _, _ => false
end
mutual
theorem peq_refl : ∀ p : PV, peq p p = true
  | .non => rfl
  | .bl a => by simp [peq]
  | .int a => by simp [peq]
  | .str a => by simp [peq]
  | .tup a => by simp [peq, peqs_refl a]
  | .lst a => by simp [peq, peqs_refl a]
  | .dct k a => by simp [peq, peqd_refl a]
  | .rng a b => by simp [peq]
  | .scr a => by simp [peq]
theorem peqs_refl : ∀ p : List PV, peqs p p = true
  | [] => rfl
  | a :: as => by simp [peqs, peq_refl a, peqs_refl as]
theorem peqd_refl : ∀ p : List (PV × PV), peqd p p = true
  | [] => rfl
  | (a, b) :: as => by simp [peqd, peq_refl a, peq_refl b, peqd_refl as]
end
mutual
theorem peq_eq : ∀ p q : PV, peq p q = true → p = q
  | .non, q, h => by cases q <;> simp [peq] at h ⊢
  | .bl a, q, h => by cases q <;> simp [peq] at h ⊢; exact h
  | .int a, q, h => by cases q <;> simp [peq] at h ⊢; exact h
  | .str a, q, h => by cases q <;> simp [peq] at h ⊢; exact h
  | .tup a, q, h => by cases q <;> simp [peq] at h ⊢; exact peqs_eq _ _ h
  | .lst a, q, h => by cases q <;> simp [peq] at h ⊢; exact peqs_eq _ _ h
  | .dct k a, q, h => by cases q <;> simp [peq] at h ⊢; exact ⟨h.1, peqd_eq _ _ h.2⟩
  | .rng a b, q, h => by cases q <;> simp [peq] at h ⊢; exact h
  | .scr a, q, h => by cases q <;> simp [peq] at h ⊢; exact h
theorem peqs_eq : ∀ p q : List PV, peqs p q = true → p = q
  | [], q, h => by cases q <;> simp [peqs] at h ⊢
  | a :: as, q, h => by
    cases q with
    | nil => simp [peqs] at h
    | cons b bs =>
      simp [peqs] at h
      rw [peq_eq _ _ h.1, peqs_eq _ _ h.2]
theorem peqd_eq : ∀ p q : List (PV × PV), peqd p q = true → p = q
  | [], q, h => by cases q <;> simp [peqd] at h ⊢
  | (a, c) :: as, q, h => by
    cases q with
    | nil => simp [peqd] at h
    | cons b bs =>
      obtain ⟨b, d⟩ := b
      simp [peqd] at h
      rw [peq_eq _ _ h.1.1, peq_eq _ _ h.1.2, peqd_eq _ _ h.2]
end
instance : DecidableEq PV := fun p q => if h : peq p q = true then .isTrue (peq_eq p q h) else .isFalse fun e => h (e ▸ peq_refl p)
theorem peq_dec (p q : PV) : peq p q = decide (p = q) := by
  by_cases e : p = q
  · subst e; simp [peq_refl]
  · simp [e]; cases h : peq p q with
    | false => rfl
    | true => exact absurd (peq_eq p q h) e
/-- data: ints, texts, None, tuples and lists of such, nested to n -/
def okb : Nat → PV → Bool
  | _, .int _ => true
  | _, .non => true
  | _, .str x => PySem.PyData.canLay0 (.str x)
  | n + 1, .tup ps => ps.all (okb n)
  | n + 1, .lst ps => ps.all (okb n)
  | _, _ => false
mutual
def toD : PV → PyData
  | .int i => .int i
  | .str x => .str x
  | .bl b => .bool b
  | .tup ps => .tuple (toDs ps)
  | .lst ps => .list (toDs ps)
  | _ => .none
def toDs : List PV → List PyData
  | [] => []
  | p :: ps => toD p :: toDs ps
end
theorem toDs_map : ∀ ps : List PV, toDs ps = ps.map toD
  | [] => rfl
  | p :: ps => by simp [toDs, toDs_map ps]
section
variable {K : Frg} {H Hv : Hp}
theorem RepB.full {v : V} {p : PV} (e : Ext Hv H) (r : RepB K H Hv v p) : Rep K H v p := by
  cases r with
  | of r => exact r.ext e
  | ob o => exact o.rep rfl e
theorem okb_dp : ∀ (n : Nat) (v : V) (p : PV), Rep K H v p → okb n p = true → Dp K.K H v (toD p) := by
  intro n
  induction n with
  | zero =>
    intro v p r h
    cases r <;> first | (simp [okb] at h; done) | skip
    · exact .non
    · exact .int _
    · exact .str _
  | succ n ih =>
    have all : ∀ (vs : List V) (ps : List PV), Reps K H vs ps → ps.all (okb n) = true → DpAll K.K H vs (toDs ps) := by
      intro vs ps r
      induction ps generalizing vs with
      | nil => intro _; cases r; exact .nil
      | cons p ps ih2 =>
        intro h
        cases r with
        | cons a r =>
          rw [List.all_cons, Bool.and_eq_true] at h
          exact .cons (ih _ _ a h.1) (ih2 _ r h.2)
    intro v p r h
    cases r <;> first | (simp [okb] at h; done) | skip
    · exact .non
    · exact .int _
    · exact .str _
    · rename_i q r; exact .tup q (all _ _ r (by simpa [okb] using h))
    · rename_i q r; exact .lst (.of q) (all _ _ r (by simpa [okb] using h))
end
theorem okb_lay : ∀ (n : Nat) (p : PV), okb n p = true → (toD p).canLay0 = true ∧ (toD p).depth ≤ n := by
  intro n
  induction n with
  | zero =>
    intro p h
    cases p <;> simp [okb] at h <;> simp [toD, PyData.canLay0, PyData.depth] at h ⊢
    exact h
  | succ n ih =>
    have all : ∀ (ps : List PV), ps.all (okb n) = true → PyData.canLayAll0 (toDs ps) = true ∧ PyData.depthAll (toDs ps) ≤ n := by
      intro ps
      induction ps with
      | nil => intro _; simp [toDs, PyData.canLayAll0, PyData.depthAll]
      | cons p ps ih2 =>
        intro h
        rw [List.all_cons, Bool.and_eq_true] at h
        obtain ⟨a1, a2⟩ := ih p h.1
        obtain ⟨b1, b2⟩ := ih2 h.2
        simp only [toDs, PyData.canLayAll0, PyData.depthAll, a1, b1, Bool.and_self, true_and]
        omega
    intro p h
    cases p <;> simp only [okb, Bool.false_eq_true] at h <;> simp only [toD, PyData.canLay0, PyData.depth] <;> first | exact ⟨trivial, Nat.zero_le _⟩ | skip
    · exact ⟨by simpa [PyData.canLay0] using h, Nat.zero_le _⟩
    · obtain ⟨a, b⟩ := all _ h; exact ⟨a, by omega⟩
    · obtain ⟨a, b⟩ := all _ h; exact ⟨a, by omega⟩
theorem okb_shaped {p : PV} (h : okb 60 p = true) : SeqAt.shaped (toD p) = true := by
  obtain ⟨a, b⟩ := okb_lay 60 p h
  unfold SeqAt.shaped
  rw [a, decide_eq_true (by omega : (toD p).depth ≤ 64)]
  rfl
theorem okb_eqv : ∀ (n m : Nat) (p q : PV), okb n p = true → okb m q = true → PyData.eqv (toD p) (toD q) = peq p q := by
  intro n
  induction n with
  | zero =>
    intro m p q h h2
    cases p <;> first | (simp only [okb, Bool.false_eq_true] at h; done) | skip
    all_goals cases q <;> first | (cases m <;> simp only [okb, Bool.false_eq_true] at h2; done) | (simp [toD, PyData.eqv, peq]; done) | (simp only [toD, PyData.eqv, peq]; rfl) | (simp only [toD, PyData.eqv, peq]; exact Bool.beq_eq_decide_eq _ _)
  | succ n ih =>
    have all : ∀ (m : Nat) (ps qs : List PV), ps.all (okb n) = true → qs.all (okb m) = true → PyData.eqvAll (toDs ps) (toDs qs) = peqs ps qs := by
      intro m ps
      induction ps with
      | nil => intro qs _ _; cases qs <;> simp [toDs, PyData.eqvAll, peqs]
      | cons p ps ih2 =>
        intro qs h h2
        cases qs with
        | nil => simp [toDs, PyData.eqvAll, peqs]
        | cons q qs =>
          rw [List.all_cons, Bool.and_eq_true] at h h2
          simp only [toDs, PyData.eqvAll, peqs, ih m p q h.1 h2.1, ih2 qs h.2 h2.2]
    intro m p q h h2
    cases p <;> first | (simp only [okb, Bool.false_eq_true] at h; done) | skip
    all_goals cases q <;> first | (cases m <;> simp only [okb, Bool.false_eq_true] at h2; done) | skip
    all_goals first
      | (cases m with
          | zero => simp [okb] at h2
          | succ m => simp only [okb] at h h2; simp only [toD, PyData.eqv, peq]; exact all m _ _ h h2)
      | (simp [toD, PyData.eqv, peq]; done) | (simp only [toD, PyData.eqv, peq]; rfl) | (simp only [toD, PyData.eqv, peq]; exact Bool.beq_eq_decide_eq _ _)
end HF
end

section
set_option Elab.async false
set_option linter.all false
set_option maxRecDepth 100000
set_option maxHeartbeats 1000000
set_option autoImplicit false
/-! HFB: operators by values. -/
namespace HF
open PySem PySem.Spec PyProof.Rows L2

/-! ### one rule for an operator of many kinds -/
def rOf1 (K : Frg) (o : Op1) : V → Hp → VK → Prop := fun x H Q => ∃ (Hv : Hp) (p q : PV) (fr : Bool), Ext Hv H ∧ RepB K H Hv x p ∧ o p = some (q, fr) ∧ ∀ v H', Post1 K H Hv v H' q fr → Q v H'
def rOf2 (K : Frg) (o : Op2) : R2 := fun x y H Q => ∃ (Hv : Hp) (p1 p2 q : PV) (fr : Bool), Ext Hv H ∧ RepB K H Hv x p1 ∧ RepB K H Hv y p2 ∧ o p1 p2 = some (q, fr) ∧ ∀ v H', Post1 K H Hv v H' q fr → Q v H'
def rOfN (K : Frg) (o : OpN) : List V → Hp → VK → Prop := fun xs H Q => ∃ (Hv : Hp) (ps : List PV) (q : PV) (fr : Bool), Ext Hv H ∧ RepBs K H Hv xs ps ∧ o ps = some (q, fr) ∧ ∀ v H', Post1 K H Hv v H' q fr → Q v H'
def RO1 (K : Frg) (r : V → Hp → VK → Prop) (p q : PV) (fr : Bool) : Prop := ∀ (H Hv : Hp) (x : V) (Q : VK), Ext Hv H → RepB K H Hv x p → (∀ v H', Post1 K H Hv v H' q fr → Q v H') → r x H Q
def RO2 (K : Frg) (r : R2) (p1 p2 q : PV) (fr : Bool) : Prop := ∀ (H Hv : Hp) (x y : V) (Q : VK), Ext Hv H → RepB K H Hv x p1 → RepB K H Hv y p2 → (∀ v H', Post1 K H Hv v H' q fr → Q v H') → r x y H Q
def RON (K : Frg) (r : List V → Hp → VK → Prop) (ps : List PV) (q : PV) (fr : Bool) : Prop := ∀ (H Hv : Hp) (xs : List V) (Q : VK), Ext Hv H → RepBs K H Hv xs ps → (∀ v H', Post1 K H Hv v H' q fr → Q v H') → r xs H Q
theorem rof1 {K : Frg} {o : Op1} : ROk1 K (rOf1 K o) o := fun H Hv x p q fr Q e r h k => ⟨Hv, p, q, fr, e, r, h, k⟩
theorem rof2 {K : Frg} {o : Op2} : ROk2 K (rOf2 K o) o := fun H Hv x y p1 p2 q fr Q e r1 r2 h k => ⟨Hv, p1, p2, q, fr, e, r1, r2, h, k⟩
theorem rofN {K : Frg} {o : OpN} : ROkN K (rOfN K o) o := fun H Hv xs ps q fr Q e r h k => ⟨Hv, ps, q, fr, e, r, h, k⟩
section
variable {X : Cx}
theorem unr_of {f : Value → Sem Value} {o : Op1} (h : ∀ p q fr, o p = some (q, fr) → ∃ r, UnR X f r ∧ RO1 (kx X) r p q fr) : UnR X f (rOf1 (kx X) o) := by
  intro pins s σ H x v Q I rx ⟨Hv, p, q, fr, e, r1, ho, k⟩
  obtain ⟨r, hr, ok⟩ := h p q fr ho
  exact hr pins s σ H x v Q I rx (ok H Hv x Q e r1 k)
theorem opr_of {f : Value → Value → Sem Value} {o : Op2} (h : ∀ p1 p2 q fr, o p1 p2 = some (q, fr) → ∃ r, OpR X f r ∧ RO2 (kx X) r p1 p2 q fr) : OpR X f (rOf2 (kx X) o) := by
  intro pins s σ H x y v u Q I rx ry ⟨Hv, p1, p2, q, fr, e, r1, r2, ho, k⟩
  obtain ⟨r, hr, ok⟩ := h p1 p2 q fr ho
  exact hr pins s σ H x y v u Q I rx ry (ok H Hv x y Q e r1 r2 k)
theorem ixr_of {o : Op2} (h : ∀ p1 p2 q fr, o p1 p2 = some (q, fr) → ∃ r, IxR X r ∧ RO2 (kx X) r p1 p2 q fr) : IxR X (rOf2 (kx X) o) := by
  intro value slice pins s σ H x y v u Q I rx ry ⟨Hv, p1, p2, q, fr, e, r1, r2, ho, k⟩ hs
  obtain ⟨r, hr, ok⟩ := h p1 p2 q fr ho
  exact hr value slice pins s σ H x y v u Q I rx ry (ok H Hv x y Q e r1 r2 k) hs
theorem callr_of {f : Value} {o : OpN} (h : ∀ ps q fr, o ps = some (q, fr) → ∃ r, CallR X f r ∧ RON (kx X) r ps q fr) : CallR X f (rOfN (kx X) o) := by
  intro pins s σ H xs us Q I rx ⟨Hv, ps, q, fr, e, r1, ho, k⟩
  obtain ⟨r, hr, ok⟩ := h ps q fr ho
  exact hr pins s σ H xs us Q I rx (ok H Hv xs Q e r1 k)
end

/-! ### what stands behind a value -/
section
variable {K : Frg} {H Hv : Hp} {x : V}
theorem rb_non (r : RepB K H Hv x .non) : x = .non := by
  cases r with
  | of r => cases r; rfl
  | ob o => exact o.elim
theorem rb_bl {b : Bool} (r : RepB K H Hv x (.bl b)) : x = .bl b := by
  cases r with
  | of r => cases r; rfl
  | ob o => exact o.elim
theorem rb_int {i : Int} (r : RepB K H Hv x (.int i)) : x = .int i := by
  cases r with
  | of r => cases r; rfl
  | ob o => exact o.elim
theorem rb_str {z : Str} (r : RepB K H Hv x (.str z)) : x = .str z := by
  cases r with
  | of r => cases r; rfl
  | ob o => exact o.elim
theorem rb_tup {ps : List PV} (e : Ext Hv H) (r : RepB K H Hv x (.tup ps)) : ∃ a vs, x = .ref a ∧ SqT K.K H a vs ∧ Reps K Hv vs ps ∧ Rep K Hv x (.tup ps) := by
  cases r with
  | of r =>
    cases r with
    | tup h r => exact ⟨_, _, rfl, e.sqT h, r, .tup h r⟩
  | ob o => exact o.elim
theorem rb_lst {ps : List PV} (e : Ext Hv H) (r : RepB K H Hv x (.lst ps)) : ∃ a vs, x = .ref a ∧ H a = some (.lst vs) ∧ Reps K Hv vs ps := by
  cases r with
  | of r =>
    cases r with
    | lst h r => exact ⟨_, _, rfl, e _ _ h, r⟩
  | ob o => obtain ⟨vs, h, r⟩ := o; exact ⟨_, vs, rfl, h, r⟩
theorem rb_scr {ns : List Int} (e : Ext Hv H) (r : RepB K H Hv x (.scr ns)) : ∃ a, x = .ref a ∧ SqL K.K H a (ns.map V.int) := by
  cases r with
  | of r =>
    cases r with
    | scr h => exact ⟨_, rfl, e.sqL h⟩
  | ob o => exact o.elim
theorem rb_rng {lo hi : Int} (e : Ext Hv H) (r : RepB K H Hv x (.rng lo hi)) : ∃ a, x = .ref a ∧ H a = some (.rng lo hi) := by
  cases r with
  | of r =>
    cases r with
    | rng h => exact ⟨_, rfl, e _ _ h⟩
  | ob o => exact o.elim
theorem rb_dct {k : Nat} {kvs : List (PV × PV)} (e : Ext Hv H) (r : RepB K H Hv x (.dct k kvs)) : ∃ a l, x = .ref a ∧ RDAt K H a k l ∧ RepD K Hv l kvs := by
  cases r with
  | of r =>
    cases r with
    | dct h r => exact ⟨_, _, rfl, e.dAt h, r⟩
  | ob o => obtain ⟨l, h, r⟩ := o; exact ⟨_, l, rfl, h.rd, r⟩
theorem rbs_1 {xs : List V} {p : PV} (r : RepBs K H Hv xs [p]) : ∃ x, xs = [x] ∧ RepB K H Hv x p := by
  cases r with
  | cons a t => cases t; exact ⟨_, rfl, a⟩
theorem rbs_2 {xs : List V} {p q : PV} (r : RepBs K H Hv xs [p, q]) : ∃ x y, xs = [x, y] ∧ RepB K H Hv x p ∧ RepB K H Hv y q := by
  cases r with
  | cons a t =>
    cases t with
    | cons b t => cases t; exact ⟨_, _, rfl, a, b⟩
theorem rbs_3 {xs : List V} {p q r' : PV} (r : RepBs K H Hv xs [p, q, r']) : ∃ x y z, xs = [x, y, z] ∧ RepB K H Hv x p ∧ RepB K H Hv y q ∧ RepB K H Hv z r' := by
  cases r with
  | cons a t =>
    cases t with
    | cons b t =>
      cases t with
      | cons c t => cases t; exact ⟨_, _, _, rfl, a, b, c⟩
theorem p1_int (e : Ext Hv H) (i : Int) : Post1 K H Hv (.int i) H (.int i) false := post1_same e (.int i)
theorem p1_bl (e : Ext Hv H) (i : Bool) : Post1 K H Hv (.bl i) H (.bl i) false := post1_same e (.bl i)
theorem p1_str (e : Ext Hv H) (i : Str) : Post1 K H Hv (.str i) H (.str i) false := post1_same e (.str i)
end
abbrev sI (i : Int) : Option (PV × Bool) := some (.int i, false)
abbrev sB (b : Bool) : Option (PV × Bool) := some (.bl b, false)
theorem ro_ii {K : Frg} {g : Int → Int → Int} {C : Int → Int → Prop} {i j : Int} (h : C i j) : RO2 K (rI C fun i j => .int (g i j)) (.int i) (.int j) (.int (g i j)) false := fun H Hv x y Q e r1 r2 k => ⟨i, j, rb_int r1, rb_int r2, h, k _ _ (p1_int e _)⟩
theorem ro_i0 {K : Frg} {g : Int → Int → Int} {i j : Int} : RO2 K (rI0 fun i j => .int (g i j)) (.int i) (.int j) (.int (g i j)) false := fun H Hv x y Q e r1 r2 k => ⟨i, j, rb_int r1, rb_int r2, k _ _ (p1_int e _)⟩
theorem ro_b0 {K : Frg} {g : Int → Int → Bool} {i j : Int} : RO2 K (rI0 fun i j => .bl (g i j)) (.int i) (.int j) (.bl (g i j)) false := fun H Hv x y Q e r1 r2 k => ⟨i, j, rb_int r1, rb_int r2, k _ _ (p1_bl e _)⟩

/-! ### + - * // % -/
def opAdd : Op2
  | .int i, .int j => sI (i + j)
  | .int i, .bl b => sI (i + b2i b)
  | .tup a, .tup b => if a.length + b.length ≤ sizeLine then some (.tup (a ++ b), false) else none
  | .lst a, .lst b => if a.length + b.length ≤ sizeLine then some (.lst (a ++ b), true) else none
  | _, _ => none
def opSub : Op2
  | .int i, .int j => sI (i - j)
  | _, _ => none
def mulOk (i j : Int) : Bool := decide (i.natAbs.log2 + j.natAbs.log2 < 1000000)
def opMul : Op2
  | .int i, .int j => if mulOk i j then sI (i * j) else none
  | .lst a, .int k => if 0 ≤ k ∧ k < 2 ^ 63 ∧ a.length * k.toNat ≤ sizeLine then some (.lst (List.replicate k.toNat a).flatten, true) else none
  | .tup a, .int k => if a ≠ [] ∧ 2 ≤ k ∧ k ≤ 1000 ∧ a.length ≤ 1000 then some (.tup (List.replicate k.toNat a).flatten, false) else none
  | _, _ => none
def divOk (j : Int) : Bool := decide (0 < j) && decide (j.natAbs.log2 < 9000)
def opFdiv : Op2
  | .int i, .int j => if divOk j then sI (i / j) else none
  | _, _ => none
def opMod : Op2
  | .int i, .int j => if 0 < j then sI (i % j) else none
  | _, _ => none
def opNeg : Op1
  | .int i => sI (-i)
  | _ => none
section
variable {X : Cx} {K : Frg}
theorem reps_rep {H : Hp} {vs : List V} {ps : List PV} (r : Reps K H vs ps) : ∀ n, Reps K H (List.replicate n vs).flatten (List.replicate n ps).flatten
  | 0 => .nil
  | n + 1 => by rw [List.replicate_succ, List.replicate_succ, List.flatten_cons, List.flatten_cons]; exact r.append (reps_rep r n)
theorem opr_add : OpR X (binaryOp .Add) (rOf2 (kx X) opAdd) := opr_of fun p1 p2 q fr h => by
  match p1, p2, h with
  | .int i, .int j, h => cases h; exact ⟨_, op_add, ro_i0⟩
  | .int i, .bl b, h =>
    cases h
    exact ⟨_, op_add_ib, fun H Hv x y Q e r1 r2 k => ⟨i, b, rb_int r1, rb_bl r2, k _ _ (p1_int e _)⟩⟩
  | .tup a, .tup b, h =>
    simp only [opAdd] at h
    split at h
    · rename_i hl
      cases h
      refine ⟨_, op_catA, fun H Hv x y Q e r1 r2 k => ?_⟩
      obtain ⟨a1, vs, rfl, h1, q1, w1⟩ := rb_tup e r1
      obtain ⟨a2, ws, rfl, h2, q2, w2⟩ := rb_tup e r2
      refine ⟨a1, a2, vs, ws, rfl, rfl, h1, h2, by rw [q1.length, q2.length]; exact hl, fun z => ?_, fun _ z => ?_, fun _ _ p hp => ?_⟩
      · subst z; cases q1; exact k _ _ (post1_same e w2)
      · subst z; cases q2; exact k _ _ (post1_same e (by rw [List.append_nil]; exact w1))
      · exact k _ _ (post1_tup e hp (q1.append q2))
    · cases h
  | .lst a, .lst b, h =>
    simp only [opAdd] at h
    split at h
    · rename_i hl
      cases h
      refine ⟨_, op_cat, fun H Hv x y Q e r1 r2 k => ?_⟩
      obtain ⟨a1, vs, rfl, h1, q1⟩ := rb_lst e r1
      obtain ⟨a2, ws, rfl, h2, q2⟩ := rb_lst e r2
      exact ⟨a1, a2, vs, ws, rfl, rfl, h1, h2, by rw [q1.length, q2.length]; exact hl, fun p hp => k _ _ (post1_lst e hp (q1.append q2))⟩
    · cases h
theorem opr_sub : OpR X (binaryOp .Sub) (rOf2 (kx X) opSub) := opr_of fun p1 p2 q fr h => by
  match p1, p2, h with
  | .int i, .int j, h => cases h; exact ⟨_, op_sub, ro_i0⟩
theorem opr_mul : OpR X (binaryOp .Mult) (rOf2 (kx X) opMul) := opr_of fun p1 p2 q fr h => by
  match p1, p2, h with
  | .int i, .int j, h =>
    simp only [opMul] at h
    split at h
    · rename_i hc
      cases h
      exact ⟨_, op_mulW, ro_ii (C := CMulW) (by unfold mulOk at hc; rw [decide_eq_true_eq] at hc; exact hc)⟩
    · cases h
  | .lst a, .int j, h =>
    simp only [opMul] at h
    split at h
    · rename_i hc
      cases h
      refine ⟨_, op_rep, fun H Hv x y Q e r1 r2 k => ?_⟩
      obtain ⟨a1, vs, rfl, h1, q1⟩ := rb_lst e r1
      exact ⟨a1, j, vs, rfl, rb_int r2, h1, by omega, hc.2.1, by rw [q1.length]; exact hc.2.2, fun p hp => k _ _ (post1_lst e hp (reps_rep q1 _))⟩
    · cases h
  | .tup a, .int j, h =>
    simp only [opMul] at h
    split at h
    · rename_i hc
      cases h
      refine ⟨_, op_repT, fun H Hv x y Q e r1 r2 k => ?_⟩
      obtain ⟨a1, vs, rfl, h1, q1, _⟩ := rb_tup e r1
      exact ⟨a1, j, vs, rfl, rb_int r2, h1, fun z => hc.1 (by subst z; cases q1; rfl), hc.2.1, hc.2.2.1, by rw [q1.length]; exact hc.2.2.2, fun p hp => k _ _ (post1_tup e hp (reps_rep q1 _))⟩
    · cases h
theorem opr_fdiv : OpR X (binaryOp .FloorDiv) (rOf2 (kx X) opFdiv) := opr_of fun p1 p2 q fr h => by
  match p1, p2, h with
  | .int i, .int j, h =>
    simp only [opFdiv] at h
    split at h
    · rename_i hc
      cases h
      unfold divOk at hc
      rw [Bool.and_eq_true, decide_eq_true_eq, decide_eq_true_eq] at hc
      exact ⟨_, op_fdivW, ro_ii (C := CDivW) hc⟩
    · cases h
theorem opr_mod : OpR X (binaryOp .Mod) (rOf2 (kx X) opMod) := opr_of fun p1 p2 q fr h => by
  match p1, p2, h with
  | .int i, .int j, h =>
    simp only [opMod] at h
    split at h
    · rename_i hc
      cases h
      exact ⟨_, op_mod, ro_ii (C := fun _ j => 0 < j) hc⟩
    · cases h
theorem unr_neg : UnR X (unaryOp .USub) (rOf1 (kx X) opNeg) := unr_of fun p q fr h => by
  match p, h with
  | .int i, h => cases h; exact ⟨_, un_neg, fun H Hv x Q e r1 k => ⟨i, rb_int r1, k _ _ (p1_int e _)⟩⟩
end

/-! ### comparisons -/
def opEq : Op2
  | .bl a, .bl b => sB (decide (a = b))
  | p, q => if okb 60 p && okb 60 q then sB (peq p q) else none
def opNe : Op2
  | .bl a, .bl b => sB (!decide (a = b))
  | p, q => if okb 60 p && okb 60 q then sB (!peq p q) else none
def opLt : Op2
  | .int i, .int j => sB (decide (i < j))
  | _, _ => none
def opLe : Op2
  | .int i, .int j => sB (decide (i ≤ j))
  | _, _ => none
def opGt : Op2
  | .int i, .int j => sB (decide (j < i))
  | _, _ => none
def opGe : Op2
  | .int i, .int j => sB (decide (j ≤ i))
  | _, _ => none
def isN : PV → Bool
  | .non => true
  | _ => false
def opIs : Op2
  | p, .non => sB (isN p)
  | .bl a, .bl b => sB (decide (a = b))
  | _, _ => none
def opIsNot : Op2
  | p, .non => sB (!isN p)
  | .bl a, .bl b => sB (!decide (a = b))
  | _, _ => none
section
variable {X : Cx} {K : Frg}
theorem isN_v {H Hv : Hp} {x : V} {p : PV} (r : RepB K H Hv x p) : decide (x = .non) = isN p := by
  cases r with
  | of r => cases r <;> simp [isN]
  | ob o => cases p <;> first | (simp [isN]; done) | exact o.elim
theorem eqD_case (hu : X.A.units + 64 < cLine) {p1 p2 : PV} (h : (okb 60 p1 && okb 60 p2) = true) : ∃ r, OpR X (compareOp .Eq) r ∧ RO2 (kx X) r p1 p2 (.bl (peq p1 p2)) false := by
  rw [Bool.and_eq_true] at h
  refine ⟨_, op_eqD hu, fun H Hv x y Q e r1 r2 k => ⟨toD p1, toD p2, okb_dp _ _ _ (r1.full e) h.1, okb_dp _ _ _ (r2.full e) h.2, okb_shaped h.1, okb_shaped h.2, ?_⟩⟩
  rw [okb_eqv _ _ _ _ h.1 h.2]
  exact k _ _ (p1_bl e _)
theorem neD_case (hu : X.A.units + 64 < cLine) {p1 p2 : PV} (h : (okb 60 p1 && okb 60 p2) = true) : ∃ r, OpR X (compareOp .NotEq) r ∧ RO2 (kx X) r p1 p2 (.bl (!peq p1 p2)) false := by
  rw [Bool.and_eq_true] at h
  refine ⟨_, op_neD hu, fun H Hv x y Q e r1 r2 k => ⟨toD p1, toD p2, okb_dp _ _ _ (r1.full e) h.1, okb_dp _ _ _ (r2.full e) h.2, okb_shaped h.1, okb_shaped h.2, ?_⟩⟩
  rw [okb_eqv _ _ _ _ h.1 h.2]
  exact k _ _ (p1_bl e _)
theorem opEq_data {p q : PV} (h : ∀ a b, p = .bl a → q = .bl b → False) : opEq p q = if okb 60 p && okb 60 q then sB (peq p q) else none := by
  unfold opEq
  split
  · exact (h _ _ rfl rfl).elim
  · rfl
theorem opNe_data {p q : PV} (h : ∀ a b, p = .bl a → q = .bl b → False) : opNe p q = if okb 60 p && okb 60 q then sB (!peq p q) else none := by
  unfold opNe
  split
  · exact (h _ _ rfl rfl).elim
  · rfl
theorem opr_eq (hu : X.A.units + 64 < cLine) : OpR X (compareOp .Eq) (rOf2 (kx X) opEq) := opr_of fun p1 p2 q fr h => by
  by_cases z : ∃ a b, p1 = .bl a ∧ p2 = .bl b
  · obtain ⟨a, b, rfl, rfl⟩ := z
    cases h
    refine ⟨_, op_eq, fun H Hv x y Q e r1 r2 k => ?_⟩
    rw [rb_bl r1, rb_bl r2]
    refine ⟨rfl, ?_⟩
    rw [show decide (V.bl a = V.bl b) = decide (a = b) by simp]
    exact k _ _ (p1_bl e _)
  · rw [opEq_data fun a b h1 h2 => z ⟨a, b, h1, h2⟩] at h
    split at h
    · rename_i hc
      cases h
      exact eqD_case hu hc
    · cases h
theorem opr_ne (hu : X.A.units + 64 < cLine) : OpR X (compareOp .NotEq) (rOf2 (kx X) opNe) := opr_of fun p1 p2 q fr h => by
  by_cases z : ∃ a b, p1 = .bl a ∧ p2 = .bl b
  · obtain ⟨a, b, rfl, rfl⟩ := z
    cases h
    refine ⟨_, op_ne, fun H Hv x y Q e r1 r2 k => ?_⟩
    rw [rb_bl r1, rb_bl r2]
    refine ⟨rfl, ?_⟩
    rw [show (!decide (V.bl a = V.bl b)) = !decide (a = b) by simp]
    exact k _ _ (p1_bl e _)
  · rw [opNe_data fun a b h1 h2 => z ⟨a, b, h1, h2⟩] at h
    split at h
    · rename_i hc
      cases h
      exact neD_case hu hc
    · cases h
theorem opr_lt : OpR X (compareOp .Lt) (rOf2 (kx X) opLt) := opr_of fun p1 p2 q fr h => by
  match p1, p2, h with
  | .int i, .int j, h => cases h; exact ⟨_, op_lt, ro_b0⟩
theorem opr_le : OpR X (compareOp .LtE) (rOf2 (kx X) opLe) := opr_of fun p1 p2 q fr h => by
  match p1, p2, h with
  | .int i, .int j, h => cases h; exact ⟨_, op_le, ro_b0⟩
theorem opr_gt : OpR X (compareOp .Gt) (rOf2 (kx X) opGt) := opr_of fun p1 p2 q fr h => by
  match p1, p2, h with
  | .int i, .int j, h => cases h; exact ⟨_, op_gt, ro_b0⟩
theorem opr_ge : OpR X (compareOp .GtE) (rOf2 (kx X) opGe) := opr_of fun p1 p2 q fr h => by
  match p1, p2, h with
  | .int i, .int j, h => cases h; exact ⟨_, op_ge, ro_b0⟩
theorem is_case {p : PV} : ∃ r, OpR X (compareOp .Is) r ∧ RO2 (kx X) r p .non (.bl (isN p)) false :=
  ⟨_, op_isN, fun H Hv x y Q e r1 r2 k => ⟨rb_non r2, by rw [isN_v r1]; exact k _ _ (p1_bl e _)⟩⟩
theorem isnot_case {p : PV} : ∃ r, OpR X (compareOp .IsNot) r ∧ RO2 (kx X) r p .non (.bl (!isN p)) false :=
  ⟨_, op_notN, fun H Hv x y Q e r1 r2 k => ⟨rb_non r2, by rw [isN_v r1]; exact k _ _ (p1_bl e _)⟩⟩
theorem opIs_non {p : PV} : opIs p .non = sB (isN p) := by cases p <;> rfl
theorem opIsNot_non {p : PV} : opIsNot p .non = sB (!isN p) := by cases p <;> rfl
theorem opr_is : OpR X (compareOp .Is) (rOf2 (kx X) opIs) := opr_of fun p1 p2 q fr h => by
  cases p2 with
  | non => rw [opIs_non] at h; cases h; exact is_case
  | bl b =>
    cases p1 with
    | bl a =>
      cases h
      exact ⟨_, op_is_bl, fun H Hv x y Q e r1 r2 k => ⟨a, b, rb_bl r1, rb_bl r2, k _ _ (p1_bl e _)⟩⟩
    | _ => simp [opIs] at h
  | _ => simp [opIs] at h
theorem opr_isnot : OpR X (compareOp .IsNot) (rOf2 (kx X) opIsNot) := opr_of fun p1 p2 q fr h => by
  cases p2 with
  | non => rw [opIsNot_non] at h; cases h; exact isnot_case
  | bl b =>
    cases p1 with
    | bl a =>
      cases h
      exact ⟨_, op_isnot_bl, fun H Hv x y Q e r1 r2 k => ⟨a, b, rb_bl r1, rb_bl r2, k _ _ (p1_bl e _)⟩⟩
    | _ => simp [opIsNot] at h
  | _ => simp [opIsNot] at h
end
end HF
end

section
set_option Elab.async false
set_option linter.all false
set_option maxRecDepth 100000
set_option maxHeartbeats 1000000
set_option autoImplicit false
/-! HFC: subscripts, membership, dicts. -/
namespace HF
open PySem PySem.Spec PyProof.Rows L2

/-! ### keys that are tuples -/
mutual
def nkOf : PV → NestedKey
  | .int i => .num i
  | .str x => .text x
  | .tup ps => .tup (nkOfs ps)
  | _ => .none
def nkOfs : List PV → List NestedKey
  | [] => []
  | p :: ps => nkOf p :: nkOfs ps
end
mutual
theorem nk_pv : ∀ k : NestedKey, nkOf (pvK k) = k
  | .none => rfl
  | .num _ => rfl
  | .text _ => rfl
  | .tup ks => by simp only [pvK, nkOf, nks_pv ks]
theorem nks_pv : ∀ ks : List NestedKey, nkOfs (pvKs ks) = ks
  | [] => rfl
  | k :: ks => by simp only [pvKs, nkOfs, nk_pv k, nks_pv ks]
end
theorem pvK_inj {a b : NestedKey} (h : pvK a = pvK b) : a = b := by rw [← nk_pv a, ← nk_pv b, h]
def isTup : PV → Bool
  | .tup _ => true
  | _ => false
/-- may be a key of a dict of tuples -/
def kb (q : PV) : Bool := isTup q && peq (pvK (nkOf q)) q && decide ((nkOf q).depth ≤ 8)
theorem kb_at {q : PV} (h : kb q = true) : pvK (nkOf q) = q ∧ (nkOf q).depth ≤ 8 := by
  unfold kb at h
  rw [Bool.and_eq_true, Bool.and_eq_true, decide_eq_true_eq] at h
  exact ⟨peq_eq _ _ h.1.2, h.2⟩
section
variable {X : Cx} {pins : List (Addr × Obj)} {σ : L2.St} {H Hv : Hp} {s : Shared}
mutual
theorem rep_nk (I : Inv X pins σ H s) : ∀ (k : NestedKey) (v : V) (u : Value), Rep (kx X) H v (pvK k) → RelV v u → NestedIs s.heap k u
  | .none, v, u, h, r => by cases h; cases r; exact .none
  | .num i, v, u, h, r => by cases h; obtain ⟨t, rfl⟩ := r; exact .int i t
  | .text x, v, u, h, r => by cases h; obtain ⟨t, rfl⟩ := r; exact .text x t
  | .tup ks, v, u, h, r => by
    cases h with
    | tup h1 h2 =>
      cases (show u = Value.ref _ from r)
      obtain ⟨its, rv, ⟨o, e, hc, n, hd⟩, _⟩ := I.tuple h1
      exact .tup e hc hd (by simpa using rep_nks I ks _ its h2 rv)
theorem rep_nks (I : Inv X pins σ H s) : ∀ (ks : List NestedKey) (vs : List V) (us : List Value), Reps (kx X) H vs (pvKs ks) → Vals vs us → NestedAll s.heap ks us
  | [], vs, us, h, r => by cases h; cases r; exact .nil
  | k :: ks, vs, us, h, r => by
    cases h with
    | cons a b =>
      cases r with
      | cons r1 r2 => exact .cons (rep_nk I k _ _ a r1) (rep_nks I ks _ _ b r2)
end
end

/-! ### tables -/
def dGet : List (PV × PV) → PV → Option PV
  | [], _ => none
  | (a, b) :: r, q => if peq a q then some b else dGet r q
def dPut (kvs : List (PV × PV)) (q x : PV) : List (PV × PV) := match dGet kvs q with
  | some _ => kvs.map fun e => if peq e.1 q then (e.1, x) else e
  | none => kvs ++ [(q, x)]
abbrev XN := List (NestedKey × Addr × V)
def atV : XN → NestedKey → Option V
  | [], _ => none
  | x :: r, k => if x.1 = k then some x.2.2 else atV r k
def stV (xs : XN) (k : NestedKey) (b : Addr) (v : V) : XN := match atV xs k with
  | some _ => xs.map fun x => if x.1 = k then (x.1, x.2.1, v) else x
  | none => xs ++ [(k, b, v)]
theorem kn_at {xs : XN} {ys : List (NestedKey × Addr × Value)} (r : KN xs ys) (k : NestedKey) : RelO (atV xs k) ((atKey ys k).map (·.2)) := by
  induction r with
  | nil => exact True.intro
  | cons a _ ih =>
    rename_i x y xs ys _
    obtain ⟨h1, h2, h3⟩ := a
    by_cases e : x.1 = k
    · have e2 : y.1 = k := h1 ▸ e
      simp only [atV, if_pos e, atKey, List.find?_cons, decide_eq_true e2]
      exact h3
    · have e2 : ¬ y.1 = k := h1 ▸ e
      simp only [atV, if_neg e, atKey, List.find?_cons, decide_eq_false e2]
      exact ih
theorem kn_map {xs : XN} {ys : List (NestedKey × Addr × Value)} (r : KN xs ys) (k : NestedKey) {v : V} {u : Value} (ru : RelV v u) : KN (xs.map fun x => if x.1 = k then (x.1, x.2.1, v) else x) (ys.map (putAt k u)) := by
  induction r with
  | nil => exact .nil
  | cons a _ ih =>
    rename_i x y xs ys _
    obtain ⟨h1, h2, h3⟩ := a
    refine .cons ?_ ih
    unfold putAt
    by_cases e : x.1 = k
    · have e2 : y.1 = k := h1 ▸ e
      simp only [if_pos e, if_pos e2]
      exact ⟨h1, h2, ru⟩
    · have e2 : ¬ y.1 = k := h1 ▸ e
      simp only [if_neg e, if_neg e2]
      exact ⟨h1, h2, h3⟩
theorem kn_snoc {xs : XN} {ys : List (NestedKey × Addr × Value)} (r : KN xs ys) (k : NestedKey) (b : Addr) {v : V} {u : Value} (ru : RelV v u) : KN (xs ++ [(k, b, v)]) (ys ++ [(k, b, u)]) := by
  induction r with
  | nil => exact .cons ⟨rfl, rfl, ru⟩ .nil
  | cons a _ ih => exact .cons a ih
theorem kn_put {xs : XN} {ys : List (NestedKey × Addr × Value)} (r : KN xs ys) (k : NestedKey) (b : Addr) {v : V} {u : Value} (ru : RelV v u) : KN (stV xs k b v) (storedH ys k b u) := by
  have h := kn_at r k
  unfold stV storedH
  cases e : atV xs k with
  | some z =>
    rw [e] at h
    cases e2 : atKey ys k with
    | none => rw [e2] at h; exact h.elim
    | some p =>
      simp only [Option.isSome_some, if_true]
      exact kn_map r k ru
  | none =>
    rw [e] at h
    cases e2 : atKey ys k with
    | some p => rw [e2] at h; exact h.elim
    | none =>
      simp only [Option.isSome_none, Bool.false_eq_true, if_false]
      exact kn_snoc r k b ru
theorem kn_len {xs : XN} {ys : List (NestedKey × Addr × Value)} (r : KN xs ys) : xs.length = ys.length := Paired.length r
theorem stV_len (xs : XN) (k : NestedKey) (b : Addr) (v : V) : (stV xs k b v).length ≤ xs.length + 1 := by
  unfold stV
  split <;> simp
abbrev lN (xs : XN) : List (PV × V × V) := xs.map fun x => (pvK x.1, .ref x.2.1, x.2.2)
abbrev lK (kvs : List (Key × V)) : List (PV × V × V) := kvs.map fun p => (kPV p.1, kV p.1, p.2)
section
variable {K : Frg} {H Hv : Hp}
theorem kPV_inj {a b : Key} (h : kPV a = kPV b) : a = b := by
  match a, b, h with
  | .inl i, .inl j, h => cases h; rfl
  | .inr i, .inr j, h => cases h; rfl
/-- what is found -/
theorem rd1_get {xs : XN} {pv : List (PV × PV)} (r : RepD K Hv (lN xs) pv) (k : NestedKey) : (∃ v p, atV xs k = some v ∧ dGet pv (pvK k) = some p ∧ Rep K Hv v p) ∨ (atV xs k = none ∧ dGet pv (pvK k) = none) := by
  induction xs generalizing pv with
  | nil => cases r; exact .inr ⟨rfl, rfl⟩
  | cons x xs ih =>
    cases r with
    | cons a b c =>
      by_cases e : x.1 = k
      · subst e
        exact .inl ⟨_, _, by simp only [atV, if_true], by simp only [dGet, peq_refl, if_true], b⟩
      · have e2 : peq (pvK x.1) (pvK k) = false := by rw [peq_dec]; exact decide_eq_false fun z => e (pvK_inj z)
        simp only [atV, if_neg e, dGet, e2, Bool.false_eq_true, if_false]
        exact ih c
theorem rd0_get {kvs : List (Key × V)} {pv : List (PV × PV)} (r : RepD K Hv (lK kvs) pv) (k : Key) : (∃ v p, valV kvs k = some v ∧ dGet pv (kPV k) = some p ∧ Rep K Hv v p) ∨ (valV kvs k = none ∧ dGet pv (kPV k) = none) := by
  induction kvs generalizing pv with
  | nil => cases r; exact .inr ⟨rfl, rfl⟩
  | cons x xs ih =>
    cases r with
    | cons a b c =>
      by_cases e : x.1 = k
      · subst e
        exact .inl ⟨_, _, valV_pos rfl, by simp only [dGet, peq_refl, if_true], b⟩
      · have e2 : peq (kPV x.1) (kPV k) = false := by rw [peq_dec]; exact decide_eq_false fun z => e (kPV_inj z)
        simp only [valV_neg e, dGet, e2, Bool.false_eq_true, if_false]
        exact ih c
theorem rd_snoc {l : List (PV × V × V)} {pv : List (PV × PV)} {q p : PV} {u v : V} (r : RepD K Hv l pv) (a : Rep K Hv u q) (b : Rep K Hv v p) : RepD K Hv (l ++ [(q, u, v)]) (pv ++ [(q, p)]) := by
  induction l generalizing pv with
  | nil => cases r; exact .cons a b .nil
  | cons x xs ih => cases r with | cons a1 b1 c => exact .cons a1 b1 (ih c)
theorem rd1_map {xs : XN} {pv : List (PV × PV)} (r : RepD K Hv (lN xs) pv) (k : NestedKey) {v : V} {p : PV} (rv : Rep K Hv v p) : RepD K Hv (lN (xs.map fun x => if x.1 = k then (x.1, x.2.1, v) else x)) (pv.map fun e => if peq e.1 (pvK k) then (e.1, p) else e) := by
  induction xs generalizing pv with
  | nil => cases r; exact .nil
  | cons x xs ih =>
    cases r with
    | cons a b c =>
      by_cases e : x.1 = k
      · subst e
        simp only [lN, List.map_cons, if_true, peq_refl]
        exact .cons a rv (ih c)
      · have e2 : peq (pvK x.1) (pvK k) = false := by rw [peq_dec]; exact decide_eq_false fun z => e (pvK_inj z)
        simp only [lN, List.map_cons, if_neg e, e2, Bool.false_eq_true, if_false]
        exact .cons a b (ih c)
theorem rd0_map {xs : List (Key × V)} {pv : List (PV × PV)} (r : RepD K Hv (lK xs) pv) (k : Key) {v : V} {p : PV} (rv : Rep K Hv v p) : RepD K Hv (lK (xs.map fun x => if x.1 = k then (x.1, v) else x)) (pv.map fun e => if peq e.1 (kPV k) then (e.1, p) else e) := by
  induction xs generalizing pv with
  | nil => cases r; exact .nil
  | cons x xs ih =>
    cases r with
    | cons a b c =>
      by_cases e : x.1 = k
      · subst e
        simp only [lK, List.map_cons, if_true, peq_refl]
        exact .cons a rv (ih c)
      · have e2 : peq (kPV x.1) (kPV k) = false := by rw [peq_dec]; exact decide_eq_false fun z => e (kPV_inj z)
        simp only [lK, List.map_cons, if_neg e, e2, Bool.false_eq_true, if_false]
        exact .cons a b (ih c)
theorem rd1_put {xs : XN} {pv : List (PV × PV)} (r : RepD K Hv (lN xs) pv) (k : NestedKey) {b : Addr} {v : V} {p : PV} (rb : Rep K Hv (.ref b) (pvK k)) (rv : Rep K Hv v p) : RepD K Hv (lN (stV xs k b v)) (dPut pv (pvK k) p) := by
  unfold stV dPut
  rcases rd1_get r k with ⟨z, y, e1, e2, _⟩ | ⟨e1, e2⟩
  · rw [e1, e2]; exact rd1_map r k rv
  · rw [e1, e2]
    have z := rd_snoc r rb rv
    simpa only [lN, List.map_append, List.map_cons, List.map_nil] using z
theorem rep_k (k : Key) : Rep K Hv (kV k) (kPV k) := by cases k with
  | inl i => exact .int i
  | inr x => exact .str x
theorem rd0_put {xs : List (Key × V)} {pv : List (PV × PV)} (r : RepD K Hv (lK xs) pv) (k : Key) {v : V} {p : PV} (rv : Rep K Hv v p) : RepD K Hv (lK (putK xs k v)) (dPut pv (kPV k) p) := by
  unfold putK dPut
  rw [valV_any]
  rcases rd0_get r k with ⟨z, y, e1, e2, _⟩ | ⟨e1, e2⟩
  · rw [e1, e2]; exact rd0_map r k rv
  · rw [e1, e2]
    have z := rd_snoc r (rep_k k) rv
    show RepD K Hv (lK (xs ++ [(k, v)])) _
    simpa only [lK, List.map_append, List.map_cons, List.map_nil] using z
theorem repD_len {l : List (PV × V × V)} {pv : List (PV × PV)} (r : RepD K Hv l pv) : l.length = pv.length := by
  induction l generalizing pv with
  | nil => cases r; rfl
  | cons x xs ih => cases r with | cons a b c => simp [ih c]
/-- the keys stand -/
theorem rd1_keys {xs : XN} {pv : List (PV × PV)} (r : RepD K Hv (lN xs) pv) : ∀ x ∈ xs, Rep K Hv (.ref x.2.1) (pvK x.1) := by
  induction xs generalizing pv with
  | nil => intro x h; cases h
  | cons y xs ih =>
    cases r with
    | cons a b c =>
      intro x h
      rcases List.mem_cons.mp h with e | h
      · subst e; exact a
      · exact ih c x h
theorem rd1_depth {xs : XN} {pv : List (PV × PV)} (r : RepD K Hv (lN xs) pv) (h : pv.all (fun e => kb e.1) = true) : ∀ x ∈ xs, x.1.depth ≤ 8 := by
  induction xs generalizing pv with
  | nil => intro x h; cases h
  | cons y xs ih =>
    cases r with
    | cons a b c =>
      rw [List.all_cons, Bool.and_eq_true] at h
      intro x hx
      rcases List.mem_cons.mp hx with e | hx
      · subst e
        have := (kb_at h.1).2
        rwa [nk_pv] at this
      · exact ih c h.2 x hx
end
section
variable {X : Cx} {pins : List (Addr × Obj)} {σ : L2.St} {H Hv : Hp} {s : Shared}
/-- a dict of tuples as the heap has it -/
theorem dn_of (I : Inv X pins σ H s) {a : Addr} {xs : XN} (h : Rd H a (DNo X.prog X.w a xs)) (keys : ∀ x ∈ xs, Rep (kx X) H (.ref x.2.1) (pvK x.1)) (dp : ∀ x ∈ xs, x.1.depth ≤ 8) :
    xs.length ≤ sizeLine ∧ (a == sysModules) = false ∧ ∃ ys, KN xs ys ∧ s.heap.DictOfH (nestedKind X.prog X.w) a ys := by
  obtain ⟨⟨hl, hs, ys, kn, o, es, ep, ho, hx, hd, he, hn⟩, _⟩ := (show ObjOk X.prog X.w H s.heap a (DNo X.prog X.w a xs) from h.ok I.hok)
  refine ⟨hl, hs, ys, kn, o, es, ep, ho, hx, hd, he, ?_, hn⟩
  have all : ∀ {xs : XN} {ys : List (NestedKey × Addr × Value)}, KN xs ys → (∀ x ∈ xs, Rep (kx X) H (.ref x.2.1) (pvK x.1)) → (∀ x ∈ xs, x.1.depth ≤ 8) → ∀ y ∈ ys, (nestedKind X.prog X.w).is s.heap y.1 y.2.1 := by
    intro xs ys kn
    induction kn with
    | nil => intro _ _ y hy; cases hy
    | cons r _ ih =>
      rename_i x y xs ys _
      intro k d z hz
      rcases List.mem_cons.mp hz with e | hz
      · subst e
        obtain ⟨h1, h2, _⟩ := r
        refine ⟨?_, ?_⟩
        · rw [← h1, ← h2]
          exact rep_nk I _ _ _ (k x List.mem_cons_self) rfl
        · rw [← h1]; exact d x List.mem_cons_self
      · exact ih (fun x hx => k x (List.mem_cons_of_mem _ hx)) (fun x hx => d x (List.mem_cons_of_mem _ hx)) z hz
  exact all kn keys dp
end
theorem atKey_some {ys : List (NestedKey × Addr × Value)} {k : NestedKey} {w : Value} (h : (atKey ys k).map (·.2) = some w) : ∃ p, atKey ys k = some p ∧ p.2 = w := Option.map_eq_some_iff.mp h

/-! ### o[i] -/
theorem subTail_of {prog : Program} {w : World} {A : Around} {E : Value → Shared → Prop} {s : Shared} {value slice : Expr} {o i : Value} {T id : String} {Q : Value → Shared → Prop} (hT : s.TypeIs o T)
    (hl : typeLookup (.type T) "__getitem__" = pure (some (.builtin id))) (h : wpAny (model prog w) A (getItem o i) Q E s)
    (hs : subscripted slice false o i = operate [o, i] (getItem o i)) :
    wpAny (model prog w) A (subscriptTail value slice o i) Q E s := by
  unfold subscriptTail
  refine wpAny_bind ?_
  rw [getitemInPython_of_ne hT.not_modules]
  refine wpAny_bind (wpAny_specialOf hT hl ?_)
  have fin : wpAny (model prog w) A (subscripted slice false o i) (fun r s₃ => wpAny (model prog w) A (letTemporaryGo value o r >>= fun _ => pure r) Q E s₃) E s := by
    rw [hs]
    exact wpAny_operating (wpAny_mono h (fun r s₃ h₃ => wpAny_bind (wpAny_letTemporaryGo (wpAny_pure h₃))) fun _ _ x => x)
  first
    | exact wpAny_pure (wpAny_bind fin)
    | exact wpAny_bind (wpAny_pure (wpAny_bind fin))
    | exact wpAny_bind fin
def keyOf : PV → Option Key
  | .int i => some (.inl i)
  | .str x => some (.inr x)
  | _ => none
theorem keyOf_some {q : PV} {k : Key} (h : keyOf q = some k) : q = kPV k := by
  cases q <;> simp [keyOf] at h <;> subst h <;> rfl
def opIx : Op2
  | .lst ps, .int i => (atI ps i).map fun p => (p, false)
  | .tup ps, .int i => (atI ps i).map fun p => (p, false)
  | .scr ns, .int i => (atI ns i).map fun p => (.int p, false)
  | .str z, .int i => if z.length ≤ sizeLine then (atI z.cps.toList i).map fun c => (.str ⟨#[c]⟩, false) else none
  | .dct 0 kvs, q => (keyOf q).bind fun _ => (dGet kvs q).map fun p => (p, false)
  | .dct 1 kvs, q => if kb q && kvs.all (fun e => kb e.1) then (dGet kvs q).map fun p => (p, false) else none
  | _, _ => none
section
variable {K : Frg} {H Hv : Hp}
theorem reps_at {vs : List V} {ps : List PV} {i : Int} {p : PV} (r : Reps K Hv vs ps) (h : atI ps i = some p) : ∃ v, atI vs i = some v ∧ Rep K Hv v p := by
  unfold atI at h ⊢
  rw [r.length]
  cases e : ixN ps.length i with
  | none => rw [e] at h; cases h
  | some j =>
    rw [e] at h
    exact r.get h
end
section
variable {X : Cx}
/-- d[y] of a dict of tuples -/
def rIxN (X : Cx) : R2 := fun x y H Q => ∃ (a b : Addr) (xs : XN) (k : NestedKey) (v : V), x = .ref a ∧ y = .ref b ∧ Rd H a (DNo X.prog X.w a xs) ∧ (∀ x ∈ xs, Rep (kx X) H (.ref x.2.1) (pvK x.1)) ∧ (∀ x ∈ xs, x.1.depth ≤ 8) ∧ k.depth ≤ 8 ∧
  Rep (kx X) H (.ref b) (pvK k) ∧ atV xs k = some v ∧ Q v H
theorem ix_N (hu : X.A.units + 64 < cLine) : IxR X (rIxN X) := by
  intro value slice pins s σ H x y v u Q I rx ry ⟨a, b, xs, k, z, ex, ey, h, hk, hd, hkd, rb, hz, q⟩ hs
  subst ex ey
  cases rx
  cases ry
  obtain ⟨hl, hsy, ys, kn, D⟩ := dn_of I h hk hd
  have hv := kn_at kn k
  rw [hz] at hv
  obtain ⟨w', hw, rw'⟩ := RelO.some_of hv
  obtain ⟨p, hp, hp2⟩ := atKey_some hw
  refine subTail_of D.typeIs PySem.F.slot_dict_getitem.lookup (wpAny_getItem_heap (knd := nestedKind X.prog X.w) (k := k) (show (X.A.in1).units + 8 < cLine by simp only [Around.in1_units]; omega) ⟨rep_nk I k _ _ rb rfl, hkd⟩ D hp ?_) hs
  rw [hp2]
  exact ⟨z, H, I.tok _, rw', q⟩
/-- d[y] of a dict of ints and texts -/
def rIxK : R2 := fun x y H Q => ∃ (a : Addr) (kvs : List (Key × V)) (k : Key) (v : V), x = .ref a ∧ y = kV k ∧ Rd H a (.dK kvs) ∧ valV kvs k = some v ∧ Q v H
theorem ix_K (hu : X.A.units + 64 < cLine) : IxR X rIxK := by
  intro value slice pins s σ H x y v u Q I rx ry ⟨a, kvs, k, z, ex, ey, h, hz, q⟩ hs
  subst ex ey
  cases rx
  have g : DGet H a (kV k) (some z) := .inl ⟨kvs, k, h, rfl, hz.symm⟩
  exact subTail_of (dict_typeIs I g) PySem.F.slot_dict_getitem.lookup (d_getItem (by omega) I g ry fun w' s3 I3 rw' => ⟨z, H, I3, rw', q⟩) hs
theorem ixr_at (hu : X.A.units + 64 < cLine) : IxR X (rOf2 (kx X) opIx) := ixr_of fun p1 p2 q fr h => by
  match p1, p2, h with
  | .lst ps, .int i, h =>
    simp only [opIx] at h
    obtain ⟨p, hp, e⟩ := Option.map_eq_some_iff.mp h
    cases e
    refine ⟨_, ix_list, fun H Hv x y Q e r1 r2 k => ?_⟩
    obtain ⟨a, vs, rfl, h1, q1⟩ := rb_lst e r1
    obtain ⟨v, hv, rv⟩ := reps_at q1 hp
    exact ⟨a, vs, i, v, rfl, rb_int r2, .inl (.of h1), hv, k _ _ (post1_same e rv)⟩
  | .tup ps, .int i, h =>
    simp only [opIx] at h
    obtain ⟨p, hp, e⟩ := Option.map_eq_some_iff.mp h
    cases e
    refine ⟨_, ix_tup, fun H Hv x y Q e r1 r2 k => ?_⟩
    obtain ⟨a, vs, rfl, h1, q1, _⟩ := rb_tup e r1
    obtain ⟨v, hv, rv⟩ := reps_at q1 hp
    exact ⟨a, vs, i, v, rfl, rb_int r2, h1, hv, k _ _ (post1_same e rv)⟩
  | .scr ns, .int i, h =>
    simp only [opIx] at h
    obtain ⟨p, hp, e⟩ := Option.map_eq_some_iff.mp h
    cases e
    refine ⟨_, ix_list, fun H Hv x y Q e r1 r2 k => ?_⟩
    obtain ⟨a, rfl, h1⟩ := rb_scr e r1
    refine ⟨a, _, i, .int p, rfl, rb_int r2, h1, ?_, k _ _ (p1_int e _)⟩
    unfold atI at hp ⊢
    rw [List.length_map]
    cases z : ixN ns.length i with
    | none => rw [z] at hp; cases hp
    | some j =>
      rw [z] at hp
      simp only [Option.bind_some, List.getElem?_map] at hp ⊢
      rw [hp]; rfl
  | .str z, .int i, h =>
    simp only [opIx] at h
    split at h
    · rename_i hl
      obtain ⟨p, hp, e⟩ := Option.map_eq_some_iff.mp h
      cases e
      exact ⟨_, ix_str, fun H Hv x y Q e r1 r2 k => ⟨z, i, p, rb_str r1, rb_int r2, hl, hp, k _ _ (p1_str e _)⟩⟩
    · cases h
  | .dct 0 kvs, q2, h =>
    have h : ((keyOf q2).bind fun _ => (dGet kvs q2).map fun p => (p, false)) = some (q, fr) := by
      cases q2 <;> exact h
    cases e0 : keyOf q2 with
    | none => rw [e0] at h; cases h
    | some key =>
      rw [e0, Option.bind_some] at h
      have e1 := keyOf_some e0
      subst e1
      obtain ⟨p, hp, e⟩ := Option.map_eq_some_iff.mp h
      cases e
      refine ⟨_, ix_K hu, fun H Hv x y Q e r1 r2 k => ?_⟩
      obtain ⟨a, l, rfl, ⟨kvs', h1, rfl⟩, rd⟩ := rb_dct e r1
      rcases rd0_get rd key with ⟨v, p', e1, e2, rv⟩ | ⟨e1, e2⟩
      · rw [hp] at e2; cases e2
        refine ⟨a, kvs', key, v, rfl, ?_, h1, e1, k _ _ (post1_same e rv)⟩
        cases key with
        | inl i => exact rb_int r2
        | inr i => exact rb_str r2
      · rw [hp] at e2; cases e2
  | .dct 1 kvs, q2, h =>
    have h : (if kb q2 && kvs.all (fun e => kb e.1) then (dGet kvs q2).map fun p => (p, false) else none) = some (q, fr) := by
      cases q2 <;> exact h
    split at h
    · rename_i hc
      rw [Bool.and_eq_true] at hc
      obtain ⟨p, hp, e⟩ := Option.map_eq_some_iff.mp h
      cases e
      refine ⟨_, ix_N hu, fun H Hv x y Q e r1 r2 k => ?_⟩
      obtain ⟨a, l, rfl, ⟨xs, h1, rfl⟩, rd⟩ := rb_dct e r1
      obtain ⟨k1, k2⟩ := kb_at hc.1
      have ht : isTup q2 = true := by unfold kb at hc; simp only [Bool.and_eq_true] at hc; exact hc.1.1.1
      match q2, ht with
      | .tup qs, _ =>
        obtain ⟨b, vs, rfl, _, _, rq⟩ := rb_tup e r2
        rw [← k1] at hp rq
        rcases rd1_get rd (nkOf (.tup qs)) with ⟨v, p', e1, e2, rv⟩ | ⟨e1, e2⟩
        · rw [hp] at e2; cases e2
          exact ⟨a, b, xs, _, v, rfl, rfl, h1, fun x hx => (rd1_keys rd x hx).ext e, rd1_depth rd hc.2, k2, rq.ext e, e1, k _ _ (post1_same e rv)⟩
        · rw [hp] at e2; cases e2
    · cases h
end

/-! ### in -/
def isFlat : PV → Bool
  | .int _ | .str _ | .non => true
  | _ => false
def opIn : Op2
  | p, .lst ps => if okb 60 p && okb 60 (.lst ps) then sB (ps.any fun z => peq z p) else none
  | p, .tup ps => if isFlat p && ps.all isFlat then sB (ps.any fun z => peq z p) else none
  | .int i, .rng lo hi => sB (decide (lo ≤ i ∧ i < hi))
  | q, .dct 0 kvs => (keyOf q).bind fun _ => sB (dGet kvs q).isSome
  | q, .dct 1 kvs => if kb q && kvs.all (fun e => kb e.1) then sB (dGet kvs q).isSome else none
  | _, _ => none
def negB : Option (PV × Bool) → Option (PV × Bool)
  | some (.bl b, f) => some (.bl (!b), f)
  | _ => none
def opNotIn : Op2
  | .int _, .rng _ _ => none
  | p, q => negB (opIn p q)
section
variable {X : Cx}
def rInN (X : Cx) (neg : Bool) : R2 := fun y x H Q => ∃ (a b : Addr) (xs : XN) (k : NestedKey), x = .ref a ∧ y = .ref b ∧ Rd H a (DNo X.prog X.w a xs) ∧ (∀ x ∈ xs, Rep (kx X) H (.ref x.2.1) (pvK x.1)) ∧ (∀ x ∈ xs, x.1.depth ≤ 8) ∧ k.depth ≤ 8 ∧
  Rep (kx X) H (.ref b) (pvK k) ∧ Q (.bl (if neg then !(atV xs k).isSome else (atV xs k).isSome)) H
theorem or_inN (hu : X.A.units + 64 < cLine) : OpR X (compareOp .In) (rInN X false) := by
  intro pins s σ H x y v u Q I rx ry ⟨a, b, xs, k, ex, ey, h, hk, hd, hkd, rb, q⟩
  subst ex ey
  cases rx
  cases ry
  obtain ⟨hl, hsy, ys, kn, D⟩ := dn_of I h hk hd
  have hv := (kn_at kn k).isSome_eq
  rw [Option.isSome_map] at hv
  exact wpAny_in_heap (knd := nestedKind X.prog X.w) (k := k) (show (X.A.in1).units + 8 < cLine by simp only [Around.in1_units]; omega) ⟨rep_nk I k _ _ rb rfl, hkd⟩ hsy D ⟨.bl _, H, I.tok _, by rw [← hv]; rfl, q⟩
theorem or_notInN (hu : X.A.units + 64 < cLine) : OpR X (compareOp .NotIn) (rInN X true) := by
  intro pins s σ H x y v u Q I rx ry ⟨a, b, xs, k, ex, ey, h, hk, hd, hkd, rb, q⟩
  subst ex ey
  cases rx
  cases ry
  obtain ⟨hl, hsy, ys, kn, D⟩ := dn_of I h hk hd
  have hv := (kn_at kn k).isSome_eq
  rw [Option.isSome_map] at hv
  exact wpAny_notIn_heap (knd := nestedKind X.prog X.w) (k := k) (show (X.A.in1).units + 8 < cLine by simp only [Around.in1_units]; omega) ⟨rep_nk I k _ _ rb rfl, hkd⟩ hsy D ⟨.bl _, H, I.tok _, by rw [← hv]; rfl, q⟩
def rInK (neg : Bool) : R2 := fun y x H Q => ∃ (a : Addr) (kvs : List (Key × V)) (k : Key), x = .ref a ∧ y = kV k ∧ Rd H a (.dK kvs) ∧ Q (.bl (if neg then !(valV kvs k).isSome else (valV kvs k).isSome)) H
theorem or_inK (hu : X.A.units + 64 < cLine) : OpR X (compareOp .In) (rInK false) := by
  intro pins s σ H x y v u Q I rx ry ⟨a, kvs, k, ex, ey, h, q⟩
  subst ex
  cases ry
  exact d_in (by omega) I (.inl ⟨kvs, k, h, ey, rfl⟩ : DGet H a x (valV kvs k)) rx fun s3 I3 => ⟨.bl _, H, I3, rfl, q⟩
theorem or_notInK (hu : X.A.units + 64 < cLine) : OpR X (compareOp .NotIn) (rInK true) := by
  intro pins s σ H x y v u Q I rx ry ⟨a, kvs, k, ex, ey, h, q⟩
  subst ex
  cases ry
  exact d_notIn (by omega) I (.inl ⟨kvs, k, h, ey, rfl⟩ : DGet H a x (valV kvs k)) rx fun s3 I3 => ⟨.bl _, H, I3, rfl, q⟩
end
section
variable {K : Frg} {H Hv : Hp}
/-- what `in` a dict asks -/
theorem inN_ro {X : Cx} {neg : Bool} {q : PV} {kvs : List (PV × PV)} (h1 : kb q = true) (h2 : kvs.all (fun e => kb e.1) = true) : RO2 (kx X) (rInN X neg) q (.dct 1 kvs) (.bl (if neg then !(dGet kvs q).isSome else (dGet kvs q).isSome)) false := by
  intro H Hv x y Q e r1 r2 k
  obtain ⟨a, l, rfl, ⟨xs, h3, rfl⟩, rd⟩ := rb_dct e r2
  obtain ⟨k1, k2⟩ := kb_at h1
  have ht : isTup q = true := by unfold kb at h1; simp only [Bool.and_eq_true] at h1; exact h1.1.1
  match q, ht with
  | .tup qs, _ =>
    obtain ⟨b, vs, rfl, _, _, rq⟩ := rb_tup e r1
    rw [← k1] at rq
    refine ⟨a, b, xs, _, rfl, rfl, h3, fun x hx => (rd1_keys rd x hx).ext e, rd1_depth rd h2, k2, rq.ext e, ?_⟩
    have hg : (atV xs (nkOf (.tup qs))).isSome = (dGet kvs (.tup qs)).isSome := by
      rcases rd1_get rd (nkOf (.tup qs)) with ⟨v, p', e1, e2, rv⟩ | ⟨e1, e2⟩ <;> rw [k1] at e2 <;> rw [e1, e2] <;> rfl
    rw [hg]
    exact k _ _ (p1_bl e _)
theorem inK_ro {neg : Bool} {q : PV} {key : Key} {kvs : List (PV × PV)} (h1 : keyOf q = some key) : RO2 K (rInK neg) q (.dct 0 kvs) (.bl (if neg then !(dGet kvs q).isSome else (dGet kvs q).isSome)) false := by
  intro H Hv x y Q e r1 r2 k
  obtain ⟨a, l, rfl, ⟨kvs', h3, rfl⟩, rd⟩ := rb_dct e r2
  have e1 := keyOf_some h1
  subst e1
  refine ⟨a, kvs', key, rfl, ?_, h3, ?_⟩
  · cases key with
    | inl i => exact rb_int r1
    | inr i => exact rb_str r1
  · have hg : (valV kvs' key).isSome = (dGet kvs (kPV key)).isSome := by
      rcases rd0_get rd key with ⟨v, p', e1, e2, rv⟩ | ⟨e1, e2⟩ <;> rw [e1, e2] <;> rfl
    rw [hg]
    exact k _ _ (p1_bl e _)
theorem toD_any {n m : Nat} {p : PV} (hp : okb m p = true) : ∀ ps : List PV, ps.all (okb n) = true → ((toDs ps).any fun z => PyData.eqv z (toD p)) = ps.any fun z => peq z p
  | [], _ => rfl
  | q :: ps, h => by
    rw [List.all_cons, Bool.and_eq_true] at h
    rw [toDs, List.any_cons, List.any_cons, okb_eqv _ _ _ _ h.1 hp, toD_any hp ps h.2]
theorem flat_v {v : V} {p : PV} (r : RepB K H Hv v p) (h : isFlat p = true) : flatV v = true := by
  cases p <;> first | (simp [isFlat] at h; done) | skip
  · rw [rb_non r]; rfl
  · rw [rb_int r]; rfl
  · rw [rb_str r]; rfl
theorem flat_in {x : V} {p : PV} (r : RepB K H Hv x p) (h : isFlat p = true) : ∀ {vs : List V} {ps : List PV}, Reps K Hv vs ps → ps.all isFlat = true → vs.all flatV = true ∧ inV x vs = ps.any fun z => peq z p
  | _, _, .nil, _ => ⟨rfl, rfl⟩
  | _, _, .cons (v := v) (p := q) a b, h2 => by
    rw [List.all_cons, Bool.and_eq_true] at h2
    obtain ⟨i1, i2⟩ := flat_in r h b h2.2
    refine ⟨by rw [List.all_cons, Bool.and_eq_true]; exact ⟨flat_v (H := H) (.of a) h2.1, i1⟩, ?_⟩
    have e : ∀ xs : List V, inV x (v :: xs) = (eqV v x || inV x xs) := fun xs => rfl
    rw [e, List.any_cons, i2]
    congr 1
    cases p <;> first | (simp [isFlat] at h; done) | skip
    all_goals cases q <;> first | (simp [isFlat] at h2; done) | skip
    all_goals cases a
    all_goals first | rw [rb_non r] | rw [rb_int r] | rw [rb_str r]
    all_goals simp [peq, eqV, Bool.beq_eq_decide_eq]
end
end HF
end

section
set_option Elab.async false
set_option linter.all false
set_option maxRecDepth 100000
set_option maxHeartbeats 1000000
set_option autoImplicit false
/-! HFD: in, dicts that are made and stored into. -/
namespace HF
open PySem PySem.Spec PyProof.Rows L2
theorem okb_lst {n : Nat} {ps : List PV} (h : okb 60 (.lst ps) = true) : ps.all (okb 59) = true := by
  simpa [okb] using h
section
variable {X : Cx}
theorem opr_in (hu : X.A.units + 65 < cLine) : OpR X (compareOp .In) (rOf2 (kx X) opIn) := opr_of fun p1 p2 q fr h => by
  cases p2 with
  | lst ps =>
    have h : (if okb 60 p1 && okb 60 (.lst ps) then sB (ps.any fun z => peq z p1) else none) = some (q, fr) := by cases p1 <;> exact h
    split at h
    · rename_i hc
      rw [Bool.and_eq_true] at hc
      cases h
      refine ⟨_, op_inD hu, fun H Hv x y Q e r1 r2 k => ⟨toD p1, toDs ps, okb_dp _ _ _ (r1.full e) hc.1, okb_dp _ _ _ (r2.full e) hc.2, okb_shaped hc.1, okb_shaped hc.2, ?_⟩⟩
      rw [toD_any hc.1 ps (okb_lst (n := 60) hc.2)]
      exact k _ _ (p1_bl e _)
    · cases h
  | tup ps =>
    have h : (if isFlat p1 && ps.all isFlat then sB (ps.any fun z => peq z p1) else none) = some (q, fr) := by cases p1 <;> exact h
    split at h
    · rename_i hc
      rw [Bool.and_eq_true] at hc
      cases h
      refine ⟨_, op_in_seq, fun H Hv x y Q e r1 r2 k => ?_⟩
      obtain ⟨a, vs, rfl, h1, q1, _⟩ := rb_tup e r2
      obtain ⟨f1, f2⟩ := flat_in r1 hc.1 q1 hc.2
      refine ⟨a, vs, rfl, .inr h1, flat_v r1 hc.1, f1, ?_⟩
      simp only [Bool.false_eq_true, if_false]
      rw [f2]
      exact k _ _ (p1_bl e _)
    · cases h
  | rng lo hi =>
    cases p1 with
    | int i =>
      cases h
      refine ⟨_, op_in_rng, fun H Hv x y Q e r1 r2 k => ?_⟩
      obtain ⟨a, rfl, h1⟩ := rb_rng e r2
      exact ⟨i, a, lo, hi, rb_int r1, rfl, h1, k _ _ (p1_bl e _)⟩
    | _ => simp [opIn] at h
  | dct n kvs =>
    match n with
    | 0 =>
      have h : ((keyOf p1).bind fun _ => sB (dGet kvs p1).isSome) = some (q, fr) := by cases p1 <;> exact h
      cases e0 : keyOf p1 with
      | none => rw [e0] at h; cases h
      | some key =>
        rw [e0] at h
        cases h
        exact ⟨_, or_inK (by omega), inK_ro (neg := false) e0⟩
    | 1 =>
      have h : (if kb p1 && kvs.all (fun e => kb e.1) then sB (dGet kvs p1).isSome else none) = some (q, fr) := by cases p1 <;> exact h
      split at h
      · rename_i hc
        rw [Bool.and_eq_true] at hc
        cases h
        exact ⟨_, or_inN (by omega), inN_ro (neg := false) hc.1 hc.2⟩
      · cases h
    | n + 2 => cases p1 <;> simp [opIn] at h
  | _ => cases p1 <;> simp [opIn] at h
theorem negB_some {o : Option (PV × Bool)} {q : PV} {fr : Bool} (h : negB o = some (q, fr)) : ∃ b, o = some (.bl b, fr) ∧ q = .bl (!b) := by
  match o, h with
  | some (.bl b, f), h => cases h; exact ⟨b, rfl, rfl⟩
theorem opr_notin (hu : X.A.units + 65 < cLine) : OpR X (compareOp .NotIn) (rOf2 (kx X) opNotIn) := opr_of fun p1 p2 q fr h => by
  cases p2 with
  | lst ps =>
    have h : negB (if okb 60 p1 && okb 60 (.lst ps) then sB (ps.any fun z => peq z p1) else none) = some (q, fr) := by cases p1 <;> exact h
    split at h
    · rename_i hc
      rw [Bool.and_eq_true] at hc
      cases h
      refine ⟨_, op_notInD hu, fun H Hv x y Q e r1 r2 k => ⟨toD p1, toDs ps, okb_dp _ _ _ (r1.full e) hc.1, okb_dp _ _ _ (r2.full e) hc.2, okb_shaped hc.1, okb_shaped hc.2, ?_⟩⟩
      rw [toD_any hc.1 ps (okb_lst (n := 60) hc.2)]
      exact k _ _ (p1_bl e _)
    · cases h
  | tup ps =>
    have h : negB (if isFlat p1 && ps.all isFlat then sB (ps.any fun z => peq z p1) else none) = some (q, fr) := by cases p1 <;> exact h
    split at h
    · rename_i hc
      rw [Bool.and_eq_true] at hc
      cases h
      refine ⟨_, op_notIn_seq, fun H Hv x y Q e r1 r2 k => ?_⟩
      obtain ⟨a, vs, rfl, h1, q1, _⟩ := rb_tup e r2
      obtain ⟨f1, f2⟩ := flat_in r1 hc.1 q1 hc.2
      refine ⟨a, vs, rfl, .inr h1, flat_v r1 hc.1, f1, ?_⟩
      simp only [if_true]
      rw [f2]
      exact k _ _ (p1_bl e _)
    · cases h
  | rng lo hi => cases p1 <;> simp [opNotIn, opIn, negB] at h
  | dct n kvs =>
    match n with
    | 0 =>
      have h : negB ((keyOf p1).bind fun _ => sB (dGet kvs p1).isSome) = some (q, fr) := by cases p1 <;> exact h
      cases e0 : keyOf p1 with
      | none => rw [e0] at h; cases h
      | some key =>
        rw [e0] at h
        cases h
        exact ⟨_, or_notInK (by omega), inK_ro (neg := true) e0⟩
    | 1 =>
      have h : negB (if kb p1 && kvs.all (fun e => kb e.1) then sB (dGet kvs p1).isSome else none) = some (q, fr) := by cases p1 <;> exact h
      split at h
      · rename_i hc
        rw [Bool.and_eq_true] at hc
        cases h
        exact ⟨_, or_notInN (by omega), inN_ro (neg := true) hc.1 hc.2⟩
      · cases h
    | n + 2 => cases p1 <;> simp [opNotIn, opIn, negB] at h
  | _ => cases p1 <;> simp [opNotIn, opIn, negB] at h
end

/-! ### o[i] = v -/
def rOfS (K : Frg) (op : OpS) : V → V → V → Hp → (Hp → Prop) → Prop := fun o iv v H Q => ∃ (Hv : Hp) (a : Addr) (p q x p' : PV), o = .ref a ∧ Ext Hv H ∧ Ob K H Hv a p ∧ Rep K Hv iv q ∧ Rep K Hv v x ∧ op p q x = some p' ∧ ∀ o, Ob K (upd H a o) Hv a p' → Q (upd H a o)
theorem rofS {K : Frg} {op : OpS} : SOk K (rOfS K op) op := fun H Hv a iv v p q x p' Q e ob rq rx h k => ⟨Hv, a, p, q, x, p', rfl, e, ob, rq, rx, h, k⟩
/-- keys at entries -/
def opSet : OpS := fun p q x => match p, q with
  | .lst ps, .int k => (match ixN ps.length k with
    | some j => some (.lst (ps.set j x))
    | none => none)
  | .dct 0 kvs, q => if (keyOf q).isSome && decide (kvs.length < sizeLine) then some (.dct 0 (dPut kvs q x)) else none
  | .dct 1 kvs, q => if kb q && kvs.all (fun e => kb e.1) && decide (kvs.length < sizeLine) then some (.dct 1 (dPut kvs q x)) else none
  | _, _ => none
section
variable {X : Cx}
def rSetN (X : Cx) : TSet := fun o i v H Q => ∃ (a b : Addr) (xs : XN) (k : NestedKey), o = .ref a ∧ i = .ref b ∧ H a = some (DNo X.prog X.w a xs) ∧ (∀ x ∈ xs, Rep (kx X) H (.ref x.2.1) (pvK x.1)) ∧ (∀ x ∈ xs, x.1.depth ≤ 8) ∧ k.depth ≤ 8 ∧
  Rep (kx X) H (.ref b) (pvK k) ∧ xs.length < sizeLine ∧ Q (upd H a (DNo X.prog X.w a (stV xs k b v)))
theorem set_N (hu : X.A.units + 64 < cLine) : PSet X (rSetN X) := by
  intro pins s σ H o i v ov iv u Q I ro ri rv ⟨a, b, xs, k, eo, ei, h, hk, hd, hkd, rb, hl0, q⟩
  subst eo ei
  cases ro
  cases ri
  obtain ⟨hl, hsy, ys, kn, D⟩ := dn_of I (.of h) hk hd
  have hz : ys.length ≤ sizeLine := by rw [← kn_len kn]; exact hl
  refine wpAny_setItem_heap (knd := nestedKind X.prog X.w) (k := k) (hsz := hz) (show (X.A.in1).units + 8 < cLine by simp only [Around.in1_units]; omega) ⟨rep_nk I k _ _ rb rfl, hkd⟩ D fun h' D' hs => ?_
  obtain ⟨ob, es, ep, hq, h2, h3, h4, _, h5⟩ := D'
  have hlen : (stV xs k b v).length ≤ sizeLine := by have := stV_len xs k b v; omega
  refine ⟨_, d_write I (by rw [h]; exact True.intro) hs ⟨ob, hq⟩ ?_, q⟩
  refine ⟨⟨hlen, hsy, _, kn_put kn k b rv, ob, es, ep, hq, h2, h3, h4, h5⟩, ⟨ob, hq⟩, fun h1 h2 ⟨g1, g2, zs, g3, o1, e1, ep1, g4, g5⟩ hh => ⟨g1, g2, zs, g3, o1, e1, ep1, hh _ g4, g5⟩⟩
theorem pset_at (hu : X.A.units + 64 < cLine) : PSet X (rOfS (kx X) opSet) := by
  intro pins s σ H o i v ov iv u Q I ro ri rv ⟨Hv, a, p, q, x, p', eo, e, ob, rq, rx, h, k⟩
  subst eo
  match p, q, ob, rq, h with
  | .lst ps, .int j, ⟨vs, hv, r⟩, .int _, h =>
    simp only [opSet] at h
    split at h
    · rename_i jj ej
      cases h
      exact set_list pins s σ H _ _ v ov iv u Q I ro ri rv ⟨a, vs, j, jj, rfl, rfl, hv, by rw [r.length]; exact ej, k _ ⟨_, upd_same, r.set rx jj⟩⟩
    · cases h
  | .dct 0 kvs, q, ⟨l, ⟨kvs', h1, el⟩, rd⟩, rq, h =>
    have h : (if (keyOf q).isSome && decide (kvs.length < sizeLine) then some (PV.dct 0 (dPut kvs q x)) else none) = some p' := by cases q <;> exact h
    subst el
    split at h
    · rename_i hc
      rw [Bool.and_eq_true, decide_eq_true_eq, Option.isSome_iff_exists] at hc
      obtain ⟨⟨key, e0⟩, hl⟩ := hc
      cases h
      have e1 := keyOf_some e0
      subst e1
      have ei : i = kV key := by
        cases key with
        | inl z => cases rq; rfl
        | inr z => cases rq; rfl
      subst ei
      have hl' : kvs'.length < sizeLine := by have := repD_len rd; rw [List.length_map] at this; omega
      exact set_dict (by omega) pins s σ H _ _ v ov iv u Q I ro ri rv ⟨a, _, rfl, .inl ⟨kvs', key, h1, rfl, hl', rfl⟩, k _ ⟨_, ⟨_, upd_same, rfl⟩, rd0_put rd key rx⟩⟩
    · cases h
  | .dct 1 kvs, q, ⟨l, ⟨xs, h1, el⟩, rd⟩, rq, h =>
    have h : (if kb q && kvs.all (fun e => kb e.1) && decide (kvs.length < sizeLine) then some (PV.dct 1 (dPut kvs q x)) else none) = some p' := by cases q <;> exact h
    subst el
    split at h
    · rename_i hc
      rw [Bool.and_eq_true, Bool.and_eq_true, decide_eq_true_eq] at hc
      obtain ⟨⟨c1, c2⟩, c3⟩ := hc
      cases h
      obtain ⟨k1, k2⟩ := kb_at c1
      have ht : isTup q = true := by unfold kb at c1; simp only [Bool.and_eq_true] at c1; exact c1.1.1
      match q, ht, rq with
      | .tup qs, _, .tup (a := b) t1 t2 =>
        have rq : Rep (kx X) Hv (.ref b) (pvK (nkOf (.tup qs))) := by rw [k1]; exact .tup t1 t2
        have hl' : xs.length < sizeLine := by have := repD_len rd; rw [List.length_map] at this; omega
        have z := rd1_put rd (nkOf (.tup qs)) rq rx
        rw [k1] at z
        exact set_N hu pins s σ H _ _ v ov iv u Q I ro ri rv ⟨a, b, xs, _, rfl, rfl, h1, fun x hx => (rd1_keys rd x hx).ext e, rd1_depth rd c2, k2, rq.ext e, hl', k _ ⟨_, ⟨_, upd_same, rfl⟩, z⟩⟩
    · cases h

/-! ### {} -/
theorem dn_empty {P : Program} {w : World} {H : Hp} (h : Heap) (hb : sysModules < h.objs.size) : ObjOk P w H (h.push { cls := .type "dict", data := .dict #[] }) h.objs.size (DNo P w h.objs.size []) :=
  ⟨⟨Nat.zero_le _, beq_eq_false_iff_ne.mpr (Ne.symm (Nat.ne_of_lt hb)), [], .nil, _, #[], 0, Heap.get?_push_size _ rfl, ⟨rfl, rfl, rfl⟩, rfl, rfl, List.nodup_nil⟩, ⟨_, Heap.get?_push_size _ rfl⟩,
    fun h1 h2 ⟨g1, g2, zs, g3, o1, e1, ep1, g4, g5⟩ hh => ⟨g1, g2, zs, g3, o1, e1, ep1, hh _ g4, g5⟩⟩
def tDNewN (X : Cx) : TE := fun _ H Q => ∀ p, H p = none → Q (.ref p) (upd H p (DNo X.prog X.w p []))
theorem pe_dnewN {pos : Pos} : PE X (.Dict [] [] pos) (tDNewN X) := ⟨fun pins s σ H Q I h =>
  wpAny_Dict_empty ⟨.ref s.heap.objs.size, _, I.laid (a := s.heap.objs.size) (o := DNo X.prog X.w s.heap.objs.size []) (t' := s.toks) (fun _ _ q => Heap.get?_push_of_some _ q) (Nat.le_refl _) (dn_empty s.heap I.big), rfl, h _ (I.hok.fresh (Nat.le_refl _))⟩⟩
/-- a new empty dict of kind n -/
def eNewD (n : Nat) : PM Arg := ret (.val (.dct n []) true)
theorem newD_post {W : WX} {K : Frg} {Z : Addr → Prop} {H : Hp} {σ : L2.St} {s : SE} {p : Addr} {o : HO} {n : Nat} (R : Rl K Z H σ s) (hn : H p = none) (d : DAt K (upd H p o) p n []) : PostE K Z H σ s (.val (.dct n []) true) s (.ref p) (upd H p o) :=
  Post1.postE R ⟨ext_upd hn, p, rfl, hn, [], d, .nil⟩
theorem qe_newK {W : WX} {pos : Pos} : QE X W (.Dict [] [] pos) (eNewD 0) := qe_of pe_dnewK fun σ H Q h => by
  obtain ⟨Z, s, R, h⟩ := lE_iff.mp h
  intro p hp
  exact h _ _ (newD_post (W := W) (n := 0) R hp ⟨[], upd_same, rfl⟩)
theorem qe_newN {W : WX} {pos : Pos} : QE X W (.Dict [] [] pos) (eNewD 1) := qe_of pe_dnewN fun σ H Q h => by
  obtain ⟨Z, s, R, h⟩ := lE_iff.mp h
  intro p hp
  exact h _ _ (newD_post (W := W) (n := 1) R hp ⟨[], upd_same, rfl⟩)
end
end HF
end

section
set_option Elab.async false
set_option linter.all false
set_option maxRecDepth 100000
set_option maxHeartbeats 1000000
set_option autoImplicit false
/-! HFE: built-in functions. -/
namespace HF
open PySem PySem.Spec PyProof.Rows L2

def intsOf : List PV → Option (List Int)
  | [] => some []
  | .int i :: ps => (intsOf ps).map (i :: ·)
  | _ => none
def boolsOf : List PV → Option (List Bool)
  | [] => some []
  | .bl i :: ps => (boolsOf ps).map (i :: ·)
  | _ => none
theorem intsOf_map (ns : List Int) : intsOf (ns.map .int) = some ns := by
  induction ns with
  | nil => rfl
  | cons n ns ih => simp [intsOf, ih]
theorem boolsOf_map (ns : List Bool) : boolsOf (ns.map .bl) = some ns := by
  induction ns with
  | nil => rfl
  | cons n ns ih => simp [boolsOf, ih]
theorem intsOf_some : ∀ {ps : List PV} {ns : List Int}, intsOf ps = some ns → ps = ns.map .int
  | [], _, h => by cases h; rfl
  | p :: ps, ns, h => by
    cases p <;> simp only [intsOf] at h <;> first | (cases h; done) | skip
    obtain ⟨ms, h1, h2⟩ := Option.map_eq_some_iff.mp h
    subst h2
    rw [intsOf_some h1]; rfl
theorem boolsOf_some : ∀ {ps : List PV} {ns : List Bool}, boolsOf ps = some ns → ps = ns.map .bl
  | [], _, h => by cases h; rfl
  | p :: ps, ns, h => by
    cases p <;> simp only [boolsOf] at h <;> first | (cases h; done) | skip
    obtain ⟨ms, h1, h2⟩ := Option.map_eq_some_iff.mp h
    subst h2
    rw [boolsOf_some h1]; rfl
section
variable {K : Frg} {Hv : Hp}
theorem reps_intE : ∀ {ns : List Int} {vs : List V}, Reps K Hv vs (ns.map .int) → vs = ns.map .int
  | [], _, h => by cases h; rfl
  | n :: ns, _, h => by
    cases h with
    | cons a b => cases a; rw [reps_intE b]; rfl
theorem reps_bls : ∀ {ns : List Bool} {vs : List V}, Reps K Hv vs (ns.map .bl) → vs = ns.map .bl
  | [], _, h => by cases h; rfl
  | n :: ns, _, h => by
    cases h with
    | cons a b => cases a; rw [reps_bls b]; rfl
theorem reps_of_ints : ∀ (ns : List Int), Reps K Hv (ns.map .int) (ns.map .int)
  | [] => .nil
  | n :: ns => .cons (.int n) (reps_of_ints ns)
end
def maxI : List Int → Int
  | [] => 0
  | [n] => n
  | n :: ns => let m := maxI ns; if m > n then m else n
def minI : List Int → Int
  | [] => 0
  | [n] => n
  | n :: ns => let m := minI ns; if m < n then m else n
theorem maxI_of : ∀ ns : List Int, ns ≠ [] → maxI ns ∈ ns ∧ ∀ y, y ∈ ns → y ≤ maxI ns
  | [], h => (h rfl).elim
  | [n], _ => ⟨List.mem_singleton.mpr rfl, fun y hy => by rw [List.mem_singleton.mp hy]; exact Int.le_refl _⟩
  | n :: m :: ns, _ => by
    obtain ⟨h1, h2⟩ := maxI_of (m :: ns) (by simp)
    simp only [maxI]
    by_cases c : maxI (m :: ns) > n
    · rw [if_pos c]
      refine ⟨List.mem_cons_of_mem _ h1, fun y hy => ?_⟩
      rcases List.mem_cons.mp hy with e | hy
      · omega
      · exact h2 y hy
    · rw [if_neg c]
      refine ⟨List.mem_cons_self, fun y hy => ?_⟩
      rcases List.mem_cons.mp hy with e | hy
      · omega
      · have := h2 y hy; omega
theorem minI_of : ∀ ns : List Int, ns ≠ [] → minI ns ∈ ns ∧ ∀ y, y ∈ ns → minI ns ≤ y
  | [], h => (h rfl).elim
  | [n], _ => ⟨List.mem_singleton.mpr rfl, fun y hy => by rw [List.mem_singleton.mp hy]; exact Int.le_refl _⟩
  | n :: m :: ns, _ => by
    obtain ⟨h1, h2⟩ := minI_of (m :: ns) (by simp)
    simp only [minI]
    by_cases c : minI (m :: ns) < n
    · rw [if_pos c]
      refine ⟨List.mem_cons_of_mem _ h1, fun y hy => ?_⟩
      rcases List.mem_cons.mp hy with e | hy
      · omega
      · exact h2 y hy
    · rw [if_neg c]
      refine ⟨List.mem_cons_self, fun y hy => ?_⟩
      rcases List.mem_cons.mp hy with e | hy
      · omega
      · have := h2 y hy; omega

def opLen : OpN
  | [.lst ps] => sI ps.length
  | [.tup ps] => sI ps.length
  | [.scr ps] => sI ps.length
  | [.str z] => if z.length ≤ sizeLine then sI z.length else none
  | _ => none
def opAbs : OpN
  | [.int i] => sI (if i < 0 then -i else i)
  | _ => none
def opInt : OpN
  | [.int i] => sI i
  | [.bl b] => sI (if b then 1 else 0)
  | _ => none
def opSum : OpN
  | [.lst ps] => (intsOf ps).map fun ns => (.int ns.sum, false)
  | _ => none
def opMax : OpN
  | [.lst ps] => (intsOf ps).bind fun ns => if ns.isEmpty then none else sI (maxI ns)
  | [.int i, .int j] => sI (if j > i then j else i)
  | _ => none
def opMin : OpN
  | [.lst ps] => (intsOf ps).bind fun ns => if ns.isEmpty then none else sI (minI ns)
  | [.int i, .int j] => sI (if j < i then j else i)
  | _ => none
def opAny : OpN
  | [.lst ps] => (boolsOf ps).map fun bs => (.bl (bs.any id), false)
  | [.tup ps] => (intsOf ps).map fun ns => (.bl (ns.any fun i => !decide (i = 0)), false)
  | _ => none
def opAll : OpN
  | [.lst ps] => (boolsOf ps).map fun bs => (.bl (bs.all id), false)
  | [.tup ps] => (intsOf ps).map fun ns => (.bl (ns.all fun i => !decide (i = 0)), false)
  | _ => none
def opTuple : OpN
  | [.lst ps] => some (.tup ps, false)
  | [.tup ps] => some (.tup ps, false)
  | [.scr ps] => some (.tup (ps.map .int), false)
  | _ => none
def opList : OpN
  | [.lst ps] => some (.lst ps, true)
  | [.tup ps] => some (.lst ps, true)
  | [.scr ps] => some (.lst (ps.map .int), true)
  | _ => none
def opRange : OpN
  | [.int j] => some (.rng 0 j, false)
  | [.int i, .int j] => some (.rng i j, false)
  | _ => none
def leb (a b : Int) : Bool := decide (a ≤ b)
def opSorted : OpN
  | [.lst ps] => (intsOf ps).map fun ns => (.lst ((ns.mergeSort leb).map .int), true)
  | _ => none
section
variable {X : Cx}
theorem cr_range1 : CallR X (.type "range") (fun vs H Q => ∃ j, vs = [V.int j] ∧ ∀ p, H p = none → Q (.ref p) (upd H p (.rng 0 j))) := by
  intro pins s σ H vs us Q I r h
  obtain ⟨j, rfl, q⟩ := h
  obtain ⟨u2, rfl, rj⟩ := vals1 r
  obtain ⟨u, rfl⟩ := rj
  refine call_range_1 ⟨.ref s.heap.objs.size, upd H s.heap.objs.size (.rng 0 j), I.laid (t' := s.toks + 1 + 1) (fun b o e => Heap.get?_push_of_some _ e) (Nat.le_refl _) ?_, rfl, q _ (I.hok.fresh (Nat.le_refl _))⟩
  exact ⟨s.toks, u, s.toks + 1, Heap.get?_push_size _ rfl⟩
def rAnyT (K : PySem.W.Frag) (al : Bool) : List V → Hp → VK → Prop := fun vs H Q => ∃ (a : Addr) (ns : List Int), vs = [V.ref a] ∧ SqT K H a (ns.map V.int) ∧ Q (.bl (if al then ns.all (fun i => !decide (i = 0)) else ns.any (fun i => !decide (i = 0)))) H
theorem dp_ints {K : PySem.W.Frag} {H : Hp} : ∀ ns : List Int, DpAll K H (ns.map V.int) (ns.map PyData.int)
  | [] => .nil
  | n :: ns => .cons (.int n) (dp_ints ns)
theorem plain_ints : ∀ ns : List Int, PyData.plainAll (ns.map PyData.int) = true
  | [] => rfl
  | n :: ns => by rw [List.map_cons, PyData.plainAll, plain_ints ns]; rfl
theorem any_ints (ns : List Int) : (ns.map PyData.int).any PyData.truthy = ns.any fun i => !decide (i = 0) := by
  induction ns with
  | nil => rfl
  | cons n ns ih => rw [List.map_cons, List.any_cons, List.any_cons, ih]; congr 1
theorem all_ints (ns : List Int) : (ns.map PyData.int).all PyData.truthy = ns.all fun i => !decide (i = 0) := by
  induction ns with
  | nil => rfl
  | cons n ns ih => rw [List.map_cons, List.all_cons, List.all_cons, ih]; congr 1
theorem cr_anyT (hc : X.calm = true) : CallR X (.builtin "any") (rAnyT X.K false) := by
  intro pins s σ H vs us Q I r ⟨a, ns, ev, hs, q⟩
  subst ev
  rw [Vals.ref1 r]
  obtain ⟨its, rv, ht, _⟩ := I.tuple hs
  obtain ⟨as, ra⟩ := Dp.readsAll I _ _ _ (dp_ints ns) rv
  refine PySem.W.any_tuple_data (I.ok.hd hc) ht (by simpa using ra) (plain_ints ns) (fun x hx => ?_) fun h' tk hk => ⟨.bl _, H, I.kept hk, ?_, q⟩
  · obtain ⟨i, _, rfl⟩ := List.mem_map.mp hx; exact True.intro
  · rw [any_ints]; rfl
theorem cr_allT (hc : X.calm = true) : CallR X (.builtin "all") (rAnyT X.K true) := by
  intro pins s σ H vs us Q I r ⟨a, ns, ev, hs, q⟩
  subst ev
  rw [Vals.ref1 r]
  obtain ⟨its, rv, ht, _⟩ := I.tuple hs
  obtain ⟨as, ra⟩ := Dp.readsAll I _ _ _ (dp_ints ns) rv
  refine PySem.W.all_tuple_data (I.ok.hd hc) ht (by simpa using ra) (plain_ints ns) (fun x hx => ?_) fun h' tk hk => ⟨.bl _, H, I.kept hk, ?_, q⟩
  · obtain ⟨i, _, rfl⟩ := List.mem_map.mp hx; exact True.intro
  · rw [all_ints]; rfl

theorem callr_len : CallR X (.builtin "len") (rOfN (kx X) opLen) := callr_of fun ps q fr h => by
  match ps, h with
  | [.lst ps], h =>
    cases h
    refine ⟨_, call_len, fun H Hv xs Q e r k => ?_⟩
    obtain ⟨x, rfl, r1⟩ := rbs_1 r
    obtain ⟨a, vs, rfl, h1, q1⟩ := rb_lst e r1
    exact ⟨_, vs.length, rfl, .inl ⟨vs, .inl (.of h1), rfl⟩, by rw [q1.length]; exact k _ _ (p1_int e _)⟩
  | [.tup ps], h =>
    cases h
    refine ⟨_, call_len, fun H Hv xs Q e r k => ?_⟩
    obtain ⟨x, rfl, r1⟩ := rbs_1 r
    obtain ⟨a, vs, rfl, h1, q1, _⟩ := rb_tup e r1
    exact ⟨_, vs.length, rfl, .inr ⟨vs, h1, rfl⟩, by rw [q1.length]; exact k _ _ (p1_int e _)⟩
  | [.scr ps], h =>
    cases h
    refine ⟨_, call_len, fun H Hv xs Q e r k => ?_⟩
    obtain ⟨x, rfl, r1⟩ := rbs_1 r
    obtain ⟨a, rfl, h1⟩ := rb_scr e r1
    exact ⟨_, _, rfl, .inl ⟨_, h1, rfl⟩, by rw [List.length_map]; exact k _ _ (p1_int e _)⟩
  | [.str z], h =>
    simp only [opLen] at h
    split at h
    · rename_i hz
      cases h
      refine ⟨_, call_len, fun H Hv xs Q e r k => ?_⟩
      obtain ⟨x, rfl, r1⟩ := rbs_1 r
      exact ⟨_, _, rfl, by rw [rb_str r1]; exact ⟨hz, rfl⟩, k _ _ (p1_int e _)⟩
    · cases h
theorem callr_abs : CallR X (.builtin "abs") (rOfN (kx X) opAbs) := callr_of fun ps q fr h => by
  match ps, h with
  | [.int i], h =>
    cases h
    refine ⟨_, call_abs, fun H Hv xs Q e r k => ?_⟩
    obtain ⟨x, rfl, r1⟩ := rbs_1 r
    exact ⟨i, by rw [rb_int r1], k _ _ (p1_int e _)⟩
theorem callr_int : CallR X (.type "int") (rOfN (kx X) opInt) := callr_of fun ps q fr h => by
  match ps, h with
  | [.int i], h =>
    cases h
    refine ⟨_, call_int1, fun H Hv xs Q e r k => ?_⟩
    obtain ⟨x, rfl, r1⟩ := rbs_1 r
    exact .inl ⟨i, by rw [rb_int r1], k _ _ (p1_int e _)⟩
  | [.bl b], h =>
    cases h
    refine ⟨_, call_int1, fun H Hv xs Q e r k => ?_⟩
    obtain ⟨x, rfl, r1⟩ := rbs_1 r
    exact .inr ⟨b, by rw [rb_bl r1], k _ _ (p1_int e _)⟩
theorem callr_sum (hc : X.calm = true) : CallR X (.builtin "sum") (rOfN (kx X) opSum) := callr_of fun ps q fr h => by
  match ps, h with
  | [.lst ps], h =>
    simp only [opSum] at h
    obtain ⟨ns, h1, h2⟩ := Option.map_eq_some_iff.mp h
    cases h2
    rw [intsOf_some h1]
    refine ⟨_, cr_sum hc, fun H Hv xs Q e r k => ?_⟩
    obtain ⟨x, rfl, r1⟩ := rbs_1 r
    obtain ⟨a, vs, rfl, h1, q1⟩ := rb_lst e r1
    rw [reps_intE q1] at h1
    exact ⟨a, ns, rfl, .inl (.of h1), k _ _ (p1_int e _)⟩
theorem callr_max (hc : X.calm = true) : CallR X (.builtin "max") (rOfN (kx X) opMax) := callr_of fun ps q fr h => by
  match ps, h with
  | [.lst ps], h =>
    simp only [opMax] at h
    obtain ⟨ns, h1, h2⟩ := Option.bind_eq_some_iff.mp h
    split at h2
    · cases h2
    · rename_i hne
      cases h2
      rw [intsOf_some h1]
      refine ⟨_, cr_max hc, fun H Hv xs Q e r k => ?_⟩
      obtain ⟨x, rfl, r1⟩ := rbs_1 r
      obtain ⟨a, vs, rfl, h1, q1⟩ := rb_lst e r1
      rw [reps_intE q1] at h1
      have hn : ns ≠ [] := by intro z; subst z; simp at hne
      refine ⟨a, ns, rfl, .inl (.of h1), List.length_pos_iff.mpr hn, fun m m1 m2 => ?_⟩
      obtain ⟨w1, w2⟩ := maxI_of ns hn
      have : m = maxI ns := Int.le_antisymm (w2 m m1) (m2 _ w1)
      rw [this]
      exact k _ _ (p1_int e _)
  | [.int i, .int j], h =>
    cases h
    refine ⟨_, call_max2 hc, fun H Hv xs Q e r k => ?_⟩
    obtain ⟨x, y, rfl, r1, r2⟩ := rbs_2 r
    exact ⟨i, j, by rw [rb_int r1, rb_int r2], k _ _ (p1_int e _)⟩
theorem callr_min (hc : X.calm = true) : CallR X (.builtin "min") (rOfN (kx X) opMin) := callr_of fun ps q fr h => by
  match ps, h with
  | [.lst ps], h =>
    simp only [opMin] at h
    obtain ⟨ns, h1, h2⟩ := Option.bind_eq_some_iff.mp h
    split at h2
    · cases h2
    · rename_i hne
      cases h2
      rw [intsOf_some h1]
      refine ⟨_, cr_min hc, fun H Hv xs Q e r k => ?_⟩
      obtain ⟨x, rfl, r1⟩ := rbs_1 r
      obtain ⟨a, vs, rfl, h1, q1⟩ := rb_lst e r1
      rw [reps_intE q1] at h1
      have hn : ns ≠ [] := by intro z; subst z; simp at hne
      refine ⟨a, ns, rfl, .inl (.of h1), List.length_pos_iff.mpr hn, fun m m1 m2 => ?_⟩
      obtain ⟨w1, w2⟩ := minI_of ns hn
      have : m = minI ns := Int.le_antisymm (m2 _ w1) (w2 m m1)
      rw [this]
      exact k _ _ (p1_int e _)
  | [.int i, .int j], h =>
    cases h
    refine ⟨_, call_min2 hc, fun H Hv xs Q e r k => ?_⟩
    obtain ⟨x, y, rfl, r1, r2⟩ := rbs_2 r
    exact ⟨i, j, by rw [rb_int r1, rb_int r2], k _ _ (p1_int e _)⟩
theorem callr_any (hc : X.calm = true) : CallR X (.builtin "any") (rOfN (kx X) opAny) := callr_of fun ps q fr h => by
  match ps, h with
  | [.lst ps], h =>
    simp only [opAny] at h
    obtain ⟨ns, h1, h2⟩ := Option.map_eq_some_iff.mp h
    cases h2
    rw [boolsOf_some h1]
    refine ⟨_, cr_any hc, fun H Hv xs Q e r k => ?_⟩
    obtain ⟨x, rfl, r1⟩ := rbs_1 r
    obtain ⟨a, vs, rfl, h1, q1⟩ := rb_lst e r1
    rw [reps_bls q1] at h1
    exact ⟨a, ns, rfl, .inl (.of h1), k _ _ (p1_bl e _)⟩
  | [.tup ps], h =>
    simp only [opAny] at h
    obtain ⟨ns, h1, h2⟩ := Option.map_eq_some_iff.mp h
    cases h2
    rw [intsOf_some h1]
    refine ⟨_, cr_anyT hc, fun H Hv xs Q e r k => ?_⟩
    obtain ⟨x, rfl, r1⟩ := rbs_1 r
    obtain ⟨a, vs, rfl, h1, q1, _⟩ := rb_tup e r1
    rw [reps_intE q1] at h1
    exact ⟨a, ns, rfl, h1, k _ _ (p1_bl e _)⟩
theorem callr_all (hc : X.calm = true) : CallR X (.builtin "all") (rOfN (kx X) opAll) := callr_of fun ps q fr h => by
  match ps, h with
  | [.lst ps], h =>
    simp only [opAll] at h
    obtain ⟨ns, h1, h2⟩ := Option.map_eq_some_iff.mp h
    cases h2
    rw [boolsOf_some h1]
    refine ⟨_, cr_all hc, fun H Hv xs Q e r k => ?_⟩
    obtain ⟨x, rfl, r1⟩ := rbs_1 r
    obtain ⟨a, vs, rfl, h1, q1⟩ := rb_lst e r1
    rw [reps_bls q1] at h1
    exact ⟨a, ns, rfl, .inl (.of h1), k _ _ (p1_bl e _)⟩
  | [.tup ps], h =>
    simp only [opAll] at h
    obtain ⟨ns, h1, h2⟩ := Option.map_eq_some_iff.mp h
    cases h2
    rw [intsOf_some h1]
    refine ⟨_, cr_allT hc, fun H Hv xs Q e r k => ?_⟩
    obtain ⟨x, rfl, r1⟩ := rbs_1 r
    obtain ⟨a, vs, rfl, h1, q1, _⟩ := rb_tup e r1
    rw [reps_intE q1] at h1
    exact ⟨a, ns, rfl, h1, k _ _ (p1_bl e _)⟩
theorem callr_tuple : CallR X (.type "tuple") (rOfN (kx X) opTuple) := callr_of fun ps q fr h => by
  match ps, h with
  | [.lst ps], h =>
    cases h
    refine ⟨_, call_tuple_of, fun H Hv xs Q e r k => ?_⟩
    obtain ⟨x, rfl, r1⟩ := rbs_1 r
    obtain ⟨a, vs, rfl, h1, q1⟩ := rb_lst e r1
    exact ⟨a, vs, rfl, .inl ⟨.inl (.of h1), fun l hl => k _ _ (post1_tup e hl q1)⟩⟩
  | [.tup ps], h =>
    cases h
    refine ⟨_, call_tuple_of, fun H Hv xs Q e r k => ?_⟩
    obtain ⟨x, rfl, r1⟩ := rbs_1 r
    obtain ⟨a, vs, rfl, h1, q1, w1⟩ := rb_tup e r1
    exact ⟨a, vs, rfl, .inr ⟨h1, k _ _ (post1_same e w1)⟩⟩
  | [.scr ps], h =>
    cases h
    refine ⟨_, call_tuple_of, fun H Hv xs Q e r k => ?_⟩
    obtain ⟨x, rfl, r1⟩ := rbs_1 r
    obtain ⟨a, rfl, h1⟩ := rb_scr e r1
    exact ⟨a, _, rfl, .inl ⟨h1, fun l hl => k _ _ (post1_tup e hl (reps_of_ints _))⟩⟩
theorem callr_list : CallR X (.type "list") (rOfN (kx X) opList) := callr_of fun ps q fr h => by
  match ps, h with
  | [.lst ps], h =>
    cases h
    refine ⟨_, call_list_of, fun H Hv xs Q e r k => ?_⟩
    obtain ⟨x, rfl, r1⟩ := rbs_1 r
    obtain ⟨a, vs, rfl, h1, q1⟩ := rb_lst e r1
    exact ⟨a, vs, rfl, .inl (.inl (.of h1)), fun l hl => k _ _ (post1_lst e hl q1)⟩
  | [.tup ps], h =>
    cases h
    refine ⟨_, call_list_of, fun H Hv xs Q e r k => ?_⟩
    obtain ⟨x, rfl, r1⟩ := rbs_1 r
    obtain ⟨a, vs, rfl, h1, q1, w1⟩ := rb_tup e r1
    exact ⟨a, vs, rfl, .inr h1, fun l hl => k _ _ (post1_lst e hl q1)⟩
  | [.scr ps], h =>
    cases h
    refine ⟨_, call_list_of, fun H Hv xs Q e r k => ?_⟩
    obtain ⟨x, rfl, r1⟩ := rbs_1 r
    obtain ⟨a, rfl, h1⟩ := rb_scr e r1
    exact ⟨a, _, rfl, .inl h1, fun l hl => k _ _ (post1_lst e hl (reps_of_ints _))⟩
theorem post1_rng {K : Frg} {H Hv : Hp} {a : Addr} {lo hi : Int} (e : Ext Hv H) (hn : H a = none) : Post1 K H Hv (.ref a) (upd H a (.rng lo hi)) (.rng lo hi) false :=
  ⟨ext_upd hn, by show Rep K (grow Hv H _) _ _; rw [grow_upd e hn]; exact .rng upd_same⟩
theorem callr_range : CallR X (.type "range") (rOfN (kx X) opRange) := callr_of fun ps q fr h => by
  match ps, h with
  | [.int j], h =>
    cases h
    refine ⟨_, cr_range1, fun H Hv xs Q e r k => ?_⟩
    obtain ⟨x, rfl, r1⟩ := rbs_1 r
    exact ⟨j, by rw [rb_int r1], fun p hp => k _ _ (post1_rng e hp)⟩
  | [.int i, .int j], h =>
    cases h
    refine ⟨_, cr_range2, fun H Hv xs Q e r k => ?_⟩
    obtain ⟨x, y, rfl, r1, r2⟩ := rbs_2 r
    exact ⟨i, j, by rw [rb_int r1, rb_int r2], fun p hp => k _ _ (post1_rng e hp)⟩
theorem sorted_uniq : ∀ {a b : List Int}, a.Perm b → a.Pairwise (· ≤ ·) → b.Pairwise (· ≤ ·) → a = b := fun p h1 h2 =>
  p.eq_of_pairwise (fun a b _ _ x y => Int.le_antisymm x y) h1 h2
theorem callr_sorted : CallR X (.builtin "sorted") (rOfN (kx X) opSorted) := callr_of fun ps q fr h => by
  match ps, h with
  | [.lst ps], h =>
    simp only [opSorted] at h
    obtain ⟨ns, h1, h2⟩ := Option.map_eq_some_iff.mp h
    cases h2
    rw [intsOf_some h1]
    refine ⟨_, cr_sortedI, fun H Hv xs Q e r k => ?_⟩
    obtain ⟨x, rfl, r1⟩ := rbs_1 r
    obtain ⟨a, vs, rfl, h1, q1⟩ := rb_lst e r1
    rw [reps_intE q1] at h1
    refine ⟨a, ns, rfl, .inl (.of h1), fun ns' p hp hs hn => ?_⟩
    have : ns' = ns.mergeSort leb := by
      refine sorted_uniq (hp.trans (List.mergeSort_perm ns leb).symm) hs ?_
      have := List.pairwise_mergeSort (le := leb) (fun a b c x y => by unfold leb at *; simp at *; omega) (fun a b => by unfold leb; simp; omega) ns
      exact this.imp fun z => of_decide_eq_true z
    rw [this]
    exact k _ _ (post1_lst e hn (reps_of_ints _))
end
end HF
end

section
set_option Elab.async false
set_option linter.all false
set_option maxRecDepth 100000
set_option maxHeartbeats 1000000
set_option autoImplicit false
/-! HFF: what may be walked, by its value; slices. -/
namespace HF
open PySem PySem.Spec PyProof.Rows L2
def rOk (lo hi : Int) : Bool := decide (-(2 ^ 62) ≤ lo ∧ lo < 2 ^ 62 ∧ -(2 ^ 62) ≤ hi ∧ hi < 2 ^ 62)
def iVal (f : PM Arg) : PM (List PV) := bnd f fun a => bnd (rel1 a) fun p => match p with
  | .lst ps => ret ps
  | .tup ps => ret ps
  | .scr ns => ret (ns.map PV.int)
  | .rng lo hi => if rOk lo hi then ret (rngL lo (hi - lo).toNat) else stk
  | _ => stk
section
variable {X : Cx} {tg : Expr}
def iV (K : PySem.W.Frag) (tl : TE) : TI := fun σ H R => tl σ H fun x H1 => (∃ a, x = .ref a ∧ (∃ xs, SqL K H1 a xs) ∧ R (Itl K a) H1) ∨ (∃ a, x = .ref a ∧ (∃ xs, SqT K H1 a xs) ∧ R (Itt K a) H1) ∨
  ∃ (a : Addr) (lo hi : Int), x = .ref a ∧ H1 a = some (.rng lo hi) ∧ rOk lo hi = true ∧ R (Itr lo (hi - lo).toNat) H1
theorem pi_val {l : Expr} {tl : TE} (hl : PE X l tl) : PI X tg l (iV X.K tl) := by
  refine ⟨fun pins s σ H R I h => ?_⟩
  refine thn (hl.run pins s σ H _ I h) fun v s1 ⟨x, H1, I1, r1, q1⟩ => ?_
  have fpo : ∀ b ∈ [s1.heap.objs.size], FpOk X pins H1 b := fun b hb => by
    have e : b = s1.heap.objs.size := by simpa using hb
    subst e
    exact I1.fpOk (Nat.le_refl _) (I1.hok.fresh (Nat.le_refl _))
  rcases q1 with ⟨a, e, ⟨xs, hq⟩, q⟩ | ⟨a, e, ⟨xs, hq⟩, q⟩ | ⟨a, lo, hi, e, hq, hb, q⟩
  · subst e
    cases r1
    obtain ⟨its, rv, p, hz⟩ := I1.list hq
    refine wpAny_pyIter_list p.isList ?_
    exact ⟨s1.heap.objs.size, [s1.heap.objs.size], _, _, H1, rfl, I1.kept (t' := s1.toks) fun b o e => Heap.get?_push_of_some _ e, turn_list a _, ⟨_, Heap.get?_push_size _ rfl, rfl, rfl⟩, fpo, q⟩
  · subst e
    cases r1
    obtain ⟨its, rv, p, hz⟩ := I1.tuple hq
    refine wpAny_pyIter_tuple (show s1.heap.IsTuple a its.toArray from p) ?_
    exact ⟨s1.heap.objs.size, [s1.heap.objs.size], _, _, H1, rfl, I1.kept (t' := s1.toks) fun b o e => Heap.get?_push_of_some _ e, turn_tuple a _, ⟨_, Heap.get?_push_size _ rfl, rfl, rfl⟩, fpo, q⟩
  · subst e
    cases r1
    obtain ⟨t, u, v, ho⟩ := (show ∃ t u v, s1.heap.get? a = some { cls := .type "range", data := .fields #[.int lo t, .int hi u, .int 1 v] } from I1.hok a _ hq)
    obtain ⟨h1, h2, h3, h4⟩ := of_decide_eq_true (p := -(2 ^ 62) ≤ lo ∧ lo < 2 ^ 62 ∧ -(2 ^ 62) ≤ hi ∧ hi < 2 ^ 62) hb
    refine wpAny_pyIter_range (a := lo) (b := hi) (c := 1) (t := t) (u := u) (v := v) ho (small_one h1 h2 h3 h4) ?_
    refine ⟨s1.heap.objs.size, [s1.heap.objs.size], _, _, H1, rfl, I1.kept (t' := s1.toks) fun b o e => Heap.get?_push_of_some _ e, turn_range _ lo (hi - lo).toNat, ?_, fpo, q⟩
    have e1 : lo + ((0 : Nat) : Int) * 1 = lo := by simp
    have e2 : (((hi - lo).toNat : Nat) : Int) - ((0 : Nat) : Int) = Builtin.Range.rangeSize lo hi 1 := by rw [rangeSize_one]; split <;> omega
    show IsRangeIter _ _ (lo + ((0 : Nat) : Int) * 1) ((((hi - lo).toNat : Nat) : Int) - ((0 : Nat) : Int)) 1
    rw [e1, e2]
    exact Heap.get?_push_size _ rfl
theorem qi_val {W : WX} {e : Expr} {f : PM Arg} (he : QE X W e f) : QI X W tg e (iVal f) := ⟨pi_mono (pi_val he.pe) fun σ H R ⟨Z, s, R1, h⟩ => by
  refine lE_step R1 (Mt.bnd_ h) fun r s1 v H1 k p => ?_
  obtain ⟨q, s2, k, g, rp⟩ := rel1_step (mg := X.mg) p k.bnd_
  cases rp with
  | lst hq rs => exact .inl ⟨_, rfl, ⟨_, hid_sub.sqL (.inl (.of hq))⟩, k _ _ _ g (wk_list _ _ _) ⟨hv_hq.sqL (.inl (.of hq)), rs⟩⟩
  | scr hq => exact .inl ⟨_, rfl, ⟨_, hid_sub.sqL hq⟩, k _ _ _ g (wk_list _ _ _) ⟨hv_hq.sqL hq, reps_ints _⟩⟩
  | tup hq rs => exact .inr (.inl ⟨_, rfl, ⟨_, hid_sub.sqT hq⟩, k _ _ _ g (wk_tup _ _ _) ⟨hv_hq.sqT hq, rs⟩⟩)
  | rng hq =>
    simp only at k
    split at k
    · rename_i hb
      exact .inr (.inr ⟨_, _, _, rfl, hid_sub _ _ hq, hb, k _ _ _ g (wk_rng _ _) trivial⟩)
    · exact k.elim
  | _ => exact k.elim⟩
end

/-! ### slices -/
def cutP (xs : List PV) (lo hi : Option Int) : List PV := (xs.drop (HT.sIx xs.length 0 lo)).take (HT.sIx xs.length xs.length hi - HT.sIx xs.length 0 lo)
def opSl (p : PV) (lo hi : Option Int) : Option (PV × Bool) := match p with
  | .lst ps => some (.lst (cutP ps lo hi), true)
  | .tup ps => some (.tup (cutP ps lo hi), false)
  | .scr ps => some (.lst (cutP (ps.map .int) lo hi), true)
  | _ => none
/-- a part of a slice: none, or an int -/
def eNoP : PM (Option Int) := ret none
def eP (f : PM Arg) : PM (Option Int) := bnd f fun a => match a with
  | .val (.int i) _ => ret (some i)
  | _ => stk
def eSl (f : PM Arg) (l u : PM (Option Int)) : PM Arg := bnd f fun a => bnd l fun lo => bnd u fun hi => fun s => match rv s a with
  | some p => fin (opSl p lo hi) s
  | none => .stuck
def lO (K : Frg) (mg : Str → Option Value) (W : WX) (f : PM (Option Int)) : TO := fun σ H Q => ∃ (Z : Addr → Prop) (s : SE), Rl K Z H σ s ∧
  Mt (f s) (fun o s' => ∀ H', Go K Z Z H σ s s' H' → Q o H') (fun c s' => XOut K mg W Z H σ s c s')
structure QO (X : Cx) (W : WX) (e : Option Expr) (f : PM (Option Int)) : Prop where
  po : PO X e (lO (kx X) X.mg W f)
theorem po_mono {X : Cx} {e : Option Expr} {t t' : TO} (h : PO X e t) (m : ∀ σ H Q, t' σ H Q → t σ H Q) : PO X e t' := ⟨fun pins s σ H Q I q => h.run pins s σ H Q I (m σ H Q q)⟩
theorem lO_step {K : Frg} {mg : Str → Option Value} {W : WX} {Z : Addr → Prop} {H : Hp} {σ : L2.St} {s : SE} {f : PM (Option Int)} {Q : Option Int → Hp → Prop} {ok : Option Int → SE → Prop} (R : Rl K Z H σ s) (h : Mt (f s) ok (fun c s' => XOut K mg W Z H σ s c s')) (k : ∀ b s1 H1, ok b s1 → Go K Z Z H σ s s1 H1 → Q b H1) : lO K mg W f σ H Q :=
  ⟨Z, s, R, by
    cases q : f s with
    | ok r s1 => rw [q] at h; exact fun H1 p => k r s1 H1 h p
    | exc c s1 => rw [q] at h; exact h
    | stuck => rw [q] at h; exact h⟩
section
variable {X : Cx} {W : WX} {e a b : Expr} {lo hi : Option Expr} {f : PM Arg} {l u : PM (Option Int)} {pos p2 : Pos}
theorem qo_none : QO X W none eNoP := ⟨po_mono po_none fun σ H Q ⟨Z, s, R, h⟩ => h H (Go.refl R)⟩
theorem qo_some (he : QE X W e f) : QO X W (some e) (eP f) := ⟨po_mono (po_some he.pe) fun σ H Q ⟨Z, s, R, h⟩ => by
  refine lE_step R (Mt.bnd_ h) fun r s1 v H1 k p => ?_
  obtain ⟨g, a1⟩ := p.wait
  match r, a1, k with
  | .val (.int i) _, a1, k =>
    cases a1
    exact ⟨i, rfl, k H1 g⟩⟩
theorem cut_reps {K : Frg} {H : Hp} {vs : List V} {ps : List PV} (r : Reps K H vs ps) (lo hi : Option Int) : Reps K H (cutV vs lo hi) (cutP ps lo hi) := by
  unfold cutV cutP
  rw [r.length]
  exact (r.drop _).take _
theorem cut_whole {xs : List PV} {lo hi : Option Int} (h : HT.sIx xs.length 0 lo = 0 ∧ HT.sIx xs.length xs.length hi = xs.length) : cutP xs lo hi = xs := by
  unfold cutP
  rw [h.1, h.2]
  simp
/-- what slices of values give -/
theorem sl_post {K : Frg} {H Hv : Hp} {v : V} {p q : PV} {fr : Bool} {i j : Option Int} {Q : VK} (e : Ext Hv H) (r : RepB K H Hv v p) (h : opSl p i j = some (q, fr)) (k : ∀ v H', Post1 K H Hv v H' q fr → Q v H') : rSlL K.K v i j H Q ∨ rSlA K.K v i j H Q := by
  match p, h with
  | .lst ps, h =>
    cases h
    obtain ⟨a, vs, rfl, h1, q1⟩ := rb_lst e r
    exact .inl ⟨a, vs, rfl, .inl (.of h1), fun p hp => k _ _ (post1_lst e hp (cut_reps q1 i j))⟩
  | .scr ns, h =>
    cases h
    obtain ⟨a, rfl, h1⟩ := rb_scr e r
    exact .inl ⟨a, _, rfl, h1, fun p hp => k _ _ (post1_lst e hp (cut_reps (reps_of_ints ns) i j))⟩
  | .tup ps, h =>
    cases h
    obtain ⟨a, vs, rfl, h1, q1, w⟩ := rb_tup e r
    refine .inr ⟨a, vs, rfl, h1, fun z => ?_, fun _ p hp => k _ _ (post1_tup e hp (cut_reps q1 i j))⟩
    rw [q1.length] at z
    have := cut_whole z
    exact k _ _ (post1_same e (by rw [this]; exact w))
theorem qe_sl (he : QE X W e f) (hl : QO X W lo l) (hu : QO X W hi u) : QE X W (.Subscript e (.Slice lo hi none p2) pos) (eSl f l u) :=
  qe_of (pe_slice (sl_list.or sl_tupA) he.pe hl.po hu.po) fun σ H Q h => by
    obtain ⟨Z, s, R, h⟩ := lE_iff.mp h
    refine lE_step R h.bnd_ fun r1 s1 v H1 k p1 => ?_
    obtain ⟨g1, a1⟩ := p1.wait
    refine lO_step g1.rl ((Mt.bnd_ k).later g1) fun i s2 H2 k2 g2 => ?_
    refine lO_step g2.rl ((Mt.bnd_ k2).later (g1.trans g2)) fun j s3 H3 k3 g3 => ?_
    have a3 := (a1.go g2).go g3
    cases e1 : rv s3 r1 with
    | none => simp only [e1] at k3; exact k3.elim
    | some p =>
      simp only [e1, fin] at k3
      cases e3 : opSl p i j with
      | none => rw [e3] at k3; exact k3.elim
      | some q =>
        obtain ⟨q, fr⟩ := q
        rw [e3] at k3
        exact sl_post hid_sub (a3.repB g3.rl e1) e3 fun v H' z => k3 v H' ((z.postE g3.rl).after ((g1.trans g2).trans g3))
end
end HF
end

section
set_option Elab.async false
set_option linter.all false
set_option maxRecDepth 100000
set_option maxHeartbeats 1000000
set_option autoImplicit false
/-! HFG: displays of dicts. -/
namespace HF
open PySem PySem.Spec PyProof.Rows L2
def dispL : List (PM Arg) → PM (List PV)
  | [] => ret []
  | f :: fs => bnd f fun a => bnd (rel1 a) fun p => bnd (dispL fs) fun ps => ret (p :: ps)
def dispD (ks : List Key) (ps : List PV) : List (PV × PV) := (ks.zip ps).foldl (fun acc e => dPut acc (kPV e.1) e.2) []
def eDisp (ks : List Key) (fs : List (PM Arg)) : PM Arg := fun s => match dispL fs s with
  | .ok ps s' => .ok (.val (.dct 0 (dispD ks ps)) true) s'
  | _ => .stuck
def trD (X : Cx) (W : WX) : List Key → List (PM Arg) → List (TE × TE)
  | k :: ks, f :: fs => (tC (kV k), lE (kx X) X.mg W f) :: trD X W ks fs
  | _, _ => []
/-- the pairs of a display -/
structure QD (X : Cx) (W : WX) (pos : Pos) (keys : List (Option Expr)) (values : List Expr) (ks : List Key) (fs : List (PM Arg)) : Prop where
  pps : PPs X pos keys values (trD X W ks fs)
  len : ks.length = fs.length
section
variable {X : Cx} {W : WX} {pos : Pos}
theorem qd_nil : QD X W pos [] [] [] [] := ⟨pps_nil, rfl⟩
theorem qd_cons {k v : Expr} {keys : List (Option Expr)} {values : List Expr} {x : Key} {f : PM Arg} {ks : List Key} {fs : List (PM Arg)} (hk : PE X k (tC (kV x))) (hv : QE X W v f) (hr : QD X W pos keys values ks fs) : QD X W pos (some k :: keys) (v :: values) (x :: ks) (f :: fs) :=
  ⟨pps_cons hk hv.pe hr.pps, by simp [hr.len]⟩
theorem disp_m {Z : Addr → Prop} : ∀ (ks : List Key) (fs : List (PM Arg)) (s : SE) (σ : L2.St) (H : Hp) (Q : List (V × V) → Hp → Prop), ks.length = fs.length → Rl (kx X) Z H σ s →
    Mt (dispL fs s) (fun ps s' => ∀ vs H', Go (kx X) Z Z H σ s s' H' → Reps (kx X) (Hd Z σ s' H') vs ps → vs.length = ks.length → Q ((ks.map kV).zip vs) H') (fun _ _ => False) → tPairs (trD X W ks fs) σ H Q
  | [], [], s, σ, H, Q, _, R, h => h [] H (Go.refl R) .nil rfl
  | [], _ :: _, _, _, _, _, e, _, _ => by cases e
  | _ :: _, [], _, _, _, _, e, _, _ => by cases e
  | k :: ks, f :: fs, s, σ, H, Q, e, R, h => by
    refine lE_step R (Mt.noex (Mt.bnd_ h)) fun r s1 v H1 q p => ?_
    obtain ⟨x, s2, q, g, rp⟩ := rel1_step (mg := X.mg) p (Mt.bnd_ q)
    refine disp_m ks fs s2 σ H1 _ (Nat.succ.inj e) g.rl (Mt.imp (Mt.bnd_ q) fun ps s3 q2 vs H3 g3 rs el => ?_)
    exact q2 (v :: vs) H3 (g.trans g3) (.cons (rp.ext g3.vis) rs) (by simp [el])
/-- entry by entry -/
theorem disp_put {K : Frg} {Hv : Hp} : ∀ (ks : List Key) (vs : List V) (ps : List PV) (kvs : List (Key × V)) (pv : List (PV × PV)), RepD K Hv (lK kvs) pv → Reps K Hv vs ps →
    RepD K Hv (lK (mergeK kvs (ks.zip vs))) ((ks.zip ps).foldl (fun acc e => dPut acc (kPV e.1) e.2) pv)
  | [], _, _, _, _, r, _ => r
  | k :: ks, _, _, kvs, pv, r, .nil => r
  | k :: ks, _, _, kvs, pv, r, .cons a b => disp_put ks _ _ _ _ (rd0_put r k a) b
theorem zip_kV : ∀ (ks : List Key) (vs : List V), (ks.map kV).zip vs = (ks.zip vs).map fun kv => (kV kv.1, kv.2)
  | [], _ => rfl
  | _ :: _, [] => rfl
  | k :: ks, v :: vs => by simp only [List.map_cons, List.zip_cons_cons, zip_kV ks vs]
theorem qe_disp {keys : List (Option Expr)} {values : List Expr} {ks : List Key} {fs : List (PM Arg)} (h : QD X W pos keys values ks fs) (hall : keys.all (·.isSome) = true) (hl : keys.length = values.length) (h0 : keys ≠ []) (h15 : keys.length ≤ 15) (hk : ks.length ≤ 15) :
    QE X W (.Dict keys values pos) (eDisp ks fs) := qe_of (pe_disp h.pps hall hl h0 h15) fun σ H Q q => by
  obtain ⟨Z, s, R, q⟩ := lE_iff.mp q
  intro p hp
  have q' : Mt (dispL fs s) (fun ps s' => ∀ v H', PostE (kx X) Z H σ s (.val (.dct 0 (dispD ks ps)) true) s' v H' → Q v H') (fun _ _ => False) := by
    unfold eDisp at q
    cases e : dispL fs s with
    | ok ps s' => rw [e] at q; exact q
    | exc c s' => rw [e] at q; exact q.elim
    | stuck => rw [e] at q; exact q.elim
  have R1 : Rl (kx X) (fun b => Z b ∨ b = p) (upd H p (.dK [])) σ s := R.hold hp (ext_upd hp) (by rw [upd_same]; nofun)
  refine disp_m ks fs s σ (upd H p (.dK [])) _ h.len R1 (Mt.imp q' fun ps s' k vs H' g rs el => ?_)
  have hpo : ∀ b, Owns σ s b → b ≠ p := fun b z e => by subst e; exact R.ownIn z hp
  have hk' : H' p = some (.dK []) := g.fr p _ upd_same fun z => (hpo p z rfl).elim
  refine ⟨hk', ks.zip vs, zip_kV ks vs, by rw [List.length_zip]; omega, k _ _ ?_⟩
  have hp' : ¬ Owns σ s' p := fun z => (hpo p (g.ow p z)) rfl
  -- what is visible behind the store
  have R2 : Rl (kx X) (fun b => Z b ∨ b = p) (upd H' p (.dK (mergeK [] (ks.zip vs)))) σ s' := g.rl.zwrite (.inr rfl)
  have hv : Hd (fun b => Z b ∨ b = p) σ s' (upd H' p (.dK (mergeK [] (ks.zip vs)))) = Hd (fun b => Z b ∨ b = p) σ s' H' := hd_z (.inr rfl)
  refine ⟨p, rfl, hp, ⟨R2, fun b o e n => ?_, g.ow, fun b h => ?_, g.kp⟩, ⟨_, ⟨_, upd_same, rfl⟩, ?_⟩, hp', fun z => R.zin p z hp⟩
  · by_cases eb : b = p
    · subst eb; rw [hp] at e; cases e
    · rw [upd_ne eb]
      exact g.fr b o (by rw [upd_ne eb]; exact e) n
  · by_cases eb : b = p
    · subst eb; rw [upd_same]; nofun
    · rw [upd_ne eb]
      exact g.tr b (by rw [upd_ne eb]; exact h)
  · have z := disp_put (K := kx X) (Hv := Hd (fun b => Z b ∨ b = p) σ s' H') ks vs ps [] [] .nil rs
    rw [hv]
    exact z
end
end HF
end

section
set_option Elab.async false
set_option linter.all false
set_option maxRecDepth 100000
set_option maxHeartbeats 1000000
set_option autoImplicit false
/-! HFL: the law's own def: statements that hand lambdas on; tables of code objects change on the way. -/
namespace HF
open PySem PySem.Spec PyProof.Rows L2 LamX

/-! ### tables are no owned things -/
theorem codeO_sat (c : Addr) (q : Str) : ∃ h : Heap, ∃ (oc : Obj) (vs : Array Value) (t : Tok), h.get? c = some oc ∧ oc.data = .fields vs ∧ vs[1]? = some (.str q t) :=
  ⟨⟨Array.replicate (c + 1) { cls := .none, data := .fields #[.none, .str q 0] }, {}⟩, { cls := .none, data := .fields #[.none, .str q 0] }, #[.none, .str q 0], 0, by simp [Heap.get?, Array.getElem?_replicate], rfl, rfl⟩
theorem dno_code {P : Program} {w : World} {a : Addr} {xs : XN} {q : Str} : DNo P w a xs ≠ CodeO a q := fun e => by
  unfold DNo CodeO at e
  injection e with e
  obtain ⟨h, hc⟩ := codeO_sat a q
  have z := congrFun e h
  have hc' := hc
  obtain ⟨oc, vs, t, h1, h2, _⟩ := hc'
  rw [← z] at hc
  obtain ⟨_, _, ys, _, o, es, ep, ho, _, hd, _⟩ := hc
  rw [ho] at h1; cases h1
  rw [hd] at h2; cases h2
theorem nt_lst {xs : List V} : (∀ ps, HO.lst xs ≠ .tbl ps) ∧ ∀ a q, HO.lst xs ≠ CodeO a q := ⟨fun ps z => (by cases z), fun a q z => (by unfold CodeO at z; cases z)⟩
theorem nt_dK {xs : List (Key × V)} : (∀ ps, HO.dK xs ≠ .tbl ps) ∧ ∀ a q, HO.dK xs ≠ CodeO a q := ⟨fun ps z => (by cases z), fun a q z => (by unfold CodeO at z; cases z)⟩
theorem nt_dN {P : Program} {w : World} {a : Addr} {xs : XN} : ∀ ps, DNo P w a xs ≠ .tbl ps := fun ps z => (by unfold DNo at z; cases z)
theorem ob_nc {K : Frg} {H Hv : Hp} {a : Addr} {p : PV} (h : Ob K H Hv a p) : ∃ o, H a = some o ∧ NT o ∧ ∀ q, o ≠ CodeO a q := by
  cases p with
  | lst ps => obtain ⟨vs, e, _⟩ := h; exact ⟨_, e, nt_lst.1, fun q => nt_lst.2 a q⟩
  | dct k kvs =>
    obtain ⟨l, e, _⟩ := h
    match k, e with
    | 0, ⟨kvs, e, _⟩ => exact ⟨_, e, nt_dK.1, fun q => nt_dK.2 a q⟩
    | 1, ⟨xs, e, _⟩ => exact ⟨_, e, nt_dN, fun q z => dno_code z⟩
  | _ => exact h.elim
section
variable {K : Frg} {Z : Addr → Prop} {H H1 : Hp} {σ : L2.St} {s : SE}
theorem hd_extN (e : ExtN H H1) : Ext (noT (Hd Z σ s H)) (Hd Z σ s H1) := fun a o h => by
  obtain ⟨h1, n⟩ := noT_some.mp h
  obtain ⟨h2, h3⟩ := hid_some.mp h1
  exact hid_some.mpr ⟨h2, e a o h3 n⟩
theorem Rl.extN (R : Rl K Z H σ s) (e : ExtN H H1) (t : ∀ a, Z a → H1 a ≠ none) : Rl K Z H1 σ s where
  len := R.len
  zin := t
  sh := fun i p h => by
    obtain ⟨v, e1, r⟩ := R.sh i p h
    exact ⟨v, e1, r.noT.ext (hd_extN e)⟩
  ow := fun i p h => by
    obtain ⟨a, e1, n, ob⟩ := R.ow i p h
    obtain ⟨o, ho, nt, _⟩ := ob_nc ob
    refine ⟨a, e1, n, ?_⟩
    have ob' : Ob K H (HF.noT (Hd Z σ s H)) a p := by
      cases p with
      | lst ps => obtain ⟨vs, e, r⟩ := ob; exact ⟨vs, e, r.noT⟩
      | dct k kvs => obtain ⟨l, e, r⟩ := ob; exact ⟨l, e, r.noT⟩
      | _ => exact ob.elim
    exact ob'.ext (by rw [ho]; exact e a o ho nt) (hd_extN e)
  dj := R.dj
end

/-! ### the law's own steps -/
def Tb (T : List (Addr × Str)) (Z : Addr → Prop) (H : Hp) : Prop := Tabs T H ∧ ∀ a, ¬ Z a
section
variable {T : List (Addr × Str)} {K : Frg} {Z Z' : Addr → Prop} {H H' H1 H2 : Hp} {σ σ' σ1 σ2 : L2.St} {s s1 s2 s' : SE} {pin : List Nat}
structure GL (T : List (Addr × Str)) (K : Frg) (Z : Addr → Prop) (H : Hp) (σ : L2.St) (s : SE) (H' : Hp) (σ' : L2.St) (s' : SE) : Prop where
  rl : Rl K Z H' σ' s'
  tb : Tb T Z H'
  vd : Ext (noT (Hd Z σ s H)) (noT (Hd Z σ' s' H'))
  vq : Ext (noT (Hq σ s H)) (noT (Hq σ' s' H'))
theorem GL.refl (R : Rl K Z H σ s) (t : Tb T Z H) : GL T K Z H σ s H σ s := ⟨R, t, Ext.refl, Ext.refl⟩
theorem GL.trans (a : GL T K Z H σ s H1 σ1 s1) (b : GL T K Z H1 σ1 s1 H2 σ2 s2) : GL T K Z H σ s H2 σ2 s2 := ⟨b.rl, b.tb, a.vd.trans b.vd, a.vq.trans b.vq⟩
theorem tabs_fr (R : Rl K Z H σ s) (t : Tb T Z H) (fr : ∀ a o, H a = some o → ¬ Owns σ s a → H' a = some o) : Tb T Z H' := ⟨fun p hp => by
  obtain ⟨ps, h1, h2, h3⟩ := t.1 p hp
  have no : ∀ a o, H a = some o → ((∃ ps, o = .tbl ps) ∨ ∃ q, o = CodeO a q) → ¬ Owns σ s a := fun a o e h z => by
    obtain ⟨i, p', e1, e2⟩ := z
    obtain ⟨b, e3, _, ob⟩ := R.ow i p' e1
    rw [e2] at e3; cases e3
    obtain ⟨o', e4, n1, n2⟩ := ob_nc ob
    rw [e] at e4; cases e4
    rcases h with ⟨ps, h⟩ | ⟨q, h⟩
    · exact n1 ps h
    · exact n2 q h
  refine ⟨ps, fr _ _ h1 (no _ _ h1 (.inl ⟨ps, rfl⟩)), h2, fun pos cv hc => ?_⟩
  obtain ⟨c, e1, e2⟩ := h3 pos cv hc
  exact ⟨c, e1, fr _ _ e2 (no _ _ e2 (.inr ⟨_, rfl⟩))⟩, t.2⟩
theorem GoS.gl (g : GoS K pin Z Z H σ s H' σ' s') (R : Rl K Z H σ s) (t : Tb T Z H) : GL T K Z H σ s H' σ' s' := ⟨g.rl, tabs_fr R t g.fr, noT_mono g.vis, noT_mono g.visQ⟩
theorem Go.gl (g : Go K Z Z H σ s s' H') (R : Rl K Z H σ s) (t : Tb T Z H) : GL T K Z H σ s H' σ s' := GoS.gl (pin := []) g.st R t
/-- a result, told when it is a bool -/
def RV (v : V) (r : Arg) : Prop := ∀ b, r = .val (.bl b) false → v = .bl b
theorem PostR.gl {r : Arg} {v : V} (p : PostR K pin Z H σ s r s' v H' σ') (R : Rl K Z H σ s) (t : Tb T Z H) : GL T K Z H σ s H' σ' s' ∧ RV v r := by
  match r, p with
  | .val _ false, p => exact ⟨GoS.gl p.1 R t, fun b e => by cases e; have := p.2; cases this; rfl⟩
  | .val _ true, ⟨a, e, hn, g, _⟩ =>
    have g' : GoS K pin Z Z H σ s H' σ' s' := ⟨g.rl.weak fun _ z => .inl z, g.fr, g.ow, g.tr, g.pn, g.ln, g.kp⟩
    exact ⟨g'.gl R t, fun b e => by cases e⟩
  | .bor i, p => exact ⟨GoS.gl p.1 R t, fun b e => by cases e⟩
def lFL (T : List (Addr × Str)) (K : Frg) (Z : Addr → Prop) (H : Hp) (σ : L2.St) (s : SE) (D : Ends) (f : Fl) (s' : SE) : Prop :=
  match f with
  | .next => ∀ σ' H', GL T K Z H σ s H' σ' s' → D.nx σ' H'
  | .brk => ∀ σ' H', GL T K Z H σ s H' σ' s' → D.bk σ' H'
  | .cont => ∀ σ' H', GL T K Z H σ s H' σ' s' → D.ct σ' H'
  | .ret r => ∀ v σ' H', GL T K Z H σ s H' σ' s' → RV v r → D.rt v H'
def lSL (T : List (Addr × Str)) (K : Frg) (F : PM Fl) : TS := fun D σ H => ∃ (Z : Addr → Prop) (s : SE), Rl K Z H σ s ∧ Tb T Z H ∧ Mt (F s) (lFL T K Z H σ s D) (fun _ _ => False)
def lTL (T : List (Addr × Str)) (K : Frg) (f : PM Bool) : TT := fun σ H Q => ∃ (Z : Addr → Prop) (s : SE), Rl K Z H σ s ∧ Tb T Z H ∧ Mt (f s) (fun b s' => ∀ H', GL T K Z H σ s H' σ s' → Q b H') (fun _ _ => False)
def lBL (T : List (Addr × Str)) (K : Frg) (f : PM Bool) : TE := fun σ H Q => ∃ (Z : Addr → Prop) (s : SE), Rl K Z H σ s ∧ Tb T Z H ∧ Mt (f s) (fun b s' => ∀ H', GL T K Z H σ s H' σ s' → Q (.bl b) H') (fun _ _ => False)
theorem lFL.after {D : Ends} {f : Fl} (h : lFL T K Z H σ s D f s2) (g : GL T K Z H σ s H1 σ1 s1) : lFL T K Z H1 σ1 s1 D f s2 := by
  cases f with
  | next => exact fun σ' H' p => h σ' H' (g.trans p)
  | brk => exact fun σ' H' p => h σ' H' (g.trans p)
  | cont => exact fun σ' H' p => h σ' H' (g.trans p)
  | ret r => exact fun v σ' H' p => h v σ' H' (g.trans p)
theorem MtL.after {D : Ends} {r : Rs Fl} (h : Mt r (lFL T K Z H σ s D) (fun _ _ => False)) (g : GL T K Z H σ s H1 σ1 s1) : Mt r (lFL T K Z H1 σ1 s1 D) (fun _ _ => False) := by
  cases r with
  | ok a s => exact lFL.after h g
  | exc c s => exact h
  | stuck => exact h
theorem lTL_step {f : PM Bool} {Q : Bool → Hp → Prop} {ok : Bool → SE → Prop} (R : Rl K Z H σ s) (t : Tb T Z H) (h : Mt (f s) ok (fun _ _ => False)) (k : ∀ b s1 H1, ok b s1 → GL T K Z H σ s H1 σ s1 → Q b H1) : lTL T K f σ H Q :=
  ⟨Z, s, R, t, Mt.imp h fun b s1 q H1 g => k b s1 H1 q g⟩
theorem lBL_step {f : PM Bool} {Q : VK} {ok : Bool → SE → Prop} (R : Rl K Z H σ s) (t : Tb T Z H) (h : Mt (f s) ok (fun _ _ => False)) (k : ∀ b s1 H1, ok b s1 → GL T K Z H σ s H1 σ s1 → Q (.bl b) H1) : lBL T K f σ H Q :=
  ⟨Z, s, R, t, Mt.imp h fun b s1 q H1 g => k b s1 H1 q g⟩
end
structure LS (X : Cx) (T : List (Addr × Str)) (st : Stmt) (F : PM Fl) : Prop where
  ps : PS X st (lSL T (kx X) F)
structure LSs (X : Cx) (T : List (Addr × Str)) (sts : List Stmt) (F : PM Fl) : Prop where
  pss : PSs X sts (lSL T (kx X) F)
structure LT (X : Cx) (T : List (Addr × Str)) (e : Expr) (f : PM Bool) : Prop where
  pt : PT X e (lTL T (kx X) f)
structure LB (X : Cx) (T : List (Addr × Str)) (e : Expr) (f : PM Bool) : Prop where
  pe : PE X e (lBL T (kx X) f)
section
variable {X : Cx} {W : WX} {T : List (Addr × Str)} {st : Stmt} {rest a b : List Stmt} {F G : PM Fl} {e c : Expr} {f : PM Bool} {ct : PM Bool} {pos : Pos}
theorem ls_of (h : QS X W [] st F) : LS X T st F := ⟨ps_mono h.ps fun D σ H ⟨Z, s, R, t, m⟩ => ⟨Z, s, R, by
  cases q : F s with
  | stuck => rw [q] at m; exact m
  | exc c s1 => rw [q] at m; exact m.elim
  | ok fl s1 =>
    rw [q] at m
    cases fl with
    | next => exact fun σ' H' g => m σ' H' (g.gl R t)
    | brk => exact fun σ' H' g => m σ' H' (g.gl R t)
    | cont => exact fun σ' H' g => m σ' H' (g.gl R t)
    | ret r => exact fun v σ' H' p => m v σ' H' (p.gl R t).1 (p.gl R t).2⟩⟩
theorem ls_nil : LSs X T [] sNext := ⟨pss_mono pss_nil fun D σ H ⟨Z, s, R, t, h⟩ => h _ _ (GL.refl R t)⟩
theorem ls_cons (h1 : LS X T st F) (h2 : LSs X T rest G) : LSs X T (st :: rest) (sSeq F G) := ⟨pss_mono (pss_cons h1.ps h2.pss) fun D σ H ⟨Z, s, R, t, h⟩ => by
  refine ⟨Z, s, R, t, ?_⟩
  unfold sSeq at h
  cases q : F s with
  | stuck => rw [q] at h; exact h
  | exc c s1 => rw [q] at h; exact h
  | ok fl s1 =>
    rw [q] at h
    cases fl with
    | next => exact fun σ' H' g => ⟨Z, s1, g.rl, g.tb, MtL.after h g⟩
    | brk => exact h
    | cont => exact h
    | ret r => exact h⟩
theorem ls_one (h1 : LS X T st F) : LSs X T [st] F := ⟨pss_one h1.ps⟩
theorem ls_if (hc : LT X T c ct) (ha : LSs X T a F) (hb : LSs X T b G) : LS X T (.If c a b pos) (sIf ct F G) := ⟨ps_mono (ps_if hc.pt ha.pss hb.pss) fun D σ H ⟨Z, s, R, t, h⟩ => by
  refine lTL_step R t (Mt.bnd_ (ex := fun _ _ => False) h) fun k s1 H1 q g => ?_
  cases k with
  | true => exact ⟨Z, s1, g.rl, g.tb, MtL.after q g⟩
  | false => exact ⟨Z, s1, g.rl, g.tb, MtL.after q g⟩⟩
theorem lt_of (h : QT X W e f) : LT X T e f := ⟨pt_mono h.pt fun σ H Q ⟨Z, s, R, t, m⟩ => ⟨Z, s, R, Mt.noex (m.imp fun b s1 q H1 g => q H1 (g.gl R t))⟩⟩
theorem lt_not (h : LT X T e f) : LT X T (.UnaryOp .Not e pos) (tNotP f) := ⟨pt_mono (pt_not h.pt) fun σ H Q ⟨Z, s, R, t, m⟩ => by
  refine lTL_step R t (Mt.bnd_ (ex := fun _ _ => False) m) fun b s1 H1 k g => k H1 g⟩
theorem lt_val (h : LB X T e f) (he : ∀ whole, isTrue e X.env whole = (do let v ← whole; standAt e.pos; holding [v] (truthy v)) := by intro _; rfl) : LT X T e f := ⟨pt_mono (pt_truth h.pe he) fun σ H Q ⟨Z, s, R, t, m⟩ =>
  ⟨Z, s, R, t, m.imp fun b s1 q H1 g => ⟨b, rfl, q H1 g⟩⟩⟩
def sRetB (f : PM Bool) : PM Fl := bnd f fun b => ret (.ret (.val (.bl b) false))
theorem ls_retB (h : LB X T e f) : LS X T (.Return (some e) pos) (sRetB f) := ⟨ps_mono (ps_ret h.pe) fun D σ H ⟨Z, s, R, t, m⟩ => by
  refine lBL_step R t (Mt.bnd_ (ex := fun _ _ => False) m) fun b s1 H1 k g => k _ σ H1 g fun b' e => ?_
  cases e; rfl⟩
/-- for .. in what is walked -/
theorem ls_for {tg iter : Expr} {body : List Stmt} {I : PM (List PV)} {G : PV → PM Unit} (hp : PassesOwn (model X.prog X.w) X.A X.env X.xe) (hc : X.calm = true) (hi : QI X W tg iter I) (hg : QG X [] tg G) (hb : LSs X T body F) (hs : ∀ x, foldedSetIterable iter X.env x = pure x := by intro _; rfl) :
    LS X T (.For tg iter body [] pos) (sFor I G F) := ⟨ps_mono (ps_for hp hc hi.pi hg.pg hb.pss hs) fun D σ H ⟨Z, s, R, t, h⟩ => by
  refine ⟨Z, s, R, Mt.noex (Mt.imp (Mt.bnd_ (ex := fun _ _ => False) h) fun ps s1 q J H1 Rb g wk rb => ?_)⟩
  refine ⟨fun i m σ' H' => m + i = ps.length ∧ ∃ s : SE, Rl (kx X) Z H' σ' s ∧ Tb T Z H' ∧ Rb (noT (Hq σ' s H')) (noT (Hd Z σ' s H')) ∧ Mt (forL G F (ps.drop i) s) (lFL T (kx X) Z H' σ' s D) (fun _ _ => False), ?_, ?_⟩
  · exact ⟨ps.length, by omega, s1, g.rl, tabs_fr R t g.fr, wk.nt _ _ rb, MtL.after q (g.gl R t)⟩
  · clear q g rb H1 s1 h R t s
    intro i m σ H ⟨em, s, R, t, rb, h⟩
    have sub1 : Ext (noT (Hq σ s H)) H := noT_sub.trans hid_sub
    have sub2 : Ext (noT (Hd Z σ s H)) (noT (Hq σ s H)) := noT_mono hv_hq
    cases e : ps[i]? with
    | none =>
      have hl : ps.length ≤ i := List.getElem?_eq_none_iff.mp e
      rw [List.drop_of_length_le hl] at h
      exact .inl ⟨wk.stop i H _ _ rb sub1 sub2 hl, h σ H (GL.refl R t)⟩
    | some p =>
      obtain ⟨hl, ep⟩ := List.getElem?_eq_some_iff.mp e
      rw [List.drop_eq_getElem_cons hl, ep] at h
      refine .inr ⟨wk.go i p H _ _ rb sub1 sub2 e, fun σ' H' => ∃ s : SE, Rl (kx X) Z H' σ' s ∧ Tb T Z H' ∧ Rb (noT (Hq σ' s H')) (noT (Hd Z σ' s H')) ∧ Mt (forL G F (ps.drop (i + 1)) s) (lFL T (kx X) Z H' σ' s D) (fun _ _ => False),
        fun σ' H' z => ⟨m - 1, by omega, by omega, z⟩, fun x H' hy => ?_⟩
      have hdH : Ext (Hd Z σ s H) H := hid_sub
      obtain ⟨ex, rp⟩ := wk.yld i p H _ _ x H' (wk.mono _ _ _ _ rb noT_sub noT_sub) hid_sub hv_hq e hy
      have g0 : Go (kx X) Z Z H σ s s H' := Go.grown R ex
      rw [grow_hid R.hidIn ex] at rp
      refine ⟨Z, s, p, g0.rl, rp, Mt.imp (Mt.nx (Mt.bnd_ (ex := fun _ _ => False) h)) fun _ s1 q σ1 H1 g1 _ => ⟨Z, s1, g1.rl, ?_⟩⟩
      have G1 := (g0.st (pin := [])).trans g1
      have L1 := G1.gl R t
      refine ⟨L1.tb, ?_⟩
      have rb1 := wk.mono _ _ _ _ rb L1.vq L1.vd
      cases e2 : F s1 with
      | stuck => rw [e2] at q; exact q.elim
      | exc x s2 => rw [e2] at q; exact q.elim
      | ok fl s2 =>
        rw [e2] at q
        cases fl with
        | next => exact fun σ' H' gs => ⟨s2, gs.rl, gs.tb, wk.mono _ _ _ _ rb1 gs.vq gs.vd, MtL.after q (L1.trans gs)⟩
        | cont => exact fun σ' H' gs => ⟨s2, gs.rl, gs.tb, wk.mono _ _ _ _ rb1 gs.vq gs.vd, MtL.after q (L1.trans gs)⟩
        | brk => exact fun σ' H' gs => q σ' H' (L1.trans gs)
        | ret r => exact fun v σ' H' gs => q v σ' H' (L1.trans gs)⟩
end

/-! ### x(lambda: ..) with def x(call): try: call() except E: return True; return False -/
def TTref (K : PySem.W.Frag) (CS : Addr) : (XK → Hp → VK → Prop) → Hp → VK → Prop := fun tl H Q => tl (fun cls _ H' => PySem.W.exmOne K cls (.ref CS) = some true ∧ Q (.bl true) H') H (fun _ H' => Q (.bl false) H')
section
variable {X : Cx}
theorem ref_gives {Ng : List Str} {x a e q : Str} {sg : Scope} {g CS : Addr} {cdg : Value} {j j2 : Nat} {p1 p2 p3 p4 p5 p6 p7 p8 p9 p10 : Pos} (hge : sg.names.lookup e = some .globalImplicit) (hme : X.mg e = some (.ref CS)) (hde : (e == ("__debug__" : Str)) = false) (h0 : ∀ f : Addr, (L2.start Ng [V.ref f])[0]? = some (some (V.ref f))) :
    GivesTo X Ng x sg g cdg [.Try [.Expr (.Call (.Name a p1) [] [] p2) p3] [.ExceptHandler (some (.Name e p4)) none [.Return (some (.Constant (.bool true) j p5)) p6] p7] [] [] p8, .Return (some (.Constant (.bool false) j2 p9)) p10] a q (TTref X.K CS) := by
  intro f c' s H Q tl act hc h
  have hgl : Gl (cxOf C8.CX0 X.prog X.w X.K X.mg X.base Ng x sg g cdg X.A X.stack s H C8.E0).nox e := hge
  refine ⟨_, pss_cons (ps_try_only (X := (cxOf C8.CX0 X.prog X.w X.K X.mg X.base Ng x sg g cdg X.A X.stack s H C8.E0).nox) (c := .ref CS)
      (tb := fun W D σ H => ∃ Ech : XK, (∀ cls d σ' H', Ech cls d H' → W cls d σ' H') ∧ σ[0]? = some (some (.ref f)) ∧ H c' = some (CodeO c' q) ∧ tl Ech H (fun _ H' => D.nx σ H'))
      rfl rfl ⟨hgl, hde, .inl hme⟩ LamX.takes0 (fun W pn xe tk _ => ?_) (fun a oe cls d pn _ _ => pss_one (ps_ret pe_bl))) (pss_one (ps_ret pe_bl)), ?_⟩
  · refine ⟨fun pins s' σ H' D I h' => ?_⟩
    obtain ⟨Ech, hW, h1, h2, h3⟩ := h'
    have hp := act W pn xe Ech p1 p2 tk hW
    have hq := pss_one (ps_expr (pos := p3) hp (by rfl))
    exact hq.run pins s' σ H' D I ⟨h1, h2, h3⟩
  · exact ⟨fun cls _ H' => PySem.W.exmOne X.K cls (.ref CS) = some true ∧ Q (.bl true) H', fun cls d σ' H' ⟨e1, e2⟩ => ⟨true, e1, fun _ a _ => e2, fun z => by cases z⟩, h0 f, hc, h⟩
end
/-- is refused by an exception that cs takes -/
def tRef (cs : Str → Bool) (f : PM Arg) : PM Bool := fun s => match f s with
  | .ok _ s' => .ok false s'
  | .exc c s' => if cs c then .ok true s' else .stuck
  | .stuck => .stuck
section
variable {X : Cx}
theorem lb_lam {T : List (Addr × Str)} {cs : Str → Bool} {fE : PM Arg} {x a e : Str} {g c P CS : Addr} {k : Nat} {pg : Arguments} {j j2 : Nat} {p1 p2 p3 p4 p5 p6 p7 p8 p9 p10 : Pos} {sg : Scope} {dV kV doc pm cdv ct oc : Value} {an od : Option Addr} {osl : Array (Option Value)} {Ng : List Str}
    {params : Arguments} {body : Expr} {scope : Scope} {p lpos pos : Pos} (hg : Gl X x) (hm : X.mg x = some (.ref g)) (hk : PySem.W.keepIn X.K (.ref g) = true)
    (lk : X.K.lookup g = some ⟨oc, od, .func (PySem.W.fnOf x x pg [.Try [.Expr (.Call (.Name a p1) [] [] p2) p3] [.ExceptHandler (some (.Name e p4)) none [.Return (some (.Constant (.bool true) j p5)) p6] p7] [] [] p8, .Return (some (.Constant (.bool false) j2 p9)) p10] sg dV kV doc pm an cdv ct), osl⟩)
    (hcg : PySem.W.codeIn X.K cdv x = true) (hb : L2.Binds X.K (PySem.W.fnOf x x pg [.Try [.Expr (.Call (.Name a p1) [] [] p2) p3] [.ExceptHandler (some (.Name e p4)) none [.Return (some (.Constant (.bool true) j p5)) p6] p7] [] [] p8, .Return (some (.Constant (.bool false) j2 p9)) p10] sg dV kV doc pm an cdv ct) [a] [])
    (Sg : FnScope Ng [a] sg) (hNg : Ng[0]? = some a) (hva : Vis sg a) (hge : sg.names.lookup e = some .globalImplicit) (hme : X.mg e = some (.ref CS)) (hde : (e == ("__debug__" : Str)) = false) (h0 : ∀ f : Addr, (L2.start Ng [V.ref f])[0]? = some (some (V.ref f)))
    (TB : TabB X.base X.mg c P) (hcode : X.env.code = .ref c) (hmT : (P, X.env.qual ++ "<lambda>") ∈ T) (hu : ∀ p ∈ T, p.1 = P → p.2 = X.env.qual ++ "<lambda>") (hr : Room (k + 2) X.A) (L : LamS X.env.scope scope) (hdef : defaultsOf params X.env = ([], []))
    (hbind : ∀ (q : Str) (cl : List (Str × Addr)) (pm cv ctv : Value), bindArgs (PySem.W.kla_fn "<lambda>" q params body scope cl pm cv ctv) ⟨[], []⟩ = pure [])
    (hcs : ∀ (n : Str) (C : Addr), cs n = true → X.mg n = some (.ref C) → PySem.W.exmOne X.K (.ref C) (.ref CS) = some true)
    (hbody : ∀ (A : Around) (outer : List Env) (s : Shared) (H : Hp) (E : XK) (f c' : Addr), Room k (A.deeper (lamEnv X scope s.heap.objs.size f c')) → QE (lamCx X A outer s H E scope f c') (WE0 E) body fE)
    (hdb : (x == ("__debug__" : Str)) = false := by decide) (hd : (a == ("__debug__" : Str)) = false := by decide) (hcd : (a == ("__classdict__" : Str)) = false := by decide) :
    LB X T (.Call (.Name x p) [.Lambda params body scope lpos] [] pos) (tRef cs fE) :=
  ⟨pe_mono (pe_lamcall hg hm hk lk hcg hb Sg hNg hva (ref_gives hge hme hde h0) TB hcode hmT hu hr L hdef hbind (t := fun E => lE (kx X) X.mg (WE0 E) fE) (fun A outer s H E f c' hr' => (hbody A outer s H E f c' hr').pe) hdb hd hcd) fun σ H Q ⟨Z, s, R, t, m⟩ => by
    refine ⟨t.1, fun H1 eN t1 => ?_⟩
    have R1 : Rl (kx X) Z H1 σ s := R.extN eN fun a z => absurd z (t.2 a)
    have t1 : Tb T Z H1 := ⟨t1, t.2⟩
    unfold tRef at m
    refine lE_iff.mpr ⟨Z, s, R1, ?_⟩
    have gl1 : ∀ H' s', Go (kx X) Z Z H1 σ s s' H' → GL T (kx X) Z H σ s H' σ s' := fun H' s' g => by
      have b := g.gl R1 t1
      refine ⟨b.rl, b.tb, Ext.trans (fun a o h => noT_some.mpr ⟨hd_extN eN a o h, (noT_some.mp h).2⟩) b.vd, Ext.trans (fun a o h => ?_) b.vq⟩
      obtain ⟨h1, n⟩ := noT_some.mp h
      obtain ⟨h2, h3⟩ := hid_some.mp h1
      exact noT_some.mpr ⟨hid_some.mpr ⟨h2, eN a o h3 n⟩, n⟩
    cases q : fE s with
    | stuck => rw [q] at m; exact m.elim
    | exc n s1 =>
      simp only [q] at m
      split at m
      · rename_i hn
        intro C H' hC g
        exact ⟨hcs n C hn hC, m H' (gl1 H' s1 g)⟩
      · exact m.elim
    | ok r s1 =>
      simp only [q] at m
      exact fun v H' pe => m H' (gl1 H' s1 pe.go)⟩
end
end HF
end

section
set_option Elab.async false
set_option linter.all false
set_option maxRecDepth 100000
set_option maxHeartbeats 2000000
set_option autoImplicit false
/-! HFH: comprehensions of any shape, clause by clause. -/
namespace HF
open PySem PySem.Spec PyProof.Rows L2

/-! ### a clause's turn, its inner part left open -/
def turnOf (p : Pos) (tg : Expr) (ifs : List Expr) (it : Value) (env : Env) (inner : Sem Fin → Sem Fin) (nxt : Sem Fin) : Sem Fin := do
  standAt p
  match ← pyNext it with
  | none => pure (.done .next)
  | some v =>
    letOwnedTupleGo tg it v
    assign tg env v
    let mut ok := true
    for c in ifs do
      if ok then ok ← isTrue c env (eval c env)
    if ok then inner nxt else nxt
/-- what a comprehension's end is to bring -/
def CompR (Y : Cx) (pins : List (Addr × Obj)) (E : Prop) (P : L2.St → Hp → Prop) (r : Result) (s' : Shared) : Prop := match r with
  | .ok _ => ∃ σ' H', Inv Y pins σ' H' s' ∧ P σ' H'
  | .error _ => E
/-- a comprehension's loop is its turns, in the trees' own way -/
def LoopsAt (prog : Program) (w : World) (e : Expr) (n : Nat) : Prop := ∀ (A : Around) (it acc : Value) (env : Env) (Q : Fin → Shared → Prop) (E : Value → Shared → Prop) (s : Shared),
  wpAny (model prog w) A ((compTurn e n it acc env).onRaise (fun x => do noteFrame x env; theTreesLotGoes x)) Q E s → wpAny (model prog w) (A.under (.compLoop e n it acc env)) ((model prog w).den (.compLoop e n it acc env)) Q E s
/-- one clause's loop: W as in the loops of statements; inner: what is done behind the tests -/
theorem clause_run {X : Cx} {s3 : Shared} {H3 : Hp} {scope : Scope} {ce : Env} {fp0 fp : List Addr} {e tg : Expr} {ifs : List Expr} {n : Nat} {it : Addr} {acc : Value} {J : It} {tn : Nat → Heap → Prop} {p : Pos} {inner : Sem Fin → Sem Fin} {g : TG} {tt : TT} {vs : List Nat} {σ : L2.St} {pins : List (Addr × Obj)} {W : Nat → Nat → Hp → Prop} {P : L2.St → Hp → Prop} {B : (Hp → Prop) → L2.St → Hp → Prop}
    (hlp : LoopsAt X.prog X.w e n) (hc : X.calm = true) (T : Turn X.prog X.w X.K tg J fp it tn) (pg : PG (X.blk s3 H3 scope ce fp0) tg g) (pt : PTs (X.blk s3 H3 scope ce fp0) ifs tt)
    (ht : compTurn e n (.ref it) acc ce = turnOf p tg ifs (.ref it) ce inner (again (.compLoop e n (.ref it) acc ce)))
    (step : ∀ i m H, W i m H → (J.stop i H ∧ P (wipe σ vs) H) ∨ (J.go i H ∧ ∃ Nx : Hp → Prop, (∀ H', Nx H' → ∃ m', m' < m ∧ W (i + 1) m' H') ∧ ∀ x H', J.yld i H x H' → g x (wipe σ vs) H' fun σ2 H2 => wipe σ2 vs = wipe σ vs ∧ tt σ2 H2 fun b H4 =>
      if b = true then B Nx σ2 H4
      else Nx H4))
    (hB : ∀ (Nx : Hp → Prop) (σ2 : L2.St) (H4 : Hp), B Nx σ2 H4 → wipe σ2 vs = wipe σ vs → ∀ (ps : List (Addr × Obj)) (s : Shared), Inv (X.blk s3 H3 scope ce fp0) ps σ2 H4 s → ∀ (k : Sem Fin) (R : Fin → Shared → Prop) (E : Value → Shared → Prop),
      (∀ (σ5 : L2.St) (H5 : Hp) (s' : Shared), Inv (X.blk s3 H3 scope ce fp0) ps σ5 H5 s' → σ5.length = σ2.length → (∀ (j : Nat) v, (wipe σ vs)[j]? = some (some v) → σ5[j]? = some (some v)) → Nx H5 → wpAny (model X.prog X.w) X.A k R E s') → wpAny (model X.prog X.w) X.A (inner k) R E s)
    {m : Nat} {H : Hp} {s : Shared} (I : Inv (X.blk s3 H3 scope ce fp0) pins (wipe σ vs) H s) (st : tn 0 s.heap) (fpo : ∀ b ∈ fp, FpOk (X.blk s3 H3 scope ce fp0) pins H b) (w : W 0 m H) :
    codeAny (model X.prog X.w) X.A (.compLoop e n (.ref it) acc ce) (CompR (X.blk s3 H3 scope ce fp0) pins False P) s := by
  -- the addresses of the iterator stay free for it
  have fpk : ∀ {H' : Hp}, (∀ b ∈ fp, H' b = none) → ∀ b ∈ fp, FpOk (X.blk s3 H3 scope ce fp0) pins H' b := fun {H'} hn b hb => ⟨hn b hb, (fpo b hb).2⟩
  refine codeAny_loop rfl (fun m s' => ∃ i H', Inv (X.blk s3 H3 scope ce fp0) pins (wipe σ vs) H' s' ∧ tn i s'.heap ∧ (∀ b ∈ fp, H' b = none) ∧ W i m H') (fun m s1 ⟨i, H1, I1, st1, n1, w1⟩ => ?_) m ⟨0, H, I, st, fun b hb => (fpo b hb).1, w⟩
  refine hlp X.A _ _ _ _ _ _ (wpAny_noted ?_)
  rw [ht]
  unfold turnOf
  refine wpAny_bind (wpAny_standAt ?_)
  rcases step i m H1 w1 with ⟨stop, q⟩ | ⟨go, Nx, hNx, turn⟩
  · refine wpAny_bind (thnF (T.done (X.blk s3 H3 scope ce fp0) rfl rfl rfl hc i pins s1 _ H1 (fun _ _ => False) I1 (fpk n1) st1 stop) fun r s2 ⟨hr, I2⟩ => ?_)
    subst hr
    exact wpAny_pure ⟨_, _, I2, q⟩
  · refine wpAny_bind (thnF (T.item (X.blk s3 H3 scope ce fp0) rfl rfl rfl hc i pins s1 _ H1 (fun _ _ => False) I1 (fpk n1) st1 go) fun r s2 ⟨u, hr, h2⟩ => ?_)
    subst hr
    refine wpAny_bind (thnF h2 fun _ s3' ⟨x, H4, I4, r4, y4, st4, n4⟩ => ?_)
    have I4' := I4.pinned (fpk n4) (T.obj _ _ st4)
    refine wpAny_bind (thnF (pg.run _ s3' _ H4 x u _ I4' r4 (turn x H4 y4)) fun _ s5 ⟨σ5, H5, I5, hw, q5⟩ => ?_)
    refine wpAny_bind (thnF (pt.run _ s5 σ5 H5 _ I5 q5) fun b s6 ⟨H6, I6, q6⟩ => ?_)
    have hl5 : (wipe σ vs).length = σ5.length := by rw [← hw, wipe_length]
    have hk5 : ∀ (j : Nat) v, (wipe σ vs)[j]? = some (some v) → σ5[j]? = some (some v) := fun j v z => by rw [← hw] at z; exact (wipe_some z).1
    -- the turn's end
    have fin : ∀ {σ' : L2.St} {H' : Hp} {s' : Shared}, Inv (X.blk s3 H3 scope ce fp0) (pins ++ pinsAt fp s3'.heap) σ' H' s' → σ'.length = σ5.length → (∀ (j : Nat) v, (wipe σ vs)[j]? = some (some v) → σ'[j]? = some (some v)) → Nx H' →
        ∃ m', m' < m ∧ ∃ i H', Inv (X.blk s3 H3 scope ce fp0) pins (wipe σ vs) H' s' ∧ tn i s'.heap ∧ (∀ b ∈ fp, H' b = none) ∧ W i m' H' := fun {σ' H' s'} I' el ek nx => by
      obtain ⟨m', hm, w'⟩ := hNx H' nx
      have at_ : ∀ b ∈ fp, ∀ o, s3'.heap.get? b = some o → s'.heap.get? b = some o ∧ H' b = none := fun b hb o e =>
        let z := I'.pin (b, o) (List.mem_append_right _ (List.mem_append_right _ (mem_pinsAt hb e)))
        ⟨z.1, z.2.1⟩
      refine ⟨m', hm, i + 1, H', I'.unpinned.weak (hl5.trans el.symm) ek, T.keep _ _ _ st4 fun b hb o e => (at_ b hb o e).1, fun b hb => ?_, w'⟩
      obtain ⟨o, e, _⟩ := T.obj _ _ st4 b hb
      exact (at_ b hb o e).2
    cases b with
    | false => exact wpAny_pure ⟨rfl, fin I6 rfl hk5 q6⟩
    | true => exact hB Nx σ5 H6 q6 hw _ s6 I6 _ _ _ fun σ7 H7 s7 I7 l7 k7 nx => wpAny_pure ⟨rfl, fin I7 l7 k7 nx⟩

/-! ### a second source -/
/-- behind the tests: a clause more -/
def innerOf (e : Expr) (n : Nat) (it1 : Expr) (acc : Value) (env : Env) (k : Sem Fin) : Sem Fin := do
  let x ← eval it1 env
  standAt it1.pos
  let x ← foldedSetIterable it1 env x
  let _ ← runOwn (.compStart e n (← holding [x] (pyIter x)) acc env) env
  k
/-- its start, once it is known that an iterator is its own -/
def StartsAt (prog : Program) (w : World) (e : Expr) (n : Nat) : Prop := ∀ (A : Around) (it acc : Value) (env : Env) (R : Result → Shared → Prop) (s : Shared), codeAny (model prog w) A (.compLoop e n it acc env) R s →
  wpAny (model prog w) A (pyIter it) (fun it' s' => codeAny (model prog w) A (.compLoop e n it' acc env) R s') (fun _ _ => False) s → codeAny (model prog w) A (.compStart e n it acc env) R s
theorem inner_run {X : Cx} {s3 : Shared} {H3 : Hp} {scope : Scope} {ce : Env} {fp0 : List Addr} {e it1 tg1 : Expr} {n : Nat} {acc : Value} {wi1 : TI} {ps : List (Addr × Obj)} {σ : L2.St} {H : Hp} {s : Shared} {P : L2.St → Hp → Prop}
    (hsA : StartsAt X.prog X.w e n) (hs1 : ∀ x, foldedSetIterable it1 ce x = pure x) (pi : PI (X.blk s3 H3 scope ce fp0) tg1 it1 wi1) (I : Inv (X.blk s3 H3 scope ce fp0) ps σ H s) {RJ : It → Hp → Prop} (h : wi1 σ H RJ)
    (loop : ∀ (it : Addr) (fp : List Addr) (tn : Nat → Heap → Prop) (J : It) (H1 : Hp) (s1 : Shared), Inv (X.blk s3 H3 scope ce fp0) ps σ H1 s1 → Turn X.prog X.w X.K tg1 J fp it tn → tn 0 s1.heap → (∀ b ∈ fp, FpOk (X.blk s3 H3 scope ce fp0) ps H1 b) → RJ J H1 →
      codeAny (model X.prog X.w) X.A (.compLoop e n (.ref it) acc ce) (CompR (X.blk s3 H3 scope ce fp0) ps False P) s1) (k : Sem Fin) (R : Fin → Shared → Prop) (E : Value → Shared → Prop) (hk : ∀ (σ' : L2.St) (H' : Hp) (s' : Shared), Inv (X.blk s3 H3 scope ce fp0) ps σ' H' s' → P σ' H' → wpAny (model X.prog X.w) X.A k R E s') :
    wpAny (model X.prog X.w) X.A (innerOf e n it1 acc ce k) R E s := by
  unfold innerOf
  refine wpAny_bind (thnF (pi.run ps s σ H RJ I h) fun x s1 h1 => ?_)
  refine wpAny_bind (wpAny_standAt (wpAny_bind (wpAny_of_eq (hs1 x) (wpAny_bind (wpAny_holding (thnF h1 fun itv s2 h2 => ?_))))))
  obtain ⟨it, fp, tn, J, H2, e2, I2, T, st2, f2, q⟩ := h2
  subst e2
  have hloop := loop it fp tn J H2 s2 I2 T st2 f2 q
  refine wpAny_bind (wpAny_runOwn ?_)
  rw [Around.mark_none]
  refine codeAny_mono (hsA X.A (.ref it) acc ce _ s2 hloop (T.self X.A 0 s2 _ _ st2 hloop)) fun r s' hr => ?_
  cases r with
  | ok f =>
    obtain ⟨σ', H', I', q'⟩ := hr
    first
      | exact hk σ' H' s' I' q'
      | exact wpAny_bind (wpAny_pure (hk σ' H' s' I' q'))
  | error e => exact hr.elim

/-! ### the whole -/
/-- from outside: the source, the new thing, the block -/
theorem comp_enter {X : Cx} {pins : List (Addr × Obj)} {s : Shared} {σ : L2.St} {H : Hp} {Q : VK} {e tg iter : Expr} {ifs : List Expr} {rest : List Comprehension} {scope : Scope} {own : List (Str × Nat)} {pos : Pos} {wi : TI} {o0 : Addr → HO} {obj : Obj} {newAcc : Sem Value}
    (hN : X.N.Nodup) (hcl : clausesOf e = ⟨tg, iter, ifs, 0⟩ :: rest) (hs : ∀ x, foldedSetIterable iter X.env x = pure x) (I : Inv X pins σ H s) (hi : PI X tg iter wi) (ok : BlkOk X.N X.env.scope scope own)
    (hnew : ∀ (s : Shared) (R : Value → Shared → Prop), R (.ref s.heap.objs.size) { s with heap := s.heap.push obj } → wpAny (model X.prog X.w) X.A newAcc R X.xe s) (hobj : ∀ (H : Hp) (h : Heap), sysModules < h.objs.size → ObjOk X.prog X.w H (h.push obj) h.objs.size (o0 h.objs.size))
    (hsA : StartsAt X.prog X.w e 0) {RJ : It → Hp → Prop} (h : wi σ H RJ)
    (loop : ∀ (s3 : Shared) (H2 : Hp) (C : Addr) (cl : List (Str × Addr)) (D it : Addr) (fp : List Addr) (tn : Nat → Heap → Prop) (J : It) (s4 : Shared), H2 D = none → RJ J H2 → Inv (X.blk s3 (upd H2 D (o0 D)) scope (compEnvC scope cl C X.env) fp) [] (wipe σ (own.map (·.2))) (upd H2 D (o0 D)) s4 →
      Turn X.prog X.w X.K tg J fp it tn → tn 0 s4.heap → (∀ b ∈ fp, FpOk (X.blk s3 (upd H2 D (o0 D)) scope (compEnvC scope cl C X.env) fp) [] (upd H2 D (o0 D)) b) →
      codeAny (model X.prog X.w) X.A (.compLoop e 0 (.ref it) (.ref D) (compEnvC scope cl C X.env)) (CompR (X.blk s3 (upd H2 D (o0 D)) scope (compEnvC scope cl C X.env) fp) [] False fun _ H' => Q (.ref D) H') s4) :
    wpAny (model X.prog X.w) X.A (comprehension e scope X.env pos newAcc false (eval iter X.env) none) (EP X pins σ Q) X.xe s := by
  have has : ∀ y ∈ scope.names, y.2 = .free → ∃ c, X.env.cells.lookup y.1 = some c := fun y hy e => (ok.free y hy e).elim (fun k => I.ok.has _ (.inl k)) fun k => I.ok.has _ (.inr k)
  refine wpAny_comprehension_free (use := none) hcl hs (closure_ok has) ok.kind (fun y hy e => by rw [ok.uniq y hy, e]) (thn (hi.run pins s σ H _ I h) fun xv s1 hx => thn hx fun itv s2 h2 => ?_)
  obtain ⟨it, fp, tn, J, H2, e2, I2, T, st2, f2, q⟩ := h2
  subst e2
  refine hnew s2 _ (newEnv_comp ?_)
  have hD : H2 s2.heap.objs.size = none := I2.hok.fresh (Nat.le_refl _)
  have I3 : Inv X pins σ (upd H2 s2.heap.objs.size (o0 s2.heap.objs.size)) { s2 with heap := s2.heap.push obj } := I2.laid (t' := s2.toks) (fun b o e => Heap.get?_push_of_some _ e) (Nat.le_refl _) (hobj _ s2.heap I2.big)
  have below : ∀ b ∈ fp, b < s2.heap.objs.size := fun b hb => by
    obtain ⟨o, e, _⟩ := T.obj _ _ st2 b hb
    exact Heap.lt_size e
  have f3 : ∀ b ∈ fp, FpOk X pins (upd H2 s2.heap.objs.size (o0 s2.heap.objs.size)) b ∧ b < ({ s2 with heap := s2.heap.push obj } : Shared).heap.objs.size := fun b hb =>
    ⟨⟨by rw [upd_ne (Nat.ne_of_lt (below b hb))]; exact (f2 b hb).1, (f2 b hb).2⟩, by show b < (s2.heap.push obj).objs.size; rw [Heap.size_push]; exact Nat.lt_succ_of_lt (below b hb)⟩
  have I4 := block_start I3 ok hN f3
  show codeAny (model X.prog X.w) X.A (.compStart e 0 (.ref it) (.ref s2.heap.objs.size) (compEnvC scope (cellsFrom (({ s2 with heap := s2.heap.push obj } : Shared).heap.objs.size + 1) scope.names (cloFrom X.env.cells scope.names [])) ({ s2 with heap := s2.heap.push obj } : Shared).heap.objs.size X.env)) (compPost (model X.prog X.w) X.A X.xe none (EP X pins σ Q) (.ref s2.heap.objs.size) ({ s2 with heap := s2.heap.push obj } : Shared).heap.objs.size) { ({ s2 with heap := s2.heap.push obj } : Shared) with heap := pushCells (({ s2 with heap := s2.heap.push obj } : Shared).heap.push { cls := .type "dict", data := .dict #[] }) scope.names }
  generalize hs3 : ({ s2 with heap := s2.heap.push obj } : Shared) = s3 at I3 I4 f3 ⊢
  have h3 : s3.heap = s2.heap.push obj := by rw [← hs3]
  generalize hcl2 : cellsFrom (s3.heap.objs.size + 1) scope.names (cloFrom X.env.cells scope.names []) = cl at I4 ⊢
  generalize hs4 : ({ s3 with heap := pushCells (s3.heap.push { cls := .type "dict", data := .dict #[] }) scope.names } : Shared) = s4 at I4 ⊢
  have st4 : tn 0 s4.heap := T.keep _ _ _ st2 fun b _ o e => by rw [← hs4]; exact pushCells_keeps _ _ _ _ (Heap.get?_push_of_some _ (by rw [h3]; exact Heap.get?_push_of_some _ e))
  have hloop := loop s3 H2 s3.heap.objs.size cl s2.heap.objs.size it fp tn J s4 hD q I4 T st4 fun b hb =>
    ⟨(f3 b hb).1.1, (I4.ok.exf b hb).1, I4.ok.exfs b hb, .inl hb, fun x c e => (I4.ok.exf b hb).2 x c e, fun p hp => absurd (show p ∈ ([] : List (Addr × Obj)) ++ [] from hp) (by simp)⟩
  refine codeAny_mono (hsA X.A (.ref it) (.ref s2.heap.objs.size) (compEnvC scope cl s3.heap.objs.size X.env) _ s4 hloop (T.self X.A 0 s4 _ _ st4 hloop)) fun r s6 hr => ?_
  cases r with
  | error e => exact hr.elim
  | ok f =>
    obtain ⟨σ6, H6, I6, q6⟩ := hr
    have I7 : Inv X pins σ H6 s6 := I3.call' (ch := fp) I6.os I6.base I6.hok I6.bare fun b hb => ⟨(f3 b hb).1.2.2.2.1, (f3 b hb).1.2.1, (f3 b hb).1.2.2.2.2.1, (f3 b hb).1.2.2.2.2.2⟩
    have nC : H6 s3.heap.objs.size = none := I6.free
    obtain ⟨m, hn, _⟩ := I6.loc
    refine ⟨m, hn, fun h'' sb => ?_⟩
    obtain ⟨f0, f1, f2', f3', f4, f5⟩ := I3.fpOk (Nat.le_refl _) nC
    exact ⟨.ref _, H6, I7.turned (t' := s6.toks) (fun b o hb e => (sb.2 b hb).trans e) f0 f1 f3' f4 f5, rfl, q6⟩
end HF
namespace L2
open PySem PySem.Spec PyProof.Rows HF
/-! ### {k: v for .. for ..} -/
/-- a kind of dict: its empty object, its store -/
structure DictK (X : Cx) where
  o0 : Addr → HO
  st : Addr → V → V → Hp → (Hp → Prop) → Prop
  em : ∀ (H : Hp) (h : Heap), sysModules < h.objs.size → ObjOk X.prog X.w H (h.push { cls := .type "dict", data := .dict #[] }) h.objs.size (o0 h.objs.size)
  set : ∀ (s3 : Shared) (H3 : Hp) (scope : Scope) (ce : Env) (fp : List Addr) (pins : List (Addr × Obj)) (s : Shared) (σ : St) (H : Hp) (E : Value → Shared → Prop) (D : Addr) (y z : V) (u r : Value) (Q : Hp → Prop), Inv (X.blk s3 H3 scope ce fp) pins σ H s → RelV y u → RelV z r → st D y z H Q →
    wpAny (model X.prog X.w) X.A (dictSet D u r) (fun _ s' => ∃ H', Inv (X.blk s3 H3 scope ce fp) pins σ H' s' ∧ Q H') E s
section
variable {X : Cx}
/-- behind a clause's store and tests: the next clause's loop, till Nx -/
def bIn (T : DictK X) (D : Addr) (tk tv : TE) (Nx : Hp → Prop) (σ : St) (H : Hp) : Prop := tk σ H fun y H1 => tv σ H1 fun z H2 => T.st D y z H2 Nx
def lpW (J : It) (g : TG) (tt : TT) (vs : List Nat) (B : (Hp → Prop) → St → Hp → Prop) (σ : St) (P : Hp → Prop) (W : Nat → Nat → Hp → Prop) : Prop := ∀ i m H, W i m H → (J.stop i H ∧ P H) ∨ (J.go i H ∧ ∃ Nx : Hp → Prop, (∀ H', Nx H' → ∃ m', m' < m ∧ W (i + 1) m' H') ∧
  ∀ x H', J.yld i H x H' → g x (wipe σ vs) H' fun σ2 H2 => wipe σ2 vs = wipe σ vs ∧ tt σ2 H2 fun b H3 => if b = true then B Nx σ2 H3 else Nx H3)
def rjDc2 (T : DictK X) (g : TG) (tt : TT) (wi1 : TI) (g1 : TG) (tt1 : TT) (tk tv : TE) (vs vs1 : List Nat) (σ : St) (Q : VK) (J : It) (H1 : Hp) : Prop := ∀ D, H1 D = none → ∃ W : Nat → Nat → Hp → Prop, (∃ m, W 0 m (upd H1 D (T.o0 D))) ∧
  lpW J g tt vs (fun Nx σ2 H3 => wi1 σ2 H3 fun J1 H4 => ∃ W1 : Nat → Nat → Hp → Prop, (∃ m, W1 0 m H4) ∧ lpW J1 g1 tt1 vs1 (bIn T D tk tv) σ2 Nx W1) σ (Q (.ref D)) W
def tDc2 (T : DictK X) (wi : TI) (g : TG) (tt : TT) (wi1 : TI) (g1 : TG) (tt1 : TT) (tk tv : TE) (vs vs1 : List Nat) : TE := fun σ H Q => wi σ H (rjDc2 T g tt wi1 g1 tt1 tk tv vs vs1 σ Q)
theorem pe_dc2 {kx vx tg iter tg1 iter1 : Expr} {ifs ifs1 : List Expr} {scope : Scope} {own : List (Str × Nat)} {vs1 : List Nat} {pos : Pos} {wi wi1 : TI} {g g1 : TG} {tt tt1 : TT} {tk tv : TE} (T : DictK X) (hc : X.calm = true) (hN : X.N.Nodup) (hi : PI X tg iter wi) (ok : BlkOk X.N X.env.scope scope own) (hv : ∀ i ∈ vs1, i ∈ own.map (·.2))
    (hg : ∀ (s : Shared) (H : Hp) (C : Addr) (cl : List (Str × Addr)) (fp : List Addr), PG (X.blk s H scope (compEnvC scope cl C X.env) fp) tg g) (ht : ∀ (s : Shared) (H : Hp) (C : Addr) (cl : List (Str × Addr)) (fp : List Addr), PTs (X.blk s H scope (compEnvC scope cl C X.env) fp) ifs tt)
    (hi1 : ∀ (s : Shared) (H : Hp) (C : Addr) (cl : List (Str × Addr)) (fp : List Addr), PI (X.blk s H scope (compEnvC scope cl C X.env) fp) tg1 iter1 wi1)
    (hg1 : ∀ (s : Shared) (H : Hp) (C : Addr) (cl : List (Str × Addr)) (fp : List Addr), PG (X.blk s H scope (compEnvC scope cl C X.env) fp) tg1 g1) (ht1 : ∀ (s : Shared) (H : Hp) (C : Addr) (cl : List (Str × Addr)) (fp : List Addr), PTs (X.blk s H scope (compEnvC scope cl C X.env) fp) ifs1 tt1)
    (hk : ∀ (s : Shared) (H : Hp) (C : Addr) (cl : List (Str × Addr)) (fp : List Addr), PE (X.blk s H scope (compEnvC scope cl C X.env) fp) kx tk)
    (he : ∀ (s : Shared) (H : Hp) (C : Addr) (cl : List (Str × Addr)) (fp : List Addr), PE (X.blk s H scope (compEnvC scope cl C X.env) fp) vx tv) (hs : ∀ x, foldedSetIterable iter X.env x = pure x := by intro _; rfl) (hs1 : ∀ env x, foldedSetIterable iter1 env x = pure x := by intro _ _; rfl) :
    PE X (.DictComp kx vx [⟨tg, iter, ifs, 0⟩, ⟨tg1, iter1, ifs1, 0⟩] scope pos) (tDc2 T wi g tt wi1 g1 tt1 tk tv (own.map (·.2)) vs1) := by
  refine ⟨fun pins s σ H Q I h => ?_⟩
  rw [arm_eval_DictComp]
  have lp : ∀ n, LoopsAt X.prog X.w (.DictComp kx vx [⟨tg, iter, ifs, 0⟩, ⟨tg1, iter1, ifs1, 0⟩] scope pos) n := fun n A it acc env Q E s h => h
  have sa0 : StartsAt X.prog X.w (.DictComp kx vx [⟨tg, iter, ifs, 0⟩, ⟨tg1, iter1, ifs1, 0⟩] scope pos) 0 := fun A it acc env R s h1 h2 => codeAny_compStart_dict h1 (wpAny_mono h2 (fun _ _ z => z) fun _ _ z => z.elim)
  have sa1 : StartsAt X.prog X.w (.DictComp kx vx [⟨tg, iter, ifs, 0⟩, ⟨tg1, iter1, ifs1, 0⟩] scope pos) 1 := fun A it acc env R s h1 h2 => by
    refine codeAny_of_tree ?_
    show wpAny _ _ ((compStart (.DictComp kx vx [⟨tg, iter, ifs, 0⟩, ⟨tg1, iter1, ifs1, 0⟩] scope pos) 1 it acc env).onRaise (fun x => do noteFrame x env; standAt theWindowsPlace)) _ _ s
    refine wpAny_notedAt ?_
    unfold compStart
    refine wpAny_bind (m := ask) (wpAny_askSetting (wpAny_ite ?_))
    have go : ∀ {E : Value → Shared → Prop}, wpAny (model X.prog X.w) A (pyIter it) (fun it' s' => codeAny (model X.prog X.w) A (.compLoop (.DictComp kx vx [⟨tg, iter, ifs, 0⟩, ⟨tg1, iter1, ifs1, 0⟩] scope pos) 1 it' acc env) R s') E s := fun {E} => wpAny_mono h2 (fun _ _ z => z) fun _ _ z => z.elim
    split
    · first
        | exact wpAny_pure ⟨rfl, h1⟩
        | exact wpAny_bind (wpAny_pure (wpAny_pure ⟨rfl, h1⟩))
    · first
        | exact wpAny_bind (wpAny_rule (wpAny_bind (wpAny_standAt (wpAny_bind (wpAny_mono go (fun it' s' z => wpAny_pure ⟨rfl, z⟩) fun _ _ x => x)))))
        | (refine wpAny_bind (wpAny_rule ?_)
           show wpAny _ _ (standAt iter1.pos >>= _) _ _ s
           exact wpAny_bind (wpAny_standAt (wpAny_bind (wpAny_mono go (fun it' s' z => wpAny_pure ⟨rfl, z⟩) fun _ _ x => x))))
  refine comp_enter (own := own) (RJ := rjDc2 T g tt wi1 g1 tt1 tk tv (own.map fun p : Str × Nat => p.2) vs1 σ Q) (obj := { cls := .type "dict", data := .dict #[] }) (o0 := T.o0) hN rfl hs I hi ok (fun s R r => by refine wpAny_newObj_type r) T.em sa0 h fun s3 H2 C cl D it fp tn J s4 hD rj I4 Tn st4 f4 => ?_
  obtain ⟨W, ⟨m0, w0⟩, turn⟩ := rj D hD
  refine clause_run (n := 0) (p := iter.pos) (J := J) (g := g) (tt := tt) (vs := own.map (·.2)) (σ := σ) (W := W) (P := fun _ H' => Q (.ref D) H') (B := fun Nx σ2 H3 => wi1 σ2 H3 fun J1 H4 => ∃ W1 : Nat → Nat → Hp → Prop, (∃ m, W1 0 m H4) ∧ lpW J1 g1 tt1 vs1 (bIn T D tk tv) σ2 Nx W1) (inner := innerOf (.DictComp kx vx [⟨tg, iter, ifs, 0⟩, ⟨tg1, iter1, ifs1, 0⟩] scope pos) 1 iter1 (.ref D) (compEnvC scope cl C X.env)) (lp 0) hc Tn (hg _ _ C cl fp) (ht _ _ C cl fp) (by rfl) (fun i m H w => turn i m H w) (fun Nx σ2 H3 b hw ps s5 I5 k R E hk' => ?_) I4 st4 f4 w0
  -- the second clause
  have hl2 : σ2.length = σ.length := by have := congrArg List.length hw; rwa [wipe_length, wipe_length] at this
  refine inner_run (P := fun σ5 H5 => σ5 = wipe σ2 vs1 ∧ Nx H5) sa1 (hs1 _) (hi1 _ _ C cl fp) I5 b (fun it1 fp1 tn1 J1 H6 s6 I6 Tn1 st6 f6 rj1 => ?_) k R E fun σ7 H7 s7 I7 ⟨e7, nx⟩ => hk' σ7 H7 s7 I7 (by rw [e7, wipe_length]) (fun j v hj => ?_) nx
  · obtain ⟨W1, ⟨m1, w1⟩, turn1⟩ := rj1
    refine clause_run (n := 1) (p := iter1.pos) (J := J1) (g := g1) (tt := tt1) (vs := vs1) (σ := σ2) (W := W1) (P := fun σ5 H5 => σ5 = wipe σ2 vs1 ∧ Nx H5) (B := bIn T D tk tv) (inner := fun k => (do
      let kv ← eval kx (compEnvC scope cl C X.env)
      let vv ← holding [kv] (eval vx (compEnvC scope cl C X.env))
      standAt { kx.pos with endLine := vx.pos.endLine, endCol := vx.pos.endCol }
      holding [kv, vv] (dictSet D kv vv)) >>= fun _ => k) (lp 1) hc Tn1 (hg1 _ _ C cl fp) (ht1 _ _ C cl fp) (by rfl) (fun i m H w => (turn1 i m H w).imp (fun z => ⟨z.1, rfl, z.2⟩) id) (fun Nx1 σ3 H8 b1 hw1 ps1 s8 I8 k1 R1 E1 hk1 => ?_) (I6.weak (wipe_length _ _) fun j v hj => (wipe_some hj).1) st6 f6 w1
    refine wpAny_bind (wpAny_bind (thnF ((hk _ _ C cl fp).run _ s8 σ3 H8 _ I8 b1) fun kv s9 ⟨y, H9, I9, r9, q9⟩ => ?_))
    refine wpAny_bind (wpAny_holding (thnF ((he _ _ C cl fp).run _ s9 σ3 H9 _ I9 q9) fun vv s10 ⟨z, H10, I10, r10, q10⟩ => ?_))
    refine wpAny_bind (wpAny_standAt (wpAny_holding (wpAny_mono (T.set _ _ scope (compEnvC scope cl C X.env) fp _ s10 σ3 H10 E1 D y z kv vv Nx1 I10 r9 r10 q10) (fun _ s11 ⟨H11, I11, n11⟩ => hk1 σ3 H11 s11 I11 rfl (fun j v hj => ?_) n11) fun _ _ z => z)))
    rw [← hw1] at hj
    exact (wipe_some hj).1
  · rw [e7]
    rw [← hw] at hj
    obtain ⟨h1, h2⟩ := wipe_some hj
    rw [wipe_out fun z => h2 (hv j z)]
    exact h1
end
end L2
end

section
set_option Elab.async false
set_option linter.all false
set_option maxRecDepth 100000
set_option maxHeartbeats 2000000
set_option autoImplicit false
/-! HFI: {k: v for .. for ..} by values. -/
namespace HF
open PySem PySem.Spec PyProof.Rows L2
def dE (X : Cx) (n : Nat) (p : Addr) : HO := if n = 0 then .dK [] else DNo X.prog X.w p []
def dSt (X : Cx) (n : Nat) : Addr → V → V → Hp → (Hp → Prop) → Prop := fun D y z H Q => ∃ (Hv : Hp) (kvs : List (PV × PV)) (q x p' : PV), Ext Hv H ∧ Ob (kx X) H Hv D (.dct n kvs) ∧ Rep (kx X) Hv y q ∧ Rep (kx X) Hv z x ∧ opSet (.dct n kvs) q x = some p' ∧ ∀ o, Ob (kx X) (upd H D o) Hv D p' → Q (upd H D o)
section
variable {X : Cx}
theorem dset_at {n : Nat} (hu : X.A.units + 64 < cLine) {pins : List (Addr × Obj)} {s : Shared} {σ : L2.St} {H : Hp} {E : Value → Shared → Prop} {D : Addr} {y z : V} {u r : Value} {Q : Hp → Prop} (I : Inv X pins σ H s) (ry : RelV y u) (rz : RelV z r) (h : dSt X n D y z H Q) :
    wpAny (model X.prog X.w) X.A (dictSet D u r) (fun _ s' => ∃ H', Inv X pins σ H' s' ∧ Q H') E s := by
  obtain ⟨Hv, kvs, q, x, p', e, ob, rq, rx, h, k⟩ := h
  match n, ob, h with
  | 0, ⟨l, ⟨kvs', h1, el⟩, rd⟩, h =>
    have h : (if (keyOf q).isSome && decide (kvs.length < sizeLine) then some (PV.dct 0 (dPut kvs q x)) else none) = some p' := by cases q <;> exact h
    subst el
    split at h
    · rename_i hc
      rw [Bool.and_eq_true, decide_eq_true_eq, Option.isSome_iff_exists] at hc
      obtain ⟨⟨key, e0⟩, hl⟩ := hc
      cases h
      have e1 := keyOf_some e0
      subst e1
      have ei : y = kV key := by
        cases key with
        | inl z => cases rq; rfl
        | inr z => cases rq; rfl
      subst ei
      have hl' : kvs'.length < sizeLine := by have := repD_len rd; rw [List.length_map] at this; omega
      exact d_dictSet I h1 hl' ry rz fun s' I' => ⟨_, I', k _ ⟨_, ⟨_, upd_same, rfl⟩, rd0_put rd key rx⟩⟩
    · cases h
  | 1, ⟨l, ⟨xs, h1, el⟩, rd⟩, h =>
    have h : (if kb q && kvs.all (fun e => kb e.1) && decide (kvs.length < sizeLine) then some (PV.dct 1 (dPut kvs q x)) else none) = some p' := by cases q <;> exact h
    subst el
    split at h
    · rename_i hc
      rw [Bool.and_eq_true, Bool.and_eq_true, decide_eq_true_eq] at hc
      obtain ⟨⟨c1, c2⟩, c3⟩ := hc
      cases h
      obtain ⟨k1, k2⟩ := kb_at c1
      have ht : isTup q = true := by unfold kb at c1; simp only [Bool.and_eq_true] at c1; exact c1.1.1
      match q, ht, rq with
      | .tup qs, _, .tup (a := b) t1 t2 =>
        have rq : Rep (kx X) Hv (.ref b) (pvK (nkOf (.tup qs))) := by rw [k1]; exact .tup t1 t2
        have hl' : xs.length < sizeLine := by have := repD_len rd; rw [List.length_map] at this; omega
        have z0 := rd1_put rd (nkOf (.tup qs)) rq rx
        rw [k1] at z0
        cases ry
        obtain ⟨hl, hsy, ys, kn, DD⟩ := dn_of I (.of h1) (fun x hx => (rd1_keys rd x hx).ext e) (rd1_depth rd c2)
        have hz : ys.length ≤ sizeLine := by rw [← kn_len kn]; exact hl
        refine wpAny_dictSet_heap (knd := nestedKind X.prog X.w) (k := nkOf (.tup qs)) (hsz := hz) (show X.A.units + 8 < cLine by omega) ⟨rep_nk I _ _ _ (rq.ext e) rfl, k2⟩ DD fun h' D' hs => ?_
        obtain ⟨ob, es, ep, hq, h2, h3, h4, _, h5⟩ := D'
        have hlen : (stV xs (nkOf (.tup qs)) b z).length ≤ sizeLine := by have := stV_len xs (nkOf (.tup qs)) b z; omega
        refine ⟨_, d_write I (by rw [h1]; exact True.intro) hs ⟨ob, hq⟩ ?_, k _ ⟨_, ⟨_, upd_same, rfl⟩, z0⟩⟩
        exact ⟨⟨hlen, hsy, _, kn_put kn (nkOf (.tup qs)) b rz, ob, es, ep, hq, h2, h3, h4, h5⟩, ⟨ob, hq⟩, fun h1 h2 ⟨g1, g2, zs, g3, o1, e1, ep1, g4, g5⟩ hh => ⟨g1, g2, zs, g3, o1, e1, ep1, hh _ g4, g5⟩⟩
    · cases h
  | n + 2, ⟨l, h1, _⟩, h => exact h1.elim
theorem dE_ok {n : Nat} {H : Hp} (h : Heap) (hb : sysModules < h.objs.size) : ObjOk X.prog X.w H (h.push { cls := .type "dict", data := .dict #[] }) h.objs.size (dE X n h.objs.size) := by
  unfold dE
  split
  · exact dk_empty h hb
  · exact dn_empty h hb
def dK (X : Cx) (n : Nat) (hu : X.A.units + 64 < cLine) : DictK X := ⟨dE X n, dSt X n, fun H h hb => dE_ok h hb, fun s3 H3 scope ce fp pins s σ H E D y z u r Q I ry rz h => dset_at (X := X.blk s3 H3 scope ce fp) hu I ry rz h⟩
end
/-! ### what is walked, shared -/
def lIV (K : Frg) (mg : Str → Option Value) (W : WX) (f : PM (List PV)) : TI := fun σ H R => ∃ (Z : Addr → Prop) (s : SE), Rl K Z H σ s ∧
  Mt (f s) (fun ps s' => ∀ J H' Rb, Go K Z Z H σ s s' H' → Wk K J Rb ps → Rb (Hd Z σ s' H') (Hd Z σ s' H') → R J H') (fun c s' => XOut K mg W Z H σ s c s')
structure QIV (X : Cx) (W : WX) (tg iter : Expr) (f : PM (List PV)) : Prop where
  pi : PI X tg iter (lIV (kx X) X.mg W f)
theorem qiv_val {X : Cx} {W : WX} {tg e : Expr} {f : PM Arg} (he : QE X W e f) : QIV X W tg e (iVal f) := ⟨pi_mono (pi_val he.pe) fun σ H R ⟨Z, s, R1, h⟩ => by
  refine lE_step R1 (Mt.bnd_ h) fun r s1 v H1 k p => ?_
  obtain ⟨q, s2, k, g, rp⟩ := rel1_step (mg := X.mg) p k.bnd_
  cases rp with
  | lst hq rs => exact .inl ⟨_, rfl, ⟨_, hid_sub.sqL (.inl (.of hq))⟩, k _ _ _ g (wk_list _ _ _) ⟨.inl (.of hq), rs⟩⟩
  | scr hq => exact .inl ⟨_, rfl, ⟨_, hid_sub.sqL hq⟩, k _ _ _ g (wk_list _ _ _) ⟨hq, reps_ints _⟩⟩
  | tup hq rs => exact .inr (.inl ⟨_, rfl, ⟨_, hid_sub.sqT hq⟩, k _ _ _ g (wk_tup _ _ _) ⟨hq, rs⟩⟩)
  | rng hq =>
    simp only at k
    split at k
    · rename_i hb
      exact .inr (.inr ⟨_, _, _, rfl, hid_sub _ _ hq, hb, k _ _ _ g (wk_rng _ _) trivial⟩)
    · exact k.elim
  | _ => exact k.elim⟩
/-! ### the way -/
def dcIn (us : List Nat) (G : PV → PM Unit) (T : PM Bool) (Ek Ev : PM Arg) : List PV → PV → PM PV
  | [], acc => ret acc
  | p :: ps, acc => bnd (nx (G p)) fun _ => bnd T fun k => if k = true then bnd Ek fun a => bnd (rel1 a) fun q => bnd Ev fun b => bnd (rel1 b) fun x => fun s => match opSet acc q x with
      | some acc' => bnd (wp us) (fun _ => dcIn us G T Ek Ev ps acc') s
      | none => .stuck
    else bnd (wp us) fun _ => dcIn us G T Ek Ev ps acc
def dcOut (us vs : List Nat) (G : PV → PM Unit) (T : PM Bool) (I1 : PM (List PV)) (G1 : PV → PM Unit) (T1 : PM Bool) (Ek Ev : PM Arg) : List PV → PV → PM PV
  | [], acc => ret acc
  | p :: ps, acc => bnd (nx (G p)) fun _ => bnd T fun k => if k = true then bnd I1 fun qs => bnd (wp vs) fun _ => bnd (dcIn vs G1 T1 Ek Ev qs acc) fun acc' => bnd (wp us) fun _ => dcOut us vs G T I1 G1 T1 Ek Ev ps acc'
    else bnd (wp us) fun _ => dcOut us vs G T I1 G1 T1 Ek Ev ps acc
def eDc2 (n : Nat) (us vs : List Nat) (I : PM (List PV)) (G : PV → PM Unit) (T : PM Bool) (I1 : PM (List PV)) (G1 : PV → PM Unit) (T1 : PM Bool) (Ek Ev : PM Arg) : PM Arg := bnd I fun ps => fun s =>
  match dcOut us vs G T I1 G1 T1 Ek Ev ps (.dct n []) (wipeS s us) with
  | .ok acc s1 => .ok (.val acc true) (unw s s1 us)
  | _ => .stuck

theorem opSet_dct {n : Nat} {kvs : List (PV × PV)} {q x p' : PV} (h : opSet (.dct n kvs) q x = some p') : ∃ kvs', p' = .dct n kvs' := by
  match n, h with
  | 0, h =>
    have h : (if (keyOf q).isSome && decide (kvs.length < sizeLine) then some (PV.dct 0 (dPut kvs q x)) else none) = some p' := by cases q <;> exact h
    split at h
    · cases h; exact ⟨_, rfl⟩
    · cases h
  | 1, h =>
    have h : (if kb q && kvs.all (fun e => kb e.1) && decide (kvs.length < sizeLine) then some (PV.dct 1 (dPut kvs q x)) else none) = some p' := by cases q <;> exact h
    split at h
    · cases h; exact ⟨_, rfl⟩
    · cases h
  | n + 2, h => cases q <;> simp [opSet] at h
section
variable {K : Frg} {Z Z1 : Addr → Prop} {own vs : List Nat} {H H1 H2 H' : Hp} {σ σ1 σ2 σ' : L2.St} {s s1 s2 s' : SE} {D : Addr} {o : HO} {n : Nat}
/-- from a place in a block's loop to another -/
structure Tw (K : Frg) (Z : Addr → Prop) (own : List Nat) (H : Hp) (σ : L2.St) (s : SE) (H' : Hp) (σ' : L2.St) (s' : SE) : Prop where
  rl : Rl K Z H' σ' s'
  fr : ∀ a o, H a = some o → ¬ Owns σ s a → H' a = some o
  ow : ∀ a, Owns σ' s' a → Owns σ s a
  tr : ∀ a, H a ≠ none → H' a ≠ none
  kp : ∀ (i : Nat) (q : Bool × PV), i ∉ own → s[i]? = some (some q) → ∃ q', s'[i]? = some (some q')
  wp : wipe σ' own = wipe σ own
theorem Tw.trans (a : Tw K Z1 own H σ s H1 σ1 s1) (b : Tw K Z own H1 σ1 s1 H2 σ2 s2) : Tw K Z own H σ s H2 σ2 s2 where
  rl := b.rl
  fr := fun c o e n => b.fr c o (a.fr c o e n) fun z => n (a.ow c z)
  ow := fun c z => a.ow c (b.ow c z)
  tr := fun c h => b.tr c (a.tr c h)
  kp := fun i q hi e => let ⟨_, e1⟩ := a.kp i q hi e; b.kp i _ hi e1
  wp := b.wp.trans a.wp
theorem Go.tw (g : Go K Z Z1 H σ s s' H') : Tw K Z1 own H σ s H' σ s' := ⟨g.rl, g.fr, g.ow, g.tr, fun i q _ e => g.kp i q e, rfl⟩
theorem wipe_wipe (h : ∀ i ∈ vs, i ∈ own) : wipe (wipe σ vs) own = wipe σ own := by
  refine List.ext_getElem? fun i => ?_
  by_cases hl : i < σ.length
  · by_cases hi : i ∈ own
    · rw [wipe_in' hi (by rw [wipe_length]; exact hl), wipe_in' hi hl]
    · rw [wipe_out' hi, wipe_out' hi, wipe_out' fun z => hi (h i z)]
  · rw [List.getElem?_eq_none (by rw [wipe_length, wipe_length]; omega), List.getElem?_eq_none (by rw [wipe_length]; omega)]
theorem Rl.tw_wipe (R : Rl K Z H σ s) (hv : ∀ i ∈ vs, i ∈ own) : Tw K Z own H σ s H (wipe σ vs) (wipeS s vs) where
  rl := (R.forget (own := vs) (us := vs) fun _ h => h).1
  fr := fun _ _ e _ => e
  ow := fun a z => owns_wipe (fun _ h => h) z
  tr := fun _ h => h
  kp := fun i q hi e => ⟨q, by rw [wipeS_out fun z => hi (hv i z)]; exact e⟩
  wp := wipe_wipe hv
theorem Tw.vis (a : Tw K Z own H σ s H' σ' s') : Ext (Hd Z σ s H) (Hd Z σ' s' H') := hid_mono fun b o n e => ⟨fun z => n (z.imp id (a.ow b)), a.fr b o e fun z => n (.inr z)⟩
theorem Tw.visD (a : Tw K Z own H σ s H' σ' s') : Ext (HqD D σ s H) (HqD D σ' s' H') := hid_mono fun b o n e => ⟨fun z => n (z.imp (a.ow b) id), a.fr b o e fun z => n (.inl z)⟩
/-- D's object along such a way -/
theorem Tw.obD {p : PV} (a : Tw K Z own H σ s H' σ' s') (nD : ¬ Owns σ s D) (ob : Ob K H (Hd Z σ s H) D p) : Ob K H' (Hd Z σ' s' H') D p := by
  obtain ⟨o, ho, _⟩ := ob.at_
  exact ob.ext (by rw [ho]; exact a.fr D o ho nD) a.vis
theorem Rl.nOwn (R : Rl K Z H σ s) (z : Z D) : ¬ Owns σ s D := fun ⟨i, p, e1, e2⟩ => by
  obtain ⟨b, e3, n, _⟩ := R.ow i p e1
  rw [e2] at e3; cases e3
  exact n z
theorem GoS.tw {N : Nat} (g : GoS K (others N vs) Z Z H σ s H' σ' s') (ho : ∀ a, Owns σ' s' a → Owns σ s a) (hn : σ.length = N) (hv : ∀ i ∈ vs, i ∈ own) : Tw K Z own H σ s H' σ' s' := ⟨g.rl, g.fr, ho, g.tr, fun i q _ e => g.kp i q e, by
  refine List.ext_getElem? fun i => ?_
  by_cases hl : i < N
  · by_cases hi : i ∈ own
    · rw [wipe_in' hi (by rw [g.ln, hn]; exact hl), wipe_in' hi (by rw [hn]; exact hl)]
    · rw [wipe_out' hi, wipe_out' hi, g.pn i (others_mem.mpr ⟨hl, fun z => hi (hv i z)⟩)]
  · rw [List.getElem?_eq_none (by rw [wipe_length, g.ln]; omega), List.getElem?_eq_none (by rw [wipe_length]; omega)]⟩
/-- .. and a store into D -/
theorem Tw.store (a : Tw K Z own H σ s H' σ' s') (zD : Z D) (hD : H D = none) : Tw K Z own H σ s (upd H' D o) σ' s' ∧ Hd Z σ' s' (upd H' D o) = Hd Z σ' s' H' ∧ Ext (HqD D σ' s' H') (HqD D σ' s' (upd H' D o)) := by
  refine ⟨⟨a.rl.zwrite zD, fun b u e n => ?_, a.ow, fun b h => ?_, a.kp, a.wp⟩, hd_z zD, hid_mono fun b u n e => ⟨n, by rw [upd_ne fun z => n (.inr z)]; exact e⟩⟩
  · rw [upd_ne fun z => by rw [z, hD] at e; cases e]; exact a.fr b u e n
  · by_cases z : b = D
    · rw [z, upd_same]; nofun
    · rw [upd_ne z]; exact a.tr b h
end
theorem Mt.ok_ {α : Type} {r : Rs α} {ok : α → SE → Prop} (h : Mt r ok (fun _ _ => False)) : ∃ a s, r = .ok a s ∧ ok a s := by
  cases r with
  | ok a s => exact ⟨a, s, rfl, h⟩
  | exc c s => exact h.elim
  | stuck => exact h.elim
theorem mt_of {α : Type} {r : Rs α} {a : α} {s : SE} (h : r = .ok a s) : Mt r (fun a' s' => a' = a ∧ s' = s) (fun _ _ => False) := by rw [h]; exact ⟨rfl, rfl⟩
theorem of_mt {α : Type} {r : Rs α} {a : α} {s : SE} (h : Mt r (fun a' s' => a' = a ∧ s' = s) (fun _ _ => False)) : r = .ok a s := by
  obtain ⟨a', s', e, h1, h2⟩ := h.ok_
  rw [e, h1, h2]
section
variable {X : Cx} {W : WX} {us vs : List Nat} {I I1 : PM (List PV)} {G G1 : PV → PM Unit} {T T1 : PM Bool} {Ek Ev : PM Arg} {N n : Nat}
theorem dc2_m {σ : L2.St} {H : Hp} {Q : VK} (hu : X.A.units + 64 < cLine) (hd : n < 2) (hn : σ.length = N) (hv : ∀ i ∈ vs, i ∈ us) (h : lE (kx X) X.mg W (eDc2 n us vs I G T I1 G1 T1 Ek Ev) σ H Q) :
    tDc2 (dK X n hu) (lI (kx X) X.mg W I) (lG (kx X) (others N us) G) (lT (kx X) X.mg WF T) (lIV (kx X) X.mg WF I1) (lG (kx X) (others N vs) G1) (lT (kx X) X.mg WF T1) (lE (kx X) X.mg WF Ek) (lE (kx X) X.mg WF Ev) us vs σ H Q := by
  obtain ⟨Z, s, R, h⟩ := lE_iff.mp h
  refine ⟨Z, s, R, Mt.imp (Mt.bnd_ h) fun ps s1 q J H1 Rb g wk rb D hD => ?_⟩
  cases e : dcOut us vs G T I1 G1 T1 Ek Ev ps (.dct n []) (wipeS s1 us) with
  | stuck => rw [e] at q; exact q.elim
  | exc c s2 => rw [e] at q; exact q.elim
  | ok accF sF =>
  rw [e] at q
  have R1 := g.rl
  have P1 := R1.park (us := us) (vs := us) fun _ h => h
  have hp0 : Hd (fun b => Z b ∨ Pk σ s1 us us b) (wipe σ us) (wipeS s1 us) H1 = Hd Z σ s1 H1 := hd_park fun _ h => h
  obtain ⟨Z1, hZ1⟩ : ∃ Z1 : Addr → Prop, Z1 = fun b => (Z b ∨ b = D) ∨ Pk σ s1 us us b := ⟨_, rfl⟩
  have pD : Z1 D := by rw [hZ1]; exact .inl (.inr rfl)
  obtain ⟨o0, ho0⟩ : ∃ o0, dE X n D = o0 := ⟨_, rfl⟩
  have nD : ∀ b o, H1 b = some o → b ≠ D := fun b o e z => by rw [z, hD] at e; cases e
  have t0 : Tw (kx X) Z1 us H1 (wipe σ us) (wipeS s1 us) (upd H1 D o0) (wipe σ us) (wipeS s1 us) := by
    have g0 := Go.grown P1 (ext_upd (o := o0) hD)
    refine ⟨(P1.hold hD (ext_upd hD) (by rw [upd_same]; nofun)).weak fun b z => ?_, g0.fr, g0.ow, g0.tr, fun i q _ e => g0.kp i q e, rfl⟩
    rw [hZ1] at z
    rcases z with (z | z) | z
    · exact .inl (.inl z)
    · exact .inr z
    · exact .inl (.inr z)
  have rb0 : Rb (HqD D (wipe σ us) (wipeS s1 us) (upd H1 D o0)) (Hd Z1 (wipe σ us) (wipeS s1 us) (upd H1 D o0)) := by
    refine wk.mono _ _ _ _ rb (hid_mono fun b o n e => ⟨fun z => n (z.elim (owns_wipe fun _ h => h) fun z => absurd z (nD b o e)), ext_upd hD b o e⟩) ?_
    rw [← hp0, hZ1]
    refine hid_mono fun b o n e => ⟨fun z => n ?_, ext_upd hD b o e⟩
    rcases z with ((z | z) | z) | z
    · exact .inl (.inl z)
    · exact absurd z (nD b o e)
    · exact .inl (.inr z)
    · exact .inr z
  have ob0 : Ob (kx X) (upd H1 D o0) (Hd Z1 (wipe σ us) (wipeS s1 us) (upd H1 D o0)) D (.dct n []) := by
    rw [← ho0]
    match n, hd with
    | 0, _ => exact ⟨[], ⟨[], upd_same, rfl⟩, .nil⟩
    | 1, _ => exact ⟨[], ⟨[], upd_same, rfl⟩, .nil⟩
  refine ⟨fun i m H => m + i = ps.length ∧ ∃ (s : SE) (kvs : List (PV × PV)), Tw (kx X) Z1 us H1 (wipe σ us) (wipeS s1 us) H (wipe σ us) s ∧ Rb (HqD D (wipe σ us) s H) (Hd Z1 (wipe σ us) s H) ∧ Ob (kx X) H (Hd Z1 (wipe σ us) s H) D (.dct n kvs) ∧
    dcOut us vs G T I1 G1 T1 Ek Ev (ps.drop i) (.dct n kvs) s = .ok accF sF, ⟨ps.length, by omega, wipeS s1 us, [], by rw [← ho0] at t0; exact t0, by rw [← ho0] at rb0; exact rb0, by rw [← ho0] at ob0; exact ob0, e⟩, ?_⟩
  intro i m H2 ⟨em, s3, kvs, t3, rb3, ob3, e3⟩
  have subq : ∀ {σ : L2.St} {s : SE} {H : Hp}, Ext (Hd Z1 σ s H) (HqD D σ s H) := hid_mono fun b o n e => ⟨fun z => n (z.elim .inr fun z => .inl (by rw [z]; exact pD)), e⟩
  have wW : ∀ {σ' : L2.St}, wipe σ' us = wipe (wipe σ us) us → wipe σ' us = wipe σ us := fun e => e.trans (wipe_wipe fun _ h => h)
  cases ei : ps[i]? with
  | none =>
    have hl : ps.length ≤ i := List.getElem?_eq_none_iff.mp ei
    refine .inl ⟨wk.stop i H2 _ _ rb3 hid_sub subq hl, ?_⟩
    rw [List.drop_of_length_le hl] at e3
    simp only [dcOut, ret, Rs.ok.injEq] at e3
    obtain ⟨e4, e5⟩ := e3
    subst e4 e5
    have g3 : Go (kx X) (fun b => Z b ∨ Pk σ s1 us us b) (fun b => (Z b ∨ b = D) ∨ Pk σ s1 us us b) H1 (wipe σ us) (wipeS s1 us) s3 H2 := by
      refine ⟨by have := t3.rl; rw [hZ1] at this; exact this, t3.fr, t3.ow, t3.tr, fun i q e => ?_⟩
      refine t3.kp i q (fun hi => ?_) e
      have hl : i < s1.length := by
        have z := (List.getElem?_eq_some_iff.mp e).1
        rw [wipeS_len] at z
        exact z
      rw [wipeS_in hi hl] at e; cases e
    have gu := R1.unpark (us := us) (vs := us) (fun _ h => h) (Z' := fun b => Z b ∨ b = D) (fun _ z => .inl z) (fun b z n => (z.elim (fun z => absurd z n) fun z => by rw [z]; exact hD)) g3
    have nown : ¬ Owns σ (unw s1 s3 us) D := fun z => R1.ownIn (gu.ow D z) hD
    refine q (.ref D) H2 ((show PostE (kx X) Z H1 σ s1 (.val (.dct n kvs) true) (unw s1 s3 us) (.ref D) H2 from ⟨D, rfl, hD, gu, ob3.ext rfl ?_, nown, fun z => R1.zin D z hD⟩).after g)
    -- what is shared within is shared behind
    rw [hZ1]
    refine hid_mono fun b o n e => ⟨fun z => ?_, e⟩
    rcases z with z | ⟨i, p, z1, z2⟩
    · exact n (.inl (.inl z))
    · have hl' : s3.length = s1.length := by rw [t3.rl.len, wipe_length, R1.len]
      have hli : i < s1.length := by
        have z := (List.getElem?_eq_some_iff.mp z1).1
        rw [unw_len, hl'] at z
        exact z
      by_cases hi : i ∈ us
      · rw [unw_in hi (by rw [hl']; exact hli) hli] at z1
        refine n (.inl (.inr ⟨⟨i, p, z1, z2⟩, fun ⟨j, r, y1, y2⟩ => ?_⟩))
        have hlj : j < s1.length := by
          have z := (List.getElem?_eq_some_iff.mp y1).1
          rw [wipeS_len] at z
          exact z
        by_cases hj : j ∈ us
        · rw [wipeS_in hj hlj] at y1; cases y1
        · rw [wipeS_out hj] at y1
          have := R1.dj i j p r b z1 y1 z2 (wipe_some y2).1
          subst this
          exact hj hi
      · rw [unw_out hi] at z1
        exact n (.inr ⟨i, p, z1, by rw [wipe_out' hi]; exact z2⟩)
  | some p =>
    obtain ⟨hl, ep⟩ := List.getElem?_eq_some_iff.mp ei
    rw [List.drop_eq_getElem_cons hl, ep] at e3
    -- the next turn's start
    have nxt : ∀ {σ' : L2.St} {s' : SE} {H' : Hp} {kvs' : List (PV × PV)}, Tw (kx X) Z1 us H1 (wipe σ us) (wipeS s1 us) H' σ' s' → Rb (HqD D σ' s' H') (Hd Z1 σ' s' H') → Ob (kx X) H' (Hd Z1 σ' s' H') D (.dct n kvs') → dcOut us vs G T I1 G1 T1 Ek Ev (ps.drop (i + 1)) (.dct n kvs') (wipeS s' us) = .ok accF sF →
        ∃ m', m' < m ∧ (m' + (i + 1) = ps.length ∧ ∃ (s : SE) (kvs : List (PV × PV)), Tw (kx X) Z1 us H1 (wipe σ us) (wipeS s1 us) H' (wipe σ us) s ∧ Rb (HqD D (wipe σ us) s H') (Hd Z1 (wipe σ us) s H') ∧ Ob (kx X) H' (Hd Z1 (wipe σ us) s H') D (.dct n kvs) ∧
          dcOut us vs G T I1 G1 T1 Ek Ev (ps.drop (i + 1)) (.dct n kvs) s = .ok accF sF) := fun {σ' s' H' kvs'} t rb ob ev => by
      have t6 := t.rl.tw_wipe (vs := us) (own := us) fun _ h => h
      have ew : wipe σ' us = wipe σ us := wW t.wp
      rw [ew] at t6
      exact ⟨m - 1, by omega, by omega, wipeS s' us, kvs', t.trans t6, wk.mono _ _ _ _ rb t6.visD t6.vis, t6.obD (t.rl.nOwn pD) ob, ev⟩
    refine .inr ⟨wk.go i p H2 _ _ rb3 hid_sub subq ei, fun H' => ∃ m', m' < m ∧ (m' + (i + 1) = ps.length ∧ ∃ (s : SE) (kvs : List (PV × PV)), Tw (kx X) Z1 us H1 (wipe σ us) (wipeS s1 us) H' (wipe σ us) s ∧ Rb (HqD D (wipe σ us) s H') (Hd Z1 (wipe σ us) s H') ∧ Ob (kx X) H' (Hd Z1 (wipe σ us) s H') D (.dct n kvs) ∧
          dcOut us vs G T I1 G1 T1 Ek Ev (ps.drop (i + 1)) (.dct n kvs) s = .ok accF sF), fun H' z => z, fun x H' hy => ?_⟩
    obtain ⟨ex, rp⟩ := wk.yld i p H2 _ _ x H' rb3 hid_sub subq ei hy
    have g4 : Go (kx X) _ _ H2 (wipe σ us) s3 s3 H' := Go.grown t3.rl ex
    rw [grow_hid t3.rl.hidIn ex] at rp
    refine ⟨_, s3, p, g4.rl, rp, Mt.imp (Mt.nx (Mt.bnd_ (mt_of e3))) fun _ s5 m5 σ5 H5 g5 ow5 => ?_⟩
    have t5 : Tw (kx X) Z1 us H2 (wipe σ us) s3 H5 σ5 s5 := (Go.tw g4).trans (GoS.tw g5 ow5 (by rw [wipe_length]; exact hn) fun _ h => h)
    refine ⟨wW t5.wp, ?_⟩
    refine lT_step t5.rl (Mt.noex (Mt.bnd_ m5)) fun k s6 H6 m6 g6 => ?_
    have t6 : Tw (kx X) Z1 us H2 (wipe σ us) s3 H6 σ5 s6 := t5.trans (Go.tw g6)
    have nD3 := t3.rl.nOwn pD
    cases k with
    | false => exact nxt (t3.trans t6) (wk.mono _ _ _ _ rb3 t6.visD t6.vis) (t6.obD nD3 ob3) (of_mt m6)
    | true =>
      refine ⟨_, s6, t6.rl, Mt.imp (Mt.noex (Mt.bnd_ m6)) fun qs s7 m7 J1 H7 Rb1 g7 wk1 rb1 => ?_⟩
      have t7' := g7.rl.tw_wipe (vs := vs) (own := us) hv
      have t7 : Tw (kx X) Z1 us H2 (wipe σ us) s3 H7 (wipe σ5 vs) (wipeS s7 vs) := (t6.trans (Go.tw g7)).trans t7'
      have rbi : Rb1 (HqD D (wipe σ5 vs) (wipeS s7 vs) H7) (Hd Z1 (wipe σ5 vs) (wipeS s7 vs) H7) := wk1.mono _ _ _ _ rb1 (t7'.vis.trans subq) t7'.vis
      obtain ⟨rest, hrest⟩ : ∃ rest : PV → PM PV, rest = fun acc' => bnd (wp us) fun _ => dcOut us vs G T I1 G1 T1 Ek Ev (ps.drop (i + 1)) acc' := ⟨_, rfl⟩
      have m8 := Mt.bnd_ m7
      rw [← hrest] at m8
      refine ⟨fun j k H => k + j = qs.length ∧ ∃ (s : SE) (kvs : List (PV × PV)), Tw (kx X) Z1 us H1 (wipe σ us) (wipeS s1 us) H (wipe σ5 vs) s ∧ Rb (HqD D (wipe σ5 vs) s H) (Hd Z1 (wipe σ5 vs) s H) ∧ Rb1 (HqD D (wipe σ5 vs) s H) (Hd Z1 (wipe σ5 vs) s H) ∧ Ob (kx X) H (Hd Z1 (wipe σ5 vs) s H) D (.dct n kvs) ∧
        bnd (dcIn vs G1 T1 Ek Ev (qs.drop j) (.dct n kvs)) rest s = .ok accF sF, ⟨qs.length, by omega, wipeS s7 vs, kvs, t3.trans t7, wk.mono _ _ _ _ rb3 t7.visD t7.vis, rbi, t7.obD nD3 ob3, of_mt m8⟩, ?_⟩
      clear m8 m7 rbi t7 t7' rb1 g7 H7 s7 m6 g6 t6 m5
      intro j k H8 ⟨ek, s8, kv8, t8, rb8, rc8, ob8, e8⟩
      have nD8 := t8.rl.nOwn pD
      cases ej : qs[j]? with
      | none =>
        have hl1 : qs.length ≤ j := List.getElem?_eq_none_iff.mp ej
        refine .inl ⟨wk1.stop j H8 _ _ rc8 hid_sub subq hl1, ?_⟩
        rw [List.drop_of_length_le hl1] at e8
        have m9 := Mt.bnd_ (mt_of e8)
        rw [hrest] at m9
        exact nxt t8 rb8 ob8 (of_mt m9)
      | some p1 =>
        obtain ⟨hl1, ep1⟩ := List.getElem?_eq_some_iff.mp ej
        rw [List.drop_eq_getElem_cons hl1, ep1] at e8
        have nxt1 : ∀ {σ' : L2.St} {s' : SE} {H' : Hp} {kvs' : List (PV × PV)}, Tw (kx X) Z1 us H1 (wipe σ us) (wipeS s1 us) H' σ' s' → wipe σ' vs = wipe σ5 vs → Rb (HqD D σ' s' H') (Hd Z1 σ' s' H') → Rb1 (HqD D σ' s' H') (Hd Z1 σ' s' H') → Ob (kx X) H' (Hd Z1 σ' s' H') D (.dct n kvs') →
            bnd (dcIn vs G1 T1 Ek Ev (qs.drop (j + 1)) (.dct n kvs')) rest (wipeS s' vs) = .ok accF sF →
            ∃ k', k' < k ∧ (k' + (j + 1) = qs.length ∧ ∃ (s : SE) (kvs : List (PV × PV)), Tw (kx X) Z1 us H1 (wipe σ us) (wipeS s1 us) H' (wipe σ5 vs) s ∧ Rb (HqD D (wipe σ5 vs) s H') (Hd Z1 (wipe σ5 vs) s H') ∧ Rb1 (HqD D (wipe σ5 vs) s H') (Hd Z1 (wipe σ5 vs) s H') ∧ Ob (kx X) H' (Hd Z1 (wipe σ5 vs) s H') D (.dct n kvs) ∧
              bnd (dcIn vs G1 T1 Ek Ev (qs.drop (j + 1)) (.dct n kvs)) rest s = .ok accF sF) := fun {σ' s' H' kvs'} t ew rb rc ob ev => by
          have tw := t.rl.tw_wipe (vs := vs) (own := us) hv
          rw [ew] at tw
          exact ⟨k - 1, by omega, by omega, wipeS s' vs, kvs', t.trans tw, wk.mono _ _ _ _ rb tw.visD tw.vis, wk1.mono _ _ _ _ rc tw.visD tw.vis, tw.obD (t.rl.nOwn pD) ob, ev⟩
        refine .inr ⟨wk1.go j p1 H8 _ _ rc8 hid_sub subq ej, fun H' => ∃ k', k' < k ∧ (k' + (j + 1) = qs.length ∧ ∃ (s : SE) (kvs : List (PV × PV)), Tw (kx X) Z1 us H1 (wipe σ us) (wipeS s1 us) H' (wipe σ5 vs) s ∧ Rb (HqD D (wipe σ5 vs) s H') (Hd Z1 (wipe σ5 vs) s H') ∧ Rb1 (HqD D (wipe σ5 vs) s H') (Hd Z1 (wipe σ5 vs) s H') ∧ Ob (kx X) H' (Hd Z1 (wipe σ5 vs) s H') D (.dct n kvs) ∧
              bnd (dcIn vs G1 T1 Ek Ev (qs.drop (j + 1)) (.dct n kvs)) rest s = .ok accF sF), fun H' z => z, fun x1 H9 hy1 => ?_⟩
        obtain ⟨ex1, rp1⟩ := wk1.yld j p1 H8 _ _ x1 H9 rc8 hid_sub subq ej hy1
        have g9 : Go (kx X) _ _ H8 (wipe σ5 vs) s8 s8 H9 := Go.grown t8.rl ex1
        rw [grow_hid t8.rl.hidIn ex1] at rp1
        have m10 := Mt.bnd_ (mt_of e8)
        refine ⟨_, s8, p1, g9.rl, rp1, Mt.imp (Mt.nx (Mt.bnd_ m10)) fun _ s11 m11 σ11 H11 g11 ow11 => ?_⟩
        have hN5 : (wipe σ5 vs).length = N := by rw [wipe_length]; have := g5.ln; rw [wipe_length] at this; omega
        have w11 : wipe σ11 vs = wipe σ5 vs := (wipe_same (n := N) (own := vs) (σ := σ5) (σ' := σ11) (by rw [wipe_length] at hN5; exact hN5) (by rw [g11.ln, wipe_length]) fun i hi => by rw [g11.pn i hi])
        have t11 : Tw (kx X) Z1 us H8 (wipe σ5 vs) s8 H11 σ11 s11 := (Go.tw g9).trans (GoS.tw g11 ow11 hN5 hv)
        refine ⟨w11, ?_⟩
        refine lT_step t11.rl (Mt.noex (Mt.bnd_ m11)) fun k1 s12 H12 m12 g12 => ?_
        have t12 : Tw (kx X) Z1 us H8 (wipe σ5 vs) s8 H12 σ11 s12 := t11.trans (Go.tw g12)
        cases k1 with
        | false =>
          refine nxt1 (t8.trans t12) w11 (wk.mono _ _ _ _ rb8 t12.visD t12.vis) (wk1.mono _ _ _ _ rc8 t12.visD t12.vis) (t12.obD nD8 ob8) ?_
          unfold bnd
          have m12 : Mt (dcIn vs G1 T1 Ek Ev (qs.drop (j + 1)) (.dct n kv8) (wipeS s12 vs)) (fun a s => Mt (rest a s) (fun a' s' => a' = accF ∧ s' = sF) (fun _ _ => False)) (fun _ _ => False) := m12
          obtain ⟨a13, s13, e13, q13⟩ := m12.ok_
          rw [e13]
          exact of_mt q13
        | true =>
          refine lE_step t12.rl (Mt.noex (Mt.bnd_ m12)) fun r s13 y H13 m13 p13 => ?_
          obtain ⟨qk, s14, m14, g14, r14⟩ := rel1_step (mg := X.mg) p13 (Mt.bnd_ m13)
          refine lE_step g14.rl (Mt.noex (Mt.bnd_ m14)) fun r2 s15 z H15 m15 p15 => ?_
          obtain ⟨qx, s16, m16, g16, r16⟩ := rel1_step (mg := X.mg) p15 (Mt.bnd_ m15)
          have t16 : Tw (kx X) Z1 us H8 (wipe σ5 vs) s8 H15 σ11 s16 := (t12.trans (Go.tw g14)).trans (Go.tw g16)
          have ob16 := t16.obD nD8 ob8
          cases eo : opSet (.dct n kv8) qk qx with
          | none => rw [eo] at m16; exact m16.elim
          | some acc' =>
            rw [eo] at m16
            obtain ⟨kv', rfl⟩ := opSet_dct eo
            refine ⟨_, kv8, qk, qx, _, hid_sub, ob16, r14.ext g16.vis, r16, eo, fun o ob' => ?_⟩
            obtain ⟨ts, ehd, ehq⟩ := (t8.trans t16).store (o := o) pD hD
            refine nxt1 ts w11 (wk.mono _ _ _ _ rb8 (t16.visD.trans ehq) (by rw [ehd]; exact t16.vis)) (wk1.mono _ _ _ _ rc8 (t16.visD.trans ehq) (by rw [ehd]; exact t16.vis)) (by rw [ehd]; exact ob') ?_
            unfold bnd
            have m17 : Mt (dcIn vs G1 T1 Ek Ev (qs.drop (j + 1)) (.dct n kv') (wipeS s16 vs)) (fun a s => Mt (rest a s) (fun a' s' => a' = accF ∧ s' = sF) (fun _ _ => False)) (fun _ _ => False) := m16
            obtain ⟨a18, s18, e18, q18⟩ := m17.ok_
            rw [e18]
            exact of_mt q18
end
section
variable {X : Cx} {W : WX}
theorem qe_dc2 {kx vx tg iter tg1 iter1 : Expr} {ifs ifs1 : List Expr} {scope : Scope} {own : List (Str × Nat)} {vs : List Nat} {pos : Pos} {n : Nat} {I I1 : PM (List PV)} {G G1 : PV → PM Unit} {T T1 : PM Bool} {Ek Ev : PM Arg} (hu : X.A.units + 64 < cLine) (hd : n < 2) (hc : X.calm = true) (hN : X.N.Nodup) (ok : BlkOk X.N X.env.scope scope own) (hv : ∀ i ∈ vs, i ∈ own.map (·.2)) (hi : QI X W tg iter I)
    (hg : ∀ (s : Shared) (H : Hp) (C : Addr) (cl : List (Str × Addr)) (fp : List Addr), QG (X.blk s H scope (compEnvC scope cl C X.env) fp) (others X.N.length (own.map (·.2))) tg G)
    (ht : ∀ (s : Shared) (H : Hp) (C : Addr) (cl : List (Str × Addr)) (fp : List Addr), QTs (X.blk s H scope (compEnvC scope cl C X.env) fp) WF ifs T)
    (hi1 : ∀ (s : Shared) (H : Hp) (C : Addr) (cl : List (Str × Addr)) (fp : List Addr), QIV (X.blk s H scope (compEnvC scope cl C X.env) fp) WF tg1 iter1 I1)
    (hg1 : ∀ (s : Shared) (H : Hp) (C : Addr) (cl : List (Str × Addr)) (fp : List Addr), QG (X.blk s H scope (compEnvC scope cl C X.env) fp) (others X.N.length vs) tg1 G1)
    (ht1 : ∀ (s : Shared) (H : Hp) (C : Addr) (cl : List (Str × Addr)) (fp : List Addr), QTs (X.blk s H scope (compEnvC scope cl C X.env) fp) WF ifs1 T1)
    (hk : ∀ (s : Shared) (H : Hp) (C : Addr) (cl : List (Str × Addr)) (fp : List Addr), QE (X.blk s H scope (compEnvC scope cl C X.env) fp) WF kx Ek)
    (he : ∀ (s : Shared) (H : Hp) (C : Addr) (cl : List (Str × Addr)) (fp : List Addr), QE (X.blk s H scope (compEnvC scope cl C X.env) fp) WF vx Ev)
    (hs : ∀ x, foldedSetIterable iter X.env x = pure x := by intro _; rfl) (hs1 : ∀ env x, foldedSetIterable iter1 env x = pure x := by intro _ _; rfl) :
    QE X W (.DictComp kx vx [⟨tg, iter, ifs, 0⟩, ⟨tg1, iter1, ifs1, 0⟩] scope pos) (eDc2 n (own.map (·.2)) vs I G T I1 G1 T1 Ek Ev) :=
  ⟨pe_monoI (pe_dc2 (dK X n hu) hc hN hi.pi ok hv (fun s H C cl fp => (hg s H C cl fp).pg) (fun s H C cl fp => (ht s H C cl fp).pts) (fun s H C cl fp => (hi1 s H C cl fp).pi) (fun s H C cl fp => (hg1 s H C cl fp).pg) (fun s H C cl fp => (ht1 s H C cl fp).pts)
    (fun s H C cl fp => (hk s H C cl fp).pe) (fun s H C cl fp => (he s H C cl fp).pe) hs hs1) fun pins s σ H Q I h => dc2_m hu hd I.len hv h⟩
end
end HF
end

section
set_option Elab.async false
set_option linter.all false
set_option maxRecDepth 100000
set_option maxHeartbeats 1000000
set_option autoImplicit false
/-! HFJ: displays of dicts of tuples. -/
namespace HF
open PySem PySem.Spec PyProof.Rows L2
/-- entry by entry -/
def stAll (acc : XN) (es : XN) : XN := es.foldl (fun acc e => stV acc e.1 e.2.1 e.2.2) acc
theorem stAll_len : ∀ (es acc : XN), (stAll acc es).length ≤ acc.length + es.length
  | [], acc => Nat.le_refl _
  | e :: es, acc => by
    have h1 := stAll_len es (stV acc e.1 e.2.1 e.2.2)
    have h2 := stV_len acc e.1 e.2.1 e.2.2
    show (stAll (stV acc e.1 e.2.1 e.2.2) es).length ≤ _
    rw [List.length_cons]; omega
theorem kn_all : ∀ {es : XN} {fs : List (NestedKey × Addr × Value)} {acc : XN} {bcc : List (NestedKey × Addr × Value)}, KN acc bcc → KN es fs → KN (stAll acc es) (storedAllH bcc fs) := by
  intro es fs acc bcc r q
  induction q generalizing acc bcc with
  | nil => exact r
  | @cons x y xs ys a _ ih =>
    obtain ⟨h1, h2, h3⟩ := a
    refine ih (acc := stV acc x.1 x.2.1 x.2.2) (bcc := storedH bcc y.1 y.2.1 y.2.2) ?_
    rw [← h1, ← h2]
    exact kn_put r _ _ h3
def tDispN (X : Cx) (trs : List (TE × TE)) : TE := fun σ H Q => ∀ p, H p = none → tPairs trs σ (upd H p (DNo X.prog X.w p [])) fun ps H2 => H2 p = some (DNo X.prog X.w p []) ∧ ∃ es : XN, ps = es.map (fun x => (V.ref x.2.1, x.2.2)) ∧ es.length ≤ 15 ∧ (∀ x ∈ es, Rep (kx X) H2 (.ref x.2.1) (pvK x.1)) ∧ (∀ x ∈ es, x.1.depth ≤ 8) ∧
  Q (.ref p) (upd H2 p (DNo X.prog X.w p (stAll [] es)))
section
variable {X : Cx} {pos : Pos}
theorem carriesH_of {pins : List (Addr × Obj)} {σ : L2.St} {H : Hp} {s : Shared} (I : Inv X pins σ H s) : ∀ (es : XN) {ws : List (Value × Value)}, VV (es.map fun x => (V.ref x.2.1, x.2.2)) ws → (∀ x ∈ es, Rep (kx X) H (.ref x.2.1) (pvK x.1)) → (∀ x ∈ es, x.1.depth ≤ 8) → ∃ fs, CarriesH (nestedKind X.prog X.w) s.heap ws fs ∧ KN es fs
  | [], _, r, _, _ => by rw [List.map_nil] at r; cases r; exact ⟨[], True.intro, .nil⟩
  | x :: es, _, r, h1, h2 => by
    rw [List.map_cons] at r
    cases r with
    | @cons a b as bs h t =>
      obtain ⟨fs, c, q⟩ := carriesH_of I es t (fun y hy => h1 y (List.mem_cons_of_mem _ hy)) fun y hy => h2 y (List.mem_cons_of_mem _ hy)
      obtain ⟨b1, b2⟩ := b
      obtain ⟨h3, h4⟩ := h
      cases (show b1 = Value.ref x.2.1 from h3)
      exact ⟨(x.1, x.2.1, b2) :: fs, ⟨rfl, rfl, ⟨rep_nk I _ _ _ (h1 x List.mem_cons_self) rfl, h2 x List.mem_cons_self⟩, c⟩, .cons ⟨rfl, rfl, h4⟩ q⟩
theorem pe_dispN {keys : List (Option Expr)} {values : List Expr} {trs : List (TE × TE)} (hu : X.A.units + 64 < cLine) (h : PPs X pos keys values trs) (hsh : (evalEachOpt keys X.env).zip ((evalEach values X.env).map fun v => do let x ← v; standAt pos; pure x) = (pairTrees keys values X.env pos).map fun p => (some p.1, p.2)) (h0 : pairTrees keys values X.env pos ≠ []) (h15 : (pairTrees keys values X.env pos).length ≤ 15) :
    PE X (.Dict keys values pos) (tDispN X trs) := by
  refine ⟨fun pins s σ H Q I q => ?_⟩
  have hn := I.hok.fresh (Nat.le_refl s.heap.objs.size)
  have I1 := I.laid (a := s.heap.objs.size) (o := DNo X.prog X.w s.heap.objs.size []) (h' := s.heap.push { cls := .type "dict", data := .dict #[] }) (t' := s.toks) (fun _ _ q => Heap.get?_push_of_some _ q) (Nat.le_refl _) (dn_empty s.heap I.big)
  rw [arm_eval_Dict, hsh, dictDisplay_pairs _ h0 (by omega)]
  refine wpAny_bind (wpAny_standAt (wpAny_bind (wpAny_subDictH (knd := nestedKind X.prog X.w) (Q := fun d s' => wpAny (model X.prog X.w) X.A (pure (Value.ref d)) (EP X pins σ Q) X.xe s') (show X.A.units + 8 < cLine by omega) h15
    (thn (h.run pins _ σ _ _ I1 (q _ hn)) fun ws s2 ⟨ps, H2, I2, rel, e, es, ep, l15, hk, hd, q2⟩ => ?_))))
  subst ep
  obtain ⟨fs, c, kn⟩ := carriesH_of I2 es rel hk hd
  obtain ⟨⟨hl, hs, ys, kn0, o, e0, ep, ho, hx, hdat, he, hnd⟩, _⟩ := (show ObjOk X.prog X.w H2 s2.heap s.heap.objs.size (DNo X.prog X.w s.heap.objs.size []) from I2.hok _ _ e)
  cases kn0
  refine ⟨fs, c, ⟨o, e0, ep, ho, hx, hdat, he, fun x hx => (by cases hx), hnd⟩, fun h' tk D' sb => wpAny_pure ⟨.ref s.heap.objs.size, _, ?_, rfl, q2⟩⟩
  obtain ⟨ob, e1, ep1, hq, h2, h3, h4, _, h5⟩ := D'
  have hlen : (stAll [] es).length ≤ sizeLine := by
    have := stAll_len es []
    rw [List.length_nil] at this
    rw [sizeLine_eq]; omega
  refine d_write I2 (by rw [e]; exact True.intro) sb ⟨ob, hq⟩ ⟨⟨hlen, hs, _, kn_all .nil kn, ob, e1, ep1, hq, h2, h3, h4, h5⟩, ⟨ob, hq⟩, fun h1 h2 ⟨g1, g2, zs, g3, o1, e1, ep1, g4, g5⟩ hh => ⟨g1, g2, zs, g3, o1, e1, ep1, hh _ g4, g5⟩⟩
end
def dispL2 : List (PM Arg × PM Arg) → PM (List (PV × PV))
  | [] => ret []
  | (f, g) :: fs => bnd f fun a => bnd (rel1 a) fun p => bnd g fun b => bnd (rel1 b) fun q => bnd (dispL2 fs) fun ps => ret ((p, q) :: ps)
def eDispN (fs : List (PM Arg × PM Arg)) : PM Arg := fun s => match dispL2 fs s with
  | .ok kvs s' => if kvs.all (fun e => kb e.1) && decide (kvs.length ≤ 15) then .ok (.val (.dct 1 (kvs.foldl (fun acc e => dPut acc e.1 e.2) [])) true) s' else .stuck
  | _ => .stuck
def trN (X : Cx) (W : WX) (fs : List (PM Arg × PM Arg)) : List (TE × TE) := fs.map fun f => (lE (kx X) X.mg W f.1, lE (kx X) X.mg W f.2)
structure QDN (X : Cx) (W : WX) (pos : Pos) (keys : List (Option Expr)) (values : List Expr) (fs : List (PM Arg × PM Arg)) : Prop where
  pps : PPs X pos keys values (trN X W fs)
section
variable {X : Cx} {W : WX} {pos : Pos}
theorem qdn_nil : QDN X W pos [] [] [] := ⟨pps_nil⟩
theorem qdn_cons {k v : Expr} {keys : List (Option Expr)} {values : List Expr} {f g : PM Arg} {fs : List (PM Arg × PM Arg)} (hk : QE X W k f) (hv : QE X W v g) (hr : QDN X W pos keys values fs) : QDN X W pos (some k :: keys) (v :: values) ((f, g) :: fs) :=
  ⟨pps_cons hk.pe hv.pe hr.pps⟩
inductive RepP (K : Frg) (H : Hp) : List (V × V) → List (PV × PV) → Prop
  | nil : RepP K H [] []
  | cons {x y : V} {p q : PV} {vs : List (V × V)} {ps : List (PV × PV)} : Rep K H x p → Rep K H y q → RepP K H vs ps → RepP K H ((x, y) :: vs) ((p, q) :: ps)
theorem dispN_m {Z : Addr → Prop} : ∀ (fs : List (PM Arg × PM Arg)) (s : SE) (σ : L2.St) (H : Hp) (Q : List (V × V) → Hp → Prop), Rl (kx X) Z H σ s →
    Mt (dispL2 fs s) (fun ps s' => ∀ vs H', Go (kx X) Z Z H σ s s' H' → RepP (kx X) (Hd Z σ s' H') vs ps → Q vs H') (fun _ _ => False) → tPairs (trN X W fs) σ H Q
  | [], s, σ, H, Q, R, h => h [] H (Go.refl R) .nil
  | (f, g) :: fs, s, σ, H, Q, R, h => by
    refine lE_step R (Mt.noex (Mt.bnd_ h)) fun r s1 v H1 q p => ?_
    obtain ⟨x, s2, q, g2, rp⟩ := rel1_step (mg := X.mg) p (Mt.bnd_ q)
    refine lE_step g2.rl (Mt.noex (Mt.bnd_ q)) fun r3 s3 w H3 q3 p3 => ?_
    obtain ⟨y, s4, q4, g4, rp4⟩ := rel1_step (mg := X.mg) p3 (Mt.bnd_ q3)
    refine dispN_m fs s4 σ H3 _ g4.rl (Mt.imp (Mt.bnd_ q4) fun ps s5 q5 vs H5 g5 rs => ?_)
    exact q5 ((v, w) :: vs) H5 ((g2.trans g4).trans g5) (.cons ((rp.ext g4.vis).ext g5.vis) (rp4.ext g5.vis) rs)
theorem repP_es {K : Frg} {H : Hp} : ∀ {vs : List (V × V)} {ps : List (PV × PV)}, RepP K H vs ps → ps.all (fun e => kb e.1) = true → ∃ es : XN, vs = es.map (fun x => (V.ref x.2.1, x.2.2)) ∧ es.length = ps.length ∧ (∀ x ∈ es, Rep K H (.ref x.2.1) (pvK x.1)) ∧ (∀ x ∈ es, x.1.depth ≤ 8) ∧ ps.map (·.1) = es.map (fun x => pvK x.1) ∧
    ∀ (acc : XN) (bcc : List (PV × PV)), RepD K H (lN acc) bcc → RepD K H (lN (stAll acc es)) (ps.foldl (fun acc e => dPut acc e.1 e.2) bcc)
  | _, _, .nil, _ => ⟨[], rfl, rfl, fun x h => (by cases h), fun x h => (by cases h), rfl, fun acc bcc r => r⟩
  | _, _, .cons (p := p) (x := x) a b c, h => by
    rw [List.all_cons, Bool.and_eq_true] at h
    obtain ⟨es, e1, e2, e3, e4, e5, e6⟩ := repP_es c h.2
    obtain ⟨k1, k2⟩ := kb_at h.1
    have ht : isTup p = true := by have := h.1; unfold kb at this; simp only [Bool.and_eq_true] at this; exact this.1.1
    match p, ht, a with
    | .tup qs, _, .tup (a := t) t1 t2 =>
      have ra : Rep K H (.ref t) (pvK (nkOf (.tup qs))) := by rw [k1]; exact .tup t1 t2
      refine ⟨(nkOf (.tup qs), t, _) :: es, by rw [e1]; rfl, by simp [e2], fun y hy => ?_, fun y hy => ?_, by simp only [List.map_cons, e5, k1], fun acc bcc r => ?_⟩
      · rcases List.mem_cons.mp hy with z | z
        · subst z; exact ra
        · exact e3 y z
      · rcases List.mem_cons.mp hy with z | z
        · subst z; exact k2
        · exact e4 y z
      · have z := rd1_put r (nkOf (.tup qs)) ra b
        rw [k1] at z
        exact e6 _ _ z
theorem qe_dispN {keys : List (Option Expr)} {values : List Expr} {fs : List (PM Arg × PM Arg)} (hu : X.A.units + 64 < cLine) (h : QDN X W pos keys values fs) (hsh : (evalEachOpt keys X.env).zip ((evalEach values X.env).map fun v => do let x ← v; standAt pos; pure x) = (pairTrees keys values X.env pos).map fun p => (some p.1, p.2) := by rfl) (h0 : pairTrees keys values X.env pos ≠ [] := by intro z; cases z) (h15 : (pairTrees keys values X.env pos).length ≤ 15 := by exact Nat.le_of_ble_eq_true rfl) :
    QE X W (.Dict keys values pos) (eDispN fs) := qe_of (pe_dispN hu h.pps hsh h0 h15) fun σ H Q q => by
  obtain ⟨Z, s, R, q⟩ := lE_iff.mp q
  intro p hp
  obtain ⟨kvs, s', ek, hall, hl, q⟩ : ∃ kvs s', dispL2 fs s = .ok kvs s' ∧ kvs.all (fun e => kb e.1) = true ∧ kvs.length ≤ 15 ∧ ∀ v H', PostE (kx X) Z H σ s (.val (.dct 1 (kvs.foldl (fun acc e => dPut acc e.1 e.2) [])) true) s' v H' → Q v H' := by
    unfold eDispN at q
    cases e : dispL2 fs s with
    | ok kvs s' =>
      simp only [e] at q
      split at q
      · rename_i hc
        rw [Bool.and_eq_true, decide_eq_true_eq] at hc
        exact ⟨kvs, s', rfl, hc.1, hc.2, q⟩
      · exact q.elim
    | exc c s' => simp only [e] at q; exact q.elim
    | stuck => simp only [e] at q; exact q.elim
  have R1 : Rl (kx X) (fun b => Z b ∨ b = p) (upd H p (DNo X.prog X.w p [])) σ s := R.hold hp (ext_upd hp) (by rw [upd_same]; nofun)
  refine dispN_m fs s σ (upd H p (DNo X.prog X.w p [])) _ R1 (Mt.imp (mt_of ek) fun ps s2 ⟨e1, e2⟩ vs H' g rs => ?_)
  subst e1 e2
  have hpo : ∀ b, Owns σ s b → b ≠ p := fun b z e => by subst e; exact R.ownIn z hp
  have hk' : H' p = some (DNo X.prog X.w p []) := g.fr p _ upd_same fun z => (hpo p z rfl).elim
  obtain ⟨es, e1, e2, e3, e4, e5, e6⟩ := repP_es rs hall
  have hp' : ¬ Owns σ s2 p := fun z => (hpo p (g.ow p z)) rfl
  have R2 : Rl (kx X) (fun b => Z b ∨ b = p) (upd H' p (DNo X.prog X.w p (stAll [] es))) σ s2 := g.rl.zwrite (.inr rfl)
  have hv : Hd (fun b => Z b ∨ b = p) σ s2 (upd H' p (DNo X.prog X.w p (stAll [] es))) = Hd (fun b => Z b ∨ b = p) σ s2 H' := hd_z (.inr rfl)
  refine ⟨hk', es, e1, by omega, fun x hx => (e3 x hx).ext hid_sub, e4, q _ _ ?_⟩
  refine ⟨p, rfl, hp, ⟨R2, fun b o e n => ?_, g.ow, fun b h => ?_, g.kp⟩, ⟨_, ⟨_, upd_same, rfl⟩, ?_⟩, hp', fun z => R.zin p z hp⟩
  · by_cases eb : b = p
    · subst eb; rw [hp] at e; cases e
    · rw [upd_ne eb]
      exact g.fr b o (by rw [upd_ne eb]; exact e) n
  · by_cases eb : b = p
    · subst eb; rw [upd_same]; nofun
    · rw [upd_ne eb]
      exact g.tr b (by rw [upd_ne eb]; exact h)
  · rw [hv]
    exact e6 [] [] .nil
end
end HF
end

section
set_option Elab.async false
set_option linter.all false
set_option maxRecDepth 100000
set_option maxHeartbeats 1000000
set_option autoImplicit false
/-! HFK: sorted(d), d a dict of tuples. -/
namespace HF
open PySem PySem.Spec PyProof.Rows L2 PySem.W
def kD (x : NestedKey × Addr × V) : PyData := toD (pvK x.1)
mutual
theorem reads_none {h : Heap} : ∀ (k : NestedKey) (v : Value) (as : List Addr), Reads h v (toD (pvK k)) as → as = []
  | .none, _, _, r => by cases r; rfl
  | .num _, _, _, r => by cases r; rfl
  | .text _, _, _, r => by cases r; rfl
  | .tup ks, _, _, r => by
    cases r with
    | tuple h1 h2 h3 h4 => exact readsAll_none ks _ _ h4
theorem readsAll_none {h : Heap} : ∀ (ks : List NestedKey) (vs : List Value) (as : List Addr), ReadsAll h vs (toDs (pvKs ks)) as → as = []
  | [], _, _, r => by cases r; rfl
  | k :: ks, _, _, r => by
    cases r with
    | cons a b => rw [reads_none k _ _ a, readsAll_none ks _ _ b]; rfl
end
mutual
theorem dp_k {K : Frg} {H : Hp} : ∀ (k : NestedKey) (v : V), Rep K H v (pvK k) → Dp K.K H v (toD (pvK k))
  | .none, _, r => by cases r; exact .non
  | .num i, _, r => by cases r; exact .int i
  | .text x, _, r => by cases r; exact .str x
  | .tup ks, _, r => by
    cases r with
    | tup h1 h2 => exact .tup h1 (dp_ks ks _ h2)
theorem dp_ks {K : Frg} {H : Hp} : ∀ (ks : List NestedKey) (vs : List V), Reps K H vs (pvKs ks) → DpAll K.K H vs (toDs (pvKs ks))
  | [], _, r => by cases r; exact .nil
  | k :: ks, _, r => by
    cases r with
    | cons a b => exact .cons (dp_k k _ a) (dp_ks ks _ b)
end
mutual
theorem depth_k : ∀ k : NestedKey, (toD (pvK k)).depth ≤ k.depth
  | .none => Nat.le_refl _
  | .num _ => Nat.le_refl _
  | .text _ => Nat.le_refl _
  | .tup ks => by simp only [pvK, toD, PyData.depth, NestedKey.depth]; have := depth_ks ks; omega
theorem depth_ks : ∀ ks : List NestedKey, PyData.depthAll (toDs (pvKs ks)) ≤ NestedKey.depthAll ks
  | [] => Nat.le_refl _
  | k :: ks => by simp only [pvKs, toDs, PyData.depthAll, NestedKey.depthAll]; have := depth_k k; have := depth_ks ks; omega
end
theorem each_at {R : Value → (NestedKey × Addr × V) → Prop} : ∀ (vs : List Value) (xs : XN), vs.length = xs.length → (∀ (i : Nat) (v : Value) (x : NestedKey × Addr × V), vs[i]? = some v → xs[i]? = some x → R v x) → PySem.W.EachIs R vs xs
  | [], [], _, _ => .nil
  | [], _ :: _, e, _ => by cases e
  | _ :: _, [], e, _ => by cases e
  | v :: vs, x :: xs, e, h => .cons (h 0 v x rfl rfl) (each_at vs xs (Nat.succ.inj e) fun i w y h1 h2 => h (i + 1) w y (by simpa using h1) (by simpa using h2))
theorem each_refs : ∀ {vs : List Value} {xs : XN}, PySem.W.EachIs (fun v x => v = Value.ref x.2.1) vs xs → Vals (xs.map fun x => V.ref x.2.1) vs
  | _, _, .nil => .nil
  | _, _, .cons a t => .cons (by rw [a]; rfl) (each_refs t)
def rSortedN (X : Cx) : List V → Hp → VK → Prop := fun vs H Q => ∃ (a : Addr) (xs : XN), vs = [V.ref a] ∧ Rd H a (DNo X.prog X.w a xs) ∧ (∀ x ∈ xs, Rep (kx X) H (.ref x.2.1) (pvK x.1)) ∧ (∀ x ∈ xs, x.1.depth ≤ 8) ∧
  PySem.W.AllAlike (xs.map kD) ∧ PySem.W.Sortable (xs.map kD) ∧ ∀ p, H p = none → Q (.ref p) (upd H p (.lst ((xs.mergeSort (PySem.W.dataLe false kD)).map fun x => V.ref x.2.1)))
section
variable {X : Cx}
theorem cr_sortedN (hc : X.calm = true) (hu : X.A.units + 64 < cLine) : CallR X (.builtin "sorted") (rSortedN X) := by
  intro pins s σ H vs us Q I r ⟨a, xs, ev, hd, hk, h8, hal, hso, q⟩
  subst ev
  rw [Vals.ref1 r]
  obtain ⟨hl, lo, ys, kn, D⟩ := dn_of I hd hk h8
  obtain ⟨es, ep, raw, hsz, hat⟩ := D.raw
  have hlen : es.size = xs.length := by rw [hsz, kn_len kn]
  refine Calls.call_function_entry PyProof.Rows.kind_sorted PyProof.Rows.plain_sorted PyProof.Rows.entry_sorted (PyProof.Rows.args_sorted1 _) ?_
  unfold Builtin.«sorted»
  refine wpAny_bind (m := checkCount "sorted" 1 1 _) (wpAny_pure ?_)
  refine wpAny_bind (PySem.W.kdu_collect (A := X.A.in1) (KdlSrc.rawDict (es := es) (ep := ep) lo) (I.ok.hd hc) raw (by omega) fun h' tk acc hk' hacc => ?_)
  have hal' : acc.toList.length = xs.length := by rw [Array.length_toList, hacc.1, hlen]
  have I1 : Inv X pins σ H { s with heap := h', toks := tk } := I.kept hk'
  have eR : PySem.W.EachIs (fun v x => v = Value.ref x.2.1) acc.toList xs := each_at _ _ hal' fun i v x h1 h2 => by
    obtain ⟨hi, ev⟩ := hacc.2 i v (by rw [← Array.getElem?_toList]; exact h1)
    obtain ⟨y, hy, ek, _, _⟩ := hat i hi
    have hxy : x.2.1 = y.2.1 := by
      have z : ∀ {xs : XN} {ys : List (NestedKey × Addr × Value)}, KN xs ys → ∀ (i : Nat) x y, xs[i]? = some x → ys[i]? = some y → x.2.1 = y.2.1 := by
        intro xs ys kn
        induction kn with
        | nil => intro i x y h; simp at h
        | cons a _ ih =>
          intro i x y h1 h2
          cases i with
          | zero => simp at h1 h2; subst h1 h2; exact a.2.1
          | succ i => exact ih i x y (by simpa using h1) (by simpa using h2)
      exact z kn i x y h2 hy
    rw [ev, ek, hxy]
  refine wpAny_bind (wpAny_newList ?_ (by rw [hal']; exact hl))
  have hoL : (h'.push (seqObj "list" acc.toList.toArray 0)).get? h'.objs.size = some (seqObj "list" acc.toList.toArray 0) := Heap.get?_push_size _ rfl
  have I2 : Inv X pins σ H { s with heap := h'.push (seqObj "list" acc.toList.toArray 0), toks := tk } := I1.kept (t' := tk) fun b o e => Heap.get?_push_of_some _ e
  have er : PySem.W.EachIs (fun v b => ∃ as, Reads (h'.push (seqObj "list" acc.toList.toArray 0)) v (kD b) as ∧ h'.objs.size ∉ as) acc.toList xs := each_at _ _ hal' fun i v x h1 h2 => by
    have ev : v = Value.ref x.2.1 := by
      have z : ∀ {vs : List Value} {xs : XN}, PySem.W.EachIs (fun v x => v = Value.ref x.2.1) vs xs → ∀ (i : Nat) v x, vs[i]? = some v → xs[i]? = some x → v = Value.ref x.2.1 := by
        intro vs xs e
        induction e with
        | nil => intro i v x h; simp at h
        | cons a _ ih =>
          intro i v x h1 h2
          cases i with
          | zero => simp at h1 h2; subst h1 h2; exact a
          | succ i => exact ih i v x (by simpa using h1) (by simpa using h2)
      exact z eR i v x h1 h2
    subst ev
    obtain ⟨as, ra⟩ := Dp.reads I2 (kD x) (.ref x.2.1) _ (dp_k x.1 _ (hk x (List.mem_of_getElem? h2))) rfl
    exact ⟨as, ra, by rw [reads_none _ _ _ ra]; simp⟩
  refine wpAny_bind (wpAny_holding (PySem.W.list_sort_data (s := { s with heap := h'.push (seqObj "list" acc.toList.toArray 0), toks := tk }) hoL eR er hal hso hl (fun b hb => ?_) fun out ho eo => ?_))
  · have h1 := depth_k b.1
    have h2 := h8 b hb
    show (X.A.in1).units + 1 + (toD (pvK b.1)).depth < cLine
    simp only [Around.in1_units]
    omega
  · obtain ⟨e', he'⟩ := PyProof.Rows.sortedHeap_at (vs := acc.toList) (out := List.toArray out) hoL
    refine wpAny_pure ⟨_, rfl, .ref h'.objs.size, upd H h'.objs.size (.lst ((xs.mergeSort (PySem.W.dataLe false kD)).map fun x => V.ref x.2.1)), I1.laid (t' := tk) (fun b u e => ?_) (Nat.le_refl _)
      (show ObjOk X.prog X.w _ _ _ (.lst _) from ⟨by rw [List.length_map, List.length_mergeSort]; exact hl, out, e', each_refs eo, he'⟩), rfl, q _ (I1.hok.fresh (Nat.le_refl _))⟩
    have hb : b < h'.objs.size := Heap.lt_size e
    rw [PyProof.Rows.sortedHeap_old (Nat.ne_of_lt hb) (by rw [size_push']; exact Nat.lt_succ_of_lt hb)]
    exact Heap.get?_push_of_some _ e
end

def neTup : PyData → Bool
  | .tuple (_ :: _) => true
  | _ => false
def opSrt : OpN
  | [.dct 1 kvs] => if kvs.all (fun e => kb e.1) && kvs.all (fun e => kvs.all fun f => alike (toD e.1) (toD f.1)) && kvs.all (fun e => neTup (toD e.1)) then some (.lst ((kvs.map (·.1)).mergeSort (PySem.W.dataLe false toD)), true) else none
  | ps => opSorted ps
theorem repD_keys {K : Frg} {Hv : Hp} {xs : XN} {kvs : List (PV × PV)} (r : RepD K Hv (lN xs) kvs) : kvs.map (·.1) = xs.map fun x => pvK x.1 := by
  induction xs generalizing kvs with
  | nil => cases r; rfl
  | cons x xs ih =>
    cases r with
    | cons a b c => rw [List.map_cons, List.map_cons, ih c]
theorem reps_refs {K : Frg} {Hv : Hp} : ∀ (xs : XN), (∀ x ∈ xs, Rep K Hv (.ref x.2.1) (pvK x.1)) → Reps K Hv (xs.map fun x => V.ref x.2.1) (xs.map fun x => pvK x.1)
  | [], _ => .nil
  | x :: xs, h => .cons (h x List.mem_cons_self) (reps_refs xs fun y hy => h y (List.mem_cons_of_mem _ hy))
section
variable {X : Cx}
theorem callr_srt (hc : X.calm = true) (hu : X.A.units + 64 < cLine) : CallR X (.builtin "sorted") (rOfN (kx X) opSrt) := callr_of fun ps q fr h => by
  by_cases z : ∃ kvs, ps = [.dct 1 kvs]
  · obtain ⟨kvs, rfl⟩ := z
    simp only [opSrt] at h
    split at h
    · rename_i hcnd
      rw [Bool.and_eq_true, Bool.and_eq_true] at hcnd
      obtain ⟨⟨c1, c2⟩, c3⟩ := hcnd
      cases h
      refine ⟨_, cr_sortedN hc hu, fun H Hv xs Q e r k => ?_⟩
      obtain ⟨x, rfl, r1⟩ := rbs_1 r
      obtain ⟨a, l, rfl, ⟨ys, h1, rfl⟩, rd⟩ := rb_dct e r1
      have hk := rd1_keys rd
      have ek := repD_keys rd
      have mem : ∀ d ∈ ys.map kD, ∃ f ∈ kvs, d = toD f.1 := fun d hd => by
        obtain ⟨y, hy, rfl⟩ := List.mem_map.mp hd
        have : pvK y.1 ∈ kvs.map (·.1) := by rw [ek]; exact List.mem_map.mpr ⟨y, hy, rfl⟩
        obtain ⟨f, hf, ef⟩ := List.mem_map.mp this
        exact ⟨f, hf, by rw [ef]; rfl⟩
      refine ⟨a, ys, rfl, h1, fun x hx => (hk x hx).ext e, rd1_depth rd c1, fun d hd d' hd' => ?_, .inl fun d hd => ?_, fun p hp => ?_⟩
      · obtain ⟨f, hf, rfl⟩ := mem d hd
        obtain ⟨f', hf', rfl⟩ := mem d' hd'
        exact List.all_eq_true.mp (List.all_eq_true.mp c2 f hf) f' hf'
      · obtain ⟨f, hf, rfl⟩ := mem d hd
        have := List.all_eq_true.mp c3 f hf
        match toD f.1, this with
        | .tuple (x :: r), _ => exact ⟨x, r, rfl⟩
      · have em : (kvs.map (·.1)).mergeSort (PySem.W.dataLe false toD) = (ys.mergeSort (PySem.W.dataLe false kD)).map fun x => pvK x.1 := by
          rw [ek]
          exact (List.map_mergeSort (r := PySem.W.dataLe false kD) (s := PySem.W.dataLe false toD) (f := fun x : NestedKey × Addr × V => pvK x.1) (fun a _ b _ => rfl)).symm
        rw [em] at k
        exact k _ _ (post1_lst e hp (reps_refs _ fun x hx => hk x (List.mem_mergeSort.mp hx)))
    · cases h
  · have h : opSorted ps = some (q, fr) := by
      unfold opSrt at h
      split at h
      · exact (z ⟨_, rfl⟩).elim
      · exact h
    match ps, h with
    | [.lst ps], h =>
      simp only [opSorted] at h
      obtain ⟨ns, h1, h2⟩ := Option.map_eq_some_iff.mp h
      cases h2
      rw [intsOf_some h1]
      refine ⟨_, cr_sortedI, fun H Hv xs Q e r k => ?_⟩
      obtain ⟨x, rfl, r1⟩ := rbs_1 r
      obtain ⟨a, vs, rfl, h1, q1⟩ := rb_lst e r1
      rw [reps_intE q1] at h1
      refine ⟨a, ns, rfl, .inl (.of h1), fun ns' p hp hs hn => ?_⟩
      have : ns' = ns.mergeSort leb := by
        refine sorted_uniq (hp.trans (List.mergeSort_perm ns leb).symm) hs ?_
        have := List.pairwise_mergeSort (le := leb) (fun a b c x y => by unfold leb at *; simp at *; omega) (fun a b => by unfold leb; simp; omega) ns
        exact this.imp fun z => of_decide_eq_true z
      rw [this]
      exact k _ _ (post1_lst e hn (reps_of_ints _))
end
end HF
end

section
set_option Elab.async false
set_option linter.all false
set_option maxRecDepth 100000
set_option maxHeartbeats 1000000
set_option autoImplicit false
/-! HFR: the rules as a printer takes them. -/
namespace HF
open PySem PySem.Spec PyProof.Rows L2
/-- a def that is there -/
def HasFn (P : Program) (w : World) (K : PySem.W.Frag) (mg : Str → Option Value) (base : Heap) (k : Nat) (x : Str) (ps : List Str) (n : Nat) (F : PM Fl) : Prop :=
  ∃ (a : Addr) (fd : FuncData), FnOk P w K mg base (L2.CX P w) k a fd ps (spP ⟨K, P, w⟩ mg ps.length (denOf n F)) ∧ mg x = some (.ref a) ∧ PySem.W.keepIn K (.ref a) = true ∧ Binds K fd ps []
/-- .. that changes its first argument -/
def HasFnM (P : Program) (w : World) (K : PySem.W.Frag) (mg : Str → Option Value) (base : Heap) (k : Nat) (x : Str) (ps : List Str) (n : Nat) (F : PM Fl) : Prop :=
  ∃ (a : Addr) (fd : FuncData), FnOk P w K mg base (L2.CX P w) k a fd ps (spM ⟨K, P, w⟩ ps.length (denIO n F)) ∧ mg x = some (.ref a) ∧ PySem.W.keepIn K (.ref a) = true ∧ Binds K fd ps []
/-- an own exception class -/
def ExcOk (K : PySem.W.Frag) (mg : Str → Option Value) (x : Str) : Prop := ∃ C, mg x = some (.ref C) ∧ PySem.W.excIn K C [.type "ValueError", .type "Exception", .type "BaseException", .type "object"] "ValueError.__new__" = true ∧ PySem.W.keepIn K (.ref C) = true ∧
  PySem.W.subIn K (.ref C) (.type "BaseException") = some true ∧ PySem.W.typeIn K (.ref C) = some (.type "type")
section
variable {X : Cx} {W : WX} {pin : List Nat} {e : Expr} {es : List Expr} {fs : PM (List Arg)} {f : PM Arg} {p pos p2 pos2 : Pos} {x : Str}
theorem e_fn {k n : Nat} {ps : List Str} {F : PM Fl} (h : HasFn X.prog X.w X.K X.mg X.base k x ps n F) (hr : Room k X.A) (hg : Gl X x) (tk : Takes X W) (ha : QA X W (e :: es) fs) (hn : (e :: es).length = ps.length) (hdb : (x == ("__debug__" : Str)) = false := by decide)
    (he : starEach (e :: es) X.env = (false, eval e X.env) :: starEach es X.env := by rfl) (hpl : (backTo pos (starEach es X.env)).any (·.1) = false := by rfl) : QE X W (.Call (.Name x p) (e :: es) [] pos) (eCall (denOf n F) fs) := by
  obtain ⟨a, fd, F', hm, hk, hb⟩ := h
  exact qe_fn (C := 0) F' hr hg hm hk hb tk ha hn hdb he hpl
theorem e_fnM {k n : Nat} {ps : List Str} {F : PM Fl} (h : HasFnM X.prog X.w X.K X.mg X.base k x ps n F) (hr : Room k X.A) (hg : Gl X x) (tk : Takes X W) (ha : QA X W (e :: es) fs) (hn : (e :: es).length = ps.length) (hdb : (x == ("__debug__" : Str)) = false := by decide)
    (he : starEach (e :: es) X.env = (false, eval e X.env) :: starEach es X.env := by rfl) (hpl : (backTo pos (starEach es X.env)).any (·.1) = false := by rfl) : QE X W (.Call (.Name x p) (e :: es) [] pos) (eCallM (denIO n F) fs) := by
  obtain ⟨a, fd, F', hm, hk, hb⟩ := h
  exact qe_fnM (C := 0) F' hr hg hm hk hb tk ha hn hdb he hpl
theorem s_raise {m : Str} {j : Nat} (h : ExcOk X.K X.mg x) (hc : X.calm = true) (tk : Takes X W) (hg : Gl X x) (hdb : (x == ("__debug__" : Str)) = false := by decide) : QS X W pin (.Raise (some (.Call (.Name x p) [.Constant (.str m) j p2] [] pos)) none pos2) (sRaise x) := by
  obtain ⟨C, hm, hq, hk, h1, h2⟩ := h
  exact qs_raise hc tk PySem.F.excBase_ValueError hq hm hk (raises_own h1 h2) hg hdb
theorem hp_own {n i : Nat} {own : List Nat} (h : i ∈ own) : i ∉ others n own := fun z => (others_mem.mp z).2 h
theorem glob_int {i : Int} (hg : Gl X x) (hm : ∃ u, X.mg x = some (.int i u)) (hd : (x == ("__debug__" : Str)) = false := by decide) : QE X W (.Name x pos) (eC (.int i)) := by
  obtain ⟨u, hm⟩ := hm
  exact qe_glob hg hm (v := .int i) ⟨u, rfl⟩ (fun _ => .int i) hd
end
theorem gl_of {X : Cx} {x : Str} (h : X.env.kindOf x = some .globalImplicit) : Gl X x := h
theorem room_un {k : Nat} {A : Around} (r : Room k A) : A.units + 65 < cLine := by have := r.un; omega

/-! ### the law's def -/
/-- what the law's def promises: at a list of ints, with an empty table -/
def spL (K : PySem.W.Frag) (P : Addr) (n : Nat) (F : PM Fl) : Sp := fun vs H Q _ => ∃ (a : Addr) (ns : List Int), vs = [V.ref a] ∧ SqL K H a (ns.map V.int) ∧ H P = some (.tbl #[]) ∧ (∃ s', F (st0 n [.scr ns]) = .ok (.ret (.val (.bl true) false)) s') ∧ ∀ H', Q (.bl true) H'
theorem fn_law {P : Program} {w : World} {K : PySem.W.Frag} {mg : Str → Option Value} {base : Heap} {x qual a0 : Str} {params : Arguments} {body : List Stmt} {scope : Scope} {kws : List (Str × V)} {f c Pt : Addr} {fd : FuncData} {N : List Str} {k : Nat} {F : PM Fl} {q : Str} (hq : ∀ (L : Addr) (cd : Value), (envOfC qual scope L f cd).qual ++ "<lambda>" = q)
    (Fd : FunD K x qual params body scope [] kws f fd) (hc : ∀ (oc : Value) (od : Option Addr) (osl : Array (Option Value)), K.lookup f = some ⟨oc, od, .func fd, osl⟩ → fd.code = .ref c) (S : FnScope N [a0] scope)
    (hbody : ∀ (A : Around) (outer : List Env) (s : Shared) (H : Hp) (E : XK), Room k (A.deeper (envOfC qual scope s.heap.objs.size f (.ref c))) →
      LSs (cxOf (L2.CX P w) P w K mg base N qual scope f (.ref c) A outer s H E) [(Pt, q)] body F) : FnOk P w K mg base (L2.CX P w) (k + 1) f fd [a0] (spL K Pt N.length F) := by
  obtain ⟨oc, od, dV, kV, doc, pm, an, cdv, ct, osl, rfl, lk, hcd, _, _⟩ := Fd.ex
  have ec : cdv = .ref c := hc _ _ _ lk
  subst ec
  refine fn_of lk hcd S (fun vs H Q E h => ?_) fun A outer s H vs Q E hr h => ⟨_, (hbody A outer s H E hr).pss, ?_⟩
  · obtain ⟨a, ns, rfl, _⟩ := h; rfl
  · obtain ⟨a, ns, rfl, hs, hP, ⟨s', hF⟩, hQ⟩ := h
    have R := rl_start (K := ⟨K, P, w⟩) (Z := fun _ => False) (H := H) (N := N) rfl (fun _ z => z.elim) (vs := [.ref a]) (ps := [.scr ns]) (.cons (.scr (by
      have e : hid (fun _ => False) H = H := by funext b; simp [hid]
      rw [e]; exact hs)) .nil)
    refine ⟨_, _, R, ⟨fun p hp => ?_, fun _ z => z⟩, ?_⟩
    · rw [List.mem_singleton.mp hp]
      exact LamX.TabS.nil hP
    · rw [hF]
      intro v σ' H' _ rv
      rw [rv true rfl]
      exact hQ H'

/-- what the law's helper takes as a refusal -/
def RefF (K : PySem.W.Frag) (mg : Str → Option Value) (e : Str) (xs : List Str) : Prop := ∃ CS, mg e = some (.ref CS) ∧ ∀ n ∈ xs, ∀ C, mg n = some (.ref C) → PySem.W.exmOne K (.ref C) (.ref CS) = some true
section
variable {X : Cx}
theorem lb_ref {T : List (Addr × Str)} {xs : List Str} {fE : PM Arg} {x a e q : Str} {g c P : Addr} {k : Nat} {pg : Arguments} {j j2 : Nat} {p1 p2 p3 p4 p5 p6 p7 p8 p9 p10 : Pos} {sg : Scope} {fd : FuncData} {Ng : List Str}
    {params : Arguments} {body : Expr} {scope : Scope} {p lpos pos : Pos} (h : RefF X.K X.mg e xs)
    (Fd : FunD X.K x x pg [.Try [.Expr (.Call (.Name a p1) [] [] p2) p3] [.ExceptHandler (some (.Name e p4)) none [.Return (some (.Constant (.bool true) j p5)) p6] p7] [] [] p8, .Return (some (.Constant (.bool false) j2 p9)) p10] sg [] [] g fd)
    (hm : X.mg x = some (.ref g)) (hg : Gl X x) (Sg : FnScope Ng [a] sg) (hNg : Ng[0]? = some a) (hva : Vis sg a) (hge : sg.names.lookup e = some .globalImplicit) (hde : (e == ("__debug__" : Str)) = false)
    (h0 : ∀ f : Addr, (L2.start Ng [V.ref f])[0]? = some (some (V.ref f))) (hbd : ∀ (kV doc pm : Value) (an : Option Addr) (cdv ct : Value) (us : List Value), us.length = 1 → bindArgs (PySem.W.fnOf x x pg [.Try [.Expr (.Call (.Name a p1) [] [] p2) p3] [.ExceptHandler (some (.Name e p4)) none [.Return (some (.Constant (.bool true) j p5)) p6] p7] [] [] p8, .Return (some (.Constant (.bool false) j2 p9)) p10] sg .none kV doc pm an cdv ct) ⟨us, []⟩ = pure ([a].zip us))
    (TB : LamX.TabB X.base X.mg c P) (hcode : X.env.code = .ref c) (hq : X.env.qual ++ "<lambda>" = q) (hT : T = [(P, q)]) (hr : Room (k + 2) X.A) (L : LamX.LamS X.env.scope scope) (hdef : defaultsOf params X.env = ([], []))
    (hbind : ∀ (q : Str) (cl : List (Str × Addr)) (pm cv ctv : Value), bindArgs (PySem.W.kla_fn "<lambda>" q params body scope cl pm cv ctv) ⟨[], []⟩ = pure [])
    (hbody : ∀ (A : Around) (outer : List Env) (s : Shared) (H : Hp) (E : XK) (f c' : Addr), Room k (A.deeper (LamX.lamEnv X scope s.heap.objs.size f c')) → QE (LamX.lamCx X A outer s H E scope f c') (WE0 E) body fE)
    (hdb : (x == ("__debug__" : Str)) = false := by decide) (hd : (a == ("__debug__" : Str)) = false := by decide) (hcd : (a == ("__classdict__" : Str)) = false := by decide) :
    LB X T (.Call (.Name x p) [.Lambda params body scope lpos] [] pos) (tRef (fun n => decide (n ∈ xs)) fE) := by
  obtain ⟨CS, hme, hx⟩ := h
  have B : L2.Binds X.K fd [a] [] := Fd.bindsN fun kV doc pm an cdv ct us hl => hbd kV doc pm an cdv ct us hl
  have kp := Fd.kp
  obtain ⟨oc, od, dV, kV, doc, pm, an, cdv, ct, osl, rfl, lk, hcd', _, _⟩ := Fd.ex
  subst hT hq
  exact lb_lam hg hm kp lk hcd' B Sg hNg hva hge hme hde h0 TB hcode (List.mem_singleton.mpr rfl) (fun p hp _ => by rw [List.mem_singleton.mp hp]) hr L hdef hbind (fun n C hn hC => hx n (of_decide_eq_true hn) C hC) hbody hdb hd hcd
end
end HF
end

section
set_option Elab.async false
set_option linter.all false
set_option maxRecDepth 100000
set_option maxHeartbeats 1000000
set_option autoImplicit false
/-! HM: running the ways. -/
namespace HF
open PySem PySem.Spec PyProof.Rows L2
section
variable {α β : Type} {s s' : SE}
theorem bnd_ok {f : PM α} {g : α → PM β} {a : α} (h : f s = .ok a s') : bnd f g s = g a s' := by unfold bnd; rw [h]
theorem bnd_exc {f : PM α} {g : α → PM β} {c : Str} (h : f s = .exc c s') : bnd f g s = .exc c s' := by unfold bnd; rw [h]
theorem bnd_eq (f : PM α) (g : α → PM β) (s : SE) : bnd f g s = match f s with
  | .ok a s' => g a s'
  | .exc c s' => .exc c s'
  | .stuck => .stuck := rfl
theorem ret_eq (a : α) (s : SE) : ret a s = .ok a s := rfl
end
theorem unw_wipe (s : SE) (us : List Nat) : unw s (wipeS s us) us = s := by
  refine List.ext_getElem? fun i => ?_
  by_cases hl : i < s.length
  · by_cases hi : i ∈ us
    · rw [unw_in hi (by rw [wipeS_len]; exact hl) hl]
    · rw [unw_out hi, wipeS_out hi]
  · rw [List.getElem?_eq_none (by rw [unw_len, wipeS_len]; omega), List.getElem?_eq_none (by omega)]
/-- a comprehension that changes nothing -/
theorem compL_pure {us : List Nat} {G : PV → PM Unit} {T : PM Bool} {E : PM Arg} {f : PV → PV} {c : PV → Bool} {s : SE} : ∀ {ps : List PV},
    (∀ p ∈ ps, ∃ s1, G p s = .ok () s1 ∧ ∃ s2, T s1 = .ok (c p) s2 ∧ (c p = true → ∃ fr s3, E s2 = .ok (.val (f p) fr) s3 ∧ wipeS s3 us = s) ∧ (c p = false → wipeS s2 us = s)) →
    compL us G T E ps s = .ok ((ps.filter c).map f) s
  | [], _ => rfl
  | p :: ps, h => by
    obtain ⟨s1, h1, s2, h2, h3, h4⟩ := h p List.mem_cons_self
    have ih := compL_pure (us := us) (G := G) (T := T) (E := E) (ps := ps) fun q hq => h q (List.mem_cons_of_mem _ hq)
    unfold compL
    rw [bnd_ok (show nx (G p) s = .ok () s1 by unfold nx; rw [h1]), bnd_ok h2]
    cases hc : c p with
    | true =>
      obtain ⟨fr, s3, h5, h6⟩ := h3 hc
      rw [if_pos rfl, bnd_ok h5, bnd_ok (show rel1 (Arg.val (f p) fr) s3 = .ok (f p) s3 from rfl), bnd_ok (show wp us s3 = .ok () s by unfold wp; rw [h6]), bnd_ok ih, List.filter_cons, if_pos hc]
      rfl
    | false =>
      rw [if_neg (by simp), bnd_ok (show wp us s2 = .ok () s by unfold wp; rw [h4 hc]), ih, List.filter_cons, if_neg (by simp [hc])]
theorem eComp_pure {own : List Nat} {I : PM (List PV × List Nat)} {G : PV → PM Unit} {T : PM Bool} {E : PM Arg} {ps : List PV} {s s0 : SE} (f : PV → PV) (c : PV → Bool) (hI : I s = .ok (ps, []) s0) (hl : ps.length ≤ sizeLine)
    (h : ∀ p ∈ ps, ∃ s1, G p (wipeS s0 own) = .ok () s1 ∧ ∃ s2, T s1 = .ok (c p) s2 ∧ (c p = true → ∃ fr s3, E s2 = .ok (.val (f p) fr) s3 ∧ wipeS s3 own = wipeS s0 own) ∧ (c p = false → wipeS s2 own = wipeS s0 own)) :
    eComp own I G T E s = .ok (.val (.lst ((ps.filter c).map f)) true) s0 := by
  unfold eComp
  rw [bnd_ok hI]
  simp only [List.nil_append]
  rw [if_pos hl, compL_pure h]
  simp only
  rw [unw_wipe]
/-- .. without tests -/
theorem eComp_map {own : List Nat} {I : PM (List PV × List Nat)} {G : PV → PM Unit} {E : PM Arg} {ps : List PV} {s s0 : SE} (f : PV → PV) (hI : I s = .ok (ps, []) s0) (hl : ps.length ≤ sizeLine)
    (h : ∀ p ∈ ps, ∃ s1, G p (wipeS s0 own) = .ok () s1 ∧ ∃ fr s3, E s1 = .ok (.val (f p) fr) s3 ∧ wipeS s3 own = wipeS s0 own) :
    eComp own I G (ret true) E s = .ok (.val (.lst (ps.map f)) true) s0 := by
  have := eComp_pure (T := ret true) f (fun _ => true) hI hl fun p hp => by
    obtain ⟨s1, h1, h2⟩ := h p hp
    exact ⟨s1, h1, s1, rfl, fun _ => h2, fun z => by cases z⟩
  rw [this, List.filter_eq_self.mpr fun _ _ => rfl]

/-! ### an expression's worth where nothing changes -/
/-- f gives p (fr: new) and changes nothing -/
def Ev (f : PM Arg) (s : SE) (p : PV) (fr : Bool) : Prop := f s = .ok (.val p fr) s
/-- the arguments ps -/
def EvA (fs : PM (List Arg)) (s : SE) (ps : List PV) : Prop := ∃ as, fs s = .ok as s ∧ rvs s as = some ps ∧ relAll as s = .ok ps s ∧ noBor as = true
/-- f gives something that stands for p, and changes nothing -/
def Rdv (f : PM Arg) (s : SE) (p : PV) : Prop := ∃ a, f s = .ok a s ∧ rv s a = some p
def RdA (fs : PM (List Arg)) (s : SE) (ps : List PV) : Prop := ∃ as, fs s = .ok as s ∧ rvs s as = some ps
def EvT (f : PM Bool) (s : SE) (b : Bool) : Prop := f s = .ok b s
section
variable {s : SE} {f g h : PM Arg} {fs : PM (List Arg)} {p q r : PV} {ps : List PV} {fr fr2 fr3 b : Bool} {i : Nat}
theorem ev_var (h : s[i]? = some (some (false, p))) : Ev (eVar i) s p false := by unfold Ev eVar; simp only [h]
theorem Ev.rd (h : Ev f s p fr) : Rdv f s p := ⟨_, h, rfl⟩
theorem rd_var (h : s[i]? = some (some (b, p))) : Rdv (eVar i) s p := by
  cases b with
  | false => exact (ev_var h).rd
  | true => exact ⟨.bor i, by unfold eVar; simp only [h], by simp only [rv, h]⟩
theorem EvA.rd (h : EvA fs s ps) : RdA fs s ps := let ⟨as, h1, h2, _⟩ := h; ⟨as, h1, h2⟩
theorem rda_nil : RdA aNil s [] := ⟨[], rfl, rfl⟩
theorem rv_wait {a : Arg} : rv s (wait a) = rv s a := by cases a <;> rfl
theorem rda_cons (hf : Rdv f s p) (ha : RdA fs s ps) : RdA (aCons f fs) s (p :: ps) := by
  obtain ⟨a, h1, h2⟩ := hf
  obtain ⟨as, h3, h4⟩ := ha
  refine ⟨wait a :: as, ?_, ?_⟩
  · unfold aCons
    rw [bnd_ok h1, bnd_ok h3]
    rfl
  · simp only [rvs, rv_wait, h2, h4]
theorem ev_c : Ev (eC p) s p false := rfl
theorem ev_op2 {o : Op2} (hf : Rdv f s p) (hg : Rdv g s q) (ho : o p q = some (r, fr3)) : Ev (eOp2 o f g) s r fr3 := by
  obtain ⟨a, h1, h2⟩ := hf
  obtain ⟨b, h3, h4⟩ := hg
  unfold Ev eOp2
  rw [bnd_ok h1, bnd_ok h3]
  simp only [opt2, h2, h4, ho, fin, ret]
theorem ev_op1 {o : Op1} (hf : Rdv f s p) (ho : o p = some (r, fr3)) : Ev (eOp1 o f) s r fr3 := by
  obtain ⟨a, h1, h2⟩ := hf
  unfold Ev eOp1
  rw [bnd_ok h1]
  simp only [opt1, h2, ho, fin, ret]
theorem eva_nil : EvA aNil s [] := ⟨[], rfl, rfl, rfl, rfl⟩
theorem eva_cons (hf : Ev f s p fr) (ha : EvA fs s ps) : EvA (aCons f fs) s (p :: ps) := by
  obtain ⟨as, h1, h2, h3, h4⟩ := ha
  refine ⟨.val p false :: as, ?_, ?_, ?_, h4⟩
  · unfold aCons
    rw [bnd_ok hf, bnd_ok h1]
    rfl
  · simp only [rvs, rv, h2]
  · show bnd (rel1 (.val p false)) _ s = _
    rw [bnd_ok (show rel1 (.val p false) s = .ok p s from rfl), bnd_ok h3]
    rfl
/-- an owned slot as an argument of a built-in -/
theorem ev_opN {o : OpN} (ha : RdA fs s ps) (ho : o ps = some (r, fr3)) : Ev (eOpN o fs) s r fr3 := by
  obtain ⟨as, h1, h2⟩ := ha
  unfold Ev eOpN
  rw [bnd_ok h1]
  simp only [optN, h2, ho, fin, ret]
theorem ev_tup (ha : EvA fs s ps) (hl : ps.length ≤ sizeLine) : Ev (eTup fs) s (.tup ps) false := by
  obtain ⟨as, h1, _, h3, _⟩ := ha
  unfold Ev eTup
  rw [bnd_ok h1, bnd_ok h3]
  unfold mkTup
  rw [if_pos hl]
  rfl
theorem ev_lst (ha : EvA fs s ps) (hl : ps.length ≤ sizeLine) : Ev (eLst fs) s (.lst ps) true := by
  obtain ⟨as, h1, _, h3, _⟩ := ha
  unfold Ev eLst
  rw [bnd_ok h1, bnd_ok h3]
  unfold mkLst
  rw [if_pos hl]
  rfl
theorem evt_bool (hf : Ev f s (.bl b) fr) : EvT (tBool f) s b := by
  unfold EvT tBool
  rw [bnd_ok hf]
  rfl
theorem evt_tru (hf : Rdv f s p) (ht : truthP p = some b) : EvT (tTru f) s b := by
  obtain ⟨a, h1, h2⟩ := hf
  unfold EvT tTru
  rw [bnd_ok h1]
  simp only [truA, h2, ht]
theorem evt_not {t : PM Bool} (h : EvT t s b) : EvT (tNotP t) s (!b) := by
  unfold EvT tNotP
  rw [bnd_ok h]
  rfl
theorem evt_and {t u : PM Bool} {b2 : Bool} (h : EvT t s b) (h2 : b = true → EvT u s b2) : EvT (tAndP t u) s (b && b2) := by
  unfold EvT tAndP
  rw [bnd_ok h]
  cases b with
  | true => rw [if_pos rfl]; exact h2 rfl
  | false => rfl
theorem evt_or {t u : PM Bool} {b2 : Bool} (h : EvT t s b) (h2 : b = false → EvT u s b2) : EvT (tOrP t u) s (b || b2) := by
  unfold EvT tOrP
  rw [bnd_ok h]
  cases b with
  | true => rfl
  | false => rw [if_neg (by simp)]; exact h2 rfl
theorem ev_if {t : PM Bool} (h : EvT t s b) (h1 : b = true → Ev f s p fr) (h2 : b = false → Ev g s p fr) : Ev (eIf t f g) s p fr := by
  unfold Ev eIf
  rw [bnd_ok h]
  cases b with
  | true => rw [if_pos rfl]; exact h1 rfl
  | false => rw [if_neg (by simp)]; exact h2 rfl
theorem ev_not (hf : Rdv f s p) (ht : truthP p = some b) : Ev (eNot f) s (.bl (!b)) false := by
  unfold Ev eNot
  rw [bnd_ok (evt_tru hf ht)]
  rfl
theorem ev_chain {o o2 : Op2} {b2 : Bool} (hf : Ev f s p fr) (hg : Ev g s q fr2) (ho : o p q = some (.bl b, fr3)) (hh : b = true → ∃ fr4 fr5, Ev h s r fr4 ∧ o2 q r = some (.bl b2, fr5)) : ∃ fr6, Ev (eChain o o2 f g h) s (.bl (b && b2)) fr6 := by
  cases b with
  | true =>
    obtain ⟨fr4, fr5, h1, h2⟩ := hh rfl
    refine ⟨fr5, ?_⟩
    unfold Ev eChain
    rw [bnd_ok hf, bnd_ok hg]
    have e : opt2 o (.val p fr) (.val q fr2) s = .ok (.val (.bl true) fr3) s := by simp only [opt2, rv, ho, fin, ret]
    rw [bnd_ok e, bnd_ok (show asB (.val (.bl true) fr3) s = .ok true s from rfl), if_pos rfl, bnd_ok h1]
    simp only [opt2, wait, rv, h2, fin, ret, Bool.true_and]
  | false =>
    refine ⟨false, ?_⟩
    unfold Ev eChain
    rw [bnd_ok hf, bnd_ok hg]
    have e : opt2 o (.val p fr) (.val q fr2) s = .ok (.val (.bl false) fr3) s := by simp only [opt2, rv, ho, fin, ret]
    rw [bnd_ok e, bnd_ok (show asB (.val (.bl false) fr3) s = .ok false s from rfl)]
    rfl
/-- what is walked -/
theorem iv_of {ps : List PV} (hf : Ev f s p fr) (hp : (match p with
    | .lst ps => some ps
    | .tup ps => some ps
    | .scr ns => some (ns.map PV.int)
    | .rng lo hi => if rOk lo hi then some (rngL lo (hi - lo).toNat) else none
    | _ => none) = some ps) : iVal f s = .ok ps s := by
  unfold iVal
  rw [bnd_ok hf, bnd_ok (show rel1 (.val p fr) s = .ok p s from rfl)]
  cases p <;> simp only [reduceCtorEq, Option.some.injEq] at hp <;> first | (subst hp; rfl) | (split at hp; (cases hp; rename_i h; simp only [h, if_true]; rfl); cases hp)
theorem ev_comp {own : List Nat} {I : PM (List PV)} {G : PV → PM Unit} {E : PM Arg} (F : PV → PV) (hI : I s = .ok ps s) (hl : ps.length ≤ sizeLine)
    (h : ∀ p ∈ ps, ∃ s1, G p (wipeS s own) = .ok () s1 ∧ wipeS s1 own = wipeS s own ∧ ∃ fr, Ev E s1 (F p) fr) : Ev (eComp own (iOf I) G (ret true) E) s (.lst (ps.map F)) true := by
  refine eComp_map F (s0 := s) (by unfold iOf; rw [bnd_ok hI]; rfl) hl fun p hp => ?_
  obtain ⟨s1, h1, h2, fr, h3⟩ := h p hp
  exact ⟨s1, h1, fr, s1, h3, h2⟩
theorem ev_compF {own : List Nat} {I : PM (List PV)} {G : PV → PM Unit} {T : PM Bool} {E : PM Arg} (F : PV → PV) (c : PV → Bool) (hI : I s = .ok ps s) (hl : ps.length ≤ sizeLine)
    (h : ∀ p ∈ ps, ∃ s1, G p (wipeS s own) = .ok () s1 ∧ wipeS s1 own = wipeS s own ∧ EvT T s1 (c p) ∧ (c p = true → ∃ fr, Ev E s1 (F p) fr)) : Ev (eComp own (iOf I) G T E) s (.lst ((ps.filter c).map F)) true := by
  refine eComp_pure F c (s0 := s) (by unfold iOf; rw [bnd_ok hI]; rfl) hl fun p hp => ?_
  obtain ⟨s1, h1, h2, h3, h4⟩ := h p hp
  exact ⟨s1, h1, s1, h3, fun hc => let ⟨fr, h5⟩ := h4 hc; ⟨fr, s1, h5, h2⟩, fun _ => h2⟩
theorem ev_call {den : Den} {io : Option PV} (ha : EvA fs s ps) (hd : den ps = .ok r fr3 io) : Ev (eCall den fs) s r fr3 := by
  obtain ⟨as, h1, h2, _, h4⟩ := ha
  unfold Ev eCall
  rw [bnd_ok h1]
  simp only [callD, h2, hd, h4, Bool.true_or, if_true]
theorem exc_call {den : Den} {c : Str} (ha : RdA fs s ps) (hd : den ps = .exc c) : eCall den fs s = .exc c s := by
  obtain ⟨as, h1, h2⟩ := ha
  unfold eCall
  rw [bnd_ok h1]
  simp only [callD, h2, hd]
/-- statements -/
theorem s_set {n : Nat} (hf : Ev f s p fr) (hi : n < s.length) : sSet n f s = .ok .next (s.set n (some (fr, p))) := by
  unfold sSet
  rw [bnd_ok hf, bnd_ok (show setA n (.val p fr) s = .ok () (s.set n (some (fr, p))) by show setV n p fr s = _; unfold setV; rw [if_pos hi])]
  rfl
theorem s_seq {F G : PM Fl} {s1 : SE} (h : F s = .ok .next s1) : sSeq F G s = G s1 := by unfold sSeq; rw [h]
theorem s_seq_ret {F G : PM Fl} {s1 : SE} {a : Arg} (h : F s = .ok (.ret a) s1) : sSeq F G s = .ok (.ret a) s1 := by unfold sSeq; rw [h]
theorem s_seq_exc {F G : PM Fl} {s1 : SE} {c : Str} (h : F s = .exc c s1) : sSeq F G s = .exc c s1 := by unfold sSeq; rw [h]
theorem s_ret (hf : Ev f s p fr) : sRet f s = .ok (.ret (.val p fr)) s := by unfold sRet; rw [bnd_ok hf]; rfl
theorem s_if {t : PM Bool} {F G : PM Fl} (h : EvT t s b) : sIf t F G s = if b = true then F s else G s := by unfold sIf; rw [bnd_ok h]; cases b <;> rfl
theorem s_expr {a : Arg} {s1 : SE} (h : f s = .ok a s1) : sExpr f s = .ok .next s1 := by unfold sExpr; rw [bnd_ok h]; rfl
theorem den_ret {n : Nat} {F : PM Fl} {s1 : SE} (h : F (st0 n ps) = .ok (.ret (.val p fr)) s1) : denOf n F ps = .ok p fr none := by unfold denOf; rw [h]; rfl
theorem den_exc {n : Nat} {F : PM Fl} {s1 : SE} {c : Str} (h : F (st0 n ps) = .exc c s1) : denOf n F ps = .exc c := by unfold denOf; rw [h]
theorem den_next {n : Nat} {F : PM Fl} {s1 : SE} (h : F (st0 n ps) = .ok .next s1) : denOf n F ps = .ok .non false none := by unfold denOf; rw [h]
end
section
variable {s : SE} {α : Type} {fr : Bool} {p : PV} {i : Nat}
/-- over things that are encoded, one name -/
theorem ev_compX {I : PM (List PV)} {E : PM Arg} (xs : List α) (enc : α → PV) (F : α → PV) (hI : I s = .ok (xs.map enc) s) (hl : xs.length ≤ sizeLine) (hi : i < s.length) (h : ∀ x ∈ xs, ∃ fr, Ev E (s.set i (some (false, enc x))) (F x) fr) :
    Ev (eComp [i] (iOf I) (gNm i) (ret true) E) s (.lst (xs.map F)) true := by
  have key : ∀ (ys : List α), (∀ x ∈ ys, x ∈ xs) → compL [i] (gNm i) (ret true) E (ys.map enc) (s.set i none) = .ok (ys.map F) (s.set i none) := by
    intro ys
    induction ys with
    | nil => intro _; rfl
    | cons y ys ih =>
      intro hy
      obtain ⟨fr, h1⟩ := h y (hy y List.mem_cons_self)
      have e1 : nx (gNm i (enc y)) (s.set i none) = .ok () (s.set i (some (false, enc y))) := by
        unfold nx gNm setV
        simp only [List.length_set, hi, if_true, List.set_set]
      rw [List.map_cons]
      unfold compL
      rw [bnd_ok e1, bnd_ok (show ret true (s.set i (some (false, enc y))) = .ok true (s.set i (some (false, enc y))) from rfl), if_pos rfl, bnd_ok h1, bnd_ok (show rel1 (Arg.val (F y) fr) _ = .ok (F y) _ from rfl),
        bnd_ok (show wp [i] (s.set i (some (false, enc y))) = .ok () (s.set i none) by unfold wp wipeS wipeS; rw [List.set_set]), bnd_ok (ih fun x hx => hy x (List.mem_cons_of_mem _ hx))]
      rfl
  unfold Ev eComp
  rw [bnd_ok (show iOf I s = .ok (xs.map enc, []) s by unfold iOf; rw [bnd_ok hI]; rfl)]
  simp only [List.nil_append, List.length_map, hl, if_true]
  rw [show wipeS s [i] = s.set i none from rfl, key xs fun _ h => h]
  simp only
  rw [show s.set i none = wipeS s [i] from rfl, unw_wipe]
/-- .. with a test -/
theorem ev_compXF {I : PM (List PV)} {T : PM Bool} {E : PM Arg} (xs : List α) (enc : α → PV) (c : α → Bool) (F : α → PV) (hI : I s = .ok (xs.map enc) s) (hl : xs.length ≤ sizeLine) (hi : i < s.length) (hT : ∀ x ∈ xs, EvT T (s.set i (some (false, enc x))) (c x)) (h : ∀ x ∈ xs, c x = true → ∃ fr, Ev E (s.set i (some (false, enc x))) (F x) fr) :
    Ev (eComp [i] (iOf I) (gNm i) T E) s (.lst ((xs.filter c).map F)) true := by
  have key : ∀ (ys : List α), (∀ x ∈ ys, x ∈ xs) → compL [i] (gNm i) T E (ys.map enc) (s.set i none) = .ok ((ys.filter c).map F) (s.set i none) := by
    intro ys
    induction ys with
    | nil => intro _; rfl
    | cons y ys ih =>
      intro hy
      have ht := hT y (hy y List.mem_cons_self)
      have ih := ih fun x hx => hy x (List.mem_cons_of_mem _ hx)
      have e1 : nx (gNm i (enc y)) (s.set i none) = .ok () (s.set i (some (false, enc y))) := by
        unfold nx gNm setV
        simp only [List.length_set, hi, if_true, List.set_set]
      have e2 : wp [i] (s.set i (some (false, enc y))) = .ok () (s.set i none) := by unfold wp wipeS wipeS; rw [List.set_set]
      rw [List.map_cons]
      unfold compL
      rw [bnd_ok e1, bnd_ok ht]
      cases hc : c y with
      | true =>
        obtain ⟨fr, h1⟩ := h y (hy y List.mem_cons_self) hc
        rw [if_pos rfl, bnd_ok h1, bnd_ok (show rel1 (Arg.val (F y) fr) _ = .ok (F y) _ from rfl), bnd_ok e2, bnd_ok ih, List.filter_cons, if_pos hc]
        rfl
      | false => rw [if_neg (by simp), bnd_ok e2, ih, List.filter_cons, if_neg (by simp [hc])]
  unfold Ev eComp
  rw [bnd_ok (show iOf I s = .ok (xs.map enc, []) s by unfold iOf; rw [bnd_ok hI]; rfl)]
  simp only [List.nil_append, List.length_map, hl, if_true]
  rw [show wipeS s [i] = s.set i none from rfl, key xs fun _ h => h]
  simp only
  rw [show s.set i none = wipeS s [i] from rfl, unw_wipe]
def eI (k : Nat) : PV := .int (k : Int)
theorem iv_rng {f : PM Arg} {n : Nat} (hf : Ev f s (.rng 0 n) fr) (hn : n < 2 ^ 62) : iVal f s = .ok ((List.range n).map eI) s := by
  have e : rngL 0 ((n : Int) - 0).toNat = (List.range n).map eI := by
    unfold rngL eI
    simp
  refine iv_of hf ?_
  have h : rOk 0 (n : Int) = true := by unfold rOk; rw [decide_eq_true_eq]; omega
  simp only [h, if_true, e]
theorem iv_tup {f : PM Arg} {ps : List PV} (hf : Ev f s (.tup ps) fr) : iVal f s = .ok ps s := iv_of hf rfl
theorem iv_lst {f : PM Arg} {ps : List PV} (hf : Ev f s (.lst ps) fr) : iVal f s = .ok ps s := iv_of hf rfl
end
/-! ### loops -/
section
variable {α β : Type} {G : PV → PM Unit} {F : PM Fl} {enc : α → PV} {step : β → α → β} {P : β → SE → Prop}
theorem for_rel : ∀ (xs : List α) (b : β) (s : SE), (∀ b x s, x ∈ xs → P b s → ∃ s1, G (enc x) s = .ok () s1 ∧ ∃ s2, F s1 = .ok .next s2 ∧ P (step b x) s2) → P b s → ∃ s', forL G F (xs.map enc) s = .ok .next s' ∧ P (xs.foldl step b) s'
  | [], b, s, _, hP => ⟨s, rfl, hP⟩
  | x :: xs, b, s, h, hP => by
    obtain ⟨s1, h1, s2, h2, h3⟩ := h b x s List.mem_cons_self hP
    obtain ⟨s', h4, h5⟩ := for_rel xs (step b x) s2 (fun b y s hy => h b y s (List.mem_cons_of_mem _ hy)) h3
    refine ⟨s', ?_, h5⟩
    rw [List.map_cons]
    unfold forL
    rw [bnd_ok (show nx (G (enc x)) s = .ok () s1 by unfold nx; rw [h1])]
    simp only [h2, h4]
theorem for_relN {P : β → Nat → SE → Prop} : ∀ (xs : List α) (b : β) (n : Nat) (s : SE), (∀ b x n s, x ∈ xs → P b (n + 1) s → ∃ s1, G (enc x) s = .ok () s1 ∧ ∃ s2, F s1 = .ok .next s2 ∧ P (step b x) n s2) → P b (n + xs.length) s → ∃ s', forL G F (xs.map enc) s = .ok .next s' ∧ P (xs.foldl step b) n s'
  | [], b, n, s, _, hP => ⟨s, rfl, hP⟩
  | x :: xs, b, n, s, h, hP => by
    obtain ⟨s1, h1, s2, h2, h3⟩ := h b x (n + xs.length) s List.mem_cons_self (by rw [List.length_cons, ← Nat.add_assoc] at hP; exact hP)
    obtain ⟨s', h4, h5⟩ := for_relN xs (step b x) n s2 (fun b y n s hy => h b y n s (List.mem_cons_of_mem _ hy)) h3
    refine ⟨s', ?_, h5⟩
    rw [List.map_cons]
    unfold forL
    rw [bnd_ok (show nx (G (enc x)) s = .ok () s1 by unfold nx; rw [h1])]
    simp only [h2, h4]
theorem s_for {I : PM (List PV)} {ps : List PV} {s s1 : SE} (h : I s = .ok ps s1) : sFor I G F s = forL G F ps s1 := by unfold sFor; rw [bnd_ok h]
/-- the first that leaves by a return -/
theorem for_ret {r : α → Arg} {c : α → Bool} {P : SE → Prop} : ∀ (xs : List α) (s : SE), (∀ x s, x ∈ xs → P s → ∃ s1, G (enc x) s = .ok () s1 ∧ ∃ s2, F s1 = .ok (if c x then .ret (r x) else .next) s2 ∧ P s2) → P s →
    ∃ s', P s' ∧ forL G F (xs.map enc) s = .ok (match xs.find? c with
      | some x => .ret (r x)
      | none => .next) s'
  | [], s, _, hP => ⟨s, hP, rfl⟩
  | x :: xs, s, h, hP => by
    obtain ⟨s1, h1, s2, h2, h3⟩ := h x s List.mem_cons_self hP
    rw [List.map_cons]
    unfold forL
    rw [bnd_ok (show nx (G (enc x)) s = .ok () s1 by unfold nx; rw [h1])]
    simp only [h2, List.find?_cons]
    cases hc : c x with
    | true => exact ⟨s2, h3, by simp⟩
    | false =>
      obtain ⟨s', h4, h5⟩ := for_ret xs s2 (fun y s hy => h y s (List.mem_cons_of_mem _ hy)) h3
      exact ⟨s', h4, by simpa using h5⟩
theorem g_nm {i : Nat} {p : PV} {s : SE} (h : i < s.length) : gNm i p s = .ok () (s.set i (some (false, p))) := by unfold gNm setV; rw [if_pos h]
theorem g_tp2 {i j : Nat} {p q : PV} {s : SE} (hi : i < s.length) (hj : j < s.length) : gTp 2 (gsCons (gNm i) (gsCons (gNm j) gsNil)) (.tup [p, q]) s = .ok () ((s.set i (some (false, p))).set j (some (false, q))) := by
  show bnd (gNm i p) (fun _ => bnd (gNm j q) fun _ => gsNil []) s = _
  rw [bnd_ok (g_nm hi), bnd_ok (g_nm (by rw [List.length_set]; exact hj))]
  rfl
end
end HF
end

section
set_option Elab.async false
set_option linter.all false
set_option maxRecDepth 100000
set_option maxHeartbeats 1000000
set_option autoImplicit false
/-! HT: the tape that every law draws from. -/
namespace HF
open PySem PySem.Spec PyProof.Rows L2
section
variable {s s1 s2 : SE} {f g h : PM Arg} {fs : PM (List Arg)} {p q r d d' : PV} {ps : List PV} {fr fr2 fr3 b : Bool} {i : Nat}
/-- f gives p (fr: new), the state is then s1 -/
def EvS (f : PM Arg) (s : SE) (p : PV) (fr : Bool) (s1 : SE) : Prop := f s = .ok (.val p fr) s1
theorem evs_op2 {o : Op2} (hf : EvS f s p fr s1) (hg : EvS g s1 q fr2 s2) (ho : o p q = some (r, fr3)) : EvS (eOp2 o f g) s r fr3 s2 := by
  unfold EvS eOp2
  rw [bnd_ok hf, bnd_ok hg]
  simp only [opt2, wait, rv, ho, fin, ret]
theorem evs_opN1 {o : OpN} (hf : EvS f s p fr s1) (ho : o [p] = some (r, fr3)) : EvS (eOpN o (aCons f aNil)) s r fr3 s1 := by
  unfold EvS eOpN
  rw [bnd_ok (show aCons f aNil s = .ok [.val p false] s1 by unfold aCons; rw [bnd_ok hf]; rfl)]
  simp only [optN, rvs, rv, ho, fin, ret]
theorem evs_compX {α : Type} {I : PM (List PV)} {E : PM Arg} (xs : List α) (enc : α → PV) (F : α → PV) (hI : I s = .ok (xs.map enc) s1) (hl : xs.length ≤ sizeLine) (hi : i < s1.length) (h : ∀ x ∈ xs, ∃ fr, Ev E (s1.set i (some (false, enc x))) (F x) fr) :
    EvS (eComp [i] (iOf I) (gNm i) (ret true) E) s (.lst (xs.map F)) true s1 := by
  have := ev_compX (I := ret (xs.map enc)) (s := s1) xs enc F rfl hl hi h
  unfold Ev eComp at this
  unfold EvS eComp
  rw [bnd_ok (show iOf I s = .ok (xs.map enc, []) s1 by unfold iOf; rw [bnd_ok hI]; rfl)]
  rw [bnd_ok (show iOf (ret (xs.map enc)) s1 = .ok (xs.map enc, []) s1 from rfl)] at this
  exact this
theorem s_retS (hf : EvS f s p fr s1) : sRet f s = .ok (.ret (.val p fr)) s1 := by unfold sRet; rw [bnd_ok hf]; rfl
theorem evs_callM {den : Den} {p0 q0 : PV} (hi : s[i]? = some (some (true, p0))) (hf : Ev f s q fr) (hd : den [p0, q] = .ok p fr2 (some q0)) : EvS (eCallM den (aCons (eVar i) (aCons f aNil))) s p fr2 (s.set i (some (true, q0))) := by
  unfold EvS eCallM
  have e1 : eVar i s = .ok (.bor i) s := by unfold eVar; simp only [hi]
  have e2 : aCons (eVar i) (aCons f aNil) s = .ok [.bor i, .val q false] s := by
    unfold aCons
    rw [bnd_ok e1, bnd_ok (show bnd f _ s = .ok [.val q false] s by rw [bnd_ok hf]; rfl)]
    rfl
  rw [bnd_ok e2]
  simp only [callM]
  rw [bnd_ok (show relAll [Arg.val q false] s = .ok [q] s from rfl)]
  simp only [hi, hd]
theorem s_sub {op : OpS} (hf : Ev f s p fr) (hi : s[i]? = some (some (true, d))) (hg : Ev g s q fr2) (ho : op d q p = some d') : sAsg f (gSubP i op g) s = .ok .next (s.set i (some (true, d'))) := by
  unfold sAsg
  rw [bnd_ok hf, bnd_ok (show rel1 (.val p fr) s = .ok p s from rfl)]
  have e : nx (gSubP i op g p) s = .ok () (s.set i (some (true, d'))) := by
    unfold nx gSubP
    simp only [hi]
    rw [bnd_ok hg, bnd_ok (show rel1 (.val q fr2) s = .ok q s from rfl)]
    simp only [hi, ho]
  rw [bnd_ok e]
  rfl
theorem s_setS {n : Nat} (hf : EvS f s p fr s1) (hi : n < s1.length) : sSet n f s = .ok .next (s1.set n (some (fr, p))) := by
  unfold sSet
  rw [bnd_ok hf, bnd_ok (show setA n (.val p fr) s1 = .ok () (s1.set n (some (fr, p))) by show setV n p fr s1 = _; unfold setV; rw [if_pos hi])]
  rfl
end
theorem sq {F G : PM Fl} {s s1 : SE} {r : Rs Fl} (h : F s = .ok .next s1) (h2 : G s1 = r) : sSeq F G s = r := by rw [s_seq h, h2]
theorem sf {I : PM (List PV)} {G : PV → PM Unit} {F : PM Fl} {ps : List PV} {s s1 : SE} {r : Rs Fl} (h : I s = .ok ps s1) (h2 : forL G F ps s1 = r) : sFor I G F s = r := by rw [s_for h, h2]
theorem si {t : PM Bool} {F G : PM Fl} {s : SE} {b : Bool} {r : Rs Fl} (h : EvT t s b) (h1 : b = true → F s = r) (h2 : b = false → G s = r) : sIf t F G s = r := by
  rw [s_if h]
  cases b with
  | true => rw [if_pos rfl, h1 rfl]
  | false => rw [if_neg (by simp), h2 rfl]
/-- a check that finds nothing -/
theorem sno {t : PM Bool} {F G : PM Fl} {s : SE} {r : Rs Fl} (h : EvT t s false) (h2 : G s = r) : sIf t F G s = r := si h (fun z => by cases z) fun _ => h2
theorem iv_own {s : SE} {i : Nat} {ps : List PV} (h : s[i]? = some (some (true, .lst ps))) : iVal (eVar i) s = .ok ps (s.set i (some (false, .lst ps))) := by
  unfold iVal
  rw [bnd_ok (show eVar i s = .ok (.bor i) s by unfold eVar; simp only [h]), bnd_ok (show rel1 (.bor i) s = .ok (.lst ps) (s.set i (some (false, .lst ps))) by unfold rel1; simp only [h])]
  rfl
/-! ### the tape -/
def Ftape : PM Fl := (sSeq (sSet 2 (eComp [1] (iOf (iVal (eVar 0))) (gNm 1) (ret true) (eOpN opAbs (aCons (eOpN opInt (aCons (eVar 1) aNil)) aNil))))
  (sSeq (sSet 3 (eC (.int 7)))
  (sSeq (sFor (iVal (eVar 2)) (gNm 1) (sSeq (sSet 3 (eOp2 opMod (eOpN opInt (aCons (eOp2 opAdd (eOp2 opMul (eVar 3) (eC (.int 31))) (eVar 1)) aNil)) (eC (.int 2147483647))))
  sNext))
  (sSeq (sRet (eDisp [(.inr "cells"), (.inr "at"), (.inr "left"), (.inr "seed"), (.inr "salt")] [(eVar 2), (eC (.int 0)), (eC (.int 0)), (eVar 3), (eC (.int 0))]))
  sNext))))
def Ftake : PM Fl := (sSeq (sIf (tAndP (tBool (eOp2 opEq (eOp2 opIx (eVar 0) (eC (.str "left"))) (eC (.int 0)))) (tBool (eOp2 opLt (eOp2 opIx (eVar 0) (eC (.str "at"))) (eOpN opLen (aCons (eOp2 opIx (eVar 0) (eC (.str "cells"))) aNil))))) (sSeq (sAsg (eOp2 opIx (eOp2 opIx (eVar 0) (eC (.str "cells"))) (eOp2 opIx (eVar 0) (eC (.str "at")))) (gSubP 0 opSet (eC (.str "left"))))
  (sSeq (sAsg (eOp2 opAdd (eOp2 opIx (eVar 0) (eC (.str "at"))) (eC (.int 1))) (gSubP 0 opSet (eC (.str "at"))))
  sNext)) sNext)
  (sSeq (sIf (tBool (eOp2 opGt (eOp2 opIx (eVar 0) (eC (.str "left"))) (eC (.int 0)))) (sSeq (sSet 2 (eOp2 opMod (eOpN opInt (aCons (eOp2 opIx (eVar 0) (eC (.str "left"))) aNil)) (eVar 1)))
  (sSeq (sAsg (eOp2 opFdiv (eOp2 opIx (eVar 0) (eC (.str "left"))) (eVar 1)) (gSubP 0 opSet (eC (.str "left"))))
  (sSeq (sRet (eVar 2))
  sNext))) sNext)
  (sSeq (sAsg (eOp2 opAdd (eOp2 opIx (eVar 0) (eC (.str "salt"))) (eC (.int 1))) (gSubP 0 opSet (eC (.str "salt"))))
  (sSeq (sSet 3 (eOp2 opMod (eOpN opInt (aCons (eOp2 opAdd (eOp2 opMul (eOp2 opIx (eVar 0) (eC (.str "seed"))) (eC (.int 48271))) (eOp2 opMul (eOp2 opIx (eVar 0) (eC (.str "salt"))) (eC (.int 69621)))) aNil)) (eC (.int 2147483647))))
  (sSeq (sSet 3 (eOp2 opMod (eOpN opInt (aCons (eOp2 opAdd (eOp2 opAdd (eOp2 opMul (eVar 3) (eVar 3)) (eOp2 opMul (eOp2 opIx (eVar 0) (eC (.str "salt"))) (eC (.int 40692)))) (eC (.int 12345))) aNil)) (eC (.int 2147483399))))
  (sSeq (sRet (eOp2 opMod (eOpN opInt (aCons (eVar 3) aNil)) (eVar 1)))
  sNext))))))
def tapeV (cells : List Int) (at_ left seed salt : Int) : PV := .dct 0 [(.str "cells", .lst (cells.map .int)), (.str "at", .int at_), (.str "left", .int left), (.str "seed", .int seed), (.str "salt", .int salt)]
section
variable {c : List Int} {a l e t x : Int}
theorem t_cells : opIx (tapeV c a l e t) (.str "cells") = some (.lst (c.map .int), false) := by rfl
theorem t_at : opIx (tapeV c a l e t) (.str "at") = some (.int a, false) := by rfl
theorem t_left : opIx (tapeV c a l e t) (.str "left") = some (.int l, false) := by rfl
theorem t_seed : opIx (tapeV c a l e t) (.str "seed") = some (.int e, false) := by rfl
theorem t_salt : opIx (tapeV c a l e t) (.str "salt") = some (.int t, false) := by rfl
theorem t_set_at : opSet (tapeV c a l e t) (.str "at") (.int x) = some (tapeV c x l e t) := by rfl
theorem t_set_left : opSet (tapeV c a l e t) (.str "left") (.int x) = some (tapeV c a x e t) := by rfl
theorem t_set_salt : opSet (tapeV c a l e t) (.str "salt") (.int x) = some (tapeV c a l e x) := by rfl
end
/-- a tape with N draws to come -/
def Tp (N : Nat) (p : PV) : Prop := ∃ (c : List Int) (a l e t : Int), p = tapeV c a l e t ∧ (∀ x ∈ c, 0 ≤ x) ∧ 0 ≤ a ∧ 0 ≤ l ∧ 0 ≤ e ∧ e < 2147483647 ∧ 0 ≤ t ∧ t + N ≤ 2 ^ 900
theorem eq_ii (a b : Int) : opEq (.int a) (.int b) = some (.bl (decide (a = b)), false) := by
  rw [opEq_data (by intro _ _ h; cases h)]
  simp only [okb, peq, Bool.and_self, if_true, sB]
theorem ne_ii (a b : Int) : opNe (.int a) (.int b) = some (.bl (!decide (a = b)), false) := by
  rw [opNe_data (by intro _ _ h; cases h)]
  simp only [okb, peq, Bool.and_self, if_true, sB]
theorem mulOk_of {i j : Int} (hi : i.natAbs < 2 ^ 1000) (hj : j.natAbs < 2 ^ 1000) : mulOk i j = true := by
  have f : ∀ x : Int, x.natAbs < 2 ^ 1000 → x.natAbs.log2 < 1000 := fun x h => by
    by_cases z : x.natAbs = 0
    · rw [z]; decide
    · exact (Nat.log2_lt z).mpr h
  have h1 := f _ hi
  have h2 := f _ hj
  unfold mulOk
  rw [decide_eq_true_eq]
  omega
theorem mul_ii {i j : Int} (hi : i.natAbs < 2 ^ 1000) (hj : j.natAbs < 2 ^ 1000) : opMul (.int i) (.int j) = some (.int (i * j), false) := by
  simp only [opMul, mulOk_of hi hj, if_true, sI]
theorem mod_ii {i j : Int} (h : 0 < j) : opMod (.int i) (.int j) = some (.int (i % j), false) := by
  simp only [opMod, h, if_true, sI]
theorem fdiv_ii {i j : Int} (h : 0 < j) (hj : j < 2 ^ 1000) : opFdiv (.int i) (.int j) = some (.int (i / j), false) := by
  have : divOk j = true := by
    unfold divOk
    rw [Bool.and_eq_true, decide_eq_true_eq, decide_eq_true_eq]
    refine ⟨h, ?_⟩
    have : j.natAbs.log2 < 1000 := (Nat.log2_lt (by omega)).mpr (by omega)
    omega
  simp only [opFdiv, this, if_true, sI]
theorem den_io {n : Nat} {F : PM Fl} {ps : List PV} {p q : PV} {fr : Bool} {s1 : SE} (h : F (st1 n ps) = .ok (.ret (.val p fr)) s1) (h0 : s1[0]? = some (some (true, q))) : denIO n F ps = .ok p fr (some q) := by
  unfold denIO
  simp only [h, h0]
theorem d_take {N : Nat} {p : PV} {m : Int} (h : Tp (N + 1) p) (hm : 0 < m) (hm2 : m < 2 ^ 1000) : ∃ d p', denIO 4 Ftake [p, .int m] = .ok (.int d) false (some p') ∧ 0 ≤ d ∧ d < m ∧ Tp N p' := by
  obtain ⟨c, a, l, e, t, rfl, hc, ha, hl, he, he2, ht, ht2⟩ := h
  have step1 : ∃ a' l', 0 ≤ a' ∧ 0 ≤ l' ∧ (sIf (tAndP (tBool (eOp2 opEq (eOp2 opIx (eVar 0) (eC (.str "left"))) (eC (.int 0)))) (tBool (eOp2 opLt (eOp2 opIx (eVar 0) (eC (.str "at"))) (eOpN opLen (aCons (eOp2 opIx (eVar 0) (eC (.str "cells"))) aNil))))) (sSeq (sAsg (eOp2 opIx (eOp2 opIx (eVar 0) (eC (.str "cells"))) (eOp2 opIx (eVar 0) (eC (.str "at")))) (gSubP 0 opSet (eC (.str "left"))))
  (sSeq (sAsg (eOp2 opAdd (eOp2 opIx (eVar 0) (eC (.str "at"))) (eC (.int 1))) (gSubP 0 opSet (eC (.str "at"))))
  sNext)) sNext) [some (true, tapeV c a l e t), some (false, .int m), none, none] = .ok .next [some (true, tapeV c a' l' e t), some (false, .int m), none, none] := by
    have c1 : EvT (tAndP (tBool (eOp2 opEq (eOp2 opIx (eVar 0) (eC (.str "left"))) (eC (.int 0)))) (tBool (eOp2 opLt (eOp2 opIx (eVar 0) (eC (.str "at"))) (eOpN opLen (aCons (eOp2 opIx (eVar 0) (eC (.str "cells"))) aNil))))) [some (true, tapeV c a l e t), some (false, .int m), none, none] (decide (l = 0) && decide (a < (c.length : Int))) := by
      refine evt_and (evt_bool (ev_op2 (ev_op2 (rd_var rfl) ev_c.rd t_left).rd ev_c.rd (eq_ii _ _))) fun _ => evt_bool (fr := false) (ev_op2 (ev_op2 (rd_var rfl) ev_c.rd t_at).rd (ev_opN (r := .int c.length) (fr3 := false) (rda_cons (ev_op2 (rd_var rfl) ev_c.rd t_cells).rd rda_nil) ?_).rd rfl)
      simp only [opLen, List.length_map, sI]
    rw [s_if c1]
    by_cases h : l = 0 ∧ a < (c.length : Int)
    · have ha2 : a.toNat < c.length := by omega
      have e1 : opIx (.lst (c.map .int)) (.int a) = some (.int c[a.toNat], false) := by
        show (L2.atI _ a).map _ = _
        unfold L2.atI L2.ixN
        rw [List.length_map, if_pos ha, if_pos (by omega)]
        simp [List.getElem?_eq_getElem ha2]
      refine ⟨a + 1, c[a.toNat], by omega, hc _ (List.getElem_mem ha2), ?_⟩
      rw [if_pos (by simp only [h.1, h.2, decide_true, Bool.and_self])]
      rw [s_seq (s_sub (ev_op2 (ev_op2 (rd_var rfl) ev_c.rd t_cells).rd (ev_op2 (rd_var rfl) ev_c.rd t_at).rd e1) rfl ev_c t_set_left)]
      rw [s_seq (s_sub (ev_op2 (p := .int a) (q := .int 1) (ev_op2 (rd_var rfl) ev_c.rd t_at).rd ev_c.rd rfl) rfl ev_c t_set_at)]
      rfl
    · refine ⟨a, l, ha, hl, ?_⟩
      rw [if_neg (by simpa using h)]
      rfl
  obtain ⟨a', l', ha', hl', e1⟩ := step1
  have gt : EvT (tBool (eOp2 opGt (eOp2 opIx (eVar 0) (eC (.str "left"))) (eC (.int 0)))) [some (true, tapeV c a' l' e t), some (false, .int m), none, none] (decide (0 < l')) :=
    evt_bool (fr := false) (ev_op2 (ev_op2 (rd_var rfl) ev_c.rd t_left).rd ev_c.rd rfl)
  by_cases hp : 0 < l'
  · refine ⟨l' % m, tapeV c a' (l' / m) e t, ?_, Int.emod_nonneg _ (by omega), Int.emod_lt_of_pos _ hm, c, a', l' / m, e, t, rfl, hc, ha', Int.ediv_nonneg hl' (by omega), he, he2, ht, by omega⟩
    refine den_io (s1 := [some (true, tapeV c a' (l' / m) e t), some (false, .int m), some (false, .int (l' % m)), none]) ?_ rfl
    show Ftake [some (true, tapeV c a l e t), some (false, .int m), none, none] = _
    unfold Ftake
    rw [s_seq e1]
    refine s_seq_ret ?_
    rw [s_if gt, if_pos (by simpa using hp)]
    rw [s_seq (s_set (ev_op2 (ev_opN (rda_cons (ev_op2 (rd_var rfl) ev_c.rd t_left).rd rda_nil) rfl).rd (rd_var rfl) (mod_ii hm)) (by simp))]
    rw [s_seq (s_sub (ev_op2 (ev_op2 (rd_var rfl) ev_c.rd t_left).rd (rd_var rfl) (fdiv_ii hm hm2)) rfl ev_c t_set_left)]
    exact s_seq_ret (s_ret (ev_var rfl))
  · have r1 : 0 ≤ (e * 48271 + (t + 1) * 69621) % 2147483647 := Int.emod_nonneg _ (by decide)
    have r2 : (e * 48271 + (t + 1) * 69621) % 2147483647 < 2147483647 := Int.emod_lt_of_pos _ (by decide)
    generalize hx : (e * 48271 + (t + 1) * 69621) % 2147483647 = x at r1 r2
    generalize hy : (x * x + (t + 1) * 40692 + 12345) % 2147483399 = y
    refine ⟨y % m, tapeV c a' l' e (t + 1), ?_, Int.emod_nonneg _ (by omega), Int.emod_lt_of_pos _ hm, c, a', l', e, t + 1, rfl, hc, ha', hl', he, he2, by omega, by omega⟩
    refine den_io (s1 := [some (true, tapeV c a' l' e (t + 1)), some (false, .int m), none, some (false, .int y)]) ?_ rfl
    show Ftake [some (true, tapeV c a l e t), some (false, .int m), none, none] = _
    unfold Ftake
    rw [s_seq e1]
    rw [s_seq (s1 := [some (true, tapeV c a' l' e t), some (false, .int m), none, none]) (by rw [s_if gt, if_neg (by simpa using hp)]; rfl)]
    rw [s_seq (s_sub (ev_op2 (p := .int t) (q := .int 1) (ev_op2 (rd_var rfl) ev_c.rd t_salt).rd ev_c.rd rfl) rfl ev_c t_set_salt)]
    have hs : ∀ k : Int, k.natAbs < 100000 → opMul (.int (t + 1)) (.int k) = some (.int ((t + 1) * k), false) := fun k hk => mul_ii (by omega) (by omega)
    rw [s_seq (s_set (p := .int x) (fr := false) (ev_op2 (p := .int (e * 48271 + (t + 1) * 69621)) (ev_opN (rda_cons (ev_op2 (p := .int (e * 48271)) (q := .int ((t + 1) * 69621)) (ev_op2 (ev_op2 (rd_var rfl) ev_c.rd t_seed).rd ev_c.rd (mul_ii (by omega) (by decide))).rd (ev_op2 (ev_op2 (rd_var rfl) ev_c.rd t_salt).rd ev_c.rd (hs _ (by decide))).rd rfl).rd rda_nil) rfl).rd ev_c.rd (by rw [mod_ii (by decide), hx])) (by simp))]
    rw [s_seq (s_set (p := .int y) (fr := false) (ev_op2 (p := .int (x * x + (t + 1) * 40692 + 12345)) (ev_opN (rda_cons (ev_op2 (p := .int (x * x + (t + 1) * 40692)) (q := .int 12345) (ev_op2 (p := .int (x * x)) (q := .int ((t + 1) * 40692)) (ev_op2 (rd_var rfl) (rd_var rfl) (mul_ii (by omega) (by omega))).rd (ev_op2 (ev_op2 (rd_var rfl) ev_c.rd t_salt).rd ev_c.rd (hs _ (by decide))).rd rfl).rd ev_c.rd rfl).rd rda_nil) rfl).rd ev_c.rd (by rw [mod_ii (by decide), hy])) (by simp))]
    exact s_seq_ret (s_ret (ev_op2 (ev_opN (rda_cons (rd_var rfl) rda_nil) rfl).rd (rd_var rfl) (mod_ii hm)))
theorem d_tape {ns : List Int} (hl : ns.length ≤ 63) {N : Nat} (hN : (N : Int) ≤ 2 ^ 900) : ∃ p, denOf 4 Ftape [.scr ns] = .ok p true none ∧ Tp N p := by
  let ab : Int → Int := fun i => if i < 0 then -i else i
  have e0 : Ev (eComp [1] (iOf (iVal (eVar 0))) (gNm 1) (ret true) (eOpN opAbs (aCons (eOpN opInt (aCons (eVar 1) aNil)) aNil))) (st0 4 [.scr ns]) (.lst (ns.map fun i => .int (ab i))) true := by
    refine ev_compX ns PV.int (fun i => .int (ab i)) (iv_of (ev_var rfl) rfl) (by rw [sizeLine_eq]; omega) (by simp [st0]) fun i _ => ⟨false, ?_⟩
    exact ev_opN (rda_cons (ev_opN (rda_cons (rd_var rfl) rda_nil) rfl).rd rda_nil) rfl
  have e1 : (ns.map fun i => PV.int (ab i)) = (ns.map ab).map PV.int := by simp
  rw [e1] at e0
  obtain ⟨s', h1, e, a, hs, he, he2⟩ := for_rel (G := gNm 1) (F := sSeq (sSet 3 (eOp2 opMod (eOpN opInt (aCons (eOp2 opAdd (eOp2 opMul (eVar 3) (eC (.int 31))) (eVar 1)) aNil)) (eC (.int 2147483647)))) sNext) (enc := PV.int) (step := fun (_ : Unit) (_ : Int) => ())
    (P := fun _ s => ∃ (e : Int) (a : Option (Bool × PV)), s = [some (false, .scr ns), a, some (false, .lst ((ns.map ab).map .int)), some (false, .int e)] ∧ 0 ≤ e ∧ e < 2147483647)
    (ns.map ab) () [some (false, .scr ns), none, some (false, .lst ((ns.map ab).map .int)), some (false, .int 7)] (fun _ x s _ ⟨e, a, hs, he, he2⟩ => by
      subst hs
      refine ⟨_, g_nm (by simp), _, ?_, (e * 31 + x) % 2147483647, some (false, .int x), rfl, Int.emod_nonneg _ (by decide), Int.emod_lt_of_pos _ (by decide)⟩
      refine sq (s_set (s := [some (false, .scr ns), some (false, .int x), some (false, .lst ((ns.map ab).map .int)), some (false, .int e)]) (ev_op2 (p := .int (e * 31 + x)) (ev_opN (rda_cons (ev_op2 (p := .int (e * 31)) (q := .int x) (ev_op2 (rd_var rfl) ev_c.rd (mul_ii (by omega) (by decide))).rd (rd_var rfl) rfl).rd rda_nil) rfl).rd ev_c.rd (mod_ii (by decide))) (by simp)) rfl) ⟨7, none, rfl, by decide, by decide⟩
  refine ⟨tapeV (ns.map ab) 0 0 e 0, ?_, ns.map ab, 0, 0, e, 0, rfl, fun x hx => ?_, by decide, by decide, he, he2, by decide, by omega⟩
  · refine den_ret (s1 := s') ?_
    unfold Ftape
    refine sq (s_set e0 (by simp [st0])) (sq (s_set (fr := false) ev_c (by simp [st0])) (sq (sf (iv_own rfl) h1) ?_))
    subst hs
    rfl
  · obtain ⟨i, _, rfl⟩ := List.mem_map.mp hx
    show 0 ≤ (if i < 0 then -i else i)
    split <;> omega
/-! ### drawing -/
theorem take_at {den : Den} (hden : den = denIO 4 Ftake) {s : SE} {i : Nat} {tp : PV} {N : Nat} {f : PM Arg} {m : Int} {fr : Bool} (h1 : s[i]? = some (some (true, tp))) (ht : Tp (N + 1) tp) (hf : Ev f s (.int m) fr) (hm : 0 < m) (hm2 : m < 2 ^ 1000) :
    ∃ d tp', EvS (eCallM den (aCons (eVar i) (aCons f aNil))) s (.int d) false (s.set i (some (true, tp'))) ∧ 0 ≤ d ∧ d < m ∧ Tp N tp' := by
  obtain ⟨d, tp', e, h0, h2, h3⟩ := d_take ht hm hm2
  rw [← hden] at e
  exact ⟨d, tp', evs_callM h1 hf e, h0, h2, h3⟩
/-- a comprehension that draws; the tape at slot t, the name at slot i -/
theorem comp_take {α β : Type} {E : PM Arg} {i t : Nat} {I : PM (List PV)} (xs : List α) (enc0 : α → PV) (enc : β → PV) (R : β → Prop) (c N : Nat) {s s0 : SE} {tp : PV} (hI : I s = .ok (xs.map enc0) s0) (hl : xs.length ≤ sizeLine) (hi : i < s0.length) (hit : t ≠ i) (h1 : s0[t]? = some (some (true, tp))) (ht : Tp (N + xs.length * c) tp)
    (step : ∀ x ∈ xs, ∀ N tp, Tp (N + c) tp → ∃ y fr tp', EvS E ((s0.set i (some (false, enc0 x))).set t (some (true, tp))) (enc y) fr ((s0.set i (some (false, enc0 x))).set t (some (true, tp'))) ∧ R y ∧ Tp N tp') :
    ∃ (ys : List β) (tp' : PV), EvS (eComp [i] (iOf I) (gNm i) (ret true) E) s (.lst (ys.map enc)) true (s0.set t (some (true, tp'))) ∧ ys.length = xs.length ∧ (∀ y ∈ ys, R y) ∧ Tp N tp' := by
  have htl : t < s0.length := (List.getElem?_eq_some_iff.mp h1).1
  have key : ∀ (zs : List α) (N : Nat) (tp : PV), (∀ x ∈ zs, x ∈ xs) → Tp (N + zs.length * c) tp → ∃ (ys : List β) (tp' : PV), compL [i] (gNm i) (ret true) E (zs.map enc0) ((s0.set i none).set t (some (true, tp))) = .ok (ys.map enc) ((s0.set i none).set t (some (true, tp'))) ∧ ys.length = zs.length ∧ (∀ y ∈ ys, R y) ∧ Tp N tp' := by
    intro zs
    induction zs with
    | nil => intro N tp _ ht; exact ⟨[], tp, rfl, rfl, (fun y hy => absurd hy (List.not_mem_nil)), by simpa using ht⟩
    | cons z zs ih =>
      intro N tp hz ht
      rw [List.length_cons, Nat.succ_mul, ← Nat.add_assoc] at ht
      obtain ⟨y, fr, tp1, e, hR, ht1⟩ := step z (hz z List.mem_cons_self) _ tp ht
      obtain ⟨ys, tp', e2, hl2, hR2, ht2⟩ := ih N tp1 (fun x hx => hz x (List.mem_cons_of_mem _ hx)) ht1
      refine ⟨y :: ys, tp', ?_, by rw [List.length_cons, hl2, List.length_cons], fun w hw => ?_, ht2⟩
      · have e1 : nx (gNm i (enc0 z)) ((s0.set i none).set t (some (true, tp))) = .ok () ((s0.set i (some (false, enc0 z))).set t (some (true, tp))) := by
          unfold nx gNm setV
          simp only [List.length_set, hi, if_true]
          rw [List.set_comm _ _ hit, List.set_set]
        have e3 : wp [i] ((s0.set i (some (false, enc0 z))).set t (some (true, tp1))) = .ok () ((s0.set i none).set t (some (true, tp1))) := by
          show Rs.ok () (((s0.set i (some (false, enc0 z))).set t (some (true, tp1))).set i none) = _
          rw [List.set_comm _ _ hit, List.set_set]
        rw [List.map_cons]
        unfold compL
        rw [bnd_ok e1, bnd_ok (show ret true _ = .ok true _ from rfl), if_pos rfl, bnd_ok e, bnd_ok (show rel1 (Arg.val (enc y) fr) _ = .ok (enc y) _ from rfl), bnd_ok e3, bnd_ok e2]
        rfl
      · rcases List.mem_cons.mp hw with e | hw
        · rw [e]; exact hR
        · exact hR2 w hw
  obtain ⟨ys, tp', e, hl2, hR, ht2⟩ := key xs N tp (fun x hx => hx) ht
  refine ⟨ys, tp', ?_, hl2, hR, ht2⟩
  unfold EvS eComp
  rw [bnd_ok (show iOf I s = .ok (xs.map enc0, []) s0 by unfold iOf; rw [bnd_ok hI]; rfl)]
  simp only [List.nil_append, List.length_map, hl, if_true]
  have e0 : wipeS s0 [i] = (s0.set i none).set t (some (true, tp)) := by
    show s0.set i none = _
    refine List.ext_getElem? fun k => ?_
    by_cases hk : t = k
    · subst hk
      rw [List.getElem?_set_ne (Ne.symm hit), h1, List.getElem?_set_self (by rw [List.length_set]; exact htl)]
    · rw [List.getElem?_set_ne hk]
  rw [e0, e]
  simp only
  congr 1
  show ((s0.set i none).set t (some (true, tp'))).set i _ = s0.set t (some (true, tp'))
  refine List.ext_getElem? fun k => ?_
  by_cases hk : i = k
  · subst hk
    rw [List.getElem?_set_self (by rw [List.length_set, List.length_set]; exact hi), List.getElem?_set_ne hit, List.getElem?_eq_getElem hi]
  · rw [List.getElem?_set_ne hk]
    by_cases hk2 : t = k
    · subst hk2
      rw [List.getElem?_set_self (by rw [List.length_set]; exact htl), List.getElem?_set_self htl]
    · rw [List.getElem?_set_ne hk2, List.getElem?_set_ne hk, List.getElem?_set_ne hk2]
end HF
end

section
set_option Elab.async false
set_option linter.all false
set_option maxRecDepth 100000
set_option maxHeartbeats 2000000
set_option autoImplicit false
namespace G18
open PySem PySem.Spec PyProof.Rows L2 HF
def top (i : Nat) : Stmt := PySem.Challenge.pw_heldsteady_k18_whole_matrices_in_any_ord.main.body.getD i (.Pass ⟨0, 0, 0, 0⟩)
structure Fx (K : PySem.W.Frag) (mg : Str → Option Value) : Prop where
  b_abs : mg "abs" = none
  b_all : mg "all" = none
  b_any : mg "any" = none
  b_int : mg "int" = none
  b_len : mg "len" = none
  b_list : mg "list" = none
  b_max : mg "max" = none
  b_range : mg "range" = none
  b_sorted : mg "sorted" = none
  b_sum : mg "sum" = none
  b_tuple : mg "tuple" = none
  x_InvalidTable : ExcOk K mg "InvalidTable"
  c_MOST_TABLES : ∃ t, mg "MOST_TABLES" = some (.int 3 t)
section
variable {P : Program} {w : World} {K : PySem.W.Frag} {mg : Str → Option Value} {base : Heap}
/-! ### times_whole -/
def F_times_whole : PM Fl := (sSeq (sSet 2 (eOpN opRange (aCons (eOpN opLen (aCons (eVar 0) aNil)) aNil)))
  (sSeq (sRet (eOpN opTuple (aCons (eComp [3] (iOf (iVal (eVar 2))) (gNm 3) (ret true) (eOpN opTuple (aCons (eComp [4] (iOf (iVal (eVar 2))) (gNm 4) (ret true) (eOpN opSum (aCons (eComp [5] (iOf (iVal (eVar 2))) (gNm 5) (ret true) (eOp2 opMul (eOp2 opIx (eOp2 opIx (eVar 0) (eVar 3)) (eVar 5)) (eOp2 opIx (eOp2 opIx (eVar 1) (eVar 5)) (eVar 4)))) aNil))) aNil))) aNil)))
  sNext))
theorem nd_times_whole : (["one", "other", "size", "i", "j", "k"] : List Str).Nodup := by decide +kernel
theorem fs_times_whole : FnScope ["one", "other", "size", "i", "j", "k"] ["one", "other"] (defScope (top 6)) := ⟨rfl, rfl, rfl, nd_times_whole, rfl, by decide +kernel, by decide +kernel⟩
theorem w_times_whole {f : Addr} (FX : Fx K mg)  (cdv : Value) (A : Around) (outer : List Env) (s : Shared) (H : Hp) (E : XK) (hr : Room 0 (A.deeper (envOfC "times_whole" (defScope (top 6)) s.heap.objs.size f cdv))) :
    QSs (cxOf (L2.CX P w) P w K mg base ["one", "other", "size", "i", "j", "k"] "times_whole" (defScope (top 6)) f cdv A outer s H E) (WE0 E) [] (defBody (top 6)) F_times_whole :=
  (qss_cons (qs_set (i := 2) (by decide) nd_times_whole (by kernel_rfl) (.inr (by kernel_rfl)) (qe_callT callr_range rofN (gl_of (by kernel_rfl)) FX.b_range boot_range (qa_cons (qe_call callr_len rofN (gl_of (by kernel_rfl)) FX.b_len boot_len (qa_cons (qe_var (i := 0) (by kernel_rfl) (.inr (.inl (by kernel_rfl)))) qa_nil)) qa_nil)) (by kernel_rfl) (.inl rfl))
    (qss_cons (qs_ret (qe_callT callr_tuple rofN (gl_of (by kernel_rfl)) FX.b_tuple boot_tuple (qa_cons (qe_lc (own := [("i", 3)]) rfl nd_times_whole (blkOk_by (by kernel_rfl)) (qib_of (qi_val (qe_var (i := 2) (by kernel_rfl) (.inr (.inl (by kernel_rfl)))))) (fun _ _ _ _ _ => (qg_name (i := 3) (hp_own (by decide)) nd_times_whole (by kernel_rfl) (.inr (by kernel_rfl)) (.inl (by kernel_rfl)))) (fun _ _ _ _ _ => qts_nil) (fun _ _ _ _ _ => (qe_callT callr_tuple rofN (gl_of (by kernel_rfl)) FX.b_tuple boot_tuple (qa_cons (qe_lc (own := [("j", 4)]) rfl nd_times_whole (blkOk_by (by kernel_rfl)) (qib_of (qi_val (qe_var (i := 2) (by kernel_rfl) (.inr (.inl (by kernel_rfl)))))) (fun _ _ _ _ _ => (qg_name (i := 4) (hp_own (by decide)) nd_times_whole (by kernel_rfl) (.inr (by kernel_rfl)) (.inl (by kernel_rfl)))) (fun _ _ _ _ _ => qts_nil) (fun _ _ _ _ _ => (qe_call (callr_sum rfl) rofN (gl_of (by kernel_rfl)) FX.b_sum boot_sum (qa_cons (qe_lc (own := [("k", 5)]) rfl nd_times_whole (blkOk_by (by kernel_rfl)) (qib_of (qi_val (qe_var (i := 2) (by kernel_rfl) (.inr (.inl (by kernel_rfl)))))) (fun _ _ _ _ _ => (qg_name (i := 5) (hp_own (by decide)) nd_times_whole (by kernel_rfl) (.inl (by kernel_rfl)) (.inr (by kernel_rfl)))) (fun _ _ _ _ _ => qts_nil) (fun _ _ _ _ _ => (qe_op opr_mul rof2 (qe_ix (ixr_at hr.units) rof2 (qe_ix (ixr_at hr.units) rof2 (qe_var (i := 0) (by kernel_rfl) (.inr (.inl (by kernel_rfl)))) (qe_var (i := 3) (by kernel_rfl) (.inr (.inl (by kernel_rfl)))) (fun _ _ => rfl)) (qe_var (i := 5) (by kernel_rfl) (.inl (by kernel_rfl))) (fun _ _ => rfl)) (qe_ix (ixr_at hr.units) rof2 (qe_ix (ixr_at hr.units) rof2 (qe_var (i := 1) (by kernel_rfl) (.inr (.inl (by kernel_rfl)))) (qe_var (i := 5) (by kernel_rfl) (.inl (by kernel_rfl))) (fun _ _ => rfl)) (qe_var (i := 4) (by kernel_rfl) (.inr (.inl (by kernel_rfl)))) (fun _ _ => rfl))))) qa_nil)))) qa_nil)))) qa_nil)))
    qss_nil))
theorem o_times_whole {a : Addr} {fd : FuncData} (FX : Fx K mg)  (Fd : FunD K "times_whole" "times_whole" (defArgs (top 6)) (defBody (top 6)) (defScope (top 6)) [] [] a fd) (hm : mg "times_whole" = some (.ref a)) : HasFn P w K mg base 1 "times_whole" ["one", "other"] 6 F_times_whole :=
  ⟨a, fd, fn_pure Fd fs_times_whole (w_times_whole FX ), hm, Fd.kp, Fd.bindsN fun _ _ _ _ _ _ us hl => match us, hl with | [_, _], _ => rfl⟩

/-! ### is_nought -/
def F_is_nought : PM Fl := (sSeq (sRet (eNot (eOpN opAny (aCons (eComp [1] (iOf (iVal (eVar 0))) (gNm 1) (ret true) (eOpN opAny (aCons (eVar 1) aNil))) aNil))))
  sNext)
theorem nd_is_nought : (["table", "row"] : List Str).Nodup := by decide +kernel
theorem fs_is_nought : FnScope ["table", "row"] ["table"] (defScope (top 8)) := ⟨rfl, rfl, rfl, nd_is_nought, rfl, by decide +kernel, by decide +kernel⟩
theorem w_is_nought {f : Addr} (FX : Fx K mg)  (cdv : Value) (A : Around) (outer : List Env) (s : Shared) (H : Hp) (E : XK) (hr : Room 0 (A.deeper (envOfC "is_nought" (defScope (top 8)) s.heap.objs.size f cdv))) :
    QSs (cxOf (L2.CX P w) P w K mg base ["table", "row"] "is_nought" (defScope (top 8)) f cdv A outer s H E) (WE0 E) [] (defBody (top 8)) F_is_nought :=
  (qss_cons (qs_ret (qe_not (qe_call (callr_any rfl) rofN (gl_of (by kernel_rfl)) FX.b_any boot_any (qa_cons (qe_lc (own := [("row", 1)]) rfl nd_is_nought (blkOk_by (by kernel_rfl)) (qib_of (qi_val (qe_var (i := 0) (by kernel_rfl) (.inl (by kernel_rfl))))) (fun _ _ _ _ _ => (qg_name (i := 1) (hp_own (by decide)) nd_is_nought (by kernel_rfl) (.inl (by kernel_rfl)) (.inr (by kernel_rfl)))) (fun _ _ _ _ _ => qts_nil) (fun _ _ _ _ _ => (qe_call (callr_any rfl) rofN (gl_of (by kernel_rfl)) FX.b_any boot_any (qa_cons (qe_var (i := 1) (by kernel_rfl) (.inl (by kernel_rfl))) qa_nil)))) qa_nil))))
    qss_nil)
theorem o_is_nought {a : Addr} {fd : FuncData} (FX : Fx K mg)  (Fd : FunD K "is_nought" "is_nought" (defArgs (top 8)) (defBody (top 8)) (defScope (top 8)) [] [] a fd) (hm : mg "is_nought" = some (.ref a)) : HasFn P w K mg base 1 "is_nought" ["table"] 2 F_is_nought :=
  ⟨a, fd, fn_pure Fd fs_is_nought (w_is_nought FX ), hm, Fd.kp, Fd.bindsN fun _ _ _ _ _ _ us hl => match us, hl with | [_], _ => rfl⟩

/-! ### check_tables -/
def F_check_tables : PM Fl := (sSeq (sIf (tOrP (tNotP (tBool (eChain opLe opLe (eC (.int 1)) (eOpN opLen (aCons (eVar 0) aNil)) (eC (.int 3))))) (tNotP (tBool (eChain opLe opLe (eC (.int 1)) (eOpN opLen (aCons (eOp2 opIx (eVar 0) (eC (.int 0))) aNil)) (eC (.int 3)))))) (sSeq (sRaise "InvalidTable")
  sNext) sNext)
  (sSeq (sFor (iVal (eVar 0)) (gNm 1) (sSeq (sIf (tOrP (tBool (eOp2 opNe (eOpN opLen (aCons (eVar 1) aNil)) (eOpN opLen (aCons (eOp2 opIx (eVar 0) (eC (.int 0))) aNil)))) (tNotP (tTru (eOpN opAll (aCons (eComp [2] (iOf (iVal (eVar 1))) (gNm 2) (ret true) (eOp2 opEq (eOpN opLen (aCons (eVar 2) aNil)) (eOpN opLen (aCons (eOp2 opIx (eVar 0) (eC (.int 0))) aNil)))) aNil))))) (sSeq (sRaise "InvalidTable")
  sNext) sNext)
  (sSeq (sIf (tNotP (tTru (eOpN opAll (aCons (eComp [2] (iOf (iVal (eVar 1))) (gNm 2) (ret true) (eOpN opAll (aCons (eComp [3] (iOf (iVal (eVar 2))) (gNm 3) (ret true) (eChain opLe opLe (eOp1 opNeg (eC (.int 9))) (eVar 3) (eC (.int 9)))) aNil))) aNil)))) (sSeq (sRaise "InvalidTable")
  sNext) sNext)
  sNext)))
  sNext))
theorem nd_check_tables : (["tables", "table", "row", "a"] : List Str).Nodup := by decide +kernel
theorem fs_check_tables : FnScope ["tables", "table", "row", "a"] ["tables"] (defScope (top 5)) := ⟨rfl, rfl, rfl, nd_check_tables, rfl, by decide +kernel, by decide +kernel⟩
theorem w_check_tables {f : Addr} (FX : Fx K mg)  (cdv : Value) (A : Around) (outer : List Env) (s : Shared) (H : Hp) (E : XK) (hr : Room 0 (A.deeper (envOfC "check_tables" (defScope (top 5)) s.heap.objs.size f cdv))) :
    QSs (cxOf (L2.CX P w) P w K mg base ["tables", "table", "row", "a"] "check_tables" (defScope (top 5)) f cdv A outer s H E) (WE0 E) [] (defBody (top 5)) F_check_tables :=
  (qss_cons (qs_if (qt_of (qw_or (qt_not (qt_chain opr_le rof2 opr_le rof2 qe_int (qe_call callr_len rofN (gl_of (by kernel_rfl)) FX.b_len boot_len (qa_cons (qe_var (i := 0) (by kernel_rfl) (.inr (.inl (by kernel_rfl)))) qa_nil)) (glob_int (gl_of (by kernel_rfl)) FX.c_MOST_TABLES))) (qw_or1 (qt_not (qt_chain opr_le rof2 opr_le rof2 qe_int (qe_call callr_len rofN (gl_of (by kernel_rfl)) FX.b_len boot_len (qa_cons (qe_ix (ixr_at hr.units) rof2 (qe_var (i := 0) (by kernel_rfl) (.inr (.inl (by kernel_rfl)))) qe_int (fun _ _ => rfl)) qa_nil)) qe_int))))) (qss_cons (s_raise FX.x_InvalidTable rfl (takes_of rfl rfl rfl rfl) (gl_of (by kernel_rfl)))
    qss_nil) qss_nil)
    (qss_cons (qs_for (L2.passes_of rfl) rfl (qi_val (qe_var (i := 0) (by kernel_rfl) (.inr (.inl (by kernel_rfl))))) (qg_name (i := 1) (by decide) nd_check_tables (by kernel_rfl) (.inl (by kernel_rfl)) (.inl rfl)) (qss_cons (qs_if (qt_of (qw_or (qt_cmp (opr_ne hr.units) rof2 (qe_call callr_len rofN (gl_of (by kernel_rfl)) FX.b_len boot_len (qa_cons (qe_var (i := 1) (by kernel_rfl) (.inl (by kernel_rfl))) qa_nil)) (qe_call callr_len rofN (gl_of (by kernel_rfl)) FX.b_len boot_len (qa_cons (qe_ix (ixr_at hr.units) rof2 (qe_var (i := 0) (by kernel_rfl) (.inr (.inl (by kernel_rfl)))) qe_int (fun _ _ => rfl)) qa_nil)) rfl) (qw_or1 (qt_not (qt_truth (qe_call (callr_all rfl) rofN (gl_of (by kernel_rfl)) FX.b_all boot_all (qa_cons (qe_lc (own := [("row", 2)]) rfl nd_check_tables (blkOk_by (by kernel_rfl)) (qib_of (qi_val (qe_var (i := 1) (by kernel_rfl) (.inl (by kernel_rfl))))) (fun _ _ _ _ _ => (qg_name (i := 2) (hp_own (by decide)) nd_check_tables (by kernel_rfl) (.inl (by kernel_rfl)) (.inr (by kernel_rfl)))) (fun _ _ _ _ _ => qts_nil) (fun _ _ _ _ _ => (qe_cmp (opr_eq hr.units) rof2 (qe_call callr_len rofN (gl_of (by kernel_rfl)) FX.b_len boot_len (qa_cons (qe_var (i := 2) (by kernel_rfl) (.inl (by kernel_rfl))) qa_nil)) (qe_call callr_len rofN (gl_of (by kernel_rfl)) FX.b_len boot_len (qa_cons (qe_ix (ixr_at hr.units) rof2 (qe_var (i := 0) (by kernel_rfl) (.inr (.inl (by kernel_rfl)))) qe_int (fun _ _ => rfl)) qa_nil)) rfl))) qa_nil))))))) (qss_cons (s_raise FX.x_InvalidTable rfl (takes_of rfl rfl rfl rfl) (gl_of (by kernel_rfl)))
    qss_nil) qss_nil)
    (qss_cons (qs_if (qt_not (qt_truth (qe_call (callr_all rfl) rofN (gl_of (by kernel_rfl)) FX.b_all boot_all (qa_cons (qe_lc (own := [("row", 2)]) rfl nd_check_tables (blkOk_by (by kernel_rfl)) (qib_of (qi_val (qe_var (i := 1) (by kernel_rfl) (.inl (by kernel_rfl))))) (fun _ _ _ _ _ => (qg_name (i := 2) (hp_own (by decide)) nd_check_tables (by kernel_rfl) (.inl (by kernel_rfl)) (.inr (by kernel_rfl)))) (fun _ _ _ _ _ => qts_nil) (fun _ _ _ _ _ => (qe_call (callr_all rfl) rofN (gl_of (by kernel_rfl)) FX.b_all boot_all (qa_cons (qe_lc (own := [("a", 3)]) rfl nd_check_tables (blkOk_by (by kernel_rfl)) (qib_of (qi_val (qe_var (i := 2) (by kernel_rfl) (.inl (by kernel_rfl))))) (fun _ _ _ _ _ => (qg_name (i := 3) (hp_own (by decide)) nd_check_tables (by kernel_rfl) (.inl (by kernel_rfl)) (.inr (by kernel_rfl)))) (fun _ _ _ _ _ => qts_nil) (fun _ _ _ _ _ => (qe_chain opr_le rof2 opr_le rof2 (qe_un unr_neg rof1 qe_int) (qe_var (i := 3) (by kernel_rfl) (.inl (by kernel_rfl))) qe_int))) qa_nil)))) qa_nil)))) (qss_cons (s_raise FX.x_InvalidTable rfl (takes_of rfl rfl rfl rfl) (gl_of (by kernel_rfl)))
    qss_nil) qss_nil)
    qss_nil)))
    qss_nil))
theorem o_check_tables {a : Addr} {fd : FuncData} (FX : Fx K mg)  (Fd : FunD K "check_tables" "check_tables" (defArgs (top 5)) (defBody (top 5)) (defScope (top 5)) [] [] a fd) (hm : mg "check_tables" = some (.ref a)) : HasFn P w K mg base 1 "check_tables" ["tables"] 4 F_check_tables :=
  ⟨a, fd, fn_pure Fd fs_check_tables (w_check_tables FX ), hm, Fd.kp, Fd.bindsN fun _ _ _ _ _ _ us hl => match us, hl with | [_], _ => rfl⟩

/-! ### word_table -/
def F_word_table : PM Fl := (sSeq (sExpr (eCall (denOf 4 F_check_tables) (aCons (eVar 0) aNil)))
  (sSeq (sSet 2 (eOpN opRange (aCons (eOpN opLen (aCons (eOp2 opIx (eVar 0) (eC (.int 0))) aNil)) aNil)))
  (sSeq (sSet 3 (eOpN opTuple (aCons (eComp [5] (iOf (iVal (eVar 2))) (gNm 5) (ret true) (eOpN opTuple (aCons (eComp [6] (iOf (iVal (eVar 2))) (gNm 6) (ret true) (eOpN opInt (aCons (eOp2 opEq (eVar 5) (eVar 6)) aNil))) aNil))) aNil)))
  (sSeq (sFor (iVal (eVar 1)) (gNm 4) (sSeq (sIf (tNotP (tBool (eChain opLe opLt (eC (.int 0)) (eVar 4) (eOpN opLen (aCons (eVar 0) aNil))))) (sSeq (sRaise "InvalidTable")
  sNext) sNext)
  (sSeq (sSet 3 (eCall (denOf 6 F_times_whole) (aCons (eOp2 opIx (eVar 0) (eVar 4)) (aCons (eVar 3) aNil))))
  sNext)))
  (sSeq (sRet (eVar 3))
  sNext)))))
theorem nd_word_table : (["tables", "word", "size", "found", "k", "i", "j"] : List Str).Nodup := by decide +kernel
theorem fs_word_table : FnScope ["tables", "word", "size", "found", "k", "i", "j"] ["tables", "word"] (defScope (top 7)) := ⟨rfl, rfl, rfl, nd_word_table, rfl, by decide +kernel, by decide +kernel⟩
theorem w_word_table {f : Addr} (FX : Fx K mg) (h_check_tables : HasFn P w K mg base 1 "check_tables" ["tables"] 4 F_check_tables) (h_times_whole : HasFn P w K mg base 1 "times_whole" ["one", "other"] 6 F_times_whole) (cdv : Value) (A : Around) (outer : List Env) (s : Shared) (H : Hp) (E : XK) (hr : Room 1 (A.deeper (envOfC "word_table" (defScope (top 7)) s.heap.objs.size f cdv))) :
    QSs (cxOf (L2.CX P w) P w K mg base ["tables", "word", "size", "found", "k", "i", "j"] "word_table" (defScope (top 7)) f cdv A outer s H E) (WE0 E) [] (defBody (top 7)) F_word_table :=
  (qss_cons (qs_expr (e_fn h_check_tables (hr.mono (by decide)) (gl_of (by kernel_rfl)) (takes_of rfl rfl rfl rfl) (qa_cons (qe_var (i := 0) (by kernel_rfl) (.inl (by kernel_rfl))) qa_nil) rfl))
    (qss_cons (qs_set (i := 2) (by decide) nd_word_table (by kernel_rfl) (.inr (by kernel_rfl)) (qe_callT callr_range rofN (gl_of (by kernel_rfl)) FX.b_range boot_range (qa_cons (qe_call callr_len rofN (gl_of (by kernel_rfl)) FX.b_len boot_len (qa_cons (qe_ix (ixr_at hr.units) rof2 (qe_var (i := 0) (by kernel_rfl) (.inl (by kernel_rfl))) qe_int (fun _ _ => rfl)) qa_nil)) qa_nil)) (by kernel_rfl) (.inl rfl))
    (qss_cons (qs_set (i := 3) (by decide) nd_word_table (by kernel_rfl) (.inl (by kernel_rfl)) (qe_callT callr_tuple rofN (gl_of (by kernel_rfl)) FX.b_tuple boot_tuple (qa_cons (qe_lc (own := [("i", 5)]) rfl nd_word_table (blkOk_by (by kernel_rfl)) (qib_of (qi_val (qe_var (i := 2) (by kernel_rfl) (.inr (.inl (by kernel_rfl)))))) (fun _ _ _ _ _ => (qg_name (i := 5) (hp_own (by decide)) nd_word_table (by kernel_rfl) (.inr (by kernel_rfl)) (.inl (by kernel_rfl)))) (fun _ _ _ _ _ => qts_nil) (fun _ _ _ _ _ => (qe_callT callr_tuple rofN (gl_of (by kernel_rfl)) FX.b_tuple boot_tuple (qa_cons (qe_lc (own := [("j", 6)]) rfl nd_word_table (blkOk_by (by kernel_rfl)) (qib_of (qi_val (qe_var (i := 2) (by kernel_rfl) (.inr (.inl (by kernel_rfl)))))) (fun _ _ _ _ _ => (qg_name (i := 6) (hp_own (by decide)) nd_word_table (by kernel_rfl) (.inl (by kernel_rfl)) (.inr (by kernel_rfl)))) (fun _ _ _ _ _ => qts_nil) (fun _ _ _ _ _ => (qe_callT callr_int rofN (gl_of (by kernel_rfl)) FX.b_int boot_int (qa_cons (qe_cmp (opr_eq hr.units) rof2 (qe_var (i := 5) (by kernel_rfl) (.inr (.inl (by kernel_rfl)))) (qe_var (i := 6) (by kernel_rfl) (.inl (by kernel_rfl))) rfl) qa_nil)))) qa_nil)))) qa_nil)) (by kernel_rfl) (.inl rfl))
    (qss_cons (qs_for (L2.passes_of rfl) rfl (qi_val (qe_var (i := 1) (by kernel_rfl) (.inl (by kernel_rfl)))) (qg_name (i := 4) (by decide) nd_word_table (by kernel_rfl) (.inl (by kernel_rfl)) (.inl rfl)) (qss_cons (qs_if (qt_not (qt_chain opr_le rof2 opr_lt rof2 qe_int (qe_var (i := 4) (by kernel_rfl) (.inl (by kernel_rfl))) (qe_call callr_len rofN (gl_of (by kernel_rfl)) FX.b_len boot_len (qa_cons (qe_var (i := 0) (by kernel_rfl) (.inl (by kernel_rfl))) qa_nil)))) (qss_cons (s_raise FX.x_InvalidTable rfl (takes_of rfl rfl rfl rfl) (gl_of (by kernel_rfl)))
    qss_nil) qss_nil)
    (qss_cons (qs_set (i := 3) (by decide) nd_word_table (by kernel_rfl) (.inl (by kernel_rfl)) (e_fn h_times_whole (hr.mono (by decide)) (gl_of (by kernel_rfl)) (takes_of rfl rfl rfl rfl) (qa_cons (qe_ix (ixr_at hr.units) rof2 (qe_var (i := 0) (by kernel_rfl) (.inl (by kernel_rfl))) (qe_var (i := 4) (by kernel_rfl) (.inl (by kernel_rfl))) (fun _ _ => rfl)) (qa_cons (qe_var (i := 3) (by kernel_rfl) (.inl (by kernel_rfl))) qa_nil)) rfl) (by kernel_rfl) (.inl rfl))
    qss_nil)))
    (qss_cons (qs_ret (qe_var (i := 3) (by kernel_rfl) (.inl (by kernel_rfl))))
    qss_nil)))))
theorem o_word_table {a : Addr} {fd : FuncData} (FX : Fx K mg) (h_check_tables : HasFn P w K mg base 1 "check_tables" ["tables"] 4 F_check_tables) (h_times_whole : HasFn P w K mg base 1 "times_whole" ["one", "other"] 6 F_times_whole) (Fd : FunD K "word_table" "word_table" (defArgs (top 7)) (defBody (top 7)) (defScope (top 7)) [] [] a fd) (hm : mg "word_table" = some (.ref a)) : HasFn P w K mg base 2 "word_table" ["tables", "word"] 7 F_word_table :=
  ⟨a, fd, fn_pure Fd fs_word_table (w_word_table FX h_check_tables h_times_whole), hm, Fd.kp, Fd.bindsN fun _ _ _ _ _ _ us hl => match us, hl with | [_, _], _ => rfl⟩

/-! ### takes_growing -/
def F_takes_growing : PM Fl := (sSeq (sSet 2 (eCall (denOf 7 F_word_table) (aCons (eVar 0) (aCons (eVar 1) aNil))))
  (sSeq (sRet (eOp2 opGt (eOpN opAbs (aCons (eOpN opSum (aCons (eComp [3] (iOf (iVal (eOpN opRange (aCons (eOpN opLen (aCons (eVar 2) aNil)) aNil)))) (gNm 3) (ret true) (eOp2 opIx (eOp2 opIx (eVar 2) (eVar 3)) (eVar 3))) aNil)) aNil)) (eOpN opLen (aCons (eVar 2) aNil))))
  sNext))
theorem nd_takes_growing : (["tables", "word", "table", "k"] : List Str).Nodup := by decide +kernel
theorem fs_takes_growing : FnScope ["tables", "word", "table", "k"] ["tables", "word"] (defScope (top 13)) := ⟨rfl, rfl, rfl, nd_takes_growing, rfl, by decide +kernel, by decide +kernel⟩
theorem w_takes_growing {f : Addr} (FX : Fx K mg) (h_word_table : HasFn P w K mg base 2 "word_table" ["tables", "word"] 7 F_word_table) (cdv : Value) (A : Around) (outer : List Env) (s : Shared) (H : Hp) (E : XK) (hr : Room 2 (A.deeper (envOfC "takes_growing" (defScope (top 13)) s.heap.objs.size f cdv))) :
    QSs (cxOf (L2.CX P w) P w K mg base ["tables", "word", "table", "k"] "takes_growing" (defScope (top 13)) f cdv A outer s H E) (WE0 E) [] (defBody (top 13)) F_takes_growing :=
  (qss_cons (qs_set (i := 2) (by decide) nd_takes_growing (by kernel_rfl) (.inr (by kernel_rfl)) (e_fn h_word_table (hr.mono (by decide)) (gl_of (by kernel_rfl)) (takes_of rfl rfl rfl rfl) (qa_cons (qe_var (i := 0) (by kernel_rfl) (.inl (by kernel_rfl))) (qa_cons (qe_var (i := 1) (by kernel_rfl) (.inl (by kernel_rfl))) qa_nil)) rfl) (by kernel_rfl) (.inl rfl))
    (qss_cons (qs_ret (qe_cmp opr_gt rof2 (qe_call callr_abs rofN (gl_of (by kernel_rfl)) FX.b_abs boot_abs (qa_cons (qe_call (callr_sum rfl) rofN (gl_of (by kernel_rfl)) FX.b_sum boot_sum (qa_cons (qe_lc (own := [("k", 3)]) rfl nd_takes_growing (blkOk_by (by kernel_rfl)) (qib_of (qi_val (qe_callT callr_range rofN (gl_of (by kernel_rfl)) FX.b_range boot_range (qa_cons (qe_call callr_len rofN (gl_of (by kernel_rfl)) FX.b_len boot_len (qa_cons (qe_var (i := 2) (by kernel_rfl) (.inr (.inl (by kernel_rfl)))) qa_nil)) qa_nil)))) (fun _ _ _ _ _ => (qg_name (i := 3) (hp_own (by decide)) nd_takes_growing (by kernel_rfl) (.inl (by kernel_rfl)) (.inr (by kernel_rfl)))) (fun _ _ _ _ _ => qts_nil) (fun _ _ _ _ _ => (qe_ix (ixr_at hr.units) rof2 (qe_ix (ixr_at hr.units) rof2 (qe_var (i := 2) (by kernel_rfl) (.inr (.inl (by kernel_rfl)))) (qe_var (i := 3) (by kernel_rfl) (.inl (by kernel_rfl))) (fun _ _ => rfl)) (qe_var (i := 3) (by kernel_rfl) (.inl (by kernel_rfl))) (fun _ _ => rfl)))) qa_nil)) qa_nil)) (qe_call callr_len rofN (gl_of (by kernel_rfl)) FX.b_len boot_len (qa_cons (qe_var (i := 2) (by kernel_rfl) (.inr (.inl (by kernel_rfl)))) qa_nil)) rfl))
    qss_nil))
theorem o_takes_growing {a : Addr} {fd : FuncData} (FX : Fx K mg) (h_word_table : HasFn P w K mg base 2 "word_table" ["tables", "word"] 7 F_word_table) (Fd : FunD K "takes_growing" "takes_growing" (defArgs (top 13)) (defBody (top 13)) (defScope (top 13)) [] [] a fd) (hm : mg "takes_growing" = some (.ref a)) : HasFn P w K mg base 3 "takes_growing" ["tables", "word"] 4 F_takes_growing :=
  ⟨a, fd, fn_pure Fd fs_takes_growing (w_takes_growing FX h_word_table), hm, Fd.kp, Fd.bindsN fun _ _ _ _ _ _ us hl => match us, hl with | [_, _], _ => rfl⟩

/-! ### words_up_to -/
def F_words_up_to : PM Fl := (sSeq (sExpr (eCall (denOf 4 F_check_tables) (aCons (eVar 0) aNil)))
  (sSeq (sIf (tNotP (tBool (eChain opLe opLe (eC (.int 0)) (eVar 1) (eC (.int 10))))) (sSeq (sRaise "InvalidTable")
  sNext) sNext)
  (sSeq (sSet 2 (eLst (aCons (eTup (aCons (eTup aNil) (aCons (eCall (denOf 7 F_word_table) (aCons (eVar 0) (aCons (eTup aNil) aNil))) aNil))) aNil)))
  (sSeq (sPar 3 4 (eDispN [((eOp2 opIx (eOp2 opIx (eVar 2) (eC (.int 0))) (eC (.int 1))), (eC (.bl true)))]) (eOpN opList (aCons (eVar 2) aNil)))
  (sSeq (sFor (iVal (eOpN opRange (aCons (eVar 1) aNil))) (gNm 5) (sSeq (sSet 6 (eLst aNil))
  (sSeq (sFor (iVal (eVar 2)) (gTp 2 (gsCons (gNm 7) (gsCons (gNm 8) gsNil))) (sSeq (sFor (iVal (eOpN opRange (aCons (eOpN opLen (aCons (eVar 0) aNil)) aNil))) (gNm 9) (sSeq (sSet 10 (eCall (denOf 6 F_times_whole) (aCons (eOp2 opIx (eVar 0) (eVar 9)) (aCons (eVar 8) aNil))))
  (sSeq (sIf (tBool (eOp2 opNotIn (eVar 10) (eVar 3))) (sSeq (sAsg (eC (.bl true)) (gSubP 3 opSet (eVar 10)))
  (sSeq (sExpr (eMeth 6 opAppend (aCons (eTup (aCons (eOp2 opAdd (eVar 7) (eTup (aCons (eVar 9) aNil))) (aCons (eVar 10) aNil))) aNil)))
  sNext)) sNext)
  sNext)))
  sNext))
  (sSeq (sExpr (eMeth 4 opExtend (aCons (eVar 6) aNil)))
  (sSeq (sSet 2 (eVar 6))
  (sSeq (sIf (tBool (eOp2 opGt (eOpN opLen (aCons (eVar 4) aNil)) (eC (.int 3000)))) (sSeq (sRaise "InvalidTable")
  sNext) sNext)
  sNext))))))
  (sSeq (sRet (eVar 4))
  sNext))))))
theorem nd_words_up_to : (["tables", "most", "level", "seen", "found", "_", "fresh", "word", "table", "k", "told"] : List Str).Nodup := by decide +kernel
theorem fs_words_up_to : FnScope ["tables", "most", "level", "seen", "found", "_", "fresh", "word", "table", "k", "told"] ["tables", "most"] (defScope (top 10)) := ⟨rfl, rfl, rfl, nd_words_up_to, rfl, by decide +kernel, by decide +kernel⟩
theorem w_words_up_to {f : Addr} (FX : Fx K mg) (h_check_tables : HasFn P w K mg base 1 "check_tables" ["tables"] 4 F_check_tables) (h_times_whole : HasFn P w K mg base 1 "times_whole" ["one", "other"] 6 F_times_whole) (h_word_table : HasFn P w K mg base 2 "word_table" ["tables", "word"] 7 F_word_table) (cdv : Value) (A : Around) (outer : List Env) (s : Shared) (H : Hp) (E : XK) (hr : Room 2 (A.deeper (envOfC "words_up_to" (defScope (top 10)) s.heap.objs.size f cdv))) :
    QSs (cxOf (L2.CX P w) P w K mg base ["tables", "most", "level", "seen", "found", "_", "fresh", "word", "table", "k", "told"] "words_up_to" (defScope (top 10)) f cdv A outer s H E) (WE0 E) [] (defBody (top 10)) F_words_up_to :=
  (qss_cons (qs_expr (e_fn h_check_tables (hr.mono (by decide)) (gl_of (by kernel_rfl)) (takes_of rfl rfl rfl rfl) (qa_cons (qe_var (i := 0) (by kernel_rfl) (.inl (by kernel_rfl))) qa_nil) rfl))
    (qss_cons (qs_if (qt_not (qt_chain opr_le rof2 opr_le rof2 qe_int (qe_var (i := 1) (by kernel_rfl) (.inl (by kernel_rfl))) qe_int)) (qss_cons (s_raise FX.x_InvalidTable rfl (takes_of rfl rfl rfl rfl) (gl_of (by kernel_rfl)))
    qss_nil) qss_nil)
    (qss_cons (qs_set (i := 2) (by decide) nd_words_up_to (by kernel_rfl) (.inl (by kernel_rfl)) (qe_lst (qa_cons (qe_tup (qa_cons (qe_tup qa_nil) (qa_cons (e_fn h_word_table (hr.mono (by decide)) (gl_of (by kernel_rfl)) (takes_of rfl rfl rfl rfl) (qa_cons (qe_var (i := 0) (by kernel_rfl) (.inl (by kernel_rfl))) (qa_cons (qe_tup qa_nil) qa_nil)) rfl) qa_nil))) qa_nil)) (by kernel_rfl) (.inl rfl))
    (qss_cons (qs_par (i := 3) (j := 4) (by decide) (by decide) rfl nd_words_up_to (by kernel_rfl) (by kernel_rfl) (by decide) (by kernel_rfl) (by kernel_rfl) (qe_dispN hr.units (qdn_cons (qe_ix (ixr_at hr.units) rof2 (qe_ix (ixr_at hr.units) rof2 (qe_var (i := 2) (by kernel_rfl) (.inl (by kernel_rfl))) qe_int (fun _ _ => rfl)) qe_int (fun _ _ => rfl)) qe_bl qdn_nil)) (qe_callT callr_list rofN (gl_of (by kernel_rfl)) FX.b_list boot_list (qa_cons (qe_var (i := 2) (by kernel_rfl) (.inl (by kernel_rfl))) qa_nil)) (by kernel_rfl))
    (qss_cons (qs_for (L2.passes_of rfl) rfl (qi_val (qe_callT callr_range rofN (gl_of (by kernel_rfl)) FX.b_range boot_range (qa_cons (qe_var (i := 1) (by kernel_rfl) (.inl (by kernel_rfl))) qa_nil))) (qg_name (i := 5) (by decide) nd_words_up_to (by kernel_rfl) (.inl (by kernel_rfl)) (.inl rfl)) (qss_cons (qs_set (i := 6) (by decide) nd_words_up_to (by kernel_rfl) (.inl (by kernel_rfl)) (qe_lst qa_nil) (by kernel_rfl) (.inl rfl))
    (qss_cons (qs_for (L2.passes_of rfl) rfl (qi_val (qe_var (i := 2) (by kernel_rfl) (.inl (by kernel_rfl)))) (qg_tup rfl (qgs_cons (qg_name (i := 7) (by decide) nd_words_up_to (by kernel_rfl) (.inl (by kernel_rfl)) (.inl rfl)) (qgs_cons (qg_name (i := 8) (by decide) nd_words_up_to (by kernel_rfl) (.inl (by kernel_rfl)) (.inl rfl)) qgs_nil))) (qss_cons (qs_for (L2.passes_of rfl) rfl (qi_val (qe_callT callr_range rofN (gl_of (by kernel_rfl)) FX.b_range boot_range (qa_cons (qe_call callr_len rofN (gl_of (by kernel_rfl)) FX.b_len boot_len (qa_cons (qe_var (i := 0) (by kernel_rfl) (.inl (by kernel_rfl))) qa_nil)) qa_nil))) (qg_name (i := 9) (by decide) nd_words_up_to (by kernel_rfl) (.inl (by kernel_rfl)) (.inl rfl)) (qss_cons (qs_set (i := 10) (by decide) nd_words_up_to (by kernel_rfl) (.inl (by kernel_rfl)) (e_fn h_times_whole (hr.mono (by decide)) (gl_of (by kernel_rfl)) (takes_of rfl rfl rfl rfl) (qa_cons (qe_ix (ixr_at hr.units) rof2 (qe_var (i := 0) (by kernel_rfl) (.inl (by kernel_rfl))) (qe_var (i := 9) (by kernel_rfl) (.inl (by kernel_rfl))) (fun _ _ => rfl)) (qa_cons (qe_var (i := 8) (by kernel_rfl) (.inl (by kernel_rfl))) qa_nil)) rfl) (by kernel_rfl) (.inl rfl))
    (qss_cons (qs_if (qt_cmp (opr_notin (room_un hr)) rof2 (qe_var (i := 10) (by kernel_rfl) (.inl (by kernel_rfl))) (qe_var (i := 3) (by kernel_rfl) (.inl (by kernel_rfl))) rfl) (qss_cons (qs_asg qe_bl (qg_sub (i := 3) (pset_at hr.units) rofS (by kernel_rfl) (.inl (by kernel_rfl)) (qe_var (i := 10) (by kernel_rfl) (.inl (by kernel_rfl)))))
    (qss_cons (qs_expr (qe_meth (i := 6) PySem.F.plainAttrs_list PySem.F.slot_list_append PySem.F.type_list_append mt_append mo_append (by kernel_rfl) (.inl (by kernel_rfl)) (qa_cons (qe_tup (qa_cons (qe_op opr_add rof2 (qe_var (i := 7) (by kernel_rfl) (.inl (by kernel_rfl))) (qe_tup (qa_cons (qe_var (i := 9) (by kernel_rfl) (.inl (by kernel_rfl))) qa_nil))) (qa_cons (qe_var (i := 10) (by kernel_rfl) (.inl (by kernel_rfl))) qa_nil))) qa_nil)))
    qss_nil)) qss_nil)
    qss_nil)))
    qss_nil))
    (qss_cons (qs_expr (qe_meth (i := 4) PySem.F.plainAttrs_list PySem.F.slot_list_extend PySem.F.type_list_extend mt_extend mo_extend (by kernel_rfl) (.inl (by kernel_rfl)) (qa_cons (qe_var (i := 6) (by kernel_rfl) (.inl (by kernel_rfl))) qa_nil)))
    (qss_cons (qs_set (i := 2) (by decide) nd_words_up_to (by kernel_rfl) (.inl (by kernel_rfl)) (qe_var (i := 6) (by kernel_rfl) (.inl (by kernel_rfl))) (by kernel_rfl) (.inl rfl))
    (qss_cons (qs_if (qt_cmp opr_gt rof2 (qe_call callr_len rofN (gl_of (by kernel_rfl)) FX.b_len boot_len (qa_cons (qe_var (i := 4) (by kernel_rfl) (.inl (by kernel_rfl))) qa_nil)) qe_int rfl) (qss_cons (s_raise FX.x_InvalidTable rfl (takes_of rfl rfl rfl rfl) (gl_of (by kernel_rfl)))
    qss_nil) qss_nil)
    qss_nil))))))
    (qss_cons (qs_ret (qe_var (i := 4) (by kernel_rfl) (.inl (by kernel_rfl))))
    qss_nil))))))
theorem o_words_up_to {a : Addr} {fd : FuncData} (FX : Fx K mg) (h_check_tables : HasFn P w K mg base 1 "check_tables" ["tables"] 4 F_check_tables) (h_times_whole : HasFn P w K mg base 1 "times_whole" ["one", "other"] 6 F_times_whole) (h_word_table : HasFn P w K mg base 2 "word_table" ["tables", "word"] 7 F_word_table) (Fd : FunD K "words_up_to" "words_up_to" (defArgs (top 10)) (defBody (top 10)) (defScope (top 10)) [] [] a fd) (hm : mg "words_up_to" = some (.ref a)) : HasFn P w K mg base 3 "words_up_to" ["tables", "most"] 11 F_words_up_to :=
  ⟨a, fd, fn_pure Fd fs_words_up_to (w_words_up_to FX h_check_tables h_times_whole h_word_table), hm, Fd.kp, Fd.bindsN fun _ _ _ _ _ _ us hl => match us, hl with | [_, _], _ => rfl⟩

/-! ### nought_word -/
def F_nought_word : PM Fl := (sSeq (sFor (iVal (eCall (denOf 11 F_words_up_to) (aCons (eVar 0) (aCons (eVar 1) aNil)))) (gTp 2 (gsCons (gNm 2) (gsCons (gNm 3) gsNil))) (sSeq (sIf (tTru (eCall (denOf 2 F_is_nought) (aCons (eVar 3) aNil))) (sSeq (sRet (eVar 2))
  sNext) sNext)
  sNext))
  (sSeq (sRet (eC .non))
  sNext))
theorem nd_nought_word : (["tables", "most", "word", "table"] : List Str).Nodup := by decide +kernel
theorem fs_nought_word : FnScope ["tables", "most", "word", "table"] ["tables", "most"] (defScope (top 9)) := ⟨rfl, rfl, rfl, nd_nought_word, rfl, by decide +kernel, by decide +kernel⟩
theorem w_nought_word {f : Addr} (FX : Fx K mg) (h_is_nought : HasFn P w K mg base 1 "is_nought" ["table"] 2 F_is_nought) (h_words_up_to : HasFn P w K mg base 3 "words_up_to" ["tables", "most"] 11 F_words_up_to) (cdv : Value) (A : Around) (outer : List Env) (s : Shared) (H : Hp) (E : XK) (hr : Room 3 (A.deeper (envOfC "nought_word" (defScope (top 9)) s.heap.objs.size f cdv))) :
    QSs (cxOf (L2.CX P w) P w K mg base ["tables", "most", "word", "table"] "nought_word" (defScope (top 9)) f cdv A outer s H E) (WE0 E) [] (defBody (top 9)) F_nought_word :=
  (qss_cons (qs_for (L2.passes_of rfl) rfl (qi_val (e_fn h_words_up_to (hr.mono (by decide)) (gl_of (by kernel_rfl)) (takes_of rfl rfl rfl rfl) (qa_cons (qe_var (i := 0) (by kernel_rfl) (.inl (by kernel_rfl))) (qa_cons (qe_var (i := 1) (by kernel_rfl) (.inl (by kernel_rfl))) qa_nil)) rfl)) (qg_tup rfl (qgs_cons (qg_name (i := 2) (by decide) nd_nought_word (by kernel_rfl) (.inl (by kernel_rfl)) (.inl rfl)) (qgs_cons (qg_name (i := 3) (by decide) nd_nought_word (by kernel_rfl) (.inl (by kernel_rfl)) (.inl rfl)) qgs_nil))) (qss_cons (qs_if (qt_truth (e_fn h_is_nought (hr.mono (by decide)) (gl_of (by kernel_rfl)) (takes_of rfl rfl rfl rfl) (qa_cons (qe_var (i := 3) (by kernel_rfl) (.inl (by kernel_rfl))) qa_nil) rfl)) (qss_cons (qs_ret (qe_var (i := 2) (by kernel_rfl) (.inl (by kernel_rfl))))
    qss_nil) qss_nil)
    qss_nil))
    (qss_cons (qs_ret qe_non)
    qss_nil))
theorem o_nought_word {a : Addr} {fd : FuncData} (FX : Fx K mg) (h_is_nought : HasFn P w K mg base 1 "is_nought" ["table"] 2 F_is_nought) (h_words_up_to : HasFn P w K mg base 3 "words_up_to" ["tables", "most"] 11 F_words_up_to) (Fd : FunD K "nought_word" "nought_word" (defArgs (top 9)) (defBody (top 9)) (defScope (top 9)) [] [] a fd) (hm : mg "nought_word" = some (.ref a)) : HasFn P w K mg base 4 "nought_word" ["tables", "most"] 4 F_nought_word :=
  ⟨a, fd, fn_pure Fd fs_nought_word (w_nought_word FX h_is_nought h_words_up_to), hm, Fd.kp, Fd.bindsN fun _ _ _ _ _ _ us hl => match us, hl with | [_, _], _ => rfl⟩

/-! ### closes_in -/
def F_closes_in : PM Fl := (sSeq (sSet 2 (eOpN opLen (aCons (eCall (denOf 11 F_words_up_to) (aCons (eVar 0) (aCons (eVar 1) aNil))) aNil)))
  (sSeq (sRet (eIf (tBool (eOp2 opLt (eVar 2) (eOpN opLen (aCons (eCall (denOf 11 F_words_up_to) (aCons (eVar 0) (aCons (eOp2 opAdd (eVar 1) (eC (.int 1))) aNil))) aNil)))) (eC .non) (eVar 2)))
  sNext))
theorem nd_closes_in : (["tables", "most", "many"] : List Str).Nodup := by decide +kernel
theorem fs_closes_in : FnScope ["tables", "most", "many"] ["tables", "most"] (defScope (top 11)) := ⟨rfl, rfl, rfl, nd_closes_in, rfl, by decide +kernel, by decide +kernel⟩
theorem w_closes_in {f : Addr} (FX : Fx K mg) (h_words_up_to : HasFn P w K mg base 3 "words_up_to" ["tables", "most"] 11 F_words_up_to) (cdv : Value) (A : Around) (outer : List Env) (s : Shared) (H : Hp) (E : XK) (hr : Room 3 (A.deeper (envOfC "closes_in" (defScope (top 11)) s.heap.objs.size f cdv))) :
    QSs (cxOf (L2.CX P w) P w K mg base ["tables", "most", "many"] "closes_in" (defScope (top 11)) f cdv A outer s H E) (WE0 E) [] (defBody (top 11)) F_closes_in :=
  (qss_cons (qs_set (i := 2) (by decide) nd_closes_in (by kernel_rfl) (.inl (by kernel_rfl)) (qe_call callr_len rofN (gl_of (by kernel_rfl)) FX.b_len boot_len (qa_cons (e_fn h_words_up_to (hr.mono (by decide)) (gl_of (by kernel_rfl)) (takes_of rfl rfl rfl rfl) (qa_cons (qe_var (i := 0) (by kernel_rfl) (.inl (by kernel_rfl))) (qa_cons (qe_var (i := 1) (by kernel_rfl) (.inl (by kernel_rfl))) qa_nil)) rfl) qa_nil)) (by kernel_rfl) (.inl rfl))
    (qss_cons (qs_ret (qe_if (qt_cmp opr_lt rof2 (qe_var (i := 2) (by kernel_rfl) (.inl (by kernel_rfl))) (qe_call callr_len rofN (gl_of (by kernel_rfl)) FX.b_len boot_len (qa_cons (e_fn h_words_up_to (hr.mono (by decide)) (gl_of (by kernel_rfl)) (takes_of rfl rfl rfl rfl) (qa_cons (qe_var (i := 0) (by kernel_rfl) (.inl (by kernel_rfl))) (qa_cons (qe_op opr_add rof2 (qe_var (i := 1) (by kernel_rfl) (.inl (by kernel_rfl))) qe_int) qa_nil)) rfl) qa_nil)) rfl) qe_non (qe_var (i := 2) (by kernel_rfl) (.inl (by kernel_rfl)))))
    qss_nil))
theorem o_closes_in {a : Addr} {fd : FuncData} (FX : Fx K mg) (h_words_up_to : HasFn P w K mg base 3 "words_up_to" ["tables", "most"] 11 F_words_up_to) (Fd : FunD K "closes_in" "closes_in" (defArgs (top 11)) (defBody (top 11)) (defScope (top 11)) [] [] a fd) (hm : mg "closes_in" = some (.ref a)) : HasFn P w K mg base 4 "closes_in" ["tables", "most"] 3 F_closes_in :=
  ⟨a, fd, fn_pure Fd fs_closes_in (w_closes_in FX h_words_up_to), hm, Fd.kp, Fd.bindsN fun _ _ _ _ _ _ us hl => match us, hl with | [_, _], _ => rfl⟩

/-! ### growing_word -/
def F_growing_word : PM Fl := (sSeq (sSet 2 (eOpN opLen (aCons (eOp2 opIx (eVar 0) (eC (.int 0))) aNil)))
  (sSeq (sFor (iVal (eCall (denOf 11 F_words_up_to) (aCons (eVar 0) (aCons (eVar 1) aNil)))) (gTp 2 (gsCons (gNm 3) (gsCons (gNm 4) gsNil))) (sSeq (sIf (tBool (eOp2 opGt (eOpN opAbs (aCons (eOpN opSum (aCons (eComp [5] (iOf (iVal (eOpN opRange (aCons (eVar 2) aNil)))) (gNm 5) (ret true) (eOp2 opIx (eOp2 opIx (eVar 4) (eVar 5)) (eVar 5))) aNil)) aNil)) (eVar 2))) (sSeq (sRet (eVar 3))
  sNext) sNext)
  sNext))
  (sSeq (sRet (eC .non))
  sNext)))
theorem nd_growing_word : (["tables", "most", "size", "word", "table", "k"] : List Str).Nodup := by decide +kernel
theorem fs_growing_word : FnScope ["tables", "most", "size", "word", "table", "k"] ["tables", "most"] (defScope (top 12)) := ⟨rfl, rfl, rfl, nd_growing_word, rfl, by decide +kernel, by decide +kernel⟩
theorem w_growing_word {f : Addr} (FX : Fx K mg) (h_words_up_to : HasFn P w K mg base 3 "words_up_to" ["tables", "most"] 11 F_words_up_to) (cdv : Value) (A : Around) (outer : List Env) (s : Shared) (H : Hp) (E : XK) (hr : Room 3 (A.deeper (envOfC "growing_word" (defScope (top 12)) s.heap.objs.size f cdv))) :
    QSs (cxOf (L2.CX P w) P w K mg base ["tables", "most", "size", "word", "table", "k"] "growing_word" (defScope (top 12)) f cdv A outer s H E) (WE0 E) [] (defBody (top 12)) F_growing_word :=
  (qss_cons (qs_set (i := 2) (by decide) nd_growing_word (by kernel_rfl) (.inl (by kernel_rfl)) (qe_call callr_len rofN (gl_of (by kernel_rfl)) FX.b_len boot_len (qa_cons (qe_ix (ixr_at hr.units) rof2 (qe_var (i := 0) (by kernel_rfl) (.inl (by kernel_rfl))) qe_int (fun _ _ => rfl)) qa_nil)) (by kernel_rfl) (.inl rfl))
    (qss_cons (qs_for (L2.passes_of rfl) rfl (qi_val (e_fn h_words_up_to (hr.mono (by decide)) (gl_of (by kernel_rfl)) (takes_of rfl rfl rfl rfl) (qa_cons (qe_var (i := 0) (by kernel_rfl) (.inl (by kernel_rfl))) (qa_cons (qe_var (i := 1) (by kernel_rfl) (.inl (by kernel_rfl))) qa_nil)) rfl)) (qg_tup rfl (qgs_cons (qg_name (i := 3) (by decide) nd_growing_word (by kernel_rfl) (.inl (by kernel_rfl)) (.inl rfl)) (qgs_cons (qg_name (i := 4) (by decide) nd_growing_word (by kernel_rfl) (.inr (by kernel_rfl)) (.inl rfl)) qgs_nil))) (qss_cons (qs_if (qt_cmp opr_gt rof2 (qe_call callr_abs rofN (gl_of (by kernel_rfl)) FX.b_abs boot_abs (qa_cons (qe_call (callr_sum rfl) rofN (gl_of (by kernel_rfl)) FX.b_sum boot_sum (qa_cons (qe_lc (own := [("k", 5)]) rfl nd_growing_word (blkOk_by (by kernel_rfl)) (qib_of (qi_val (qe_callT callr_range rofN (gl_of (by kernel_rfl)) FX.b_range boot_range (qa_cons (qe_var (i := 2) (by kernel_rfl) (.inl (by kernel_rfl))) qa_nil)))) (fun _ _ _ _ _ => (qg_name (i := 5) (hp_own (by decide)) nd_growing_word (by kernel_rfl) (.inl (by kernel_rfl)) (.inr (by kernel_rfl)))) (fun _ _ _ _ _ => qts_nil) (fun _ _ _ _ _ => (qe_ix (ixr_at hr.units) rof2 (qe_ix (ixr_at hr.units) rof2 (qe_var (i := 4) (by kernel_rfl) (.inr (.inl (by kernel_rfl)))) (qe_var (i := 5) (by kernel_rfl) (.inl (by kernel_rfl))) (fun _ _ => rfl)) (qe_var (i := 5) (by kernel_rfl) (.inl (by kernel_rfl))) (fun _ _ => rfl)))) qa_nil)) qa_nil)) (qe_var (i := 2) (by kernel_rfl) (.inl (by kernel_rfl))) rfl) (qss_cons (qs_ret (qe_var (i := 3) (by kernel_rfl) (.inl (by kernel_rfl))))
    qss_nil) qss_nil)
    qss_nil))
    (qss_cons (qs_ret qe_non)
    qss_nil)))
theorem o_growing_word {a : Addr} {fd : FuncData} (FX : Fx K mg) (h_words_up_to : HasFn P w K mg base 3 "words_up_to" ["tables", "most"] 11 F_words_up_to) (Fd : FunD K "growing_word" "growing_word" (defArgs (top 12)) (defBody (top 12)) (defScope (top 12)) [] [] a fd) (hm : mg "growing_word" = some (.ref a)) : HasFn P w K mg base 4 "growing_word" ["tables", "most"] 6 F_growing_word :=
  ⟨a, fd, fn_pure Fd fs_growing_word (w_growing_word FX h_words_up_to), hm, Fd.kp, Fd.bindsN fun _ _ _ _ _ _ us hl => match us, hl with | [_, _], _ => rfl⟩

/-! ### widest -/
def F_widest : PM Fl := (sSeq (sExpr (eCall (denOf 4 F_check_tables) (aCons (eVar 0) aNil)))
  (sSeq (sIf (tNotP (tBool (eChain opLe opLe (eC (.int 0)) (eVar 1) (eC (.int 6))))) (sSeq (sRaise "InvalidTable")
  sNext) sNext)
  (sSeq (sSet 2 (eLst (aCons (eCall (denOf 7 F_word_table) (aCons (eVar 0) (aCons (eTup aNil) aNil))) aNil)))
  (sSeq (sFor (iVal (eOpN opRange (aCons (eVar 1) aNil))) (gNm 3) (sSeq (sSet 2 (eOpN opSrt (aCons (eDc2 1 [4, 5] [5] (iVal (eVar 2)) (gNm 4) (ret true) (iVal (eVar 0)) (gNm 5) (ret true) (eCall (denOf 6 F_times_whole) (aCons (eVar 5) (aCons (eVar 4) aNil))) (eC (.bl true))) aNil)))
  sNext))
  (sSeq (sRet (eOpN opMax (aCons (eComp [4] (iOf (iVal (eVar 2))) (gNm 4) (ret true) (eOpN opMax (aCons (eComp [6] (iOf (iVal (eVar 4))) (gNm 6) (ret true) (eOpN opSum (aCons (eComp [7] (iOf (iVal (eVar 6))) (gNm 7) (ret true) (eOpN opAbs (aCons (eVar 7) aNil))) aNil))) aNil))) aNil)))
  sNext)))))
theorem nd_widest : (["tables", "length", "rows", "_", "row", "table", "line", "a"] : List Str).Nodup := by decide +kernel
theorem fs_widest : FnScope ["tables", "length", "rows", "_", "row", "table", "line", "a"] ["tables", "length"] (defScope (top 14)) := ⟨rfl, rfl, rfl, nd_widest, rfl, by decide +kernel, by decide +kernel⟩
theorem w_widest {f : Addr} (FX : Fx K mg) (h_check_tables : HasFn P w K mg base 1 "check_tables" ["tables"] 4 F_check_tables) (h_times_whole : HasFn P w K mg base 1 "times_whole" ["one", "other"] 6 F_times_whole) (h_word_table : HasFn P w K mg base 2 "word_table" ["tables", "word"] 7 F_word_table) (cdv : Value) (A : Around) (outer : List Env) (s : Shared) (H : Hp) (E : XK) (hr : Room 2 (A.deeper (envOfC "widest" (defScope (top 14)) s.heap.objs.size f cdv))) :
    QSs (cxOf (L2.CX P w) P w K mg base ["tables", "length", "rows", "_", "row", "table", "line", "a"] "widest" (defScope (top 14)) f cdv A outer s H E) (WE0 E) [] (defBody (top 14)) F_widest :=
  (qss_cons (qs_expr (e_fn h_check_tables (hr.mono (by decide)) (gl_of (by kernel_rfl)) (takes_of rfl rfl rfl rfl) (qa_cons (qe_var (i := 0) (by kernel_rfl) (.inr (.inl (by kernel_rfl)))) qa_nil) rfl))
    (qss_cons (qs_if (qt_not (qt_chain opr_le rof2 opr_le rof2 qe_int (qe_var (i := 1) (by kernel_rfl) (.inl (by kernel_rfl))) qe_int)) (qss_cons (s_raise FX.x_InvalidTable rfl (takes_of rfl rfl rfl rfl) (gl_of (by kernel_rfl)))
    qss_nil) qss_nil)
    (qss_cons (qs_set (i := 2) (by decide) nd_widest (by kernel_rfl) (.inl (by kernel_rfl)) (qe_lst (qa_cons (e_fn h_word_table (hr.mono (by decide)) (gl_of (by kernel_rfl)) (takes_of rfl rfl rfl rfl) (qa_cons (qe_var (i := 0) (by kernel_rfl) (.inr (.inl (by kernel_rfl)))) (qa_cons (qe_tup qa_nil) qa_nil)) rfl) qa_nil)) (by kernel_rfl) (.inl rfl))
    (qss_cons (qs_for (L2.passes_of rfl) rfl (qi_val (qe_callT callr_range rofN (gl_of (by kernel_rfl)) FX.b_range boot_range (qa_cons (qe_var (i := 1) (by kernel_rfl) (.inl (by kernel_rfl))) qa_nil))) (qg_name (i := 3) (by decide) nd_widest (by kernel_rfl) (.inl (by kernel_rfl)) (.inl rfl)) (qss_cons (qs_set (i := 2) (by decide) nd_widest (by kernel_rfl) (.inl (by kernel_rfl)) (qe_call (callr_srt rfl hr.units) rofN (gl_of (by kernel_rfl)) FX.b_sorted boot_sorted (qa_cons (qe_dc2 (n := 1) (own := [("row", 4), ("table", 5)]) (vs := [5]) hr.units (by decide) rfl nd_widest (blkOk_by (by kernel_rfl)) (by decide) (qi_val (qe_var (i := 2) (by kernel_rfl) (.inl (by kernel_rfl)))) (fun _ _ _ _ _ => (qg_name (i := 4) (hp_own (by decide)) nd_widest (by kernel_rfl) (.inl (by kernel_rfl)) (.inr (by kernel_rfl)))) (fun _ _ _ _ _ => qts_nil) (fun _ _ _ _ _ => qiv_val (qe_var (i := 0) (by kernel_rfl) (.inr (.inl (by kernel_rfl))))) (fun _ _ _ _ _ => (qg_name (i := 5) (hp_own (by decide)) nd_widest (by kernel_rfl) (.inl (by kernel_rfl)) (.inr (by kernel_rfl)))) (fun _ _ _ _ _ => qts_nil) (fun _ _ _ _ _ => (e_fn h_times_whole (hr.mono (by decide)) (gl_of (by kernel_rfl)) L2.takes0 (qa_cons (qe_var (i := 5) (by kernel_rfl) (.inl (by kernel_rfl))) (qa_cons (qe_var (i := 4) (by kernel_rfl) (.inl (by kernel_rfl))) qa_nil)) rfl)) (fun _ _ _ _ _ => qe_bl)) qa_nil)) (by kernel_rfl) (.inl rfl))
    qss_nil))
    (qss_cons (qs_ret (qe_call (callr_max rfl) rofN (gl_of (by kernel_rfl)) FX.b_max boot_max (qa_cons (qe_lc (own := [("row", 4)]) rfl nd_widest (blkOk_by (by kernel_rfl)) (qib_of (qi_val (qe_var (i := 2) (by kernel_rfl) (.inl (by kernel_rfl))))) (fun _ _ _ _ _ => (qg_name (i := 4) (hp_own (by decide)) nd_widest (by kernel_rfl) (.inl (by kernel_rfl)) (.inr (by kernel_rfl)))) (fun _ _ _ _ _ => qts_nil) (fun _ _ _ _ _ => (qe_call (callr_max rfl) rofN (gl_of (by kernel_rfl)) FX.b_max boot_max (qa_cons (qe_lc (own := [("line", 6)]) rfl nd_widest (blkOk_by (by kernel_rfl)) (qib_of (qi_val (qe_var (i := 4) (by kernel_rfl) (.inl (by kernel_rfl))))) (fun _ _ _ _ _ => (qg_name (i := 6) (hp_own (by decide)) nd_widest (by kernel_rfl) (.inl (by kernel_rfl)) (.inr (by kernel_rfl)))) (fun _ _ _ _ _ => qts_nil) (fun _ _ _ _ _ => (qe_call (callr_sum rfl) rofN (gl_of (by kernel_rfl)) FX.b_sum boot_sum (qa_cons (qe_lc (own := [("a", 7)]) rfl nd_widest (blkOk_by (by kernel_rfl)) (qib_of (qi_val (qe_var (i := 6) (by kernel_rfl) (.inl (by kernel_rfl))))) (fun _ _ _ _ _ => (qg_name (i := 7) (hp_own (by decide)) nd_widest (by kernel_rfl) (.inl (by kernel_rfl)) (.inr (by kernel_rfl)))) (fun _ _ _ _ _ => qts_nil) (fun _ _ _ _ _ => (qe_call callr_abs rofN (gl_of (by kernel_rfl)) FX.b_abs boot_abs (qa_cons (qe_var (i := 7) (by kernel_rfl) (.inl (by kernel_rfl))) qa_nil)))) qa_nil)))) qa_nil)))) qa_nil)))
    qss_nil)))))
theorem o_widest {a : Addr} {fd : FuncData} (FX : Fx K mg) (h_check_tables : HasFn P w K mg base 1 "check_tables" ["tables"] 4 F_check_tables) (h_times_whole : HasFn P w K mg base 1 "times_whole" ["one", "other"] 6 F_times_whole) (h_word_table : HasFn P w K mg base 2 "word_table" ["tables", "word"] 7 F_word_table) (Fd : FunD K "widest" "widest" (defArgs (top 14)) (defBody (top 14)) (defScope (top 14)) [] [] a fd) (hm : mg "widest" = some (.ref a)) : HasFn P w K mg base 3 "widest" ["tables", "length"] 8 F_widest :=
  ⟨a, fd, fn_pure Fd fs_widest (w_widest FX h_check_tables h_times_whole h_word_table), hm, Fd.kp, Fd.bindsN fun _ _ _ _ _ _ us hl => match us, hl with | [_, _], _ => rfl⟩

/-! ### _law_tape -/
def F__law_tape : PM Fl := (sSeq (sSet 2 (eComp [1] (iOf (iVal (eVar 0))) (gNm 1) (ret true) (eOpN opAbs (aCons (eOpN opInt (aCons (eVar 1) aNil)) aNil))))
  (sSeq (sSet 3 (eC (.int 7)))
  (sSeq (sFor (iVal (eVar 2)) (gNm 1) (sSeq (sSet 3 (eOp2 opMod (eOpN opInt (aCons (eOp2 opAdd (eOp2 opMul (eVar 3) (eC (.int 31))) (eVar 1)) aNil)) (eC (.int 2147483647))))
  sNext))
  (sSeq (sRet (eDisp [(.inr "cells"), (.inr "at"), (.inr "left"), (.inr "seed"), (.inr "salt")] [(eVar 2), (eC (.int 0)), (eC (.int 0)), (eVar 3), (eC (.int 0))]))
  sNext))))
theorem nd__law_tape : (["script", "cell", "cells", "seed"] : List Str).Nodup := by decide +kernel
theorem fs__law_tape : FnScope ["script", "cell", "cells", "seed"] ["script"] (defScope (top 16)) := ⟨rfl, rfl, rfl, nd__law_tape, rfl, by decide +kernel, by decide +kernel⟩
theorem w__law_tape {f : Addr} (FX : Fx K mg)  (cdv : Value) (A : Around) (outer : List Env) (s : Shared) (H : Hp) (E : XK) (hr : Room 0 (A.deeper (envOfC "_law_tape" (defScope (top 16)) s.heap.objs.size f cdv))) :
    QSs (cxOf (L2.CX P w) P w K mg base ["script", "cell", "cells", "seed"] "_law_tape" (defScope (top 16)) f cdv A outer s H E) (WE0 E) [] (defBody (top 16)) F__law_tape :=
  (qss_cons (qs_setLc (i := 2) (own := [("cell", 1)]) (by decide) rfl nd__law_tape (by kernel_rfl) (by kernel_rfl) (L2.sw_true rfl (by kernel_rfl) rfl (by kernel_rfl)) (blkOk_by (by kernel_rfl)) (qib_of (qi_val (qe_var (i := 0) (by kernel_rfl) (.inl (by kernel_rfl))))) (fun _ _ _ _ _ => (qg_name (i := 1) (hp_own (by decide)) nd__law_tape (by kernel_rfl) (.inl (by kernel_rfl)) (.inr (by kernel_rfl)))) (fun _ _ _ _ _ => qts_nil) (fun _ _ _ _ _ => (qe_call callr_abs rofN (gl_of (by kernel_rfl)) FX.b_abs boot_abs (qa_cons (qe_callT callr_int rofN (gl_of (by kernel_rfl)) FX.b_int boot_int (qa_cons (qe_var (i := 1) (by kernel_rfl) (.inl (by kernel_rfl))) qa_nil)) qa_nil))))
    (qss_cons (qs_set (i := 3) (by decide) nd__law_tape (by kernel_rfl) (.inl (by kernel_rfl)) qe_int (by kernel_rfl) (.inl rfl))
    (qss_cons (qs_for (L2.passes_of rfl) rfl (qi_val (qe_var (i := 2) (by kernel_rfl) (.inl (by kernel_rfl)))) (qg_name (i := 1) (by decide) nd__law_tape (by kernel_rfl) (.inl (by kernel_rfl)) (.inl rfl)) (qss_cons (qs_set (i := 3) (by decide) nd__law_tape (by kernel_rfl) (.inl (by kernel_rfl)) (qe_op opr_mod rof2 (qe_callT callr_int rofN (gl_of (by kernel_rfl)) FX.b_int boot_int (qa_cons (qe_op opr_add rof2 (qe_op opr_mul rof2 (qe_var (i := 3) (by kernel_rfl) (.inl (by kernel_rfl))) qe_int) (qe_var (i := 1) (by kernel_rfl) (.inl (by kernel_rfl)))) qa_nil)) qe_int) (by kernel_rfl) (.inl rfl))
    qss_nil))
    (qss_cons (qs_ret (qe_disp (qd_cons (x := (.inr "cells")) pe_str (qe_var (i := 2) (by kernel_rfl) (.inl (by kernel_rfl))) (qd_cons (x := (.inr "at")) pe_str qe_int (qd_cons (x := (.inr "left")) pe_str qe_int (qd_cons (x := (.inr "seed")) pe_str (qe_var (i := 3) (by kernel_rfl) (.inl (by kernel_rfl))) (qd_cons (x := (.inr "salt")) pe_str qe_int qd_nil))))) rfl rfl (by simp) (by decide) (by decide)))
    qss_nil))))
theorem o__law_tape {a : Addr} {fd : FuncData} (FX : Fx K mg)  (Fd : FunD K "_law_tape" "_law_tape" (defArgs (top 16)) (defBody (top 16)) (defScope (top 16)) [] [] a fd) (hm : mg "_law_tape" = some (.ref a)) : HasFn P w K mg base 1 "_law_tape" ["script"] 4 F__law_tape :=
  ⟨a, fd, fn_pure Fd fs__law_tape (w__law_tape FX ), hm, Fd.kp, Fd.bindsN fun _ _ _ _ _ _ us hl => match us, hl with | [_], _ => rfl⟩

/-! ### _law_take -/
def F__law_take : PM Fl := (sSeq (sIf (tAndP (tBool (eOp2 opEq (eOp2 opIx (eVar 0) (eC (.str "left"))) (eC (.int 0)))) (tBool (eOp2 opLt (eOp2 opIx (eVar 0) (eC (.str "at"))) (eOpN opLen (aCons (eOp2 opIx (eVar 0) (eC (.str "cells"))) aNil))))) (sSeq (sAsg (eOp2 opIx (eOp2 opIx (eVar 0) (eC (.str "cells"))) (eOp2 opIx (eVar 0) (eC (.str "at")))) (gSubP 0 opSet (eC (.str "left"))))
  (sSeq (sAsg (eOp2 opAdd (eOp2 opIx (eVar 0) (eC (.str "at"))) (eC (.int 1))) (gSubP 0 opSet (eC (.str "at"))))
  sNext)) sNext)
  (sSeq (sIf (tBool (eOp2 opGt (eOp2 opIx (eVar 0) (eC (.str "left"))) (eC (.int 0)))) (sSeq (sSet 2 (eOp2 opMod (eOpN opInt (aCons (eOp2 opIx (eVar 0) (eC (.str "left"))) aNil)) (eVar 1)))
  (sSeq (sAsg (eOp2 opFdiv (eOp2 opIx (eVar 0) (eC (.str "left"))) (eVar 1)) (gSubP 0 opSet (eC (.str "left"))))
  (sSeq (sRet (eVar 2))
  sNext))) sNext)
  (sSeq (sAsg (eOp2 opAdd (eOp2 opIx (eVar 0) (eC (.str "salt"))) (eC (.int 1))) (gSubP 0 opSet (eC (.str "salt"))))
  (sSeq (sSet 3 (eOp2 opMod (eOpN opInt (aCons (eOp2 opAdd (eOp2 opMul (eOp2 opIx (eVar 0) (eC (.str "seed"))) (eC (.int 48271))) (eOp2 opMul (eOp2 opIx (eVar 0) (eC (.str "salt"))) (eC (.int 69621)))) aNil)) (eC (.int 2147483647))))
  (sSeq (sSet 3 (eOp2 opMod (eOpN opInt (aCons (eOp2 opAdd (eOp2 opAdd (eOp2 opMul (eVar 3) (eVar 3)) (eOp2 opMul (eOp2 opIx (eVar 0) (eC (.str "salt"))) (eC (.int 40692)))) (eC (.int 12345))) aNil)) (eC (.int 2147483399))))
  (sSeq (sRet (eOp2 opMod (eOpN opInt (aCons (eVar 3) aNil)) (eVar 1)))
  sNext))))))
theorem nd__law_take : (["tape", "many", "drawn", "mixed"] : List Str).Nodup := by decide +kernel
theorem fs__law_take : FnScope ["tape", "many", "drawn", "mixed"] ["tape", "many"] (defScope (top 17)) := ⟨rfl, rfl, rfl, nd__law_take, rfl, by decide +kernel, by decide +kernel⟩
theorem w__law_take {f : Addr} (FX : Fx K mg)  (cdv : Value) (A : Around) (outer : List Env) (s : Shared) (H : Hp) (E : XK) (hr : Room 0 (A.deeper (envOfC "_law_take" (defScope (top 17)) s.heap.objs.size f cdv))) :
    QSs (cxOf (L2.CX P w) P w K mg base ["tape", "many", "drawn", "mixed"] "_law_take" (defScope (top 17)) f cdv A outer s H E) (WE0 E) [0] (defBody (top 17)) F__law_take :=
  (qss_cons (qs_if (qt_of (qw_and (qt_cmp (opr_eq hr.units) rof2 (qe_ix (ixr_at hr.units) rof2 (qe_var (i := 0) (by kernel_rfl) (.inl (by kernel_rfl))) qe_str (fun _ _ => rfl)) qe_int rfl) (qw_and1 (qt_cmp opr_lt rof2 (qe_ix (ixr_at hr.units) rof2 (qe_var (i := 0) (by kernel_rfl) (.inl (by kernel_rfl))) qe_str (fun _ _ => rfl)) (qe_call callr_len rofN (gl_of (by kernel_rfl)) FX.b_len boot_len (qa_cons (qe_ix (ixr_at hr.units) rof2 (qe_var (i := 0) (by kernel_rfl) (.inl (by kernel_rfl))) qe_str (fun _ _ => rfl)) qa_nil)) rfl)))) (qss_cons (qs_asg (qe_ix (ixr_at hr.units) rof2 (qe_ix (ixr_at hr.units) rof2 (qe_var (i := 0) (by kernel_rfl) (.inl (by kernel_rfl))) qe_str (fun _ _ => rfl)) (qe_ix (ixr_at hr.units) rof2 (qe_var (i := 0) (by kernel_rfl) (.inl (by kernel_rfl))) qe_str (fun _ _ => rfl)) (fun _ _ => rfl)) (qg_sub (i := 0) (pset_at hr.units) rofS (by kernel_rfl) (.inl (by kernel_rfl)) qe_str))
    (qss_cons (qs_asg (qe_op opr_add rof2 (qe_ix (ixr_at hr.units) rof2 (qe_var (i := 0) (by kernel_rfl) (.inl (by kernel_rfl))) qe_str (fun _ _ => rfl)) qe_int) (qg_sub (i := 0) (pset_at hr.units) rofS (by kernel_rfl) (.inl (by kernel_rfl)) qe_str))
    qss_nil)) qss_nil)
    (qss_cons (qs_if (qt_cmp opr_gt rof2 (qe_ix (ixr_at hr.units) rof2 (qe_var (i := 0) (by kernel_rfl) (.inl (by kernel_rfl))) qe_str (fun _ _ => rfl)) qe_int rfl) (qss_cons (qs_set (i := 2) (by decide) nd__law_take (by kernel_rfl) (.inl (by kernel_rfl)) (qe_op opr_mod rof2 (qe_callT callr_int rofN (gl_of (by kernel_rfl)) FX.b_int boot_int (qa_cons (qe_ix (ixr_at hr.units) rof2 (qe_var (i := 0) (by kernel_rfl) (.inl (by kernel_rfl))) qe_str (fun _ _ => rfl)) qa_nil)) (qe_var (i := 1) (by kernel_rfl) (.inl (by kernel_rfl)))) (by kernel_rfl) (.inl rfl))
    (qss_cons (qs_asg (qe_op opr_fdiv rof2 (qe_ix (ixr_at hr.units) rof2 (qe_var (i := 0) (by kernel_rfl) (.inl (by kernel_rfl))) qe_str (fun _ _ => rfl)) (qe_var (i := 1) (by kernel_rfl) (.inl (by kernel_rfl)))) (qg_sub (i := 0) (pset_at hr.units) rofS (by kernel_rfl) (.inl (by kernel_rfl)) qe_str))
    (qss_cons (qs_ret (qe_var (i := 2) (by kernel_rfl) (.inl (by kernel_rfl))))
    qss_nil))) qss_nil)
    (qss_cons (qs_asg (qe_op opr_add rof2 (qe_ix (ixr_at hr.units) rof2 (qe_var (i := 0) (by kernel_rfl) (.inl (by kernel_rfl))) qe_str (fun _ _ => rfl)) qe_int) (qg_sub (i := 0) (pset_at hr.units) rofS (by kernel_rfl) (.inl (by kernel_rfl)) qe_str))
    (qss_cons (qs_set (i := 3) (by decide) nd__law_take (by kernel_rfl) (.inl (by kernel_rfl)) (qe_op opr_mod rof2 (qe_callT callr_int rofN (gl_of (by kernel_rfl)) FX.b_int boot_int (qa_cons (qe_op opr_add rof2 (qe_op opr_mul rof2 (qe_ix (ixr_at hr.units) rof2 (qe_var (i := 0) (by kernel_rfl) (.inl (by kernel_rfl))) qe_str (fun _ _ => rfl)) qe_int) (qe_op opr_mul rof2 (qe_ix (ixr_at hr.units) rof2 (qe_var (i := 0) (by kernel_rfl) (.inl (by kernel_rfl))) qe_str (fun _ _ => rfl)) qe_int)) qa_nil)) qe_int) (by kernel_rfl) (.inl rfl))
    (qss_cons (qs_set (i := 3) (by decide) nd__law_take (by kernel_rfl) (.inl (by kernel_rfl)) (qe_op opr_mod rof2 (qe_callT callr_int rofN (gl_of (by kernel_rfl)) FX.b_int boot_int (qa_cons (qe_op opr_add rof2 (qe_op opr_add rof2 (qe_op opr_mul rof2 (qe_var (i := 3) (by kernel_rfl) (.inl (by kernel_rfl))) (qe_var (i := 3) (by kernel_rfl) (.inl (by kernel_rfl)))) (qe_op opr_mul rof2 (qe_ix (ixr_at hr.units) rof2 (qe_var (i := 0) (by kernel_rfl) (.inl (by kernel_rfl))) qe_str (fun _ _ => rfl)) qe_int)) qe_int) qa_nil)) qe_int) (by kernel_rfl) (.inl rfl))
    (qss_cons (qs_ret (qe_op opr_mod rof2 (qe_callT callr_int rofN (gl_of (by kernel_rfl)) FX.b_int boot_int (qa_cons (qe_var (i := 3) (by kernel_rfl) (.inl (by kernel_rfl))) qa_nil)) (qe_var (i := 1) (by kernel_rfl) (.inl (by kernel_rfl)))))
    qss_nil))))))
theorem o__law_take {a : Addr} {fd : FuncData} (FX : Fx K mg)  (Fd : FunD K "_law_take" "_law_take" (defArgs (top 17)) (defBody (top 17)) (defScope (top 17)) [] [] a fd) (hm : mg "_law_take" = some (.ref a)) : HasFnM P w K mg base 1 "_law_take" ["tape", "many"] 4 F__law_take :=
  ⟨a, fd, fn_io Fd fs__law_take (w__law_take FX ), hm, Fd.kp, Fd.bindsN fun _ _ _ _ _ _ us hl => match us, hl with | [_, _], _ => rfl⟩

/-! ### _law_product -/
def F__law_product : PM Fl := (sSeq (sSet 2 (eOpN opLen (aCons (eVar 0) aNil)))
  (sSeq (sRet (eOpN opTuple (aCons (eComp [3] (iOf (iVal (eOpN opRange (aCons (eVar 2) aNil)))) (gNm 3) (ret true) (eOpN opTuple (aCons (eComp [4] (iOf (iVal (eOpN opRange (aCons (eVar 2) aNil)))) (gNm 4) (ret true) (eOpN opSum (aCons (eComp [5] (iOf (iVal (eOpN opRange (aCons (eVar 2) aNil)))) (gNm 5) (ret true) (eOp2 opMul (eOp2 opIx (eOp2 opIx (eVar 0) (eVar 3)) (eVar 5)) (eOp2 opIx (eOp2 opIx (eVar 1) (eVar 5)) (eVar 4)))) aNil))) aNil))) aNil)))
  sNext))
theorem nd__law_product : (["one", "other", "size", "i", "j", "k"] : List Str).Nodup := by decide +kernel
theorem fs__law_product : FnScope ["one", "other", "size", "i", "j", "k"] ["one", "other"] (defScope (top 19)) := ⟨rfl, rfl, rfl, nd__law_product, rfl, by decide +kernel, by decide +kernel⟩
theorem w__law_product {f : Addr} (FX : Fx K mg)  (cdv : Value) (A : Around) (outer : List Env) (s : Shared) (H : Hp) (E : XK) (hr : Room 0 (A.deeper (envOfC "_law_product" (defScope (top 19)) s.heap.objs.size f cdv))) :
    QSs (cxOf (L2.CX P w) P w K mg base ["one", "other", "size", "i", "j", "k"] "_law_product" (defScope (top 19)) f cdv A outer s H E) (WE0 E) [] (defBody (top 19)) F__law_product :=
  (qss_cons (qs_set (i := 2) (by decide) nd__law_product (by kernel_rfl) (.inr (by kernel_rfl)) (qe_call callr_len rofN (gl_of (by kernel_rfl)) FX.b_len boot_len (qa_cons (qe_var (i := 0) (by kernel_rfl) (.inr (.inl (by kernel_rfl)))) qa_nil)) (by kernel_rfl) (.inl rfl))
    (qss_cons (qs_ret (qe_callT callr_tuple rofN (gl_of (by kernel_rfl)) FX.b_tuple boot_tuple (qa_cons (qe_lc (own := [("i", 3)]) rfl nd__law_product (blkOk_by (by kernel_rfl)) (qib_of (qi_val (qe_callT callr_range rofN (gl_of (by kernel_rfl)) FX.b_range boot_range (qa_cons (qe_var (i := 2) (by kernel_rfl) (.inr (.inl (by kernel_rfl)))) qa_nil)))) (fun _ _ _ _ _ => (qg_name (i := 3) (hp_own (by decide)) nd__law_product (by kernel_rfl) (.inr (by kernel_rfl)) (.inl (by kernel_rfl)))) (fun _ _ _ _ _ => qts_nil) (fun _ _ _ _ _ => (qe_callT callr_tuple rofN (gl_of (by kernel_rfl)) FX.b_tuple boot_tuple (qa_cons (qe_lc (own := [("j", 4)]) rfl nd__law_product (blkOk_by (by kernel_rfl)) (qib_of (qi_val (qe_callT callr_range rofN (gl_of (by kernel_rfl)) FX.b_range boot_range (qa_cons (qe_var (i := 2) (by kernel_rfl) (.inr (.inl (by kernel_rfl)))) qa_nil)))) (fun _ _ _ _ _ => (qg_name (i := 4) (hp_own (by decide)) nd__law_product (by kernel_rfl) (.inr (by kernel_rfl)) (.inl (by kernel_rfl)))) (fun _ _ _ _ _ => qts_nil) (fun _ _ _ _ _ => (qe_call (callr_sum rfl) rofN (gl_of (by kernel_rfl)) FX.b_sum boot_sum (qa_cons (qe_lc (own := [("k", 5)]) rfl nd__law_product (blkOk_by (by kernel_rfl)) (qib_of (qi_val (qe_callT callr_range rofN (gl_of (by kernel_rfl)) FX.b_range boot_range (qa_cons (qe_var (i := 2) (by kernel_rfl) (.inr (.inl (by kernel_rfl)))) qa_nil)))) (fun _ _ _ _ _ => (qg_name (i := 5) (hp_own (by decide)) nd__law_product (by kernel_rfl) (.inl (by kernel_rfl)) (.inr (by kernel_rfl)))) (fun _ _ _ _ _ => qts_nil) (fun _ _ _ _ _ => (qe_op opr_mul rof2 (qe_ix (ixr_at hr.units) rof2 (qe_ix (ixr_at hr.units) rof2 (qe_var (i := 0) (by kernel_rfl) (.inr (.inl (by kernel_rfl)))) (qe_var (i := 3) (by kernel_rfl) (.inr (.inl (by kernel_rfl)))) (fun _ _ => rfl)) (qe_var (i := 5) (by kernel_rfl) (.inl (by kernel_rfl))) (fun _ _ => rfl)) (qe_ix (ixr_at hr.units) rof2 (qe_ix (ixr_at hr.units) rof2 (qe_var (i := 1) (by kernel_rfl) (.inr (.inl (by kernel_rfl)))) (qe_var (i := 5) (by kernel_rfl) (.inl (by kernel_rfl))) (fun _ _ => rfl)) (qe_var (i := 4) (by kernel_rfl) (.inr (.inl (by kernel_rfl)))) (fun _ _ => rfl))))) qa_nil)))) qa_nil)))) qa_nil)))
    qss_nil))
theorem o__law_product {a : Addr} {fd : FuncData} (FX : Fx K mg)  (Fd : FunD K "_law_product" "_law_product" (defArgs (top 19)) (defBody (top 19)) (defScope (top 19)) [] [] a fd) (hm : mg "_law_product" = some (.ref a)) : HasFn P w K mg base 1 "_law_product" ["one", "other"] 6 F__law_product :=
  ⟨a, fd, fn_pure Fd fs__law_product (w__law_product FX ), hm, Fd.kp, Fd.bindsN fun _ _ _ _ _ _ us hl => match us, hl with | [_, _], _ => rfl⟩

/-! ### _law_words -/
def F__law_words : PM Fl := (sSeq (sSet 2 (eLst (aCons (eTup aNil) aNil)))
  (sSeq (sFor (iVal (eOpN opRange (aCons (eVar 1) aNil))) (gNm 3) (sSeq (sSet 4 (eLst aNil))
  (sSeq (sFor (iVal (eVar 2)) (gNm 5) (sSeq (sSet 4 (eOp2 opAdd (eVar 4) (eComp [6] (iOf (iVal (eOpN opRange (aCons (eVar 0) aNil)))) (gNm 6) (ret true) (eOp2 opAdd (eVar 5) (eTup (aCons (eVar 6) aNil))))))
  sNext))
  (sSeq (sSet 2 (eVar 4))
  sNext))))
  (sSeq (sRet (eVar 2))
  sNext)))
theorem nd__law_words : (["many", "length", "rows", "k", "longer", "row", "j"] : List Str).Nodup := by decide +kernel
theorem fs__law_words : FnScope ["many", "length", "rows", "k", "longer", "row", "j"] ["many", "length"] (defScope (top 20)) := ⟨rfl, rfl, rfl, nd__law_words, rfl, by decide +kernel, by decide +kernel⟩
theorem w__law_words {f : Addr} (FX : Fx K mg)  (cdv : Value) (A : Around) (outer : List Env) (s : Shared) (H : Hp) (E : XK) (hr : Room 0 (A.deeper (envOfC "_law_words" (defScope (top 20)) s.heap.objs.size f cdv))) :
    QSs (cxOf (L2.CX P w) P w K mg base ["many", "length", "rows", "k", "longer", "row", "j"] "_law_words" (defScope (top 20)) f cdv A outer s H E) (WE0 E) [] (defBody (top 20)) F__law_words :=
  (qss_cons (qs_set (i := 2) (by decide) nd__law_words (by kernel_rfl) (.inl (by kernel_rfl)) (qe_lst (qa_cons (qe_tup qa_nil) qa_nil)) (by kernel_rfl) (.inl rfl))
    (qss_cons (qs_for (L2.passes_of rfl) rfl (qi_val (qe_callT callr_range rofN (gl_of (by kernel_rfl)) FX.b_range boot_range (qa_cons (qe_var (i := 1) (by kernel_rfl) (.inl (by kernel_rfl))) qa_nil))) (qg_name (i := 3) (by decide) nd__law_words (by kernel_rfl) (.inl (by kernel_rfl)) (.inl rfl)) (qss_cons (qs_set (i := 4) (by decide) nd__law_words (by kernel_rfl) (.inl (by kernel_rfl)) (qe_lst qa_nil) (by kernel_rfl) (.inl rfl))
    (qss_cons (qs_for (L2.passes_of rfl) rfl (qi_val (qe_var (i := 2) (by kernel_rfl) (.inl (by kernel_rfl)))) (qg_name (i := 5) (by decide) nd__law_words (by kernel_rfl) (.inr (by kernel_rfl)) (.inl rfl)) (qss_cons (qs_set (i := 4) (by decide) nd__law_words (by kernel_rfl) (.inl (by kernel_rfl)) (qe_op opr_add rof2 (qe_var (i := 4) (by kernel_rfl) (.inl (by kernel_rfl))) (qe_lc (own := [("j", 6)]) rfl nd__law_words (blkOk_by (by kernel_rfl)) (qib_of (qi_val (qe_callT callr_range rofN (gl_of (by kernel_rfl)) FX.b_range boot_range (qa_cons (qe_var (i := 0) (by kernel_rfl) (.inl (by kernel_rfl))) qa_nil)))) (fun _ _ _ _ _ => (qg_name (i := 6) (hp_own (by decide)) nd__law_words (by kernel_rfl) (.inl (by kernel_rfl)) (.inr (by kernel_rfl)))) (fun _ _ _ _ _ => qts_nil) (fun _ _ _ _ _ => (qe_op opr_add rof2 (qe_var (i := 5) (by kernel_rfl) (.inr (.inl (by kernel_rfl)))) (qe_tup (qa_cons (qe_var (i := 6) (by kernel_rfl) (.inl (by kernel_rfl))) qa_nil)))))) (by kernel_rfl) (.inl rfl))
    qss_nil))
    (qss_cons (qs_set (i := 2) (by decide) nd__law_words (by kernel_rfl) (.inl (by kernel_rfl)) (qe_var (i := 4) (by kernel_rfl) (.inl (by kernel_rfl))) (by kernel_rfl) (.inl rfl))
    qss_nil))))
    (qss_cons (qs_ret (qe_var (i := 2) (by kernel_rfl) (.inl (by kernel_rfl))))
    qss_nil)))
theorem o__law_words {a : Addr} {fd : FuncData} (FX : Fx K mg)  (Fd : FunD K "_law_words" "_law_words" (defArgs (top 20)) (defBody (top 20)) (defScope (top 20)) [] [] a fd) (hm : mg "_law_words" = some (.ref a)) : HasFn P w K mg base 1 "_law_words" ["many", "length"] 7 F__law_words :=
  ⟨a, fd, fn_pure Fd fs__law_words (w__law_words FX ), hm, Fd.kp, Fd.bindsN fun _ _ _ _ _ _ us hl => match us, hl with | [_, _], _ => rfl⟩

/-! ### _law_table -/
def F__law_table : PM Fl := (sSeq (sSet 2 (eOpN opLen (aCons (eOp2 opIx (eVar 0) (eC (.int 0))) aNil)))
  (sSeq (sSet 3 (eOpN opTuple (aCons (eComp [5] (iOf (iVal (eOpN opRange (aCons (eVar 2) aNil)))) (gNm 5) (ret true) (eOpN opTuple (aCons (eComp [6] (iOf (iVal (eOpN opRange (aCons (eVar 2) aNil)))) (gNm 6) (ret true) (eOpN opInt (aCons (eOp2 opEq (eVar 5) (eVar 6)) aNil))) aNil))) aNil)))
  (sSeq (sFor (iVal (eVar 1)) (gNm 4) (sSeq (sSet 3 (eCall (denOf 6 F__law_product) (aCons (eOp2 opIx (eVar 0) (eVar 4)) (aCons (eVar 3) aNil))))
  sNext))
  (sSeq (sRet (eVar 3))
  sNext))))
theorem nd__law_table : (["tables", "word", "size", "now", "k", "i", "j"] : List Str).Nodup := by decide +kernel
theorem fs__law_table : FnScope ["tables", "word", "size", "now", "k", "i", "j"] ["tables", "word"] (defScope (top 21)) := ⟨rfl, rfl, rfl, nd__law_table, rfl, by decide +kernel, by decide +kernel⟩
theorem w__law_table {f : Addr} (FX : Fx K mg) (h__law_product : HasFn P w K mg base 1 "_law_product" ["one", "other"] 6 F__law_product) (cdv : Value) (A : Around) (outer : List Env) (s : Shared) (H : Hp) (E : XK) (hr : Room 1 (A.deeper (envOfC "_law_table" (defScope (top 21)) s.heap.objs.size f cdv))) :
    QSs (cxOf (L2.CX P w) P w K mg base ["tables", "word", "size", "now", "k", "i", "j"] "_law_table" (defScope (top 21)) f cdv A outer s H E) (WE0 E) [] (defBody (top 21)) F__law_table :=
  (qss_cons (qs_set (i := 2) (by decide) nd__law_table (by kernel_rfl) (.inr (by kernel_rfl)) (qe_call callr_len rofN (gl_of (by kernel_rfl)) FX.b_len boot_len (qa_cons (qe_ix (ixr_at hr.units) rof2 (qe_var (i := 0) (by kernel_rfl) (.inl (by kernel_rfl))) qe_int (fun _ _ => rfl)) qa_nil)) (by kernel_rfl) (.inl rfl))
    (qss_cons (qs_set (i := 3) (by decide) nd__law_table (by kernel_rfl) (.inl (by kernel_rfl)) (qe_callT callr_tuple rofN (gl_of (by kernel_rfl)) FX.b_tuple boot_tuple (qa_cons (qe_lc (own := [("i", 5)]) rfl nd__law_table (blkOk_by (by kernel_rfl)) (qib_of (qi_val (qe_callT callr_range rofN (gl_of (by kernel_rfl)) FX.b_range boot_range (qa_cons (qe_var (i := 2) (by kernel_rfl) (.inr (.inl (by kernel_rfl)))) qa_nil)))) (fun _ _ _ _ _ => (qg_name (i := 5) (hp_own (by decide)) nd__law_table (by kernel_rfl) (.inr (by kernel_rfl)) (.inl (by kernel_rfl)))) (fun _ _ _ _ _ => qts_nil) (fun _ _ _ _ _ => (qe_callT callr_tuple rofN (gl_of (by kernel_rfl)) FX.b_tuple boot_tuple (qa_cons (qe_lc (own := [("j", 6)]) rfl nd__law_table (blkOk_by (by kernel_rfl)) (qib_of (qi_val (qe_callT callr_range rofN (gl_of (by kernel_rfl)) FX.b_range boot_range (qa_cons (qe_var (i := 2) (by kernel_rfl) (.inr (.inl (by kernel_rfl)))) qa_nil)))) (fun _ _ _ _ _ => (qg_name (i := 6) (hp_own (by decide)) nd__law_table (by kernel_rfl) (.inl (by kernel_rfl)) (.inr (by kernel_rfl)))) (fun _ _ _ _ _ => qts_nil) (fun _ _ _ _ _ => (qe_callT callr_int rofN (gl_of (by kernel_rfl)) FX.b_int boot_int (qa_cons (qe_cmp (opr_eq hr.units) rof2 (qe_var (i := 5) (by kernel_rfl) (.inr (.inl (by kernel_rfl)))) (qe_var (i := 6) (by kernel_rfl) (.inl (by kernel_rfl))) rfl) qa_nil)))) qa_nil)))) qa_nil)) (by kernel_rfl) (.inl rfl))
    (qss_cons (qs_for (L2.passes_of rfl) rfl (qi_val (qe_var (i := 1) (by kernel_rfl) (.inl (by kernel_rfl)))) (qg_name (i := 4) (by decide) nd__law_table (by kernel_rfl) (.inl (by kernel_rfl)) (.inl rfl)) (qss_cons (qs_set (i := 3) (by decide) nd__law_table (by kernel_rfl) (.inl (by kernel_rfl)) (e_fn h__law_product (hr.mono (by decide)) (gl_of (by kernel_rfl)) (takes_of rfl rfl rfl rfl) (qa_cons (qe_ix (ixr_at hr.units) rof2 (qe_var (i := 0) (by kernel_rfl) (.inl (by kernel_rfl))) (qe_var (i := 4) (by kernel_rfl) (.inl (by kernel_rfl))) (fun _ _ => rfl)) (qa_cons (qe_var (i := 3) (by kernel_rfl) (.inl (by kernel_rfl))) qa_nil)) rfl) (by kernel_rfl) (.inl rfl))
    qss_nil))
    (qss_cons (qs_ret (qe_var (i := 3) (by kernel_rfl) (.inl (by kernel_rfl))))
    qss_nil))))
theorem o__law_table {a : Addr} {fd : FuncData} (FX : Fx K mg) (h__law_product : HasFn P w K mg base 1 "_law_product" ["one", "other"] 6 F__law_product) (Fd : FunD K "_law_table" "_law_table" (defArgs (top 21)) (defBody (top 21)) (defScope (top 21)) [] [] a fd) (hm : mg "_law_table" = some (.ref a)) : HasFn P w K mg base 2 "_law_table" ["tables", "word"] 7 F__law_table :=
  ⟨a, fd, fn_pure Fd fs__law_table (w__law_table FX h__law_product), hm, Fd.kp, Fd.bindsN fun _ _ _ _ _ _ us hl => match us, hl with | [_, _], _ => rfl⟩

theorem fs__law_refused : FnScope ["call"] ["call"] (defScope (top 18)) := ⟨rfl, rfl, rfl, by decide +kernel, rfl, by decide +kernel, by decide +kernel⟩
/-! ### law -/
def F_law : PM Fl := (sSeq (sSet 1 (eCall (denOf 4 F__law_tape) (aCons (eVar 0) aNil)))
  (sSeq (sPar3 2 21 3 (eOp2 opAdd (eC (.int 1)) (eCallM (denIO 4 F__law_take) (aCons (eVar 1) (aCons (eC (.int 2)) aNil)))) (eOp2 opAdd (eC (.int 1)) (eCallM (denIO 4 F__law_take) (aCons (eVar 1) (aCons (eC (.int 2)) aNil)))) (eOp2 opAdd (eC (.int 1)) (eCallM (denIO 4 F__law_take) (aCons (eVar 1) (aCons (eC (.int 2)) aNil)))))
  (sSeq (sSet 22 (eOpN opTuple (aCons (eComp [4] (iOf (iVal (eOpN opRange (aCons (eVar 21) aNil)))) (gNm 4) (ret true) (eOpN opTuple (aCons (eComp [23] (iOf (iVal (eOpN opRange (aCons (eVar 2) aNil)))) (gNm 23) (ret true) (eOpN opTuple (aCons (eComp [24] (iOf (iVal (eOpN opRange (aCons (eVar 2) aNil)))) (gNm 24) (ret true) (eOp2 opSub (eCallM (denIO 4 F__law_take) (aCons (eVar 1) (aCons (eOp2 opAdd (eOp2 opMul (eC (.int 2)) (eVar 3)) (eC (.int 1))) aNil))) (eVar 3))) aNil))) aNil))) aNil)))
  (sSeq (sIf (tAndP (tBool (eOp2 opEq (eCallM (denIO 4 F__law_take) (aCons (eVar 1) (aCons (eC (.int 3)) aNil))) (eC (.int 0)))) (tBool (eOp2 opEq (eVar 2) (eC (.int 2))))) (sSeq (sSet 22 (eSl (eSl (eTup (aCons (eTup (aCons (eTup (aCons (eC (.int 0)) (aCons (eC (.int 1)) aNil))) (aCons (eTup (aCons (eC (.int 0)) (aCons (eC (.int 0)) aNil))) aNil))) (aCons (eTup (aCons (eTup (aCons (eC (.int 0)) (aCons (eC (.int 0)) aNil))) (aCons (eTup (aCons (eC (.int 1)) (aCons (eC (.int 0)) aNil))) aNil))) (aCons (eTup (aCons (eTup (aCons (eC (.int 0)) (aCons (eC (.int 1)) aNil))) (aCons (eTup (aCons (eC (.int 1)) (aCons (eC (.int 0)) aNil))) aNil))) (aCons (eTup (aCons (eTup (aCons (eC (.int 1)) (aCons (eC (.int 0)) aNil))) (aCons (eTup (aCons (eC (.int 0)) (aCons (eC (.int 0)) aNil))) aNil))) aNil))))) (eP (eCallM (denIO 4 F__law_take) (aCons (eVar 1) (aCons (eC (.int 2)) aNil)))) eNoP) eNoP (eP (eVar 21))))
  sNext) sNext)
  (sSeq (sSet 5 (eOpN opTuple (aCons (eComp [4] (iOf (iVal (eOpN opRange (aCons (eCallM (denIO 4 F__law_take) (aCons (eVar 1) (aCons (eC (.int 7)) aNil))) aNil)))) (gNm 4) (ret true) (eCallM (denIO 4 F__law_take) (aCons (eVar 1) (aCons (eVar 21) aNil)))) aNil)))
  (sSeq (sIf (tOrP (tBool (eOp2 opNe (eCall (denOf 7 F_word_table) (aCons (eVar 22) (aCons (eVar 5) aNil))) (eCall (denOf 7 F__law_table) (aCons (eVar 22) (aCons (eVar 5) aNil))))) (tBool (eOp2 opNe (eCall (denOf 6 F_times_whole) (aCons (eOp2 opIx (eVar 22) (eC (.int 0))) (aCons (eOp2 opIx (eVar 22) (eOp1 opNeg (eC (.int 1)))) aNil))) (eCall (denOf 6 F__law_product) (aCons (eOp2 opIx (eVar 22) (eC (.int 0))) (aCons (eOp2 opIx (eVar 22) (eOp1 opNeg (eC (.int 1)))) aNil)))))) (sSeq (sRet (eC (.bl false)))
  sNext) sNext)
  (sSeq (sIf (tBool (eOp2 opNe (eCall (denOf 2 F_is_nought) (aCons (eCall (denOf 7 F__law_table) (aCons (eVar 22) (aCons (eVar 5) aNil))) aNil)) (eNot (eOpN opAny (aCons (eComp [6] (iOf (iVal (eCall (denOf 7 F__law_table) (aCons (eVar 22) (aCons (eVar 5) aNil))))) (gNm 6) (ret true) (eOpN opAny (aCons (eVar 6) aNil))) aNil))))) (sSeq (sRet (eC (.bl false)))
  sNext) sNext)
  (sSeq (sSet 7 (eIf (tBool (eOp2 opEq (eVar 21) (eC (.int 2)))) (eC (.int 5)) (eC (.int 7))))
  (sSeq (sSet 8 (eLst aNil))
  (sSeq (sFor (iVal (eOpN opRange (aCons (eOp2 opAdd (eVar 7) (eC (.int 1))) aNil))) (gNm 9) (sSeq (sSet 8 (eOp2 opAdd (eVar 8) (eCall (denOf 7 F__law_words) (aCons (eVar 21) (aCons (eVar 9) aNil)))))
  sNext))
  (sSeq (sPar 10 11 (eNewD 1) (eLst aNil))
  (sSeq (sFor (iVal (eVar 8)) (gNm 6) (sSeq (sSet 12 (eCall (denOf 7 F__law_table) (aCons (eVar 22) (aCons (eVar 6) aNil))))
  (sSeq (sIf (tBool (eOp2 opNotIn (eVar 12) (eVar 10))) (sSeq (sAsg (eVar 6) (gSubP 10 opSet (eVar 12)))
  (sSeq (sExpr (eMeth 11 opAppend (aCons (eTup (aCons (eVar 6) (aCons (eVar 12) aNil))) aNil)))
  sNext)) sNext)
  sNext)))
  (sSeq (sIf (tBool (eOp2 opNe (eCall (denOf 11 F_words_up_to) (aCons (eVar 22) (aCons (eVar 7) aNil))) (eVar 11))) (sSeq (sRet (eC (.bl false)))
  sNext) sNext)
  (sSeq (sSet 13 (eComp [6, 12] (iOf (iVal (eVar 11))) (gTp 2 (gsCons (gNm 6) (gsCons (gNm 12) gsNil))) (tNotP (tTru (eOpN opAny (aCons (eComp [25] (iOf (iVal (eVar 12))) (gNm 25) (ret true) (eOpN opAny (aCons (eVar 25) aNil))) aNil)))) (eVar 6)))
  (sSeq (sIf (tBool (eOp2 opNe (eCall (denOf 4 F_nought_word) (aCons (eVar 22) (aCons (eVar 7) aNil))) (eIf (tBool (eOp2 opGt (eOpN opLen (aCons (eVar 13) aNil)) (eC (.int 0)))) (eOp2 opIx (eVar 13) (eC (.int 0))) (eC .non)))) (sSeq (sRet (eC (.bl false)))
  sNext) sNext)
  (sSeq (sSet 14 (eComp [6, 12] (iOf (iVal (eVar 11))) (gTp 2 (gsCons (gNm 6) (gsCons (gNm 12) gsNil))) (tBool (eOp2 opGt (eOpN opAbs (aCons (eOpN opSum (aCons (eComp [4] (iOf (iVal (eOpN opRange (aCons (eVar 2) aNil)))) (gNm 4) (ret true) (eOp2 opIx (eOp2 opIx (eVar 12) (eVar 4)) (eVar 4))) aNil)) aNil)) (eVar 2))) (eVar 6)))
  (sSeq (sIf (tBool (eOp2 opNe (eCall (denOf 6 F_growing_word) (aCons (eVar 22) (aCons (eVar 7) aNil))) (eIf (tBool (eOp2 opGt (eOpN opLen (aCons (eVar 14) aNil)) (eC (.int 0)))) (eOp2 opIx (eVar 14) (eC (.int 0))) (eC .non)))) (sSeq (sRet (eC (.bl false)))
  sNext) sNext)
  (sSeq (sIf (tBool (eOp2 opNe (eCall (denOf 4 F_takes_growing) (aCons (eVar 22) (aCons (eVar 5) aNil))) (eOp2 opGt (eOpN opAbs (aCons (eOpN opSum (aCons (eComp [4] (iOf (iVal (eOpN opRange (aCons (eVar 2) aNil)))) (gNm 4) (ret true) (eOp2 opIx (eOp2 opIx (eCall (denOf 7 F__law_table) (aCons (eVar 22) (aCons (eVar 5) aNil))) (eVar 4)) (eVar 4))) aNil)) aNil)) (eVar 2)))) (sSeq (sRet (eC (.bl false)))
  sNext) sNext)
  (sSeq (sIf (tBool (eOp2 opGt (eOpN opLen (aCons (eVar 14) aNil)) (eC (.int 0)))) (sSeq (sPar 15 16 (eCall (denOf 7 F__law_table) (aCons (eVar 22) (aCons (eOp2 opIx (eVar 14) (eC (.int 0))) aNil))) (eC (.int 0)))
  (sSeq (sSet 17 (eVar 15))
  (sSeq (sFor (iVal (eOpN opRange (aCons (eC (.int 12)) aNil))) (gNm 4) (sSeq (sSet 16 (eOpN opMax (aCons (eOp2 opAdd (eLst (aCons (eVar 16) aNil)) (eComp [25] (iOf (iVal (eVar 17))) (gNm 25) (ret true) (eOpN opMax (aCons (eComp [26] (iOf (iVal (eVar 25))) (gNm 26) (ret true) (eOpN opAbs (aCons (eVar 26) aNil))) aNil)))) aNil)))
  (sSeq (sSet 17 (eCall (denOf 6 F__law_product) (aCons (eVar 15) (aCons (eVar 17) aNil))))
  sNext)))
  (sSeq (sIf (tBool (eOp2 opLt (eVar 16) (eC (.int 2)))) (sSeq (sRet (eC (.bl false)))
  sNext) sNext)
  sNext)))) sNext)
  (sSeq (sSet 18 (eComp [6, 12] (iOf (iVal (eVar 11))) (gTp 2 (gsCons (gNm 6) (gsCons (gNm 12) gsNil))) (tBool (eOp2 opLt (eOpN opLen (aCons (eVar 6) aNil)) (eVar 7))) (eVar 6)))
  (sSeq (sIf (tBool (eOp2 opNe (eCall (denOf 3 F_closes_in) (aCons (eVar 22) (aCons (eOp2 opSub (eVar 7) (eC (.int 1))) aNil))) (eIf (tBool (eOp2 opEq (eOpN opLen (aCons (eVar 18) aNil)) (eOpN opLen (aCons (eVar 11) aNil)))) (eOpN opLen (aCons (eVar 18) aNil)) (eC .non)))) (sSeq (sRet (eC (.bl false)))
  sNext) sNext)
  (sSeq (sIf (tAndP (tBool (eOp2 opIsNot (eCall (denOf 3 F_closes_in) (aCons (eVar 22) (aCons (eOp2 opSub (eVar 7) (eC (.int 1))) aNil))) (eC .non))) (tBool (eOp2 opGt (eOpN opLen (aCons (eVar 14) aNil)) (eC (.int 0))))) (sSeq (sRet (eC (.bl false)))
  sNext) sNext)
  (sSeq (sSet 9 (eCallM (denIO 4 F__law_take) (aCons (eVar 1) (aCons (eC (.int 5)) aNil))))
  (sSeq (sSet 19 (eOpN opMax (aCons (eComp [6] (iOf (iVal (eCall (denOf 7 F__law_words) (aCons (eVar 21) (aCons (eVar 9) aNil))))) (gNm 6) (ret true) (eOpN opMax (aCons (eComp [25] (iOf (iVal (eCall (denOf 7 F__law_table) (aCons (eVar 22) (aCons (eVar 6) aNil))))) (gNm 25) (ret true) (eOpN opSum (aCons (eComp [26] (iOf (iVal (eVar 25))) (gNm 26) (ret true) (eOpN opAbs (aCons (eVar 26) aNil))) aNil))) aNil))) aNil)))
  (sSeq (sIf (tBool (eOp2 opNe (eCall (denOf 8 F_widest) (aCons (eVar 22) (aCons (eVar 9) aNil))) (eVar 19))) (sSeq (sRet (eC (.bl false)))
  sNext) sNext)
  (sSeq (sFor (iVal (eTup (aCons (eTup aNil) (aCons (eTup (aCons (eTup (aCons (eTup (aCons (eC (.int 1)) (aCons (eC (.int 2)) aNil))) aNil)) aNil)) (aCons (eTup (aCons (eTup (aCons (eTup (aCons (eC (.int 10)) aNil)) aNil)) aNil)) (aCons (eTup (aCons (eTup (aCons (eTup (aCons (eC (.int 1)) aNil)) aNil)) (aCons (eTup (aCons (eTup (aCons (eC (.int 1)) (aCons (eC (.int 0)) aNil))) (aCons (eTup (aCons (eC (.int 0)) (aCons (eC (.int 1)) aNil))) aNil))) aNil))) (aCons (eOp2 opMul (eTup (aCons (eTup (aCons (eTup (aCons (eC (.int 1)) aNil)) aNil)) aNil)) (eC (.int 4))) aNil))))))) (gNm 20) (sSeq (sIf (tNotP (tRef (fun n => decide (n ∈ (["InvalidTable"] : List Str))) (eCall (denOf 7 F_word_table) (aCons (eVar 20) (aCons (eTup aNil) aNil))))) (sSeq (sRet (eC (.bl false)))
  sNext) sNext)
  sNext))
  (sSeq (sIf (tNotP (tRef (fun n => decide (n ∈ (["InvalidTable"] : List Str))) (eCall (denOf 7 F_word_table) (aCons (eVar 22) (aCons (eTup (aCons (eVar 21) aNil)) aNil))))) (sSeq (sRet (eC (.bl false)))
  sNext) sNext)
  (sSeq (sIf (tNotP (tRef (fun n => decide (n ∈ (["InvalidTable"] : List Str))) (eCall (denOf 8 F_widest) (aCons (eVar 22) (aCons (eC (.int 7)) aNil))))) (sSeq (sRet (eC (.bl false)))
  sNext) sNext)
  (sSeq (sRetB (tRef (fun n => decide (n ∈ (["InvalidTable"] : List Str))) (eCall (denOf 11 F_words_up_to) (aCons (eVar 22) (aCons (eC (.int 11)) aNil)))))
  sNext)))))))))))))))))))))))))))))
theorem nd_law : (["script", "tape", "size", "top", "k", "word", "row", "most", "rows", "length", "seen", "first", "told", "noughts", "grows", "power", "worst", "now", "short", "due", "bad", "many", "tables", "i", "j", "line", "a"] : List Str).Nodup := by decide +kernel
theorem fs_law : FnScope ["script", "tape", "size", "top", "k", "word", "row", "most", "rows", "length", "seen", "first", "told", "noughts", "grows", "power", "worst", "now", "short", "due", "bad", "many", "tables", "i", "j", "line", "a"] ["script"] (defScope (top 22)) := ⟨rfl, rfl, rfl, nd_law, rfl, by decide +kernel, by decide +kernel⟩
theorem w_law {f cT Pt : Addr} (FX : Fx K mg) (h__law_product : HasFn P w K mg base 1 "_law_product" ["one", "other"] 6 F__law_product) (h__law_table : HasFn P w K mg base 2 "_law_table" ["tables", "word"] 7 F__law_table) (h__law_take : HasFnM P w K mg base 1 "_law_take" ["tape", "many"] 4 F__law_take) (h__law_tape : HasFn P w K mg base 1 "_law_tape" ["script"] 4 F__law_tape) (h__law_words : HasFn P w K mg base 1 "_law_words" ["many", "length"] 7 F__law_words) (h_closes_in : HasFn P w K mg base 4 "closes_in" ["tables", "most"] 3 F_closes_in) (h_growing_word : HasFn P w K mg base 4 "growing_word" ["tables", "most"] 6 F_growing_word) (h_is_nought : HasFn P w K mg base 1 "is_nought" ["table"] 2 F_is_nought) (h_nought_word : HasFn P w K mg base 4 "nought_word" ["tables", "most"] 4 F_nought_word) (h_takes_growing : HasFn P w K mg base 3 "takes_growing" ["tables", "word"] 4 F_takes_growing) (h_times_whole : HasFn P w K mg base 1 "times_whole" ["one", "other"] 6 F_times_whole) (h_widest : HasFn P w K mg base 3 "widest" ["tables", "length"] 8 F_widest) (h_word_table : HasFn P w K mg base 2 "word_table" ["tables", "word"] 7 F_word_table) (h_words_up_to : HasFn P w K mg base 3 "words_up_to" ["tables", "most"] 11 F_words_up_to) (RF__law_refused : RefF K mg "InvalidTable" ["InvalidTable"]) {gR__law_refused : Addr} {fdR__law_refused : FuncData} (FR__law_refused : FunD K "_law_refused" "_law_refused" (defArgs (top 18)) (defBody (top 18)) (defScope (top 18)) [] [] gR__law_refused fdR__law_refused) (mR__law_refused : mg "_law_refused" = some (.ref gR__law_refused)) (TB : LamX.TabB base mg cT Pt) (A : Around) (outer : List Env) (s : Shared) (H : Hp) (E : XK) (hr : Room 5 (A.deeper (envOfC "law" (defScope (top 22)) s.heap.objs.size f (.ref cT)))) :
    LSs (cxOf (L2.CX P w) P w K mg base ["script", "tape", "size", "top", "k", "word", "row", "most", "rows", "length", "seen", "first", "told", "noughts", "grows", "power", "worst", "now", "short", "due", "bad", "many", "tables", "i", "j", "line", "a"] "law" (defScope (top 22)) f (.ref cT) A outer s H E) [(Pt, (envOfC "law" (defScope (top 22)) 0 0 .none).qual ++ "<lambda>")] (defBody (top 22)) F_law :=
  (ls_cons (ls_of (W := WE0 E) (qs_set (i := 1) (by simp) nd_law (by kernel_rfl) (.inr (by kernel_rfl)) (e_fn h__law_tape (hr.mono (by decide)) (gl_of (by kernel_rfl)) (takes_of rfl rfl rfl rfl) (qa_cons (qe_var (i := 0) (by kernel_rfl) (.inl (by kernel_rfl))) qa_nil) rfl) (by kernel_rfl) (.inl rfl)))
    (ls_cons (ls_of (W := WE0 E) (qs_par3C (i := 2) (j := 21) (l := 3) (by simp) (by simp) (by simp) rfl nd_law (by kernel_rfl) (by kernel_rfl) (by kernel_rfl) (by decide) (by decide) (by decide) (.inr (by kernel_rfl)) (.inr (by kernel_rfl)) (.inr (by kernel_rfl)) (qe_op opr_add rof2 qe_int (e_fnM h__law_take (hr.mono (by decide)) (gl_of (by kernel_rfl)) (takes_of rfl rfl rfl rfl) (qa_cons (qe_var (i := 1) (by kernel_rfl) (.inr (.inl (by kernel_rfl)))) (qa_cons qe_int qa_nil)) rfl)) (qe_op opr_add rof2 qe_int (e_fnM h__law_take (hr.mono (by decide)) (gl_of (by kernel_rfl)) (takes_of rfl rfl rfl rfl) (qa_cons (qe_var (i := 1) (by kernel_rfl) (.inr (.inl (by kernel_rfl)))) (qa_cons qe_int qa_nil)) rfl)) (qe_op opr_add rof2 qe_int (e_fnM h__law_take (hr.mono (by decide)) (gl_of (by kernel_rfl)) (takes_of rfl rfl rfl rfl) (qa_cons (qe_var (i := 1) (by kernel_rfl) (.inr (.inl (by kernel_rfl)))) (qa_cons qe_int qa_nil)) rfl)) (by kernel_rfl)))
    (ls_cons (ls_of (W := WE0 E) (qs_set (i := 22) (by simp) nd_law (by kernel_rfl) (.inr (by kernel_rfl)) (qe_callT callr_tuple rofN (gl_of (by kernel_rfl)) FX.b_tuple boot_tuple (qa_cons (qe_lc (own := [("k", 4)]) rfl nd_law (blkOk_by (by kernel_rfl)) (qib_of (qi_val (qe_callT callr_range rofN (gl_of (by kernel_rfl)) FX.b_range boot_range (qa_cons (qe_var (i := 21) (by kernel_rfl) (.inr (.inl (by kernel_rfl)))) qa_nil)))) (fun _ _ _ _ _ => (qg_name (i := 4) (hp_own (by decide)) nd_law (by kernel_rfl) (.inl (by kernel_rfl)) (.inr (by kernel_rfl)))) (fun _ _ _ _ _ => qts_nil) (fun _ _ _ _ _ => (qe_callT callr_tuple rofN (gl_of (by kernel_rfl)) FX.b_tuple boot_tuple (qa_cons (qe_lc (own := [("i", 23)]) rfl nd_law (blkOk_by (by kernel_rfl)) (qib_of (qi_val (qe_callT callr_range rofN (gl_of (by kernel_rfl)) FX.b_range boot_range (qa_cons (qe_var (i := 2) (by kernel_rfl) (.inr (.inl (by kernel_rfl)))) qa_nil)))) (fun _ _ _ _ _ => (qg_name (i := 23) (hp_own (by decide)) nd_law (by kernel_rfl) (.inl (by kernel_rfl)) (.inr (by kernel_rfl)))) (fun _ _ _ _ _ => qts_nil) (fun _ _ _ _ _ => (qe_callT callr_tuple rofN (gl_of (by kernel_rfl)) FX.b_tuple boot_tuple (qa_cons (qe_lc (own := [("j", 24)]) rfl nd_law (blkOk_by (by kernel_rfl)) (qib_of (qi_val (qe_callT callr_range rofN (gl_of (by kernel_rfl)) FX.b_range boot_range (qa_cons (qe_var (i := 2) (by kernel_rfl) (.inr (.inl (by kernel_rfl)))) qa_nil)))) (fun _ _ _ _ _ => (qg_name (i := 24) (hp_own (by decide)) nd_law (by kernel_rfl) (.inl (by kernel_rfl)) (.inr (by kernel_rfl)))) (fun _ _ _ _ _ => qts_nil) (fun _ _ _ _ _ => (qe_op opr_sub rof2 (e_fnM h__law_take (hr.mono (by decide)) (gl_of (by kernel_rfl)) L2.takes0 (qa_cons (qe_var (i := 1) (by kernel_rfl) (.inr (.inl (by kernel_rfl)))) (qa_cons (qe_op opr_add rof2 (qe_op opr_mul rof2 qe_int (qe_var (i := 3) (by kernel_rfl) (.inr (.inl (by kernel_rfl))))) qe_int) qa_nil)) rfl) (qe_var (i := 3) (by kernel_rfl) (.inr (.inl (by kernel_rfl))))))) qa_nil)))) qa_nil)))) qa_nil)) (by kernel_rfl) (.inl rfl)))
    (ls_cons (ls_of (W := WE0 E) (qs_if (qt_of (qw_and (qt_cmp (opr_eq hr.units) rof2 (e_fnM h__law_take (hr.mono (by decide)) (gl_of (by kernel_rfl)) (takes_of rfl rfl rfl rfl) (qa_cons (qe_var (i := 1) (by kernel_rfl) (.inr (.inl (by kernel_rfl)))) (qa_cons qe_int qa_nil)) rfl) qe_int rfl) (qw_and1 (qt_cmp (opr_eq hr.units) rof2 (qe_var (i := 2) (by kernel_rfl) (.inr (.inl (by kernel_rfl)))) qe_int rfl)))) (qss_cons (qs_set (i := 22) (by simp) nd_law (by kernel_rfl) (.inr (by kernel_rfl)) (qe_sl (qe_sl (qe_tup (qa_cons (qe_tup (qa_cons (qe_tup (qa_cons qe_int (qa_cons qe_int qa_nil))) (qa_cons (qe_tup (qa_cons qe_int (qa_cons qe_int qa_nil))) qa_nil))) (qa_cons (qe_tup (qa_cons (qe_tup (qa_cons qe_int (qa_cons qe_int qa_nil))) (qa_cons (qe_tup (qa_cons qe_int (qa_cons qe_int qa_nil))) qa_nil))) (qa_cons (qe_tup (qa_cons (qe_tup (qa_cons qe_int (qa_cons qe_int qa_nil))) (qa_cons (qe_tup (qa_cons qe_int (qa_cons qe_int qa_nil))) qa_nil))) (qa_cons (qe_tup (qa_cons (qe_tup (qa_cons qe_int (qa_cons qe_int qa_nil))) (qa_cons (qe_tup (qa_cons qe_int (qa_cons qe_int qa_nil))) qa_nil))) qa_nil))))) (qo_some (e_fnM h__law_take (hr.mono (by decide)) (gl_of (by kernel_rfl)) (takes_of rfl rfl rfl rfl) (qa_cons (qe_var (i := 1) (by kernel_rfl) (.inr (.inl (by kernel_rfl)))) (qa_cons qe_int qa_nil)) rfl)) qo_none) qo_none (qo_some (qe_var (i := 21) (by kernel_rfl) (.inr (.inl (by kernel_rfl)))))) (by kernel_rfl) (.inl rfl))
    qss_nil) qss_nil))
    (ls_cons (ls_of (W := WE0 E) (qs_set (i := 5) (by simp) nd_law (by kernel_rfl) (.inr (by kernel_rfl)) (qe_callT callr_tuple rofN (gl_of (by kernel_rfl)) FX.b_tuple boot_tuple (qa_cons (qe_lc (own := [("k", 4)]) rfl nd_law (blkOk_by (by kernel_rfl)) (qib_of (qi_val (qe_callT callr_range rofN (gl_of (by kernel_rfl)) FX.b_range boot_range (qa_cons (e_fnM h__law_take (hr.mono (by decide)) (gl_of (by kernel_rfl)) (takes_of rfl rfl rfl rfl) (qa_cons (qe_var (i := 1) (by kernel_rfl) (.inr (.inl (by kernel_rfl)))) (qa_cons qe_int qa_nil)) rfl) qa_nil)))) (fun _ _ _ _ _ => (qg_name (i := 4) (hp_own (by decide)) nd_law (by kernel_rfl) (.inl (by kernel_rfl)) (.inr (by kernel_rfl)))) (fun _ _ _ _ _ => qts_nil) (fun _ _ _ _ _ => (e_fnM h__law_take (hr.mono (by decide)) (gl_of (by kernel_rfl)) L2.takes0 (qa_cons (qe_var (i := 1) (by kernel_rfl) (.inr (.inl (by kernel_rfl)))) (qa_cons (qe_var (i := 21) (by kernel_rfl) (.inr (.inl (by kernel_rfl)))) qa_nil)) rfl))) qa_nil)) (by kernel_rfl) (.inl rfl)))
    (ls_cons (ls_of (W := WE0 E) (qs_if (qt_of (qw_or (qt_cmp (opr_ne hr.units) rof2 (e_fn h_word_table (hr.mono (by decide)) (gl_of (by kernel_rfl)) (takes_of rfl rfl rfl rfl) (qa_cons (qe_var (i := 22) (by kernel_rfl) (.inr (.inl (by kernel_rfl)))) (qa_cons (qe_var (i := 5) (by kernel_rfl) (.inr (.inl (by kernel_rfl)))) qa_nil)) rfl) (e_fn h__law_table (hr.mono (by decide)) (gl_of (by kernel_rfl)) (takes_of rfl rfl rfl rfl) (qa_cons (qe_var (i := 22) (by kernel_rfl) (.inr (.inl (by kernel_rfl)))) (qa_cons (qe_var (i := 5) (by kernel_rfl) (.inr (.inl (by kernel_rfl)))) qa_nil)) rfl) rfl) (qw_or1 (qt_cmp (opr_ne hr.units) rof2 (e_fn h_times_whole (hr.mono (by decide)) (gl_of (by kernel_rfl)) (takes_of rfl rfl rfl rfl) (qa_cons (qe_ix (ixr_at hr.units) rof2 (qe_var (i := 22) (by kernel_rfl) (.inr (.inl (by kernel_rfl)))) qe_int (fun _ _ => rfl)) (qa_cons (qe_ix (ixr_at hr.units) rof2 (qe_var (i := 22) (by kernel_rfl) (.inr (.inl (by kernel_rfl)))) (qe_un unr_neg rof1 qe_int) (fun _ _ => rfl)) qa_nil)) rfl) (e_fn h__law_product (hr.mono (by decide)) (gl_of (by kernel_rfl)) (takes_of rfl rfl rfl rfl) (qa_cons (qe_ix (ixr_at hr.units) rof2 (qe_var (i := 22) (by kernel_rfl) (.inr (.inl (by kernel_rfl)))) qe_int (fun _ _ => rfl)) (qa_cons (qe_ix (ixr_at hr.units) rof2 (qe_var (i := 22) (by kernel_rfl) (.inr (.inl (by kernel_rfl)))) (qe_un unr_neg rof1 qe_int) (fun _ _ => rfl)) qa_nil)) rfl) rfl)))) (qss_cons (qs_ret qe_bl)
    qss_nil) qss_nil))
    (ls_cons (ls_of (W := WE0 E) (qs_if (qt_cmp (opr_ne hr.units) rof2 (e_fn h_is_nought (hr.mono (by decide)) (gl_of (by kernel_rfl)) (takes_of rfl rfl rfl rfl) (qa_cons (e_fn h__law_table (hr.mono (by decide)) (gl_of (by kernel_rfl)) (takes_of rfl rfl rfl rfl) (qa_cons (qe_var (i := 22) (by kernel_rfl) (.inr (.inl (by kernel_rfl)))) (qa_cons (qe_var (i := 5) (by kernel_rfl) (.inr (.inl (by kernel_rfl)))) qa_nil)) rfl) qa_nil) rfl) (qe_not (qe_call (callr_any rfl) rofN (gl_of (by kernel_rfl)) FX.b_any boot_any (qa_cons (qe_lc (own := [("row", 6)]) rfl nd_law (blkOk_by (by kernel_rfl)) (qib_of (qi_val (e_fn h__law_table (hr.mono (by decide)) (gl_of (by kernel_rfl)) (takes_of rfl rfl rfl rfl) (qa_cons (qe_var (i := 22) (by kernel_rfl) (.inr (.inl (by kernel_rfl)))) (qa_cons (qe_var (i := 5) (by kernel_rfl) (.inr (.inl (by kernel_rfl)))) qa_nil)) rfl))) (fun _ _ _ _ _ => (qg_name (i := 6) (hp_own (by decide)) nd_law (by kernel_rfl) (.inl (by kernel_rfl)) (.inr (by kernel_rfl)))) (fun _ _ _ _ _ => qts_nil) (fun _ _ _ _ _ => (qe_call (callr_any rfl) rofN (gl_of (by kernel_rfl)) FX.b_any boot_any (qa_cons (qe_var (i := 6) (by kernel_rfl) (.inl (by kernel_rfl))) qa_nil)))) qa_nil))) rfl) (qss_cons (qs_ret qe_bl)
    qss_nil) qss_nil))
    (ls_cons (ls_of (W := WE0 E) (qs_set (i := 7) (by simp) nd_law (by kernel_rfl) (.inr (by kernel_rfl)) (qe_if (qt_cmp (opr_eq hr.units) rof2 (qe_var (i := 21) (by kernel_rfl) (.inr (.inl (by kernel_rfl)))) qe_int rfl) qe_int qe_int) (by kernel_rfl) (.inl rfl)))
    (ls_cons (ls_of (W := WE0 E) (qs_set (i := 8) (by simp) nd_law (by kernel_rfl) (.inl (by kernel_rfl)) (qe_lst qa_nil) (by kernel_rfl) (.inl rfl)))
    (ls_cons (ls_of (W := WE0 E) (qs_for (L2.passes_of rfl) rfl (qi_val (qe_callT callr_range rofN (gl_of (by kernel_rfl)) FX.b_range boot_range (qa_cons (qe_op opr_add rof2 (qe_var (i := 7) (by kernel_rfl) (.inr (.inl (by kernel_rfl)))) qe_int) qa_nil))) (qg_name (i := 9) (by simp) nd_law (by kernel_rfl) (.inl (by kernel_rfl)) (.inl rfl)) (qss_cons (qs_set (i := 8) (by simp) nd_law (by kernel_rfl) (.inl (by kernel_rfl)) (qe_op opr_add rof2 (qe_var (i := 8) (by kernel_rfl) (.inl (by kernel_rfl))) (e_fn h__law_words (hr.mono (by decide)) (gl_of (by kernel_rfl)) (takes_of rfl rfl rfl rfl) (qa_cons (qe_var (i := 21) (by kernel_rfl) (.inr (.inl (by kernel_rfl)))) (qa_cons (qe_var (i := 9) (by kernel_rfl) (.inl (by kernel_rfl))) qa_nil)) rfl)) (by kernel_rfl) (.inl rfl))
    qss_nil)))
    (ls_cons (ls_of (W := WE0 E) (qs_par (i := 10) (j := 11) (by simp) (by simp) rfl nd_law (by kernel_rfl) (by kernel_rfl) (by decide) (by kernel_rfl) (by kernel_rfl) qe_newN (qe_lst qa_nil) (by kernel_rfl)))
    (ls_cons (ls_of (W := WE0 E) (qs_for (L2.passes_of rfl) rfl (qi_val (qe_var (i := 8) (by kernel_rfl) (.inl (by kernel_rfl)))) (qg_name (i := 6) (by simp) nd_law (by kernel_rfl) (.inl (by kernel_rfl)) (.inl rfl)) (qss_cons (qs_set (i := 12) (by simp) nd_law (by kernel_rfl) (.inl (by kernel_rfl)) (e_fn h__law_table (hr.mono (by decide)) (gl_of (by kernel_rfl)) (takes_of rfl rfl rfl rfl) (qa_cons (qe_var (i := 22) (by kernel_rfl) (.inr (.inl (by kernel_rfl)))) (qa_cons (qe_var (i := 6) (by kernel_rfl) (.inl (by kernel_rfl))) qa_nil)) rfl) (by kernel_rfl) (.inl rfl))
    (qss_cons (qs_if (qt_cmp (opr_notin (room_un hr)) rof2 (qe_var (i := 12) (by kernel_rfl) (.inl (by kernel_rfl))) (qe_var (i := 10) (by kernel_rfl) (.inl (by kernel_rfl))) rfl) (qss_cons (qs_asg (qe_var (i := 6) (by kernel_rfl) (.inl (by kernel_rfl))) (qg_sub (i := 10) (pset_at hr.units) rofS (by kernel_rfl) (.inl (by kernel_rfl)) (qe_var (i := 12) (by kernel_rfl) (.inl (by kernel_rfl)))))
    (qss_cons (qs_expr (qe_meth (i := 11) PySem.F.plainAttrs_list PySem.F.slot_list_append PySem.F.type_list_append mt_append mo_append (by kernel_rfl) (.inl (by kernel_rfl)) (qa_cons (qe_tup (qa_cons (qe_var (i := 6) (by kernel_rfl) (.inl (by kernel_rfl))) (qa_cons (qe_var (i := 12) (by kernel_rfl) (.inl (by kernel_rfl))) qa_nil))) qa_nil)))
    qss_nil)) qss_nil)
    qss_nil))))
    (ls_cons (ls_of (W := WE0 E) (qs_if (qt_cmp (opr_ne hr.units) rof2 (e_fn h_words_up_to (hr.mono (by decide)) (gl_of (by kernel_rfl)) (takes_of rfl rfl rfl rfl) (qa_cons (qe_var (i := 22) (by kernel_rfl) (.inr (.inl (by kernel_rfl)))) (qa_cons (qe_var (i := 7) (by kernel_rfl) (.inr (.inl (by kernel_rfl)))) qa_nil)) rfl) (qe_var (i := 11) (by kernel_rfl) (.inl (by kernel_rfl))) rfl) (qss_cons (qs_ret qe_bl)
    qss_nil) qss_nil))
    (ls_cons (ls_of (W := WE0 E) (qs_setLc (i := 13) (own := [("row", 6), ("told", 12)]) (by simp) rfl nd_law (by kernel_rfl) (by kernel_rfl) (L2.sw_true rfl (by kernel_rfl) rfl (by kernel_rfl)) (blkOk_by (by kernel_rfl)) (qib_of (qi_val (qe_var (i := 11) (by kernel_rfl) (.inl (by kernel_rfl))))) (fun _ _ _ _ _ => (qg_tup rfl (qgs_cons (qg_name (i := 6) (hp_own (by decide)) nd_law (by kernel_rfl) (.inl (by kernel_rfl)) (.inr (by kernel_rfl))) (qgs_cons (qg_name (i := 12) (hp_own (by decide)) nd_law (by kernel_rfl) (.inl (by kernel_rfl)) (.inr (by kernel_rfl))) qgs_nil)))) (fun _ _ _ _ _ => (qts_one (qt_not (qt_truth (qe_call (callr_any rfl) rofN (gl_of (by kernel_rfl)) FX.b_any boot_any (qa_cons (qe_lc (own := [("line", 25)]) rfl nd_law (blkOk_by (by kernel_rfl)) (qib_of (qi_val (qe_var (i := 12) (by kernel_rfl) (.inl (by kernel_rfl))))) (fun _ _ _ _ _ => (qg_name (i := 25) (hp_own (by decide)) nd_law (by kernel_rfl) (.inl (by kernel_rfl)) (.inr (by kernel_rfl)))) (fun _ _ _ _ _ => qts_nil) (fun _ _ _ _ _ => (qe_call (callr_any rfl) rofN (gl_of (by kernel_rfl)) FX.b_any boot_any (qa_cons (qe_var (i := 25) (by kernel_rfl) (.inl (by kernel_rfl))) qa_nil)))) qa_nil)))))) (fun _ _ _ _ _ => (qe_var (i := 6) (by kernel_rfl) (.inl (by kernel_rfl))))))
    (ls_cons (ls_of (W := WE0 E) (qs_if (qt_cmp (opr_ne hr.units) rof2 (e_fn h_nought_word (hr.mono (by decide)) (gl_of (by kernel_rfl)) (takes_of rfl rfl rfl rfl) (qa_cons (qe_var (i := 22) (by kernel_rfl) (.inr (.inl (by kernel_rfl)))) (qa_cons (qe_var (i := 7) (by kernel_rfl) (.inr (.inl (by kernel_rfl)))) qa_nil)) rfl) (qe_if (qt_cmp opr_gt rof2 (qe_call callr_len rofN (gl_of (by kernel_rfl)) FX.b_len boot_len (qa_cons (qe_var (i := 13) (by kernel_rfl) (.inl (by kernel_rfl))) qa_nil)) qe_int rfl) (qe_ix (ixr_at hr.units) rof2 (qe_var (i := 13) (by kernel_rfl) (.inl (by kernel_rfl))) qe_int (fun _ _ => rfl)) qe_non) rfl) (qss_cons (qs_ret qe_bl)
    qss_nil) qss_nil))
    (ls_cons (ls_of (W := WE0 E) (qs_setLc (i := 14) (own := [("row", 6), ("told", 12)]) (by simp) rfl nd_law (by kernel_rfl) (by kernel_rfl) (L2.sw_true rfl (by kernel_rfl) rfl (by kernel_rfl)) (blkOk_by (by kernel_rfl)) (qib_of (qi_val (qe_var (i := 11) (by kernel_rfl) (.inl (by kernel_rfl))))) (fun _ _ _ _ _ => (qg_tup rfl (qgs_cons (qg_name (i := 6) (hp_own (by decide)) nd_law (by kernel_rfl) (.inl (by kernel_rfl)) (.inr (by kernel_rfl))) (qgs_cons (qg_name (i := 12) (hp_own (by decide)) nd_law (by kernel_rfl) (.inr (by kernel_rfl)) (.inl (by kernel_rfl))) qgs_nil)))) (fun _ _ _ _ _ => (qts_one (qt_cmp opr_gt rof2 (qe_call callr_abs rofN (gl_of (by kernel_rfl)) FX.b_abs boot_abs (qa_cons (qe_call (callr_sum rfl) rofN (gl_of (by kernel_rfl)) FX.b_sum boot_sum (qa_cons (qe_lc (own := [("k", 4)]) rfl nd_law (blkOk_by (by kernel_rfl)) (qib_of (qi_val (qe_callT callr_range rofN (gl_of (by kernel_rfl)) FX.b_range boot_range (qa_cons (qe_var (i := 2) (by kernel_rfl) (.inr (.inl (by kernel_rfl)))) qa_nil)))) (fun _ _ _ _ _ => (qg_name (i := 4) (hp_own (by decide)) nd_law (by kernel_rfl) (.inl (by kernel_rfl)) (.inr (by kernel_rfl)))) (fun _ _ _ _ _ => qts_nil) (fun _ _ _ _ _ => (qe_ix (ixr_at hr.units) rof2 (qe_ix (ixr_at hr.units) rof2 (qe_var (i := 12) (by kernel_rfl) (.inr (.inl (by kernel_rfl)))) (qe_var (i := 4) (by kernel_rfl) (.inl (by kernel_rfl))) (fun _ _ => rfl)) (qe_var (i := 4) (by kernel_rfl) (.inl (by kernel_rfl))) (fun _ _ => rfl)))) qa_nil)) qa_nil)) (qe_var (i := 2) (by kernel_rfl) (.inr (.inl (by kernel_rfl)))) rfl))) (fun _ _ _ _ _ => (qe_var (i := 6) (by kernel_rfl) (.inl (by kernel_rfl))))))
    (ls_cons (ls_of (W := WE0 E) (qs_if (qt_cmp (opr_ne hr.units) rof2 (e_fn h_growing_word (hr.mono (by decide)) (gl_of (by kernel_rfl)) (takes_of rfl rfl rfl rfl) (qa_cons (qe_var (i := 22) (by kernel_rfl) (.inr (.inl (by kernel_rfl)))) (qa_cons (qe_var (i := 7) (by kernel_rfl) (.inr (.inl (by kernel_rfl)))) qa_nil)) rfl) (qe_if (qt_cmp opr_gt rof2 (qe_call callr_len rofN (gl_of (by kernel_rfl)) FX.b_len boot_len (qa_cons (qe_var (i := 14) (by kernel_rfl) (.inl (by kernel_rfl))) qa_nil)) qe_int rfl) (qe_ix (ixr_at hr.units) rof2 (qe_var (i := 14) (by kernel_rfl) (.inl (by kernel_rfl))) qe_int (fun _ _ => rfl)) qe_non) rfl) (qss_cons (qs_ret qe_bl)
    qss_nil) qss_nil))
    (ls_cons (ls_of (W := WE0 E) (qs_if (qt_cmp (opr_ne hr.units) rof2 (e_fn h_takes_growing (hr.mono (by decide)) (gl_of (by kernel_rfl)) (takes_of rfl rfl rfl rfl) (qa_cons (qe_var (i := 22) (by kernel_rfl) (.inr (.inl (by kernel_rfl)))) (qa_cons (qe_var (i := 5) (by kernel_rfl) (.inr (.inl (by kernel_rfl)))) qa_nil)) rfl) (qe_cmp opr_gt rof2 (qe_call callr_abs rofN (gl_of (by kernel_rfl)) FX.b_abs boot_abs (qa_cons (qe_call (callr_sum rfl) rofN (gl_of (by kernel_rfl)) FX.b_sum boot_sum (qa_cons (qe_lc (own := [("k", 4)]) rfl nd_law (blkOk_by (by kernel_rfl)) (qib_of (qi_val (qe_callT callr_range rofN (gl_of (by kernel_rfl)) FX.b_range boot_range (qa_cons (qe_var (i := 2) (by kernel_rfl) (.inr (.inl (by kernel_rfl)))) qa_nil)))) (fun _ _ _ _ _ => (qg_name (i := 4) (hp_own (by decide)) nd_law (by kernel_rfl) (.inl (by kernel_rfl)) (.inr (by kernel_rfl)))) (fun _ _ _ _ _ => qts_nil) (fun _ _ _ _ _ => (qe_ix (ixr_at hr.units) rof2 (qe_ix (ixr_at hr.units) rof2 (e_fn h__law_table (hr.mono (by decide)) (gl_of (by kernel_rfl)) L2.takes0 (qa_cons (qe_var (i := 22) (by kernel_rfl) (.inr (.inl (by kernel_rfl)))) (qa_cons (qe_var (i := 5) (by kernel_rfl) (.inr (.inl (by kernel_rfl)))) qa_nil)) rfl) (qe_var (i := 4) (by kernel_rfl) (.inl (by kernel_rfl))) (fun _ _ => rfl)) (qe_var (i := 4) (by kernel_rfl) (.inl (by kernel_rfl))) (fun _ _ => rfl)))) qa_nil)) qa_nil)) (qe_var (i := 2) (by kernel_rfl) (.inr (.inl (by kernel_rfl)))) rfl) rfl) (qss_cons (qs_ret qe_bl)
    qss_nil) qss_nil))
    (ls_cons (ls_of (W := WE0 E) (qs_if (qt_cmp opr_gt rof2 (qe_call callr_len rofN (gl_of (by kernel_rfl)) FX.b_len boot_len (qa_cons (qe_var (i := 14) (by kernel_rfl) (.inl (by kernel_rfl))) qa_nil)) qe_int rfl) (qss_cons (qs_par (i := 15) (j := 16) (by simp) (by simp) rfl nd_law (by kernel_rfl) (by kernel_rfl) (by decide) (by kernel_rfl) (by kernel_rfl) (e_fn h__law_table (hr.mono (by decide)) (gl_of (by kernel_rfl)) (takes_of rfl rfl rfl rfl) (qa_cons (qe_var (i := 22) (by kernel_rfl) (.inr (.inl (by kernel_rfl)))) (qa_cons (qe_ix (ixr_at hr.units) rof2 (qe_var (i := 14) (by kernel_rfl) (.inl (by kernel_rfl))) qe_int (fun _ _ => rfl)) qa_nil)) rfl) qe_int (by kernel_rfl))
    (qss_cons (qs_set (i := 17) (by simp) nd_law (by kernel_rfl) (.inl (by kernel_rfl)) (qe_var (i := 15) (by kernel_rfl) (.inl (by kernel_rfl))) (by kernel_rfl) (.inl rfl))
    (qss_cons (qs_for (L2.passes_of rfl) rfl (qi_val (qe_callT callr_range rofN (gl_of (by kernel_rfl)) FX.b_range boot_range (qa_cons qe_int qa_nil))) (qg_name (i := 4) (by simp) nd_law (by kernel_rfl) (.inl (by kernel_rfl)) (.inl rfl)) (qss_cons (qs_set (i := 16) (by simp) nd_law (by kernel_rfl) (.inl (by kernel_rfl)) (qe_call (callr_max rfl) rofN (gl_of (by kernel_rfl)) FX.b_max boot_max (qa_cons (qe_op opr_add rof2 (qe_lst (qa_cons (qe_var (i := 16) (by kernel_rfl) (.inl (by kernel_rfl))) qa_nil)) (qe_lc (own := [("line", 25)]) rfl nd_law (blkOk_by (by kernel_rfl)) (qib_of (qi_val (qe_var (i := 17) (by kernel_rfl) (.inl (by kernel_rfl))))) (fun _ _ _ _ _ => (qg_name (i := 25) (hp_own (by decide)) nd_law (by kernel_rfl) (.inl (by kernel_rfl)) (.inr (by kernel_rfl)))) (fun _ _ _ _ _ => qts_nil) (fun _ _ _ _ _ => (qe_call (callr_max rfl) rofN (gl_of (by kernel_rfl)) FX.b_max boot_max (qa_cons (qe_lc (own := [("a", 26)]) rfl nd_law (blkOk_by (by kernel_rfl)) (qib_of (qi_val (qe_var (i := 25) (by kernel_rfl) (.inl (by kernel_rfl))))) (fun _ _ _ _ _ => (qg_name (i := 26) (hp_own (by decide)) nd_law (by kernel_rfl) (.inl (by kernel_rfl)) (.inr (by kernel_rfl)))) (fun _ _ _ _ _ => qts_nil) (fun _ _ _ _ _ => (qe_call callr_abs rofN (gl_of (by kernel_rfl)) FX.b_abs boot_abs (qa_cons (qe_var (i := 26) (by kernel_rfl) (.inl (by kernel_rfl))) qa_nil)))) qa_nil))))) qa_nil)) (by kernel_rfl) (.inl rfl))
    (qss_cons (qs_set (i := 17) (by simp) nd_law (by kernel_rfl) (.inl (by kernel_rfl)) (e_fn h__law_product (hr.mono (by decide)) (gl_of (by kernel_rfl)) (takes_of rfl rfl rfl rfl) (qa_cons (qe_var (i := 15) (by kernel_rfl) (.inl (by kernel_rfl))) (qa_cons (qe_var (i := 17) (by kernel_rfl) (.inl (by kernel_rfl))) qa_nil)) rfl) (by kernel_rfl) (.inl rfl))
    qss_nil)))
    (qss_cons (qs_if (qt_cmp opr_lt rof2 (qe_var (i := 16) (by kernel_rfl) (.inl (by kernel_rfl))) qe_int rfl) (qss_cons (qs_ret qe_bl)
    qss_nil) qss_nil)
    qss_nil)))) qss_nil))
    (ls_cons (ls_of (W := WE0 E) (qs_setLc (i := 18) (own := [("row", 6), ("told", 12)]) (by simp) rfl nd_law (by kernel_rfl) (by kernel_rfl) (L2.sw_true rfl (by kernel_rfl) rfl (by kernel_rfl)) (blkOk_by (by kernel_rfl)) (qib_of (qi_val (qe_var (i := 11) (by kernel_rfl) (.inl (by kernel_rfl))))) (fun _ _ _ _ _ => (qg_tup rfl (qgs_cons (qg_name (i := 6) (hp_own (by decide)) nd_law (by kernel_rfl) (.inl (by kernel_rfl)) (.inr (by kernel_rfl))) (qgs_cons (qg_name (i := 12) (hp_own (by decide)) nd_law (by kernel_rfl) (.inl (by kernel_rfl)) (.inr (by kernel_rfl))) qgs_nil)))) (fun _ _ _ _ _ => (qts_one (qt_cmp opr_lt rof2 (qe_call callr_len rofN (gl_of (by kernel_rfl)) FX.b_len boot_len (qa_cons (qe_var (i := 6) (by kernel_rfl) (.inl (by kernel_rfl))) qa_nil)) (qe_var (i := 7) (by kernel_rfl) (.inr (.inl (by kernel_rfl)))) rfl))) (fun _ _ _ _ _ => (qe_var (i := 6) (by kernel_rfl) (.inl (by kernel_rfl))))))
    (ls_cons (ls_of (W := WE0 E) (qs_if (qt_cmp (opr_ne hr.units) rof2 (e_fn h_closes_in (hr.mono (by decide)) (gl_of (by kernel_rfl)) (takes_of rfl rfl rfl rfl) (qa_cons (qe_var (i := 22) (by kernel_rfl) (.inr (.inl (by kernel_rfl)))) (qa_cons (qe_op opr_sub rof2 (qe_var (i := 7) (by kernel_rfl) (.inr (.inl (by kernel_rfl)))) qe_int) qa_nil)) rfl) (qe_if (qt_cmp (opr_eq hr.units) rof2 (qe_call callr_len rofN (gl_of (by kernel_rfl)) FX.b_len boot_len (qa_cons (qe_var (i := 18) (by kernel_rfl) (.inl (by kernel_rfl))) qa_nil)) (qe_call callr_len rofN (gl_of (by kernel_rfl)) FX.b_len boot_len (qa_cons (qe_var (i := 11) (by kernel_rfl) (.inl (by kernel_rfl))) qa_nil)) rfl) (qe_call callr_len rofN (gl_of (by kernel_rfl)) FX.b_len boot_len (qa_cons (qe_var (i := 18) (by kernel_rfl) (.inl (by kernel_rfl))) qa_nil)) qe_non) rfl) (qss_cons (qs_ret qe_bl)
    qss_nil) qss_nil))
    (ls_cons (ls_of (W := WE0 E) (qs_if (qt_of (qw_and (qt_cmp opr_isnot rof2 (e_fn h_closes_in (hr.mono (by decide)) (gl_of (by kernel_rfl)) (takes_of rfl rfl rfl rfl) (qa_cons (qe_var (i := 22) (by kernel_rfl) (.inr (.inl (by kernel_rfl)))) (qa_cons (qe_op opr_sub rof2 (qe_var (i := 7) (by kernel_rfl) (.inr (.inl (by kernel_rfl)))) qe_int) qa_nil)) rfl) qe_non rfl) (qw_and1 (qt_cmp opr_gt rof2 (qe_call callr_len rofN (gl_of (by kernel_rfl)) FX.b_len boot_len (qa_cons (qe_var (i := 14) (by kernel_rfl) (.inl (by kernel_rfl))) qa_nil)) qe_int rfl)))) (qss_cons (qs_ret qe_bl)
    qss_nil) qss_nil))
    (ls_cons (ls_of (W := WE0 E) (qs_set (i := 9) (by simp) nd_law (by kernel_rfl) (.inl (by kernel_rfl)) (e_fnM h__law_take (hr.mono (by decide)) (gl_of (by kernel_rfl)) (takes_of rfl rfl rfl rfl) (qa_cons (qe_var (i := 1) (by kernel_rfl) (.inr (.inl (by kernel_rfl)))) (qa_cons qe_int qa_nil)) rfl) (by kernel_rfl) (.inl rfl)))
    (ls_cons (ls_of (W := WE0 E) (qs_set (i := 19) (by simp) nd_law (by kernel_rfl) (.inl (by kernel_rfl)) (qe_call (callr_max rfl) rofN (gl_of (by kernel_rfl)) FX.b_max boot_max (qa_cons (qe_lc (own := [("row", 6)]) rfl nd_law (blkOk_by (by kernel_rfl)) (qib_of (qi_val (e_fn h__law_words (hr.mono (by decide)) (gl_of (by kernel_rfl)) (takes_of rfl rfl rfl rfl) (qa_cons (qe_var (i := 21) (by kernel_rfl) (.inr (.inl (by kernel_rfl)))) (qa_cons (qe_var (i := 9) (by kernel_rfl) (.inl (by kernel_rfl))) qa_nil)) rfl))) (fun _ _ _ _ _ => (qg_name (i := 6) (hp_own (by decide)) nd_law (by kernel_rfl) (.inl (by kernel_rfl)) (.inr (by kernel_rfl)))) (fun _ _ _ _ _ => qts_nil) (fun _ _ _ _ _ => (qe_call (callr_max rfl) rofN (gl_of (by kernel_rfl)) FX.b_max boot_max (qa_cons (qe_lc (own := [("line", 25)]) rfl nd_law (blkOk_by (by kernel_rfl)) (qib_of (qi_val (e_fn h__law_table (hr.mono (by decide)) (gl_of (by kernel_rfl)) L2.takes0 (qa_cons (qe_var (i := 22) (by kernel_rfl) (.inr (.inl (by kernel_rfl)))) (qa_cons (qe_var (i := 6) (by kernel_rfl) (.inl (by kernel_rfl))) qa_nil)) rfl))) (fun _ _ _ _ _ => (qg_name (i := 25) (hp_own (by decide)) nd_law (by kernel_rfl) (.inl (by kernel_rfl)) (.inr (by kernel_rfl)))) (fun _ _ _ _ _ => qts_nil) (fun _ _ _ _ _ => (qe_call (callr_sum rfl) rofN (gl_of (by kernel_rfl)) FX.b_sum boot_sum (qa_cons (qe_lc (own := [("a", 26)]) rfl nd_law (blkOk_by (by kernel_rfl)) (qib_of (qi_val (qe_var (i := 25) (by kernel_rfl) (.inl (by kernel_rfl))))) (fun _ _ _ _ _ => (qg_name (i := 26) (hp_own (by decide)) nd_law (by kernel_rfl) (.inl (by kernel_rfl)) (.inr (by kernel_rfl)))) (fun _ _ _ _ _ => qts_nil) (fun _ _ _ _ _ => (qe_call callr_abs rofN (gl_of (by kernel_rfl)) FX.b_abs boot_abs (qa_cons (qe_var (i := 26) (by kernel_rfl) (.inl (by kernel_rfl))) qa_nil)))) qa_nil)))) qa_nil)))) qa_nil)) (by kernel_rfl) (.inl rfl)))
    (ls_cons (ls_of (W := WE0 E) (qs_if (qt_cmp (opr_ne hr.units) rof2 (e_fn h_widest (hr.mono (by decide)) (gl_of (by kernel_rfl)) (takes_of rfl rfl rfl rfl) (qa_cons (qe_var (i := 22) (by kernel_rfl) (.inr (.inl (by kernel_rfl)))) (qa_cons (qe_var (i := 9) (by kernel_rfl) (.inl (by kernel_rfl))) qa_nil)) rfl) (qe_var (i := 19) (by kernel_rfl) (.inl (by kernel_rfl))) rfl) (qss_cons (qs_ret qe_bl)
    qss_nil) qss_nil))
    (ls_cons (ls_for (W := WE0 E) (L2.passes_of rfl) rfl (qi_val (qe_tup (qa_cons (qe_tup qa_nil) (qa_cons (qe_tup (qa_cons (qe_tup (qa_cons (qe_tup (qa_cons qe_int (qa_cons qe_int qa_nil))) qa_nil)) qa_nil)) (qa_cons (qe_tup (qa_cons (qe_tup (qa_cons (qe_tup (qa_cons qe_int qa_nil)) qa_nil)) qa_nil)) (qa_cons (qe_tup (qa_cons (qe_tup (qa_cons (qe_tup (qa_cons qe_int qa_nil)) qa_nil)) (qa_cons (qe_tup (qa_cons (qe_tup (qa_cons qe_int (qa_cons qe_int qa_nil))) (qa_cons (qe_tup (qa_cons qe_int (qa_cons qe_int qa_nil))) qa_nil))) qa_nil))) (qa_cons (qe_op opr_mul rof2 (qe_tup (qa_cons (qe_tup (qa_cons (qe_tup (qa_cons qe_int qa_nil)) qa_nil)) qa_nil)) qe_int) qa_nil))))))) (qg_name (i := 20) (by simp) nd_law (by kernel_rfl) (.inr (by kernel_rfl)) (.inl rfl)) (ls_cons (ls_if (lt_not (lt_val (lb_ref (x := "_law_refused") (a := "call") (e := "InvalidTable") (k := 2) (Ng := ["call"]) RF__law_refused FR__law_refused mR__law_refused (gl_of (by kernel_rfl)) fs__law_refused rfl (.inl (by kernel_rfl)) (by kernel_rfl) (by decide) (fun _ => rfl) (fun _ _ _ _ _ _ us hl => match us, hl with | [_], _ => rfl) TB rfl rfl rfl (hr.mono (by decide)) (LamX.lamS_by (by kernel_rfl)) rfl (fun _ _ _ _ _ => rfl) (fun _ _ _ _ _ _ _ hr => (e_fn h_word_table (hr.mono (by decide)) (gl_of (by kernel_rfl)) (takes_of rfl rfl rfl rfl) (qa_cons (qe_var (i := 20) (by kernel_rfl) (.inr (.inr (by kernel_rfl)))) (qa_cons (qe_tup qa_nil) qa_nil)) rfl))))) (ls_cons (ls_of (W := WE0 E) (qs_ret qe_bl))
    ls_nil) ls_nil)
    ls_nil))
    (ls_cons (ls_if (lt_not (lt_val (lb_ref (x := "_law_refused") (a := "call") (e := "InvalidTable") (k := 2) (Ng := ["call"]) RF__law_refused FR__law_refused mR__law_refused (gl_of (by kernel_rfl)) fs__law_refused rfl (.inl (by kernel_rfl)) (by kernel_rfl) (by decide) (fun _ => rfl) (fun _ _ _ _ _ _ us hl => match us, hl with | [_], _ => rfl) TB rfl rfl rfl (hr.mono (by decide)) (LamX.lamS_by (by kernel_rfl)) rfl (fun _ _ _ _ _ => rfl) (fun _ _ _ _ _ _ _ hr => (e_fn h_word_table (hr.mono (by decide)) (gl_of (by kernel_rfl)) (takes_of rfl rfl rfl rfl) (qa_cons (qe_var (i := 22) (by kernel_rfl) (.inr (.inr (by kernel_rfl)))) (qa_cons (qe_tup (qa_cons (qe_var (i := 21) (by kernel_rfl) (.inr (.inr (by kernel_rfl)))) qa_nil)) qa_nil)) rfl))))) (ls_cons (ls_of (W := WE0 E) (qs_ret qe_bl))
    ls_nil) ls_nil)
    (ls_cons (ls_if (lt_not (lt_val (lb_ref (x := "_law_refused") (a := "call") (e := "InvalidTable") (k := 3) (Ng := ["call"]) RF__law_refused FR__law_refused mR__law_refused (gl_of (by kernel_rfl)) fs__law_refused rfl (.inl (by kernel_rfl)) (by kernel_rfl) (by decide) (fun _ => rfl) (fun _ _ _ _ _ _ us hl => match us, hl with | [_], _ => rfl) TB rfl rfl rfl (hr.mono (by decide)) (LamX.lamS_by (by kernel_rfl)) rfl (fun _ _ _ _ _ => rfl) (fun _ _ _ _ _ _ _ hr => (e_fn h_widest (hr.mono (by decide)) (gl_of (by kernel_rfl)) (takes_of rfl rfl rfl rfl) (qa_cons (qe_var (i := 22) (by kernel_rfl) (.inr (.inr (by kernel_rfl)))) (qa_cons qe_int qa_nil)) rfl))))) (ls_cons (ls_of (W := WE0 E) (qs_ret qe_bl))
    ls_nil) ls_nil)
    (ls_cons (ls_retB (lb_ref (x := "_law_refused") (a := "call") (e := "InvalidTable") (k := 3) (Ng := ["call"]) RF__law_refused FR__law_refused mR__law_refused (gl_of (by kernel_rfl)) fs__law_refused rfl (.inl (by kernel_rfl)) (by kernel_rfl) (by decide) (fun _ => rfl) (fun _ _ _ _ _ _ us hl => match us, hl with | [_], _ => rfl) TB rfl rfl rfl (hr.mono (by decide)) (LamX.lamS_by (by kernel_rfl)) rfl (fun _ _ _ _ _ => rfl) (fun _ _ _ _ _ _ _ hr => (e_fn h_words_up_to (hr.mono (by decide)) (gl_of (by kernel_rfl)) (takes_of rfl rfl rfl rfl) (qa_cons (qe_var (i := 22) (by kernel_rfl) (.inr (.inr (by kernel_rfl)))) (qa_cons qe_int qa_nil)) rfl))))
    ls_nil)))))))))))))))))))))))))))))
end
end G18
end

section
set_option Elab.async false
set_option linter.all false
set_option maxRecDepth 100000
set_option maxHeartbeats 1000000
set_option autoImplicit false
namespace G18
open PySem PySem.Spec PyProof.Rows HF
abbrev Mx := List (List Int)
def eR (r : List Int) : PV := .tup (r.map .int)
def eM (m : Mx) : PV := .tup (m.map eR)
def eW (w : List Nat) : PV := .tup (w.map eI)
def eT (ts : List Mx) : PV := .tup (ts.map eM)
/-- n rows of n -/
def Sq (n : Nat) (m : Mx) : Prop := m.length = n ∧ ∀ r ∈ m, r.length = n
def at2 (m : Mx) (i j : Nat) : Int := (m.getD i []).getD j 0
def mul (n : Nat) (a b : Mx) : Mx := (List.range n).map fun i => (List.range n).map fun j => ((List.range n).map fun k => at2 a i k * at2 b k j).sum
/-- all at most c in size -/
def Bd (c : Nat) (m : Mx) : Prop := ∀ i j, (at2 m i j).natAbs ≤ c
/-- entries small enough for * -/
def Small (m : Mx) : Prop := ∀ i j, (at2 m i j).natAbs < 2 ^ 1000
theorem ix_nat {α : Type} {xs : List α} {i : Nat} (h : i < xs.length) : L2.atI xs (i : Int) = some xs[i] := by
  unfold L2.atI L2.ixN
  rw [if_pos (by omega), if_pos (by omega)]
  simp [List.getElem?_eq_getElem h]
theorem getD_at {α : Type} {xs : List α} {i : Nat} {d : α} (h : i < xs.length) : xs.getD i d = xs[i] := by
  rw [List.getD_eq_getElem?_getD, List.getElem?_eq_getElem h]; rfl
theorem ix_row {m : Mx} {n i : Nat} (hm : Sq n m) (hi : i < n) : opIx (eM m) (.int i) = some (eR (m.getD i []), false) := by
  have hl : i < (m.map eR).length := by rw [List.length_map, hm.1]; exact hi
  simp only [eM, opIx, ix_nat hl, Option.map_some, List.getElem_map]
  rw [getD_at (by rw [hm.1]; exact hi)]
theorem ix_at {m : Mx} {n i j : Nat} (hm : Sq n m) (hi : i < n) (hj : j < n) : opIx (eR (m.getD i [])) (.int j) = some (.int (at2 m i j), false) := by
  have h1 : i < m.length := by rw [hm.1]; exact hi
  have h2 : (m.getD i []).length = n := by rw [getD_at h1]; exact hm.2 _ (List.getElem_mem h1)
  have hl : j < ((m.getD i []).map PV.int).length := by rw [List.length_map, h2]; exact hj
  simp only [eR, opIx, ix_nat hl, Option.map_some, List.getElem_map, at2]
  rw [getD_at (xs := m.getD i []) (by rw [h2]; exact hj)]
theorem mulOk_small {a b : Mx} (ha : Small a) (hb : Small b) (i j k l : Nat) : mulOk (at2 a i j) (at2 b k l) = true := by
  have f : ∀ x : Int, x.natAbs < 2 ^ 1000 → x.natAbs.log2 < 1000 := fun x h => by
    by_cases z : x.natAbs = 0
    · rw [z]; decide
    · exact (Nat.log2_lt z).mpr h
  have h1 := f _ (ha i j)
  have h2 := f _ (hb k l)
  unfold mulOk
  rw [decide_eq_true_eq]
  omega
theorem rl {n : Nat} (h : n ≤ 100) : (List.range n).length ≤ sizeLine := by rw [List.length_range, sizeLine_eq]; omega
theorem d_times_whole {n : Nat} {a b : Mx} (hn : n ≤ 100) (ha : Sq n a) (hb : Sq n b) (sa : Small a) (sb : Small b) : denOf 6 F_times_whole [eM a, eM b] = .ok (eM (mul n a b)) false none := by
  have r0 : Ev (eOpN opRange (aCons (eOpN opLen (aCons (eVar 0) aNil)) aNil)) (st0 6 [eM a, eM b]) (.rng 0 n) false := by
    refine ev_opN (rda_cons (Ev.rd (ev_opN (rda_cons (rd_var rfl) rda_nil) (show opLen [eM a] = some (.int (n : Int), false) from ?_))) rda_nil) rfl
    simp [opLen, eM, ha.1]
  refine den_ret (s1 := [some (false, eM a), some (false, eM b), some (false, .rng 0 n), none, none, none]) ?_
  unfold F_times_whole
  rw [s_seq (s_set r0 (by simp [st0]))]
  refine s_seq_ret (s_ret (ev_opN (rda_cons (Ev.rd (ev_compX (List.range n) eI (fun i => eR ((List.range n).map fun j => ((List.range n).map fun k => at2 a i k * at2 b k j).sum)) (iv_rng (ev_var rfl) (by omega)) (rl hn) (by simp [st0]) fun i hi => ⟨false, ?_⟩)) rda_nil) ?_))
  · refine ev_opN (rda_cons (Ev.rd (ev_compX (List.range n) eI (fun j => .int ((List.range n).map fun k => at2 a i k * at2 b k j).sum) (iv_rng (ev_var rfl) (by omega)) (rl hn) (by simp [st0]) fun j hj => ⟨false, ?_⟩)) rda_nil) ?_
    · refine ev_opN (rda_cons (Ev.rd (ev_compX (List.range n) eI (fun k => .int (at2 a i k * at2 b k j)) (iv_rng (ev_var rfl) (by omega)) (rl hn) (by simp [st0]) fun k hk => ⟨false, ?_⟩)) rda_nil) ?_
      · have hi := List.mem_range.mp hi
        have hj := List.mem_range.mp hj
        have hk := List.mem_range.mp hk
        refine ev_op2 (Ev.rd (ev_op2 (Ev.rd (ev_op2 (rd_var rfl) (rd_var rfl) (ix_row ha hi))) (rd_var rfl) (ix_at ha hi hk))) (Ev.rd (ev_op2 (Ev.rd (ev_op2 (rd_var rfl) (rd_var rfl) (ix_row hb hk))) (rd_var rfl) (ix_at hb hk hj))) ?_
        simp only [opMul, mulOk_small sa sb, if_true]
      · show (intsOf _).map _ = _
        rw [show (List.range n).map (fun k => PV.int (at2 a i k * at2 b k j)) = ((List.range n).map fun k => at2 a i k * at2 b k j).map PV.int by simp, intsOf_map]
        rfl
    · show some _ = some _
      rw [eR, List.map_map]
      rfl
  · show some _ = some _
    rw [eM, mul, List.map_map]
    rfl
theorem getD_mr {β : Type} {f : Nat → β} {n i : Nat} {d : β} (h : i < n) : ((List.range n).map f).getD i d = f i := by
  rw [getD_at (by simpa using h), List.getElem_map, List.getElem_range]
theorem getD_out {β : Type} {f : Nat → β} {n i : Nat} {d : β} (h : ¬ i < n) : ((List.range n).map f).getD i d = d := by
  rw [List.getD_eq_getElem?_getD, List.getElem?_eq_none (by simpa using h)]; rfl
theorem at2_mul {n : Nat} {a b : Mx} (i j : Nat) : at2 (mul n a b) i j = if i < n ∧ j < n then ((List.range n).map fun k => at2 a i k * at2 b k j).sum else 0 := by
  show (((List.range n).map fun i => (List.range n).map fun j => ((List.range n).map fun k => at2 a i k * at2 b k j).sum).getD i []).getD j 0 = _
  by_cases hi : i < n
  · rw [getD_mr hi]
    by_cases hj : j < n
    · rw [getD_mr hj, if_pos ⟨hi, hj⟩]
    · rw [getD_out hj, if_neg fun z => hj z.2]
  · rw [getD_out hi, if_neg fun z => hi z.1]; rfl
theorem sum_le {f : Nat → Int} {c : Nat} (h : ∀ k, (f k).natAbs ≤ c) : ∀ l : List Nat, ((l.map f).sum).natAbs ≤ l.length * c
  | [] => by simp
  | k :: l => by
    have ih := sum_le h l
    have := h k
    simp only [List.map_cons, List.sum_cons, List.length_cons, Nat.succ_mul]
    omega
theorem bd_mul {n c d : Nat} {a b : Mx} (ha : Bd c a) (hb : Bd d b) : Bd (n * (c * d)) (mul n a b) := fun i j => by
  rw [at2_mul]
  split
  · have := sum_le (f := fun k => at2 a i k * at2 b k j) (c := c * d) (fun k => by rw [Int.natAbs_mul]; exact Nat.mul_le_mul (ha i k) (hb k j)) (List.range n)
    rwa [List.length_range] at this
  · exact Nat.zero_le _
theorem Bd.small {c : Nat} {a : Mx} (h : Bd c a) (hc : c < 2 ^ 1000) : Small a := fun i j => Nat.lt_of_le_of_lt (h i j) hc
theorem Bd.mono {c d : Nat} {a : Mx} (h : Bd c a) (hc : c ≤ d) : Bd d a := fun i j => Nat.le_trans (h i j) hc
theorem sq_mul {n : Nat} {a b : Mx} : Sq n (mul n a b) := ⟨by simp [mul], fun r hr => by
  obtain ⟨i, _, rfl⟩ := List.mem_map.mp hr
  simp⟩
def idn (n : Nat) : Mx := (List.range n).map fun i => (List.range n).map fun j => if i = j then 1 else 0
theorem sq_id {n : Nat} : Sq n (idn n) := ⟨by simp [idn], fun r hr => by
  obtain ⟨i, _, rfl⟩ := List.mem_map.mp hr
  simp⟩
theorem bd_id {n : Nat} : Bd 1 (idn n) := fun i j => by
  show ((((List.range n).map fun i => (List.range n).map fun j => if i = j then (1 : Int) else 0).getD i []).getD j 0).natAbs ≤ 1
  by_cases hi : i < n
  · rw [getD_mr hi]
    by_cases hj : j < n
    · rw [getD_mr hj]
      split <;> decide
    · rw [getD_out hj]; decide
  · rw [getD_out hi]; show (0 : Int).natAbs ≤ 1; decide
theorem d_law_product {n : Nat} {a b : Mx} (hn : n ≤ 100) (ha : Sq n a) (hb : Sq n b) (sa : Small a) (sb : Small b) : denOf 6 F__law_product [eM a, eM b] = .ok (eM (mul n a b)) false none := by
  have r0 : Ev (eOpN opLen (aCons (eVar 0) aNil)) (st0 6 [eM a, eM b]) (.int n) false := by
    refine ev_opN (rda_cons (rd_var rfl) rda_nil) ?_
    simp [opLen, eM, ha.1]
  refine den_ret (s1 := [some (false, eM a), some (false, eM b), some (false, .int n), none, none, none]) ?_
  unfold F__law_product
  rw [s_seq (s_set r0 (by simp [st0]))]
  have rg : ∀ {s : SE}, s[2]? = some (some (false, .int (n : Int))) → iVal (eOpN opRange (aCons (eVar 2) aNil)) s = .ok ((List.range n).map eI) s := fun h => iv_rng (ev_opN (rda_cons (rd_var h) rda_nil) rfl) (by omega)
  refine s_seq_ret (s_ret (ev_opN (rda_cons (Ev.rd (ev_compX (List.range n) eI (fun i => eR ((List.range n).map fun j => ((List.range n).map fun k => at2 a i k * at2 b k j).sum)) (rg rfl) (rl hn) (by simp [st0]) fun i hi => ⟨false, ?_⟩)) rda_nil) ?_))
  · refine ev_opN (rda_cons (Ev.rd (ev_compX (List.range n) eI (fun j => .int ((List.range n).map fun k => at2 a i k * at2 b k j).sum) (rg rfl) (rl hn) (by simp [st0]) fun j hj => ⟨false, ?_⟩)) rda_nil) ?_
    · refine ev_opN (rda_cons (Ev.rd (ev_compX (List.range n) eI (fun k => .int (at2 a i k * at2 b k j)) (rg rfl) (rl hn) (by simp [st0]) fun k hk => ⟨false, ?_⟩)) rda_nil) ?_
      · have hi := List.mem_range.mp hi
        have hj := List.mem_range.mp hj
        have hk := List.mem_range.mp hk
        refine ev_op2 (Ev.rd (ev_op2 (Ev.rd (ev_op2 (rd_var rfl) (rd_var rfl) (ix_row ha hi))) (rd_var rfl) (ix_at ha hi hk))) (Ev.rd (ev_op2 (Ev.rd (ev_op2 (rd_var rfl) (rd_var rfl) (ix_row hb hk))) (rd_var rfl) (ix_at hb hk hj))) ?_
        simp only [opMul, mulOk_small sa sb, if_true]
      · show (intsOf _).map _ = _
        rw [show (List.range n).map (fun k => PV.int (at2 a i k * at2 b k j)) = ((List.range n).map fun k => at2 a i k * at2 b k j).map PV.int by simp, intsOf_map]
        rfl
    · show some _ = some _
      rw [eR, List.map_map]
      rfl
  · show some _ = some _
    rw [eM, mul, List.map_map]
    rfl
/-! ### is_nought -/
def isZ (m : Mx) : Bool := m.all fun r => r.all fun a => decide (a = 0)
theorem d_is_nought {m : Mx} (hl : m.length ≤ 100) : denOf 2 F_is_nought [eM m] = .ok (.bl (isZ m)) false none := by
  refine den_ret (s1 := [some (false, eM m), none]) ?_
  unfold F_is_nought
  refine s_seq_ret (s_ret ?_)
  have e1 : Ev (eOpN opAny (aCons (eComp [1] (iOf (iVal (eVar 0))) (gNm 1) (ret true) (eOpN opAny (aCons (eVar 1) aNil))) aNil)) (st0 2 [eM m]) (.bl (!isZ m)) false := by
    refine ev_opN (rda_cons (Ev.rd (ev_compX m eR (fun r => .bl (r.any fun a => !decide (a = 0))) (iv_tup (ev_var rfl)) (by rw [sizeLine_eq]; omega) (by simp [st0]) fun r hr => ⟨false, ?_⟩)) rda_nil) ?_
    · refine ev_opN (rda_cons (rd_var rfl) rda_nil) ?_
      show (intsOf _).map _ = _
      rw [intsOf_map]
      rfl
    · show (boolsOf _).map _ = _
      rw [show m.map (fun r => PV.bl (r.any fun a => !decide (a = 0))) = (m.map fun r => r.any fun a => !decide (a = 0)).map PV.bl by simp, boolsOf_map, Option.map_some]
      congr 3
      unfold isZ
      rw [List.any_map, List.not_all_eq_any_not]
      congr 1
      funext r
      simp [List.not_all_eq_any_not]
  have := ev_not (f := eOpN opAny (aCons (eComp [1] (iOf (iVal (eVar 0))) (gNm 1) (ret true) (eOpN opAny (aCons (eVar 1) aNil))) aNil)) e1.rd (b := !isZ m) rfl
  simpa using this
/-! ### check_tables, where nothing is refused -/
structure TV (n : Nat) (ts : List Mx) : Prop where
  l1 : 1 ≤ ts.length
  l3 : ts.length ≤ 3
  n1 : 1 ≤ n
  n3 : n ≤ 3
  sq : ∀ m ∈ ts, Sq n m
  nine : ∀ m ∈ ts, ∀ r ∈ m, ∀ a ∈ r, -9 ≤ a ∧ a ≤ 9
theorem TV.first {n : Nat} {ts : List Mx} (h : TV n ts) : opIx (eT ts) (.int 0) = some (eM (ts.getD 0 []), false) ∧ Sq n (ts.getD 0 []) := by
  have hl : 0 < ts.length := h.l1
  have hl2 : 0 < (ts.map eM).length := by simpa using hl
  refine ⟨?_, by rw [getD_at hl]; exact h.sq _ (List.getElem_mem hl)⟩
  have := ix_nat hl2
  show (L2.atI (ts.map eM) ((0 : Nat) : Int)).map _ = _
  rw [this, Option.map_some, List.getElem_map, getD_at hl]
theorem opEq_int (a b : Int) : opEq (.int a) (.int b) = some (.bl (decide (a = b)), false) := by
  rw [opEq_data (by intro _ _ h; cases h)]
  simp only [okb, peq, Bool.and_self, if_true, sB]
theorem opNe_int (a b : Int) : opNe (.int a) (.int b) = some (.bl (!decide (a = b)), false) := by
  rw [opNe_data (by intro _ _ h; cases h)]
  simp only [okb, peq, Bool.and_self, if_true, sB]
theorem len_tup {f : PM HF.Arg} {s : SE} {ps : List PV} (h : Rdv f s (.tup ps)) : Ev (eOpN opLen (aCons f aNil)) s (.int ps.length) false := ev_opN (rda_cons h rda_nil) rfl
theorem len_M {f : PM HF.Arg} {s : SE} {n : Nat} {m : Mx} (h : Rdv f s (eM m)) (hm : Sq n m) : Ev (eOpN opLen (aCons f aNil)) s (.int n) false := by
  have := len_tup h
  rwa [List.length_map, hm.1] at this
theorem chain_le {f g h : PM HF.Arg} {s : SE} {i j k : Int} {fr fr2 fr3 : Bool} (hf : Ev f s (.int i) fr) (hg : Ev g s (.int j) fr2) (hh : Ev h s (.int k) fr3) : ∃ fr4, Ev (eChain opLe opLe f g h) s (.bl (decide (i ≤ j) && decide (j ≤ k))) fr4 :=
  ev_chain (r := .int k) (b2 := decide (j ≤ k)) hf hg rfl fun _ => ⟨fr3, false, hh, rfl⟩
theorem d_check {n : Nat} {ts : List Mx} (h : TV n ts) : denOf 4 F_check_tables [eT ts] = .ok .non false none := by
  obtain ⟨hf, hs0⟩ := h.first
  have h100 : ∀ {α : Type} {l : List α}, l.length ≤ 3 → l.length ≤ sizeLine := fun z => by rw [sizeLine_eq]; omega
  have row0 : ∀ {s : SE}, s[0]? = some (some (false, eT ts)) → Ev (eOp2 opIx (eVar 0) (eC (.int 0))) s (eM (ts.getD 0 [])) false := fun e => ev_op2 (rd_var e) ev_c.rd hf
  have t1 : EvT (tOrP (tNotP (tBool (eChain opLe opLe (eC (.int 1)) (eOpN opLen (aCons (eVar 0) aNil)) (eC (.int 3))))) (tNotP (tBool (eChain opLe opLe (eC (.int 1)) (eOpN opLen (aCons (eOp2 opIx (eVar 0) (eC (.int 0))) aNil)) (eC (.int 3)))))) (st0 4 [eT ts]) false := by
    obtain ⟨_, c1⟩ := chain_le (s := st0 4 [eT ts]) (ev_c (p := .int 1)) (len_tup (ps := ts.map eM) (rd_var (i := 0) rfl)) (ev_c (p := .int 3))
    obtain ⟨_, c2⟩ := chain_le (s := st0 4 [eT ts]) (ev_c (p := .int 1)) (len_M (row0 rfl).rd hs0) (ev_c (p := .int 3))
    have := evt_or (evt_not (evt_bool c1)) fun _ => evt_not (evt_bool c2)
    have e1 : (decide ((1 : Int) ≤ ((ts.map eM).length : Int)) && decide (((ts.map eM).length : Int) ≤ 3)) = true := by
      rw [List.length_map]; have := h.l1; have := h.l3; simp; omega
    have e2 : (decide ((1 : Int) ≤ (n : Int)) && decide ((n : Int) ≤ 3)) = true := by have := h.n1; have := h.n3; simp; omega
    rw [e1, e2] at this
    exact this
  obtain ⟨s', e, _⟩ := for_rel (G := gNm 1) (enc := eM) (step := fun (_ : Unit) (_ : Mx) => ()) (P := fun _ s => ∃ a b c, s = [some (false, eT ts), a, b, c])
    (F := (sSeq (sIf (tOrP (tBool (eOp2 opNe (eOpN opLen (aCons (eVar 1) aNil)) (eOpN opLen (aCons (eOp2 opIx (eVar 0) (eC (.int 0))) aNil)))) (tNotP (tTru (eOpN opAll (aCons (eComp [2] (iOf (iVal (eVar 1))) (gNm 2) (ret true) (eOp2 opEq (eOpN opLen (aCons (eVar 2) aNil)) (eOpN opLen (aCons (eOp2 opIx (eVar 0) (eC (.int 0))) aNil)))) aNil))))) (sSeq (sRaise "InvalidTable")   sNext) sNext)   (sSeq (sIf (tNotP (tTru (eOpN opAll (aCons (eComp [2] (iOf (iVal (eVar 1))) (gNm 2) (ret true) (eOpN opAll (aCons (eComp [3] (iOf (iVal (eVar 2))) (gNm 3) (ret true) (eChain opLe opLe (eOp1 opNeg (eC (.int 9))) (eVar 3) (eC (.int 9)))) aNil))) aNil)))) (sSeq (sRaise "InvalidTable")   sNext) sNext)   sNext)))
    ts () (st0 4 [eT ts]) (fun _ m s hm ⟨a, b, c, es⟩ => by
      subst es
      have sm := h.sq m hm
      have nm := h.nine m hm
      refine ⟨_, g_nm (by simp), _, ?_, ⟨some (false, eM m), b, c, rfl⟩⟩
      have q1 : EvT (tOrP (tBool (eOp2 opNe (eOpN opLen (aCons (eVar 1) aNil)) (eOpN opLen (aCons (eOp2 opIx (eVar 0) (eC (.int 0))) aNil)))) (tNotP (tTru (eOpN opAll (aCons (eComp [2] (iOf (iVal (eVar 1))) (gNm 2) (ret true) (eOp2 opEq (eOpN opLen (aCons (eVar 2) aNil)) (eOpN opLen (aCons (eOp2 opIx (eVar 0) (eC (.int 0))) aNil)))) aNil))))) [some (false, eT ts), some (false, eM m), b, c] false := by
        have r1 := evt_bool (b := !decide ((n : Int) = n)) (fr := false) (ev_op2 (o := opNe) (s := [some (false, eT ts), some (false, eM m), b, c]) (len_M (rd_var (i := 1) rfl) sm).rd (len_M (row0 rfl).rd hs0).rd (opNe_int _ _))
        have r2 : Ev (eOpN opAll (aCons (eComp [2] (iOf (iVal (eVar 1))) (gNm 2) (ret true) (eOp2 opEq (eOpN opLen (aCons (eVar 2) aNil)) (eOpN opLen (aCons (eOp2 opIx (eVar 0) (eC (.int 0))) aNil)))) aNil)) [some (false, eT ts), some (false, eM m), b, c] (.bl true) false := by
          refine ev_opN (rda_cons (Ev.rd (ev_compX m eR (fun r => .bl true) (iv_tup (ev_var rfl)) (h100 (by rw [sm.1]; exact h.n3)) (by simp) fun r hr => ⟨false, ?_⟩)) rda_nil) ?_
          · have e1 := len_tup (f := eVar 2) (s := [some (false, eT ts), some (false, eM m), some (false, eR r), c]) (ps := r.map PV.int) (rd_var rfl)
            rw [List.length_map, sm.2 r hr] at e1
            refine ev_op2 e1.rd (len_M (row0 rfl).rd hs0).rd ?_
            rw [opEq_int]
            simp
          · show (boolsOf _).map _ = _
            rw [show m.map (fun r => PV.bl true) = (m.map fun _ => true).map PV.bl by simp, boolsOf_map, Option.map_some]
            congr 3
            simp
        have := evt_or r1 fun _ => evt_not (evt_tru r2.rd (b := true) rfl)
        simpa using this
      have q2 : EvT (tNotP (tTru (eOpN opAll (aCons (eComp [2] (iOf (iVal (eVar 1))) (gNm 2) (ret true) (eOpN opAll (aCons (eComp [3] (iOf (iVal (eVar 2))) (gNm 3) (ret true) (eChain opLe opLe (eOp1 opNeg (eC (.int 9))) (eVar 3) (eC (.int 9)))) aNil))) aNil)))) [some (false, eT ts), some (false, eM m), b, c] false := by
        have r2 : Ev (eOpN opAll (aCons (eComp [2] (iOf (iVal (eVar 1))) (gNm 2) (ret true) (eOpN opAll (aCons (eComp [3] (iOf (iVal (eVar 2))) (gNm 3) (ret true) (eChain opLe opLe (eOp1 opNeg (eC (.int 9))) (eVar 3) (eC (.int 9)))) aNil))) aNil)) [some (false, eT ts), some (false, eM m), b, c] (.bl true) false := by
          refine ev_opN (rda_cons (Ev.rd (ev_compX m eR (fun r => .bl true) (iv_tup (ev_var rfl)) (h100 (by rw [sm.1]; exact h.n3)) (by simp) fun r hr => ⟨false, ?_⟩)) rda_nil) ?_
          · refine ev_opN (rda_cons (Ev.rd (ev_compX r PV.int (fun _ => .bl true) (iv_tup (ev_var rfl)) (h100 (by rw [sm.2 r hr]; exact h.n3)) (by simp) fun a ha => ?_)) rda_nil) ?_
            · obtain ⟨_, e⟩ := chain_le (s := [some (false, eT ts), some (false, eM m), some (false, eR r), some (false, .int a)]) (ev_op1 (o := opNeg) (ev_c (p := .int 9)).rd rfl) (ev_var (i := 3) (p := .int a) rfl) (ev_c (p := .int 9))
              have z := nm r hr a ha
              rw [show (decide (-9 ≤ a) && decide (a ≤ 9)) = true by simp; omega] at e
              exact ⟨_, e⟩
            · show (boolsOf _).map _ = _
              rw [show r.map (fun r => PV.bl true) = (r.map fun _ => true).map PV.bl by simp, boolsOf_map, Option.map_some]
              congr 3
              simp
          · show (boolsOf _).map _ = _
            rw [show m.map (fun r => PV.bl true) = (m.map fun _ => true).map PV.bl by simp, boolsOf_map, Option.map_some]
            congr 3
            simp
        exact evt_not (evt_tru r2.rd (b := true) rfl)
      show sSeq _ _ [some (false, eT ts), some (false, eM m), b, c] = _
      rw [s_seq (s1 := [some (false, eT ts), some (false, eM m), b, c]) (by rw [s_if q1]; rfl), s_seq (s1 := [some (false, eT ts), some (false, eM m), b, c]) (by rw [s_if q2]; rfl)]
      rfl) ⟨none, none, none, rfl⟩
  refine den_next (s1 := s') ?_
  unfold F_check_tables
  rw [s_seq (s1 := st0 4 [eT ts]) (by rw [s_if t1]; rfl), s_seq (s1 := s') (by rw [s_for (iv_tup (ps := ts.map eM) (ev_var rfl)), e])]
  rfl
/-! ### words -/
def wT (n : Nat) (ts : List Mx) (acc : Mx) (w : List Nat) : Mx := w.foldl (fun acc k => mul n (ts.getD k []) acc) acc
theorem ev_idn {n : Nat} {I : PM (List PV)} {p2 : PV} (hI : ∀ s : SE, s[2]? = some (some (false, p2)) → I s = .ok ((List.range n).map eI) s) {s : SE} (h2 : s[2]? = some (some (false, p2))) (hl : s.length = 7) (hn : n ≤ 100) :
    Ev (eOpN opTuple (aCons (eComp [5] (iOf I) (gNm 5) (ret true) (eOpN opTuple (aCons (eComp [6] (iOf I) (gNm 6) (ret true) (eOpN opInt (aCons (eOp2 opEq (eVar 5) (eVar 6)) aNil))) aNil))) aNil)) s (eM (idn n)) false := by
  refine ev_opN (rda_cons (Ev.rd (ev_compX (List.range n) eI (fun i => eR ((List.range n).map fun j => if i = j then 1 else 0)) (hI _ h2) (rl hn) (by omega) fun i _ => ⟨false, ?_⟩)) rda_nil) ?_
  · refine ev_opN (rda_cons (Ev.rd (ev_compX (List.range n) eI (fun j => .int (if i = j then 1 else 0)) (hI _ (by rw [List.getElem?_set_ne (by decide)]; exact h2)) (rl hn) (by rw [List.length_set]; omega) fun j _ => ⟨false, ?_⟩)) rda_nil) ?_
    · refine ev_opN (rda_cons (Ev.rd (ev_op2 (p := .int i) (q := .int j) (rd_var (b := false) ?_) (rd_var (b := false) ?_) (opEq_int _ _))) rda_nil) ?_
      · rw [List.getElem?_set_ne (by decide), List.getElem?_set_self (by omega)]; rfl
      · rw [List.getElem?_set_self (by rw [List.length_set]; omega)]; rfl
      · show some (PV.int (if decide ((i : Int) = j) = true then 1 else 0), false) = _
        simp only [decide_eq_true_eq, Int.natCast_inj]
    · show some _ = some _
      rw [eR, List.map_map]
      rfl
  · show some _ = some _
    rw [eM, idn, List.map_map]
    rfl
theorem TV.at {n : Nat} {ts : List Mx} (h : TV n ts) {k : Nat} (hk : k < ts.length) : opIx (eT ts) (eI k) = some (eM (ts.getD k []), false) ∧ Sq n (ts.getD k []) ∧ Bd 9 (ts.getD k []) := by
  have hl2 : k < (ts.map eM).length := by simpa using hk
  have hm : ts.getD k [] ∈ ts := by rw [getD_at hk]; exact List.getElem_mem hk
  refine ⟨?_, h.sq _ hm, fun i j => ?_⟩
  · have := ix_nat hl2
    show (L2.atI (ts.map eM) (k : Int)).map _ = _
    rw [this, Option.map_some, List.getElem_map, getD_at hk]
  · generalize ts.getD k [] = m at hm
    unfold at2
    by_cases hi : i < m.length
    · rw [getD_at hi]
      by_cases hj : j < m[i].length
      · rw [getD_at hj]
        have := h.nine m hm _ (List.getElem_mem hi) _ (List.getElem_mem hj)
        omega
      · rw [List.getD_eq_getElem?_getD, List.getElem?_eq_none (by omega)]
        exact Nat.zero_le _
    · rw [show m.getD i [] = [] by rw [List.getD_eq_getElem?_getD, List.getElem?_eq_none (by omega)]; rfl]
      exact Nat.zero_le _
theorem wT_ok {n : Nat} {ts : List Mx} (h : TV n ts) : ∀ (w : List Nat) (acc : Mx) (c : Nat), (∀ k ∈ w, k < ts.length) → Sq n acc → Bd (27 ^ c) acc → Sq n (wT n ts acc w) ∧ Bd (27 ^ (c + w.length)) (wT n ts acc w)
  | [], _, _, _, hs, hb => ⟨hs, hb⟩
  | k :: w, acc, c, hk, hs, hb => by
    have ⟨_, s1, b1⟩ := h.at (hk k List.mem_cons_self)
    have := wT_ok h w (mul n (ts.getD k []) acc) (c + 1) (fun j hj => hk j (List.mem_cons_of_mem _ hj)) sq_mul ((bd_mul b1 hb).mono (by
      have := h.n3
      rw [Nat.pow_succ]
      have : n * (9 * 27 ^ c) ≤ 3 * (9 * 27 ^ c) := Nat.mul_le_mul_right _ h.n3
      omega))
    rw [List.length_cons, show c + (w.length + 1) = c + 1 + w.length by omega]
    exact this
theorem b27 {c : Nat} (hc : c ≤ 200) : 27 ^ c < 2 ^ 1000 := Nat.lt_of_le_of_lt (Nat.pow_le_pow_right (by decide) hc) (by decide)
theorem d_word_table {n : Nat} {ts : List Mx} (h : TV n ts) {w : List Nat} (hw : ∀ k ∈ w, k < ts.length) (hl : w.length ≤ 100) : denOf 7 F_word_table [eT ts, eW w] = .ok (eM (wT n ts (idn n) w)) false none := by
  have h3 := h.n3
  have e0 : eCall (denOf 4 F_check_tables) (aCons (eVar 0) aNil) (st0 7 [eT ts, eW w]) = .ok (.val .non false) (st0 7 [eT ts, eW w]) := ev_call (eva_cons (ev_var rfl) eva_nil) (d_check h)
  have e1 : Ev (eOpN opRange (aCons (eOpN opLen (aCons (eOp2 opIx (eVar 0) (eC (.int 0))) aNil)) aNil)) (st0 7 [eT ts, eW w]) (.rng 0 n) false :=
    ev_opN (rda_cons (len_M (ev_op2 (rd_var rfl) ev_c.rd h.first.1).rd h.first.2).rd rda_nil) rfl
  have e2 := ev_idn (n := n) (I := iVal (eVar 2)) (p2 := .rng 0 n) (fun s hs => iv_rng (ev_var hs) (by omega)) (s := [some (false, eT ts), some (false, eW w), some (false, .rng 0 n), none, none, none, none]) rfl rfl (by omega)
  obtain ⟨s', h1, _, _, _, ks, hs⟩ := for_relN (G := gNm 4) (F := (sSeq (sIf (tNotP (tBool (eChain opLe opLt (eC (.int 0)) (eVar 4) (eOpN opLen (aCons (eVar 0) aNil))))) (sSeq (sRaise "InvalidTable")
  sNext) sNext)
  (sSeq (sSet 3 (eCall (denOf 6 F_times_whole) (aCons (eOp2 opIx (eVar 0) (eVar 4)) (aCons (eVar 3) aNil))))
  sNext))) (enc := eI) (step := fun acc k => mul n (ts.getD k []) acc) (P := fun acc c s => c ≤ 100 ∧ Sq n acc ∧ Bd (27 ^ (100 - c)) acc ∧ ∃ ks, s = [some (false, eT ts), some (false, eW w), some (false, .rng 0 n), some (false, eM acc), ks, none, none]) w (idn n) 0
    [some (false, eT ts), some (false, eW w), some (false, .rng 0 n), some (false, eM (idn n)), none, none, none] (fun acc k c s hk ⟨hc, hs, hb, ks, es⟩ => by
      subst es
      have hk := hw k hk
      have ⟨a1, a2, a3⟩ := h.at hk
      refine ⟨_, g_nm (by simp), _, ?_, by omega, sq_mul, (bd_mul a3 hb).mono ?_, some (false, eI k), rfl⟩
      · obtain ⟨_, c1⟩ := ev_chain (o := opLe) (o2 := opLt) (s := [some (false, eT ts), some (false, eW w), some (false, .rng 0 n), some (false, eM acc), some (false, eI k), none, none]) (ev_c (p := .int 0)) (ev_var (i := 4) rfl) (show opLe (.int 0) (eI k) = some (.bl (decide ((0 : Int) ≤ k)), false) from rfl) fun _ => ⟨false, false, len_tup (f := eVar 0) (ps := ts.map eM) (rd_var rfl), (show opLt (eI k) (.int (ts.map eM).length) = some (.bl (decide ((k : Int) < (ts.map eM).length)), false) from rfl)⟩
        have t := evt_not (evt_bool c1)
        rw [show (!(decide ((0 : Int) ≤ k) && decide ((k : Int) < (ts.map eM).length))) = false by rw [List.length_map]; simp; omega] at t
        refine sq (sno t rfl) (sq (s_set (ev_call (eva_cons (ev_op2 (rd_var rfl) (rd_var rfl) a1) (eva_cons (ev_var rfl) eva_nil)) (d_times_whole (by omega) a2 hs (a3.small (by decide)) (hb.small (b27 (by omega))))) (by simp)) rfl)
      · have : n * (9 * 27 ^ (100 - (c + 1))) ≤ 3 * (9 * 27 ^ (100 - (c + 1))) := Nat.mul_le_mul_right _ h3
        have e : 100 - c = 100 - (c + 1) + 1 := by omega
        rw [e, Nat.pow_succ]
        omega) ⟨by omega, sq_id, bd_id.mono (Nat.one_le_pow _ _ (by decide)), none, rfl⟩
  refine den_ret (s1 := s') ?_
  unfold F_word_table
  refine sq (s_expr e0) (sq (s_set e1 (by simp [st0])) (sq (s_set e2 (by simp [st0])) (sq (sf (iv_tup (ps := w.map eI) (ev_var rfl)) h1) ?_)))
  subst hs
  exact s_seq_ret (s_ret (ev_var rfl))
theorem d_law_table {n : Nat} {ts : List Mx} (h : TV n ts) {w : List Nat} (hw : ∀ k ∈ w, k < ts.length) (hl : w.length ≤ 100) : denOf 7 F__law_table [eT ts, eW w] = .ok (eM (wT n ts (idn n) w)) false none := by
  have h3 := h.n3
  have e1 : Ev (eOpN opLen (aCons (eOp2 opIx (eVar 0) (eC (.int 0))) aNil)) (st0 7 [eT ts, eW w]) (.int n) false :=
    len_M (ev_op2 (rd_var rfl) ev_c.rd h.first.1).rd h.first.2
  have e2 := ev_idn (n := n) (I := iVal (eOpN opRange (aCons (eVar 2) aNil))) (p2 := .int n) (fun s hs => iv_rng (ev_opN (rda_cons (rd_var hs) rda_nil) rfl) (by omega)) (s := [some (false, eT ts), some (false, eW w), some (false, .int n), none, none, none, none]) rfl rfl (by omega)
  obtain ⟨s', h1, _, _, _, ks, hs⟩ := for_relN (G := gNm 4) (F := (sSeq (sSet 3 (eCall (denOf 6 F__law_product) (aCons (eOp2 opIx (eVar 0) (eVar 4)) (aCons (eVar 3) aNil))))
  sNext)) (enc := eI) (step := fun acc k => mul n (ts.getD k []) acc) (P := fun acc c s => c ≤ 100 ∧ Sq n acc ∧ Bd (27 ^ (100 - c)) acc ∧ ∃ ks, s = [some (false, eT ts), some (false, eW w), some (false, .int n), some (false, eM acc), ks, none, none]) w (idn n) 0
    [some (false, eT ts), some (false, eW w), some (false, .int n), some (false, eM (idn n)), none, none, none] (fun acc k c s hk ⟨hc, hs, hb, ks, es⟩ => by
      subst es
      have hk := hw k hk
      have ⟨a1, a2, a3⟩ := h.at hk
      refine ⟨_, g_nm (by simp), _, ?_, by omega, sq_mul, (bd_mul a3 hb).mono ?_, some (false, eI k), rfl⟩
      · refine sq (s_set (ev_call (eva_cons (ev_op2 (rd_var rfl) (rd_var rfl) a1) (eva_cons (ev_var rfl) eva_nil)) (d_law_product (by omega) a2 hs (a3.small (by decide)) (hb.small (b27 (by omega))))) (by simp)) rfl
      · have : n * (9 * 27 ^ (100 - (c + 1))) ≤ 3 * (9 * 27 ^ (100 - (c + 1))) := Nat.mul_le_mul_right _ h3
        have e : 100 - c = 100 - (c + 1) + 1 := by omega
        rw [e, Nat.pow_succ]
        omega) ⟨by omega, sq_id, bd_id.mono (Nat.one_le_pow _ _ (by decide)), none, rfl⟩
  refine den_ret (s1 := s') ?_
  unfold F__law_table
  refine sq (s_set e1 (by simp [st0])) (sq (s_set e2 (by simp [st0])) (sq (sf (iv_tup (ps := w.map eI) (ev_var rfl)) h1) ?_))
  subst hs
  exact s_seq_ret (s_ret (ev_var rfl))
/-! ### traces -/
def tr (n : Nat) (m : Mx) : Int := ((List.range n).map fun k => at2 m k k).sum
def big (n : Nat) (m : Mx) : Bool := decide ((n : Int) < (tr n m).natAbs)
/-- sum over the diagonal of what slot j holds; the name at slot i -/
theorem ev_tr {n : Nat} {m : Mx} (hm : Sq n m) (hn : n ≤ 100) {s : SE} {i : Nat} {I : PM (List PV)} {f : PM HF.Arg} (hI : I s = .ok ((List.range n).map eI) s) (hf : ∀ x, Rdv f (s.set i x) (eM m)) (hi : i < s.length) :
    Ev (eOpN opAbs (aCons (eOpN opSum (aCons (eComp [i] (iOf I) (gNm i) (ret true) (eOp2 opIx (eOp2 opIx f (eVar i)) (eVar i))) aNil)) aNil)) s (.int (tr n m).natAbs) false := by
  refine ev_opN (rda_cons (ev_opN (r := .int (tr n m)) (fr3 := false) (rda_cons (Ev.rd (ev_compX (List.range n) eI (fun k => .int (at2 m k k)) hI (rl hn) hi fun k hk => ⟨false, ?_⟩)) rda_nil) ?_).rd rda_nil) ?_
  · have hk := List.mem_range.mp hk
    have e : (s.set i (some (false, eI k)))[i]? = some (some (false, eI k)) := List.getElem?_set_self hi
    exact ev_op2 (ev_op2 (hf _) (rd_var e) (ix_row hm hk)).rd (rd_var e) (ix_at hm hk hk)
  · show (intsOf _).map _ = _
    rw [show (List.range n).map (fun k => PV.int (at2 m k k)) = ((List.range n).map fun k => at2 m k k).map PV.int by simp, intsOf_map]
    rfl
  · show some (PV.int _, false) = _
    congr 3
    split <;> omega
theorem d_takes_growing {n : Nat} {ts : List Mx} (h : TV n ts) {w : List Nat} (hw : ∀ k ∈ w, k < ts.length) (hl : w.length ≤ 100) : denOf 4 F_takes_growing [eT ts, eW w] = .ok (.bl (big n (wT n ts (idn n) w))) false none := by
  have h3 := h.n3
  have sm := (wT_ok h w (idn n) 0 hw sq_id bd_id).1
  generalize hM : wT n ts (idn n) w = M at sm
  refine den_ret (s1 := [some (false, eT ts), some (false, eW w), some (false, eM M), none]) ?_
  unfold F_takes_growing
  refine sq (s_set (ev_call (eva_cons (ev_var rfl) (eva_cons (ev_var rfl) eva_nil)) (d_word_table h hw hl)) (by simp [st0])) (s_seq_ret ?_)
  rw [hM]
  refine s_ret (ev_op2 (p := .int (tr n M).natAbs) (q := .int n) (Ev.rd (ev_tr (f := eVar 2) (i := 3) (s := [some (false, eT ts), some (false, eW w), some (false, eM M), none]) sm (by omega) (iv_rng (ev_opN (rda_cons (len_M (rd_var rfl) sm).rd rda_nil) rfl) (by omega)) (fun x => rd_var (b := false) rfl) (by simp))) (len_M (rd_var rfl) sm).rd rfl)
end G18
end

section
set_option Elab.async false
set_option linter.all false
set_option autoImplicit false
/-! BF: first words by breadth: what is not new is not followed. -/
namespace BF
section
variable {τ : Type} [DecidableEq τ]
abbrev Pr (τ : Type) := List Nat × τ
def has (F : List (Pr τ)) (t : τ) : Bool := F.any fun q => decide (q.2 = t)
/-- those that tell something new -/
def new : List (Pr τ) → List (Pr τ) → List (Pr τ)
  | _, [] => []
  | F, p :: ps => if has F p.2 then new F ps else p :: new (F ++ [p]) ps
theorem has_app {F G : List (Pr τ)} {t : τ} : has (F ++ G) t = (has F t || has G t) := by unfold has; rw [List.any_append]
theorem new_app (ps qs : List (Pr τ)) : ∀ F, new F (ps ++ qs) = new F ps ++ new (F ++ new F ps) qs := by
  induction ps with
  | nil => intro F; simp [new]
  | cons p ps ih =>
    intro F
    rw [List.cons_append]
    simp only [new]
    split
    · exact ih F
    · rw [ih, List.cons_append, List.append_assoc, List.singleton_append]
theorem has_new (ps : List (Pr τ)) : ∀ F, ∀ p ∈ ps, has (F ++ new F ps) p.2 = true := by
  induction ps with
  | nil => intro F p h; cases h
  | cons q ps ih =>
    intro F p hp
    simp only [new]
    split
    · rename_i h
      rcases List.mem_cons.mp hp with e | hp
      · rw [has_app, e, h]; rfl
      · exact ih F p hp
    · rcases List.mem_cons.mp hp with e | hp
      · subst e
        rw [has_app]
        simp [has]
      · have := ih (F ++ [q]) p hp
        rwa [List.append_assoc, List.singleton_append] at this
theorem new_nil (ps : List (Pr τ)) : ∀ F, (∀ p ∈ ps, has F p.2 = true) → new F ps = [] := by
  induction ps with
  | nil => intro F _; rfl
  | cons q ps ih =>
    intro F h
    simp only [new]
    rw [if_pos (h q List.mem_cons_self)]
    exact ih F fun p hp => h p (List.mem_cons_of_mem _ hp)
theorem new_sub (ps : List (Pr τ)) : ∀ F, ∀ p ∈ new F ps, p ∈ ps := by
  induction ps with
  | nil => intro F p h; cases h
  | cons q ps ih =>
    intro F p hp
    simp only [new] at hp
    split at hp
    · exact List.mem_cons_of_mem _ (ih _ p hp)
    · rcases List.mem_cons.mp hp with e | hp
      · rw [e]; exact List.mem_cons_self
      · exact List.mem_cons_of_mem _ (ih _ p hp)
variable (m : Nat) (f : Nat → τ → τ)
def kids (p : Pr τ) : List (Pr τ) := (List.range m).map fun k => (p.1 ++ [k], f k p.2)
def Clo (F C : List (Pr τ)) : Prop := ∀ t, has F t = true → ∀ k, k < m → has C (f k t) = true
theorem step (us : List (Pr τ)) : ∀ (F C : List (Pr τ)), Clo m f F C → new C (us.flatMap (kids m f)) = new C ((new F us).flatMap (kids m f)) ∧ Clo m f (F ++ new F us) (C ++ new C (us.flatMap (kids m f))) := by
  induction us with
  | nil => intro F C h; simp only [new, List.flatMap_nil, List.append_nil]; exact ⟨trivial, h⟩
  | cons u us ih =>
    intro F C h
    simp only [new, List.flatMap_cons]
    split
    · rename_i hu
      have e : new C (kids m f u) = [] := new_nil _ _ fun p hp => by
        obtain ⟨k, hk, rfl⟩ := List.mem_map.mp hp
        exact h _ hu k (List.mem_range.mp hk)
      rw [new_app, e, List.append_nil, List.nil_append]
      exact ih F C h
    · have h1 : Clo m f (F ++ [u]) (C ++ new C (kids m f u)) := fun t ht k hk => by
        rw [has_app, Bool.or_eq_true] at ht
        rcases ht with ht | ht
        · rw [has_app, h t ht k hk]; rfl
        · have e : u.2 = t := by simpa [has] using ht
          rw [← e]
          exact has_new (kids m f u) C (u.1 ++ [k], f k u.2) (List.mem_map.mpr ⟨k, List.mem_range.mpr hk, rfl⟩)
      obtain ⟨i1, i2⟩ := ih (F ++ [u]) (C ++ new C (kids m f u)) h1
      rw [List.flatMap_cons, new_app, new_app, i1]
      refine ⟨rfl, ?_⟩
      rw [i1] at i2
      rw [List.append_assoc, List.singleton_append, List.append_assoc] at i2
      exact i2
variable (t0 : τ)
/-- all words of a length -/
def all : Nat → List (Pr τ)
  | 0 => [([], t0)]
  | n + 1 => (all n).flatMap (kids m f)
def upto : Nat → List (Pr τ)
  | 0 => all m f t0 0
  | n + 1 => upto n ++ all m f t0 (n + 1)
/-- rounds: what is found, the last level -/
def rnd : Nat → List (Pr τ) × List (Pr τ)
  | 0 => ([([], t0)], [([], t0)])
  | n + 1 => let (F, L) := rnd n; (F ++ new F (L.flatMap (kids m f)), new F (L.flatMap (kids m f)))
theorem rnd_all : ∀ n, (rnd m f t0 n).1 = new [] (upto m f t0 n) ∧ ∃ F, (rnd m f t0 n).1 = F ++ (rnd m f t0 n).2 ∧ (rnd m f t0 n).2 = new F (all m f t0 n) ∧ Clo m f F (rnd m f t0 n).1
  | 0 => ⟨rfl, [], rfl, rfl, fun t h => by cases h⟩
  | n + 1 => by
    obtain ⟨h1, F, h2, h3, h4⟩ := rnd_all n
    obtain ⟨s1, s2⟩ := step m f (all m f t0 n) F (rnd m f t0 n).1 h4
    rw [← h3] at s1 s2
    have e : (rnd m f t0 (n + 1)).2 = new (rnd m f t0 n).1 (all m f t0 (n + 1)) := s1.symm
    have e1 : (rnd m f t0 (n + 1)).1 = (rnd m f t0 n).1 ++ (rnd m f t0 (n + 1)).2 := rfl
    refine ⟨?_, (rnd m f t0 n).1, e1, e, ?_⟩
    · rw [e1, e, upto, new_app, ← h1, List.nil_append]
    · rw [e1, e]
      rw [← h2] at s2
      exact s2
theorem rnd_len : ∀ n, (∀ p ∈ (rnd m f t0 n).1, p.1.length ≤ n) ∧ ∀ p ∈ (rnd m f t0 n).2, p.1.length = n
  | 0 => ⟨fun p h => by rw [List.mem_singleton.mp h]; exact Nat.zero_le _, fun p h => by rw [List.mem_singleton.mp h]; rfl⟩
  | n + 1 => by
    obtain ⟨h1, h2⟩ := rnd_len n
    have h3 : ∀ p ∈ (rnd m f t0 (n + 1)).2, p.1.length = n + 1 := fun p hp => by
      obtain ⟨q, hq, hp⟩ := List.mem_flatMap.mp (new_sub _ _ p hp)
      obtain ⟨k, _, rfl⟩ := List.mem_map.mp hp
      rw [List.length_append, h2 q hq]; rfl
    refine ⟨fun p hp => ?_, h3⟩
    rcases List.mem_append.mp hp with hp | hp
    · exact Nat.le_succ_of_le (h1 p hp)
    · exact Nat.le_of_eq (h3 p hp)
end
end BF
namespace BF
section
variable {τ : Type} [DecidableEq τ]
def stepG (F G : List (Pr τ)) (p : Pr τ) : List (Pr τ) := if has (F ++ G) p.2 then G else G ++ [p]
theorem fold_new (F : List (Pr τ)) : ∀ (ps G : List (Pr τ)), ps.foldl (stepG F) G = G ++ new (F ++ G) ps
  | [], G => by simp [new]
  | p :: ps, G => by
    rw [List.foldl_cons, fold_new F ps]
    simp only [new, stepG]
    split
    · rfl
    · rw [List.append_assoc, List.append_assoc, List.singleton_append]
theorem fold_flat {α β γ : Type} (g : γ → α → γ) (h : β → List α) : ∀ (l : List β) (c : γ), (l.flatMap h).foldl g c = l.foldl (fun c b => (h b).foldl g c) c
  | [], _ => rfl
  | b :: l, c => by rw [List.flatMap_cons, List.foldl_append, List.foldl_cons, fold_flat g h l]
variable (m : Nat) (f : Nat → τ → τ) (t0 : τ)
theorem rnd_T : ∀ n, (∀ p ∈ (rnd m f t0 n).1, p.2 = p.1.foldl (fun t k => f k t) t0 ∧ ∀ k ∈ p.1, k < m) ∧ ∀ p ∈ (rnd m f t0 n).2, p ∈ (rnd m f t0 n).1
  | 0 => ⟨fun p h => by rw [List.mem_singleton.mp h]; exact ⟨rfl, fun k h => by cases h⟩, fun p h => h⟩
  | n + 1 => by
    obtain ⟨h1, h2⟩ := rnd_T n
    refine ⟨fun p hp => ?_, fun p hp => List.mem_append.mpr (.inr hp)⟩
    rcases List.mem_append.mp hp with hp | hp
    · exact h1 p hp
    · obtain ⟨q, hq, hp⟩ := List.mem_flatMap.mp (new_sub _ _ p hp)
      obtain ⟨k, hk, rfl⟩ := List.mem_map.mp hp
      obtain ⟨a, b⟩ := h1 q (h2 q hq)
      refine ⟨by rw [List.foldl_append, ← a]; rfl, fun j hj => ?_⟩
      rcases List.mem_append.mp hj with hj | hj
      · exact b j hj
      · rw [List.mem_singleton.mp hj]; exact List.mem_range.mp hk
theorem new_len (ps : List (Pr τ)) : ∀ F, (new F ps).length ≤ ps.length := by
  induction ps with
  | nil => intro F; exact Nat.le_refl _
  | cons p ps ih =>
    intro F
    simp only [new]
    split
    · exact Nat.le_succ_of_le (ih F)
    · exact Nat.succ_le_succ (ih _)
theorem all_len : ∀ n, (all m f t0 n).length = m ^ n
  | 0 => rfl
  | n + 1 => by
    have : ∀ l : List (Pr τ), (l.flatMap (kids m f)).length = l.length * m := fun l => by
      induction l with
      | nil => simp
      | cons p l ih => rw [List.flatMap_cons, List.length_append, ih, List.length_cons, Nat.succ_mul, kids, List.length_map, List.length_range, Nat.add_comm]
    show ((all m f t0 n).flatMap (kids m f)).length = _
    rw [this, all_len n, Nat.pow_succ]
def cnt (m : Nat) : Nat → Nat
  | 0 => 1
  | n + 1 => cnt m n + m ^ (n + 1)
theorem upto_len : ∀ n, (upto m f t0 n).length = cnt m n
  | 0 => rfl
  | n + 1 => by rw [upto, List.length_append, upto_len n, all_len, cnt]
theorem rnd_cnt (n : Nat) : (rnd m f t0 n).1.length ≤ cnt m n := by
  rw [(rnd_all m f t0 n).1, ← upto_len m f t0]
  exact new_len _ _
end
end BF
end

section
set_option Elab.async false
set_option linter.all false
set_option maxRecDepth 100000
set_option maxHeartbeats 1000000
set_option autoImplicit false
set_option exponentiation.threshold 2000
namespace G18
open PySem PySem.Spec PyProof.Rows HF
abbrev Pr := BF.Pr Mx
def eP (p : Pr) : PV := .tup [eW p.1, eM p.2]
def eF (F : List Pr) : PV := .lst (F.map eP)
def eS (v : Pr → PV) (F : List Pr) : PV := .dct 1 (F.map fun p => (eM p.2, v p))
/-! ### data -/
theorem okb_int (n : Nat) (i : Int) : okb n (.int i) = true := by cases n <;> rfl
theorem okb_tup {n : Nat} {ps : List PV} (h : ∀ p ∈ ps, okb n p = true) : okb (n + 1) (.tup ps) = true := List.all_eq_true.mpr h
theorem okb_lst {n : Nat} {ps : List PV} (h : ∀ p ∈ ps, okb n p = true) : okb (n + 1) (.lst ps) = true := List.all_eq_true.mpr h
theorem okb_R (n : Nat) (r : List Int) : okb (n + 1) (eR r) = true := okb_tup fun p hp => by
  obtain ⟨i, _, rfl⟩ := List.mem_map.mp hp
  exact okb_int _ _
theorem okb_M (n : Nat) (m : Mx) : okb (n + 2) (eM m) = true := okb_tup fun p hp => by
  obtain ⟨i, _, rfl⟩ := List.mem_map.mp hp
  exact okb_R _ _
theorem okb_W (n : Nat) (r : List Nat) : okb (n + 1) (eW r) = true := okb_tup fun p hp => by
  obtain ⟨i, _, rfl⟩ := List.mem_map.mp hp
  exact okb_int _ _
theorem okb_F (n : Nat) (F : List Pr) : okb (n + 4) (eF F) = true := okb_lst fun p hp => by
  obtain ⟨i, _, rfl⟩ := List.mem_map.mp hp
  refine okb_tup fun q hq => ?_
  rcases List.mem_cons.mp hq with e | hq
  · rw [e]; exact okb_W _ _
  · rw [List.mem_singleton.mp hq]; exact okb_M _ _
theorem ne_same {p : PV} (h : okb 60 p = true) : opNe p p = some (.bl false, false) := by
  rw [opNe_data (by intro a b e; subst e; intro; cases h), h, peq_refl]
  rfl
theorem eR_inj {a b : List Int} (h : eR a = eR b) : a = b := by
  have h : a.map PV.int = b.map PV.int := PV.tup.inj h
  exact List.map_inj_right (fun x y e => PV.int.inj e) |>.mp h
theorem eM_inj {a b : Mx} (h : eM a = eM b) : a = b := List.map_inj_right (fun x y e => eR_inj e) |>.mp (PV.tup.inj h)
theorem peq_M (a b : Mx) : peq (eM a) (eM b) = decide (a = b) := by
  rw [peq_dec]
  by_cases h : a = b
  · rw [h, decide_eq_true rfl, decide_eq_true rfl]
  · rw [decide_eq_false h, decide_eq_false fun e => h (eM_inj e)]
theorem kb_M (m : Mx) : kb (eM m) = true := by
  have r1 : ∀ r : List Int, pvKs (nkOfs (r.map PV.int)) = r.map PV.int ∧ NestedKey.depthAll (nkOfs (r.map PV.int)) ≤ 1 := fun r => by
    induction r with
    | nil => exact ⟨rfl, by decide⟩
    | cons i r ih => exact ⟨by rw [List.map_cons, nkOfs, pvKs, ih.1]; rfl, by rw [List.map_cons, nkOfs, NestedKey.depthAll]; have := ih.2; simp only [nkOf, NestedKey.depth]; omega⟩
  have r2 : ∀ m : Mx, pvKs (nkOfs (m.map eR)) = m.map eR ∧ NestedKey.depthAll (nkOfs (m.map eR)) ≤ 2 := fun m => by
    induction m with
    | nil => exact ⟨rfl, by decide⟩
    | cons r m ih => exact ⟨by rw [List.map_cons, nkOfs, pvKs, ih.1, eR, nkOf, pvK, (r1 r).1], by rw [List.map_cons, nkOfs, NestedKey.depthAll, eR, nkOf, NestedKey.depth]; have := ih.2; have := (r1 r).2; omega⟩
  unfold kb
  rw [Bool.and_eq_true, Bool.and_eq_true, decide_eq_true_eq]
  refine ⟨⟨rfl, ?_⟩, ?_⟩
  · rw [show pvK (nkOf (eM m)) = eM m by rw [eM, nkOf, pvK, (r2 m).1]]
    exact peq_refl _
  · rw [eM, nkOf, NestedKey.depth]
    have := (r2 m).2
    omega
theorem get_S (v : Pr → PV) (F : List Pr) (t : Mx) : (dGet (F.map fun p => (eM p.2, v p)) (eM t)).isSome = BF.has F t := by
  induction F with
  | nil => rfl
  | cons p F ih =>
    rw [List.map_cons, dGet, peq_M]
    by_cases h : p.2 = t
    · simp [h, BF.has]
    · simp only [h, decide_false, Bool.false_eq_true, if_false, ih, BF.has, List.any_cons, Bool.false_or]
theorem kbs_S (v : Pr → PV) (F : List Pr) : (F.map fun p => (eM p.2, v p)).all (fun e => kb e.1) = true := by
  rw [List.all_map, List.all_eq_true]
  exact fun p _ => kb_M _
theorem in_S (v : Pr → PV) (F : List Pr) (t : Mx) : opNotIn (eM t) (eS v F) = some (.bl (!BF.has F t), false) := by
  show negB (if kb (eM t) && (F.map fun p => (eM p.2, v p)).all (fun e => kb e.1) then sB (dGet (F.map fun p => (eM p.2, v p)) (eM t)).isSome else none) = _
  rw [kb_M, kbs_S, get_S]
  rfl
theorem set_S (v : Pr → PV) {F : List Pr} {p : Pr} (h : BF.has F p.2 = false) (hl : F.length < sizeLine) : opSet (eS v F) (eM p.2) (v p) = some (eS v (F ++ [p])) := by
  show (if kb (eM p.2) && (F.map fun p => (eM p.2, v p)).all (fun e => kb e.1) && decide ((F.map fun p => (eM p.2, v p)).length < sizeLine) then some (PV.dct 1 (dPut (F.map fun p => (eM p.2, v p)) (eM p.2) (v p))) else none) = _
  rw [kb_M, kbs_S, List.length_map, decide_eq_true hl]
  have e : dGet (F.map fun p => (eM p.2, v p)) (eM p.2) = none := by
    have := get_S v F p.2
    rw [h] at this
    exact Option.not_isSome_iff_eq_none.mp (by simp [this])
  unfold dPut
  rw [e]
  simp [eS]
/-! ### words_up_to -/
abbrev KK (n : Nat) (ts : List Mx) (k : Nat) (t : Mx) : Mx := mul n (ts.getD k []) t
abbrev vT : Pr → PV := fun _ => .bl true
def SS (ts : List Mx) (most : Nat) (b2 : Bool) (L F G : List Pr) (x5 x7 x8 x9 x10 : Option (Bool × PV)) : SE := [some (false, eT ts), some (false, .int most), some (b2, eF L), some (true, eS vT (F ++ G)), some (true, eF F), x5, some (true, eF G), x7, x8, x9, x10]
theorem sl {n : Nat} (h : n ≤ 16777216) : n ≤ sizeLine := by rw [sizeLine_eq]; exact h
theorem s_app {s s1 : SE} {i : Nat} {f : PM HF.Arg} {ps : List PV} {q : PV} {fr : Bool} (h : s[i]? = some (some (true, .lst ps))) (hf : EvS f s q fr s1) (h1 : s1[i]? = some (some (true, .lst ps))) (hl : ps.length < sizeLine) :
    sExpr (eMeth i opAppend (aCons f aNil)) s = .ok .next (s1.set i (some (true, .lst (ps ++ [q])))) := by
  refine s_expr (a := .val .non false) ?_
  unfold eMeth
  rw [bnd_ok (show isOwnL i s = .ok () s by unfold isOwnL; simp only [h])]
  rw [bnd_ok (show aCons f aNil s = .ok [.val q false] s1 by unfold aCons; rw [bnd_ok hf]; rfl)]
  rw [bnd_ok (show relAll [Arg.val q false] s1 = .ok [q] s1 from rfl)]
  unfold onLst
  simp only [h1, opAppend, hl, if_true]
theorem wu_body {n : Nat} {ts : List Mx} (h : TV n ts) {most : Nat} {b2 : Bool} {L F G : List Pr} {w : List Nat} {t : Mx} {x5 x9 x10 : Option (Bool × PV)} {k : Nat} (hk : k < ts.length) (hs : Sq n t) (hb : Small t) (hw : w.length ≤ 100) (hF : (F ++ G).length < sizeLine) :
    ∃ x10', (sSeq (sSet 10 (eCall (denOf 6 F_times_whole) (aCons (eOp2 opIx (eVar 0) (eVar 9)) (aCons (eVar 8) aNil))))
  (sSeq (sIf (tBool (eOp2 opNotIn (eVar 10) (eVar 3))) (sSeq (sAsg (eC (.bl true)) (gSubP 3 opSet (eVar 10)))
  (sSeq (sExpr (eMeth 6 opAppend (aCons (eTup (aCons (eOp2 opAdd (eVar 7) (eTup (aCons (eVar 9) aNil))) (aCons (eVar 10) aNil))) aNil)))
  sNext)) sNext)
  sNext)) (SS ts most b2 L F G x5 (some (false, eW w)) (some (false, eM t)) (some (false, eI k)) x10) = .ok .next (SS ts most b2 L F (BF.stepG F G (w ++ [k], KK n ts k t)) x5 (some (false, eW w)) (some (false, eM t)) (some (false, eI k)) x10') := by
  have h3 := h.n3
  have ⟨a1, a2, a3⟩ := h.at hk
  refine ⟨some (false, eM (KK n ts k t)), ?_⟩
  refine sq (s_set (ev_call (eva_cons (ev_op2 (rd_var (i := 0) rfl) (rd_var (i := 9) rfl) a1) (eva_cons (ev_var (i := 8) rfl) eva_nil)) (d_times_whole (by omega) a2 hs (a3.small (by decide)) hb)) (by simp [SS])) ?_
  refine sq (si (evt_bool (ev_op2 (rd_var (i := 10) rfl) (rd_var (i := 3) rfl) (in_S vT (F ++ G) _))) (fun hc => ?_) (fun hc => ?_)) rfl
  · have hc : BF.has (F ++ G) (mul n (ts.getD k []) t) = false := by simpa using hc
    have hst : BF.stepG F G (w ++ [k], KK n ts k t) = G ++ [(w ++ [k], KK n ts k t)] := by
      unfold BF.stepG
      rw [if_neg (by show ¬ BF.has (F ++ G) (mul n (ts.getD k []) t) = true; rw [hc]; decide)]
    have hG : (G.map eP).length < sizeLine := by rw [List.length_map]; rw [List.length_append] at hF; omega
    have e1 := set_S vT (F := F ++ G) (p := (w ++ [k], KK n ts k t)) hc hF
    refine sq (s_sub ev_c (i := 3) rfl (ev_var (i := 10) rfl) e1) (sq (s_app (i := 6) (ps := G.map eP) (q := eP (w ++ [k], KK n ts k t)) (fr := false) rfl (ev_tup (ps := [eW (w ++ [k]), eM (KK n ts k t)]) (eva_cons (ev_op2 (fr3 := false) (rd_var (i := 7) rfl) (ev_tup (ps := [eI k]) (eva_cons (ev_var (i := 9) rfl) eva_nil) (sl (by simp))).rd ?_) (eva_cons (ev_var (i := 10) rfl) eva_nil)) (sl (by simp))) rfl hG) ?_)
    · show (if (w.map eI).length + 1 ≤ sizeLine then _ else _) = _
      rw [if_pos (by rw [List.length_map, sizeLine_eq]; omega)]
      simp [eW]
    · rw [hst]
      unfold SS
      simp [sNext, eF, List.append_assoc]
      rfl
  · have hc : BF.has (F ++ G) (mul n (ts.getD k []) t) = true := by simpa using hc
    have hst : BF.stepG F G (w ++ [k], KK n ts k t) = G := by
      unfold BF.stepG
      rw [if_pos hc]
    rw [hst]
    rfl
/-- one word's turns -/
theorem wu_word {n : Nat} {ts : List Mx} (h : TV n ts) {most : Nat} {b2 : Bool} {L F G : List Pr} {w : List Nat} {t : Mx} {x5 x9 x10 : Option (Bool × PV)} (hs : Sq n t) (hb : Small t) (hw : w.length ≤ 100) (hF : (F ++ G).length + ts.length < sizeLine) :
    ∃ x9' x10', (sSeq (sFor (iVal (eOpN opRange (aCons (eOpN opLen (aCons (eVar 0) aNil)) aNil))) (gNm 9) (sSeq (sSet 10 (eCall (denOf 6 F_times_whole) (aCons (eOp2 opIx (eVar 0) (eVar 9)) (aCons (eVar 8) aNil))))
  (sSeq (sIf (tBool (eOp2 opNotIn (eVar 10) (eVar 3))) (sSeq (sAsg (eC (.bl true)) (gSubP 3 opSet (eVar 10)))
  (sSeq (sExpr (eMeth 6 opAppend (aCons (eTup (aCons (eOp2 opAdd (eVar 7) (eTup (aCons (eVar 9) aNil))) (aCons (eVar 10) aNil))) aNil)))
  sNext)) sNext)
  sNext)))
  sNext) (SS ts most b2 L F G x5 (some (false, eW w)) (some (false, eM t)) x9 x10) = .ok .next (SS ts most b2 L F ((BF.kids ts.length (KK n ts) (w, t)).foldl (BF.stepG F) G) x5 (some (false, eW w)) (some (false, eM t)) x9' x10') := by
  have h3 := h.l3
  obtain ⟨s', h1, hl, x9', x10', e⟩ := for_relN (G := gNm 9) (F := (sSeq (sSet 10 (eCall (denOf 6 F_times_whole) (aCons (eOp2 opIx (eVar 0) (eVar 9)) (aCons (eVar 8) aNil))))
  (sSeq (sIf (tBool (eOp2 opNotIn (eVar 10) (eVar 3))) (sSeq (sAsg (eC (.bl true)) (gSubP 3 opSet (eVar 10)))
  (sSeq (sExpr (eMeth 6 opAppend (aCons (eTup (aCons (eOp2 opAdd (eVar 7) (eTup (aCons (eVar 9) aNil))) (aCons (eVar 10) aNil))) aNil)))
  sNext)) sNext)
  sNext))) (enc := eI) (step := fun G k => BF.stepG F G (w ++ [k], KK n ts k t)) (P := fun G c s => (F ++ G).length + c < sizeLine ∧ ∃ x9 x10, s = SS ts most b2 L F G x5 (some (false, eW w)) (some (false, eM t)) x9 x10)
    (List.range ts.length) G 0 (SS ts most b2 L F G x5 (some (false, eW w)) (some (false, eM t)) x9 x10) (fun G k c s hk ⟨hl, x9, x10, e⟩ => by
      subst e
      have hk := List.mem_range.mp hk
      obtain ⟨x10', e⟩ := wu_body h (most := most) (b2 := b2) (L := L) (F := F) (G := G) (w := w) (t := t) (x5 := x5) (x9 := x9) (x10 := x10) hk hs hb hw (by omega)
      refine ⟨_, g_nm (by simp [SS]), _, e, ?_, some (false, eI k), x10', rfl⟩
      have : (BF.stepG F G (w ++ [k], KK n ts k t)).length ≤ G.length + 1 := by
        unfold BF.stepG
        split
        · omega
        · simp
      rw [List.length_append] at hl ⊢
      omega) ⟨by rw [List.length_range]; omega, x9, x10, rfl⟩
  refine ⟨x9', x10', ?_⟩
  refine sq (sf (iv_rng (n := ts.length) (ev_opN (rda_cons (len_tup (ps := ts.map eM) (rd_var (i := 0) rfl)).rd rda_nil) (by rw [List.length_map]; rfl)) (by omega)) h1) ?_
  rw [e, BF.kids, List.foldl_map]
  rfl
/-- what is known of a pair that is found -/
structure Good (n : Nat) (ts : List Mx) (p : Pr) : Prop where
  sq : Sq n p.2
  sm : Small p.2
  le : p.1.length ≤ 100
theorem wu_level {n : Nat} {ts : List Mx} (h : TV n ts) {most : Nat} {b2 : Bool} {L F : List Pr} {x5 x7 x8 x9 x10 : Option (Bool × PV)} (hL : ∀ p ∈ L, Good n ts p) (hF : F.length + L.length * ts.length + ts.length < sizeLine) :
    ∃ x7' x8' x9' x10', forL (gTp 2 (gsCons (gNm 7) (gsCons (gNm 8) gsNil))) (sSeq (sFor (iVal (eOpN opRange (aCons (eOpN opLen (aCons (eVar 0) aNil)) aNil))) (gNm 9) (sSeq (sSet 10 (eCall (denOf 6 F_times_whole) (aCons (eOp2 opIx (eVar 0) (eVar 9)) (aCons (eVar 8) aNil))))
  (sSeq (sIf (tBool (eOp2 opNotIn (eVar 10) (eVar 3))) (sSeq (sAsg (eC (.bl true)) (gSubP 3 opSet (eVar 10)))
  (sSeq (sExpr (eMeth 6 opAppend (aCons (eTup (aCons (eOp2 opAdd (eVar 7) (eTup (aCons (eVar 9) aNil))) (aCons (eVar 10) aNil))) aNil)))
  sNext)) sNext)
  sNext)))
  sNext) (L.map eP) (SS ts most b2 L F [] x5 x7 x8 x9 x10) = .ok .next (SS ts most b2 L F (BF.new F (L.flatMap (BF.kids ts.length (KK n ts)))) x5 x7' x8' x9' x10') := by
  have hst : ∀ (ps G : List Pr), (ps.foldl (BF.stepG F) G).length ≤ G.length + ps.length := fun ps G => by
    rw [BF.fold_new, List.length_append]
    have := BF.new_len ps (F ++ G)
    omega
  obtain ⟨s', h1, hl, x7', x8', x9', x10', e⟩ := for_relN (G := gTp 2 (gsCons (gNm 7) (gsCons (gNm 8) gsNil))) (F := (sSeq (sFor (iVal (eOpN opRange (aCons (eOpN opLen (aCons (eVar 0) aNil)) aNil))) (gNm 9) (sSeq (sSet 10 (eCall (denOf 6 F_times_whole) (aCons (eOp2 opIx (eVar 0) (eVar 9)) (aCons (eVar 8) aNil))))
  (sSeq (sIf (tBool (eOp2 opNotIn (eVar 10) (eVar 3))) (sSeq (sAsg (eC (.bl true)) (gSubP 3 opSet (eVar 10)))
  (sSeq (sExpr (eMeth 6 opAppend (aCons (eTup (aCons (eOp2 opAdd (eVar 7) (eTup (aCons (eVar 9) aNil))) (aCons (eVar 10) aNil))) aNil)))
  sNext)) sNext)
  sNext)))
  sNext)) (enc := eP) (step := fun G p => (BF.kids ts.length (KK n ts) p).foldl (BF.stepG F) G) (P := fun G c s => (F ++ G).length + c * ts.length + ts.length < sizeLine ∧ ∃ x7 x8 x9 x10, s = SS ts most b2 L F G x5 x7 x8 x9 x10)
    L [] 0 (SS ts most b2 L F [] x5 x7 x8 x9 x10) (fun G p c s hp ⟨hl, x7, x8, x9, x10, e⟩ => by
      subst e
      have g := hL p hp
      rw [Nat.succ_mul] at hl
      obtain ⟨x9', x10', e⟩ := wu_word h (most := most) (b2 := b2) (L := L) (F := F) (G := G) (w := p.1) (t := p.2) (x5 := x5) (x9 := x9) (x10 := x10) g.sq g.sm g.le (by omega)
      refine ⟨_, g_tp2 (by simp [SS]) (by simp [SS]), _, e, ?_, _, _, x9', x10', rfl⟩
      have := hst (BF.kids ts.length (KK n ts) p) G
      have e2 : (BF.kids ts.length (KK n ts) p).length = ts.length := by simp [BF.kids]
      rw [List.length_append] at hl ⊢
      omega) ⟨by rw [List.append_nil, Nat.zero_add]; exact hF, x7, x8, x9, x10, rfl⟩
  refine ⟨x7', x8', x9', x10', ?_⟩
  rw [h1, e, ← BF.fold_flat, BF.fold_new, List.nil_append, List.append_nil]
theorem den_bor {n i : Nat} {F : PM Fl} {ps : List PV} {p : PV} {s1 : SE} (h : F (st0 n ps) = .ok (.ret (.bor i)) s1) (h1 : s1[i]? = some (some (true, p))) : denOf n F ps = .ok p true none := by
  unfold denOf
  simp only [h, outR, h1]
theorem s_ext {s : SE} {i j : Nat} {b : Bool} {ps qs : List PV} (h : s[i]? = some (some (true, .lst ps))) (hj : s[j]? = some (some (b, .lst qs))) (hl : ps.length + qs.length ≤ sizeLine) (hij : j ≠ i) :
    sExpr (eMeth i opExtend (aCons (eVar j) aNil)) s = .ok .next ((s.set j (some (false, .lst qs))).set i (some (true, .lst (ps ++ qs)))) := by
  refine s_expr (a := .val .non false) ?_
  unfold eMeth
  rw [bnd_ok (show isOwnL i s = .ok () s by unfold isOwnL; simp only [h])]
  have hjl : j < s.length := (List.getElem?_eq_some_iff.mp hj).1
  have h2 : (s.set j (some (false, .lst qs)))[i]? = some (some (true, .lst ps)) := by rw [List.getElem?_set_ne hij]; exact h
  have ho : onLst i opExtend [.lst qs] (s.set j (some (false, .lst qs))) = .ok (.val .non false) ((s.set j (some (false, .lst qs))).set i (some (true, .lst (ps ++ qs)))) := by
    unfold onLst
    simp only [h2, opExtend, hl, if_true]
  cases b with
  | true =>
    rw [bnd_ok (show aCons (eVar j) aNil s = .ok [.bor j] s by unfold aCons; rw [bnd_ok (show eVar j s = .ok (.bor j) s by unfold eVar; simp only [hj])]; rfl)]
    rw [bnd_ok (show relAll [Arg.bor j] s = .ok [.lst qs] (s.set j (some (false, .lst qs))) by unfold relAll; rw [bnd_ok (show rel1 (.bor j) s = .ok (.lst qs) (s.set j (some (false, .lst qs))) by unfold rel1; simp only [hj])]; rfl)]
    exact ho
  | false =>
    have e : s.set j (some (false, .lst qs)) = s := by
      refine List.ext_getElem? fun k => ?_
      by_cases hk : j = k
      · subst hk; rw [List.getElem?_set_self hjl, hj]
      · rw [List.getElem?_set_ne hk]
    rw [e] at ho ⊢
    rw [bnd_ok (show aCons (eVar j) aNil s = .ok [.val (.lst qs) false] s by unfold aCons; rw [bnd_ok (show eVar j s = .ok (.val (.lst qs) false) s by unfold eVar; simp only [hj])]; rfl)]
    rw [bnd_ok (show relAll [Arg.val (.lst qs) false] s = .ok [.lst qs] s from rfl)]
    exact ho
theorem rnd_good {n : Nat} {ts : List Mx} (h : TV n ts) {j : Nat} (hj : j ≤ 100) : ∀ p ∈ (BF.rnd ts.length (KK n ts) (idn n) j).1, Good n ts p := fun p hp => by
  obtain ⟨e, hk⟩ := (BF.rnd_T ts.length (KK n ts) (idn n) j).1 p hp
  have hl := (BF.rnd_len ts.length (KK n ts) (idn n) j).1 p hp
  have e : p.2 = wT n ts (idn n) p.1 := e
  obtain ⟨a, b⟩ := wT_ok h p.1 (idn n) 0 hk sq_id bd_id
  rw [← e] at a b
  exact ⟨a, b.small (b27 (by omega)), by omega⟩
theorem s_par {s s1 s2 : SE} {i j : Nat} {f g : PM HF.Arg} {p q : PV} {fr fr2 : Bool} (hf : EvS f s p fr s1) (hg : EvS g s1 q fr2 s2) (hi : i < s2.length) (hj : j < s2.length) : sPar i j f g s = .ok .next ((s2.set j (some (fr2, q))).set i (some (fr, p))) := by
  unfold sPar
  rw [bnd_ok hf, bnd_ok (show norm (.val p fr) s1 = .ok (.val p fr) s1 from rfl), bnd_ok hg, bnd_ok (show norm (.val q fr2) s2 = .ok (.val q fr2) s2 from rfl),
    bnd_ok (show setW j (.val q fr2) s2 = .ok () (s2.set j (some (fr2, q))) by simp only [setW, setV, hj, if_true]),
    bnd_ok (show setW i (.val p fr) (s2.set j (some (fr2, q))) = .ok () ((s2.set j (some (fr2, q))).set i (some (fr, p))) by simp only [setW, setV, List.length_set, hi, if_true])]
  rfl
theorem ev_disp1 {s : SE} {f g : PM HF.Arg} {p q : PV} {fr fr2 : Bool} (hf : Ev f s p fr) (hg : Ev g s q fr2) (hk : kb p = true) : Ev (eDispN [(f, g)]) s (.dct 1 [(p, q)]) true := by
  unfold Ev eDispN
  have e : dispL2 [(f, g)] s = .ok [(p, q)] s := by
    unfold dispL2
    rw [bnd_ok hf, bnd_ok (show rel1 (.val p fr) s = .ok p s from rfl), bnd_ok hg, bnd_ok (show rel1 (.val q fr2) s = .ok q s from rfl)]
    rfl
  simp only [e, List.all_cons, hk, List.all_nil, Bool.and_self, List.length_singleton, Nat.reduceLeDiff, decide_true, if_true]
  rfl
theorem wu_round {n : Nat} {ts : List Mx} (h : TV n ts) {most : Nat} {b2 : Bool} {L F : List Pr} {x5 x6 x7 x8 x9 x10 : Option (Bool × PV)} (hL : ∀ p ∈ L, Good n ts p) (hLF : L.length ≤ 3000) (hF : (F ++ BF.new F (L.flatMap (BF.kids ts.length (KK n ts)))).length ≤ 3000) :
    ∃ x6' x7' x8' x9' x10', (sSeq (sSet 6 (eLst aNil))
  (sSeq (sFor (iVal (eVar 2)) (gTp 2 (gsCons (gNm 7) (gsCons (gNm 8) gsNil))) (sSeq (sFor (iVal (eOpN opRange (aCons (eOpN opLen (aCons (eVar 0) aNil)) aNil))) (gNm 9) (sSeq (sSet 10 (eCall (denOf 6 F_times_whole) (aCons (eOp2 opIx (eVar 0) (eVar 9)) (aCons (eVar 8) aNil))))
  (sSeq (sIf (tBool (eOp2 opNotIn (eVar 10) (eVar 3))) (sSeq (sAsg (eC (.bl true)) (gSubP 3 opSet (eVar 10)))
  (sSeq (sExpr (eMeth 6 opAppend (aCons (eTup (aCons (eOp2 opAdd (eVar 7) (eTup (aCons (eVar 9) aNil))) (aCons (eVar 10) aNil))) aNil)))
  sNext)) sNext)
  sNext)))
  sNext))
  (sSeq (sExpr (eMeth 4 opExtend (aCons (eVar 6) aNil)))
  (sSeq (sSet 2 (eVar 6))
  (sSeq (sIf (tBool (eOp2 opGt (eOpN opLen (aCons (eVar 4) aNil)) (eC (.int 3000)))) (sSeq (sRaise "InvalidTable")
  sNext) sNext)
  sNext))))) [some (false, eT ts), some (false, .int most), some (b2, eF L), some (true, eS vT F), some (true, eF F), x5, x6, x7, x8, x9, x10]
   = .ok .next [some (false, eT ts), some (false, .int most), some (false, eF (BF.new F (L.flatMap (BF.kids ts.length (KK n ts))))), some (true, eS vT (F ++ BF.new F (L.flatMap (BF.kids ts.length (KK n ts))))), some (true, eF (F ++ BF.new F (L.flatMap (BF.kids ts.length (KK n ts))))), x5, x6', x7', x8', x9', x10'] := by
  have h3 := h.l3
  have hF1 : F.length ≤ 3000 := by rw [List.length_append] at hF; omega
  obtain ⟨x7', x8', x9', x10', e⟩ := wu_level h (most := most) (b2 := false) (L := L) (F := F) (x5 := x5) (x7 := x7) (x8 := x8) (x9 := x9) (x10 := x10) hL (by
    have : L.length * ts.length ≤ 3000 * 3 := Nat.mul_le_mul hLF h3
    rw [sizeLine_eq]; omega)
  generalize hN : BF.new F (L.flatMap (BF.kids ts.length (KK n ts))) = N at e hF ⊢
  refine ⟨some (false, eF N), x7', x8', x9', x10', ?_⟩
  refine sq (s_set (ev_lst (ps := []) eva_nil (sl (by simp))) (by simp)) ?_
  refine sq (sf (ps := L.map eP) (s1 := SS ts most false L F [] x5 x7 x8 x9 x10) ?_ e) ?_
  · unfold SS
    rw [List.append_nil]
    cases b2 with
    | true => exact iv_own rfl
    | false => exact iv_lst (ev_var rfl)
  refine sq (s_ext (i := 4) (j := 6) (ps := F.map eP) (qs := N.map eP) (b := true) rfl rfl (by rw [List.length_map, List.length_map, sizeLine_eq]; rw [List.length_append] at hF; omega) (by decide)) ?_
  refine sq (s_set (p := eF N) (fr := false) (ev_var rfl) (by simp [SS])) ?_
  refine sq (sno (evt_bool (fr := false) (ev_op2 (ev_opN (o := opLen) (r := .int (F ++ N).length) (fr3 := false) (rda_cons (rd_var (i := 4) (b := true) (p := eF (F ++ N)) ?_) rda_nil) ?_).rd ev_c.rd ?_)) rfl) ?_
  · show some (some (true, PV.lst (F.map eP ++ N.map eP))) = _
    rw [eF, List.map_append]
  · show some (PV.int _, false) = _
    rw [List.length_map]
  · show some (PV.bl _, false) = _
    rw [decide_eq_false (by omega)]
  · show Rs.ok Fl.next _ = _
    unfold SS
    simp only [eF, List.map_append]
    rfl
theorem d_words {n : Nat} {ts : List Mx} (h : TV n ts) {most : Nat} (hm : most ≤ 10) (hc : ∀ j, j ≤ most → BF.cnt ts.length j ≤ 3000) : denOf 11 F_words_up_to [eT ts, .int most] = .ok (eF (BF.rnd ts.length (KK n ts) (idn n) most).1) true none := by
  have h3 := h.n3
  obtain ⟨_, c1⟩ := chain_le (s := st0 11 [eT ts, .int most]) (ev_c (p := .int 0)) (ev_var (i := 1) (p := .int most) rfl) (ev_c (p := .int 10))
  have t := evt_not (evt_bool c1)
  rw [show (!(decide ((0 : Int) ≤ most) && decide ((most : Int) ≤ 10))) = false by simp; omega] at t
  let RS (j : Nat) (b2 : Bool) (x5 x6 x7 x8 x9 x10 : Option (Bool × PV)) : SE := [some (false, eT ts), some (false, .int most), some (b2, eF (BF.rnd ts.length (KK n ts) (idn n) j).2), some (true, eS vT (BF.rnd ts.length (KK n ts) (idn n) j).1), some (true, eF (BF.rnd ts.length (KK n ts) (idn n) j).1), x5, x6, x7, x8, x9, x10]
  obtain ⟨s', h1, hjl, b2, x5, x6, x7, x8, x9, x10, e⟩ := for_relN (G := gNm 5) (F := (sSeq (sSet 6 (eLst aNil))
  (sSeq (sFor (iVal (eVar 2)) (gTp 2 (gsCons (gNm 7) (gsCons (gNm 8) gsNil))) (sSeq (sFor (iVal (eOpN opRange (aCons (eOpN opLen (aCons (eVar 0) aNil)) aNil))) (gNm 9) (sSeq (sSet 10 (eCall (denOf 6 F_times_whole) (aCons (eOp2 opIx (eVar 0) (eVar 9)) (aCons (eVar 8) aNil))))
  (sSeq (sIf (tBool (eOp2 opNotIn (eVar 10) (eVar 3))) (sSeq (sAsg (eC (.bl true)) (gSubP 3 opSet (eVar 10)))
  (sSeq (sExpr (eMeth 6 opAppend (aCons (eTup (aCons (eOp2 opAdd (eVar 7) (eTup (aCons (eVar 9) aNil))) (aCons (eVar 10) aNil))) aNil)))
  sNext)) sNext)
  sNext)))
  sNext))
  (sSeq (sExpr (eMeth 4 opExtend (aCons (eVar 6) aNil)))
  (sSeq (sSet 2 (eVar 6))
  (sSeq (sIf (tBool (eOp2 opGt (eOpN opLen (aCons (eVar 4) aNil)) (eC (.int 3000)))) (sSeq (sRaise "InvalidTable")
  sNext) sNext)
  sNext)))))) (enc := eI) (step := fun j _ => j + 1) (P := fun j c s => j + c = most ∧ ∃ b2 x5 x6 x7 x8 x9 x10, s = RS j b2 x5 x6 x7 x8 x9 x10)
    (List.range most) 0 0 (RS 0 true none none none none none none) (fun j k c s hk ⟨hl, b2, x5, x6, x7, x8, x9, x10, e⟩ => by
      subst e
      have hg := rnd_good h (j := j) (by omega)
      have hLF := (BF.rnd_T ts.length (KK n ts) (idn n) j).2
      obtain ⟨F0, hF0, _⟩ := (BF.rnd_all ts.length (KK n ts) (idn n) j).2
      have c1 := BF.rnd_cnt ts.length (KK n ts) (idn n) j
      have c2 := hc j (by omega)
      have c3 := BF.rnd_cnt ts.length (KK n ts) (idn n) (j + 1)
      have c4 := hc (j + 1) (by omega)
      have l1 : (BF.rnd ts.length (KK n ts) (idn n) j).2.length ≤ (BF.rnd ts.length (KK n ts) (idn n) j).1.length := by rw [hF0, List.length_append]; omega
      obtain ⟨x6', x7', x8', x9', x10', e⟩ := wu_round h (most := most) (b2 := b2) (L := (BF.rnd ts.length (KK n ts) (idn n) j).2) (F := (BF.rnd ts.length (KK n ts) (idn n) j).1) (x5 := some (false, eI k)) (x6 := x6) (x7 := x7) (x8 := x8) (x9 := x9) (x10 := x10) (fun p hp => hg p (hLF p hp)) (by omega) (Nat.le_trans c3 c4)
      exact ⟨_, g_nm (by simp [RS]), _, e, by omega, false, _, _, _, _, _, _, rfl⟩) ⟨by rw [List.length_range]; omega, true, none, none, none, none, none, none, rfl⟩
  have hj : (List.range most).foldl (fun j _ => j + 1) 0 = most := by
    have : ∀ (l : List Nat) (j : Nat), l.foldl (fun j _ => j + 1) j = j + l.length := fun l => by
      induction l with
      | nil => intro j; rfl
      | cons a l ih => intro j; rw [List.foldl_cons, ih, List.length_cons]; omega
    rw [this, List.length_range]; omega
  rw [hj] at e
  refine den_bor (i := 4) (s1 := s') ?_ (by rw [e]; rfl)
  unfold F_words_up_to
  refine sq (s_expr (ev_call (eva_cons (ev_var rfl) eva_nil) (d_check h))) (sq (sno t rfl) ?_)
  refine sq (s_set (ev_lst (ps := [eP ([], idn n)]) (eva_cons (ev_tup (ps := [eW [], eM (idn n)]) (eva_cons (ev_tup (ps := []) eva_nil (sl (by simp))) (eva_cons (ev_call (eva_cons (ev_var rfl) (eva_cons (ev_tup (ps := []) eva_nil (sl (by simp))) eva_nil)) (d_word_table h (w := []) (fun k hk => by cases hk) (by simp))) eva_nil)) (sl (by simp))) eva_nil) (sl (by simp))) (by simp [st0])) ?_
  refine sq (s_par (ev_disp1 (p := eM (idn n)) (q := .bl true) (ev_op2 (ev_op2 (p := eF [([], idn n)]) (q := .int 0) (r := eP ([], idn n)) (fr3 := false) (rd_var (i := 2) (b := true) rfl) ev_c.rd rfl).rd ev_c.rd rfl) ev_c (kb_M _)) (ev_opN (r := eF [([], idn n)]) (fr3 := true) (rda_cons (rd_var (i := 2) (b := true) rfl) rda_nil) rfl) (by simp [st0]) (by simp [st0])) ?_
  refine sq (sf (iv_rng (n := most) (ev_opN (rda_cons (rd_var (i := 1) rfl) rda_nil) rfl) (by omega)) h1) ?_
  rw [e]
  rfl
end G18
end

section
set_option Elab.async false
set_option linter.all false
set_option maxRecDepth 100000
set_option maxHeartbeats 1000000
set_option autoImplicit false
set_option exponentiation.threshold 2000
namespace G18
open PySem PySem.Spec PyProof.Rows HF
abbrev RD (n : Nat) (ts : List Mx) (j : Nat) : List Pr := (BF.rnd ts.length (KK n ts) (idn n) j).1
def opt (o : Option Pr) : PV := match o with
  | some p => eW p.1
  | none => .non
def CN (ts : List Mx) (most : Nat) : Prop := most ≤ 10 ∧ ∀ j, j ≤ most → BF.cnt ts.length j ≤ 3000
theorem d_nought {n : Nat} {ts : List Mx} (h : TV n ts) {most : Nat} (hc : CN ts most) : denOf 4 F_nought_word [eT ts, .int most] = .ok (opt ((RD n ts most).find? fun p => isZ p.2)) false none := by
  have h3 := h.n3
  have hg := rnd_good h (j := most) (by have := hc.1; omega)
  obtain ⟨s', _, e⟩ := for_ret (G := gTp 2 (gsCons (gNm 2) (gsCons (gNm 3) gsNil))) (F := (sSeq (sIf (tTru (eCall (denOf 2 F_is_nought) (aCons (eVar 3) aNil))) (sSeq (sRet (eVar 2))
  sNext) sNext)
  sNext)) (enc := eP) (r := fun p => .val (eW p.1) false) (c := fun p => isZ p.2) (P := fun s => ∃ x2 x3, s = [some (false, eT ts), some (false, .int most), x2, x3]) (RD n ts most) (st0 4 [eT ts, .int most]) (fun p s hp ⟨x2, x3, es⟩ => by
    subst es
    have g := hg p hp
    refine ⟨_, g_tp2 (by simp) (by simp), [some (false, eT ts), some (false, .int most), some (false, eW p.1), some (false, eM p.2)], ?_, _, _, rfl⟩
    have t := evt_tru (s := [some (false, eT ts), some (false, .int most), some (false, eW p.1), some (false, eM p.2)]) (Ev.rd (ev_call (eva_cons (ev_var (i := 3) rfl) eva_nil) (d_is_nought (by rw [g.sq.1]; omega)))) (b := isZ p.2) rfl
    show sSeq _ _ [some (false, eT ts), some (false, .int most), some (false, eW p.1), some (false, eM p.2)] = _
    cases hz : isZ p.2 with
    | true => rw [hz] at t; exact s_seq_ret (si t (fun _ => s_seq_ret (s_ret (ev_var rfl))) fun z => by cases z)
    | false => rw [hz] at t; exact sq (sno t rfl) rfl) ⟨none, none, rfl⟩
  have hI : iVal (eCall (denOf 11 F_words_up_to) (aCons (eVar 0) (aCons (eVar 1) aNil))) (st0 4 [eT ts, .int most]) = .ok ((RD n ts most).map eP) (st0 4 [eT ts, .int most]) := iv_lst (ev_call (eva_cons (ev_var rfl) (eva_cons (ev_var rfl) eva_nil)) (d_words h hc.1 hc.2))
  cases hf : (RD n ts most).find? fun p => isZ p.2 with
  | some p =>
    rw [hf] at e
    refine den_ret (s1 := s') ?_
    unfold F_nought_word
    exact s_seq_ret (sf hI e)
  | none =>
    rw [hf] at e
    refine den_ret (s1 := s') ?_
    unfold F_nought_word
    exact sq (sf hI e) (s_seq_ret (s_ret ev_c))
theorem d_growing {n : Nat} {ts : List Mx} (h : TV n ts) {most : Nat} (hc : CN ts most) : denOf 6 F_growing_word [eT ts, .int most] = .ok (opt ((RD n ts most).find? fun p => big n p.2)) false none := by
  have h3 := h.n3
  have hg := rnd_good h (j := most) (by have := hc.1; omega)
  have e0 : Ev (eOpN opLen (aCons (eOp2 opIx (eVar 0) (eC (.int 0))) aNil)) (st0 6 [eT ts, .int most]) (.int n) false :=
    len_M (ev_op2 (rd_var rfl) ev_c.rd h.first.1).rd h.first.2
  obtain ⟨s', _, e⟩ := for_ret (G := gTp 2 (gsCons (gNm 3) (gsCons (gNm 4) gsNil))) (F := (sSeq (sIf (tBool (eOp2 opGt (eOpN opAbs (aCons (eOpN opSum (aCons (eComp [5] (iOf (iVal (eOpN opRange (aCons (eVar 2) aNil)))) (gNm 5) (ret true) (eOp2 opIx (eOp2 opIx (eVar 4) (eVar 5)) (eVar 5))) aNil)) aNil)) (eVar 2))) (sSeq (sRet (eVar 3))
  sNext) sNext)
  sNext)) (enc := eP) (r := fun p => .val (eW p.1) false) (c := fun p => big n p.2) (P := fun s => ∃ x3 x4, s = [some (false, eT ts), some (false, .int most), some (false, .int n), x3, x4, none]) (RD n ts most) [some (false, eT ts), some (false, .int most), some (false, .int n), none, none, none] (fun p s hp ⟨x2, x3, es⟩ => by
    subst es
    have g := hg p hp
    refine ⟨_, g_tp2 (by simp) (by simp), [some (false, eT ts), some (false, .int most), some (false, .int n), some (false, eW p.1), some (false, eM p.2), none], ?_, _, _, rfl⟩
    have t := evt_bool (b := big n p.2) (fr := false) (ev_op2 (o := opGt) (p := .int (tr n p.2).natAbs) (q := .int n) (Ev.rd (ev_tr (f := eVar 4) (i := 5) (s := [some (false, eT ts), some (false, .int most), some (false, .int n), some (false, eW p.1), some (false, eM p.2), none]) g.sq (by omega) (iv_rng (f := eOpN opRange (aCons (eVar 2) aNil)) (ev_opN (rda_cons (rd_var (i := 2) rfl) rda_nil) rfl) (by omega)) (fun x => rd_var (b := false) rfl) (by simp))) (rd_var (i := 2) rfl) rfl)
    show sSeq _ _ [some (false, eT ts), some (false, .int most), some (false, .int n), some (false, eW p.1), some (false, eM p.2), none] = _
    cases hz : big n p.2 with
    | true => rw [hz] at t; exact s_seq_ret (si t (fun _ => s_seq_ret (s_ret (ev_var rfl))) fun z => by cases z)
    | false => rw [hz] at t; exact sq (sno t rfl) rfl) ⟨none, none, rfl⟩
  have hI : iVal (eCall (denOf 11 F_words_up_to) (aCons (eVar 0) (aCons (eVar 1) aNil))) [some (false, eT ts), some (false, .int most), some (false, .int n), none, none, none] = .ok ((RD n ts most).map eP) [some (false, eT ts), some (false, .int most), some (false, .int n), none, none, none] := iv_lst (ev_call (eva_cons (ev_var rfl) (eva_cons (ev_var rfl) eva_nil)) (d_words h hc.1 hc.2))
  cases hf : (RD n ts most).find? fun p => big n p.2 with
  | some p =>
    rw [hf] at e
    refine den_ret (s1 := s') ?_
    unfold F_growing_word
    exact sq (s_set e0 (by simp [st0])) (s_seq_ret (sf hI e))
  | none =>
    rw [hf] at e
    refine den_ret (s1 := s') ?_
    unfold F_growing_word
    exact sq (s_set e0 (by simp [st0])) (sq (sf hI e) (s_seq_ret (s_ret ev_c)))
theorem d_closes {n : Nat} {ts : List Mx} (h : TV n ts) {most : Nat} (hc : CN ts (most + 1)) : denOf 3 F_closes_in [eT ts, .int most] = .ok (if (RD n ts most).length < (RD n ts (most + 1)).length then .non else .int (RD n ts most).length) false none := by
  have d1 := d_words h (most := most) (by have := hc.1; omega) (fun j hj => hc.2 j (by omega))
  have d2 := d_words h (most := most + 1) hc.1 hc.2
  have lenF : ∀ F : List Pr, opLen [eF F] = some (.int F.length, false) := fun F => by
    show some (PV.int _, false) = _
    rw [List.length_map]
  refine den_ret (s1 := [some (false, eT ts), some (false, .int most), some (false, .int (RD n ts most).length)]) ?_
  unfold F_closes_in
  refine sq (s_set (ev_opN (rda_cons (Ev.rd (ev_call (eva_cons (ev_var rfl) (eva_cons (ev_var rfl) eva_nil)) d1)) rda_nil) (lenF _)) (by simp [st0])) (s_seq_ret (s_ret (ev_if (b := decide ((RD n ts most).length < (RD n ts (most + 1)).length)) ?_ (fun hb => ?_) fun hb => ?_)))
  · have e := evt_bool (fr := false) (ev_op2 (o := opLt) (s := [some (false, eT ts), some (false, .int most), some (false, .int (RD n ts most).length)]) (rd_var (i := 2) rfl) (Ev.rd (ev_opN (rda_cons (Ev.rd (ev_call (eva_cons (ev_var (i := 0) rfl) (eva_cons (ev_op2 (o := opAdd) (p := .int most) (q := .int 1) (r := .int (most + 1 : Nat)) (fr3 := false) (rd_var (i := 1) rfl) ev_c.rd rfl) eva_nil)) d2)) rda_nil) (lenF _))) rfl)
    have hd : decide (((RD n ts most).length : Int) < ((RD n ts (most + 1)).length : Int)) = decide ((RD n ts most).length < (RD n ts (most + 1)).length) := by simp only [Int.ofNat_lt]
    rw [← hd]
    exact e
  · rw [if_pos (by simpa using hb)]; exact ev_c
  · rw [if_neg (by simpa using hb)]; exact ev_var rfl
/-! ### widest -/
def wid (m : Mx) : Int := maxI (m.map fun r => (r.map fun a => ((a.natAbs : Nat) : Int)).sum)
theorem maxI_mem {a b : List Int} (ha : a ≠ []) (h : ∀ x, x ∈ a ↔ x ∈ b) : maxI a = maxI b := by
  have hb : b ≠ [] := by
    obtain ⟨x, hx⟩ := List.exists_mem_of_ne_nil a ha
    exact List.ne_nil_of_mem ((h x).mp hx)
  have ⟨a1, a2⟩ := maxI_of a ha
  have ⟨b1, b2⟩ := maxI_of b hb
  have := a2 _ ((h _).mpr b1)
  have := b2 _ ((h _).mp a1)
  omega
theorem abs_i (a : Int) : (if a < 0 then -a else a) = ((a.natAbs : Nat) : Int) := by split <;> omega
theorem max_ints {α : Type} {xs : List α} {g : α → Int} (h : xs ≠ []) : opMax [.lst (xs.map fun x => .int (g x))] = some (.int (maxI (xs.map g)), false) := by
  show ((intsOf (xs.map fun x => .int (g x))).bind fun ns => if ns.isEmpty then none else sI (maxI ns)) = _
  rw [show (xs.map fun x => PV.int (g x)) = (xs.map g).map PV.int by simp, intsOf_map, Option.bind_some]
  rw [if_neg (by simpa using h)]
/-- max of the sums of a table's lines; slots i, j -/
theorem ev_wid {n : Nat} {m : Mx} (hm : Sq n m) (hn : n ≤ 100) (h1 : 1 ≤ n) {s : SE} {i j : Nat} {I : PM (List PV)} (hI : I s = .ok (m.map eR) s) (hi : i < s.length) (hj : j < s.length) (hij : j ≠ i) :
    Ev (eOpN opMax (aCons (eComp [i] (iOf I) (gNm i) (ret true) (eOpN opSum (aCons (eComp [j] (iOf (iVal (eVar i))) (gNm j) (ret true) (eOpN opAbs (aCons (eVar j) aNil))) aNil))) aNil)) s (.int (wid m)) false := by
  have hne : m ≠ [] := by intro e; rw [e] at hm; have := hm.1; simp at this; omega
  refine ev_opN (rda_cons (Ev.rd (ev_compX m eR (fun r => .int (r.map fun a => ((a.natAbs : Nat) : Int)).sum) hI (by rw [hm.1, sizeLine_eq]; omega) hi fun r hr => ⟨false, ?_⟩)) rda_nil) (max_ints hne)
  have e : (s.set i (some (false, eR r)))[i]? = some (some (false, eR r)) := List.getElem?_set_self hi
  refine ev_opN (rda_cons (Ev.rd (ev_compX r PV.int (fun a => .int ((a.natAbs : Nat) : Int)) (iv_tup (ev_var e)) (by rw [hm.2 r hr, sizeLine_eq]; omega) (by rw [List.length_set]; exact hj) fun a ha => ⟨false, ?_⟩)) rda_nil) ?_
  · refine ev_opN (rda_cons (rd_var (b := false) (List.getElem?_set_self (by rw [List.length_set]; exact hj))) rda_nil) ?_
    show some (PV.int _, false) = _
    rw [abs_i]
  · show (intsOf _).map _ = _
    rw [show r.map (fun a => PV.int ((a.natAbs : Nat) : Int)) = (r.map fun a => ((a.natAbs : Nat) : Int)).map PV.int by simp, intsOf_map]
    rfl
theorem alike_R : ∀ (a b : List Int), PySem.W.alikeAll (toDs (a.map PV.int)) (toDs (b.map PV.int)) = true
  | [], _ => by simp [toDs, PySem.W.alikeAll]
  | _ :: _, [] => by simp [toDs, PySem.W.alikeAll]
  | x :: a, y :: b => by
    rw [List.map_cons, List.map_cons, toDs, toDs, PySem.W.alikeAll, alike_R a b]
    rfl
theorem alike_Ms : ∀ (a b : Mx), PySem.W.alikeAll (toDs (a.map eR)) (toDs (b.map eR)) = true
  | [], _ => by simp [toDs, PySem.W.alikeAll]
  | _ :: _, [] => by simp [toDs, PySem.W.alikeAll]
  | x :: a, y :: b => by
    rw [List.map_cons, List.map_cons, toDs, toDs, PySem.W.alikeAll, alike_Ms a b, Bool.and_true]
    show PySem.W.alikeAll (toDs (x.map PV.int)) (toDs (y.map PV.int)) = true
    exact alike_R x y
theorem map_of {l : List PV} (h : ∀ p ∈ l, ∃ m, p = eM m) : ∃ L : List Mx, l = L.map eM := by
  induction l with
  | nil => exact ⟨[], rfl⟩
  | cons p l ih =>
    obtain ⟨m, e⟩ := h p List.mem_cons_self
    obtain ⟨L, e2⟩ := ih fun q hq => h q (List.mem_cons_of_mem _ hq)
    exact ⟨m :: L, by rw [e, e2]; rfl⟩
theorem srt_S {F : List Pr} (hne : ∀ p ∈ F, p.2 ≠ []) : ∃ L : List Mx, opSrt [eS vT F] = some (.lst (L.map eM), true) ∧ (∀ m, m ∈ L ↔ ∃ p ∈ F, p.2 = m) ∧ L.length = F.length := by
  have c1 : (F.map fun p => (eM p.2, PV.bl true)).all (fun e => kb e.1) = true := kbs_S vT F
  have c2 : (F.map fun p => (eM p.2, PV.bl true)).all (fun e => (F.map fun p => (eM p.2, PV.bl true)).all fun f => PySem.W.alike (toD e.1) (toD f.1)) = true := by
    rw [List.all_eq_true]
    intro e he
    rw [List.all_eq_true]
    intro f hf
    obtain ⟨p, _, rfl⟩ := List.mem_map.mp he
    obtain ⟨q, _, rfl⟩ := List.mem_map.mp hf
    exact alike_Ms _ _
  have c3 : (F.map fun p => (eM p.2, PV.bl true)).all (fun e => neTup (toD e.1)) = true := by
    rw [List.all_eq_true]
    intro e he
    obtain ⟨p, hp, rfl⟩ := List.mem_map.mp he
    have := hne p hp
    cases hm : p.2 with
    | nil => exact absurd hm this
    | cons r m => simp only [hm]; rfl
  have pm := List.mergeSort_perm ((F.map fun p => (eM p.2, PV.bl true)).map (·.1)) (PySem.W.dataLe false toD)
  rw [List.map_map] at pm
  obtain ⟨L, eL⟩ := map_of (l := ((F.map fun p => (eM p.2, PV.bl true)).map (·.1)).mergeSort (PySem.W.dataLe false toD)) fun p hp => by
    rw [List.map_map] at hp
    obtain ⟨q, _, e⟩ := List.mem_map.mp (pm.mem_iff.mp hp)
    exact ⟨q.2, e.symm⟩
  refine ⟨L, ?_, fun m => ?_, ?_⟩
  · show (if _ && _ && _ then some (PV.lst _, true) else none) = _
    rw [c1, c2, c3, ← eL]
    rfl
  · rw [List.map_map] at eL
    constructor
    · intro hm
      have h1 : eM m ∈ L.map eM := List.mem_map.mpr ⟨m, hm, rfl⟩
      rw [← eL] at h1
      obtain ⟨q, hq, e⟩ := List.mem_map.mp (pm.mem_iff.mp h1)
      exact ⟨q, hq, eM_inj e⟩
    · rintro ⟨q, hq, rfl⟩
      have h1 := pm.mem_iff.mpr (List.mem_map.mpr ⟨q, hq, rfl⟩)
      rw [eL] at h1
      obtain ⟨m, hm, e⟩ := List.mem_map.mp h1
      rw [← eM_inj (show eM m = eM q.2 from e)]
      exact hm
  · have := pm.length_eq
    rw [List.map_map] at eL
    rw [eL, List.length_map, List.length_map] at this
    exact this
end G18
end

section
set_option Elab.async false
set_option linter.all false
set_option maxRecDepth 100000
set_option maxHeartbeats 1000000
set_option autoImplicit false
set_option exponentiation.threshold 2000
namespace G18
open PySem PySem.Spec PyProof.Rows HF
theorem set_step {D : List Pr} {t : Mx} (hl : D.length < sizeLine) : opSet (eS vT D) (eM t) (.bl true) = some (eS vT (BF.stepG [] D ([], t))) := by
  unfold BF.stepG
  rw [List.nil_append]
  cases hh : BF.has D t with
  | false =>
    rw [if_neg (by simp)]
    exact set_S vT (p := ([], t)) hh hl
  | true =>
    rw [if_pos rfl]
    show (if kb (eM t) && (D.map fun p => (eM p.2, PV.bl true)).all (fun e => kb e.1) && decide ((D.map fun p => (eM p.2, PV.bl true)).length < sizeLine) then some (PV.dct 1 (dPut (D.map fun p => (eM p.2, PV.bl true)) (eM t) (.bl true))) else none) = _
    rw [kb_M, kbs_S vT D, List.length_map, decide_eq_true hl]
    have e := get_S vT D t
    rw [hh] at e
    obtain ⟨x, ex⟩ := Option.isSome_iff_exists.mp e
    have ex : dGet (D.map fun p => (eM p.2, PV.bl true)) (eM t) = some x := ex
    unfold dPut
    rw [ex]
    show some (PV.dct 1 ((D.map fun p => (eM p.2, PV.bl true)).map fun e => if peq e.1 (eM t) = true then (e.1, .bl true) else e)) = some (PV.dct 1 (D.map fun p => (eM p.2, PV.bl true)))
    rw [List.map_map]
    congr 2
    refine List.map_congr_left fun p _ => ?_
    show (if peq (eM p.2) (eM t) = true then (eM p.2, PV.bl true) else (eM p.2, PV.bl true)) = _
    split <;> rfl
def WS (ts : List Mx) (len : Nat) (b : Bool) (L : List Mx) (x3 x4 x5 : Option (Bool × PV)) : SE := [some (false, eT ts), some (false, .int len), some (b, .lst (L.map eM)), x3, x4, x5, none, none]
theorem dc_in {n : Nat} {ts : List Mx} (h : TV n ts) {len : Nat} {b : Bool} {L : List Mx} {x3 : Option (Bool × PV)} {r : Mx} (sr : Sq n r) (br : Small r) : ∀ (us : List Mx) (D : List Pr), (∀ t ∈ us, t ∈ ts) → D.length + us.length < sizeLine →
    dcIn [5] (gNm 5) (ret true) (eCall (denOf 6 F_times_whole) (aCons (eVar 5) (aCons (eVar 4) aNil))) (eC (.bl true)) (us.map eM) (eS vT D) (WS ts len b L x3 (some (false, eM r)) none) = .ok (eS vT (us.foldl (fun D t => BF.stepG [] D ([], mul n t r)) D)) (WS ts len b L x3 (some (false, eM r)) none)
  | [], D, _, _ => rfl
  | t :: us, D, hu, hl => by
    have h3 := h.n3
    have ht := hu t List.mem_cons_self
    obtain ⟨k, hk, e⟩ := List.mem_iff_getElem.mp ht
    have ⟨a1, a2, a3⟩ := h.at hk
    rw [getD_at hk, e] at a2 a3
    rw [List.length_cons] at hl
    have hl2 : (BF.stepG [] D ([], mul n t r)).length ≤ D.length + 1 := by
      unfold BF.stepG
      split
      · omega
      · simp
    rw [List.map_cons, List.foldl_cons]
    unfold dcIn
    rw [bnd_ok (show nx (gNm 5 (eM t)) (WS ts len b L x3 (some (false, eM r)) none) = .ok () (WS ts len b L x3 (some (false, eM r)) (some (false, eM t))) from rfl)]
    rw [bnd_ok (show ret true _ = .ok true _ from rfl), if_pos rfl]
    rw [bnd_ok (show eCall (denOf 6 F_times_whole) (aCons (eVar 5) (aCons (eVar 4) aNil)) (WS ts len b L x3 (some (false, eM r)) (some (false, eM t))) = .ok (.val (eM (mul n t r)) false) (WS ts len b L x3 (some (false, eM r)) (some (false, eM t))) from ev_call (eva_cons (ev_var rfl) (eva_cons (ev_var rfl) eva_nil)) (d_times_whole (by omega) a2 sr (a3.small (by decide)) br))]
    rw [bnd_ok (show rel1 (Arg.val (eM (mul n t r)) false) _ = .ok (eM (mul n t r)) _ from rfl), bnd_ok (show eC (.bl true) _ = .ok (.val (.bl true) false) _ from rfl), bnd_ok (show rel1 (Arg.val (.bl true) false) _ = .ok (.bl true) _ from rfl)]
    rw [set_step (by omega)]
    show bnd (wp [5]) _ _ = _
    rw [bnd_ok (show wp [5] (WS ts len b L x3 (some (false, eM r)) (some (false, eM t))) = .ok () (WS ts len b L x3 (some (false, eM r)) none) from rfl)]
    exact dc_in h sr br us _ (fun t ht => hu t (List.mem_cons_of_mem _ ht)) (by omega)
def ks (n : Nat) (ts : List Mx) (r : Mx) : List Pr := ts.map fun t => ([], mul n t r)
theorem dc_out {n : Nat} {ts : List Mx} (h : TV n ts) {len : Nat} {b : Bool} {L : List Mx} {x3 : Option (Bool × PV)} : ∀ (rs : List Mx) (D : List Pr), (∀ r ∈ rs, Sq n r ∧ Small r) → D.length + rs.length * ts.length + ts.length < sizeLine →
    dcOut [4, 5] [5] (gNm 4) (ret true) (iVal (eVar 0)) (gNm 5) (ret true) (eCall (denOf 6 F_times_whole) (aCons (eVar 5) (aCons (eVar 4) aNil))) (eC (.bl true)) (rs.map eM) (eS vT D) (WS ts len b L x3 none none) = .ok (eS vT ((rs.flatMap (ks n ts)).foldl (BF.stepG []) D)) (WS ts len b L x3 none none)
  | [], D, _, _ => rfl
  | r :: rs, D, hr, hl => by
    obtain ⟨sr, br⟩ := hr r List.mem_cons_self
    rw [List.length_cons, Nat.succ_mul] at hl
    rw [List.map_cons, List.flatMap_cons, List.foldl_append]
    unfold dcOut
    rw [bnd_ok (show nx (gNm 4 (eM r)) (WS ts len b L x3 none none) = .ok () (WS ts len b L x3 (some (false, eM r)) none) from rfl)]
    rw [bnd_ok (show ret true _ = .ok true _ from rfl), if_pos rfl]
    rw [bnd_ok (show iVal (eVar 0) (WS ts len b L x3 (some (false, eM r)) none) = .ok (ts.map eM) (WS ts len b L x3 (some (false, eM r)) none) from iv_tup (ev_var rfl))]
    rw [bnd_ok (show wp [5] (WS ts len b L x3 (some (false, eM r)) none) = .ok () (WS ts len b L x3 (some (false, eM r)) none) from rfl)]
    rw [bnd_ok (dc_in h sr br ts D (fun t ht => ht) (by omega))]
    rw [bnd_ok (show wp [4, 5] (WS ts len b L x3 (some (false, eM r)) none) = .ok () (WS ts len b L x3 none none) from rfl)]
    have e : (ks n ts r).foldl (BF.stepG []) D = ts.foldl (fun D t => BF.stepG [] D ([], mul n t r)) D := by rw [ks, List.foldl_map]
    rw [e]
    refine dc_out h rs _ (fun r hr' => hr r (List.mem_cons_of_mem _ hr')) ?_
    have := BF.fold_new [] (ks n ts r) D
    rw [e] at this
    have h2 := BF.new_len (ks n ts r) ([] ++ D)
    rw [this, List.length_append]
    rw [show (ks n ts r).length = ts.length by simp [ks]] at h2
    omega
/-- all products of a length -/
def AL (n : Nat) (ts : List Mx) (j : Nat) : List Pr := BF.all ts.length (KK n ts) (idn n) j
theorem al_ok {n : Nat} {ts : List Mx} : ∀ j, ∀ p ∈ AL n ts j, p.2 = wT n ts (idn n) p.1 ∧ (∀ k ∈ p.1, k < ts.length) ∧ p.1.length = j
  | 0, p, hp => by rw [List.mem_singleton.mp hp]; exact ⟨rfl, fun k h => (List.not_mem_nil h).elim, rfl⟩
  | j + 1, p, hp => by
    obtain ⟨q, hq, hp⟩ := List.mem_flatMap.mp hp
    obtain ⟨k, hk, rfl⟩ := List.mem_map.mp hp
    obtain ⟨a, b, c⟩ := al_ok j q hq
    refine ⟨?_, fun i hi => ?_, by rw [List.length_append, c]; rfl⟩
    · show KK n ts k q.2 = wT n ts (idn n) (q.1 ++ [k])
      rw [a, wT, wT, List.foldl_append]
      rfl
    · rcases List.mem_append.mp hi with hi | hi
      · exact b i hi
      · rw [List.mem_singleton.mp hi]; exact List.mem_range.mp hk
theorem al_sq {n : Nat} {ts : List Mx} (h : TV n ts) {j : Nat} (hj : j ≤ 100) : ∀ p ∈ AL n ts j, Sq n p.2 ∧ Small p.2 := fun p hp => by
  obtain ⟨a, b, c⟩ := al_ok j p hp
  obtain ⟨d, e⟩ := wT_ok h p.1 (idn n) 0 b sq_id bd_id
  rw [← a] at d e
  exact ⟨d, e.small (b27 (by omega))⟩
theorem new_mem (ps : List Pr) (m : Mx) : (∃ p ∈ BF.new [] ps, p.2 = m) ↔ ∃ p ∈ ps, p.2 = m := by
  constructor
  · rintro ⟨p, hp, e⟩
    exact ⟨p, BF.new_sub _ _ p hp, e⟩
  · rintro ⟨p, hp, e⟩
    have := BF.has_new ps [] p hp
    rw [List.nil_append, BF.has, List.any_eq_true] at this
    obtain ⟨q, hq, e2⟩ := this
    exact ⟨q, hq, by rw [← e]; simpa using e2⟩
theorem d_widest {n : Nat} {ts : List Mx} (h : TV n ts) {len : Nat} (hl : len ≤ 6) : denOf 8 F_widest [eT ts, .int len] = .ok (.int (maxI ((AL n ts len).map fun p => wid p.2))) false none := by
  have h3 := h.n3
  have hl3 := h.l3
  obtain ⟨_, c1⟩ := chain_le (s := st0 8 [eT ts, .int len]) (ev_c (p := .int 0)) (ev_var (i := 1) (p := .int len) rfl) (ev_c (p := .int 6))
  have t := evt_not (evt_bool c1)
  rw [show (!(decide ((0 : Int) ≤ len) && decide ((len : Int) ≤ 6))) = false by simp; omega] at t
  obtain ⟨s', h1, j, hj, L, b, x3, hs, hm, hlen⟩ := for_relN (G := gNm 3) (F := (sSeq (sSet 2 (eOpN opSrt (aCons (eDc2 1 [4, 5] [5] (iVal (eVar 2)) (gNm 4) (ret true) (iVal (eVar 0)) (gNm 5) (ret true) (eCall (denOf 6 F_times_whole) (aCons (eVar 5) (aCons (eVar 4) aNil))) (eC (.bl true))) aNil)))
  sNext)) (enc := eI) (step := fun _ _ => ()) (P := fun (_ : Unit) c s => ∃ j, j + c = len ∧ ∃ L b x3, s = WS ts len b L x3 none none ∧ (∀ m, m ∈ L ↔ ∃ p ∈ AL n ts j, p.2 = m) ∧ L.length ≤ 3 ^ j)
    (List.range len) () 0 (WS ts len true [idn n] none none none) (fun _ k c s hk ⟨j, hj, L, b, x3, hs, hm, hlen⟩ => by
      subst hs
      have hp : 3 ^ j ≤ 3 ^ 6 := Nat.pow_le_pow_right (by decide) (by omega)
      have hpp : L.length * ts.length ≤ 3 ^ 6 * 3 := Nat.mul_le_mul (Nat.le_trans hlen hp) hl3
      have hL : ∀ r ∈ L, Sq n r ∧ Small r := fun r hr => by
        obtain ⟨p, hp, e⟩ := (hm r).mp hr
        rw [← e]
        exact al_sq h (j := j) (by omega) p hp
      have hD := dc_out h (len := len) (b := false) (L := L) (x3 := some (false, eI k)) L [] hL (by rw [sizeLine_eq]; simp only [List.length_nil]; omega)
      rw [BF.fold_new, List.nil_append, List.nil_append] at hD
      have hnew : ∀ p ∈ BF.new [] (L.flatMap (ks n ts)), p.2 ≠ [] := fun p hp e => by
        obtain ⟨r, hr, hp⟩ := List.mem_flatMap.mp (BF.new_sub _ _ p hp)
        obtain ⟨t, ht, rfl⟩ := List.mem_map.mp hp
        have e : mul n t r = [] := e
        have := (sq_mul (n := n) (a := t) (b := r)).1
        rw [e] at this
        have := h.n1
        simp at *
        omega
      obtain ⟨L', e1, e2, e3⟩ := srt_S hnew
      refine ⟨_, g_nm (by simp [WS]), WS ts len true L' (some (false, eI k)) none none, ?_, j + 1, by omega, L', true, _, rfl, fun m => ?_, ?_⟩
      · have eD : EvS (eDc2 1 [4, 5] [5] (iVal (eVar 2)) (gNm 4) (ret true) (iVal (eVar 0)) (gNm 5) (ret true) (eCall (denOf 6 F_times_whole) (aCons (eVar 5) (aCons (eVar 4) aNil))) (eC (.bl true))) (WS ts len b L (some (false, eI k)) none none) (eS vT (BF.new [] (L.flatMap (ks n ts)))) true (WS ts len false L (some (false, eI k)) none none) := by
          unfold EvS eDc2
          have eI : iVal (eVar 2) (WS ts len b L (some (false, eI k)) none none) = .ok (L.map eM) (WS ts len false L (some (false, eI k)) none none) := by
            cases b with
            | true => exact iv_own rfl
            | false => exact iv_lst (ev_var rfl)
          rw [bnd_ok eI]
          have : dcOut [4, 5] [5] (gNm 4) (ret true) (iVal (eVar 0)) (gNm 5) (ret true) (eCall (denOf 6 F_times_whole) (aCons (eVar 5) (aCons (eVar 4) aNil))) (eC (.bl true)) (L.map eM) (.dct 1 []) (wipeS (WS ts len false L (some (false, HF.eI k)) none none) [4, 5]) = .ok (eS vT (BF.new [] (L.flatMap (ks n ts)))) (WS ts len false L (some (false, HF.eI k)) none none) := hD
          simp only [this]
          rfl
        refine sq (s_setS (s1 := WS ts len false L (some (false, eI k)) none none) (p := .lst (L'.map eM)) (fr := true) ?_ (by simp [WS])) rfl
        exact evs_opN1 eD e1
      · rw [e2, new_mem]
        constructor
        · rintro ⟨p, hp, e⟩
          obtain ⟨r, hr, hp⟩ := List.mem_flatMap.mp hp
          obtain ⟨t, ht, rfl⟩ := List.mem_map.mp hp
          obtain ⟨q, hq, er⟩ := (hm r).mp hr
          obtain ⟨i, hi, ei⟩ := List.mem_iff_getElem.mp ht
          refine ⟨(q.1 ++ [i], KK n ts i q.2), List.mem_flatMap.mpr ⟨q, hq, List.mem_map.mpr ⟨i, List.mem_range.mpr hi, rfl⟩⟩, ?_⟩
          show mul n (ts.getD i []) q.2 = m
          rw [getD_at hi, ei, er]
          exact e
        · rintro ⟨p, hp, e⟩
          obtain ⟨q, hq, hp⟩ := List.mem_flatMap.mp hp
          obtain ⟨i, hi, rfl⟩ := List.mem_map.mp hp
          have hi := List.mem_range.mp hi
          refine ⟨([], mul n (ts.getD i []) q.2), List.mem_flatMap.mpr ⟨q.2, (hm _).mpr ⟨q, hq, rfl⟩, List.mem_map.mpr ⟨ts.getD i [], ?_, rfl⟩⟩, e⟩
          rw [getD_at hi]
          exact List.getElem_mem hi
      · rw [e3]
        have h1 := BF.new_len (L.flatMap (ks n ts)) []
        have h2 : ∀ l : List Mx, (l.flatMap (ks n ts)).length = l.length * ts.length := fun l => by
          induction l with
          | nil => simp
          | cons p l ih => rw [List.flatMap_cons, List.length_append, ih, List.length_cons, Nat.succ_mul, ks, List.length_map, Nat.add_comm]
        rw [h2] at h1
        have := Nat.mul_le_mul hlen hl3
        rw [Nat.pow_succ]
        omega) ⟨0, by rw [List.length_range]; omega, [idn n], true, none, rfl, fun m => by
          rw [List.mem_singleton]
          constructor
          · intro e; exact ⟨([], idn n), List.mem_singleton.mpr rfl, e.symm⟩
          · rintro ⟨p, hp, e⟩
            rw [List.mem_singleton.mp hp] at e
            exact e.symm, by simp⟩
  have hj : j = len := by omega
  subst hj
  subst hs
  have hp : 3 ^ j ≤ 3 ^ 6 := Nat.pow_le_pow_right (by decide) (by omega)
  have hL : ∀ r ∈ L, Sq n r ∧ Small r := fun r hr => by
    obtain ⟨p, hp, e⟩ := (hm r).mp hr
    rw [← e]
    exact al_sq h (j := j) (by omega) p hp
  have hal : ∀ j, AL n ts j ≠ [] := fun j e => by
    have := BF.all_len ts.length (KK n ts) (idn n) j
    rw [show BF.all ts.length (KK n ts) (idn n) j = [] from e] at this
    have h0 : 0 < ts.length ^ j := Nat.pow_pos h.l1
    rw [List.length_nil] at this
    omega
  have hne : L ≠ [] := by
    obtain ⟨p, hp⟩ := List.exists_mem_of_ne_nil _ (hal j)
    exact List.ne_nil_of_mem ((hm _).mpr ⟨p, hp, rfl⟩)
  have emax : maxI ((AL n ts j).map fun p => wid p.2) = maxI (L.map wid) := maxI_mem (by simpa using hal j) fun x => by
    rw [List.mem_map, List.mem_map]
    constructor
    · rintro ⟨p, hp, e⟩
      exact ⟨p.2, (hm _).mpr ⟨p, hp, rfl⟩, e⟩
    · rintro ⟨m, hm1, e⟩
      obtain ⟨p, hp, ep⟩ := (hm m).mp hm1
      exact ⟨p, hp, by rw [ep]; exact e⟩
  rw [emax]
  refine den_ret (s1 := WS ts j false L x3 none none) ?_
  unfold F_widest
  refine sq (s_expr (ev_call (eva_cons (ev_var rfl) eva_nil) (d_check h))) (sq (sno t rfl) ?_)
  refine sq (s_set (ev_lst (ps := [eM (idn n)]) (eva_cons (ev_call (eva_cons (ev_var rfl) (eva_cons (ev_tup (ps := []) eva_nil (sl (by simp))) eva_nil)) (d_word_table h (w := []) (fun k hk => by cases hk) (by simp))) eva_nil) (sl (by simp))) (by simp [st0])) ?_
  refine sq (sf (s1 := WS ts j true [idn n] none none none) (iv_rng (n := j) (ev_opN (rda_cons (rd_var (i := 1) rfl) rda_nil) rfl) (by omega)) h1) ?_
  refine s_seq_ret ?_
  have hc : L.length ≤ sizeLine := by rw [sizeLine_eq]; omega
  refine s_retS (evs_opN1 (evs_compX L eM (fun m => .int (wid m)) (s1 := WS ts j false L x3 none none) ?_ hc (by simp [WS]) fun m hm => ⟨false, ev_wid (hL m hm).1 (by omega) h.n1 (i := 6) (j := 7) (iv_tup (ps := m.map eR) (ev_var rfl)) (by simp [WS]) (by simp [WS]) (by decide)⟩) (max_ints hne))
  cases b with
  | true => exact iv_own rfl
  | false => exact iv_lst (ev_var rfl)
end G18
end

section
set_option Elab.async false
set_option linter.all false
set_option maxRecDepth 100000
set_option maxHeartbeats 1000000
set_option autoImplicit false
set_option exponentiation.threshold 2000
namespace G18
open PySem PySem.Spec PyProof.Rows HF
/-! ### _law_words -/
def wds (m : Nat) : Nat → List (List Nat)
  | 0 => [[]]
  | j + 1 => (wds m j).flatMap fun w => (List.range m).map fun k => w ++ [k]
theorem wds_len (m : Nat) : ∀ j, (wds m j).length = m ^ j
  | 0 => rfl
  | j + 1 => by
    have : ∀ l : List (List Nat), (l.flatMap fun w => (List.range m).map fun k => w ++ [k]).length = l.length * m := fun l => by
      induction l with
      | nil => simp
      | cons p l ih => rw [List.flatMap_cons, List.length_append, ih, List.length_cons, Nat.succ_mul, List.length_map, List.length_range, Nat.add_comm]
    rw [wds, this, wds_len m j, Nat.pow_succ]
theorem wds_mem (m : Nat) : ∀ j, ∀ w ∈ wds m j, w.length = j ∧ ∀ k ∈ w, k < m
  | 0, w, hw => by rw [List.mem_singleton.mp hw]; exact ⟨rfl, fun k h => (List.not_mem_nil h).elim⟩
  | j + 1, w, hw => by
    obtain ⟨v, hv, hw⟩ := List.mem_flatMap.mp hw
    obtain ⟨k, hk, rfl⟩ := List.mem_map.mp hw
    obtain ⟨a, b⟩ := wds_mem m j v hv
    refine ⟨by rw [List.length_append, a]; rfl, fun i hi => ?_⟩
    rcases List.mem_append.mp hi with hi | hi
    · exact b i hi
    · rw [List.mem_singleton.mp hi]; exact List.mem_range.mp hk
theorem al_wds {n : Nat} {ts : List Mx} : ∀ j, AL n ts j = (wds ts.length j).map fun w => (w, wT n ts (idn n) w)
  | 0 => rfl
  | j + 1 => by
    show (AL n ts j).flatMap (BF.kids ts.length (KK n ts)) = _
    rw [al_wds j, wds, List.flatMap_map, List.map_flatMap]
    congr 1
    funext w
    rw [BF.kids, List.map_map]
    refine List.map_congr_left fun k _ => ?_
    show (w ++ [k], KK n ts k (wT n ts (idn n) w)) = (w ++ [k], wT n ts (idn n) (w ++ [k]))
    rw [wT, wT, List.foldl_append]
    rfl
theorem s_setB {s : SE} {i j : Nat} {p : PV} (h : s[j]? = some (some (true, p))) (hi : i < s.length) : sSet i (eVar j) s = .ok .next ((s.set j (some (false, p))).set i (some (false, p))) := by
  unfold sSet
  rw [bnd_ok (show eVar j s = .ok (.bor j) s by unfold eVar; simp only [h])]
  rw [bnd_ok (show setA i (.bor j) s = .ok () ((s.set j (some (false, p))).set i (some (false, p))) by
    show bnd (rel1 (.bor j)) _ s = _
    rw [bnd_ok (show rel1 (.bor j) s = .ok p (s.set j (some (false, p))) by unfold rel1; simp only [h])]
    simp only [setV, List.length_set, hi, if_true])]
  rfl
def lW (ws : List (List Nat)) : PV := .lst (ws.map eW)
theorem iv_any {s : SE} {i : Nat} {b : Bool} {ps : List PV} (h : s[i]? = some (some (b, .lst ps))) : iVal (eVar i) s = .ok ps (s.set i (some (false, .lst ps))) := by
  cases b with
  | true => exact iv_own h
  | false =>
    have e : s.set i (some (false, .lst ps)) = s := by
      refine List.ext_getElem? fun k => ?_
      by_cases hk : i = k
      · subst hk; rw [List.getElem?_set_self (List.getElem?_eq_some_iff.mp h).1, h]
      · rw [List.getElem?_set_ne hk]
    rw [e]
    exact iv_lst (ev_var h)
theorem d_law_words {m len : Nat} (hm : m ≤ 3) (hl : len ≤ 8) : ∃ fr, denOf 7 F__law_words [.int m, .int len] = .ok (lW (wds m len)) fr none := by
  have hp : ∀ j, j ≤ 8 → m ^ j ≤ 6561 := fun j hj => Nat.le_trans (Nat.pow_le_pow_left hm j) (Nat.pow_le_pow_right (show 0 < 3 by decide) hj)
  obtain ⟨s', h1, j, hj, b, x3, x4, x5, hs⟩ := for_relN (G := gNm 3) (F := (sSeq (sSet 4 (eLst aNil))
  (sSeq (sFor (iVal (eVar 2)) (gNm 5) (sSeq (sSet 4 (eOp2 opAdd (eVar 4) (eComp [6] (iOf (iVal (eOpN opRange (aCons (eVar 0) aNil)))) (gNm 6) (ret true) (eOp2 opAdd (eVar 5) (eTup (aCons (eVar 6) aNil))))))
  sNext))
  (sSeq (sSet 2 (eVar 4))
  sNext)))) (enc := eI) (step := fun _ _ => ()) (P := fun (_ : Unit) c s => ∃ j, j + c = len ∧ ∃ b x3 x4 x5, s = [some (false, .int m), some (false, .int len), some (b, lW (wds m j)), x3, x4, x5, none])
    (List.range len) () 0 [some (false, .int m), some (false, .int len), some (true, lW (wds m 0)), none, none, none, none] (fun _ k c s hk ⟨j, hj, b, x3, x4, x5, hs⟩ => by
      subst hs
      obtain ⟨s2, h2, hl2, x5', hs2⟩ := for_relN (G := gNm 5) (F := (sSeq (sSet 4 (eOp2 opAdd (eVar 4) (eComp [6] (iOf (iVal (eOpN opRange (aCons (eVar 0) aNil)))) (gNm 6) (ret true) (eOp2 opAdd (eVar 5) (eTup (aCons (eVar 6) aNil))))))
  sNext)) (enc := eW) (step := fun acc w => acc ++ (List.range m).map fun k => w ++ [k]) (P := fun acc c s => acc.length + c * m ≤ 6561 ∧ ∃ x5, s = [some (false, .int m), some (false, .int len), some (false, lW (wds m j)), some (false, eI k), some (true, lW acc), x5, none])
        (wds m j) [] 0 [some (false, .int m), some (false, .int len), some (false, lW (wds m j)), some (false, eI k), some (true, lW []), x5, none] (fun acc w c s hw ⟨hl, x5, hs⟩ => by
          subst hs
          rw [Nat.succ_mul] at hl
          refine ⟨_, g_nm (by simp), _, sq (s_set (p := lW (acc ++ (List.range m).map fun k => w ++ [k])) (fr := true) (ev_op2 (p := lW acc) (rd_var (i := 4) (b := true) rfl) (Ev.rd (ev_compX (List.range m) eI (fun k => eW (w ++ [k])) (iv_rng (n := m) (ev_opN (rda_cons (rd_var (i := 0) rfl) rda_nil) rfl) (by omega)) (rl (by omega)) (by simp) fun k hk => ⟨false, ?_⟩)) ?_) (by simp)) rfl, ?_, some (false, eW w), rfl⟩
          · refine ev_op2 (rd_var (i := 5) (b := false) (p := eW w) rfl) (Ev.rd (ev_tup (ps := [HF.eI k]) (eva_cons (ev_var (i := 6) rfl) eva_nil) (sl (by simp)))) ?_
            show (if (w.map HF.eI).length + 1 ≤ sizeLine then _ else _) = _
            rw [if_pos (by rw [List.length_map, (wds_mem m j w hw).1, sizeLine_eq]; omega)]
            simp [eW]
          · show (if (acc.map eW).length + _ ≤ sizeLine then _ else _) = _
            rw [if_pos (by rw [List.length_map, List.length_map, List.length_range, sizeLine_eq]; omega)]
            simp [lW]
          · rw [List.length_append, List.length_map, List.length_range]; omega) ⟨by rw [wds_len, Nat.zero_add, ← Nat.pow_succ]; simp only [List.length_nil, Nat.zero_add]; exact hp (j + 1) (by omega), x5, rfl⟩
      have hf : ∀ (l : List (List Nat)) (acc : List (List Nat)), l.foldl (fun acc w => acc ++ (List.range m).map fun k => w ++ [k]) acc = acc ++ l.flatMap fun w => (List.range m).map fun k => w ++ [k] := fun l => by
        induction l with
        | nil => intro acc; simp
        | cons a l ih => intro acc; rw [List.foldl_cons, ih, List.flatMap_cons, List.append_assoc]
      rw [hf, List.nil_append] at hs2
      refine ⟨_, g_nm (by simp), [some (false, .int m), some (false, .int len), some (false, lW (wds m (j + 1))), some (false, HF.eI k), some (false, lW (wds m (j + 1))), x5', none], ?_, j + 1, by omega, false, _, _, _, rfl⟩
      refine sq (s_set (ev_lst (ps := []) eva_nil (sl (by simp))) (by simp)) (sq (sf (iv_any (b := b) (ps := (wds m j).map eW) rfl) h2) ?_)
      rw [hs2]
      exact sq (s_setB (j := 4) rfl (by simp)) rfl) ⟨0, by rw [List.length_range]; omega, true, none, none, none, rfl⟩
  have hj : j = len := by omega
  subst hj
  have e0 : (sSeq (sSet 2 (eLst (aCons (eTup aNil) aNil))) : PM Fl → PM Fl) = sSeq (sSet 2 (eLst (aCons (eTup aNil) aNil))) := rfl
  have hset : sSet 2 (eLst (aCons (eTup aNil) aNil)) (st0 7 [.int m, .int j]) = .ok .next [some (false, .int m), some (false, .int j), some (true, lW (wds m 0)), none, none, none, none] := s_set (ev_lst (ps := [eW []]) (eva_cons (ev_tup (ps := []) eva_nil (sl (by simp))) eva_nil) (sl (by simp))) (by simp [st0])
  cases b with
  | true =>
    refine ⟨true, den_bor (i := 2) (s1 := s') ?_ (by rw [hs]; rfl)⟩
    unfold F__law_words
    refine sq hset (sq (sf (iv_rng (n := j) (ev_opN (rda_cons (rd_var (i := 1) rfl) rda_nil) rfl) (by omega)) h1) ?_)
    rw [hs]
    rfl
  | false =>
    refine ⟨false, den_ret (s1 := s') ?_⟩
    unfold F__law_words
    refine sq hset (sq (sf (iv_rng (n := j) (ev_opN (rda_cons (rd_var (i := 1) rfl) rda_nil) rfl) (by omega)) h1) ?_)
    rw [hs]
    rfl
/-! ### refusals -/
theorem x_many {n : Nat} {ts : List Mx} (h : TV n ts) : denOf 7 F_word_table [eT ts, eW [ts.length]] = .exc "InvalidTable" := by
  have h3 := h.n3
  have e1 : Ev (eOpN opRange (aCons (eOpN opLen (aCons (eOp2 opIx (eVar 0) (eC (.int 0))) aNil)) aNil)) (st0 7 [eT ts, eW [ts.length]]) (.rng 0 n) false :=
    ev_opN (rda_cons (len_M (ev_op2 (rd_var rfl) ev_c.rd h.first.1).rd h.first.2).rd rda_nil) rfl
  have e2 := ev_idn (n := n) (I := iVal (eVar 2)) (p2 := .rng 0 n) (fun s hs => iv_rng (ev_var hs) (by omega)) (s := [some (false, eT ts), some (false, eW [ts.length]), some (false, .rng 0 n), none, none, none, none]) rfl rfl (by omega)
  refine den_exc (s1 := [some (false, eT ts), some (false, eW [ts.length]), some (false, .rng 0 n), some (false, eM (idn n)), some (false, eI ts.length), none, none]) ?_
  unfold F_word_table
  refine sq (s_expr (ev_call (eva_cons (ev_var rfl) eva_nil) (d_check h))) (sq (s_set e1 (by simp [st0])) (sq (s_set e2 (by simp [st0])) (s_seq_exc ?_)))
  refine sf (ps := [eI ts.length]) (iv_tup (ev_var (i := 1) rfl)) ?_
  obtain ⟨_, c1⟩ := ev_chain (o := opLe) (o2 := opLt) (s := [some (false, eT ts), some (false, eW [ts.length]), some (false, .rng 0 n), some (false, eM (idn n)), some (false, eI ts.length), none, none]) (ev_c (p := .int 0)) (ev_var (i := 4) rfl) (show opLe (.int 0) (eI ts.length) = some (.bl (decide ((0 : Int) ≤ ts.length)), false) from rfl) fun _ => ⟨false, false, len_tup (f := eVar 0) (ps := ts.map eM) (rd_var rfl), (show opLt (eI ts.length) (.int (ts.map eM).length) = some (.bl (decide ((ts.length : Int) < (ts.map eM).length)), false) from rfl)⟩
  have t := evt_not (evt_bool c1)
  rw [show (!(decide ((0 : Int) ≤ ts.length) && decide ((ts.length : Int) < (ts.map eM).length))) = true by rw [List.length_map]; simp] at t
  unfold forL
  rw [bnd_ok (show nx (gNm 4 (eI ts.length)) _ = .ok () [some (false, eT ts), some (false, eW [ts.length]), some (false, .rng 0 n), some (false, eM (idn n)), some (false, eI ts.length), none, none] from rfl)]
  have : ∀ G : PM Fl, sSeq (sIf (tNotP (tBool (eChain opLe opLt (eC (.int 0)) (eVar 4) (eOpN opLen (aCons (eVar 0) aNil))))) (sSeq (sRaise "InvalidTable") sNext) sNext) G [some (false, eT ts), some (false, eW [ts.length]), some (false, .rng 0 n), some (false, eM (idn n)), some (false, eI ts.length), none, none] = .exc "InvalidTable" [some (false, eT ts), some (false, eW [ts.length]), some (false, .rng 0 n), some (false, eM (idn n)), some (false, eI ts.length), none, none] := fun G => s_seq_exc (si t (fun _ => s_seq_exc rfl) fun z => by cases z)
  simp only [this]
theorem x_widest {n : Nat} {ts : List Mx} (h : TV n ts) : denOf 8 F_widest [eT ts, .int 7] = .exc "InvalidTable" := by
  obtain ⟨_, c1⟩ := chain_le (s := st0 8 [eT ts, .int 7]) (ev_c (p := .int 0)) (ev_var (i := 1) (p := .int 7) rfl) (ev_c (p := .int 6))
  have t := evt_not (evt_bool c1)
  refine den_exc (s1 := st0 8 [eT ts, .int 7]) ?_
  unfold F_widest
  exact sq (s_expr (ev_call (eva_cons (ev_var rfl) eva_nil) (d_check h))) (s_seq_exc (si t (fun _ => s_seq_exc rfl) fun z => by cases z))
theorem x_words {n : Nat} {ts : List Mx} (h : TV n ts) : denOf 11 F_words_up_to [eT ts, .int 11] = .exc "InvalidTable" := by
  obtain ⟨_, c1⟩ := chain_le (s := st0 11 [eT ts, .int 11]) (ev_c (p := .int 0)) (ev_var (i := 1) (p := .int 11) rfl) (ev_c (p := .int 10))
  have t := evt_not (evt_bool c1)
  refine den_exc (s1 := st0 11 [eT ts, .int 11]) ?_
  unfold F_words_up_to
  exact sq (s_expr (ev_call (eva_cons (ev_var rfl) eva_nil) (d_check h))) (s_seq_exc (si t (fun _ => s_seq_exc rfl) fun z => by cases z))
def i1 (i : Int) : PV := .tup [.int i]
def bad1 : PV := .tup []
def bad2 : PV := .tup [.tup [.tup [.int 1, .int 2]]]
def bad3 : PV := .tup [.tup [.tup [.int 10]]]
def bad4 : PV := .tup [.tup [.tup [.int 1]], .tup [.tup [.int 1, .int 0], .tup [.int 0, .int 1]]]
def bad5 : PV := .tup [.tup [.tup [.int 1]], .tup [.tup [.int 1]], .tup [.tup [.int 1]], .tup [.tup [.int 1]]]
theorem x_1 : denOf 7 F_word_table [bad1, .tup []] = .exc "InvalidTable" := by kernel_rfl
theorem x_2 : denOf 7 F_word_table [bad2, .tup []] = .exc "InvalidTable" := by kernel_rfl
theorem x_3 : denOf 7 F_word_table [bad3, .tup []] = .exc "InvalidTable" := by kernel_rfl
theorem x_4 : denOf 7 F_word_table [bad4, .tup []] = .exc "InvalidTable" := by kernel_rfl
theorem x_5 : denOf 7 F_word_table [bad5, .tup []] = .exc "InvalidTable" := by kernel_rfl
end G18
end

section
set_option Elab.async false
set_option linter.all false
set_option maxRecDepth 100000
set_option maxHeartbeats 1000000
set_option autoImplicit false
set_option exponentiation.threshold 2000
namespace G18
open PySem PySem.Spec PyProof.Rows HF
/-! ### what closes does not grow -/
theorem one1 (a b : Int) : mul 1 [[a]] [[b]] = [[a * b]] := by
  show [[a * b + 0]] = _
  rw [Int.add_zero]
theorem two2 (a b c d e f g h : Int) : mul 2 [[a, b], [c, d]] [[e, f], [g, h]] = [[a * e + b * g, a * f + b * h], [c * e + d * g, c * f + d * h]] := by
  show [[a * e + (b * g + 0), a * f + (b * h + 0)], [c * e + (d * g + 0), c * f + (d * h + 0)]] = _
  simp only [Int.add_zero]
theorem sq1 {m : Mx} (h : Sq 1 m) : ∃ a, m = [[a]] := by
  match m, h with
  | [[a]], _ => exact ⟨a, rfl⟩
  | [], h => exact absurd h.1 (by simp)
  | _ :: _ :: _, h => exact absurd h.1 (by simp)
  | [[]], h => exact absurd (h.2 [] (by simp)) (by simp)
  | [a :: b :: c], h => exact absurd (h.2 _ (List.mem_singleton.mpr rfl)) (by simp)
theorem row2 {r : List Int} (h : r.length = 2) : ∃ a b, r = [a, b] := by
  match r, h with
  | [a, b], _ => exact ⟨a, b, rfl⟩
theorem sq2 {m : Mx} (h : Sq 2 m) : ∃ a b c d, m = [[a, b], [c, d]] := by
  match m, h with
  | [r, s], h =>
    obtain ⟨a, b, rfl⟩ := row2 (h.2 r (by simp))
    obtain ⟨c, d, rfl⟩ := row2 (h.2 s (by simp))
    exact ⟨a, b, c, d, rfl⟩
  | [], h => exact absurd h.1 (by simp)
  | [_], h => exact absurd h.1 (by simp)
  | _ :: _ :: _ :: _, h => exact absurd h.1 (by simp)
theorem assoc {n : Nat} (h1 : 1 ≤ n) (hn : n ≤ 2) {a b c : Mx} (ha : Sq n a) (hb : Sq n b) (hc : Sq n c) : mul n a (mul n b c) = mul n (mul n a b) c := by
  have : n = 1 ∨ n = 2 := by omega
  rcases this with e | e
  · subst e
    obtain ⟨a, rfl⟩ := sq1 ha
    obtain ⟨b, rfl⟩ := sq1 hb
    obtain ⟨c, rfl⟩ := sq1 hc
    rw [one1, one1, one1, one1, Int.mul_assoc]
  · subst e
    obtain ⟨a1, a2, a3, a4, rfl⟩ := sq2 ha
    obtain ⟨b1, b2, b3, b4, rfl⟩ := sq2 hb
    obtain ⟨c1, c2, c3, c4, rfl⟩ := sq2 hc
    rw [two2, two2, two2, two2]
    simp only [Int.mul_add, Int.add_mul, Int.mul_assoc, List.cons.injEq, and_true]
    refine ⟨⟨?_, ?_⟩, ?_, ?_⟩ <;> omega
theorem id_mul {n : Nat} (h1 : 1 ≤ n) (hn : n ≤ 2) {a : Mx} (ha : Sq n a) : mul n (idn n) a = a := by
  have : n = 1 ∨ n = 2 := by omega
  rcases this with e | e
  · subst e
    obtain ⟨a, rfl⟩ := sq1 ha
    show mul 1 [[1]] _ = _
    rw [one1, Int.one_mul]
  · subst e
    obtain ⟨a1, a2, a3, a4, rfl⟩ := sq2 ha
    show mul 2 [[1, 0], [0, 1]] _ = _
    rw [two2]
    simp
theorem wT_mul {n : Nat} {ts : List Mx} (h : TV n ts) (hn : n ≤ 2) : ∀ (w : List Nat) (a x : Mx), (∀ k ∈ w, k < ts.length) → Sq n a → Sq n x → wT n ts (mul n a x) w = mul n (wT n ts a w) x
  | [], _, _, _, _, _ => rfl
  | k :: w, a, x, hk, ha, hx => by
    have ⟨_, s1, _⟩ := h.at (hk k List.mem_cons_self)
    show wT n ts (mul n (ts.getD k []) (mul n a x)) w = mul n (wT n ts (mul n (ts.getD k []) a) w) x
    rw [assoc h.n1 hn s1 ha hx]
    exact wT_mul h hn w _ x (fun j hj => hk j (List.mem_cons_of_mem _ hj)) sq_mul hx
/-- traces of powers run away -/
def pw (n : Nat) (m : Mx) : Nat → Mx
  | 0 => idn n
  | i + 1 => mul n m (pw n m i)
theorem pw_sq {n : Nat} {m : Mx} : ∀ i, Sq n (pw n m i)
  | 0 => sq_id
  | i + 1 => sq_mul
def det (m : Mx) : Int := at2 m 0 0 * at2 m 1 1 - at2 m 0 1 * at2 m 1 0
theorem det_mul {a b : Mx} (ha : Sq 2 a) (hb : Sq 2 b) : det (mul 2 a b) = det a * det b := by
  obtain ⟨a1, a2, a3, a4, rfl⟩ := sq2 ha
  obtain ⟨b1, b2, b3, b4, rfl⟩ := sq2 hb
  rw [two2]
  show (a1 * b1 + a2 * b3) * (a3 * b2 + a4 * b4) - (a1 * b2 + a2 * b4) * (a3 * b1 + a4 * b3) = (a1 * a4 - a2 * a3) * (b1 * b4 - b2 * b3)
  grind
theorem tr_step {a x : Mx} (ha : Sq 2 a) (hx : Sq 2 x) : tr 2 (mul 2 a (mul 2 a x)) = tr 2 a * tr 2 (mul 2 a x) - det a * tr 2 x := by
  obtain ⟨a1, a2, a3, a4, rfl⟩ := sq2 ha
  obtain ⟨b1, b2, b3, b4, rfl⟩ := sq2 hx
  rw [two2, two2]
  show (a1 * (a1 * b1 + a2 * b3) + a2 * (a3 * b1 + a4 * b3)) + ((a3 * (a1 * b2 + a2 * b4) + a4 * (a3 * b2 + a4 * b4)) + 0) = (a1 + (a4 + 0)) * ((a1 * b1 + a2 * b3) + ((a3 * b2 + a4 * b4) + 0)) - (a1 * a4 - a2 * a3) * (b1 + (b4 + 0))
  grind
theorem two_pow_lt (c : Nat) : c < 2 ^ c := Nat.lt_two_pow_self
theorem runs1 {m : Mx} (hm : Sq 1 m) (hb : big 1 m = true) : ∀ i, 2 ^ i ≤ (tr 1 (pw 1 m i)).natAbs := by
  obtain ⟨a, rfl⟩ := sq1 hm
  have ha : 2 ≤ a.natAbs := by
    have : decide (((1 : Nat) : Int) < (((a + 0 : Int).natAbs : Nat) : Int)) = true := hb
    rw [decide_eq_true_eq, Int.add_zero] at this
    omega
  have key : ∀ i, ∃ b : Int, pw 1 [[a]] i = [[b]] ∧ 2 ^ i ≤ b.natAbs := fun i => by
    induction i with
    | zero => exact ⟨1, rfl, by decide⟩
    | succ i ih =>
      obtain ⟨b, e, hb⟩ := ih
      refine ⟨a * b, by rw [pw, e, one1], ?_⟩
      rw [Int.natAbs_mul, Nat.pow_succ, Nat.mul_comm]
      exact Nat.mul_le_mul ha hb
  intro i
  obtain ⟨b, e, hb⟩ := key i
  rw [e]
  show 2 ^ i ≤ (b + 0).natAbs
  rwa [Int.add_zero]
theorem runs2 {m : Mx} (hm : Sq 2 m) (hb : big 2 m = true) (hd : (det m).natAbs ≤ 1) : ∀ i, 2 ^ i ≤ (tr 2 (pw 2 m i)).natAbs := by
  have ht : 3 ≤ (tr 2 m).natAbs := by
    have : decide (((2 : Nat) : Int) < (((tr 2 m).natAbs : Nat) : Int)) = true := hb
    rw [decide_eq_true_eq] at this
    omega
  have key : ∀ i, (tr 2 (pw 2 m i)).natAbs ≤ (tr 2 (pw 2 m (i + 1))).natAbs ∧ 2 ^ (i + 1) ≤ (tr 2 (pw 2 m (i + 1))).natAbs := fun i => by
    induction i with
    | zero =>
      have e : pw 2 m 1 = m := by
        obtain ⟨a1, a2, a3, a4, rfl⟩ := sq2 hm
        show mul 2 _ [[1, 0], [0, 1]] = _
        rw [two2]
        simp
      rw [e, show tr 2 (pw 2 m 0) = 2 from rfl]
      exact ⟨by omega, by omega⟩
    | succ i ih =>
      obtain ⟨h1, h2⟩ := ih
      have e : tr 2 (pw 2 m (i + 2)) = tr 2 m * tr 2 (pw 2 m (i + 1)) - det m * tr 2 (pw 2 m i) := tr_step hm (pw_sq i)
      have l1 : 3 * (tr 2 (pw 2 m (i + 1))).natAbs ≤ (tr 2 m * tr 2 (pw 2 m (i + 1))).natAbs := by rw [Int.natAbs_mul]; exact Nat.mul_le_mul_right _ ht
      have l2 : (det m * tr 2 (pw 2 m i)).natAbs ≤ 1 * (tr 2 (pw 2 m i)).natAbs := by rw [Int.natAbs_mul]; exact Nat.mul_le_mul_right _ hd
      have l3 : (tr 2 m * tr 2 (pw 2 m (i + 1))).natAbs ≤ (tr 2 (pw 2 m (i + 2))).natAbs + (det m * tr 2 (pw 2 m i)).natAbs := by omega
      have l4 : 2 * (tr 2 (pw 2 m (i + 1))).natAbs ≤ (tr 2 (pw 2 m (i + 2))).natAbs := by omega
      refine ⟨by show _ ≤ (tr 2 (pw 2 m (i + 2))).natAbs; omega, ?_⟩
      rw [Nat.pow_succ]
      show _ ≤ (tr 2 (pw 2 m (i + 2))).natAbs
      omega
  intro i
  cases i with
  | zero => rw [show tr 2 (pw 2 m 0) = 2 from rfl]; decide
  | succ i => exact (key i).2
theorem dets {m : Mx} (hm : Sq 2 m) (hd : 2 ≤ (det m).natAbs) : ∀ i, 2 ^ i ≤ (det (pw 2 m i)).natAbs
  | 0 => by rw [show det (pw 2 m 0) = 1 from rfl]; decide
  | i + 1 => by
    rw [pw, det_mul hm (pw_sq i), Int.natAbs_mul, Nat.pow_succ, Nat.mul_comm]
    exact Nat.mul_le_mul hd (dets hm hd i)
/-- powers with entries at most c do not grow -/
theorem no_run {n : Nat} {m : Mx} (h1 : 1 ≤ n) (hn : n ≤ 2) (hm : Sq n m) {c : Nat} (hc : ∀ i, Bd c (pw n m i)) : big n m = false := by
  cases hb : big n m with
  | false => rfl
  | true =>
    exfalso
    have trb : ∀ i, (tr n (pw n m i)).natAbs ≤ n * c := fun i => by
      have := sum_le (f := fun k => at2 (pw n m i) k k) (c := c) (fun k => hc i k k) (List.range n)
      rwa [List.length_range] at this
    have : n = 1 ∨ n = 2 := by omega
    rcases this with e | e
    · subst e
      have a := runs1 hm hb (1 * c)
      have b := trb (1 * c)
      have d := two_pow_lt (1 * c)
      omega
    · subst e
      by_cases hd : (det m).natAbs ≤ 1
      · have a := runs2 hm hb hd (2 * c)
        have b := trb (2 * c)
        have d := two_pow_lt (2 * c)
        omega
      · have a := dets hm (by omega) (c * c + c * c)
        have d := two_pow_lt (c * c + c * c)
        have b : (det (pw 2 m (c * c + c * c))).natAbs ≤ c * c + c * c := by
          generalize hx : pw 2 m (c * c + c * c) = x
          have hx : Bd c x := by rw [← hx]; exact hc _
          unfold det
          have e1 : (at2 x 0 0 * at2 x 1 1).natAbs ≤ c * c := by rw [Int.natAbs_mul]; exact Nat.mul_le_mul (hx _ _) (hx _ _)
          have e2 : (at2 x 0 1 * at2 x 1 0).natAbs ≤ c * c := by rw [Int.natAbs_mul]; exact Nat.mul_le_mul (hx _ _) (hx _ _)
          omega
        omega
theorem no_grow {n : Nat} {ts : List Mx} (h : TV n ts) (hn : n ≤ 2) {j : Nat} (hcl : (RD n ts (j + 1)).length ≤ (RD n ts j).length) : ∀ p ∈ RD n ts (j + 1), big n p.2 = false := by
  have e1 : RD n ts (j + 1) = RD n ts j ++ (BF.rnd ts.length (KK n ts) (idn n) (j + 1)).2 := rfl
  have e2 : (BF.rnd ts.length (KK n ts) (idn n) (j + 1)).2 = [] := by
    rw [e1, List.length_append] at hcl
    exact List.eq_nil_of_length_eq_zero (by omega)
  obtain ⟨_, F, h2, h3, h4⟩ := BF.rnd_all ts.length (KK n ts) (idn n) (j + 1)
  rw [e2, List.append_nil] at h2
  rw [← h2] at h4
  have h4 : BF.Clo ts.length (KK n ts) (RD n ts (j + 1)) (RD n ts (j + 1)) := h4
  have hT := (BF.rnd_T ts.length (KK n ts) (idn n) (j + 1)).1
  have hid : BF.has (RD n ts (j + 1)) (idn n) = true := by
    have : ∀ i, ([], idn n) ∈ RD n ts i := fun i => by
      induction i with
      | zero => exact List.mem_singleton.mpr rfl
      | succ i ih => exact List.mem_append.mpr (.inl ih)
    rw [BF.has, List.any_eq_true]
    exact ⟨_, this _, by simp⟩
  have hw : ∀ (w : List Nat) (t : Mx), (∀ k ∈ w, k < ts.length) → BF.has (RD n ts (j + 1)) t = true → BF.has (RD n ts (j + 1)) (wT n ts t w) = true := fun w => by
    induction w with
    | nil => intro t _ ht; exact ht
    | cons k w ih => intro t hk ht; exact ih _ (fun i hi => hk i (List.mem_cons_of_mem _ hi)) (h4 t ht k (hk k List.mem_cons_self))
  have hbd : ∀ t, BF.has (RD n ts (j + 1)) t = true → Bd (27 ^ (j + 1)) t := fun t ht => by
    rw [BF.has, List.any_eq_true] at ht
    obtain ⟨q, hq, e⟩ := ht
    have e : q.2 = t := by simpa using e
    obtain ⟨a, b⟩ := hT q hq
    have hl := (BF.rnd_len ts.length (KK n ts) (idn n) (j + 1)).1 q hq
    have := (wT_ok h q.1 (idn n) 0 b sq_id bd_id).2
    rw [← e, a]
    exact this.mono (Nat.pow_le_pow_right (by decide) (by omega))
  intro p hp
  obtain ⟨a, b⟩ := hT p hp
  have a : p.2 = wT n ts (idn n) p.1 := a
  have hs := (wT_ok h p.1 (idn n) 0 b sq_id bd_id).1
  rw [← a] at hs
  have hpw : ∀ i, BF.has (RD n ts (j + 1)) (pw n p.2 i) = true := fun i => by
    induction i with
    | zero => exact hid
    | succ i ih =>
      have e := hw p.1 _ b ih
      have e2 : wT n ts (pw n p.2 i) p.1 = mul n p.2 (pw n p.2 i) := by
        have e3 := wT_mul h hn p.1 (idn n) (pw n p.2 i) b sq_id (pw_sq i)
        rw [id_mul h.n1 hn (pw_sq i), ← a] at e3
        exact e3
      rw [e2] at e
      exact e
  exact no_run h.n1 hn hs fun i => hbd _ (hpw i)
end G18
end

section
set_option Elab.async false
set_option linter.all false
set_option maxRecDepth 100000
set_option maxHeartbeats 2000000
set_option autoImplicit false
set_option exponentiation.threshold 2000
namespace G18
open PySem PySem.Spec PyProof.Rows HF
theorem sqx {F G : PM Fl} {s s1 : SE} {a : HF.Arg} (h : F s = .ok .next s1) (h2 : ∃ s', G s1 = .ok (.ret a) s') : ∃ s', sSeq F G s = .ok (.ret a) s' := by
  obtain ⟨s', h2⟩ := h2
  exact ⟨s', sq h h2⟩
theorem s_par3 {s s1 s2 s3 : SE} {i j l : Nat} {f g h : PM HF.Arg} {p q r : PV} {fr fr2 fr3 : Bool} (hf : EvS f s p fr s1) (hg : EvS g s1 q fr2 s2) (hh : EvS h s2 r fr3 s3) (hi : i < s3.length) (hj : j < s3.length) (hl : l < s3.length) : sPar3 i j l f g h s = .ok .next (((s3.set l (some (fr3, r))).set j (some (fr2, q))).set i (some (fr, p))) := by
  unfold sPar3
  rw [bnd_ok hf, bnd_ok (show norm (.val p fr) s1 = .ok (.val p fr) s1 from rfl), bnd_ok hg, bnd_ok (show norm (.val q fr2) s2 = .ok (.val q fr2) s2 from rfl), bnd_ok hh, bnd_ok (show norm (.val r fr3) s3 = .ok (.val r fr3) s3 from rfl),
    bnd_ok (show setW l (.val r fr3) s3 = .ok () (s3.set l (some (fr3, r))) by simp only [setW, setV, hl, if_true]),
    bnd_ok (show setW j (.val q fr2) (s3.set l (some (fr3, r))) = .ok () ((s3.set l (some (fr3, r))).set j (some (fr2, q))) by simp only [setW, setV, List.length_set, hj, if_true]),
    bnd_ok (show setW i (.val p fr) ((s3.set l (some (fr3, r))).set j (some (fr2, q))) = .ok () (((s3.set l (some (fr3, r))).set j (some (fr2, q))).set i (some (fr, p))) by simp only [setW, setV, List.length_set, hi, if_true])]
  rfl
def Z (ns : List Int) (tp : PV) (x2 x3 x5 x21 x22 : Option (Bool × PV)) : SE := [some (false, .scr ns), some (true, tp), x2, x3, none, x5, none, none, none, none, none, none, none, none, none, none, none, none, none, none, none, x21, x22, none, none, none, none]
abbrev tk : Den := denIO 4 F__law_take
theorem tk_eq : tk = denIO 4 Ftake := rfl
def sV (i : Int) : Option (Bool × PV) := some (false, .int i)
/-- 1 + a draw of two -/
theorem ev_dim {ns : List Int} {tp : PV} {N : Nat} {x2 x3 x5 x21 x22 : Option (Bool × PV)} (ht : Tp (N + 1) tp) : ∃ (d : Nat) (tp' : PV), EvS (eOp2 opAdd (eC (.int 1)) (eCallM (denIO 4 F__law_take) (aCons (eVar 1) (aCons (eC (.int 2)) aNil)))) (Z ns tp x2 x3 x5 x21 x22) (.int (d : Int)) false (Z ns tp' x2 x3 x5 x21 x22) ∧ 1 ≤ d ∧ d ≤ 2 ∧ Tp N tp' := by
  obtain ⟨d, tp', e, h0, h2, h3⟩ := take_at tk_eq (s := Z ns tp x2 x3 x5 x21 x22) (i := 1) rfl ht (ev_c (p := .int 2)) (by decide) (by decide)
  refine ⟨(1 + d).toNat, tp', ?_, by omega, by omega, h3⟩
  have : ((1 + d).toNat : Int) = 1 + d := by omega
  rw [this]
  exact evs_op2 ev_c e rfl
def Ent (x : Int) (r : Int) : Prop := -x ≤ r ∧ r ≤ x
theorem ev_tables {ns : List Int} {tp : PV} {N n m top : Nat} (hn : n ≤ 2) (hm : m ≤ 2) (h2 : top ≤ 2) (ht : Tp (N + 8) tp) : ∃ (ts : List Mx) (tp' : PV), EvS (eOpN opTuple (aCons (eComp [4] (iOf (iVal (eOpN opRange (aCons (eVar 21) aNil)))) (gNm 4) (ret true) (eOpN opTuple (aCons (eComp [23] (iOf (iVal (eOpN opRange (aCons (eVar 2) aNil)))) (gNm 23) (ret true) (eOpN opTuple (aCons (eComp [24] (iOf (iVal (eOpN opRange (aCons (eVar 2) aNil)))) (gNm 24) (ret true) (eOp2 opSub (eCallM (denIO 4 F__law_take) (aCons (eVar 1) (aCons (eOp2 opAdd (eOp2 opMul (eC (.int 2)) (eVar 3)) (eC (.int 1))) aNil))) (eVar 3))) aNil))) aNil))) aNil)) (Z ns tp (sV n) (sV top) none (sV m) none) (eT ts) false (Z ns tp' (sV n) (sV top) none (sV m) none)
    ∧ ts.length = m ∧ (∀ t ∈ ts, Sq n t ∧ ∀ r ∈ t, ∀ a ∈ r, Ent top a) ∧ Tp N tp' := by
  have hb : n * n ≤ 4 := Nat.mul_le_mul hn hn
  have hb2 : m * (n * n) ≤ 2 * 4 := Nat.mul_le_mul hm hb
  have ht' : Tp ((N + 8 - m * (n * n)) + m * (n * n)) tp := by rw [show N + 8 - m * (n * n) + m * (n * n) = N + 8 by omega]; exact ht
  have rg : ∀ {s : SE} {i k : Nat}, s[i]? = some (sV k) → k ≤ 2 → iVal (eOpN opRange (aCons (eVar i) aNil)) s = .ok ((List.range k).map eI) s := fun h hk => iv_rng (ev_opN (rda_cons (rd_var h) rda_nil) rfl) (by omega)
  obtain ⟨ts, tp', e, hl, hR, ht2⟩ := comp_take (β := Mx) (t := 1) (i := 4) (E := (eOpN opTuple (aCons (eComp [23] (iOf (iVal (eOpN opRange (aCons (eVar 2) aNil)))) (gNm 23) (ret true) (eOpN opTuple (aCons (eComp [24] (iOf (iVal (eOpN opRange (aCons (eVar 2) aNil)))) (gNm 24) (ret true) (eOp2 opSub (eCallM (denIO 4 F__law_take) (aCons (eVar 1) (aCons (eOp2 opAdd (eOp2 opMul (eC (.int 2)) (eVar 3)) (eC (.int 1))) aNil))) (eVar 3))) aNil))) aNil))) (List.range m) eI eM (fun t => Sq n t ∧ ∀ r ∈ t, ∀ a ∈ r, Ent top a) (n * n) (N + 8 - m * (n * n)) (s := Z ns tp (sV n) (sV top) none (sV m) none) (s0 := Z ns tp (sV n) (sV top) none (sV m) none) (tp := tp) (rg (i := 21) rfl hm) (rl (by omega)) (by simp [Z]) (by decide) rfl (by rw [List.length_range]; exact ht') (fun k hk N tp ht => by
    obtain ⟨rs, tp', e, hl, hR, ht2⟩ := comp_take (β := List Int) (t := 1) (i := 23) (E := (eOpN opTuple (aCons (eComp [24] (iOf (iVal (eOpN opRange (aCons (eVar 2) aNil)))) (gNm 24) (ret true) (eOp2 opSub (eCallM (denIO 4 F__law_take) (aCons (eVar 1) (aCons (eOp2 opAdd (eOp2 opMul (eC (.int 2)) (eVar 3)) (eC (.int 1))) aNil))) (eVar 3))) aNil))) (List.range n) eI eR (fun r => r.length = n ∧ ∀ a ∈ r, Ent top a) n N (s := ((Z ns tp (sV n) (sV top) none (sV m) none).set 4 (some (false, eI k)))) (s0 := ((Z ns tp (sV n) (sV top) none (sV m) none).set 4 (some (false, eI k)))) (tp := tp) (rg (i := 2) rfl hn) (rl (by omega)) (by simp [Z]) (by decide) rfl (by rw [List.length_range]; exact ht) (fun k2 hk2 N tp ht => by
      obtain ⟨as, tp', e, hl, hR, ht2⟩ := comp_take (β := Int) (t := 1) (i := 24) (E := (eOp2 opSub (eCallM (denIO 4 F__law_take) (aCons (eVar 1) (aCons (eOp2 opAdd (eOp2 opMul (eC (.int 2)) (eVar 3)) (eC (.int 1))) aNil))) (eVar 3))) (List.range n) eI PV.int (fun a => Ent top a) 1 N (s := (((Z ns tp (sV n) (sV top) none (sV m) none).set 4 (some (false, eI k))).set 23 (some (false, eI k2)))) (s0 := (((Z ns tp (sV n) (sV top) none (sV m) none).set 4 (some (false, eI k))).set 23 (some (false, eI k2)))) (tp := tp) (rg (i := 2) rfl hn) (rl (by omega)) (by simp [Z]) (by decide) rfl (by rw [List.length_range, Nat.mul_one]; exact ht) (fun k3 hk3 N tp ht => by
        obtain ⟨d, tp', e, h0, hd, h3⟩ := take_at tk_eq (s := ((((Z ns tp (sV n) (sV top) none (sV m) none).set 4 (some (false, eI k))).set 23 (some (false, eI k2))).set 24 (some (false, eI k3)))) (i := 1) rfl ht (f := (eOp2 opAdd (eOp2 opMul (eC (.int 2)) (eVar 3)) (eC (.int 1)))) (m := 2 * top + 1) (fr := false) (ev_op2 (p := .int (2 * top)) (q := .int 1) (Ev.rd (ev_op2 (fr3 := false) (ev_c (p := .int 2)).rd (rd_var (i := 3) (b := false) (p := .int top) rfl) (mul_ii (by decide) (by omega)))) ev_c.rd rfl) (by omega) (by omega)
        exact ⟨d - top, false, tp', evs_op2 e (ev_var (i := 3) (p := .int top) rfl) rfl, ⟨by omega, by omega⟩, h3⟩)
      rw [List.length_range] at hl
      exact ⟨as, false, tp', evs_opN1 e rfl, ⟨hl, hR⟩, ht2⟩)
    rw [List.length_range] at hl
    refine ⟨rs, false, tp', evs_opN1 e ?_, ⟨⟨hl, fun r hr => (hR r hr).1⟩, fun r hr => (hR r hr).2⟩, ht2⟩
    rfl)
  rw [List.length_range] at hl
  refine ⟨ts, tp', evs_opN1 e rfl, hl, hR, ?_⟩
  obtain ⟨c, a, l, e, t, q, h1, h2, h3, h4, h5, h6, h7⟩ := ht2
  exact ⟨c, a, l, e, t, q, h1, h2, h3, h4, h5, h6, by omega⟩
end G18
end

section
set_option Elab.async false
set_option linter.all false
set_option maxRecDepth 100000
set_option maxHeartbeats 2000000
set_option autoImplicit false
set_option exponentiation.threshold 2000
namespace G18
open PySem PySem.Spec PyProof.Rows HF
theorem evts_bool {f : PM HF.Arg} {s s1 : SE} {b fr : Bool} (hf : EvS f s (.bl b) fr s1) : tBool f s = .ok b s1 := by
  unfold tBool
  rw [bnd_ok hf]
  rfl
theorem evts_and {t u : PM Bool} {s s1 : SE} {b b2 : Bool} (h : t s = .ok b s1) (h2 : b = true → EvT u s1 b2) : tAndP t u s = .ok (b && b2) s1 := by
  unfold tAndP
  rw [bnd_ok h]
  cases b with
  | true => rw [if_pos rfl]; exact h2 rfl
  | false => rfl
theorem siS {t : PM Bool} {F G : PM Fl} {s s1 : SE} {b : Bool} {r : Rs Fl} (h : t s = .ok b s1) (h1 : b = true → F s1 = r) (h2 : b = false → G s1 = r) : sIf t F G s = r := by
  unfold sIf
  rw [bnd_ok h]
  cases b with
  | true => rw [if_pos rfl, h1 rfl]
  | false => rw [if_neg (by simp), h2 rfl]
theorem iv_rngS {f : PM HF.Arg} {s s1 : SE} {n : Nat} {fr : Bool} (hf : EvS f s (.rng 0 n) fr s1) (hn : n < 2 ^ 62) : iVal f s = .ok ((List.range n).map eI) s1 := by
  have e : rngL 0 ((n : Int) - 0).toNat = (List.range n).map eI := by
    unfold rngL eI
    simp
  have h : rOk 0 (n : Int) = true := by unfold rOk; rw [decide_eq_true_eq]; omega
  unfold iVal
  rw [bnd_ok hf, bnd_ok (show rel1 (.val (.rng 0 n) fr) s1 = .ok (.rng 0 n) s1 from rfl)]
  simp only [h, if_true, e]
  rfl
def four : List Mx := [[[0, 1], [0, 0]], [[0, 0], [1, 0]], [[0, 1], [1, 0]], [[1, 0], [0, 0]]]
theorem tv_four {d m : Nat} (hd : d < 2) (h1 : 1 ≤ m) (h2 : m ≤ 2) : TV 2 ((four.drop d).take m) ∧ ((four.drop d).take m).length = m := by
  have : (d = 0 ∨ d = 1) ∧ (m = 1 ∨ m = 2) := by omega
  obtain ⟨e | e, f | f⟩ := this <;> subst e <;> subst f <;> refine ⟨⟨by decide, by decide, by decide, by decide, ?_, by decide⟩, by decide⟩ <;> (intro m hm; revert m; unfold Sq; decide)
theorem ev_four {ns : List Int} {tp : PV} {N n m top : Nat} {x22 : Option (Bool × PV)} (h1 : 1 ≤ m) (hm : m ≤ 2) (ht : Tp (N + 1) tp) : ∃ (d : Nat) (tp' : PV), d < 2 ∧ EvS (eSl (eSl (eTup (aCons (eTup (aCons (eTup (aCons (eC (.int 0)) (aCons (eC (.int 1)) aNil))) (aCons (eTup (aCons (eC (.int 0)) (aCons (eC (.int 0)) aNil))) aNil))) (aCons (eTup (aCons (eTup (aCons (eC (.int 0)) (aCons (eC (.int 0)) aNil))) (aCons (eTup (aCons (eC (.int 1)) (aCons (eC (.int 0)) aNil))) aNil))) (aCons (eTup (aCons (eTup (aCons (eC (.int 0)) (aCons (eC (.int 1)) aNil))) (aCons (eTup (aCons (eC (.int 1)) (aCons (eC (.int 0)) aNil))) aNil))) (aCons (eTup (aCons (eTup (aCons (eC (.int 1)) (aCons (eC (.int 0)) aNil))) (aCons (eTup (aCons (eC (.int 0)) (aCons (eC (.int 0)) aNil))) aNil))) aNil))))) (HF.eP (eCallM (denIO 4 F__law_take) (aCons (eVar 1) (aCons (eC (.int 2)) aNil)))) eNoP) eNoP (HF.eP (eVar 21)))
    (Z ns tp (sV n) (sV top) none (sV m) x22) (eT ((four.drop d).take m)) false (Z ns tp' (sV n) (sV top) none (sV m) x22) ∧ Tp N tp' := by
  obtain ⟨d, tp', e, h0, h2, h3⟩ := take_at tk_eq (s := Z ns tp (sV n) (sV top) none (sV m) x22) (i := 1) rfl ht (ev_c (p := .int 2)) (by decide) (by decide)
  have e : eCallM (denIO 4 F__law_take) (aCons (eVar 1) (aCons (eC (.int 2)) aNil)) (Z ns tp (sV n) (sV top) none (sV m) x22) = .ok (.val (.int d) false) (Z ns tp' (sV n) (sV top) none (sV m) x22) := e
  refine ⟨d.toNat, tp', by omega, ?_, h3⟩
  have ef : ∀ s : SE, (eTup (aCons (eTup (aCons (eTup (aCons (eC (.int 0)) (aCons (eC (.int 1)) aNil))) (aCons (eTup (aCons (eC (.int 0)) (aCons (eC (.int 0)) aNil))) aNil))) (aCons (eTup (aCons (eTup (aCons (eC (.int 0)) (aCons (eC (.int 0)) aNil))) (aCons (eTup (aCons (eC (.int 1)) (aCons (eC (.int 0)) aNil))) aNil))) (aCons (eTup (aCons (eTup (aCons (eC (.int 0)) (aCons (eC (.int 1)) aNil))) (aCons (eTup (aCons (eC (.int 1)) (aCons (eC (.int 0)) aNil))) aNil))) (aCons (eTup (aCons (eTup (aCons (eC (.int 1)) (aCons (eC (.int 0)) aNil))) (aCons (eTup (aCons (eC (.int 0)) (aCons (eC (.int 0)) aNil))) aNil))) aNil))))) s = .ok (.val (eT four) false) s := fun s => by kernel_rfl
  have hd : d = 0 ∨ d = 1 := by omega
  have hmm : m = 1 ∨ m = 2 := by omega
  unfold EvS eSl
  rw [bnd_ok (s' := Z ns tp' (sV n) (sV top) none (sV m) x22) (a := .val (eT (four.drop d.toNat)) false)]
  · rw [bnd_ok (show eNoP _ = .ok none _ from rfl), bnd_ok (show HF.eP (eVar 21) (Z ns tp' (sV n) (sV top) none (sV m) x22) = .ok (some (m : Int)) (Z ns tp' (sV n) (sV top) none (sV m) x22) from rfl)]
    rcases hd with e | e <;> rcases hmm with f | f <;> subst e <;> subst f <;> kernel_rfl
  · rw [bnd_ok (ef _), bnd_ok (show HF.eP (eCallM (denIO 4 F__law_take) (aCons (eVar 1) (aCons (eC (.int 2)) aNil))) (Z ns tp (sV n) (sV top) none (sV m) x22) = .ok (some d) (Z ns tp' (sV n) (sV top) none (sV m) x22) by unfold HF.eP; rw [bnd_ok e]; rfl), bnd_ok (show eNoP _ = .ok none _ from rfl)]
    rcases hd with e | e <;> subst e <;> kernel_rfl
theorem ev_word {ns : List Int} {tp : PV} {N n m top : Nat} {x22 : Option (Bool × PV)} (h1 : 1 ≤ m) (hm : m ≤ 2) (ht : Tp (N + 7) tp) : ∃ (w : List Nat) (tp' : PV), EvS (eOpN opTuple (aCons (eComp [4] (iOf (iVal (eOpN opRange (aCons (eCallM (denIO 4 F__law_take) (aCons (eVar 1) (aCons (eC (.int 7)) aNil))) aNil)))) (gNm 4) (ret true) (eCallM (denIO 4 F__law_take) (aCons (eVar 1) (aCons (eVar 21) aNil)))) aNil))
    (Z ns tp (sV n) (sV top) none (sV m) x22) (eW w) false (Z ns tp' (sV n) (sV top) none (sV m) x22) ∧ w.length ≤ 6 ∧ (∀ k ∈ w, k < m) ∧ Tp N tp' := by
  obtain ⟨d, tp1, e, h0, h2, h3⟩ := take_at tk_eq (s := Z ns tp (sV n) (sV top) none (sV m) x22) (i := 1) (N := N + 6) rfl ht (ev_c (p := .int 7)) (by decide) (by decide)
  have hd : ((d.toNat : Nat) : Int) = d := by omega
  rw [← hd] at e
  have h3 : Tp ((N + 6 - d.toNat) + d.toNat * 1) tp1 := by rw [show N + 6 - d.toNat + d.toNat * 1 = N + 6 by omega]; exact h3
  obtain ⟨w, tp', e2, hl, hR, ht2⟩ := comp_take (β := Nat) (t := 1) (i := 4) (E := (eCallM (denIO 4 F__law_take) (aCons (eVar 1) (aCons (eVar 21) aNil)))) (List.range d.toNat) eI eI (fun k => k < m) 1 (N + 6 - d.toNat) (s := Z ns tp (sV n) (sV top) none (sV m) x22) (s0 := Z ns tp1 (sV n) (sV top) none (sV m) x22) (tp := tp1)
    (iv_rngS (s1 := Z ns tp1 (sV n) (sV top) none (sV m) x22) (evs_opN1 (o := opRange) e rfl) (by omega)) (rl (by omega)) (by simp [Z]) (by decide) rfl (by rw [List.length_range]; exact h3) (fun k hk N tp ht => by
      obtain ⟨d, tp', e, h0, hd, h3⟩ := take_at tk_eq (s := (((Z ns tp1 (sV n) (sV top) none (sV m) x22).set 4 (some (false, eI k))).set 1 (some (true, tp)))) (i := 1) rfl ht (f := eVar 21) (m := m) (fr := false) (ev_var rfl) (by omega) (by omega)
      refine ⟨d.toNat, false, tp', ?_, by omega, h3⟩
      have : eI d.toNat = .int d := by show PV.int ((d.toNat : Nat) : Int) = _; congr 1; omega
      rw [this]
      exact e)
  rw [List.length_range] at hl
  refine ⟨w, tp', evs_opN1 e2 rfl, by omega, hR, ?_⟩
  obtain ⟨c, a, l, e, t, q, h1, h2, h3, h4, h5, h6, h7⟩ := ht2
  exact ⟨c, a, l, e, t, q, h1, h2, h3, h4, h5, h6, by omega⟩
end G18
end

section
set_option Elab.async false
set_option linter.all false
set_option maxRecDepth 100000
set_option maxHeartbeats 2000000
set_option autoImplicit false
set_option exponentiation.threshold 2000
namespace G18
open PySem PySem.Spec PyProof.Rows HF
theorem TV.last {n : Nat} {ts : List Mx} (h : TV n ts) : opIx (eT ts) (.int (-1)) = some (eM (ts.getD (ts.length - 1) []), false) := by
  match ts, h.l1, h.l3 with
  | [a], _, _ => rfl
  | [a, b], _, _ => rfl
  | [a, b, c], _, _ => rfl
  | _ :: _ :: _ :: _ :: _, _, h => simp at h
theorem ev_any {m : Mx} (hl : m.length ≤ 100) {s : SE} {i : Nat} {I : PM (List PV)} (hI : I s = .ok (m.map eR) s) (hi : i < s.length) : Ev (eOpN opAny (aCons (eComp [i] (iOf I) (gNm i) (ret true) (eOpN opAny (aCons (eVar i) aNil))) aNil)) s (.bl (!isZ m)) false := by
  refine ev_opN (rda_cons (Ev.rd (ev_compX m eR (fun r => .bl (r.any fun a => !decide (a = 0))) hI (by rw [sizeLine_eq]; omega) hi fun r hr => ⟨false, ?_⟩)) rda_nil) ?_
  · refine ev_opN (rda_cons (rd_var (b := false) (List.getElem?_set_self hi)) rda_nil) ?_
    show (intsOf _).map _ = _
    rw [intsOf_map]
    rfl
  · show (boolsOf _).map _ = _
    rw [show m.map (fun r => PV.bl (r.any fun a => !decide (a = 0))) = (m.map fun r => r.any fun a => !decide (a = 0)).map PV.bl by simp, boolsOf_map, Option.map_some]
    congr 3
    unfold isZ
    rw [List.any_map, List.not_all_eq_any_not]
    congr 1
    funext r
    simp [List.not_all_eq_any_not]
theorem ne_bl (a : Bool) : opNe (.bl a) (.bl a) = some (.bl false, false) := by
  show sB (!decide (a = a)) = _
  simp
/-- two names over pairs, with a test -/
theorem ev_pairs {s : SE} {i j : Nat} {I : PM (List PV)} {T : PM Bool} {E : PM HF.Arg} {F : List Pr} (c : Pr → Bool) (g : Pr → PV) (hI : I s = .ok (F.map eP) s) (hl : F.length ≤ sizeLine) (hi : i < s.length) (hj : j < s.length) (hij : i ≠ j)
    (hT : ∀ p ∈ F, EvT T ((s.set i (some (false, eW p.1))).set j (some (false, eM p.2))) (c p)) (hE : ∀ p ∈ F, c p = true → ∃ fr, Ev E ((s.set i (some (false, eW p.1))).set j (some (false, eM p.2))) (g p) fr) :
    Ev (eComp [i, j] (iOf I) (gTp 2 (gsCons (gNm i) (gsCons (gNm j) gsNil))) T E) s (.lst ((F.filter c).map g)) true := by
  have key : ∀ (ps : List Pr), (∀ p ∈ ps, p ∈ F) → compL [i, j] (gTp 2 (gsCons (gNm i) (gsCons (gNm j) gsNil))) T E (ps.map eP) ((s.set j none).set i none) = .ok ((ps.filter c).map g) ((s.set j none).set i none) := by
    intro ps
    induction ps with
    | nil => intro _; rfl
    | cons p ps ih =>
      intro hp
      have ih := ih fun q hq => hp q (List.mem_cons_of_mem _ hq)
      have hpF := hp p List.mem_cons_self
      have es : ((((s.set j none).set i none).set i (some (false, eW p.1))).set j (some (false, eM p.2))) = ((s.set i (some (false, eW p.1))).set j (some (false, eM p.2))) := by
        rw [List.set_set, List.set_comm _ _ hij.symm, List.set_set]
      have e1 : nx (gTp 2 (gsCons (gNm i) (gsCons (gNm j) gsNil)) (eP p)) ((s.set j none).set i none) = .ok () ((s.set i (some (false, eW p.1))).set j (some (false, eM p.2))) := by
        unfold nx
        rw [show eP p = .tup [eW p.1, eM p.2] from rfl, g_tp2 (by simpa using hi) (by simpa using hj), es]
      have e2 : wp [i, j] ((s.set i (some (false, eW p.1))).set j (some (false, eM p.2))) = .ok () ((s.set j none).set i none) := by
        show Rs.ok () ((((s.set i (some (false, eW p.1))).set j (some (false, eM p.2))).set j none).set i none) = _
        rw [List.set_set, List.set_comm _ _ hij, List.set_set]
      rw [List.map_cons]
      unfold compL
      rw [bnd_ok e1, bnd_ok (hT p hpF)]
      cases hc : c p with
      | true =>
        obtain ⟨fr, h5⟩ := hE p hpF hc
        rw [if_pos rfl, bnd_ok h5, bnd_ok (show rel1 (Arg.val (g p) fr) _ = .ok (g p) _ from rfl), bnd_ok e2, bnd_ok ih, List.filter_cons, if_pos hc]
        rfl
      | false => rw [if_neg (by simp), bnd_ok e2, ih, List.filter_cons, if_neg (by simp [hc])]
  unfold Ev eComp
  rw [bnd_ok (show iOf I s = .ok (F.map eP, []) s by unfold iOf; rw [bnd_ok hI]; rfl)]
  simp only [List.nil_append, List.length_map, hl, if_true]
  rw [show wipeS s [i, j] = (s.set j none).set i none from rfl, key F fun _ h => h]
  simp only
  rw [show (s.set j none).set i none = wipeS s [i, j] from rfl, unw_wipe]
theorem upto_wds {n : Nat} {ts : List Mx} : ∀ j, BF.upto ts.length (KK n ts) (idn n) j = ((List.range (j + 1)).flatMap (wds ts.length)).map fun w => (w, wT n ts (idn n) w)
  | 0 => by rw [BF.upto]; show AL n ts 0 = _; rw [al_wds]; simp
  | j + 1 => by
    rw [BF.upto, upto_wds j, show List.range (j + 1 + 1) = List.range (j + 1) ++ [j + 1] from List.range_succ, List.flatMap_append, List.map_append]
    show _ ++ AL n ts (j + 1) = _
    rw [al_wds, List.flatMap_singleton]
def LZ (ns : List Int) (tp : PV) (n top m : Nat) (w : List Nat) (ts : List Mx) (x4 x6 x7 x8 x9 x10 x11 x12 x13 x14 x15 x16 x17 x18 x19 x20 : Option (Bool × PV)) : SE :=
  [some (false, .scr ns), some (true, tp), sV n, sV top, x4, some (false, eW w), x6, x7, x8, x9, x10, x11, x12, x13, x14, x15, x16, x17, x18, x19, x20, sV m, some (false, eT ts), none, none, none, none]
section
variable {ns : List Int} {tp : PV} {n top m : Nat} {w : List Nat} {ts : List Mx} {x4 x6 x7 x8 x9 x10 x11 x12 x13 x14 x15 x16 x17 x18 x19 x20 : Option (Bool × PV)}
/-- rows of all lengths -/
theorem l_rows (hm : m ≤ 2) {q : Nat} (hq : q ≤ 7) : ∃ x9', forL (gNm 9) (sSeq (sSet 8 (eOp2 opAdd (eVar 8) (eCall (denOf 7 F__law_words) (aCons (eVar 21) (aCons (eVar 9) aNil)))))
  sNext) ((List.range (q + 1)).map eI) (LZ ns tp n top m w ts x4 x6 x7 (some (true, lW [])) x9 x10 x11 x12 x13 x14 x15 x16 x17 x18 x19 x20) = .ok .next (LZ ns tp n top m w ts x4 x6 x7 (some (true, lW ((List.range (q + 1)).flatMap (wds m)))) x9' x10 x11 x12 x13 x14 x15 x16 x17 x18 x19 x20) := by
  have hw : ∀ j, j ≤ 7 → (wds m j).length ≤ 128 := fun j hj => by rw [wds_len]; exact Nat.le_trans (Nat.pow_le_pow_left hm j) (Nat.pow_le_pow_right (show 0 < 2 by decide) hj)
  obtain ⟨s', h1, hl, x9', e⟩ := for_relN (G := gNm 9) (F := (sSeq (sSet 8 (eOp2 opAdd (eVar 8) (eCall (denOf 7 F__law_words) (aCons (eVar 21) (aCons (eVar 9) aNil)))))
  sNext)) (enc := eI) (step := fun acc j => acc ++ wds m j) (P := fun acc c s => acc.length + c * 128 ≤ 1024 ∧ ∃ x9, s = LZ ns tp n top m w ts x4 x6 x7 (some (true, lW acc)) x9 x10 x11 x12 x13 x14 x15 x16 x17 x18 x19 x20)
    (List.range (q + 1)) [] 0 (LZ ns tp n top m w ts x4 x6 x7 (some (true, lW [])) x9 x10 x11 x12 x13 x14 x15 x16 x17 x18 x19 x20) (fun acc j c s hj ⟨hl, x9, e⟩ => by
      subst e
      have hj := List.mem_range.mp hj
      have hwj := hw j (by omega)
      rw [Nat.succ_mul] at hl
      obtain ⟨fr, d⟩ := d_law_words (m := m) (len := j) (by omega) (by omega)
      refine ⟨_, g_nm (by simp [LZ]), _, sq (s_set (p := lW (acc ++ wds m j)) (fr := true) (ev_op2 (p := lW acc) (q := lW (wds m j)) (rd_var (i := 8) (b := true) rfl) (Ev.rd (ev_call (eva_cons (ev_var (i := 21) (p := .int m) rfl) (eva_cons (ev_var (i := 9) (p := .int j) rfl) eva_nil)) d)) ?_) (by simp [LZ])) rfl, ?_, some (false, eI j), rfl⟩
      · show (if (acc.map eW).length + ((wds m j).map eW).length ≤ sizeLine then _ else _) = _
        rw [if_pos (by rw [List.length_map, List.length_map, sizeLine_eq]; omega)]
        simp [lW]
      · rw [List.length_append]; omega) ⟨by rw [List.length_range]; simp only [List.length_nil]; omega, x9, rfl⟩
  have hf : ∀ (l : List Nat) (acc : List (List Nat)), l.foldl (fun acc j => acc ++ wds m j) acc = acc ++ l.flatMap (wds m) := fun l => by
    induction l with
    | nil => intro acc; simp
    | cons a l ih => intro acc; rw [List.foldl_cons, ih, List.flatMap_cons, List.append_assoc]
  rw [hf, List.nil_append] at e
  exact ⟨x9', by rw [h1, e]⟩
abbrev vW : Pr → PV := fun p => eW p.1
/-- the first of each product -/
theorem l_first (h : TV n ts) (hts : ts.length = m) {U : List (List Nat)} (hU : ∀ u ∈ U, u.length ≤ 100 ∧ ∀ k ∈ u, k < m) (hlU : U.length ≤ 1024) : ∃ x6' x12', forL (gNm 6) (sSeq (sSet 12 (eCall (denOf 7 F__law_table) (aCons (eVar 22) (aCons (eVar 6) aNil))))
  (sSeq (sIf (tBool (eOp2 opNotIn (eVar 12) (eVar 10))) (sSeq (sAsg (eVar 6) (gSubP 10 opSet (eVar 12)))
  (sSeq (sExpr (eMeth 11 opAppend (aCons (eTup (aCons (eVar 6) (aCons (eVar 12) aNil))) aNil)))
  sNext)) sNext)
  sNext)) (U.map eW) (LZ ns tp n top m w ts x4 x6 x7 x8 x9 (some (true, eS vW [])) (some (true, eF [])) x12 x13 x14 x15 x16 x17 x18 x19 x20) = .ok .next (LZ ns tp n top m w ts x4 x6' x7 x8 x9 (some (true, eS vW (BF.new [] (U.map fun u => (u, wT n ts (idn n) u))))) (some (true, eF (BF.new [] (U.map fun u => (u, wT n ts (idn n) u))))) x12' x13 x14 x15 x16 x17 x18 x19 x20) := by
  obtain ⟨s', h1, hl, x6', x12', e⟩ := for_relN (G := gNm 6) (F := (sSeq (sSet 12 (eCall (denOf 7 F__law_table) (aCons (eVar 22) (aCons (eVar 6) aNil))))
  (sSeq (sIf (tBool (eOp2 opNotIn (eVar 12) (eVar 10))) (sSeq (sAsg (eVar 6) (gSubP 10 opSet (eVar 12)))
  (sSeq (sExpr (eMeth 11 opAppend (aCons (eTup (aCons (eVar 6) (aCons (eVar 12) aNil))) aNil)))
  sNext)) sNext)
  sNext))) (enc := eW) (step := fun F u => BF.stepG [] F (u, wT n ts (idn n) u)) (P := fun F c s => F.length + c ≤ 1024 ∧ ∃ x6 x12, s = LZ ns tp n top m w ts x4 x6 x7 x8 x9 (some (true, eS vW F)) (some (true, eF F)) x12 x13 x14 x15 x16 x17 x18 x19 x20)
    U [] 0 (LZ ns tp n top m w ts x4 x6 x7 x8 x9 (some (true, eS vW [])) (some (true, eF [])) x12 x13 x14 x15 x16 x17 x18 x19 x20) (fun F u c s hu ⟨hl, x6, x12, e⟩ => by
      subst e
      obtain ⟨hu1, hu2⟩ := hU u hu
      have d := d_law_table h (w := u) (fun k hk => by rw [hts]; exact hu2 k hk) hu1
      generalize hM : wT n ts (idn n) u = M at d
      refine ⟨_, g_nm (by simp [LZ]), LZ ns tp n top m w ts x4 (some (false, eW u)) x7 x8 x9 (some (true, eS vW (BF.stepG [] F (u, M)))) (some (true, eF (BF.stepG [] F (u, M)))) (some (false, eM M)) x13 x14 x15 x16 x17 x18 x19 x20, ?_, ?_, _, _, rfl⟩
      · refine sq (s_set (ev_call (eva_cons (ev_var (i := 22) rfl) (eva_cons (ev_var (i := 6) rfl) eva_nil)) d) (by simp [LZ])) ?_
        refine sq (si (evt_bool (ev_op2 (rd_var (i := 12) rfl) (rd_var (i := 10) (b := true) rfl) (in_S vW F M))) (fun hc => ?_) (fun hc => ?_)) rfl
        · have hc : BF.has F M = false := by simpa using hc
          have hst : BF.stepG [] F (u, M) = F ++ [(u, M)] := by
            unfold BF.stepG
            rw [List.nil_append, if_neg (by rw [hc]; decide)]
          rw [hst]
          have e1 := set_S vW (F := F) (p := (u, M)) hc (by rw [sizeLine_eq]; omega)
          refine sq (s_sub (p := eW u) (fr := false) (ev_var (i := 6) rfl) (i := 10) rfl (ev_var (i := 12) rfl) e1) (sq (s_app (i := 11) (ps := F.map eP) (q := eP (u, M)) (fr := false) rfl (ev_tup (ps := [eW u, eM M]) (eva_cons (ev_var (i := 6) rfl) (eva_cons (ev_var (i := 12) rfl) eva_nil)) (sl (by simp))) rfl (by rw [List.length_map, sizeLine_eq]; omega)) ?_)
          simp only [eF, List.map_append]
          rfl
        · have hc : BF.has F M = true := by simpa using hc
          have hst : BF.stepG [] F (u, M) = F := by
            unfold BF.stepG
            rw [List.nil_append, if_pos hc]
          rw [hst]
          rfl
      · have : (BF.stepG [] F (u, M)).length ≤ F.length + 1 := by
          unfold BF.stepG
          split
          · omega
          · simp
        omega) ⟨by simp only [List.length_nil]; omega, x6, x12, rfl⟩
  have hf : U.foldl (fun F u => BF.stepG [] F (u, wT n ts (idn n) u)) [] = BF.new [] (U.map fun u => (u, wT n ts (idn n) u)) := by
    have := BF.fold_new [] (U.map fun u => (u, wT n ts (idn n) u)) []
    rw [List.foldl_map] at this
    rw [this]
    rfl
  rw [hf] at e
  exact ⟨x6', x12', by rw [h1, e]⟩
/-! the power that grows -/
def mr (r : List Int) : Int := maxI (r.map fun a => ((a.natAbs : Nat) : Int))
theorem maxI_ge {l : List Int} {x : Int} (h : x ∈ l) : x ≤ maxI l := (maxI_of l (List.ne_nil_of_mem h)).2 x h
theorem big_two {M : Mx} (hM : Sq n M) (hb : big n M = true) : ∃ r ∈ M, 2 ≤ mr r := by
  have : ∃ k, k < n ∧ 2 ≤ (at2 M k k).natAbs := by
    refine Classical.byContradiction fun hno => ?_
    have hle : ∀ k ∈ List.range n, (at2 M k k).natAbs ≤ 1 := fun k hk => by
      refine Classical.byContradiction fun z => hno ⟨k, List.mem_range.mp hk, by omega⟩
    have key : ∀ l : List Nat, (∀ k ∈ l, (at2 M k k).natAbs ≤ 1) → ((l.map fun k => at2 M k k).sum).natAbs ≤ l.length := fun l => by
      induction l with
      | nil => intro _; simp
      | cons a l ih =>
        intro h
        have h1 := ih fun k hk => h k (List.mem_cons_of_mem _ hk)
        have h2 := h a List.mem_cons_self
        simp only [List.map_cons, List.sum_cons, List.length_cons]
        omega
    have h1 := key _ hle
    rw [List.length_range] at h1
    have : decide ((n : Int) < (((tr n M).natAbs : Nat) : Int)) = true := hb
    rw [decide_eq_true_eq] at this
    unfold tr at this
    omega
  obtain ⟨k, hk, h2⟩ := this
  have h1 : k < M.length := by rw [hM.1]; exact hk
  have hr : M.getD k [] ∈ M := by rw [getD_at h1]; exact List.getElem_mem h1
  refine ⟨_, hr, ?_⟩
  have h3 : k < (M.getD k []).length := by rw [hM.2 _ hr]; exact hk
  have ha : at2 M k k ∈ M.getD k [] := by unfold at2; rw [getD_at h3]; exact List.getElem_mem h3
  have := maxI_ge (List.mem_map.mpr ⟨_, ha, rfl⟩ : (((at2 M k k).natAbs : Nat) : Int) ∈ (M.getD k []).map fun a => ((a.natAbs : Nat) : Int))
  unfold mr
  omega
theorem l_power (h : TV n ts) {M : Mx} (hM : Sq n M) (hBM : Bd (27 ^ 7) M) (hb : big n M = true) : ∃ (x4' X : Option (Bool × PV)) (wo : Int), 2 ≤ wo ∧ forL (gNm 4) (sSeq (sSet 16 (eOpN opMax (aCons (eOp2 opAdd (eLst (aCons (eVar 16) aNil)) (eComp [25] (iOf (iVal (eVar 17))) (gNm 25) (ret true) (eOpN opMax (aCons (eComp [26] (iOf (iVal (eVar 25))) (gNm 26) (ret true) (eOpN opAbs (aCons (eVar 26) aNil))) aNil)))) aNil)))
  (sSeq (sSet 17 (eCall (denOf 6 F__law_product) (aCons (eVar 15) (aCons (eVar 17) aNil))))
  sNext)) ((List.range 12).map eI) (LZ ns tp n top m w ts x4 x6 x7 x8 x9 x10 x11 x12 x13 x14 (some (false, eM M)) (sV 0) (some (false, eM M)) x18 x19 x20) = .ok .next (LZ ns tp n top m w ts x4' x6 x7 x8 x9 x10 x11 x12 x13 x14 (some (false, eM M)) (sV wo) X x18 x19 x20) := by
  have h3 := h.n3
  have h1n := h.n1
  obtain ⟨s', h1, hc, X, wo, x4', hs, hX, hBX, hw⟩ := for_relN (G := gNm 4) (F := (sSeq (sSet 16 (eOpN opMax (aCons (eOp2 opAdd (eLst (aCons (eVar 16) aNil)) (eComp [25] (iOf (iVal (eVar 17))) (gNm 25) (ret true) (eOpN opMax (aCons (eComp [26] (iOf (iVal (eVar 25))) (gNm 26) (ret true) (eOpN opAbs (aCons (eVar 26) aNil))) aNil)))) aNil)))
  (sSeq (sSet 17 (eCall (denOf 6 F__law_product) (aCons (eVar 15) (aCons (eVar 17) aNil))))
  sNext))) (enc := eI) (step := fun _ _ => ()) (P := fun (_ : Unit) c s => c ≤ 12 ∧ ∃ (X : Mx) (wo : Int) (x4 : Option (Bool × PV)), s = LZ ns tp n top m w ts x4 x6 x7 x8 x9 x10 x11 x12 x13 x14 (some (false, eM M)) (sV wo) (some (false, eM X)) x18 x19 x20 ∧ Sq n X ∧ Bd (27 ^ (8 * (13 - c))) X ∧ ((c = 12 ∧ X = M) ∨ 2 ≤ wo))
    (List.range 12) () 0 (LZ ns tp n top m w ts x4 x6 x7 x8 x9 x10 x11 x12 x13 x14 (some (false, eM M)) (sV 0) (some (false, eM M)) x18 x19 x20) (fun _ k c s hk ⟨hc, X, wo, x4, hs, hX, hBX, hw⟩ => by
      subst hs
      have hXl : X.length ≤ sizeLine := by rw [hX.1, sizeLine_eq]; omega
      refine ⟨_, g_nm (by simp [LZ]), LZ ns tp n top m w ts (some (false, eI k)) x6 x7 x8 x9 x10 x11 x12 x13 x14 (some (false, eM M)) (sV (maxI (wo :: X.map mr))) (some (false, eM (mul n M X))) x18 x19 x20, ?_, by omega, mul n M X, maxI (wo :: X.map mr), some (false, eI k), rfl, sq_mul, (bd_mul hBM hBX).mono ?_, .inr ?_⟩
      · refine sq (s_set (p := .int (maxI (wo :: X.map mr))) (fr := false) (ev_opN (rda_cons (Ev.rd (ev_op2 (r := .lst ((wo :: X.map mr).map PV.int)) (fr3 := true) (Ev.rd (ev_lst (ps := [.int wo]) (eva_cons (ev_var (i := 16) rfl) eva_nil) (sl (by simp)))) (Ev.rd (ev_compX X eR (fun r => .int (mr r)) (iv_tup (ps := X.map eR) (ev_var (i := 17) rfl)) hXl (by simp [LZ]) fun r hr => ⟨false, ?_⟩)) ?_)) rda_nil) ?_) (by simp [LZ])) (sq (s_set (ev_call (eva_cons (ev_var (i := 15) rfl) (eva_cons (ev_var (i := 17) rfl) eva_nil)) (d_law_product (by omega) hM hX (hBM.small (b27 (by omega))) (hBX.small (b27 (by omega))))) (by simp [LZ])) rfl)
        · have hr2 := hX.2 r hr
          have hne : r ≠ [] := by intro e; rw [e] at hr2; simp at hr2; omega
          refine ev_opN (rda_cons (Ev.rd (ev_compX r PV.int (fun a => .int ((a.natAbs : Nat) : Int)) (iv_tup (ev_var (i := 25) rfl)) (by rw [hr2, sizeLine_eq]; omega) (by simp [LZ]) fun a ha => ⟨false, ?_⟩)) rda_nil) (max_ints hne)
          refine ev_opN (rda_cons (rd_var (i := 26) (b := false) rfl) rda_nil) ?_
          show some (PV.int _, false) = _
          rw [abs_i]
        · show (if 1 + (X.map fun r => PV.int (mr r)).length ≤ sizeLine then _ else _) = _
          rw [if_pos (by rw [List.length_map, hX.1, sizeLine_eq]; omega)]
          simp
        · exact max_ints (xs := wo :: X.map mr) (g := fun x => x) (by simp) |>.trans (by rw [List.map_id'])
      · have e : 27 ^ (8 * (13 - c)) = 27 ^ 8 * 27 ^ (8 * (13 - (c + 1))) := by rw [← Nat.pow_add]; congr 1; omega
        rw [e]
        calc n * (27 ^ 7 * 27 ^ (8 * (13 - (c + 1)))) ≤ 27 * (27 ^ 7 * 27 ^ (8 * (13 - (c + 1)))) := Nat.mul_le_mul_right _ (by omega)
          _ = 27 ^ 8 * 27 ^ (8 * (13 - (c + 1))) := by rw [← Nat.mul_assoc]
      · rcases hw with ⟨_, e⟩ | hw
        · obtain ⟨r, hr, h2⟩ := big_two hM hb
          rw [e]
          have := maxI_ge (l := wo :: M.map mr) (List.mem_cons_of_mem _ (List.mem_map.mpr ⟨r, hr, rfl⟩))
          omega
        · have := maxI_ge (l := wo :: X.map mr) (x := wo) List.mem_cons_self
          omega) ⟨by rw [List.length_range]; omega, M, 0, x4, rfl, hM, hBM.mono (Nat.pow_le_pow_right (by decide) (by rw [List.length_range]; omega)), .inl ⟨by rw [List.length_range], rfl⟩⟩
  refine ⟨x4', some (false, eM X), wo, ?_, by rw [h1, hs]⟩
  rcases hw with ⟨e, _⟩ | hw
  · omega
  · exact hw
end
end G18
end

section
set_option Elab.async false
set_option linter.all false
set_option maxRecDepth 100000
set_option maxHeartbeats 4000000
set_option autoImplicit false
set_option exponentiation.threshold 2000
namespace G18
open PySem PySem.Spec PyProof.Rows HF
theorem tp_less {N M : Nat} {p : PV} (h : Tp N p) (hm : M ≤ N) : Tp M p := by
  obtain ⟨c, a, l, e, t, q, h1, h2, h3, h4, h5, h6, h7⟩ := h
  exact ⟨c, a, l, e, t, q, h1, h2, h3, h4, h5, h6, by omega⟩
theorem l_four {ns : List Int} {tp : PV} {N n m top : Nat} {ts0 : List Mx} (h0 : TV n ts0) (hl0 : ts0.length = m) (h1 : 1 ≤ m) (hm : m ≤ 2) (ht : Tp (N + 2) tp) : ∃ (ts : List Mx) (tp' : PV), TV n ts ∧ ts.length = m ∧ Tp N tp' ∧ (sIf (tAndP (tBool (eOp2 opEq (eCallM (denIO 4 F__law_take) (aCons (eVar 1) (aCons (eC (.int 3)) aNil))) (eC (.int 0)))) (tBool (eOp2 opEq (eVar 2) (eC (.int 2))))) (sSeq (sSet 22 (eSl (eSl (eTup (aCons (eTup (aCons (eTup (aCons (eC (.int 0)) (aCons (eC (.int 1)) aNil))) (aCons (eTup (aCons (eC (.int 0)) (aCons (eC (.int 0)) aNil))) aNil))) (aCons (eTup (aCons (eTup (aCons (eC (.int 0)) (aCons (eC (.int 0)) aNil))) (aCons (eTup (aCons (eC (.int 1)) (aCons (eC (.int 0)) aNil))) aNil))) (aCons (eTup (aCons (eTup (aCons (eC (.int 0)) (aCons (eC (.int 1)) aNil))) (aCons (eTup (aCons (eC (.int 1)) (aCons (eC (.int 0)) aNil))) aNil))) (aCons (eTup (aCons (eTup (aCons (eC (.int 1)) (aCons (eC (.int 0)) aNil))) (aCons (eTup (aCons (eC (.int 0)) (aCons (eC (.int 0)) aNil))) aNil))) aNil))))) (HF.eP (eCallM (denIO 4 F__law_take) (aCons (eVar 1) (aCons (eC (.int 2)) aNil)))) eNoP) eNoP (HF.eP (eVar 21))))
  sNext) sNext) (Z ns tp (sV n) (sV top) none (sV m) (some (false, eT ts0))) = .ok .next (Z ns tp' (sV n) (sV top) none (sV m) (some (false, eT ts))) := by
  obtain ⟨d, tp1, e, g0, g2, g3⟩ := take_at tk_eq (s := Z ns tp (sV n) (sV top) none (sV m) (some (false, eT ts0))) (i := 1) (N := N + 1) rfl ht (ev_c (p := .int 3)) (by decide) (by decide)
  have c := evts_and (evts_bool (evs_op2 (o := opEq) e (show EvS (eC (.int 0)) (Z ns tp1 (sV n) (sV top) none (sV m) (some (false, eT ts0))) (.int 0) false _ from ev_c) (eq_ii _ _))) fun _ => evt_bool (ev_op2 (rd_var (i := 2) (b := false) (p := .int n) rfl) (ev_c (p := .int 2)).rd (eq_ii _ _))
  cases hb : (decide (d = 0) && decide ((n : Int) = 2)) with
  | false =>
    rw [hb] at c
    exact ⟨ts0, tp1, h0, hl0, tp_less g3 (by omega), siS c (fun z => by cases z) fun _ => rfl⟩
  | true =>
    rw [hb] at c
    have hn : n = 2 := by
      rw [Bool.and_eq_true, decide_eq_true_eq, decide_eq_true_eq] at hb
      omega
    subst hn
    obtain ⟨d2, tp2, hd2, e2, g4⟩ := ev_four (ns := ns) (N := N) (n := 2) (m := m) (top := top) (x22 := some (false, eT ts0)) h1 hm g3
    obtain ⟨v1, v2⟩ := tv_four hd2 h1 hm
    exact ⟨_, tp2, v1, v2, g4, siS c (fun _ => sq (s_setS e2 (by simp [Z])) rfl) fun z => by cases z⟩
theorem evs_pairs {s s1 : SE} {i j : Nat} {I : PM (List PV)} {T : PM Bool} {E : PM HF.Arg} {F : List Pr} (c : Pr → Bool) (g : Pr → PV) (hI : I s = .ok (F.map eP) s1) (hl : F.length ≤ sizeLine) (hi : i < s1.length) (hj : j < s1.length) (hij : i ≠ j)
    (hT : ∀ p ∈ F, EvT T ((s1.set i (some (false, eW p.1))).set j (some (false, eM p.2))) (c p)) (hE : ∀ p ∈ F, c p = true → ∃ fr, Ev E ((s1.set i (some (false, eW p.1))).set j (some (false, eM p.2))) (g p) fr) :
    EvS (eComp [i, j] (iOf I) (gTp 2 (gsCons (gNm i) (gsCons (gNm j) gsNil))) T E) s (.lst ((F.filter c).map g)) true s1 := by
  have := ev_pairs (I := ret (F.map eP)) (s := s1) c g rfl hl hi hj hij hT hE
  unfold Ev eComp at this
  unfold EvS eComp
  rw [bnd_ok (show iOf I s = .ok (F.map eP, []) s1 by unfold iOf; rw [bnd_ok hI]; rfl)]
  rw [bnd_ok (show iOf (ret (F.map eP)) s1 = .ok (F.map eP, []) s1 from rfl)] at this
  exact this
theorem ev_head {s : SE} {i : Nat} {b : Bool} {F : List Pr} {c : Pr → Bool} (h : s[i]? = some (some (b, .lst ((F.filter c).map vW)))) : Ev (eIf (tBool (eOp2 opGt (eOpN opLen (aCons (eVar i) aNil)) (eC (.int 0)))) (eOp2 opIx (eVar i) (eC (.int 0))) (eC .non)) s (opt (F.find? c)) false := by
  rw [← List.head?_filter]
  generalize F.filter c = L at h
  refine ev_if (b := decide (0 < (L.length : Int))) (evt_bool (fr := false) (ev_op2 (p := .int L.length) (q := .int 0) (Ev.rd (ev_opN (r := .int L.length) (fr3 := false) (rda_cons (rd_var h) rda_nil) ?_)) ev_c.rd rfl)) (fun hb => ?_) fun hb => ?_
  · show some (PV.int _, false) = _
    rw [List.length_map]
  · cases L with
    | nil => exact absurd (of_decide_eq_true hb) (by simp)
    | cons p L =>
      refine ev_op2 (rd_var h) ev_c.rd ?_
      have e := ix_nat (xs := (p :: L).map vW) (i := 0) (by simp)
      show (L2.atI ((p :: L).map vW) ((0 : Nat) : Int)).map _ = _
      rw [e]
      rfl
  · cases L with
    | nil => exact ev_c
    | cons p L => exact absurd (of_decide_eq_false hb) (by simp)
theorem okb_opt (o : Option Pr) : okb 60 (opt o) = true := by
  cases o with
  | none => rfl
  | some p => exact okb_W 59 _
theorem l_grow {ns : List Int} {tp : PV} {n top m q : Nat} {w : List Nat} {ts : List Mx} {F : List Pr} {x4 x6 x7 x8 x9 x10 x11 x12 x13 x15 x16 x17 x18 x19 x20 : Option (Bool × PV)} (h : TV n ts) (hF : ∀ p ∈ F, p.2 = wT n ts (idn n) p.1 ∧ (∀ k ∈ p.1, k < ts.length) ∧ p.1.length ≤ 7) :
    ∃ x4' x15' x16' x17', (sIf (tBool (eOp2 opGt (eOpN opLen (aCons (eVar 14) aNil)) (eC (.int 0)))) (sSeq (sPar 15 16 (eCall (denOf 7 F__law_table) (aCons (eVar 22) (aCons (eOp2 opIx (eVar 14) (eC (.int 0))) aNil))) (eC (.int 0)))
  (sSeq (sSet 17 (eVar 15))
  (sSeq (sFor (iVal (eOpN opRange (aCons (eC (.int 12)) aNil))) (gNm 4) (sSeq (sSet 16 (eOpN opMax (aCons (eOp2 opAdd (eLst (aCons (eVar 16) aNil)) (eComp [25] (iOf (iVal (eVar 17))) (gNm 25) (ret true) (eOpN opMax (aCons (eComp [26] (iOf (iVal (eVar 25))) (gNm 26) (ret true) (eOpN opAbs (aCons (eVar 26) aNil))) aNil)))) aNil)))
  (sSeq (sSet 17 (eCall (denOf 6 F__law_product) (aCons (eVar 15) (aCons (eVar 17) aNil))))
  sNext)))
  (sSeq (sIf (tBool (eOp2 opLt (eVar 16) (eC (.int 2)))) (sSeq (sRet (eC (.bl false)))
  sNext) sNext)
  sNext)))) sNext) (LZ ns tp n top m w ts x4 x6 x7 x8 x9 x10 x11 x12 x13 (some (true, .lst ((F.filter fun p => big n p.2).map vW))) x15 x16 x17 x18 x19 x20)
    = .ok .next (LZ ns tp n top m w ts x4' x6 x7 x8 x9 x10 x11 x12 x13 (some (true, .lst ((F.filter fun p => big n p.2).map vW))) x15' x16' x17' x18 x19 x20) := by
  have hn3 := h.n3
  have ct : ∀ L : List Pr, EvT (tBool (eOp2 opGt (eOpN opLen (aCons (eVar 14) aNil)) (eC (.int 0)))) (LZ ns tp n top m w ts x4 x6 x7 x8 x9 x10 x11 x12 x13 (some (true, .lst (L.map vW))) x15 x16 x17 x18 x19 x20) (decide (0 < (L.length : Int))) := fun L =>
    evt_bool (fr := false) (ev_op2 (p := .int L.length) (q := .int 0) (Ev.rd (ev_opN (r := .int L.length) (fr3 := false) (rda_cons (rd_var (i := 14) (b := true) rfl) rda_nil) (by show some (PV.int _, false) = _; rw [List.length_map]))) ev_c.rd rfl)
  have hm : ∀ p ∈ F.filter fun p => big n p.2, p ∈ F ∧ big n p.2 = true := fun p hp => List.mem_filter.mp hp
  generalize (F.filter fun p => big n p.2) = L at hm
  cases L with
  | nil => exact ⟨x4, x15, x16, x17, sno (ct []) rfl⟩
  | cons p L =>
    obtain ⟨hpF, hb⟩ := hm p List.mem_cons_self
    obtain ⟨eT', hk, hl⟩ := hF p hpF
    have dT := d_law_table h hk (by omega)
    obtain ⟨sM, bM⟩ := wT_ok h p.1 (idn n) 0 hk sq_id bd_id
    rw [← eT'] at dT sM bM
    obtain ⟨x4', X, wo, hwo, hp⟩ := l_power (ns := ns) (tp := tp) (n := n) (top := top) (m := m) (w := w) (ts := ts) (x4 := x4) (x6 := x6) (x7 := x7) (x8 := x8) (x9 := x9) (x10 := x10) (x11 := x11) (x12 := x12) (x13 := x13) (x14 := some (true, .lst ((p :: L).map vW))) (x18 := x18) (x19 := x19) (x20 := x20) h sM (bM.mono (Nat.pow_le_pow_right (by decide) (by omega))) hb
    have e0 : opIx (.lst ((p :: L).map vW)) (.int 0) = some (eW p.1, false) := by
      have e := ix_nat (xs := (p :: L).map vW) (i := 0) (by simp)
      show (L2.atI ((p :: L).map vW) ((0 : Nat) : Int)).map _ = _
      rw [e]
      rfl
    refine ⟨x4', some (false, eM p.2), sV wo, X, si (ct (p :: L)) (fun _ => ?_) fun z => absurd (of_decide_eq_false z) (by simp)⟩
    refine sq (s_par (p := eM p.2) (fr := false) (q := .int 0) (fr2 := false) (show EvS _ _ _ _ _ from ev_call (eva_cons (ev_var (i := 22) rfl) (eva_cons (ev_op2 (rd_var (i := 14) (b := true) rfl) ev_c.rd e0) eva_nil)) dT) (show EvS _ _ _ _ _ from ev_c) (by simp [LZ]) (by simp [LZ])) ?_
    refine sq (s_set (p := eM p.2) (fr := false) (ev_var (i := 15) rfl) (by simp [LZ])) (sq (sf (iv_rng (n := 12) (ev_opN (rda_cons ev_c.rd rda_nil) rfl) (by decide)) hp) ?_)
    refine sq (sno (evt_bool (fr := false) (ev_op2 (p := .int wo) (q := .int 2) (rd_var (i := 16) (b := false) rfl) ev_c.rd ?_)) rfl) rfl
    show some (PV.bl (decide (wo < 2)), false) = _
    rw [decide_eq_false (by omega)]
theorem short_eq {n : Nat} {ts : List Mx} (j : Nat) : (RD n ts (j + 1)).filter (fun p => decide (p.1.length < j + 1)) = RD n ts j := by
  have e1 : RD n ts (j + 1) = RD n ts j ++ (BF.rnd ts.length (KK n ts) (idn n) (j + 1)).2 := rfl
  rw [e1, List.filter_append, List.filter_eq_self.mpr, List.filter_eq_nil_iff.mpr, List.append_nil]
  · intro p hp
    have := (BF.rnd_len ts.length (KK n ts) (idn n) (j + 1)).2 p hp
    simp only [decide_eq_true_eq]
    omega
  · intro p hp
    have := (BF.rnd_len ts.length (KK n ts) (idn n) j).1 p hp
    simp only [decide_eq_true_eq]
    omega
/-- refused -/
theorem evt_ref {cs : Str → Bool} {den : Den} {c : Str} {fs : PM (List HF.Arg)} {s : SE} {ps : List PV} (ha : RdA fs s ps) (hd : den ps = .exc c) (hc : cs c = true) : EvT (tRef cs (eCall den fs)) s true := by
  unfold EvT tRef
  rw [exc_call ha hd]
  simp only [hc, if_true]
theorem it_ok : (fun n : Str => decide (n ∈ (["InvalidTable"] : List Str))) "InvalidTable" = true := by decide
theorem for_step {G : PV → PM Unit} {F : PM Fl} {p : PV} {ps : List PV} {s s1 s2 : SE} {r : Rs Fl} (h1 : G p s = .ok () s1) (h2 : F s1 = .ok .next s2) (h3 : forL G F ps s2 = r) : forL G F (p :: ps) s = r := by
  unfold forL
  rw [bnd_ok (show nx (G p) s = .ok () s1 from by unfold nx; rw [h1])]
  simp only [h2, h3]
theorem bad_step {s : SE} {b : PV} (hb : denOf 7 F_word_table [b, .tup []] = .exc "InvalidTable") (hs : s[20]? = some (some (false, b))) : (sSeq (sIf (tNotP (tRef (fun n => decide (n ∈ (["InvalidTable"] : List Str))) (eCall (denOf 7 F_word_table) (aCons (eVar 20) (aCons (eTup aNil) aNil))))) (sSeq (sRet (eC (.bl false)))
  sNext) sNext)
  sNext) s = .ok .next s :=
  sq (sno (evt_not (evt_ref (rda_cons (rd_var hs) (rda_cons (ev_tup eva_nil (by decide)).rd rda_nil)) hb it_ok)) rfl) rfl
theorem law_run {ns : List Int} (hl : ns.length ≤ 63) : ∃ s', F_law (st0 27 [.scr ns]) = .ok (.ret (.val (.bl true) false)) s' := by
  obtain ⟨tp0, e0, t0⟩ := d_tape hl (N := 1000) (by decide)
  unfold F_law
  refine sqx (s1 := Z ns tp0 none none none none none) (s_set (p := tp0) (fr := true) (ev_call (eva_cons (ev_var rfl) eva_nil) e0) (by simp [st0])) ?_
  obtain ⟨n, tp1, e1, n1, n2, t1⟩ := ev_dim (ns := ns) (x2 := none) (x3 := none) (x5 := none) (x21 := none) (x22 := none) (N := 999) t0
  obtain ⟨m, tp2, e2, m1, m2, t2⟩ := ev_dim (ns := ns) (x2 := none) (x3 := none) (x5 := none) (x21 := none) (x22 := none) (N := 998) t1
  obtain ⟨top, tp3, e3, p1, p2, t3⟩ := ev_dim (ns := ns) (x2 := none) (x3 := none) (x5 := none) (x21 := none) (x22 := none) (N := 997) t2
  refine sqx (s1 := Z ns tp3 (sV n) (sV top) none (sV m) none) (s_par3 e1 e2 e3 (by simp [Z]) (by simp [Z]) (by simp [Z])) ?_
  obtain ⟨ts0, tp4, e4, hl0, hR, t4⟩ := ev_tables (ns := ns) (N := 989) (n := n) (m := m) (top := top) n2 m2 p2 t3
  refine sqx (s1 := Z ns tp4 (sV n) (sV top) none (sV m) (some (false, eT ts0))) (s_setS e4 (by simp [Z])) ?_
  have h0 : TV n ts0 := ⟨by omega, by omega, n1, by omega, fun t ht => (hR t ht).1, fun t ht r hr a ha => by have ⟨x, y⟩ := (hR t ht).2 r hr a ha; constructor <;> omega⟩
  obtain ⟨ts, tp5, h, hts, t5, e5⟩ := l_four (ns := ns) (N := 987) (top := top) h0 hl0 m1 m2 t4
  refine sqx e5 ?_
  obtain ⟨w, tp6, e6, hw6, hwm, t6⟩ := ev_word (ns := ns) (N := 980) (n := n) (m := m) (top := top) (x22 := some (false, eT ts)) m1 m2 t5
  refine sqx (s1 := LZ ns tp6 n top m w ts none none none none none none none none none none none none none none none none) (s_setS e6 (by simp [Z])) ?_
  have hwt : ∀ k ∈ w, k < ts.length := fun k hk => by rw [hts]; exact hwm k hk
  have d1 := d_word_table h hwt (by omega)
  have d2 := d_law_table h hwt (by omega)
  have sT := wT_ok h w (idn n) 0 hwt sq_id bd_id
  generalize hT : wT n ts (idn n) w = T at d1 d2 sT
  have a0 := h.at (k := 0) (by omega)
  have a9 := h.at (k := ts.length - 1) (by omega)
  -- products agree
  refine sqx (sno (evt_or (b := false) (b2 := false) (evt_bool (ev_op2 (p := eM T) (q := eM T) (Ev.rd (ev_call (eva_cons (ev_var (i := 22) rfl) (eva_cons (ev_var (i := 5) rfl) eva_nil)) d1)) (Ev.rd (ev_call (eva_cons (ev_var (i := 22) rfl) (eva_cons (ev_var (i := 5) rfl) eva_nil)) d2)) (ne_same (okb_M 58 _)))) fun _ => evt_bool (ev_op2 (Ev.rd (ev_call (eva_cons (ev_op2 (rd_var (i := 22) rfl) ev_c.rd a0.1) (eva_cons (ev_op2 (rd_var (i := 22) rfl) (ev_op1 (o := opNeg) (ev_c (p := .int 1)).rd rfl).rd h.last) eva_nil)) (d_times_whole (by omega) a0.2.1 a9.2.1 (a0.2.2.small (by decide)) (a9.2.2.small (by decide))))) (Ev.rd (ev_call (eva_cons (ev_op2 (rd_var (i := 22) rfl) ev_c.rd a0.1) (eva_cons (ev_op2 (rd_var (i := 22) rfl) (ev_op1 (o := opNeg) (ev_c (p := .int 1)).rd rfl).rd h.last) eva_nil)) (d_law_product (by omega) a0.2.1 a9.2.1 (a0.2.2.small (by decide)) (a9.2.2.small (by decide))))) (ne_same (okb_M 58 _)))) rfl) ?_
  have iT : ∀ {s : SE}, s[22]? = some (some (false, eT ts)) → s[5]? = some (some (false, eW w)) → Ev (eCall (denOf 7 F__law_table) (aCons (eVar 22) (aCons (eVar 5) aNil))) s (eM T) false := fun h1 h2 => ev_call (eva_cons (ev_var h1) (eva_cons (ev_var h2) eva_nil)) d2
  have hn3 := h.n3
  have lT : T.length ≤ 100 := by rw [sT.1.1]; omega
  -- is_nought
  refine sqx (sno (evt_bool (ev_op2 (p := .bl (isZ T)) (q := .bl (isZ T)) (Ev.rd (ev_call (eva_cons (iT rfl rfl) eva_nil) (d_is_nought lT))) (Ev.rd (by
    have := ev_not (f := eOpN opAny (aCons (eComp [6] (iOf (iVal (eCall (denOf 7 F__law_table) (aCons (eVar 22) (aCons (eVar 5) aNil))))) (gNm 6) (ret true) (eOpN opAny (aCons (eVar 6) aNil))) aNil)) (Ev.rd (ev_any lT (iv_tup (iT (s := LZ ns tp6 n top m w ts none none none none none none none none none none none none none none none none) rfl rfl)) (by simp [LZ]))) (b := !isZ T) rfl
    rw [Bool.not_not] at this
    exact this)) (ne_bl _))) rfl) ?_
  -- most
  have hmost : ∃ q : Nat, q = (if m = 2 then 5 else 7) := ⟨_, rfl⟩
  obtain ⟨q, hq⟩ := hmost
  have hq7 : q ≤ 7 := by rw [hq]; split <;> omega
  have hq1 : 1 ≤ q := by rw [hq]; split <;> omega
  refine sqx (s1 := LZ ns tp6 n top m w ts none none (sV q) none none none none none none none none none none none none none) (s_set (p := .int q) (fr := false) (ev_if (evt_bool (ev_op2 (rd_var (i := 21) (b := false) (p := .int m) rfl) ev_c.rd (eq_ii _ _))) (fun hb => ?_) fun hb => ?_) (by simp [LZ])) ?_
  · have : m = 2 := by have := of_decide_eq_true hb; omega
    rw [hq, if_pos this]; exact ev_c
  · have : m ≠ 2 := by have := of_decide_eq_false hb; omega
    rw [hq, if_neg this]; exact ev_c
  refine sqx (s_set (ev_lst (ps := []) eva_nil (sl (by simp))) (by simp [LZ])) ?_
  obtain ⟨x9, hrows⟩ := l_rows (ns := ns) (tp := tp6) (n := n) (top := top) (m := m) (w := w) (ts := ts) (x4 := none) (x6 := none) (x7 := sV q) (x9 := none) (x10 := none) (x11 := none) (x12 := none) (x13 := none) (x14 := none) (x15 := none) (x16 := none) (x17 := none) (x18 := none) (x19 := none) (x20 := none) m2 hq7
  refine sqx (sf (iv_rng (n := q + 1) (ev_opN (rda_cons (Ev.rd (ev_op2 (p := .int q) (q := .int 1) (r := .int ((q + 1 : Nat) : Int)) (fr3 := false) (rd_var (i := 7) (b := false) rfl) ev_c.rd rfl)) rda_nil) rfl) (by omega)) hrows) ?_
  have hcn : ∀ j, j ≤ 7 → BF.cnt ts.length j ≤ 1000 := fun j hj => by
    rw [hts]
    have hm : m = 1 ∨ m = 2 := by omega
    have : ∀ j : Fin 8, BF.cnt 1 j ≤ 1000 ∧ BF.cnt 2 j ≤ 1000 := by decide
    have := this ⟨j, by omega⟩
    rcases hm with e | e <;> subst e
    · exact this.1
    · exact this.2
  have hCN : CN ts q := ⟨by omega, fun j hj => Nat.le_trans (hcn j (by omega)) (by decide)⟩
  generalize hU : (List.range (q + 1)).flatMap (wds m) = U
  have eU : BF.upto ts.length (KK n ts) (idn n) q = U.map fun w => (w, wT n ts (idn n) w) := by rw [upto_wds, hts, hU]
  have eRD : RD n ts q = BF.new [] (U.map fun w => (w, wT n ts (idn n) w)) := by rw [← eU]; exact (BF.rnd_all ts.length (KK n ts) (idn n) q).1
  have lU : U.length ≤ 1000 := by
    have := BF.upto_len ts.length (KK n ts) (idn n) q
    rw [eU, List.length_map] at this
    rw [this]
    exact hcn q hq7
  have mU : ∀ u ∈ U, u.length ≤ 100 ∧ ∀ k ∈ u, k < m := fun u hu => by
    rw [← hU] at hu
    obtain ⟨j, hj, hu⟩ := List.mem_flatMap.mp hu
    have hj := List.mem_range.mp hj
    obtain ⟨a, b⟩ := wds_mem m j u hu
    exact ⟨by omega, b⟩
  refine sqx (s_par (p := eS vW []) (fr := true) (q := eF []) (fr2 := true) (show EvS (eNewD 1) _ _ _ _ from rfl) (show EvS (eLst aNil) _ _ _ _ from ev_lst (ps := []) eva_nil (sl (by simp))) (by simp [LZ]) (by simp [LZ])) ?_
  obtain ⟨x6, x12, hfirst⟩ := l_first (ns := ns) (tp := tp6) (n := n) (top := top) (m := m) (w := w) (ts := ts) (x4 := none) (x6 := none) (x7 := sV q) (x8 := some (false, lW U)) (x9 := x9) (x12 := none) (x13 := none) (x14 := none) (x15 := none) (x16 := none) (x17 := none) (x18 := none) (x19 := none) (x20 := none) h hts mU (by omega)
  rw [← eRD] at hfirst
  refine sqx (sf (iv_any (b := true) (ps := U.map eW) rfl) hfirst) ?_
  have dW := d_words h hCN.1 hCN.2
  have lRD : (RD n ts q).length ≤ 1000 := Nat.le_trans (BF.rnd_cnt ts.length (KK n ts) (idn n) q) (hcn q hq7)
  have gRD := rnd_good h (j := q) (by omega)
  -- words_up_to
  refine sqx (sno (evt_bool (ev_op2 (p := eF (RD n ts q)) (q := eF (RD n ts q)) (Ev.rd (ev_call (eva_cons (ev_var (i := 22) rfl) (eva_cons (ev_var (i := 7) (p := .int q) rfl) eva_nil)) dW)) (rd_var (i := 11) (b := true) rfl) (ne_same (okb_F 56 _)))) rfl) ?_
  -- noughts
  have szRD : (RD n ts q).length ≤ sizeLine := by rw [sizeLine_eq]; omega
  refine sqx (s_setS (evs_pairs (F := RD n ts q) (fun p => isZ p.2) vW (iv_any (i := 11) (b := true) rfl) szRD (by simp [LZ]) (by simp [LZ]) (by decide) (fun p hp => ?_) fun p hp _ => ⟨false, ev_var (i := 6) rfl⟩) (by simp [LZ])) ?_
  · have g := gRD p hp
    have t := evt_not (evt_tru (Ev.rd (ev_any (m := p.2) (i := 25) (I := iVal (eVar 12)) (s := (((LZ ns tp6 n top m w ts none x6 (sV q) (some (false, lW U)) x9 (some (true, eS vW (RD n ts q))) (some (false, eF (RD n ts q))) x12 none none none none none none none none).set 6 (some (false, eW p.1))).set 12 (some (false, eM p.2)))) (by rw [g.sq.1]; omega) (iv_tup (ps := p.2.map eR) (ev_var rfl)) (by simp [LZ]))) (b := !isZ p.2) rfl)
    rw [Bool.not_not] at t
    exact t
  refine sqx (sno (evt_bool (ev_op2 (p := opt ((RD n ts q).find? fun p => isZ p.2)) (q := opt ((RD n ts q).find? fun p => isZ p.2)) (Ev.rd (ev_call (eva_cons (ev_var (i := 22) rfl) (eva_cons (ev_var (i := 7) (p := .int q) rfl) eva_nil)) (d_nought h hCN))) (Ev.rd (ev_head (i := 13) (b := true) rfl)) (ne_same (okb_opt _)))) rfl) ?_
  -- grows
  refine sqx (s_setS (evs_pairs (F := RD n ts q) (fun p => big n p.2) vW (iv_any (i := 11) (b := false) rfl) szRD (by simp [LZ]) (by simp [LZ]) (by decide) (fun p hp => ?_) fun p hp _ => ⟨false, ev_var (i := 6) rfl⟩) (by simp [LZ])) ?_
  · have g := gRD p hp
    exact evt_bool (fr := false) (ev_op2 (o := opGt) (p := .int (tr n p.2).natAbs) (q := .int n) (Ev.rd (ev_tr (f := eVar 12) (i := 4) (n := n) (m := p.2) g.sq (by omega) (iv_rng (n := n) (f := eOpN opRange (aCons (eVar 2) aNil)) (ev_opN (rda_cons (rd_var (i := 2) rfl) rda_nil) rfl) (by omega)) (fun x => rd_var (b := false) rfl) (by simp [LZ]))) (rd_var (i := 2) rfl) rfl)
  refine sqx (sno (evt_bool (ev_op2 (p := opt ((RD n ts q).find? fun p => big n p.2)) (q := opt ((RD n ts q).find? fun p => big n p.2)) (Ev.rd (ev_call (eva_cons (ev_var (i := 22) rfl) (eva_cons (ev_var (i := 7) (p := .int q) rfl) eva_nil)) (d_growing h hCN))) (Ev.rd (ev_head (i := 14) (b := true) rfl)) (ne_same (okb_opt _)))) rfl) ?_
  -- takes_growing
  have dt := d_takes_growing h hwt (by omega)
  rw [hT] at dt
  refine sqx (sno (evt_bool (ev_op2 (p := .bl (big n T)) (q := .bl (big n T)) (Ev.rd (ev_call (eva_cons (ev_var (i := 22) rfl) (eva_cons (ev_var (i := 5) rfl) eva_nil)) dt)) (Ev.rd (ev_op2 (o := opGt) (p := .int (tr n T).natAbs) (q := .int n) (fr3 := false) (Ev.rd (ev_tr (f := eCall (denOf 7 F__law_table) (aCons (eVar 22) (aCons (eVar 5) aNil))) (i := 4) (n := n) (m := T) sT.1 (by omega) (iv_rng (n := n) (f := eOpN opRange (aCons (eVar 2) aNil)) (ev_opN (rda_cons (rd_var (i := 2) rfl) rda_nil) rfl) (by omega)) (fun x => Ev.rd (iT rfl rfl)) (by simp [LZ]))) (rd_var (i := 2) rfl) rfl)) (ne_bl _))) rfl) ?_
  have fRD : ∀ p ∈ RD n ts q, p.2 = wT n ts (idn n) p.1 ∧ (∀ k ∈ p.1, k < ts.length) ∧ p.1.length ≤ 7 := fun p hp => by
    obtain ⟨a, b⟩ := (BF.rnd_T ts.length (KK n ts) (idn n) q).1 p hp
    have := (BF.rnd_len ts.length (KK n ts) (idn n) q).1 p hp
    exact ⟨a, b, by omega⟩
  obtain ⟨y4, y15, y16, y17, hgrow⟩ := l_grow (ns := ns) (tp := tp6) (n := n) (top := top) (m := m) (q := q) (w := w) (ts := ts) (F := RD n ts q) (x4 := none) (x6 := x6) (x7 := sV q) (x8 := some (false, lW U)) (x9 := x9) (x10 := some (true, eS vW (RD n ts q))) (x11 := some (false, eF (RD n ts q))) (x12 := x12) (x13 := some (true, .lst (((RD n ts q).filter fun p => isZ p.2).map vW))) (x15 := none) (x16 := none) (x17 := none) (x18 := none) (x19 := none) (x20 := none) h fRD
  refine sqx hgrow ?_
  -- short
  refine sqx (s_setS (evs_pairs (F := RD n ts q) (fun p => decide (p.1.length < q)) vW (iv_any (i := 11) (b := false) rfl) szRD (by simp [LZ]) (by simp [LZ]) (by decide) (fun p hp => ?_) fun p hp _ => ⟨false, ev_var (i := 6) rfl⟩) (by simp [LZ])) ?_
  · have e := evt_bool (fr := false) (ev_op2 (o := opLt) (p := .int p.1.length) (q := .int q) (s := (((LZ ns tp6 n top m w ts y4 x6 (sV q) (some (false, lW U)) x9 (some (true, eS vW (RD n ts q))) (some (false, eF (RD n ts q))) x12 (some (true, .lst (((RD n ts q).filter fun p => isZ p.2).map vW))) (some (true, .lst (((RD n ts q).filter fun p => big n p.2).map vW))) y15 y16 y17 none none none).set 6 (some (false, eW p.1))).set 12 (some (false, eM p.2)))) (Ev.rd (ev_opN (o := opLen) (r := .int p.1.length) (fr3 := false) (rda_cons (rd_var (i := 6) (b := false) (p := eW p.1) rfl) rda_nil) (by show some (PV.int (p.1.map HF.eI).length, false) = _; rw [List.length_map]))) (rd_var (i := 7) (b := false) rfl) rfl)
    have hd : decide ((p.1.length : Int) < (q : Int)) = decide (p.1.length < q) := by simp only [Int.ofNat_lt]
    rw [← hd]
    exact e
  -- closes
  obtain ⟨j, hj⟩ : ∃ j, q = j + 1 := ⟨q - 1, by omega⟩
  subst hj
  rw [short_eq]
  have dC := d_closes h hCN
  have lenle : (RD n ts j).length ≤ (RD n ts (j + 1)).length := by
    show _ ≤ (RD n ts j ++ _).length
    rw [List.length_append]; omega
  generalize hV : (if (RD n ts j).length < (RD n ts (j + 1)).length then PV.non else PV.int (RD n ts j).length) = V at dC
  have okV : okb 60 V = true := by rw [← hV]; split <;> rfl
  have cl : ∀ {s : SE}, s[22]? = some (some (false, eT ts)) → s[7]? = some (sV (j + 1 : Nat)) → Ev (eCall (denOf 3 F_closes_in) (aCons (eVar 22) (aCons (eOp2 opSub (eVar 7) (eC (.int 1))) aNil))) s V false := fun h1 h2 => ev_call (eva_cons (ev_var h1) (eva_cons (ev_op2 (o := opSub) (p := .int (j + 1 : Nat)) (q := .int 1) (r := .int j) (fr3 := false) (rd_var h2) ev_c.rd (by show some (PV.int (((j + 1 : Nat) : Int) - 1), false) = _; rw [show ((j + 1 : Nat) : Int) - 1 = j by omega])) eva_nil)) dC
  have l18 : ∀ {s : SE} {L : List Pr} {i : Nat} {b : Bool}, s[i]? = some (some (b, .lst (L.map vW))) → Ev (eOpN opLen (aCons (eVar i) aNil)) s (.int L.length) false := fun h1 => ev_opN (rda_cons (rd_var h1) rda_nil) (by show some (PV.int _, false) = _; rw [List.length_map])
  have l11 : ∀ {s : SE} {L : List Pr} {i : Nat} {b : Bool}, s[i]? = some (some (b, eF L)) → Ev (eOpN opLen (aCons (eVar i) aNil)) s (.int L.length) false := fun h1 => ev_opN (rda_cons (rd_var h1) rda_nil) (by show some (PV.int _, false) = _; rw [List.length_map])
  refine sqx (sno (evt_bool (ev_op2 (p := V) (q := V) (cl rfl rfl).rd (Ev.rd (fr := false) (ev_if (evt_bool (ev_op2 (l18 (i := 18) (b := true) (L := RD n ts j) rfl).rd (l11 (i := 11) (b := false) (L := RD n ts (j + 1)) rfl).rd (eq_ii _ _))) (fun hb => ?_) fun hb => ?_)) (ne_same okV))) rfl) ?_
  · have := of_decide_eq_true hb
    rw [← hV, if_neg (by omega)]
    exact l18 (i := 18) (b := true) (L := RD n ts j) rfl
  · have := of_decide_eq_false hb
    rw [← hV, if_pos (by omega)]
    exact ev_c
  -- what closes does not grow
  have gt14 : ∀ {s : SE} {L : List Pr}, s[14]? = some (some (true, .lst (L.map vW))) → EvT (tBool (eOp2 opGt (eOpN opLen (aCons (eVar 14) aNil)) (eC (.int 0)))) s (decide (0 < (L.length : Int))) := fun h1 => evt_bool (fr := false) (ev_op2 (p := .int _) (q := .int 0) (l18 h1).rd ev_c.rd rfl)
  have ng : (!isN V && decide (0 < (((RD n ts (j + 1)).filter fun p => big n p.2).length : Int))) = false := by
    by_cases hc : (RD n ts j).length < (RD n ts (j + 1)).length
    · rw [← hV, if_pos hc]; rfl
    · have := no_grow h n2 (j := j) (by omega)
      rw [show (RD n ts (j + 1)).filter (fun p => big n p.2) = [] from List.filter_eq_nil_iff.mpr fun p hp => by rw [this p hp]; decide]
      simp
  have c17 : ∀ {s : SE}, s[22]? = some (some (false, eT ts)) → s[7]? = some (sV (j + 1 : Nat)) → s[14]? = some (some (true, .lst (((RD n ts (j + 1)).filter fun p => big n p.2).map vW))) → EvT (tAndP (tBool (eOp2 opIsNot (eCall (denOf 3 F_closes_in) (aCons (eVar 22) (aCons (eOp2 opSub (eVar 7) (eC (.int 1))) aNil))) (eC .non))) (tBool (eOp2 opGt (eOpN opLen (aCons (eVar 14) aNil)) (eC (.int 0))))) s false := fun h1 h2 h3 => by
    have := evt_and (evt_bool (fr := false) (ev_op2 (o := opIsNot) (p := V) (q := .non) (r := .bl (!isN V)) (cl h1 h2).rd ev_c.rd (by cases V <;> rfl))) fun _ => gt14 h3
    rw [ng] at this
    exact this
  refine sqx (sno (c17 rfl rfl rfl) rfl) ?_
  -- widest
  obtain ⟨d, tp7, e7, g0, g2, t7⟩ := take_at tk_eq (s := (LZ ns tp6 n top m w ts y4 x6 (sV (j + 1 : Nat)) (some (false, lW U)) x9 (some (true, eS vW (RD n ts (j + 1)))) (some (false, eF (RD n ts (j + 1)))) x12 (some (true, .lst (((RD n ts (j + 1)).filter fun p => isZ p.2).map vW))) (some (true, .lst (((RD n ts (j + 1)).filter fun p => big n p.2).map vW))) y15 y16 y17 (some (true, .lst ((RD n ts j).map vW))) none none)) (i := 1) (N := 979) rfl t6 (ev_c (p := .int 5)) (by decide) (by decide)
  obtain ⟨e, he⟩ : ∃ e : Nat, (e : Int) = d := ⟨d.toNat, by omega⟩
  rw [← he] at e7
  refine sqx (s1 := LZ ns tp7 n top m w ts y4 x6 (sV (j + 1 : Nat)) (some (false, lW U)) (sV e) (some (true, eS vW (RD n ts (j + 1)))) (some (false, eF (RD n ts (j + 1)))) x12 (some (true, .lst (((RD n ts (j + 1)).filter fun p => isZ p.2).map vW))) (some (true, .lst (((RD n ts (j + 1)).filter fun p => big n p.2).map vW))) y15 y16 y17 (some (true, .lst ((RD n ts j).map vW))) none none) (s_setS e7 (by simp [LZ])) ?_
  have dw := d_widest h (len := e) (by omega)
  rw [al_wds, List.map_map, hts] at dw
  obtain ⟨fr, dlw⟩ := d_law_words (m := m) (len := e) (by omega) (by omega)
  have hwe : (wds m e).length ≤ 16 := by rw [wds_len]; exact Nat.le_trans (Nat.pow_le_pow_left m2 e) (Nat.le_trans (Nat.pow_le_pow_right (show 0 < 2 by decide) (show e ≤ 4 by omega)) (by decide))
  have hne : wds m e ≠ [] := List.ne_nil_of_length_pos (by rw [wds_len]; exact Nat.pow_pos m1)
  refine sqx (s_set (p := .int (maxI ((wds m e).map fun u => wid (wT n ts (idn n) u)))) (fr := false) (ev_opN (rda_cons (Ev.rd (ev_compX (wds m e) eW (fun u => .int (wid (wT n ts (idn n) u))) (iv_lst (ps := (wds m e).map eW) (ev_call (eva_cons (ev_var (i := 21) (p := .int m) rfl) (eva_cons (ev_var (i := 9) (p := .int e) rfl) eva_nil)) dlw)) (by rw [sizeLine_eq]; omega) (by simp [LZ]) fun u hu => ⟨false, ?_⟩)) rda_nil) (max_ints hne)) (by simp [LZ])) ?_
  · obtain ⟨a, b⟩ := wds_mem m e u hu
    have hu2 : ∀ k ∈ u, k < ts.length := fun k hk => by rw [hts]; exact b k hk
    have du := d_law_table h hu2 (by omega)
    have su := (wT_ok h u (idn n) 0 hu2 sq_id bd_id).1
    exact ev_wid su (by omega) n1 (i := 25) (j := 26) (iv_tup (ps := (wT n ts (idn n) u).map eR) (ev_call (eva_cons (ev_var (i := 22) rfl) (eva_cons (ev_var (i := 6) rfl) eva_nil)) du)) (by simp [LZ]) (by simp [LZ]) (by decide)
  refine sqx (sno (evt_bool (ev_op2 (p := .int _) (q := .int _) (Ev.rd (ev_call (eva_cons (ev_var (i := 22) rfl) (eva_cons (ev_var (i := 9) (p := .int e) rfl) eva_nil)) dw)) (rd_var (i := 19) (b := false) rfl) (ne_same (okb_int _ _)))) rfl) ?_
  -- refusals
  refine sqx (s1 := (((LZ ns tp7 n top m w ts y4 x6 (sV (j + 1 : Nat)) (some (false, lW U)) (sV e) (some (true, eS vW (RD n ts (j + 1)))) (some (false, eF (RD n ts (j + 1)))) x12 (some (true, .lst (((RD n ts (j + 1)).filter fun p => isZ p.2).map vW))) (some (true, .lst (((RD n ts (j + 1)).filter fun p => big n p.2).map vW))) y15 y16 y17 (some (true, .lst ((RD n ts j).map vW))) none none).set 19 (some (false, .int (maxI ((wds m e).map fun u => wid (wT n ts (idn n) u)))))).set 20 (some (false, bad5)))) ?_ ?_
  · unfold sFor
    rw [bnd_ok (show iVal _ _ = .ok [bad1, bad2, bad3, bad4, bad5] _ from rfl)]
    exact for_step rfl (bad_step x_1 rfl) (for_step rfl (bad_step x_2 rfl) (for_step rfl (bad_step x_3 rfl) (for_step rfl (bad_step x_4 rfl) (for_step rfl (bad_step x_5 rfl) rfl))))
  refine sqx (sno (evt_not (evt_ref (ps := [eT ts, .tup [.int m]]) (rda_cons (rd_var (i := 22) (b := false) rfl) (rda_cons (ev_tup (ps := [.int m]) (eva_cons (ev_var (i := 21) rfl) eva_nil) (by rw [sizeLine_eq]; exact Nat.le_of_ble_eq_true rfl)).rd rda_nil)) (by have hx := x_many h; rw [hts] at hx; exact hx) it_ok)) rfl) ?_
  refine sqx (sno (evt_not (evt_ref (rda_cons (rd_var (i := 22) (b := false) rfl) (rda_cons ev_c.rd rda_nil)) (x_widest h) it_ok)) rfl) ?_
  exact ⟨_, s_seq_ret (show sRetB _ _ = .ok (.ret (.val (.bl true) false)) _ from by unfold sRetB; rw [bnd_ok (evt_ref (rda_cons (rd_var (i := 22) (b := false) rfl) (rda_cons ev_c.rd rda_nil)) (x_words h) it_ok)]; rfl)⟩
end G18
end

section
set_option Elab.async false
set_option linter.all false
set_option maxRecDepth 100000
set_option maxHeartbeats 0
set_option autoImplicit false
namespace G18
open PySem PySem.Spec PyProof.Rows L2 HF
/-! ### the head -/
def dd (x : Str) (i : Nat) : He.DefD := ⟨(x, none), x, x, defArgs (top i), defBody (top i), defScope (top i), [], []⟩
def fn : List He.DefD := [dd "check_tables" 5, dd "times_whole" 6, dd "word_table" 7, dd "is_nought" 8, dd "nought_word" 9, dd "words_up_to" 10, dd "closes_in" 11, dd "growing_word" 12, dd "takes_growing" 13, dd "widest" 14, dd "_law_tape" 16, dd "_law_take" 17, dd "_law_refused" 18, dd "_law_product" 19, dd "_law_words" 20, dd "_law_table" 21, dd "law" 22]
def fa : List He.Fa := [.glo "check_tables", .glo "times_whole", .glo "word_table", .glo "is_nought", .glo "nought_word", .glo "words_up_to", .glo "closes_in", .glo "growing_word", .glo "takes_growing", .glo "widest", .glo "_law_tape", .glo "_law_take", .glo "_law_refused", .glo "_law_product", .glo "_law_words", .glo "_law_table", .glo "law", .free "abs", .free "all", .free "any", .free "int", .free "len", .free "list", .free "max", .free "range", .free "sorted", .free "sum", .free "tuple", .int "MOST_TABLES" 3, .glo "InvalidTable", .exc "InvalidTable", .exm "InvalidTable" "InvalidTable" true]
abbrev R : PySem.W.OpenRow := PySem.W.OpenLaw.row PySem.Challenge.rw_heldsteady_k18_whole_matrices_in_any_ord
def loose : List PySem.Str := ["SteadyError", "InvalidTable", "MOST_TABLES", "check_tables", "times_whole", "word_table", "is_nought", "nought_word", "words_up_to", "closes_in", "growing_word", "takes_growing", "widest", "_law_tape", "_law_take", "_law_refused", "_law_product", "_law_words", "_law_table"]
def tfs : List He.Defn := [("law", none)]
abbrev hk : PySem.W.Hook := He.hookX 5 fa fn [] tfs (fun _ => true)
def ob (s : PySem.W.SharedT) : He.AlX := He.obsX 5 fa fn [] tfs (fun _ => true) (HandSHeadRun.getT s)
theorem ob_eq (s : PySem.W.SharedT) : ob s = hk.obs s.abs := He.obsX_eq (HandSHeadRun.getT_eq s)
theorem run (w : World) : HandSHeadRun.RunEq R (PySem.W.view R.prog [22]) hk ob 4000 loose w := by
  intro os
  kernel_rfl
section
variable {w : World} {K : PySem.W.Frag} {mg : Str → Option Value} {h : Heap}
theorem fx (KX : K.In h) (G : h.Ns mainGlobals mg) (c : He.SaysX fa fn [] tfs (fun _ => true) w h K) : Fx K mg where
  b_abs := He.free_ok KX G (c.t.d.fact 17 (f := .free "abs") rfl)
  b_all := He.free_ok KX G (c.t.d.fact 18 (f := .free "all") rfl)
  b_any := He.free_ok KX G (c.t.d.fact 19 (f := .free "any") rfl)
  b_int := He.free_ok KX G (c.t.d.fact 20 (f := .free "int") rfl)
  b_len := He.free_ok KX G (c.t.d.fact 21 (f := .free "len") rfl)
  b_list := He.free_ok KX G (c.t.d.fact 22 (f := .free "list") rfl)
  b_max := He.free_ok KX G (c.t.d.fact 23 (f := .free "max") rfl)
  b_range := He.free_ok KX G (c.t.d.fact 24 (f := .free "range") rfl)
  b_sorted := He.free_ok KX G (c.t.d.fact 25 (f := .free "sorted") rfl)
  b_sum := He.free_ok KX G (c.t.d.fact 26 (f := .free "sum") rfl)
  b_tuple := He.free_ok KX G (c.t.d.fact 27 (f := .free "tuple") rfl)
  c_MOST_TABLES := He.int_ok KX G (c.t.d.fact 28 (f := .int "MOST_TABLES" 3) rfl)
  x_InvalidTable := ⟨_, He.glo_ok KX G (c.t.d.fact 29 (f := .glo "InvalidTable") rfl), He.exc_ok (c.t.d.fact 30 (f := .exc "InvalidTable") rfl)⟩
theorem rf__law_refused (KX : K.In h) (G : h.Ns mainGlobals mg) (c : He.SaysX fa fn [] tfs (fun _ => true) w h K) : RefF K mg "InvalidTable" ["InvalidTable"] := ⟨_, He.glo_ok KX G (c.t.d.fact 29 (f := .glo "InvalidTable") rfl), fun n hn C hC => by
  have z := List.mem_singleton.mp hn
  subst z; rw [He.glo_ok KX G (c.t.d.fact 29 (f := .glo "InvalidTable") rfl)] at hC; cases hC; exact He.exm_ok (c.t.d.fact 31 (f := .exm "InvalidTable" "InvalidTable" true) rfl)⟩
/-- what is left to show: the law's way answers True -/
def LawTrue : Prop := ∀ ns : List Int, ns.length ≤ 63 → (∀ z ∈ ns, Builtin.Int.intBits z ≤ 1048576) → ∃ s', F_law (st0 27 [.scr ns]) = .ok (.ret (.val (.bl true) false)) s'
theorem lawAt {f : Addr} (KX : K.In h) (G : h.Ns mainGlobals mg) (hfa : mg ("law" : Str) = some (.ref f)) (c : He.SaysX fa fn [] tfs (fun _ => true) w h K) (LAW : LawTrue) :
    LamX.LawAtS PySem.Challenge.rw_heldsteady_k18_whole_matrices_in_any_ord w K (L2.CX (PySem.Challenge.rw_heldsteady_k18_whole_matrices_in_any_ord).prog w) 6 63 "script" mg f h := by
  have FX := fx KX G c
  obtain ⟨fd_check_tables, Fd_check_tables⟩ := c.t.d.def_ 0 (d := dd "check_tables" 5) rfl
  obtain ⟨fd_times_whole, Fd_times_whole⟩ := c.t.d.def_ 1 (d := dd "times_whole" 6) rfl
  obtain ⟨fd_word_table, Fd_word_table⟩ := c.t.d.def_ 2 (d := dd "word_table" 7) rfl
  obtain ⟨fd_is_nought, Fd_is_nought⟩ := c.t.d.def_ 3 (d := dd "is_nought" 8) rfl
  obtain ⟨fd_nought_word, Fd_nought_word⟩ := c.t.d.def_ 4 (d := dd "nought_word" 9) rfl
  obtain ⟨fd_words_up_to, Fd_words_up_to⟩ := c.t.d.def_ 5 (d := dd "words_up_to" 10) rfl
  obtain ⟨fd_closes_in, Fd_closes_in⟩ := c.t.d.def_ 6 (d := dd "closes_in" 11) rfl
  obtain ⟨fd_growing_word, Fd_growing_word⟩ := c.t.d.def_ 7 (d := dd "growing_word" 12) rfl
  obtain ⟨fd_takes_growing, Fd_takes_growing⟩ := c.t.d.def_ 8 (d := dd "takes_growing" 13) rfl
  obtain ⟨fd_widest, Fd_widest⟩ := c.t.d.def_ 9 (d := dd "widest" 14) rfl
  obtain ⟨fd__law_tape, Fd__law_tape⟩ := c.t.d.def_ 10 (d := dd "_law_tape" 16) rfl
  obtain ⟨fd__law_take, Fd__law_take⟩ := c.t.d.def_ 11 (d := dd "_law_take" 17) rfl
  obtain ⟨fd__law_refused, Fd__law_refused⟩ := c.t.d.def_ 12 (d := dd "_law_refused" 18) rfl
  obtain ⟨fd__law_product, Fd__law_product⟩ := c.t.d.def_ 13 (d := dd "_law_product" 19) rfl
  obtain ⟨fd__law_words, Fd__law_words⟩ := c.t.d.def_ 14 (d := dd "_law_words" 20) rfl
  obtain ⟨fd__law_table, Fd__law_table⟩ := c.t.d.def_ 15 (d := dd "_law_table" 21) rfl
  obtain ⟨fd_law, Fd_law⟩ := c.t.d.def_ 16 (d := dd "law" 22) rfl
  have m_check_tables := He.glo_ok KX G (c.t.d.fact 0 (f := .glo "check_tables") rfl)
  have m_times_whole := He.glo_ok KX G (c.t.d.fact 1 (f := .glo "times_whole") rfl)
  have m_word_table := He.glo_ok KX G (c.t.d.fact 2 (f := .glo "word_table") rfl)
  have m_is_nought := He.glo_ok KX G (c.t.d.fact 3 (f := .glo "is_nought") rfl)
  have m_nought_word := He.glo_ok KX G (c.t.d.fact 4 (f := .glo "nought_word") rfl)
  have m_words_up_to := He.glo_ok KX G (c.t.d.fact 5 (f := .glo "words_up_to") rfl)
  have m_closes_in := He.glo_ok KX G (c.t.d.fact 6 (f := .glo "closes_in") rfl)
  have m_growing_word := He.glo_ok KX G (c.t.d.fact 7 (f := .glo "growing_word") rfl)
  have m_takes_growing := He.glo_ok KX G (c.t.d.fact 8 (f := .glo "takes_growing") rfl)
  have m_widest := He.glo_ok KX G (c.t.d.fact 9 (f := .glo "widest") rfl)
  have m__law_tape := He.glo_ok KX G (c.t.d.fact 10 (f := .glo "_law_tape") rfl)
  have m__law_take := He.glo_ok KX G (c.t.d.fact 11 (f := .glo "_law_take") rfl)
  have m__law_refused := He.glo_ok KX G (c.t.d.fact 12 (f := .glo "_law_refused") rfl)
  have m__law_product := He.glo_ok KX G (c.t.d.fact 13 (f := .glo "_law_product") rfl)
  have m__law_words := He.glo_ok KX G (c.t.d.fact 14 (f := .glo "_law_words") rfl)
  have m__law_table := He.glo_ok KX G (c.t.d.fact 15 (f := .glo "_law_table") rfl)
  have m_law := He.glo_ok KX G (c.t.d.fact 16 (f := .glo "law") rfl)
  have e := hfa.symm.trans m_law
  cases e
  have b := FunD.bindsA (ps := ["script"]) Fd_law fun _ _ _ _ _ _ us hl => match us, hl with | [_], _ => rfl
  have hc : ∀ (oc : Value) (od : Option Addr) (osl : Array (Option Value)), K.lookup (He.ga K "law") = some ⟨oc, od, .func fd_law, osl⟩ → fd_law.code = .ref (He.codeOf K ("law", none)) := by
    intro oc od osl lk
    obtain ⟨_, _, _, _, _, _, _, cdv, _, _, rfl, _, hcd, _, _⟩ := Fd_law.ex
    obtain ⟨c', e⟩ := He.codeIn_ref hcd
    have e2 := He.codeOf_eq (K := K) (p := ("law", none)) lk (show _ = Value.ref c' from e)
    rw [e2]; exact e
  refine ⟨fd_law, [He.cT K ("law", none)], spL K (He.cT K ("law", none)).2 27 F_law, fun p hp => ?_, fun p hp => ?_, fun p hp => ?_, fun s v => b s [v] rfl, fun H a ns hl hb hP hS => ⟨a, ns, rfl, hS, hP _ List.mem_cons_self, LAW ns hl hb, fun _ => rfl⟩, fun base hK hN TB => ?_⟩
  · rw [List.mem_singleton.mp hp]; exact c.empty _ List.mem_cons_self
  · rw [List.mem_singleton.mp hp]; exact c.out _ List.mem_cons_self
  · rw [List.mem_singleton.mp hp]; exact PySem.W.codeHd_of_K KX (c.hd _ List.mem_cons_self)
  · have h_times_whole := o_times_whole (P := (PySem.Challenge.rw_heldsteady_k18_whole_matrices_in_any_ord).prog) (w := w) (base := base) FX  Fd_times_whole m_times_whole
    have h_is_nought := o_is_nought (P := (PySem.Challenge.rw_heldsteady_k18_whole_matrices_in_any_ord).prog) (w := w) (base := base) FX  Fd_is_nought m_is_nought
    have h_check_tables := o_check_tables (P := (PySem.Challenge.rw_heldsteady_k18_whole_matrices_in_any_ord).prog) (w := w) (base := base) FX  Fd_check_tables m_check_tables
    have h_word_table := o_word_table (P := (PySem.Challenge.rw_heldsteady_k18_whole_matrices_in_any_ord).prog) (w := w) (base := base) FX h_check_tables h_times_whole Fd_word_table m_word_table
    have h_takes_growing := o_takes_growing (P := (PySem.Challenge.rw_heldsteady_k18_whole_matrices_in_any_ord).prog) (w := w) (base := base) FX h_word_table Fd_takes_growing m_takes_growing
    have h_words_up_to := o_words_up_to (P := (PySem.Challenge.rw_heldsteady_k18_whole_matrices_in_any_ord).prog) (w := w) (base := base) FX h_check_tables h_times_whole h_word_table Fd_words_up_to m_words_up_to
    have h_nought_word := o_nought_word (P := (PySem.Challenge.rw_heldsteady_k18_whole_matrices_in_any_ord).prog) (w := w) (base := base) FX h_is_nought h_words_up_to Fd_nought_word m_nought_word
    have h_closes_in := o_closes_in (P := (PySem.Challenge.rw_heldsteady_k18_whole_matrices_in_any_ord).prog) (w := w) (base := base) FX h_words_up_to Fd_closes_in m_closes_in
    have h_growing_word := o_growing_word (P := (PySem.Challenge.rw_heldsteady_k18_whole_matrices_in_any_ord).prog) (w := w) (base := base) FX h_words_up_to Fd_growing_word m_growing_word
    have h_widest := o_widest (P := (PySem.Challenge.rw_heldsteady_k18_whole_matrices_in_any_ord).prog) (w := w) (base := base) FX h_check_tables h_times_whole h_word_table Fd_widest m_widest
    have h__law_tape := o__law_tape (P := (PySem.Challenge.rw_heldsteady_k18_whole_matrices_in_any_ord).prog) (w := w) (base := base) FX  Fd__law_tape m__law_tape
    have h__law_take := o__law_take (P := (PySem.Challenge.rw_heldsteady_k18_whole_matrices_in_any_ord).prog) (w := w) (base := base) FX  Fd__law_take m__law_take
    have h__law_product := o__law_product (P := (PySem.Challenge.rw_heldsteady_k18_whole_matrices_in_any_ord).prog) (w := w) (base := base) FX  Fd__law_product m__law_product
    have h__law_words := o__law_words (P := (PySem.Challenge.rw_heldsteady_k18_whole_matrices_in_any_ord).prog) (w := w) (base := base) FX  Fd__law_words m__law_words
    have h__law_table := o__law_table (P := (PySem.Challenge.rw_heldsteady_k18_whole_matrices_in_any_ord).prog) (w := w) (base := base) FX h__law_product Fd__law_table m__law_table
    exact fn_law (fun _ _ => rfl) Fd_law hc fs_law fun A outer s H E hr => w_law FX h__law_product h__law_table h__law_take h__law_tape h__law_words h_closes_in h_growing_word h_is_nought h_nought_word h_takes_growing h_times_whole h_widest h_word_table h_words_up_to (rf__law_refused KX G c) Fd__law_refused m__law_refused (TB _ List.mem_cons_self) A outer s H E hr
end
end G18
open PySem PySem.W PySem.Calls PyProof.Rows
theorem G18_of (LAW : G18.LawTrue) : PySem.Challenge.rw_heldsteady_k18_whole_matrices_in_any_ord.Holds := by
  w_on; o_law
  refine HandSHeadRun.head_any (r := OpenLaw.row PySem.Challenge.rw_heldsteady_k18_whole_matrices_in_any_ord) (q := view (OpenLaw.row PySem.Challenge.rw_heldsteady_k18_whole_matrices_in_any_ord).prog [22]) (H := G18.hk) (ob := G18.ob) (M := 4000) (loose := G18.loose) (d := HandSHeadRun.topDef (OpenLaw.row PySem.Challenge.rw_heldsteady_k18_whole_matrices_in_any_ord).prog 22) (kwd := []) G18.ob_eq
    (by kernel_rfl) (fun s => by kernel_rfl) G18.run (by kernel_rfl) (by kernel_rfl) (by kernel_rfl) (by rfl) (by first | assumption | decide +kernel) (by decide +kernel) ⟨rfl, rfl, rfl, rfl, rfl, by decide +kernel⟩ ?hw ?hc
  case hw => w_witness2
  case hc =>
    refine LamX.walk_ofTsE (l := PySem.Challenge.rw_heldsteady_k18_whole_matrices_in_any_ord) (n := 63) (k := 6) (x := "script") (CX := fun w => L2.CX (PySem.Challenge.rw_heldsteady_k18_whole_matrices_in_any_ord).prog w) rfl (by decide) (by kernel_rfl) ⟨rfl, by decide, by decide⟩ ?F ?hCX
    case hCX =>
      intro w H s e s' ⟨_, _, _, _, _, _, _, _, _, _, _, _, z⟩
      exact z
    intro w mg fa h Y G hmg0
    obtain ⟨K, KX, c⟩ := Y
    have hmg : mg ("law" : PySem.Str) = some (.ref fa) := by
      have e : (HandSHeadRun.topDef (OpenLaw.row PySem.Challenge.rw_heldsteady_k18_whole_matrices_in_any_ord).prog 22).name = ("law" : PySem.Str) := by kernel_rfl
      rw [← e]
      exact hmg0
    exact ⟨K, KX, G18.lawAt KX G hmg c LAW⟩
end

set_option Elab.async false
theorem PySem.Challenge.cw_heldsteady_k18_whole_matrices_in_any_ord_holds : PySem.Challenge.rw_heldsteady_k18_whole_matrices_in_any_ord.Holds := by
  exact G18_of fun ns hl _ => G18.law_run hl
