import PyProof.Rows.All
import Wide.All
import OpenK.AllK
import Wide.FinOn
import HandS.ForMost
import HandS.Exc
import HandS.ExcOwn
import HandS.Deep
import KE.KDictKeyed
import HandS.TupAny
import HandS.Flow
import HandS.Style
import HandS.Comp
import HandS.Defaults
import HandS.WordsExc
import HandS.Small
import HandS.Wide
import HandS.Conv
import HandS.Text
import HandS.More
import HandS.Sort
import HandS.TupLe
import HandS.TupMul
import HandS.WordsDict
import KE.KeyNested
import HandS.SortInts
import KE.DataAny
import HandS.Lambda
import HandS.DictComp
import KE.KDictDisplayH
import KE.KDictCopyH
import KE.KDictSum
import KE.SortData
import HandS.HeadHook4
import HandS.HeadWalk
import HandS.Zip
import HandS.Rev
import HandS.Head0
import PySem.Challenge.RW_heldsteady_k04_whole_ranges_of_coefficie
import KE.KStateDown
import HandS.Head1
import HandS.Head2
import HandS.Head3
import HandS.HeadEnd
import HandS.Words
section
set_option Elab.async false
set_option linter.all false
set_option maxRecDepth 100000
set_option maxHeartbeats 1000000
set_option autoImplicit false
/-! HF0: values without a heap, slots with owned lists and dicts, what a state bears. -/
namespace HF
open PySem PySem.Spec PyProof.Rows L2

/-- a value without the heap. dct k: k = 0: keys ints and texts; 1: tuples of such; 2: nested -/
inductive PV where
  | non | bl (b : Bool) | int (i : Int) | str (x : Str) | tup (xs : List PV) | lst (xs : List PV) | dct (k : Nat) (kvs : List (PV × PV)) | rng (lo hi : Int) | scr (xs : List Int)

/-- what is written in the text, the program, the world -/
structure Frg where
  K : PySem.W.Frag
  P : Program
  w : World
abbrev kx (X : Cx) : Frg := ⟨X.K, X.prog, X.w⟩
def kPV : Key → PV
  | .inl i => .int i
  | .inr x => .str x
/-! a key of a dict whose keys are tuples -/
mutual
def pvK : NestedKey → PV
  | .none => .non
  | .num i => .int i
  | .text x => .str x
  | .tup ks => .tup (pvKs ks)
def pvKs : List NestedKey → List PV
  | [] => []
  | k :: ks => pvK k :: pvKs ks
end
/-- the entries of a dict with tuple keys: the keys' own tuples, the values -/
abbrev KN : List (NestedKey × Addr × V) → List (NestedKey × Addr × Value) → Prop := Paired fun p q => p.1 = q.1 ∧ p.2.1 = q.2.1 ∧ RelV p.2.2 q.2.2
/-- such a dict at d -/
def DNo (P : Program) (w : World) (d : Addr) (l : List (NestedKey × Addr × V)) : HO := .ext fun h => l.length ≤ sizeLine ∧ (d == sysModules) = false ∧ ∃ xs : List (NestedKey × Addr × Value), KN l xs ∧
  ∃ o es ep, h.get? d = some o ∧ o.ExactDict ∧ o.data = .dict es ep ∧ es.toList = xs.map (entryOfKey (nestedKind P w)) ∧ (xs.map (·.1)).Nodup
/-- a dict at a: its kind, its keys (as they are, as they stand) with their values. 0: ints and texts, 1: tuples -/
def DAt (K : Frg) (H : Hp) (a : Addr) : Nat → List (PV × V × V) → Prop
  | 0, l => ∃ kvs : List (Key × V), H a = some (.dK kvs) ∧ l = kvs.map fun p => (kPV p.1, kV p.1, p.2)
  | 1, l => ∃ xs : List (NestedKey × Addr × V), H a = some (DNo K.P K.w a xs) ∧ l = xs.map fun x => (pvK x.1, .ref x.2.1, x.2.2)
  | _, _ => False
/-- .. that may be read (it may be locked) -/
def RDAt (K : Frg) (H : Hp) (a : Addr) : Nat → List (PV × V × V) → Prop
  | 0, l => ∃ kvs : List (Key × V), Rd H a (.dK kvs) ∧ l = kvs.map fun p => (kPV p.1, kV p.1, p.2)
  | 1, l => ∃ xs : List (NestedKey × Addr × V), Rd H a (DNo K.P K.w a xs) ∧ l = xs.map fun x => (pvK x.1, .ref x.2.1, x.2.2)
  | _, _ => False
theorem DAt.rd {K : Frg} {H : Hp} {a : Addr} : ∀ {k : Nat} {l : List (PV × V × V)}, DAt K H a k l → RDAt K H a k l
  | 0, _, ⟨kvs, h, q⟩ => ⟨kvs, .of h, q⟩
  | 1, _, ⟨kvs, h, q⟩ => ⟨kvs, .of h, q⟩

mutual
inductive Rep (K : Frg) (H : Hp) : V → PV → Prop
  | non : Rep K H .non .non
  | bl (b : Bool) : Rep K H (.bl b) (.bl b)
  | int (i : Int) : Rep K H (.int i) (.int i)
  | str (x : Str) : Rep K H (.str x) (.str x)
  | tup {a : Addr} {vs : List V} {ps : List PV} : SqT K.K H a vs → Reps K H vs ps → Rep K H (.ref a) (.tup ps)
  | lst {a : Addr} {vs : List V} {ps : List PV} : H a = some (.lst vs) → Reps K H vs ps → Rep K H (.ref a) (.lst ps)
  | scr {a : Addr} {ns : List Int} : SqL K.K H a (ns.map V.int) → Rep K H (.ref a) (.scr ns)
  | rng {a : Addr} {lo hi : Int} : H a = some (.rng lo hi) → Rep K H (.ref a) (.rng lo hi)
  | dct {a : Addr} {k : Nat} {l : List (PV × V × V)} {kvs : List (PV × PV)} : RDAt K H a k l → RepD K H l kvs → Rep K H (.ref a) (.dct k kvs)
inductive Reps (K : Frg) (H : Hp) : List V → List PV → Prop
  | nil : Reps K H [] []
  | cons {v : V} {vs : List V} {p : PV} {ps : List PV} : Rep K H v p → Reps K H vs ps → Reps K H (v :: vs) (p :: ps)
inductive RepD (K : Frg) (H : Hp) : List (PV × V × V) → List (PV × PV) → Prop
  | nil : RepD K H [] []
  | cons {k : PV} {u v : V} {l : List (PV × V × V)} {p : PV} {kvs : List (PV × PV)} : Rep K H u k → Rep K H v p → RepD K H l kvs → RepD K H ((k, u, v) :: l) ((k, p) :: kvs)
end

/-- all that is told in H is told in H' -/
def Ext (H H' : Hp) : Prop := ∀ a o, H a = some o → H' a = some o
theorem Ext.refl {H : Hp} : Ext H H := fun _ _ e => e
theorem Ext.trans {H H1 H2 : Hp} (a : Ext H H1) (b : Ext H1 H2) : Ext H H2 := fun c o e => b c o (a c o e)
theorem Ext.rd {H H' : Hp} (e : Ext H H') {a : Addr} {u : HO} (r : Rd H a u) : Rd H' a u := by
  rcases r with r | ⟨o, r⟩
  · exact .inl (e _ _ r)
  · exact .inr ⟨o, e _ _ r⟩
theorem Ext.sqL {K : PySem.W.Frag} {H H' : Hp} (e : Ext H H') {a : Addr} {xs : List V} (r : SqL K H a xs) : SqL K H' a xs := by
  rcases r with r | r
  · exact .inl (e.rd r)
  · exact .inr r
theorem Ext.sqT {K : PySem.W.Frag} {H H' : Hp} (e : Ext H H') {a : Addr} {xs : List V} (r : SqT K H a xs) : SqT K H' a xs := by
  rcases r with r | r
  · exact .inl (e.rd r)
  · exact .inr r
theorem Ext.dAt {K : Frg} {H H' : Hp} (e : Ext H H') {a : Addr} : ∀ {k : Nat} {l : List (PV × V × V)}, RDAt K H a k l → RDAt K H' a k l
  | 0, _, ⟨kvs, h, q⟩ => ⟨kvs, e.rd h, q⟩
  | 1, _, ⟨kvs, h, q⟩ => ⟨kvs, e.rd h, q⟩
section
variable {K : Frg} {H H' : Hp}
mutual
theorem Rep.ext (e : Ext H H') : ∀ {v : V} {p : PV}, Rep K H v p → Rep K H' v p
  | _, _, .non => .non
  | _, _, .bl b => .bl b
  | _, _, .int i => .int i
  | _, _, .str x => .str x
  | _, _, .tup h r => .tup (e.sqT h) (Reps.ext e r)
  | _, _, .lst h r => .lst (e _ _ h) (Reps.ext e r)
  | _, _, .scr h => .scr (e.sqL h)
  | _, _, .rng h => .rng (e _ _ h)
  | _, _, .dct h r => .dct (e.dAt h) (RepD.ext e r)
theorem Reps.ext (e : Ext H H') : ∀ {vs : List V} {ps : List PV}, Reps K H vs ps → Reps K H' vs ps
  | _, _, .nil => .nil
  | _, _, .cons a r => .cons (Rep.ext e a) (Reps.ext e r)
theorem RepD.ext (e : Ext H H') : ∀ {l : List (PV × V × V)} {kvs : List (PV × PV)}, RepD K H l kvs → RepD K H' l kvs
  | _, _, .nil => .nil
  | _, _, .cons b a r => .cons (Rep.ext e b) (Rep.ext e a) (RepD.ext e r)
end
end
section
variable {K : Frg} {H H' : Hp}
theorem Reps.length : ∀ {vs : List V} {ps : List PV}, Reps K H vs ps → vs.length = ps.length
  | _, _, .nil => rfl
  | _, _, .cons _ r => by simp [Reps.length r]
theorem Reps.get : ∀ {vs : List V} {ps : List PV} {i : Nat} {p : PV}, Reps K H vs ps → ps[i]? = some p → ∃ v, vs[i]? = some v ∧ Rep K H v p
  | _, _, _, _, .nil, e => by simp at e
  | _, _, 0, _, .cons r _, e => by simp at e; subst e; exact ⟨_, rfl, r⟩
  | _, _, i + 1, p, .cons _ t, e => by
    obtain ⟨v, h1, h2⟩ := Reps.get (i := i) (p := p) t (by simpa using e)
    exact ⟨v, by simpa using h1, h2⟩
theorem Reps.get' : ∀ {vs : List V} {ps : List PV} {i : Nat} {v : V}, Reps K H vs ps → vs[i]? = some v → ∃ p, ps[i]? = some p ∧ Rep K H v p
  | _, _, _, _, .nil, e => by simp at e
  | _, _, 0, _, .cons r _, e => by simp at e; subst e; exact ⟨_, rfl, r⟩
  | _, _, i + 1, p, .cons _ t, e => by
    obtain ⟨v, h1, h2⟩ := Reps.get' (i := i) (v := p) t (by simpa using e)
    exact ⟨v, by simpa using h1, h2⟩
theorem Reps.append : ∀ {vs ws : List V} {ps qs : List PV}, Reps K H vs ps → Reps K H ws qs → Reps K H (vs ++ ws) (ps ++ qs)
  | _, _, _, _, .nil, s => s
  | _, _, _, _, .cons r t, s => .cons r (Reps.append t s)
theorem Reps.take : ∀ {vs : List V} {ps : List PV} (n : Nat), Reps K H vs ps → Reps K H (vs.take n) (ps.take n)
  | _, _, 0, _ => .nil
  | _, _, _ + 1, .nil => .nil
  | _, _, n + 1, .cons r t => .cons r (Reps.take n t)
theorem Reps.drop : ∀ {vs : List V} {ps : List PV} (n : Nat), Reps K H vs ps → Reps K H (vs.drop n) (ps.drop n)
  | _, _, 0, r => r
  | _, _, _ + 1, .nil => .nil
  | _, _, n + 1, .cons _ t => Reps.drop n t
theorem Reps.set {v : V} {p : PV} (r : Rep K H v p) : ∀ {vs : List V} {ps : List PV} (i : Nat), Reps K H vs ps → Reps K H (vs.set i v) (ps.set i p)
  | _, _, _, .nil => .nil
  | _, _, 0, .cons _ t => .cons r t
  | _, _, i + 1, .cons q t => .cons q (Reps.set r i t)
theorem Reps.eraseIdx : ∀ {vs : List V} {ps : List PV} (i : Nat), Reps K H vs ps → Reps K H (vs.eraseIdx i) (ps.eraseIdx i)
  | _, _, _, .nil => .nil
  | _, _, 0, .cons _ t => t
  | _, _, i + 1, .cons q t => .cons q (Reps.eraseIdx i t)
theorem Reps.reverse : ∀ {vs : List V} {ps : List PV}, Reps K H vs ps → Reps K H vs.reverse ps.reverse
  | _, _, .nil => .nil
  | _, _, .cons a r => by simp only [List.reverse_cons]; exact (Reps.reverse r).append (.cons a .nil)
end

open Classical in
/-- H without what is hidden -/
noncomputable def hid (B : Addr → Prop) (H : Hp) : Hp := fun a => if B a then none else H a
theorem hid_some {B : Addr → Prop} {H : Hp} {a : Addr} {o : HO} : hid B H a = some o ↔ ¬ B a ∧ H a = some o := by
  unfold hid
  split
  · rename_i h; simp [h]
  · rename_i h; simp [h]
theorem hid_sub {B : Addr → Prop} {H : Hp} : Ext (hid B H) H := fun _ _ e => (hid_some.mp e).2
theorem hid_mono {B B' : Addr → Prop} {H H' : Hp} (h : ∀ a o, ¬ B a → H a = some o → ¬ B' a ∧ H' a = some o) : Ext (hid B H) (hid B' H') := fun a o e => by
  obtain ⟨n, q⟩ := hid_some.mp e
  exact hid_some.mpr (h a o n q)
/-- what was hidden, and what is new -/
def grow (Hv H H' : Hp) : Hp := fun a => match H a with
  | none => H' a
  | some _ => Hv a
theorem grow_old {Hv H H' : Hp} (e : Ext Hv H) : Ext Hv (grow Hv H H') := fun a o q => by
  unfold grow; rw [e a o q]; exact q
theorem grow_new {Hv H H' : Hp} {a : Addr} (n : H a = none) : grow Hv H H' a = H' a := by unfold grow; rw [n]
theorem grow_self {Hv H : Hp} (e : Ext Hv H) : grow Hv H H = Hv := by
  funext a
  unfold grow
  cases h : H a with
  | none =>
    cases q : Hv a with
    | none => rfl
    | some o => rw [e a o q] at h; cases h
  | some o => rfl
theorem grow_hid {B : Addr → Prop} {H H' : Hp} (hB : ∀ a, B a → H a ≠ none) (e : Ext H H') : grow (hid B H) H H' = hid B H' := by
  funext a
  unfold grow
  cases h : H a with
  | none =>
    have n : ¬ B a := fun b => hB a b h
    simp [hid, n]
  | some o =>
    by_cases b : B a
    · simp [hid, b]
    · simp [hid, b, h, e a o h]

/-! ### slots -/
abbrev SlV := Option (Bool × PV)
abbrev SE := List SlV
/-- an address that a slot owns -/
def Owns (σ : L2.St) (s : SE) (a : Addr) : Prop := ∃ (i : Nat) (p : PV), s[i]? = some (some (true, p)) ∧ σ[i]? = some (some (V.ref a))
/-- an owned list, an owned dict -/
def Ob (K : Frg) (H Hv : Hp) (a : Addr) : PV → Prop
  | .lst ps => ∃ vs, H a = some (.lst vs) ∧ Reps K Hv vs ps
  | .dct k kvs => ∃ l, DAt K H a k l ∧ RepD K Hv l kvs
  | _ => False
/-- an object that is a list or a dict -/
def LD : HO → Prop
  | .lst _ => True
  | .dK _ => True
  | .ext _ => True
  | _ => False
theorem LD.mut {o : HO} (h : LD o) : Mut (some o) := by cases o <;> first | trivial | exact h.elim
theorem Ob.at_ {K : Frg} {H Hv : Hp} {a : Addr} {p : PV} (h : Ob K H Hv a p) : ∃ o, H a = some o ∧ LD o := by
  cases p with
  | lst ps => obtain ⟨vs, e, _⟩ := h; exact ⟨_, e, trivial⟩
  | dct k kvs =>
    obtain ⟨l, e, _⟩ := h
    match k, e with
    | 0, ⟨kvs, e, _⟩ => exact ⟨_, e, trivial⟩
    | 1, ⟨kvs, e, _⟩ => exact ⟨_, e, trivial⟩
  | _ => exact h.elim
theorem DAt.eq {K : Frg} {H H' : Hp} {a : Addr} (h : H' a = H a) : ∀ {k : Nat} {l : List (PV × V × V)}, DAt K H a k l → DAt K H' a k l
  | 0, _, ⟨kvs, e, q⟩ => ⟨kvs, h.trans e, q⟩
  | 1, _, ⟨kvs, e, q⟩ => ⟨kvs, h.trans e, q⟩
theorem Ob.ext {K : Frg} {H H' Hv Hv' : Hp} {a : Addr} (h : H' a = H a) (e : Ext Hv Hv') {p : PV} (o : Ob K H Hv a p) : Ob K H' Hv' a p := by
  cases p with
  | lst ps => obtain ⟨vs, q, r⟩ := o; exact ⟨vs, h.trans q, r.ext e⟩
  | dct k kvs => obtain ⟨l, q, r⟩ := o; exact ⟨l, q.eq h, RepD.ext e r⟩
  | _ => exact o.elim
/-- an owned object that may be read by all -/
theorem Ob.rep {K : Frg} {H Hv Hw : Hp} {a : Addr} (h : Hw a = H a) (e : Ext Hv Hw) {p : PV} (o : Ob K H Hv a p) : Rep K Hw (.ref a) p := by
  cases p with
  | lst ps => obtain ⟨vs, q, r⟩ := o; exact .lst (h.trans q) (r.ext e)
  | dct k kvs => obtain ⟨l, q, r⟩ := o; exact .dct (q.eq h).rd (RepD.ext e r)
  | _ => exact o.elim

/-- hidden from what is shared -/
noncomputable abbrev Hd (Z : Addr → Prop) (σ : L2.St) (s : SE) (H : Hp) : Hp := hid (fun a => Z a ∨ Owns σ s a) H
/-- the state: slots and heap. Z: the callers' own objects, and what waits -/
structure Rl (K : Frg) (Z : Addr → Prop) (H : Hp) (σ : L2.St) (s : SE) : Prop where
  len : s.length = σ.length
  zin : ∀ a, Z a → H a ≠ none
  sh : ∀ (i : Nat) (p : PV), s[i]? = some (some (false, p)) → ∃ v, σ[i]? = some (some v) ∧ Rep K (Hd Z σ s H) v p
  ow : ∀ (i : Nat) (p : PV), s[i]? = some (some (true, p)) → ∃ a, σ[i]? = some (some (V.ref a)) ∧ ¬ Z a ∧ Ob K H (Hd Z σ s H) a p
  dj : ∀ (i j : Nat) (p q : PV) (a : Addr), s[i]? = some (some (true, p)) → s[j]? = some (some (true, q)) → σ[i]? = some (some (V.ref a)) → σ[j]? = some (some (V.ref a)) → i = j
theorem Rl.ownIn {K : Frg} {Z : Addr → Prop} {H : Hp} {σ : L2.St} {s : SE} (R : Rl K Z H σ s) {a : Addr} (o : Owns σ s a) : H a ≠ none := by
  obtain ⟨i, p, e, e2⟩ := o
  obtain ⟨b, e3, _, q⟩ := R.ow i p e
  rw [e2] at e3; cases e3
  obtain ⟨o, h, _⟩ := q.at_
  rw [h]; nofun
theorem Rl.hidIn {K : Frg} {Z : Addr → Prop} {H : Hp} {σ : L2.St} {s : SE} (R : Rl K Z H σ s) : ∀ a, (Z a ∨ Owns σ s a) → H a ≠ none := fun a h => h.elim (R.zin a) fun o => R.ownIn o
/-- an expression's way: the slots' values stay, what is not owned stays -/
structure Go (K : Frg) (Z Z' : Addr → Prop) (H : Hp) (σ : L2.St) (s s' : SE) (H' : Hp) : Prop where
  rl : Rl K Z' H' σ s'
  fr : ∀ a o, H a = some o → ¬ Owns σ s a → H' a = some o
  ow : ∀ a, Owns σ s' a → Owns σ s a
  tr : ∀ a, H a ≠ none → H' a ≠ none
  kp : ∀ (i : Nat) (q : Bool × PV), s[i]? = some (some q) → ∃ q', s'[i]? = some (some q')
section
variable {K : Frg} {Z Z' : Addr → Prop} {H H' H'' : Hp} {σ : L2.St} {s s' s'' : SE}
theorem Rl.weak (R : Rl K Z' H σ s) (h : ∀ a, Z a → Z' a) : Rl K Z H σ s where
  len := R.len
  zin := fun a z => R.zin a (h a z)
  sh := fun i p e => by
    obtain ⟨v, e1, r⟩ := R.sh i p e
    exact ⟨v, e1, r.ext (hid_mono fun a o n q => ⟨fun z => n (z.imp (h a) id), q⟩)⟩
  ow := fun i p e => by
    obtain ⟨a, e1, n, r⟩ := R.ow i p e
    exact ⟨a, e1, fun z => n (h a z), r.ext rfl (hid_mono fun a o n q => ⟨fun z => n (z.imp (h a) id), q⟩)⟩
  dj := R.dj
theorem Go.refl (R : Rl K Z H σ s) : Go K Z Z H σ s s H := ⟨R, fun _ _ e _ => e, fun _ o => o, fun _ h => h, fun _ q e => ⟨q, e⟩⟩
theorem Go.trans (a : Go K Z Z H σ s s' H') (b : Go K Z Z' H' σ s' s'' H'') : Go K Z Z' H σ s s'' H'' :=
  ⟨b.rl, fun c o e n => b.fr c o (a.fr c o e n) fun z => n (a.ow c z), fun c z => a.ow c (b.ow c z), fun c h => b.tr c (a.tr c h), fun i q e => let ⟨_, e1⟩ := a.kp i q e; b.kp i _ e1⟩
theorem Go.weak (a : Go K Z Z' H σ s s' H') (h : ∀ a, Z a → Z' a) : Go K Z Z H σ s s' H' := ⟨a.rl.weak h, a.fr, a.ow, a.tr, a.kp⟩
/-- what is shared stays so -/
theorem Go.vis (a : Go K Z Z H σ s s' H') : Ext (Hd Z σ s H) (Hd Z σ s' H') := hid_mono fun b o n q => by
  refine ⟨fun z => ?_, a.fr b o q fun z => n (.inr z)⟩
  rcases z with z | z
  · exact n (.inl z)
  · exact n (.inr (a.ow b z))
/-- only new things -/
theorem Go.grown (R : Rl K Z H σ s) (e : Ext H H') : Go K Z Z H σ s s H' := by
  refine ⟨⟨R.len, fun a z => ?_, fun i p q => ?_, fun i p q => ?_, R.dj⟩, fun a o q _ => e a o q, fun _ o => o, fun a h => ?_, fun _ q e => ⟨q, e⟩⟩
  · cases h : H a with
    | none => exact absurd h (R.zin a z)
    | some o => rw [e a o h]; nofun
  · obtain ⟨v, e1, r⟩ := R.sh i p q
    exact ⟨v, e1, r.ext (hid_mono fun a o n q => ⟨n, e a o q⟩)⟩
  · obtain ⟨a, e1, n, r⟩ := R.ow i p q
    refine ⟨a, e1, n, r.ext ?_ (hid_mono fun a o n q => ⟨n, e a o q⟩)⟩
    obtain ⟨o, h, _⟩ := r.at_
    rw [h]; exact e a o h
  · cases q : H a with
    | none => exact absurd q h
    | some o => rw [e a o q]; nofun
/-- .. of which one object waits, not shared -/
theorem Rl.hold {a : Addr} (R : Rl K Z H σ s) (hn : H a = none) (e : Ext H H') (hz : H' a ≠ none) : Rl K (fun b => Z b ∨ b = a) H' σ s := by
  have key : Ext (Hd Z σ s H) (Hd (fun b => Z b ∨ b = a) σ s H') := hid_mono fun b o n q => by
    refine ⟨fun z => ?_, e b o q⟩
    rcases z with (z | z) | z
    · exact n (.inl z)
    · subst z; rw [hn] at q; cases q
    · exact n (.inr z)
  refine ⟨R.len, fun b z => ?_, fun i p q => ?_, fun i p q => ?_, R.dj⟩
  · rcases z with z | rfl
    · cases h : H b with
      | none => exact absurd h (R.zin b z)
      | some o => rw [e b o h]; nofun
    · exact hz
  · obtain ⟨v, e1, r⟩ := R.sh i p q
    exact ⟨v, e1, r.ext key⟩
  · obtain ⟨b, e1, n, r⟩ := R.ow i p q
    obtain ⟨o, h, _⟩ := r.at_
    refine ⟨b, e1, fun z => ?_, r.ext ?_ key⟩
    · rcases z with z | rfl
      · exact n z
      · rw [hn] at h; cases h
    · rw [h]; exact e b o h
end

/-! ### what comes of a piece -/
inductive Rs (α : Type) where
  | ok (a : α) (s : SE)
  | exc (c : Str) (s : SE)
  | stuck
abbrev PM (α : Type) := SE → Rs α
/-- a value: as it is; new and not shared (fr); or what the slot i holds, which stays owned -/
inductive Arg where
  | val (p : PV) (fr : Bool)
  | bor (i : Nat)
def PostE (K : Frg) (Z : Addr → Prop) (H : Hp) (σ : L2.St) (s : SE) (r : Arg) (s' : SE) (v : V) (H' : Hp) : Prop :=
  match r with
  | .val p false => Go K Z Z H σ s s' H' ∧ Rep K (Hd Z σ s' H') v p
  | .val p true => ∃ a, v = .ref a ∧ H a = none ∧ Go K Z (fun b => Z b ∨ b = a) H σ s s' H' ∧ Ob K H' (Hd (fun b => Z b ∨ b = a) σ s' H') a p ∧ ¬ Owns σ s' a ∧ ¬ Z a
  | .bor i => Go K Z Z H σ s s' H' ∧ σ[i]? = some (some v) ∧ ∃ p, s'[i]? = some (some (true, p))
section
variable {K : Frg} {Z Z' : Addr → Prop} {H H' H'' : Hp} {σ : L2.St} {s s' s'' : SE} {v : V} {p : PV}
theorem PostE.go {r : Arg} (h : PostE K Z H σ s r s' v H') : Go K Z Z H σ s s' H' := by
  match r, h with
  | .val p false, h => exact h.1
  | .val p true, ⟨a, _, _, g, _⟩ => exact g.weak fun b z => .inl z
  | .bor i, h => exact h.1
/-- not new any more -/
theorem PostE.old {fr : Bool} (h : PostE K Z H σ s (.val p fr) s' v H') : Go K Z Z H σ s s' H' ∧ Rep K (Hd Z σ s' H') v p := by
  cases fr with
  | false => exact h
  | true =>
    obtain ⟨a, rfl, hn, g, ob, no, nz⟩ := h
    refine ⟨g.weak fun b z => .inl z, ob.rep ?_ (hid_mono fun b o n q => ⟨fun z => n (z.imp .inl id), q⟩)⟩
    unfold hid
    rw [if_neg (fun z => z.elim nz no)]
/-- ahead of it another way -/
theorem PostE.after {r : Arg} (g : Go K Z Z H σ s s' H') (h : PostE K Z H' σ s' r s'' v H'') : PostE K Z H σ s r s'' v H'' := by
  match r, h with
  | .val p false, h => exact ⟨g.trans h.1, h.2⟩
  | .val p true, ⟨a, e, hn, g', q⟩ =>
    refine ⟨a, e, ?_, g.trans g', q⟩
    cases h : H a with
    | none => rfl
    | some o => exact absurd hn (g.tr a (by rw [h]; nofun))
  | .bor i, h => exact ⟨g.trans h.1, h.2⟩
end

/-- what is wanted behind a piece, by what it gave -/
def Mt {α : Type} (r : Rs α) (ok : α → SE → Prop) (ex : Str → SE → Prop) : Prop := match r with
  | .ok a s => ok a s
  | .exc c s => ex c s
  | .stuck => False
/-! ### judgements: expressions, tests, arguments -/
/-- what leaves by an exception of the class named c -/
def XOut (K : Frg) (mg : Str → Option Value) (W : WX) (Z : Addr → Prop) (H : Hp) (σ : L2.St) (s : SE) (c : Str) (s' : SE) : Prop :=
  ∀ C H', mg c = some (.ref C) → Go K Z Z H σ s s' H' → W (.ref C) none σ H'
def lE (K : Frg) (mg : Str → Option Value) (W : WX) (f : PM Arg) : TE := fun σ H Q => ∃ (Z : Addr → Prop) (s : SE), Rl K Z H σ s ∧ Mt (f s) (fun r s' => ∀ v H', PostE K Z H σ s r s' v H' → Q v H') (fun c s' => XOut K mg W Z H σ s c s')
structure QE (X : Cx) (W : WX) (e : Expr) (f : PM Arg) : Prop where
  pe : PE X e (lE (kx X) X.mg W f)
def lT (K : Frg) (mg : Str → Option Value) (W : WX) (f : PM Bool) : TT := fun σ H Q => ∃ (Z : Addr → Prop) (s : SE), Rl K Z H σ s ∧ Mt (f s) (fun b s' => ∀ H', Go K Z Z H σ s s' H' → Q b H') (fun c s' => XOut K mg W Z H σ s c s')
structure QT (X : Cx) (W : WX) (e : Expr) (f : PM Bool) : Prop where
  pt : PT X e (lT (kx X) X.mg W f)
structure QW (X : Cx) (W : WX) (e : Expr) (f : PM Bool) : Prop where
  pw : PW X e (lT (kx X) X.mg W f)
/-- an argument that has come and waits -/
def ArgAt (K : Frg) (Z : Addr → Prop) (H : Hp) (σ : L2.St) (s : SE) (v : V) : Arg → Prop
  | .val p _ => Rep K (Hd Z σ s H) v p
  | .bor i => σ[i]? = some (some v) ∧ ∃ f p, s[i]? = some (some (f, p))
inductive ArgsAt (K : Frg) (Z : Addr → Prop) (H : Hp) (σ : L2.St) (s : SE) : List V → List Arg → Prop
  | nil : ArgsAt K Z H σ s [] []
  | cons {v : V} {vs : List V} {r : Arg} {rs : List Arg} : ArgAt K Z H σ s v r → ArgsAt K Z H σ s vs rs → ArgsAt K Z H σ s (v :: vs) (r :: rs)
def lA (K : Frg) (mg : Str → Option Value) (W : WX) (f : PM (List Arg)) : TA := fun σ H Q => ∃ (Z : Addr → Prop) (s : SE), Rl K Z H σ s ∧ Mt (f s) (fun rs s' => ∀ vs H', Go K Z Z H σ s s' H' → ArgsAt K Z H' σ s' vs rs → Q vs H') (fun c s' => XOut K mg W Z H σ s c s')
structure QA (X : Cx) (W : WX) (es : List Expr) (f : PM (List Arg)) : Prop where
  pa : PA X es (lA (kx X) X.mg W f)
  len : ∀ s rs s', f s = .ok rs s' → rs.length = es.length
/-! ### tables apart -/
def NT (o : HO) : Prop := ∀ ps, o ≠ .tbl ps
/-- without the tables -/
noncomputable def noT (H : Hp) : Hp := hid (fun a => ∃ ps, H a = some (.tbl ps)) H
theorem noT_some {H : Hp} {a : Addr} {o : HO} : noT H a = some o ↔ H a = some o ∧ NT o := by
  unfold noT
  rw [hid_some]
  constructor
  · rintro ⟨n, e⟩
    exact ⟨e, fun ps z => n ⟨ps, by rw [e, z]⟩⟩
  · rintro ⟨e, n⟩
    exact ⟨fun ⟨ps, z⟩ => n ps (by rw [e] at z; exact Option.some.inj z), e⟩
theorem noT_sub {H : Hp} : Ext (noT H) H := fun a o e => (noT_some.mp e).1
theorem noT_mono {H H' : Hp} (e : Ext H H') : Ext (noT H) (noT H') := fun a o h => noT_some.mpr ⟨e _ _ (noT_some.mp h).1, (noT_some.mp h).2⟩
theorem rd_noT {H : Hp} {a : Addr} {u : HO} (r : Rd H a u) (n : NT u) : Rd (noT H) a u := by
  rcases r with r | ⟨o, r⟩
  · exact .inl (noT_some.mpr ⟨r, n⟩)
  · exact .inr ⟨o, noT_some.mpr ⟨r, fun ps z => by cases z⟩⟩
theorem sqL_noT {K : PySem.W.Frag} {H : Hp} {a : Addr} {xs : List V} (r : SqL K H a xs) : SqL K (noT H) a xs := by
  rcases r with r | r
  · exact .inl (rd_noT r fun ps z => by cases z)
  · exact .inr r
theorem sqT_noT {K : PySem.W.Frag} {H : Hp} {a : Addr} {xs : List V} (r : SqT K H a xs) : SqT K (noT H) a xs := by
  rcases r with r | r
  · exact .inl (rd_noT r fun ps z => by cases z)
  · exact .inr r
theorem dAt_noT {K : Frg} {H : Hp} {a : Addr} : ∀ {k : Nat} {l : List (PV × V × V)}, RDAt K H a k l → RDAt K (noT H) a k l
  | 0, _, ⟨kvs, h, q⟩ => ⟨kvs, rd_noT h (fun ps z => (by cases z)), q⟩
  | 1, _, ⟨kvs, h, q⟩ => ⟨kvs, rd_noT h (fun ps z => (by unfold DNo at z; cases z)), q⟩
section
variable {K : Frg} {H : Hp}
mutual
theorem Rep.noT : ∀ {v : V} {p : PV}, Rep K H v p → Rep K (noT H) v p
  | _, _, .non => .non
  | _, _, .bl b => .bl b
  | _, _, .int i => .int i
  | _, _, .str x => .str x
  | _, _, .tup h r => .tup (sqT_noT h) (Reps.noT r)
  | _, _, .lst h r => .lst (noT_some.mpr ⟨h, fun ps z => by cases z⟩) (Reps.noT r)
  | _, _, .scr h => .scr (sqL_noT h)
  | _, _, .rng h => .rng (noT_some.mpr ⟨h, fun ps z => by cases z⟩)
  | _, _, .dct h r => .dct (dAt_noT h) (RepD.noT r)
theorem Reps.noT : ∀ {vs : List V} {ps : List PV}, Reps K H vs ps → Reps K (noT H) vs ps
  | _, _, .nil => .nil
  | _, _, .cons a r => .cons (Rep.noT a) (Reps.noT r)
theorem RepD.noT : ∀ {l : List (PV × V × V)} {kvs : List (PV × PV)}, RepD K H l kvs → RepD K (noT H) l kvs
  | _, _, .nil => .nil
  | _, _, .cons b a r => .cons (Rep.noT b) (Rep.noT a) (RepD.noT r)
end
end
end HF
end

section
set_option Elab.async false
set_option linter.all false
set_option maxRecDepth 100000
set_option maxHeartbeats 1000000
set_option autoImplicit false
/-! HF1: expressions, tests, arguments. -/
namespace HF
open PySem PySem.Spec PyProof.Rows L2

/-! ### ways in a row -/
def bnd {α β : Type} (f : PM α) (g : α → PM β) : PM β := fun s => match f s with
  | .ok a s' => g a s'
  | .exc c s' => .exc c s'
  | .stuck => .stuck
def ret {α : Type} (a : α) : PM α := fun s => .ok a s
def stk {α : Type} : PM α := fun _ => .stuck
theorem pe_mono {X : Cx} {e : Expr} {t t' : TE} (h : PE X e t) (m : ∀ σ H Q, t' σ H Q → t σ H Q) : PE X e t' := ⟨fun pins s σ H Q I q => h.run pins s σ H Q I (m σ H Q q)⟩
theorem pt_mono {X : Cx} {e : Expr} {t t' : TT} (h : PT X e t) (m : ∀ σ H Q, t' σ H Q → t σ H Q) : PT X e t' := ⟨fun pins s σ H Q I q => h.run pins s σ H Q I (m σ H Q q)⟩
theorem pw_mono {X : Cx} {e : Expr} {t t' : TT} (h : PW X e t) (m : ∀ σ H Q, t' σ H Q → t σ H Q) : PW X e t' := ⟨fun wh pins s σ H Q I q => h.run wh pins s σ H Q I (m σ H Q q)⟩
theorem pa_mono {X : Cx} {es : List Expr} {t t' : TA} (h : PA X es t) (m : ∀ σ H Q, t' σ H Q → t σ H Q) : PA X es t' := ⟨fun pos pins s σ H Q I q => h.run pos pins s σ H Q I (m σ H Q q)⟩

section
variable {K : Frg} {mg : Str → Option Value} {W : WX} {Z : Addr → Prop} {H H' H1 : Hp} {σ : L2.St} {s s1 s' : SE}
theorem XOut.after {c : Str} (x : XOut K mg W Z H σ s c s') (g : Go K Z Z H σ s s1 H1) : XOut K mg W Z H1 σ s1 c s' := fun C H' e g' => x C H' e (g.trans g')
theorem Mt.bnd_ {α β : Type} {f : PM α} {g : α → PM β} {ok : β → SE → Prop} {ex : Str → SE → Prop} (h : Mt (bnd f g s) ok ex) : Mt (f s) (fun a s1 => Mt (g a s1) ok ex) ex := by
  unfold bnd at h
  cases q : f s with
  | ok a s1 => rw [q] at h; exact h
  | exc c s1 => rw [q] at h; exact h
  | stuck => rw [q] at h; exact h
theorem lE_iff {f : PM Arg} {Q : VK} : lE K mg W f σ H Q ↔ ∃ (Z : Addr → Prop) (s : SE), Rl K Z H σ s ∧ Mt (f s) (fun r s' => ∀ v H', PostE K Z H σ s r s' v H' → Q v H') (fun c s' => XOut K mg W Z H σ s c s') := by
  exact Iff.rfl
theorem lT_iff {f : PM Bool} {Q : Bool → Hp → Prop} : lT K mg W f σ H Q ↔ ∃ (Z : Addr → Prop) (s : SE), Rl K Z H σ s ∧ Mt (f s) (fun b s' => ∀ H', Go K Z Z H σ s s' H' → Q b H') (fun c s' => XOut K mg W Z H σ s c s') := by
  exact Iff.rfl
theorem lA_iff {f : PM (List Arg)} {Q : List V → Hp → Prop} : lA K mg W f σ H Q ↔ ∃ (Z : Addr → Prop) (s : SE), Rl K Z H σ s ∧ Mt (f s) (fun rs s' => ∀ vs H', Go K Z Z H σ s s' H' → ArgsAt K Z H' σ s' vs rs → Q vs H') (fun c s' => XOut K mg W Z H σ s c s') := by
  exact Iff.rfl
/-- a first expression, then more -/
theorem lE_step {f : PM Arg} {Q : VK} {ok : Arg → SE → Prop} (R : Rl K Z H σ s) (h : Mt (f s) ok (fun c s' => XOut K mg W Z H σ s c s')) (k : ∀ r s1 v H1, ok r s1 → PostE K Z H σ s r s1 v H1 → Q v H1) : lE K mg W f σ H Q :=
  lE_iff.mpr ⟨Z, s, R, by
    cases q : f s with
    | ok r s1 => rw [q] at h; exact fun v H1 p => k r s1 v H1 h p
    | exc c s1 => rw [q] at h; exact h
    | stuck => rw [q] at h; exact h⟩
theorem lT_step {f : PM Bool} {Q : Bool → Hp → Prop} {ok : Bool → SE → Prop} (R : Rl K Z H σ s) (h : Mt (f s) ok (fun c s' => XOut K mg W Z H σ s c s')) (k : ∀ b s1 H1, ok b s1 → Go K Z Z H σ s s1 H1 → Q b H1) : lT K mg W f σ H Q :=
  lT_iff.mpr ⟨Z, s, R, by
    cases q : f s with
    | ok r s1 => rw [q] at h; exact fun H1 p => k r s1 H1 h p
    | exc c s1 => rw [q] at h; exact h
    | stuck => rw [q] at h; exact h⟩
theorem lA_step {f : PM (List Arg)} {Q : List V → Hp → Prop} {ok : List Arg → SE → Prop} (R : Rl K Z H σ s) (h : Mt (f s) ok (fun c s' => XOut K mg W Z H σ s c s')) (k : ∀ rs s1 vs H1, ok rs s1 → Go K Z Z H σ s s1 H1 → ArgsAt K Z H1 σ s1 vs rs → Q vs H1) : lA K mg W f σ H Q :=
  lA_iff.mpr ⟨Z, s, R, by
    cases q : f s with
    | ok r s1 => rw [q] at h; exact fun vs H1 p p2 => k r s1 vs H1 h p p2
    | exc c s1 => rw [q] at h; exact h
    | stuck => rw [q] at h; exact h⟩
/-- an exception's wish, from a later place -/
theorem Mt.later {α : Type} {r : Rs α} {ok : α → SE → Prop} (h : Mt r ok (fun c s' => XOut K mg W Z H σ s c s')) (g : Go K Z Z H σ s s1 H1) : Mt r ok (fun c s' => XOut K mg W Z H1 σ s1 c s') := by
  cases r with
  | ok a s => exact h
  | exc c s => exact XOut.after h g
  | stuck => exact h
theorem Mt.imp {α : Type} {r : Rs α} {ok ok' : α → SE → Prop} {ex : Str → SE → Prop} (h : Mt r ok ex) (k : ∀ a s, ok a s → ok' a s) : Mt r ok' ex := by
  cases r with
  | ok a s => exact k a s h
  | exc c s => exact h
  | stuck => exact h
end

/-! ### what waits -/
/-- a value that waits is not new any more -/
def wait : Arg → Arg
  | .val p _ => .val p false
  | .bor i => .bor i
def rv (s : SE) : Arg → Option PV
  | .val p _ => some p
  | .bor i => match s[i]? with
    | some (some (_, p)) => some p
    | _ => none
inductive RepB (K : Frg) (H Hv : Hp) : V → PV → Prop
  | of {v : V} {p : PV} : Rep K Hv v p → RepB K H Hv v p
  | ob {a : Addr} {p : PV} : Ob K H Hv a p → RepB K H Hv (.ref a) p
inductive RepBs (K : Frg) (H Hv : Hp) : List V → List PV → Prop
  | nil : RepBs K H Hv [] []
  | cons {v : V} {vs : List V} {p : PV} {ps : List PV} : RepB K H Hv v p → RepBs K H Hv vs ps → RepBs K H Hv (v :: vs) (p :: ps)
section
variable {K : Frg} {Z : Addr → Prop} {H H' H1 : Hp} {σ : L2.St} {s s1 s' : SE} {v : V} {vs : List V}
theorem PostE.wait {r : Arg} (h : PostE K Z H σ s r s1 v H1) : Go K Z Z H σ s s1 H1 ∧ ArgAt K Z H1 σ s1 v r := by
  match r, h with
  | .val p fr, h => exact h.old
  | .bor i, h => exact ⟨h.1, h.2.1, _, h.2.2⟩
theorem ArgAt.go {r : Arg} (h : ArgAt K Z H σ s v r) (g : Go K Z Z H σ s s1 H1) : ArgAt K Z H1 σ s1 v r := by
  match r, h with
  | .val p fr, h => exact Rep.ext g.vis h
  | .bor i, ⟨e, f, p, q⟩ =>
    obtain ⟨⟨f', p'⟩, q'⟩ := g.kp i _ q
    exact ⟨e, f', p', q'⟩
theorem ArgsAt.go {rs : List Arg} (h : ArgsAt K Z H σ s vs rs) (g : Go K Z Z H σ s s1 H1) : ArgsAt K Z H1 σ s1 vs rs := by
  induction h with
  | nil => exact .nil
  | cons a _ ih => exact .cons (a.go g) ih
theorem ArgAt.repB {r : Arg} {p : PV} (R : Rl K Z H σ s) (h : ArgAt K Z H σ s v r) (e : rv s r = some p) : RepB K H (Hd Z σ s H) v p := by
  match r, h with
  | .val q fr, h => cases e; exact .of h
  | .bor i, ⟨e1, f, q, e2⟩ =>
    simp only [rv, e2, Option.some.injEq] at e
    subst e
    cases f with
    | false =>
      obtain ⟨v', e3, r⟩ := R.sh i _ e2
      rw [e1] at e3; cases e3
      exact .of r
    | true =>
      obtain ⟨a, e3, _, r⟩ := R.ow i _ e2
      rw [e1] at e3; cases e3
      exact .ob r
def rvs (s : SE) : List Arg → Option (List PV)
  | [] => some []
  | r :: rs => match rv s r, rvs s rs with
    | some p, some ps => some (p :: ps)
    | _, _ => none
theorem ArgsAt.repBs {rs : List Arg} (R : Rl K Z H σ s) (h : ArgsAt K Z H σ s vs rs) : ∀ {ps : List PV}, rvs s rs = some ps → RepBs K H (Hd Z σ s H) vs ps := by
  induction h with
  | nil => intro ps e; cases e; exact .nil
  | cons a _ ih =>
    rename_i v vs r rs _
    intro ps e
    unfold rvs at e
    cases h1 : rv s r with
    | none => rw [h1] at e; simp at e
    | some p =>
      cases h2 : rvs s rs with
      | none => rw [h1, h2] at e; simp at e
      | some qs =>
        rw [h1, h2] at e
        simp at e
        subst e
        exact .cons (a.repB R h1) (ih h2)
end

/-! ### operations by values -/
/-- what an operation gives: new things alone -/
def Post1 (K : Frg) (H Hv : Hp) (v : V) (H' : Hp) (p : PV) (fr : Bool) : Prop := Ext H H' ∧ match fr with
  | false => Rep K (grow Hv H H') v p
  | true => ∃ a, v = .ref a ∧ H a = none ∧ Ob K H' (hid (· = a) (grow Hv H H')) a p
abbrev Op1 := PV → Option (PV × Bool)
abbrev Op2 := PV → PV → Option (PV × Bool)
abbrev OpN := List PV → Option (PV × Bool)
def ROk1 (K : Frg) (r : V → Hp → VK → Prop) (op : Op1) : Prop := ∀ (H Hv : Hp) (x : V) (p q : PV) (fr : Bool) (Q : VK), Ext Hv H → RepB K H Hv x p → op p = some (q, fr) → (∀ v H', Post1 K H Hv v H' q fr → Q v H') → r x H Q
def ROk2 (K : Frg) (r : R2) (op : Op2) : Prop := ∀ (H Hv : Hp) (x y : V) (p1 p2 q : PV) (fr : Bool) (Q : VK), Ext Hv H → RepB K H Hv x p1 → RepB K H Hv y p2 → op p1 p2 = some (q, fr) → (∀ v H', Post1 K H Hv v H' q fr → Q v H') → r x y H Q
def ROkN (K : Frg) (r : List V → Hp → VK → Prop) (op : OpN) : Prop := ∀ (H Hv : Hp) (xs : List V) (ps : List PV) (q : PV) (fr : Bool) (Q : VK), Ext Hv H → RepBs K H Hv xs ps → op ps = some (q, fr) → (∀ v H', Post1 K H Hv v H' q fr → Q v H') → r xs H Q
section
variable {K : Frg} {Z : Addr → Prop} {H Hv H' H1 : Hp} {σ : L2.St} {s s1 s' : SE} {v : V} {vs : List V} {p : PV} {ps : List PV} {a : Addr} {o : HO}
theorem ext_upd (hn : H a = none) : Ext H (upd H a o) := fun b u e => by rw [upd_ne (ne_of_none e hn)]; exact e
theorem post1_same (e : Ext Hv H) (r : Rep K Hv v p) : Post1 K H Hv v H p false := ⟨Ext.refl, by show Rep K (grow Hv H H) v p; rw [grow_self e]; exact r⟩
theorem grow_upd (e : Ext Hv H) (hn : H a = none) : grow Hv H (upd H a o) = upd Hv a o := by
  funext b
  by_cases hb : b = a
  · subst hb; rw [grow_new hn, upd_same, upd_same]
  · rw [upd_ne hb]
    unfold grow
    cases q : H b with
    | none =>
      show upd H a o b = _
      rw [upd_ne hb, q]
      cases z : Hv b with
      | none => rfl
      | some u => rw [e b u z] at q; cases q
    | some u => rfl
theorem ext_none (e : Ext Hv H) (hn : H a = none) : Hv a = none := by
  cases z : Hv a with
  | none => rfl
  | some u => rw [e a u z] at hn; cases hn
theorem post1_tup (e : Ext Hv H) (hn : H a = none) (r : Reps K Hv vs ps) : Post1 K H Hv (.ref a) (upd H a (.tup vs)) (.tup ps) false :=
  ⟨ext_upd hn, by show Rep K (grow Hv H _) _ _; rw [grow_upd e hn]; exact .tup (.of upd_same) (r.ext (ext_upd (ext_none e hn)))⟩
theorem hid_grow (e : Ext Hv H) (hn : H a = none) : Ext Hv (hid (· = a) (grow Hv H (upd H a o))) := fun b u q => hid_some.mpr ⟨fun z => (by subst z; rw [ext_none e hn] at q; cases q), (by rw [grow_upd e hn, upd_ne (ne_of_none q (ext_none e hn))]; exact q)⟩
theorem post1_lst (e : Ext Hv H) (hn : H a = none) (r : Reps K Hv vs ps) : Post1 K H Hv (.ref a) (upd H a (.lst vs)) (.lst ps) true :=
  ⟨ext_upd hn, a, rfl, hn, vs, upd_same, r.ext (hid_grow e hn)⟩
theorem Post1.postE {fr : Bool} (R : Rl K Z H σ s) (h : Post1 K H (Hd Z σ s H) v H' p fr) : PostE K Z H σ s (.val p fr) s v H' := by
  obtain ⟨e, h⟩ := h
  cases fr with
  | false => exact ⟨Go.grown R e, by show Rep K (hid _ H') v p; rw [← grow_hid R.hidIn e]; exact h⟩
  | true =>
    obtain ⟨a, rfl, hn, ob⟩ := h
    have g := Go.grown R e
    obtain ⟨o, ho, _⟩ := ob.at_
    have hz : H' a ≠ none := by rw [ho]; nofun
    refine ⟨a, rfl, hn, ⟨R.hold hn e hz, g.fr, g.ow, g.tr, g.kp⟩, ob.ext rfl fun b u q => ?_, fun z => R.ownIn z hn, fun z => R.zin a z hn⟩
    obtain ⟨q1, q2⟩ := hid_some.mp q
    rw [grow_hid R.hidIn e] at q2
    obtain ⟨q3, q4⟩ := hid_some.mp q2
    refine hid_some.mpr ⟨fun z => ?_, q4⟩
    rcases z with (z | z) | z
    · exact q3 (.inl z)
    · exact q1 z
    · exact q3 (.inr z)
end

/-! ### expressions -/
def fin (o : Option (PV × Bool)) : PM Arg := match o with
  | some (p, fr) => ret (.val p fr)
  | none => stk
def eVar (i : Nat) : PM Arg := fun s => match s[i]? with
  | some (some (true, _)) => .ok (.bor i) s
  | some (some (false, p)) => .ok (.val p false) s
  | _ => .stuck
def eC (p : PV) : PM Arg := ret (.val p false)
def opt1 (op : Op1) (a : Arg) : PM Arg := fun s => match rv s a with
  | some p => fin (op p) s
  | none => .stuck
def opt2 (op : Op2) (a b : Arg) : PM Arg := fun s => match rv s a, rv s b with
  | some p, some q => fin (op p q) s
  | _, _ => .stuck
def optN (op : OpN) (as : List Arg) : PM Arg := fun s => match rvs s as with
  | some ps => fin (op ps) s
  | none => .stuck
def eOp1 (op : Op1) (f : PM Arg) : PM Arg := bnd f (opt1 op)
def eOp2 (op : Op2) (f g : PM Arg) : PM Arg := bnd f fun a => bnd g fun b => opt2 op a b
def eOpN (op : OpN) (f : PM (List Arg)) : PM Arg := bnd f (optN op)
def aNil : PM (List Arg) := ret []
def aCons (f : PM Arg) (g : PM (List Arg)) : PM (List Arg) := bnd f fun a => bnd g fun as => ret (wait a :: as)
section
variable {K : Frg} {mg : Str → Option Value} {W : WX} {Z : Addr → Prop} {H H' H1 : Hp} {σ : L2.St} {s s1 s' : SE} {v w : V} {vs : List V} {Q : VK}
/-- the ends of operations -/
theorem end1 {r : V → Hp → VK → Prop} {op : Op1} {a : Arg} (R : Rl K Z H σ s) (ro : ROk1 K r op) (ha : ArgAt K Z H σ s v a)
    (h : Mt (opt1 op a s) (fun q s' => ∀ v H', PostE K Z H σ s q s' v H' → Q v H') (fun c s' => XOut K mg W Z H σ s c s')) : r v H Q := by
  unfold opt1 at h
  cases e1 : rv s a with
  | none => rw [e1] at h; exact h.elim
  | some p =>
    rw [e1] at h
    simp only [fin] at h
    cases e3 : op p with
    | none => rw [e3] at h; exact h.elim
    | some q =>
      obtain ⟨q, fr⟩ := q
      rw [e3] at h
      exact ro H _ _ _ _ _ _ hid_sub (ha.repB R e1) e3 fun v H' z => h v H' (z.postE R)
theorem end2 {r : R2} {op : Op2} {a b : Arg} (R : Rl K Z H σ s) (ro : ROk2 K r op) (ha : ArgAt K Z H σ s v a) (hb : ArgAt K Z H σ s w b)
    (h : Mt (opt2 op a b s) (fun q s' => ∀ v H', PostE K Z H σ s q s' v H' → Q v H') (fun c s' => XOut K mg W Z H σ s c s')) : r v w H Q := by
  unfold opt2 at h
  cases e1 : rv s a with
  | none => rw [e1] at h; exact h.elim
  | some p =>
    cases e2 : rv s b with
    | none => rw [e1, e2] at h; exact h.elim
    | some p2 =>
      rw [e1, e2] at h
      simp only [fin] at h
      cases e3 : op p p2 with
      | none => rw [e3] at h; exact h.elim
      | some q =>
        obtain ⟨q, fr⟩ := q
        rw [e3] at h
        exact ro H _ _ _ _ _ _ _ _ hid_sub (ha.repB R e1) (hb.repB R e2) e3 fun v H' z => h v H' (z.postE R)
theorem endN {r : List V → Hp → VK → Prop} {op : OpN} {as : List Arg} (R : Rl K Z H σ s) (ro : ROkN K r op) (ha : ArgsAt K Z H σ s vs as)
    (h : Mt (optN op as s) (fun q s' => ∀ v H', PostE K Z H σ s q s' v H' → Q v H') (fun c s' => XOut K mg W Z H σ s c s')) : r vs H Q := by
  unfold optN at h
  cases e1 : rvs s as with
  | none => rw [e1] at h; exact h.elim
  | some p =>
    rw [e1] at h
    simp only [fin] at h
    cases e3 : op p with
    | none => rw [e3] at h; exact h.elim
    | some q =>
      obtain ⟨q, fr⟩ := q
      rw [e3] at h
      exact ro H _ _ _ _ _ _ hid_sub (ha.repBs R e1) e3 fun v H' z => h v H' (z.postE R)
/-- a wish told from an earlier state -/
theorem Mt.fromE {r : Rs Arg} (h : Mt r (fun q s' => ∀ v H', PostE K Z H σ s q s' v H' → Q v H') (fun c s' => XOut K mg W Z H σ s c s')) (g : Go K Z Z H σ s s1 H1) :
    Mt r (fun q s' => ∀ v H', PostE K Z H1 σ s1 q s' v H' → Q v H') (fun c s' => XOut K mg W Z H1 σ s1 c s') :=
  (h.imp fun q s' k v H' p => k v H' (p.after g)).later g
end
section
variable {X : Cx} {W : WX} {a b c e : Expr} {es : List Expr} {f g h : PM Arg} {fs : PM (List Arg)} {pos : Pos}
theorem qe_of {t : TE} (p : PE X e t) (m : ∀ σ H Q, lE (kx X) X.mg W f σ H Q → t σ H Q) : QE X W e f := ⟨pe_mono p m⟩
theorem qe_var {i : Nat} {x : Str} (hN : X.N[i]? = some x) (hv : Vis X.env.scope x) (hd : (x == ("__debug__" : Str)) = false := by decide) (hcd : (x == ("__classdict__" : Str)) = false := by decide) : QE X W (.Name x pos) (eVar i) :=
  qe_of (pe_var hN hv hd hcd) fun σ H Q h => by
    obtain ⟨Z, s, R, h⟩ := lE_iff.mp h
    unfold eVar at h
    cases q : s[i]? with
    | none => rw [q] at h; exact h.elim
    | some sl =>
      rw [q] at h
      match sl, q, h with
      | some (true, p), q, h =>
        obtain ⟨a, e, _, _⟩ := R.ow i p q
        exact ⟨_, e, h _ _ ⟨Go.refl R, e, p, q⟩⟩
      | some (false, p), q, h =>
        obtain ⟨v, e, r⟩ := R.sh i p q
        exact ⟨_, e, h _ _ ⟨Go.refl R, r⟩⟩
theorem qe_c {v : V} {p : PV} (h : PE X e (tC v)) (r : ∀ H, Rep (kx X) H v p) : QE X W e (eC p) :=
  qe_of h fun σ H Q h => by
    obtain ⟨Z, s, R, h⟩ := lE_iff.mp h
    exact h _ _ ⟨Go.refl R, r _⟩
theorem qe_int {i : Int} {j : Nat} : QE X W (.Constant (.int i) j pos) (eC (.int i)) := qe_c pe_int fun _ => .int i
theorem qe_bl {b : Bool} {j : Nat} : QE X W (.Constant (.bool b) j pos) (eC (.bl b)) := qe_c pe_bl fun _ => .bl b
theorem qe_non {j : Nat} : QE X W (.Constant .none j pos) (eC .non) := qe_c pe_non fun _ => .non
theorem qe_str {x : Str} {j : Nat} : QE X W (.Constant (.str x) j pos) (eC (.str x)) := qe_c pe_str fun _ => .str x
theorem qe_glob {x : Str} {v : V} {u : Value} {p : PV} (hg : Gl X x) (hm : X.mg x = some u) (r : RelV v u) (rp : ∀ H, Rep (kx X) H v p) (hd : (x == ("__debug__" : Str)) = false := by decide) : QE X W (.Name x pos) (eC p) := qe_c (pe_glob hg hm r hd) rp

theorem qe_op {op : Operator} {r : R2} {o : Op2} (ho : OpR X (binaryOp op) r) (ro : ROk2 (kx X) r o) (ha : QE X W a f) (hb : QE X W b g) : QE X W (.BinOp a op b pos) (eOp2 o f g) :=
  qe_of (pe_op ho ha.pe hb.pe) fun σ H Q h => by
    obtain ⟨Z, s, R, h⟩ := lE_iff.mp h
    refine lE_step R h.bnd_ fun r1 s1 v H1 k p1 => ?_
    obtain ⟨g1, a1⟩ := p1.wait
    refine lE_step g1.rl ((Mt.bnd_ k).later g1) fun r2 s2 w H2 k2 p2 => ?_
    obtain ⟨g2, a2⟩ := p2.wait
    exact end2 g2.rl ro (a1.go g2) a2 (k2.fromE (g1.trans g2))
theorem qe_cmp {op : CmpOp} {r : R2} {o : Op2} (ho : OpR X (compareOp op) r) (ro : ROk2 (kx X) r o) (ha : QE X W a f) (hb : QE X W b g) (hm : behindInMarks op b = false) : QE X W (.Compare a [op] [b] pos) (eOp2 o f g) :=
  qe_of (pe_cmpR ho ha.pe hb.pe hm) fun σ H Q h => by
    obtain ⟨Z, s, R, h⟩ := lE_iff.mp h
    refine lE_step R h.bnd_ fun r1 s1 v H1 k p1 => ?_
    obtain ⟨g1, a1⟩ := p1.wait
    refine lE_step g1.rl ((Mt.bnd_ k).later g1) fun r2 s2 w H2 k2 p2 => ?_
    obtain ⟨g2, a2⟩ := p2.wait
    exact end2 g2.rl ro (a1.go g2) a2 (k2.fromE (g1.trans g2))
theorem qe_un {op : UnaryOp} {r : V → Hp → VK → Prop} {o : Op1} (ho : UnR X (unaryOp op) r) (ro : ROk1 (kx X) r o) (ha : QE X W a f) : QE X W (.UnaryOp op a pos) (eOp1 o f) :=
  qe_of (pe_un ho ha.pe) fun σ H Q h => by
    obtain ⟨Z, s, R, h⟩ := lE_iff.mp h
    refine lE_step R h.bnd_ fun r1 s1 v H1 k p1 => ?_
    obtain ⟨g1, a1⟩ := p1.wait
    exact end1 g1.rl ro a1 (k.fromE g1)
theorem qe_ix {r : R2} {o : Op2} (ho : IxR X r) (ro : ROk2 (kx X) r o) (ha : QE X W a f) (hb : QE X W b g) (hs : PlainIx b) : QE X W (.Subscript a b pos) (eOp2 o f g) :=
  qe_of (pe_ix ho ha.pe hb.pe hs) fun σ H Q h => by
    obtain ⟨Z, s, R, h⟩ := lE_iff.mp h
    refine lE_step R h.bnd_ fun r1 s1 v H1 k p1 => ?_
    obtain ⟨g1, a1⟩ := p1.wait
    refine lE_step g1.rl ((Mt.bnd_ k).later g1) fun r2 s2 w H2 k2 p2 => ?_
    obtain ⟨g2, a2⟩ := p2.wait
    exact end2 g2.rl ro (a1.go g2) a2 (k2.fromE (g1.trans g2))
theorem qa_nil : QA X W [] aNil := ⟨pa_mono pa_nil fun σ H Q h => by
  obtain ⟨Z, s, R, h⟩ := lA_iff.mp h
  exact h _ _ (Go.refl R) .nil, fun s rs s' e => by cases e; rfl⟩
theorem argAt_wait {K : Frg} {Z : Addr → Prop} {H : Hp} {σ : L2.St} {s : SE} {v : V} {r : Arg} (h : ArgAt K Z H σ s v r) : ArgAt K Z H σ s v (wait r) := by
  cases r <;> exact h
theorem qa_cons (ha : QE X W e f) (hr : QA X W es fs) (hs : starEach (e :: es) X.env = (false, eval e X.env) :: starEach es X.env := by rfl) : QA X W (e :: es) (aCons f fs) := ⟨pa_mono (pa_cons ha.pe hr.pa hs) fun σ H Q h => by
  obtain ⟨Z, s, R, h⟩ := lA_iff.mp h
  refine lE_step R h.bnd_ fun r1 s1 v H1 k p1 => ?_
  obtain ⟨g1, a1⟩ := p1.wait
  refine lA_step g1.rl ((Mt.bnd_ k).later g1) fun r2 s2 w H2 k2 g2 a2 => ?_
  exact k2 _ _ (g1.trans g2) (.cons (argAt_wait (a1.go g2)) a2), fun s rs s' q => by
  unfold aCons bnd at q
  cases h1 : f s with
  | stuck => rw [h1] at q; cases q
  | exc c s1 => rw [h1] at q; cases q
  | ok a s1 =>
    rw [h1] at q
    dsimp only [bnd] at q
    cases h2 : fs s1 with
    | stuck => rw [h2] at q; cases q
    | exc c s2 => rw [h2] at q; cases q
    | ok as s2 =>
      rw [h2] at q
      cases q
      simp [hr.len _ _ _ h2]⟩
theorem qe_call {x : Str} {id : String} {r : List V → Hp → VK → Prop} {o : OpN} {p : Pos} (hc : CallR X (.builtin id) r) (ro : ROkN (kx X) r o) (hg : Gl X x) (hm : X.mg x = none) (hv : bootBuiltins x = some (.builtin id)) (ha : QA X W (e :: es) fs)
    (hn : x ≠ "__name__" := by decide) (hdb : (x == ("__debug__" : Str)) = false := by decide)
    (he : starEach (e :: es) X.env = (false, eval e X.env) :: starEach es X.env := by rfl) (hpl : (backTo pos (starEach es X.env)).any (·.1) = false := by rfl) : QE X W (.Call (.Name x p) (e :: es) [] pos) (eOpN o fs) :=
  qe_of (pe_callB hc hg hm hv ha.pa hn hdb he hpl) fun σ H Q h => by
    obtain ⟨Z, s, R, h⟩ := lE_iff.mp h
    refine lA_step R h.bnd_ fun r1 s1 vs H1 k g1 a1 => ?_
    exact endN g1.rl ro a1 (k.fromE g1)
theorem qe_callT {x : Str} {T : String} {r : List V → Hp → VK → Prop} {o : OpN} {p : Pos} (hc : CallR X (.type T) r) (ro : ROkN (kx X) r o) (hg : Gl X x) (hm : X.mg x = none) (hv : bootBuiltins x = some (.type T)) (ha : QA X W (e :: es) fs)
    (hn : x ≠ "__name__" := by decide) (hdb : (x == ("__debug__" : Str)) = false := by decide)
    (he : starEach (e :: es) X.env = (false, eval e X.env) :: starEach es X.env := by rfl) (hpl : (backTo pos (starEach es X.env)).any (·.1) = false := by rfl) : QE X W (.Call (.Name x p) (e :: es) [] pos) (eOpN o fs) :=
  qe_of (pe_callTy hc hg hm hv ha.pa hn hdb he hpl) fun σ H Q h => by
    obtain ⟨Z, s, R, h⟩ := lE_iff.mp h
    refine lA_step R h.bnd_ fun r1 s1 vs H1 k g1 a1 => ?_
    exact endN g1.rl ro a1 (k.fromE g1)
end
end HF
end

section
set_option Elab.async false
set_option linter.all false
set_option maxRecDepth 100000
set_option maxHeartbeats 1000000
set_option autoImplicit false
/-! HF2: tests, chains, displays, slices, stores. -/
namespace HF
open PySem PySem.Spec PyProof.Rows L2

/-! ### ends with any wish -/
section
variable {K : Frg} {mg : Str → Option Value} {W : WX} {Z : Addr → Prop} {H H' H1 : Hp} {σ : L2.St} {s s1 s' : SE} {v w : V} {vs : List V} {Q : VK} {ok : Arg → SE → Prop} {ex : Str → SE → Prop}
theorem end2' {r : R2} {op : Op2} {a b : Arg} (R : Rl K Z H σ s) (ro : ROk2 K r op) (ha : ArgAt K Z H σ s v a) (hb : ArgAt K Z H σ s w b)
    (h : Mt (opt2 op a b s) ok ex) (k : ∀ q s' v H', ok q s' → PostE K Z H σ s q s' v H' → Q v H') : r v w H Q :=
  end2 (mg := fun _ => none) (W := fun _ _ _ _ => True) R ro ha hb (by
    unfold opt2 at h ⊢
    cases e1 : rv s a with
    | none => rw [e1] at h; exact h.elim
    | some p =>
      cases e2 : rv s b with
      | none => rw [e1, e2] at h; exact h.elim
      | some p2 =>
        rw [e1, e2] at h
        simp only [fin] at h ⊢
        cases e3 : op p p2 with
        | none => rw [e3] at h; exact h.elim
        | some q => rw [e3] at h; exact fun v H' z => k _ _ v H' h z)
end

/-! ### tests -/
def asB : Arg → PM Bool
  | .val (.bl b) _ => ret b
  | _ => stk
def tBool (f : PM Arg) : PM Bool := bnd f asB
def truthP : PV → Option Bool
  | .non => some false
  | .bl b => some b
  | .int i => some (i != 0)
  | .str y => if y.length ≤ sizeLine then some ((y.length : Int) != 0) else none
  | .tup xs => some (!xs.isEmpty)
  | .lst xs => some (!xs.isEmpty)
  | _ => none
/-- an owned dict's truth -/
def truD (s : SE) : Arg → Option Bool
  | .bor i => (match s[i]? with
    | some (some (true, .dct 0 kvs)) => some (!kvs.isEmpty)
    | _ => none)
  | _ => none
def truA (a : Arg) : PM Bool := fun s => match rv s a with
  | some p => (match truthP p with
    | some b => .ok b s
    | none => (match truD s a with
      | some b => .ok b s
      | none => .stuck))
  | none => .stuck
def tTru (f : PM Arg) : PM Bool := bnd f truA
theorem Reps.isEmpty {K : Frg} {H : Hp} {vs : List V} {ps : List PV} (r : Reps K H vs ps) : vs.isEmpty = ps.isEmpty := by cases r <;> rfl
theorem RepD.isEmpty {K : Frg} {H : Hp} {l : List (PV × V × V)} {kvs : List (PV × PV)} (r : RepD K H l kvs) : l.isEmpty = kvs.isEmpty := by cases r <;> rfl
theorem truV_of {K : Frg} {H Hv : Hp} {v : V} {p : PV} {b : Bool} (e : Ext Hv H) (r : RepB K H Hv v p) (h : truthP p = some b) : TruV K.K v H b := by
  cases r with
  | of r =>
    cases r with
    | non => cases h; rfl
    | bl c => cases h; rfl
    | int i => cases h; rfl
    | str x =>
      simp only [truthP] at h
      split at h
      · cases h; rename_i z; exact ⟨z, rfl⟩
      · cases h
    | tup q r => cases h; exact .inr (.inl ⟨_, e.sqT q, by rw [r.isEmpty]⟩)
    | lst q r => cases h; exact .inl ⟨_, e.sqL (.of q), by rw [r.isEmpty]⟩
    | scr q => cases h
    | rng q => cases h
    | dct q r => cases h
  | ob o =>
    cases p with
    | lst ps => obtain ⟨vs, q, r⟩ := o; cases h; exact .inl ⟨_, .of q, by rw [r.isEmpty]⟩
    | dct k kvs => cases h
    | _ => exact o.elim
section
variable {X : Cx} {W : WX} {a b c e : Expr} {es rest : List Expr} {f g h : PM Arg} {ft gt : PM Bool} {fs : PM (List Arg)} {pos : Pos}
variable {K : Frg} {mg : Str → Option Value} {σ : L2.St} {H : Hp}
theorem lT_tBool {Q : Bool → Hp → Prop} (h : lT K mg W (tBool f) σ H Q) : lE K mg W f σ H fun x H1 => ∃ k, x = .bl k ∧ Q k H1 := by
  obtain ⟨Z, s, R, h⟩ := lT_iff.mp h
  refine lE_step R h.bnd_ fun r1 s1 v H1 k p1 => ?_
  match r1, k, p1 with
  | .val (.bl b) fr, k, p1 =>
    obtain ⟨g, r⟩ := p1.old
    cases r
    exact ⟨b, rfl, k _ g⟩
theorem op2_m {r : R2} {o : Op2} {Q : VK} (ro : ROk2 K r o) (h : lE K mg W (eOp2 o f g) σ H Q) : tOp r (lE K mg W f) (lE K mg W g) σ H Q := by
  obtain ⟨Z, s, R, h⟩ := lE_iff.mp h
  refine lE_step R h.bnd_ fun r1 s1 v H1 k p1 => ?_
  obtain ⟨g1, a1⟩ := p1.wait
  refine lE_step g1.rl ((Mt.bnd_ k).later g1) fun r2 s2 w H2 k2 p2 => ?_
  obtain ⟨g2, a2⟩ := p2.wait
  exact end2 g2.rl ro (a1.go g2) a2 (k2.fromE (g1.trans g2))
theorem qt_cmp {op : CmpOp} {r : R2} {o : Op2} (ho : OpR X (compareOp op) r) (ro : ROk2 (kx X) r o) (ha : QE X W a f) (hb : QE X W b g) (hm : behindInMarks op b = false) : QT X W (.Compare a [op] [b] pos) (tBool (eOp2 o f g)) :=
  ⟨pt_mono (pt_cmpR ho ha.pe hb.pe hm) fun σ H Q h => op2_m ro (lT_tBool h)⟩
end

/-! ### chains, and, or, not, if else -/
def eChain (o o' : Op2) (f g h : PM Arg) : PM Arg := bnd f fun a => bnd g fun b => bnd (opt2 o a b) fun z => bnd (asB z) fun k => if k = true then bnd h fun c => opt2 o' (wait b) c else ret (.val (.bl false) false)
def eAnd (f g : PM Arg) : PM Arg := bnd f fun a => bnd (asB a) fun k => if k = true then g else ret (.val (.bl false) false)
def eOr (f g : PM Arg) : PM Arg := bnd f fun a => bnd (asB a) fun k => if k = true then ret (.val (.bl true) false) else g
def eNot (f : PM Arg) : PM Arg := bnd (tTru f) fun k => ret (.val (.bl (!k)) false)
def eIf (c : PM Bool) (f g : PM Arg) : PM Arg := bnd c fun k => if k = true then f else g
def tAndP (f g : PM Bool) : PM Bool := bnd f fun k => if k = true then g else ret false
def tOrP (f g : PM Bool) : PM Bool := bnd f fun k => if k = true then ret true else g
def tNotP (f : PM Bool) : PM Bool := bnd f fun k => ret (!k)
section
variable {X : Cx} {W : WX} {a b c e : Expr} {es rest : List Expr} {f g h : PM Arg} {ft gt ct : PM Bool} {fs : PM (List Arg)} {pos : Pos}
variable {K : Frg} {mg : Str → Option Value} {σ : L2.St} {H : Hp}
theorem asB_post {Z : Addr → Prop} {s s1 : SE} {r : Arg} {v : V} {H1 : Hp} {ok : Bool → SE → Prop} {ex : Str → SE → Prop} (p : PostE K Z H σ s r s1 v H1) (h : Mt (asB r s1) ok ex) : ∃ k, v = .bl k ∧ Go K Z Z H σ s s1 H1 ∧ ok k s1 := by
  match r, h, p with
  | .val (.bl b) fr, h, p =>
    obtain ⟨g, r⟩ := p.old
    cases r
    exact ⟨b, rfl, g, h⟩
theorem rep_bl {k : Bool} : Rep K H (.bl k) (.bl k) := .bl k
theorem chain_m {r r' : R2} {o o' : Op2} {Q : VK} (ro : ROk2 K r o) (ro' : ROk2 K r' o') (q : lE K mg W (eChain o o' f g h) σ H Q) : tChain r r' (lE K mg W f) (lE K mg W g) (lE K mg W h) σ H Q := by
  obtain ⟨Z, s, R, q⟩ := lE_iff.mp q
  refine lE_step R q.bnd_ fun r1 s1 v H1 k p1 => ?_
  obtain ⟨g1, a1⟩ := p1.wait
  refine lE_step g1.rl ((Mt.bnd_ k).later g1) fun r2 s2 w H2 k2 p2 => ?_
  obtain ⟨g2, a2⟩ := p2.wait
  refine end2' g2.rl ro (a1.go g2) a2 k2.bnd_ fun z s3 u H3 k3 p3 => ?_
  obtain ⟨b, rfl, g3, k4⟩ := asB_post p3 k3.bnd_
  refine ⟨b, rfl, ?_⟩
  have G3 := (g1.trans g2).trans g3
  cases b with
  | false => exact k4 _ _ ⟨G3, .bl false⟩
  | true =>
    refine lE_step g3.rl ((Mt.bnd_ k4).later G3) fun r4 s4 x H4 k5 p4 => ?_
    obtain ⟨g4, a4⟩ := p4.wait
    exact end2 g4.rl ro' ((argAt_wait (a2.go g3)).go g4) a4 (k5.fromE (G3.trans g4))
theorem qe_chain {op op' : CmpOp} {r r' : R2} {o o' : Op2} (ho : OpR X (compareOp op) r) (ro : ROk2 (kx X) r o) (ho' : OpR X (compareOp op') r') (ro' : ROk2 (kx X) r' o') (ha : QE X W a f) (hb : QE X W b g) (hc : QE X W c h)
    (hm : lastMarks [op, op'] [b, c] = false := by rfl) (h1 : behindInMarks op b = false := by rfl) : QE X W (.Compare a [op, op'] [b, c] pos) (eChain o o' f g h) :=
  qe_of (pe_chain ho ho' ha.pe hb.pe hc.pe hm) fun σ H Q h => chain_m ro ro' h
theorem qt_chain {op op' : CmpOp} {r r' : R2} {o o' : Op2} (ho : OpR X (compareOp op) r) (ro : ROk2 (kx X) r o) (ho' : OpR X (compareOp op') r') (ro' : ROk2 (kx X) r' o') (ha : QE X W a f) (hb : QE X W b g) (hc : QE X W c h)
    (hm : lastMarks [op, op'] [b, c] = false := by rfl) (h1 : behindInMarks op b = false := by rfl) : QT X W (.Compare a [op, op'] [b, c] pos) (tBool (eChain o o' f g h)) :=
  ⟨pt_mono (pt_chain ho ho' ha.pe hb.pe hc.pe hm) fun σ H Q h => chain_m ro ro' (lT_tBool h)⟩
theorem qe_one {op : BoolOp} (ha : QE X W a f) : QE X W (.BoolOp op [a] pos) f := ⟨pe_one ha.pe⟩
theorem qe_and (ha : QE X W a f) (hb : QE X W (.BoolOp .And (b :: rest) pos) g) : QE X W (.BoolOp .And (a :: b :: rest) pos) (eAnd f g) :=
  qe_of (pe_and ha.pe hb.pe) fun σ H Q h => by
    obtain ⟨Z, s, R, h⟩ := lE_iff.mp h
    refine lE_step R h.bnd_ fun r1 s1 v H1 k p1 => ?_
    obtain ⟨b, rfl, g1, k2⟩ := asB_post p1 k.bnd_
    refine ⟨b, rfl, ?_⟩
    cases b with
    | false => exact k2 _ _ ⟨g1, .bl false⟩
    | true => exact lE_iff.mpr ⟨Z, s1, g1.rl, Mt.fromE k2 g1⟩
theorem qe_or (ha : QE X W a f) (hb : QE X W (.BoolOp .Or (b :: rest) pos) g) : QE X W (.BoolOp .Or (a :: b :: rest) pos) (eOr f g) :=
  qe_of (pe_or ha.pe hb.pe) fun σ H Q h => by
    obtain ⟨Z, s, R, h⟩ := lE_iff.mp h
    refine lE_step R h.bnd_ fun r1 s1 v H1 k p1 => ?_
    obtain ⟨b, rfl, g1, k2⟩ := asB_post p1 k.bnd_
    refine ⟨b, rfl, ?_⟩
    cases b with
    | true => exact k2 _ _ ⟨g1, .bl true⟩
    | false => exact lE_iff.mpr ⟨Z, s1, g1.rl, Mt.fromE k2 g1⟩
theorem truA_post {Z : Addr → Prop} {s s1 : SE} {r : Arg} {v : V} {H1 : Hp} {ok : Bool → SE → Prop} {ex : Str → SE → Prop} (p1 : PostE K Z H σ s r s1 v H1) (k : Mt (truA r s1) ok ex) : ∃ b, TruV K.K v H1 b ∧ Go K Z Z H σ s s1 H1 ∧ ok b s1 := by
  obtain ⟨g1, a1⟩ := p1.wait
  unfold truA at k
  cases e1 : rv s1 r with
  | none => rw [e1] at k; exact k.elim
  | some p =>
    rw [e1] at k
    cases e2 : truthP p with
    | some b =>
      simp only [e2] at k
      exact ⟨b, truV_of hid_sub (a1.repB g1.rl e1) e2, g1, k⟩
    | none =>
      simp only [e2] at k
      cases e3 : truD s1 r with
      | none => simp only [e3] at k; exact k.elim
      | some b =>
        simp only [e3] at k
        refine ⟨b, ?_, g1, k⟩
        match r, e3, a1 with
        | .bor i, e3, ⟨q1, _⟩ =>
          unfold truD at e3
          cases q : s1[i]? with
          | none => simp [q] at e3
          | some sl =>
            match sl, q, e3 with
            | some (true, .dct 0 kvs), q, e3 =>
              simp only [q, Option.some.injEq] at e3
              subst e3
              obtain ⟨a, q2, _, l, ⟨kv, q3, q4⟩, r⟩ := g1.rl.ow i _ q
              rw [q1] at q2; cases q2
              refine .inr (.inr ⟨kv, q3, ?_⟩)
              rw [← r.isEmpty, q4]
              simp
            | none, q, e3 => simp [q] at e3
            | some (false, _), q, e3 => simp [q] at e3
            | some (true, .non), q, e3 => simp [q] at e3
            | some (true, .bl _), q, e3 => simp [q] at e3
            | some (true, .int _), q, e3 => simp [q] at e3
            | some (true, .str _), q, e3 => simp [q] at e3
            | some (true, .tup _), q, e3 => simp [q] at e3
            | some (true, .lst _), q, e3 => simp [q] at e3
            | some (true, .rng _ _), q, e3 => simp [q] at e3
            | some (true, .scr _), q, e3 => simp [q] at e3
            | some (true, .dct (_ + 1) _), q, e3 => simp [q] at e3
theorem qt_truth (ha : QE X W a f) (he : ∀ whole, isTrue a X.env whole = (do let v ← whole; standAt a.pos; holding [v] (truthy v)) := by intro _; rfl) : QT X W a (tTru f) :=
  ⟨pt_mono (pt_truth ha.pe he) fun σ H Q h => by
    obtain ⟨Z, s, R, h⟩ := lT_iff.mp h
    refine lE_step R h.bnd_ fun r1 s1 v H1 k p1 => ?_
    obtain ⟨b, t, g1, k⟩ := truA_post p1 k
    exact ⟨b, t, k _ g1⟩⟩
theorem qe_not (ha : QE X W a f) : QE X W (.UnaryOp .Not a pos) (eNot f) :=
  qe_of (pe_notT ha.pe) fun σ H Q h => by
    obtain ⟨Z, s, R, h⟩ := lE_iff.mp h
    refine lE_step R h.bnd_.bnd_ fun r1 s1 v H1 k p1 => ?_
    obtain ⟨b, t, g1, k⟩ := truA_post p1 k
    exact ⟨b, t, k _ _ ⟨g1, .bl _⟩⟩
theorem qe_if (hc : QT X W c ct) (ha : QE X W a f) (hb : QE X W b g) : QE X W (.IfExp c a b pos) (eIf ct f g) :=
  qe_of (pe_ifExp hc.pt ha.pe hb.pe) fun σ H Q h => by
    obtain ⟨Z, s, R, h⟩ := lE_iff.mp h
    refine lT_step R h.bnd_ fun b s1 H1 k g1 => ?_
    cases b with
    | true => exact lE_iff.mpr ⟨Z, s1, g1.rl, Mt.fromE k g1⟩
    | false => exact lE_iff.mpr ⟨Z, s1, g1.rl, Mt.fromE k g1⟩
/-- a test whose whole has no say -/
theorem qt_of (h : QW X W a ft) : QT X W a ft := ⟨h.pw.pt⟩
theorem qw_and1 (ha : QT X W a ft) : QW X W (.BoolOp .And [a] pos) ft := ⟨pw_and1 ha.pt⟩
theorem qw_or1 (ha : QT X W a ft) : QW X W (.BoolOp .Or [a] pos) ft := ⟨pw_or1 ha.pt⟩
theorem Mt.fromT {mg : Str → Option Value} {Z : Addr → Prop} {s s1 : SE} {H1 : Hp} {r : Rs Bool} {Q : Bool → Hp → Prop} (h : Mt r (fun b s' => ∀ H', Go K Z Z H σ s s' H' → Q b H') (fun c s' => XOut K mg W Z H σ s c s')) (g : Go K Z Z H σ s s1 H1) :
    Mt r (fun b s' => ∀ H', Go K Z Z H1 σ s1 s' H' → Q b H') (fun c s' => XOut K mg W Z H1 σ s1 c s') :=
  (h.imp fun q s' k H' p => k H' (g.trans p)).later g
theorem qw_and (ha : QT X W a ft) (hb : QW X W (.BoolOp .And (b :: rest) pos) gt) : QW X W (.BoolOp .And (a :: b :: rest) pos) (tAndP ft gt) :=
  ⟨pw_mono (pw_and ha.pt hb.pw) fun σ H Q h => by
    obtain ⟨Z, s, R, h⟩ := lT_iff.mp h
    refine lT_step R h.bnd_ fun b s1 H1 k g1 => ?_
    cases b with
    | true => exact lT_iff.mpr ⟨Z, s1, g1.rl, Mt.fromT k g1⟩
    | false => exact k _ g1⟩
theorem qw_or (ha : QT X W a ft) (hb : QW X W (.BoolOp .Or (b :: rest) pos) gt) : QW X W (.BoolOp .Or (a :: b :: rest) pos) (tOrP ft gt) :=
  ⟨pw_mono (pw_or ha.pt hb.pw) fun σ H Q h => by
    obtain ⟨Z, s, R, h⟩ := lT_iff.mp h
    refine lT_step R h.bnd_ fun b s1 H1 k g1 => ?_
    cases b with
    | false => exact lT_iff.mpr ⟨Z, s1, g1.rl, Mt.fromT k g1⟩
    | true => exact k _ g1⟩
theorem qt_not (ha : QT X W a ft) : QT X W (.UnaryOp .Not a pos) (tNotP ft) :=
  ⟨pt_mono (pt_not ha.pt) fun σ H Q h => by
    obtain ⟨Z, s, R, h⟩ := lT_iff.mp h
    refine lT_step R h.bnd_ fun b s1 H1 k g1 => ?_
    exact k _ g1⟩
end

/-! ### letting go -/
def rel1 : Arg → PM PV
  | .val p _ => ret p
  | .bor i => fun s => match s[i]? with
    | some (some (true, p)) => .ok p (s.set i (some (false, p)))
    | some (some (false, p)) => .ok p s
    | _ => .stuck
def relAll : List Arg → PM (List PV)
  | [] => ret []
  | a :: as => bnd (rel1 a) fun p => bnd (relAll as) fun ps => ret (p :: ps)
section
variable {K : Frg} {mg : Str → Option Value} {W : WX} {Z : Addr → Prop} {H H' H1 : Hp} {σ : L2.St} {s s1 s' : SE} {v w : V} {vs : List V} {Q : VK}
theorem owns_set {i : Nat} {p : PV} {a : Addr} (h : Owns σ (s.set i (some (false, p))) a) : Owns σ s a ∧ ¬ σ[i]? = some (some (V.ref a)) ∨ Owns σ s a ∧ ∃ j q, j ≠ i ∧ s[j]? = some (some (true, q)) ∧ σ[j]? = some (some (V.ref a)) := by
  obtain ⟨j, q, e1, e2⟩ := h
  by_cases hj : i = j
  · subst hj
    rw [List.getElem?_set] at e1
    simp only [if_true] at e1
    split at e1 <;> simp at e1
  · rw [List.getElem?_set_ne hj] at e1
    exact .inr ⟨⟨j, q, e1, e2⟩, j, q, Ne.symm hj, e1, e2⟩
theorem Rl.release {i : Nat} {p : PV} (R : Rl K Z H σ s) (e : s[i]? = some (some (true, p))) : Go K Z Z H σ s (s.set i (some (false, p))) H ∧ ∃ a, σ[i]? = some (some (V.ref a)) ∧ Rep K (Hd Z σ (s.set i (some (false, p))) H) (.ref a) p := by
  obtain ⟨a, ea, na, ob⟩ := R.ow i p e
  have hi : i < s.length := (List.getElem?_eq_some_iff.mp e).1
  have sub : ∀ b, Owns σ (s.set i (some (false, p))) b → Owns σ s b ∧ b ≠ a := fun b h => by
    rcases owns_set h with ⟨h1, h2⟩ | ⟨h1, j, q, hj, h3, h4⟩
    · exact ⟨h1, fun z => h2 (z ▸ ea)⟩
    · exact ⟨h1, fun z => hj (R.dj j i q p a h3 e (z ▸ h4) ea)⟩
  have ext : Ext (Hd Z σ s H) (Hd Z σ (s.set i (some (false, p))) H) := hid_mono fun b o n q => ⟨fun z => n (z.imp id fun z => (sub b z).1), q⟩
  have ra : Rep K (Hd Z σ (s.set i (some (false, p))) H) (.ref a) p := ob.rep (by
    show hid _ H a = H a
    unfold hid
    rw [if_neg (fun z => z.elim na fun z => (sub a z).2 rfl)]) ext
  refine ⟨⟨⟨by rw [List.length_set]; exact R.len, R.zin, fun j q z => ?_, fun j q z => ?_, fun j k q r b z1 z2 z3 z4 => ?_⟩, fun _ _ q _ => q, fun b z => (sub b z).1, fun _ h => h, fun j q z => ?_⟩, a, ea, ra⟩
  · by_cases hj : i = j
    · subst hj
      rw [List.getElem?_set_self hi] at z
      cases z
      exact ⟨_, ea, ra⟩
    · rw [List.getElem?_set_ne hj] at z
      obtain ⟨v, e1, r⟩ := R.sh j q z
      exact ⟨v, e1, r.ext ext⟩
  · by_cases hj : i = j
    · subst hj
      rw [List.getElem?_set_self hi] at z
      cases z
    · rw [List.getElem?_set_ne hj] at z
      obtain ⟨b, e1, n, r⟩ := R.ow j q z
      exact ⟨b, e1, n, r.ext rfl ext⟩
  · have c : ∀ m x, (s.set i (some (false, p)))[m]? = some (some (true, x)) → s[m]? = some (some (true, x)) := fun m x y => by
      by_cases hm : i = m
      · subst hm
        rw [List.getElem?_set_self hi] at y
        cases y
      · rw [List.getElem?_set_ne hm] at y
        exact y
    exact R.dj j k q r b (c j q z1) (c k r z2) z3 z4
  · by_cases hj : i = j
    · subst hj
      exact ⟨_, List.getElem?_set_self hi⟩
    · exact ⟨q, by rw [List.getElem?_set_ne hj]; exact z⟩
theorem rel1_post {r : Arg} {p : PV} (R : Rl K Z H σ s) (h : ArgAt K Z H σ s v r) (e : rel1 r s = .ok p s') : Go K Z Z H σ s s' H ∧ Rep K (Hd Z σ s' H) v p := by
  match r, h with
  | .val q fr, h => cases e; exact ⟨Go.refl R, h⟩
  | .bor i, ⟨e1, f, q, e2⟩ =>
    unfold rel1 at e
    simp only [e2] at e
    cases f with
    | true =>
      cases e
      obtain ⟨g, a, e3, r⟩ := R.release e2
      rw [e1] at e3; cases e3
      exact ⟨g, r⟩
    | false =>
      cases e
      obtain ⟨v', e3, r⟩ := R.sh i _ e2
      rw [e1] at e3; cases e3
      exact ⟨Go.refl R, r⟩
theorem rel1_noexc {r : Arg} {c : Str} : rel1 r s ≠ .exc c s' := by
  cases r with
  | val p f => exact nofun
  | bor i =>
    unfold rel1
    dsimp only
    split <;> nofun
theorem relAll_post {rs : List Arg} : ∀ {s : SE} {vs : List V} {ok : List PV → SE → Prop} {ex : Str → SE → Prop}, Rl K Z H σ s → ArgsAt K Z H σ s vs rs → Mt (relAll rs s) ok ex → ∃ ps s', ok ps s' ∧ Go K Z Z H σ s s' H ∧ Reps K (Hd Z σ s' H) vs ps := by
  induction rs with
  | nil =>
    intro s vs ok ex R h m
    cases h
    exact ⟨[], s, m, Go.refl R, .nil⟩
  | cons a as ih =>
    intro s vs ok ex R h m
    cases h with
    | cons h1 h2 =>
      have m1 := Mt.bnd_ m
      cases e1 : rel1 a s with
      | stuck => rw [e1] at m1; exact m1.elim
      | exc c s1 => exact absurd e1 rel1_noexc
      | ok p s1 =>
        rw [e1] at m1
        obtain ⟨g1, r1⟩ := rel1_post R h1 e1
        obtain ⟨ps, s2, k, g2, r2⟩ := ih g1.rl (h2.go g1) (Mt.bnd_ m1)
        exact ⟨p :: ps, s2, k, g1.trans g2, .cons (r1.ext g2.vis) r2⟩
end

/-! ### displays -/
def mkTup (ps : List PV) : PM Arg := if ps.length ≤ sizeLine then ret (.val (.tup ps) false) else stk
def mkLst (ps : List PV) : PM Arg := if ps.length ≤ sizeLine then ret (.val (.lst ps) true) else stk
def eTup (fs : PM (List Arg)) : PM Arg := bnd fs fun as => bnd (relAll as) mkTup
def eLst (fs : PM (List Arg)) : PM Arg := bnd fs fun as => bnd (relAll as) mkLst
section
variable {X : Cx} {W : WX} {a b c e : Expr} {es rest : List Expr} {f g h : PM Arg} {fs : PM (List Arg)} {pos : Pos}
theorem qe_tup {x1 : Nat} (h : QA X W es fs) : QE X W (.Tuple es x1 pos) (eTup fs) :=
  qe_of (pe_tup h.pa) fun σ H Q h => by
    obtain ⟨Z, s, R, h⟩ := lE_iff.mp h
    refine lA_step R h.bnd_ fun rs s1 vs H1 k g1 a1 => ?_
    obtain ⟨ps, s2, k, g2, r⟩ := relAll_post g1.rl a1 k.bnd_
    unfold mkTup at k
    split at k
    · rename_i hl
      refine ⟨by rw [r.length]; exact hl, fun p hp => ?_⟩
      exact k _ _ (((post1_tup hid_sub hp r).postE g2.rl).after (g1.trans g2))
    · exact k.elim
theorem qe_lst (h : QA X W es fs) : QE X W (.List es pos) (eLst fs) :=
  qe_of (pe_lst h.pa) fun σ H Q h => by
    obtain ⟨Z, s, R, h⟩ := lE_iff.mp h
    refine lA_step R h.bnd_ fun rs s1 vs H1 k g1 a1 => ?_
    obtain ⟨ps, s2, k, g2, r⟩ := relAll_post g1.rl a1 k.bnd_
    unfold mkLst at k
    split at k
    · rename_i hl
      refine ⟨by rw [r.length]; exact hl, fun p hp => ?_⟩
      exact k _ _ (((post1_lst hid_sub hp r).postE g2.rl).after (g1.trans g2))
    · exact k.elim
end
end HF
end

section
set_option Elab.async false
set_option linter.all false
set_option maxRecDepth 100000
set_option maxHeartbeats 1000000
set_option autoImplicit false
/-! HF3: statements. -/
namespace HF
open PySem PySem.Spec PyProof.Rows L2

/-- how a statement ends -/
inductive Fl where
  | next | brk | cont | ret (r : Arg)
/-- a statement's way -/
structure GoS (K : Frg) (pin : List Nat) (Z Z' : Addr → Prop) (H : Hp) (σ : L2.St) (s : SE) (H' : Hp) (σ' : L2.St) (s' : SE) : Prop where
  rl : Rl K Z' H' σ' s'
  fr : ∀ a o, H a = some o → ¬ Owns σ s a → H' a = some o
  ow : ∀ a, Owns σ' s' a → Owns σ s a ∨ H a = none
  tr : ∀ a, H a ≠ none → H' a ≠ none
  pn : ∀ i ∈ pin, σ'[i]? = σ[i]?
  ln : σ'.length = σ.length
  kp : ∀ (i : Nat) (q : Bool × PV), s[i]? = some (some q) → ∃ q', s'[i]? = some (some q')
section
variable {K : Frg} {mg : Str → Option Value} {W : WX} {pin : List Nat} {Z Z' : Addr → Prop} {H H' H1 H2 : Hp} {σ σ' σ1 σ2 : L2.St} {s s1 s2 s' : SE} {v w : V} {vs : List V} {Q : VK} {D : Ends}
theorem GoS.refl (R : Rl K Z H σ s) : GoS K pin Z Z H σ s H σ s := ⟨R, fun _ _ e _ => e, fun _ o => .inl o, fun _ h => h, fun _ _ => rfl, rfl, fun _ q e => ⟨q, e⟩⟩
theorem Go.st (g : Go K Z Z' H σ s s' H') : GoS K pin Z Z' H σ s H' σ s' := ⟨g.rl, g.fr, fun a o => .inl (g.ow a o), g.tr, fun _ _ => rfl, rfl, g.kp⟩
theorem GoS.trans (a : GoS K pin Z Z H σ s H1 σ1 s1) (b : GoS K pin Z Z' H1 σ1 s1 H2 σ2 s2) : GoS K pin Z Z' H σ s H2 σ2 s2 where
  rl := b.rl
  fr := fun c o e n => b.fr c o (a.fr c o e n) fun z => (a.ow c z).elim n fun y => by rw [e] at y; cases y
  ow := fun c z => by
    rcases b.ow c z with y | y
    · exact a.ow c y
    · refine .inr ?_
      cases e : H c with
      | none => rfl
      | some o => exact absurd y (a.tr c (by rw [e]; nofun))
  tr := fun c h => b.tr c (a.tr c h)
  pn := fun i h => (b.pn i h).trans (a.pn i h)
  ln := b.ln.trans a.ln
  kp := fun i q e => let ⟨_, e1⟩ := a.kp i q e; b.kp i _ e1
theorem GoS.vis (a : GoS K pin Z Z H σ s H' σ' s') : Ext (Hd Z σ s H) (Hd Z σ' s' H') := hid_mono fun b o n q => by
  refine ⟨fun z => ?_, a.fr b o q fun z => n (.inr z)⟩
  rcases z with z | z
  · exact n (.inl z)
  · rcases a.ow b z with z | z
    · exact n (.inr z)
    · rw [q] at z; cases z
/-- all but what is owned -/
theorem GoS.visQ (a : GoS K pin Z Z' H σ s H' σ' s') : Ext (hid (Owns σ s) H) (hid (Owns σ' s') H') := hid_mono fun b o n q => by
  refine ⟨fun z => ?_, a.fr b o q n⟩
  rcases a.ow b z with z | z
  · exact n z
  · rw [q] at z; cases z
end
/-- what a return hands back -/
def PostR (K : Frg) (pin : List Nat) (Z : Addr → Prop) (H : Hp) (σ : L2.St) (s : SE) (r : Arg) (s' : SE) (v : V) (H' : Hp) (σ' : L2.St) : Prop :=
  match r with
  | .val p false => GoS K pin Z Z H σ s H' σ' s' ∧ Rep K (Hd Z σ' s' H') v p
  | .val p true => ∃ a, v = .ref a ∧ H a = none ∧ GoS K pin Z (fun b => Z b ∨ b = a) H σ s H' σ' s' ∧ Ob K H' (Hd (fun b => Z b ∨ b = a) σ' s' H') a p ∧ ¬ Owns σ' s' a ∧ ¬ Z a
  | .bor i => GoS K pin Z Z H σ s H' σ' s' ∧ σ'[i]? = some (some v) ∧ ∃ p, s'[i]? = some (some (true, p))
def XOutS (K : Frg) (mg : Str → Option Value) (W : WX) (pin : List Nat) (Z : Addr → Prop) (H : Hp) (σ : L2.St) (s : SE) (c : Str) (s' : SE) : Prop :=
  ∀ C H' σ', mg c = some (.ref C) → GoS K pin Z Z H σ s H' σ' s' → W (.ref C) none σ' H'
def lF (K : Frg) (pin : List Nat) (Z : Addr → Prop) (H : Hp) (σ : L2.St) (s : SE) (D : Ends) (f : Fl) (s' : SE) : Prop :=
  match f with
  | .next => ∀ σ' H', GoS K pin Z Z H σ s H' σ' s' → D.nx σ' H'
  | .brk => ∀ σ' H', GoS K pin Z Z H σ s H' σ' s' → D.bk σ' H'
  | .cont => ∀ σ' H', GoS K pin Z Z H σ s H' σ' s' → D.ct σ' H'
  | .ret r => ∀ v σ' H', PostR K pin Z H σ s r s' v H' σ' → D.rt v H'
def lS (K : Frg) (mg : Str → Option Value) (W : WX) (pin : List Nat) (F : PM Fl) : TS := fun D σ H => ∃ (Z : Addr → Prop) (s : SE), Rl K Z H σ s ∧ Mt (F s) (lF K pin Z H σ s D) (XOutS K mg W pin Z H σ s)
structure QS (X : Cx) (W : WX) (pin : List Nat) (st : Stmt) (F : PM Fl) : Prop where
  ps : PS X st (lS (kx X) X.mg W pin F)
structure QSs (X : Cx) (W : WX) (pin : List Nat) (sts : List Stmt) (F : PM Fl) : Prop where
  pss : PSs X sts (lS (kx X) X.mg W pin F)
theorem ps_mono {X : Cx} {st : Stmt} {t t' : TS} (h : PS X st t) (m : ∀ D σ H, t' D σ H → t D σ H) : PS X st t' := ⟨fun pins s σ H D I q => h.run pins s σ H D I (m D σ H q)⟩
theorem pss_mono {X : Cx} {sts : List Stmt} {t t' : TS} (h : PSs X sts t) (m : ∀ D σ H, t' D σ H → t D σ H) : PSs X sts t' := ⟨fun pins s σ H D I q => h.run pins s σ H D I (m D σ H q)⟩
section
variable {K : Frg} {mg : Str → Option Value} {W : WX} {pin : List Nat} {Z Z' : Addr → Prop} {H H' H1 H2 : Hp} {σ σ' σ1 σ2 : L2.St} {s s1 s2 s' : SE} {v w : V} {vs : List V} {Q : VK} {D : Ends}
theorem PostR.after {r : Arg} (g : GoS K pin Z Z H σ s H1 σ1 s1) (h : PostR K pin Z H1 σ1 s1 r s2 v H2 σ2) : PostR K pin Z H σ s r s2 v H2 σ2 := by
  match r, h with
  | .val p false, h => exact ⟨g.trans h.1, h.2⟩
  | .val p true, ⟨a, e, hn, g', q⟩ =>
    refine ⟨a, e, ?_, g.trans g', q⟩
    cases h : H a with
    | none => rfl
    | some o => exact absurd hn (g.tr a (by rw [h]; nofun))
  | .bor i, h => exact ⟨g.trans h.1, h.2⟩
theorem lF.after {f : Fl} (h : lF K pin Z H σ s D f s2) (g : GoS K pin Z Z H σ s H1 σ1 s1) : lF K pin Z H1 σ1 s1 D f s2 := by
  cases f with
  | next => exact fun σ' H' p => h σ' H' (g.trans p)
  | brk => exact fun σ' H' p => h σ' H' (g.trans p)
  | cont => exact fun σ' H' p => h σ' H' (g.trans p)
  | ret r => exact fun v σ' H' p => h v σ' H' (p.after g)
theorem XOutS.after {c : Str} (h : XOutS K mg W pin Z H σ s c s2) (g : GoS K pin Z Z H σ s H1 σ1 s1) : XOutS K mg W pin Z H1 σ1 s1 c s2 := fun C H' σ' e p => h C H' σ' e (g.trans p)
theorem XOutS.e {c : Str} (h : XOutS K mg W pin Z H σ s c s2) : XOut K mg W Z H σ s c s2 := fun C H' e p => h C H' σ e p.st
theorem MtS.after {r : Rs Fl} (h : Mt r (lF K pin Z H σ s D) (XOutS K mg W pin Z H σ s)) (g : GoS K pin Z Z H σ s H1 σ1 s1) : Mt r (lF K pin Z H1 σ1 s1 D) (XOutS K mg W pin Z H1 σ1 s1) := by
  cases r with
  | ok a s => exact lF.after h g
  | exc c s => exact XOutS.after h g
  | stuck => exact h
theorem MtS.ex {α : Type} {r : Rs α} {ok : α → SE → Prop} (h : Mt r ok (XOutS K mg W pin Z H σ s)) : Mt r ok (fun c s' => XOut K mg W Z H σ s c s') := by
  cases r with
  | ok a s => exact h
  | exc c s => exact XOutS.e h
  | stuck => exact h
theorem MtS.later {α : Type} {r : Rs α} {ok : α → SE → Prop} (h : Mt r ok (XOutS K mg W pin Z H σ s)) (g : GoS K pin Z Z H σ s H1 σ1 s1) : Mt r ok (XOutS K mg W pin Z H1 σ1 s1) := by
  cases r with
  | ok a s => exact h
  | exc c s => exact XOutS.after h g
  | stuck => exact h
end

/-! ### blocks, if, return, break .. -/
def sSeq (F G : PM Fl) : PM Fl := fun s => match F s with
  | .ok .next s1 => G s1
  | r => r
def sNext : PM Fl := ret .next
def sRet (f : PM Arg) : PM Fl := bnd f fun a => ret (.ret a)
def sExpr (f : PM Arg) : PM Fl := bnd f fun _ => ret .next
def sIf (c : PM Bool) (F G : PM Fl) : PM Fl := bnd c fun k => if k = true then F else G
section
variable {X : Cx} {W : WX} {pin : List Nat} {st : Stmt} {rest a b : List Stmt} {F G : PM Fl} {e c : Expr} {f : PM Arg} {ct : PM Bool} {pos : Pos}
theorem qss_nil : QSs X W pin [] sNext := ⟨pss_mono pss_nil fun D σ H h => by
  obtain ⟨Z, s, R, h⟩ := h
  exact h _ _ (GoS.refl R)⟩
theorem qss_cons (h1 : QS X W pin st F) (h2 : QSs X W pin rest G) : QSs X W pin (st :: rest) (sSeq F G) := ⟨pss_mono (pss_cons h1.ps h2.pss) fun D σ H h => by
  obtain ⟨Z, s, R, h⟩ := h
  refine ⟨Z, s, R, ?_⟩
  unfold sSeq at h
  cases q : F s with
  | stuck => rw [q] at h; exact h
  | exc c s1 => rw [q] at h; exact h
  | ok fl s1 =>
    rw [q] at h
    cases fl with
    | next => exact fun σ' H' g => ⟨Z, s1, g.rl, MtS.after h g⟩
    | brk => exact h
    | cont => exact h
    | ret r => exact h⟩
theorem qss_one (h1 : QS X W pin st F) : QSs X W pin [st] F := ⟨pss_one h1.ps⟩
theorem qs_pass : QS X W pin (.Pass pos) sNext := ⟨ps_mono ps_pass fun D σ H ⟨Z, s, R, h⟩ => h _ _ (GoS.refl R)⟩
theorem qs_break : QS X W pin (.Break pos) (ret .brk) := ⟨ps_mono ps_break fun D σ H ⟨Z, s, R, h⟩ => h _ _ (GoS.refl R)⟩
theorem qs_continue : QS X W pin (.Continue pos) (ret .cont) := ⟨ps_mono ps_continue fun D σ H ⟨Z, s, R, h⟩ => h _ _ (GoS.refl R)⟩
theorem qs_ret (he : QE X W e f) : QS X W pin (.Return (some e) pos) (sRet f) := ⟨ps_mono (ps_ret he.pe) fun D σ H ⟨Z, s, R, h⟩ => by
  refine lE_step R (MtS.ex (Mt.bnd_ h)) fun r s1 v H1 k p => ?_
  refine k v σ H1 ?_
  match r, p with
  | .val q false, p => exact ⟨p.1.st, p.2⟩
  | .val q true, ⟨a, e, hn, g, z⟩ => exact ⟨a, e, hn, g.st, z⟩
  | .bor i, p => exact ⟨p.1.st, p.2⟩⟩
theorem qs_retN : QS X W pin (.Return none pos) (ret (.ret (.val .non false))) := ⟨ps_mono ps_retN fun D σ H ⟨Z, s, R, h⟩ => h _ σ _ ⟨GoS.refl R, .non⟩⟩
theorem qs_expr (he : QE X W e f) (hs : swapsWith e none pos.line X.env = pure false := by rfl) : QS X W pin (.Expr e pos) (sExpr f) := ⟨ps_mono (ps_expr he.pe hs) fun D σ H ⟨Z, s, R, h⟩ => by
  refine lE_step R (MtS.ex (Mt.bnd_ h)) fun r s1 v H1 k p => ?_
  exact k σ H1 p.go.st⟩
theorem qs_if (hc : QT X W c ct) (ha : QSs X W pin a F) (hb : QSs X W pin b G) : QS X W pin (.If c a b pos) (sIf ct F G) := ⟨ps_mono (ps_if hc.pt ha.pss hb.pss) fun D σ H ⟨Z, s, R, h⟩ => by
  refine lT_step R (MtS.ex (Mt.bnd_ h)) fun k s1 H1 q g => ?_
  cases k with
  | true => exact ⟨Z, s1, g.rl, MtS.after q g.st⟩
  | false => exact ⟨Z, s1, g.rl, MtS.after q g.st⟩⟩
end

/-! ### stores -/
def setV (i : Nat) (p : PV) (fr : Bool) : PM Unit := fun s => if i < s.length then .ok () (s.set i (some (fr, p))) else .stuck
section
variable {K : Frg} {mg : Str → Option Value} {W : WX} {pin : List Nat} {Z Z' : Addr → Prop} {H H' H1 H2 : Hp} {σ σ' σ1 σ2 : L2.St} {s s1 s2 s' : SE} {v w : V} {vs : List V} {Q : VK} {D : Ends} {p : PV} {i : Nat}
theorem owns_set' {fr : Bool} {a : Addr} (hl : s.length = σ.length) (h : Owns (σ.set i (some v)) (s.set i (some (fr, p))) a) : (∃ j q, j ≠ i ∧ s[j]? = some (some (true, q)) ∧ σ[j]? = some (some (V.ref a))) ∨ (fr = true ∧ v = .ref a) := by
  obtain ⟨j, q, e1, e2⟩ := h
  by_cases hj : i = j
  · subst hj
    refine .inr ?_
    by_cases hi : i < s.length
    · rw [List.getElem?_set_self hi] at e1
      rw [List.getElem?_set_self (by omega)] at e2
      simp at e1 e2
      exact ⟨e1.1, e2⟩
    · rw [List.getElem?_eq_none (by simpa using hi)] at e1
      cases e1
  · rw [List.getElem?_set_ne hj] at e1 e2
    exact .inl ⟨j, q, Ne.symm hj, e1, e2⟩
theorem set_kp {i : Nat} {x : Bool × PV} : ∀ (j : Nat) (q : Bool × PV), s[j]? = some (some q) → ∃ q', (s.set i (some x))[j]? = some (some q') := fun j q e => by
  by_cases hj : i = j
  · subst hj
    exact ⟨_, List.getElem?_set_self (List.getElem?_eq_some_iff.mp e).1⟩
  · exact ⟨q, by rw [List.getElem?_set_ne hj]; exact e⟩
theorem store_ow_sub {a : Addr} (hl : s.length = σ.length) (h : Owns (σ.set i (some v)) (s.set i (some (false, p))) a) : Owns σ s a := by
  rcases owns_set' hl h with ⟨j, q, _, e1, e2⟩ | ⟨e, _⟩
  · exact ⟨j, q, e1, e2⟩
  · cases e
/-- a slot takes a value that is shared -/
theorem store_sh (R : Rl K Z H σ s) (r : Rep K (Hd Z σ s H) v p) (hp : i ∉ pin) (hi : i < s.length) : GoS K pin Z Z H σ s H (σ.set i (some v)) (s.set i (some (false, p))) := by
  have hl := R.len
  have sub : ∀ a, Owns (σ.set i (some v)) (s.set i (some (false, p))) a → Owns σ s a := fun a h => by
    rcases owns_set' hl h with ⟨j, q, _, e1, e2⟩ | ⟨e, _⟩
    · exact ⟨j, q, e1, e2⟩
    · cases e
  have ext : Ext (Hd Z σ s H) (Hd Z (σ.set i (some v)) (s.set i (some (false, p))) H) := hid_mono fun b o n q => ⟨fun z => n (z.imp id (sub b)), q⟩
  refine ⟨⟨by rw [List.length_set, List.length_set]; exact hl, R.zin, fun j q z => ?_, fun j q z => ?_, fun j k q r a z1 z2 z3 z4 => ?_⟩, fun _ _ e _ => e, fun a h => .inl (sub a h), fun _ h => h, fun j hj => ?_, List.length_set, set_kp⟩
  · by_cases hj : i = j
    · subst hj
      rw [List.getElem?_set_self hi] at z
      cases z
      exact ⟨v, List.getElem?_set_self (by omega), r.ext ext⟩
    · rw [List.getElem?_set_ne hj] at z
      obtain ⟨u, e1, r⟩ := R.sh j q z
      exact ⟨u, by rw [List.getElem?_set_ne hj]; exact e1, r.ext ext⟩
  · by_cases hj : i = j
    · subst hj
      rw [List.getElem?_set_self hi] at z
      cases z
    · rw [List.getElem?_set_ne hj] at z
      obtain ⟨a, e1, n, r⟩ := R.ow j q z
      exact ⟨a, by rw [List.getElem?_set_ne hj]; exact e1, n, r.ext rfl ext⟩
  · have c : ∀ m x, (s.set i (some (false, p)))[m]? = some (some (true, x)) → i ≠ m ∧ s[m]? = some (some (true, x)) := fun m x y => by
      by_cases hm : i = m
      · subst hm
        rw [List.getElem?_set_self hi] at y
        cases y
      · rw [List.getElem?_set_ne hm] at y
        exact ⟨hm, y⟩
    obtain ⟨n1, c1⟩ := c j q z1
    obtain ⟨n2, c2⟩ := c k r z2
    rw [List.getElem?_set_ne n1] at z3
    rw [List.getElem?_set_ne n2] at z4
    exact R.dj j k q r a c1 c2 z3 z4
  · rw [List.getElem?_set_ne (by intro e; subst e; exact hp hj)]
/-- a slot takes a new object -/
theorem store_ow {a : Addr} (R : Rl K (fun b => Z b ∨ b = a) H σ s) (ob : Ob K H (Hd (fun b => Z b ∨ b = a) σ s H) a p) (no : ¬ Owns σ s a) (nz : ¬ Z a) (hp : i ∉ pin) (hi : i < s.length) :
    Rl K Z H (σ.set i (some (.ref a))) (s.set i (some (true, p))) ∧ (∀ b, Owns (σ.set i (some (.ref a))) (s.set i (some (true, p))) b → Owns σ s b ∨ b = a) ∧ ∀ j ∈ pin, (σ.set i (some (.ref a)))[j]? = σ[j]? := by
  have hl := R.len
  have sub : ∀ b, Owns (σ.set i (some (.ref a))) (s.set i (some (true, p))) b → Owns σ s b ∨ b = a := fun b h => by
    rcases owns_set' hl h with ⟨j, q, _, e1, e2⟩ | ⟨_, e⟩
    · exact .inl ⟨j, q, e1, e2⟩
    · cases e; exact .inr rfl
  have ext : Ext (Hd (fun b => Z b ∨ b = a) σ s H) (Hd Z (σ.set i (some (.ref a))) (s.set i (some (true, p))) H) := hid_mono fun b o n q => ⟨fun z => n (by
    rcases z with z | z
    · exact .inl (.inl z)
    · rcases sub b z with z | z
      · exact .inr z
      · exact .inl (.inr z)), q⟩
  refine ⟨⟨by rw [List.length_set, List.length_set]; exact hl, fun b z => R.zin b (.inl z), fun j q z => ?_, fun j q z => ?_, fun j k q r b z1 z2 z3 z4 => ?_⟩, sub, fun j hj => ?_⟩
  · by_cases hj : i = j
    · subst hj
      rw [List.getElem?_set_self hi] at z
      cases z
    · rw [List.getElem?_set_ne hj] at z
      obtain ⟨u, e1, r⟩ := R.sh j q z
      exact ⟨u, by rw [List.getElem?_set_ne hj]; exact e1, r.ext ext⟩
  · by_cases hj : i = j
    · subst hj
      rw [List.getElem?_set_self hi] at z
      cases z
      exact ⟨a, List.getElem?_set_self (by omega), nz, ob.ext rfl ext⟩
    · rw [List.getElem?_set_ne hj] at z
      obtain ⟨b, e1, n, r⟩ := R.ow j q z
      exact ⟨b, by rw [List.getElem?_set_ne hj]; exact e1, fun z => n (.inl z), r.ext rfl ext⟩
  · have c : ∀ m x, (s.set i (some (true, p)))[m]? = some (some (true, x)) → (σ.set i (some (V.ref a)))[m]? = some (some (V.ref b)) → (i = m ∧ b = a) ∨ (i ≠ m ∧ s[m]? = some (some (true, x)) ∧ σ[m]? = some (some (V.ref b))) := fun m x y z => by
      by_cases hm : i = m
      · subst hm
        rw [List.getElem?_set_self (by omega)] at z
        cases z
        exact .inl ⟨rfl, rfl⟩
      · rw [List.getElem?_set_ne hm] at y z
        exact .inr ⟨hm, y, z⟩
    rcases c j q z1 z3 with ⟨e1, e2⟩ | ⟨n1, c1, d1⟩
    · rcases c k r z2 z4 with ⟨f1, _⟩ | ⟨_, c2, d2⟩
      · exact e1 ▸ f1
      · subst e2; exact absurd ⟨k, r, c2, d2⟩ no
    · rcases c k r z2 z4 with ⟨_, f2⟩ | ⟨_, c2, d2⟩
      · subst f2; exact absurd ⟨j, q, c1, d1⟩ no
      · exact R.dj j k q r b c1 c2 d1 d2
  · rw [List.getElem?_set_ne (by intro e; subst e; exact hp hj)]
/-- a value goes into a slot -/
def setA (i : Nat) : Arg → PM Unit
  | .val p fr => setV i p fr
  | .bor j => bnd (rel1 (.bor j)) fun p => setV i p false
theorem setA_post {r : Arg} {ok : Unit → SE → Prop} {ex : Str → SE → Prop} (p1 : PostE K Z H σ s r s1 v H1) (hp : i ∉ pin) (m : Mt (setA i r s1) ok ex) : ∃ s2, ok () s2 ∧ GoS K pin Z Z H σ s H1 (σ.set i (some v)) s2 := by
  match r, p1, m with
  | .val p false, p1, m =>
    simp only [setA, setV] at m
    split at m
    · rename_i hi
      exact ⟨_, m, (p1.1.st).trans (store_sh p1.1.rl p1.2 hp hi)⟩
    · exact m.elim
  | .val p true, ⟨a, e, hn, g, ob, no, nz⟩, m =>
    subst e
    simp only [setA, setV] at m
    split at m
    · rename_i hi
      obtain ⟨R, ow, pn⟩ := store_ow g.rl ob no nz hp hi
      refine ⟨_, m, R, g.fr, fun b z => ?_, g.tr, pn, List.length_set, fun j q e => let ⟨_, e1⟩ := g.kp j q e; set_kp j _ e1⟩
      rcases ow b z with z | rfl
      · exact .inl (g.ow b z)
      · exact .inr hn
    · exact m.elim
  | .bor j, p1, m =>
    obtain ⟨g, a1⟩ := PostE.wait p1
    have m := Mt.bnd_ m
    cases e1 : rel1 (.bor j) s1 with
    | stuck => rw [e1] at m; exact m.elim
    | exc c s2 => exact absurd e1 rel1_noexc
    | ok q s2 =>
      rw [e1] at m
      obtain ⟨g1, r1⟩ := rel1_post g.rl a1 e1
      have m : Mt (setV i q false s2) ok ex := m
      simp only [setV] at m
      split at m
      · rename_i hi
        exact ⟨_, m, ((g.trans g1).st).trans (store_sh g1.rl r1 hp hi)⟩
      · exact m.elim
end
def sSet (i : Nat) (f : PM Arg) : PM Fl := bnd f fun a => bnd (setA i a) fun _ => ret .next
section
variable {X : Cx} {W : WX} {pin : List Nat} {e c : Expr} {f g : PM Arg} {pos : Pos}
theorem qs_set {i : Nat} {x : Str} {pos' : Pos} (hp : i ∉ pin) (hN : X.N.Nodup) (hi : X.N[i]? = some x) (hx : Loc X.env.scope x) (he : QE X W e f) (hs : swapsWith e (some (.Name x pos')) pos.line X.env = pure false := by rfl)
    (hf : X.fn x = true ∨ X.env.scope.names.lookup x = some .local := by first | exact .inl rfl | exact .inr rfl | assumption) : QS X W pin (.Assign [.Name x pos'] e pos) (sSet i f) :=
  ⟨ps_mono (ps_set hN hi hx he.pe hs hf) fun D σ H ⟨Z, s, R, h⟩ => by
    refine lE_step R (MtS.ex (Mt.bnd_ h)) fun r s1 v H1 k p => ?_
    obtain ⟨s2, k2, g⟩ := setA_post p hp k.bnd_
    exact k2 _ _ g⟩
end

/-! ### targets -/
def lG (K : Frg) (pin : List Nat) (G : PV → PM Unit) : TG := fun v σ H Q => ∃ (Z : Addr → Prop) (s : SE) (p : PV), Rl K Z H σ s ∧ Rep K (Hd Z σ s H) v p ∧ Mt (G p s) (fun _ s' => ∀ σ' H', GoS K pin Z Z H σ s H' σ' s' → (∀ a, Owns σ' s' a → Owns σ s a) → Q σ' H') (fun _ _ => False)
structure QG (X : Cx) (pin : List Nat) (tg : Expr) (G : PV → PM Unit) : Prop where
  pg : PG X tg (lG (kx X) pin G)
def lGs (K : Frg) (pin : List Nat) (G : List PV → PM Unit) : TGs := fun vs σ H Q => ∃ (Z : Addr → Prop) (s : SE) (ps : List PV), Rl K Z H σ s ∧ Reps K (Hd Z σ s H) vs ps ∧ Mt (G ps s) (fun _ s' => ∀ σ' H', GoS K pin Z Z H σ s H' σ' s' → (∀ a, Owns σ' s' a → Owns σ s a) → Q σ' H') (fun _ _ => False)
structure QGs (X : Cx) (pin : List Nat) (tgs : List Expr) (G : List PV → PM Unit) : Prop where
  pgs : PGs X tgs (lGs (kx X) pin G)
def gNm (i : Nat) : PV → PM Unit := fun p => setV i p false
def gsNil : List PV → PM Unit
  | [] => ret ()
  | _ => stk
def gsCons (G : PV → PM Unit) (Gs : List PV → PM Unit) : List PV → PM Unit
  | p :: ps => bnd (G p) fun _ => Gs ps
  | [] => stk
def gTp (n : Nat) (Gs : List PV → PM Unit) : PV → PM Unit
  | .tup ps => if ps.length = n then Gs ps else stk
  | _ => stk
theorem pg_mono {X : Cx} {e : Expr} {t t' : TG} (h : PG X e t) (m : ∀ v σ H Q, t' v σ H Q → t v σ H Q) : PG X e t' := ⟨fun pins s σ H v u Q I r q => h.run pins s σ H v u Q I r (m v σ H Q q)⟩
theorem pgs_mono {X : Cx} {e : List Expr} {t t' : TGs} (h : PGs X e t) (m : ∀ v σ H Q, t' v σ H Q → t v σ H Q) : PGs X e t' := ⟨fun pins s σ H v u Q I r q => h.run pins s σ H v u Q I r (m v σ H Q q)⟩
section
variable {X : Cx} {W : WX} {pin : List Nat} {e c : Expr} {es : List Expr} {f g : PM Arg} {pos : Pos} {G : PV → PM Unit} {Gs : List PV → PM Unit}
theorem qg_name {i : Nat} {x : Str} (hp : i ∉ pin) (hN : X.N.Nodup) (hi : X.N[i]? = some x) (hx : Loc X.env.scope x) (hf : X.fn x = true ∨ X.env.scope.names.lookup x = some .local := by first | exact .inl rfl | exact .inr rfl | assumption) :
    QG X pin (.Name x pos) (gNm i) := ⟨pg_mono (pg_name hN hi hx hf) fun v σ H Q ⟨Z, s, p, R, r, h⟩ => by
  simp only [gNm, setV] at h
  split at h
  · rename_i hi
    exact h _ _ (store_sh R r hp hi) fun a z => store_ow_sub R.len z
  · exact h.elim⟩
theorem qgs_nil : QGs X pin [] gsNil := ⟨pgs_mono pgs_nil fun vs σ H Q ⟨Z, s, ps, R, r, h⟩ => by
  cases r with
  | nil => exact ⟨rfl, h _ _ (GoS.refl R) fun _ z => z⟩
  | cons _ _ => exact h.elim⟩
theorem qgs_cons (h1 : QG X pin e G) (h2 : QGs X pin es Gs) (hs : (assignEach (e :: es) X.env).map (·.2) = assign e X.env :: (assignEach es X.env).map (·.2) := by rfl) : QGs X pin (e :: es) (gsCons G Gs) :=
  ⟨pgs_mono (pgs_cons h1.pg h2.pgs hs) fun vs σ H Q ⟨Z, s, ps, R, r, h⟩ => by
    cases r with
    | nil => exact h.elim
    | cons a r =>
      refine ⟨_, _, rfl, Z, s, _, R, a, ?_⟩
      refine Mt.imp (Mt.bnd_ h) fun u s1 h σ' H' g ow => ?_
      exact ⟨Z, s1, _, g.rl, r.ext g.vis, Mt.imp h fun _ s2 k σ2 H2 g2 ow2 => k σ2 H2 (g.trans g2) fun a z => ow a (ow2 a z)⟩⟩
theorem qg_tup {k n : Nat} (hc : X.calm = true) (h : QGs X pin es Gs) (hn : (assignEach es X.env).length = n := by rfl) (hst : (assignEach es X.env).findIdx? (·.1) = none := by rfl) : QG X pin (.Tuple es k pos) (gTp n Gs) :=
  ⟨pg_mono (pg_tup hc h.pgs hn hst) fun v σ H Q ⟨Z, s, p, R, r, h⟩ => by
    cases r with
    | tup q r =>
      simp only [gTp] at h
      split at h
      · rename_i hl
        exact ⟨_, _, rfl, hid_sub.sqT q, by rw [r.length]; exact hl, Z, s, _, R, r, h⟩
      · exact h.elim
    | _ => exact h.elim⟩
end
/-- target = value -/
def nx {α : Type} (f : PM α) : PM α := fun s => match f s with
  | .ok a s' => .ok a s'
  | _ => .stuck
theorem Mt.nx {α : Type} {f : PM α} {s : SE} {ok : α → SE → Prop} {ex ex' : Str → SE → Prop} (h : Mt (nx f s) ok ex) : Mt (f s) ok ex' := by
  unfold HF.nx at h
  cases q : f s with
  | ok a s' => rw [q] at h; exact h
  | exc c s' => rw [q] at h; exact h.elim
  | stuck => rw [q] at h; exact h.elim
def sAsg (f : PM Arg) (G : PV → PM Unit) : PM Fl := bnd f fun a => bnd (rel1 a) fun p => bnd (nx (G p)) fun _ => ret .next
section
variable {X : Cx} {W : WX} {pin : List Nat} {e tg c : Expr} {f g : PM Arg} {pos : Pos} {G : PV → PM Unit}
theorem qs_asg (he : QE X W e f) (hg : QG X pin tg G) (hs : swapsWithSole [tg] e pos.line X.env = pure false := by rfl) (hw : swappedStores [tg] e X.env = pure none := by rfl)
    (h1 : (assignEach [tg] X.env).map (·.2) = [assign tg X.env] := by rfl) : QS X W pin (.Assign [tg] e pos) (sAsg f G) :=
  ⟨ps_mono (ps_asg he.pe hg.pg hs hw h1) fun D σ H ⟨Z, s, R, h⟩ => by
    refine lE_step R (MtS.ex (Mt.bnd_ h)) fun r s1 v H1 k p => ?_
    obtain ⟨g, a1⟩ := p.wait
    have m := Mt.bnd_ k
    cases e1 : rel1 r s1 with
    | stuck => rw [e1] at m; exact m.elim
    | exc c s2 => exact absurd e1 rel1_noexc
    | ok q s2 =>
      rw [e1] at m
      obtain ⟨g1, r1⟩ := rel1_post g.rl a1 e1
      refine ⟨Z, s2, q, g1.rl, r1, ?_⟩
      refine Mt.imp (Mt.nx (Mt.bnd_ m)) fun u s3 k3 σ' H' gs _ => k3 σ' H' (((g.trans g1).st).trans gs)⟩
end
end HF
end

section
set_option Elab.async false
set_option linter.all false
set_option maxRecDepth 100000
set_option maxHeartbeats 1000000
set_option autoImplicit false
/-! HF4: loops, stores into owned things, raise. -/
namespace HF
open PySem PySem.Spec PyProof.Rows L2

/-! ### while -/
/-- n turns at most -/
def wl (c : PM Bool) (F : PM Fl) : Nat → PM Fl
  | 0 => stk
  | n + 1 => bnd c fun k => if k = true then (fun s => match F s with
    | .ok .next s1 => wl c F n s1
    | .ok .cont s1 => wl c F n s1
    | .ok .brk s1 => .ok .next s1
    | r => r) else ret .next
theorem wl_mono (c : PM Bool) (F : PM Fl) : ∀ (n m : Nat) (s : SE), n ≤ m → wl c F n s ≠ .stuck → wl c F m s = wl c F n s := by
  intro n
  induction n with
  | zero => intro m s _ h; exact absurd rfl h
  | succ n ih =>
    intro m s hm h
    obtain ⟨m, rfl⟩ : ∃ k, m = k + 1 := ⟨m - 1, by omega⟩
    have hm : n ≤ m := by omega
    unfold wl bnd at h ⊢
    cases q : c s with
    | stuck => rfl
    | exc x s1 => rfl
    | ok k s1 =>
      rw [q] at h
      cases k with
      | false => rfl
      | true =>
        simp only [if_true] at h ⊢
        cases q2 : F s1 with
        | stuck => rfl
        | exc x s2 => rfl
        | ok fl s2 =>
          rw [q2] at h
          cases fl with
          | next => exact ih m s2 hm h
          | cont => exact ih m s2 hm h
          | brk => rfl
          | ret r => rfl
/-- the most turns -/
def FUEL : Nat := 1000000000
/-- while -/
def sWhile (c : PM Bool) (F : PM Fl) : PM Fl := wl c F FUEL
theorem sWhile_eq {c : PM Bool} {F : PM Fl} {s : SE} (n : Nat) (hn : n ≤ FUEL) (h : wl c F n s ≠ .stuck) : sWhile c F s = wl c F n s := wl_mono c F n FUEL s hn h
theorem sWhile_out {c : PM Bool} {F : PM Fl} {s : SE} (h : sWhile c F s ≠ .stuck) : ∃ n, sWhile c F s = wl c F n s := ⟨FUEL, rfl⟩
section
variable {X : Cx} {W : WX} {pin : List Nat} {c : Expr} {body : List Stmt} {ct : PM Bool} {F : PM Fl} {pos : Pos}
theorem qs_while (hp : PassesOwn (model X.prog X.w) X.A X.env X.xe) (hc : QT X W c ct) (hb : QSs X W pin body F) : QS X W pin (.While c body [] pos) (sWhile ct F) :=
  ⟨ps_mono (ps_while hp hc.pt hb.pss) fun D σ H ⟨Z, s, R, h⟩ => by
    have ns : sWhile ct F s ≠ .stuck := fun e => by rw [e] at h; exact h
    obtain ⟨n, en⟩ := sWhile_out ns
    rw [en] at h
    refine ⟨fun m σ H => ∃ (Z : Addr → Prop) (s : SE), Rl (kx X) Z H σ s ∧ Mt (wl ct F m s) (lF (kx X) pin Z H σ s D) (XOutS (kx X) X.mg W pin Z H σ s), ⟨n, Z, s, R, h⟩, ?_⟩
    clear ns en h R s Z n
    intro m σ H ⟨Z, s, R, h⟩
    cases m with
    | zero => exact h.elim
    | succ m =>
      refine lT_step R (MtS.ex (Mt.bnd_ h)) fun k s1 H1 q g => ?_
      cases k with
      | false => exact q σ H1 g.st
      | true =>
        rw [if_pos rfl] at q ⊢
        refine ⟨fun σ' H' => ∃ (Z : Addr → Prop) (s : SE), Rl (kx X) Z H' σ' s ∧ Mt (wl ct F m s) (lF (kx X) pin Z H' σ' s D) (XOutS (kx X) X.mg W pin Z H' σ' s), fun σ' H' z => ⟨m, Nat.lt_succ_self m, z⟩, Z, s1, g.rl, ?_⟩
        cases e : F s1 with
        | stuck => rw [e] at q; exact q.elim
        | exc x s2 => rw [e] at q; exact XOutS.after q g.st
        | ok fl s2 =>
          rw [e] at q
          cases fl with
          | next => exact fun σ' H' gs => ⟨Z, s2, gs.rl, MtS.after q (g.st.trans gs)⟩
          | cont => exact fun σ' H' gs => ⟨Z, s2, gs.rl, MtS.after q (g.st.trans gs)⟩
          | brk => exact fun σ' H' gs => q σ' H' (g.st.trans gs)
          | ret r => exact fun v σ' H' p => q v σ' H' (PostR.after g.st p)⟩
end

/-! ### what is walked -/
/-- an iterator that yields ps while Rb stands -/
structure Wk (K : Frg) (J : It) (Rb : Hp → Hp → Prop) (ps : List PV) : Prop where
  mono : ∀ Hq Hv Hq' Hv', Rb Hq Hv → Ext Hq Hq' → Ext Hv Hv' → Rb Hq' Hv'
  nt : ∀ Hq Hv, Rb Hq Hv → Rb (noT Hq) (noT Hv)
  go : ∀ i p H Hq Hv, Rb Hq Hv → Ext Hq H → Ext Hv Hq → ps[i]? = some p → J.go i H
  yld : ∀ i p H Hq Hv x H', Rb Hq Hv → Ext Hq H → Ext Hv Hq → ps[i]? = some p → J.yld i H x H' → Ext H H' ∧ Rep K (grow Hv H H') x p
  stop : ∀ i H Hq Hv, Rb Hq Hv → Ext Hq H → Ext Hv Hq → ps.length ≤ i → J.stop i H
noncomputable abbrev Hq (σ : L2.St) (s : SE) (H : Hp) : Hp := hid (Owns σ s) H
theorem hv_hq {Z : Addr → Prop} {σ : L2.St} {s : SE} {H : Hp} : Ext (Hd Z σ s H) (Hq σ s H) := hid_mono fun a o n e => ⟨fun z => n (.inr z), e⟩
def lI (K : Frg) (mg : Str → Option Value) (W : WX) (f : PM (List PV)) : TI := fun σ H R => ∃ (Z : Addr → Prop) (s : SE), Rl K Z H σ s ∧
  Mt (f s) (fun ps s' => ∀ J H' Rb, Go K Z Z H σ s s' H' → Wk K J Rb ps → Rb (Hq σ s' H') (Hd Z σ s' H') → R J H') (fun c s' => XOut K mg W Z H σ s c s')
structure QI (X : Cx) (W : WX) (tg iter : Expr) (f : PM (List PV)) : Prop where
  pi : PI X tg iter (lI (kx X) X.mg W f)
theorem pi_mono {X : Cx} {tg iter : Expr} {t t' : TI} (h : PI X tg iter t) (m : ∀ σ H R, t' σ H R → t σ H R) : PI X tg iter t' := ⟨fun pins s σ H R I q => h.run pins s σ H R I (m σ H R q)⟩
section
variable {K : Frg} {a : Addr} {ps : List PV} {vs : List V}
theorem reps_ints {H : Hp} : ∀ ns : List Int, Reps K H (ns.map V.int) (ns.map PV.int)
  | [] => .nil
  | n :: ns => .cons (.int n) (reps_ints ns)
theorem wk_list (a : Addr) (vs : List V) (ps : List PV) : Wk K (Itl K.K a) (fun Hq Hv => SqL K.K Hq a vs ∧ Reps K Hv vs ps) ps where
  mono := fun _ _ _ _ ⟨h, r⟩ e1 e2 => ⟨e1.sqL h, r.ext e2⟩
  nt := fun _ _ ⟨h, r⟩ => ⟨sqL_noT h, r.noT⟩
  go := fun i p H Hq Hv ⟨h, r⟩ e1 e2 hp => by
    obtain ⟨v, hv, _⟩ := r.get hp
    exact ⟨vs, v, e1.sqL h, hv⟩
  yld := fun i p H Hq Hv x H' ⟨h, r⟩ e1 e2 hp ⟨e, hy⟩ => by
    subst e
    obtain ⟨v, hv, r1⟩ := r.get hp
    have q := hy vs (e1.sqL h)
    rw [hv] at q; cases q
    exact ⟨Ext.refl, by rw [grow_self (e2.trans e1)]; exact r1⟩
  stop := fun i H Hq Hv ⟨h, r⟩ e1 e2 hl => ⟨vs, e1.sqL h, by rw [r.length]; exact hl⟩
theorem wk_tup (a : Addr) (vs : List V) (ps : List PV) : Wk K (Itt K.K a) (fun Hq Hv => SqT K.K Hq a vs ∧ Reps K Hv vs ps) ps where
  mono := fun _ _ _ _ ⟨h, r⟩ e1 e2 => ⟨e1.sqT h, r.ext e2⟩
  nt := fun _ _ ⟨h, r⟩ => ⟨sqT_noT h, r.noT⟩
  go := fun i p H Hq Hv ⟨h, r⟩ e1 e2 hp => by
    obtain ⟨v, hv, _⟩ := r.get hp
    exact ⟨vs, v, e1.sqT h, hv⟩
  yld := fun i p H Hq Hv x H' ⟨h, r⟩ e1 e2 hp ⟨e, hy⟩ => by
    subst e
    obtain ⟨v, hv, r1⟩ := r.get hp
    have q := hy vs (e1.sqT h)
    rw [hv] at q; cases q
    exact ⟨Ext.refl, by rw [grow_self (e2.trans e1)]; exact r1⟩
  stop := fun i H Hq Hv ⟨h, r⟩ e1 e2 hl => ⟨vs, e1.sqT h, by rw [r.length]; exact hl⟩
/-- lo, lo + 1, .. -/
def rngL (lo : Int) (n : Nat) : List PV := (List.range n).map fun (i : Nat) => PV.int (lo + (i : Int))
theorem wk_rng (lo : Int) (n : Nat) : Wk K (Itr lo n) (fun _ _ => True) (rngL lo n) where
  mono := fun _ _ _ _ _ _ _ => trivial
  nt := fun _ _ _ => trivial
  go := fun i p H Hq Hv _ _ _ hp => by
    have h := (List.getElem?_eq_some_iff.mp hp).1
    exact (by simpa [rngL] using h : i < n)
  yld := fun i p H Hq Hv x H' _ e1 e2 hp ⟨e, hy⟩ => by
    subst e; subst hy
    have h : i < n := by simpa [rngL] using (List.getElem?_eq_some_iff.mp hp).1
    have q : p = .int (lo + (i : Int)) := by
      simp only [rngL, List.getElem?_map, List.getElem?_range h, Option.map_some, Option.some.injEq] at hp
      exact hp.symm
    subst q
    exact ⟨Ext.refl, .int _⟩
  stop := fun i H Hq Hv _ _ _ hl => (by simpa [rngL] using hl : n ≤ i)
end

/-! ### for -/
def forL (G : PV → PM Unit) (F : PM Fl) : List PV → PM Fl
  | [] => ret .next
  | p :: ps => bnd (nx (G p)) fun _ => fun s => match F s with
    | .ok .next s1 => forL G F ps s1
    | .ok .cont s1 => forL G F ps s1
    | .ok .brk s1 => .ok .next s1
    | r => r
def sFor (I : PM (List PV)) (G : PV → PM Unit) (F : PM Fl) : PM Fl := bnd I fun ps => forL G F ps
section
variable {X : Cx} {W : WX} {pin : List Nat} {tg iter : Expr} {body : List Stmt} {I : PM (List PV)} {G : PV → PM Unit} {F : PM Fl} {pos : Pos}
theorem qs_for (hp : PassesOwn (model X.prog X.w) X.A X.env X.xe) (hc : X.calm = true) (hi : QI X W tg iter I) (hg : QG X pin tg G) (hb : QSs X W pin body F) (hs : ∀ x, foldedSetIterable iter X.env x = pure x := by intro _; rfl) :
    QS X W pin (.For tg iter body [] pos) (sFor I G F) :=
  ⟨ps_mono (ps_for hp hc hi.pi hg.pg hb.pss hs) fun D σ H ⟨Z, s, R, h⟩ => by
    refine ⟨Z, s, R, Mt.imp (MtS.ex (Mt.bnd_ h)) fun ps s1 q J H1 Rb g wk rb => ?_⟩
    refine ⟨fun i m σ' H' => m + i = ps.length ∧ ∃ (Z : Addr → Prop) (s : SE), Rl (kx X) Z H' σ' s ∧ Rb (Hq σ' s H') (Hd Z σ' s H') ∧ Mt (forL G F (ps.drop i) s) (lF (kx X) pin Z H' σ' s D) (XOutS (kx X) X.mg W pin Z H' σ' s), ?_, ?_⟩
    · exact ⟨ps.length, by omega, Z, s1, g.rl, rb, MtS.after q g.st⟩
    · clear q g rb H1 s1 h R s Z
      intro i m σ H ⟨em, Z, s, R, rb, h⟩
      cases e : ps[i]? with
      | none =>
        have hl : ps.length ≤ i := List.getElem?_eq_none_iff.mp e
        rw [List.drop_of_length_le hl] at h
        exact .inl ⟨wk.stop i H _ _ rb hid_sub hv_hq hl, h σ H (GoS.refl R)⟩
      | some p =>
        obtain ⟨hl, ep⟩ := List.getElem?_eq_some_iff.mp e
        rw [List.drop_eq_getElem_cons hl, ep] at h
        refine .inr ⟨wk.go i p H _ _ rb hid_sub hv_hq e, fun σ' H' => ∃ (Z : Addr → Prop) (s : SE), Rl (kx X) Z H' σ' s ∧ Rb (Hq σ' s H') (Hd Z σ' s H') ∧ Mt (forL G F (ps.drop (i + 1)) s) (lF (kx X) pin Z H' σ' s D) (XOutS (kx X) X.mg W pin Z H' σ' s),
          fun σ' H' z => ⟨m - 1, by omega, by omega, z⟩, fun x H' hy => ?_⟩
        obtain ⟨ex, rp⟩ := wk.yld i p H _ _ x H' rb hid_sub hv_hq e hy
        have g0 : Go (kx X) Z Z H σ s s H' := Go.grown R ex
        rw [grow_hid R.hidIn ex] at rp
        refine ⟨Z, s, p, g0.rl, rp, Mt.imp (Mt.nx (Mt.bnd_ h)) fun _ s1 q σ1 H1 g1 _ => ⟨Z, s1, g1.rl, ?_⟩⟩
        have G1 := (g0.st (pin := pin)).trans g1
        have rb1 := wk.mono _ _ _ _ rb G1.visQ G1.vis
        cases e2 : F s1 with
        | stuck => rw [e2] at q; exact q.elim
        | exc x s2 => rw [e2] at q; exact XOutS.after q G1
        | ok fl s2 =>
          rw [e2] at q
          cases fl with
          | next => exact fun σ' H' gs => ⟨Z, s2, gs.rl, wk.mono _ _ _ _ rb1 gs.visQ gs.vis, MtS.after q (G1.trans gs)⟩
          | cont => exact fun σ' H' gs => ⟨Z, s2, gs.rl, wk.mono _ _ _ _ rb1 gs.visQ gs.vis, MtS.after q (G1.trans gs)⟩
          | brk => exact fun σ' H' gs => q σ' H' (G1.trans gs)
          | ret r => exact fun v σ' H' p => q v σ' H' (PostR.after G1 p)⟩
end

/-! ### iterables -/
/-- the items of a value that is let go -/
def itemsP : PV → Option (List PV)
  | .lst ps => some ps
  | .tup ps => some ps
  | _ => none
def iLst (f : PM Arg) : PM (List PV) := bnd f fun a => bnd (rel1 a) fun p => match p with
  | .lst ps => ret ps
  | .scr ns => ret (ns.map PV.int)
  | _ => stk
def iTp (f : PM Arg) : PM (List PV) := bnd f fun a => bnd (rel1 a) fun p => match p with
  | .tup ps => ret ps
  | _ => stk
def iRg1 (fs : PM (List Arg)) : PM (List PV) := bnd fs fun as => match as with
  | [.val (.int j) _] => if -(2 ^ 62) ≤ j ∧ j < 2 ^ 62 then ret (rngL 0 j.toNat) else stk
  | _ => stk
def iRg2 (fs : PM (List Arg)) : PM (List PV) := bnd fs fun as => match as with
  | [.val (.int i) _, .val (.int j) _] => if -(2 ^ 62) ≤ i ∧ i < 2 ^ 62 ∧ -(2 ^ 62) ≤ j ∧ j < 2 ^ 62 then ret (rngL i (j - i).toNat) else stk
  | _ => stk
section
variable {X : Cx} {W : WX} {tg e a b : Expr} {f : PM Arg} {fs : PM (List Arg)} {p pos : Pos}
theorem rel1_step {K : Frg} {mg : Str → Option Value} {Z : Addr → Prop} {H H1 : Hp} {σ : L2.St} {s s1 : SE} {v : V} {r : Arg} {ok : PV → SE → Prop} {ex : Str → SE → Prop} (p : PostE K Z H σ s r s1 v H1) (h : Mt (rel1 r s1) ok ex) :
    ∃ q s2, ok q s2 ∧ Go K Z Z H σ s s2 H1 ∧ Rep K (Hd Z σ s2 H1) v q := by
  obtain ⟨g, a1⟩ := p.wait
  cases e1 : rel1 r s1 with
  | stuck => rw [e1] at h; exact h.elim
  | exc c s2 => exact absurd e1 rel1_noexc
  | ok q s2 =>
    rw [e1] at h
    obtain ⟨g1, r1⟩ := rel1_post g.rl a1 e1
    exact ⟨q, s2, h, g.trans g1, r1⟩
theorem qi_lst (he : QE X W e f) : QI X W tg e (iLst f) := ⟨pi_mono (pi_list he.pe) fun σ H R ⟨Z, s, R1, h⟩ => by
  refine lE_step R1 (Mt.bnd_ h) fun r s1 v H1 k p => ?_
  obtain ⟨q, s2, k, g, rp⟩ := rel1_step (mg := X.mg) p k.bnd_
  cases rp with
  | lst hq rs => exact ⟨_, rfl, ⟨_, hid_sub.sqL (.of hq)⟩, k _ _ _ g (wk_list _ _ _) ⟨hv_hq.sqL (.of hq), rs⟩⟩
  | scr hq => exact ⟨_, rfl, ⟨_, hid_sub.sqL hq⟩, k _ _ _ g (wk_list _ _ _) ⟨hv_hq.sqL hq, reps_ints _⟩⟩
  | _ => exact k.elim⟩
theorem qi_tp (he : QE X W e f) : QI X W tg e (iTp f) := ⟨pi_mono (pi_tup he.pe) fun σ H R ⟨Z, s, R1, h⟩ => by
  refine lE_step R1 (Mt.bnd_ h) fun r s1 v H1 k p => ?_
  obtain ⟨q, s2, k, g, rp⟩ := rel1_step (mg := X.mg) p k.bnd_
  cases rp with
  | tup hq rs => exact ⟨_, rfl, ⟨_, hid_sub.sqT hq⟩, k _ _ _ g (wk_tup _ _ _) ⟨hv_hq.sqT hq, rs⟩⟩
  | _ => exact k.elim⟩
theorem qi_rg1 (hg : Gl X "range") (hm : X.mg "range" = none) (ha : QA X W [a] fs) (hs : starEach [a] X.env = [(false, eval a X.env)] := by rfl) : QI X W tg (.Call (.Name "range" p) [a] [] pos) (iRg1 fs) := ⟨pi_mono (pi_range1 hg hm ha.pa hs) fun σ H R ⟨Z, s, R1, h⟩ => by
  refine lA_step R1 (Mt.bnd_ h) fun rs s1 vs H1 k g a1 => ?_
  match rs, a1, k with
  | [.val (.int j) _], .cons h1 .nil, k =>
    cases h1
    simp only at k
    split at k
    · rename_i hb
      refine ⟨j, rfl, hb.1, hb.2, k _ _ _ g (wk_rng _ _) trivial⟩
    · exact k.elim⟩
theorem qi_rg2 (hg : Gl X "range") (hm : X.mg "range" = none) (ha : QA X W [a, b] fs) (hs : starEach [a, b] X.env = [(false, eval a X.env), (false, eval b X.env)] := by rfl) (hs2 : starEach [b] X.env = [(false, eval b X.env)] := by rfl) : QI X W tg (.Call (.Name "range" p) [a, b] [] pos) (iRg2 fs) := ⟨pi_mono (pi_range2 hg hm ha.pa hs hs2) fun σ H R ⟨Z, s, R1, h⟩ => by
  refine lA_step R1 (Mt.bnd_ h) fun rs s1 vs H1 k g a1 => ?_
  match rs, a1, k with
  | [.val (.int i) _, .val (.int j) _], .cons h1 (.cons h2 .nil), k =>
    cases h1
    cases h2
    simp only at k
    split at k
    · rename_i hb
      exact ⟨i, j, rfl, hb, k _ _ _ g (wk_rng _ _) trivial⟩
    · exact k.elim⟩
end
end HF
end

section
set_option Elab.async false
set_option linter.all false
set_option maxRecDepth 100000
set_option maxHeartbeats 1000000
set_option autoImplicit false
/-! HF5: list comprehensions. -/
namespace HF
open PySem PySem.Spec PyProof.Rows L2

/-! ### slots laid aside -/
def wipeS (s : SE) : List Nat → SE
  | [] => s
  | v :: vs => (wipeS s vs).set v none
/-- .. and taken back from s0 -/
def unw (s0 s : SE) : List Nat → SE
  | [] => s
  | v :: vs => (unw s0 s vs).set v (match s0[v]? with
    | some x => x
    | none => none)
theorem wipeS_len (s : SE) : ∀ vs, (wipeS s vs).length = s.length
  | [] => rfl
  | v :: vs => by simp [wipeS, wipeS_len s vs]
theorem unw_len (s0 s : SE) : ∀ vs, (unw s0 s vs).length = s.length
  | [] => rfl
  | v :: vs => by simp [unw, unw_len s0 s vs]
theorem wipeS_in {s : SE} {i : Nat} : ∀ {vs : List Nat}, i ∈ vs → i < s.length → (wipeS s vs)[i]? = some none
  | [], h, _ => nomatch h
  | v :: vs, h, hl => by
    unfold wipeS
    by_cases e : v = i
    · subst e; exact List.getElem?_set_self (by rw [wipeS_len]; exact hl)
    · rw [List.getElem?_set_ne e]
      exact wipeS_in ((List.mem_cons.mp h).resolve_left fun z => e z.symm) hl
theorem wipeS_out {s : SE} {i : Nat} : ∀ {vs : List Nat}, i ∉ vs → (wipeS s vs)[i]? = s[i]?
  | [], _ => rfl
  | v :: vs, h => by
    unfold wipeS
    rw [List.getElem?_set_ne (by intro e; subst e; exact h List.mem_cons_self)]
    exact wipeS_out fun z => h (List.mem_cons_of_mem _ z)
theorem unw_in {s0 s : SE} {i : Nat} : ∀ {vs : List Nat}, i ∈ vs → i < s.length → i < s0.length → (unw s0 s vs)[i]? = s0[i]?
  | [], h, _, _ => nomatch h
  | v :: vs, h, hl, h0 => by
    unfold unw
    by_cases e : v = i
    · subst e
      rw [List.getElem?_set_self (by rw [unw_len]; exact hl), List.getElem?_eq_getElem h0]
    · rw [List.getElem?_set_ne e]
      exact unw_in ((List.mem_cons.mp h).resolve_left fun z => e z.symm) hl h0
theorem unw_out {s0 s : SE} {i : Nat} : ∀ {vs : List Nat}, i ∉ vs → (unw s0 s vs)[i]? = s[i]?
  | [], _ => rfl
  | v :: vs, h => by
    unfold unw
    rw [List.getElem?_set_ne (by intro e; subst e; exact h List.mem_cons_self)]
    exact unw_out fun z => h (List.mem_cons_of_mem _ z)
theorem wipe_out' {σ : L2.St} {i : Nat} : ∀ {vs : List Nat}, i ∉ vs → (wipe σ vs)[i]? = σ[i]?
  | [], _ => rfl
  | v :: vs, h => by
    unfold wipe
    rw [List.getElem?_set_ne (by intro e; subst e; exact h List.mem_cons_self)]
    exact wipe_out' fun z => h (List.mem_cons_of_mem _ z)
theorem wipe_in' {σ : L2.St} {i : Nat} : ∀ {vs : List Nat}, i ∈ vs → i < σ.length → (wipe σ vs)[i]? = some none
  | [], h, _ => nomatch h
  | v :: vs, h, hl => by
    unfold wipe
    by_cases e : v = i
    · subst e; exact List.getElem?_set_self (by rw [wipe_length]; exact hl)
    · rw [List.getElem?_set_ne e]
      exact wipe_in' ((List.mem_cons.mp h).resolve_left fun z => e z.symm) hl
section
variable {K : Frg} {Z Z' : Addr → Prop} {H H' H1 : Hp} {σ : L2.St} {s s0 s1 s' : SE} {vs us : List Nat} {a : Addr}
/-- what is laid aside -/
def Pk (σ : L2.St) (s : SE) (vs us : List Nat) (a : Addr) : Prop := Owns σ s a ∧ ¬ Owns (wipe σ vs) (wipeS s us) a
theorem owns_wipe (hv : ∀ i ∈ vs, i ∈ us) (h : Owns (wipe σ vs) (wipeS s us) a) : Owns σ s a := by
  obtain ⟨i, p, e1, e2⟩ := h
  have hl : i < s.length := by
    have z := (List.getElem?_eq_some_iff.mp e1).1
    rw [wipeS_len] at z
    exact z
  by_cases hi : i ∈ us
  · rw [wipeS_in hi hl] at e1; cases e1
  · rw [wipeS_out hi] at e1
    exact ⟨i, p, e1, (wipe_some e2).1⟩
theorem hd_park (hv : ∀ i ∈ vs, i ∈ us) : Hd (fun b => Z b ∨ Pk σ s vs us b) (wipe σ vs) (wipeS s us) H = Hd Z σ s H := by
  have e : (fun a => (Z a ∨ Pk σ s vs us a) ∨ Owns (wipe σ vs) (wipeS s us) a) = fun a => Z a ∨ Owns σ s a := by
    funext b
    refine propext ⟨fun h => ?_, fun h => ?_⟩
    · rcases h with (h | h) | h
      · exact .inl h
      · exact .inr h.1
      · exact .inr (owns_wipe hv h)
    · rcases h with h | h
      · exact .inl (.inl h)
      · by_cases z : Owns (wipe σ vs) (wipeS s us) b
        · exact .inr z
        · exact .inl (.inr ⟨h, z⟩)
  show hid _ H = hid _ H
  rw [e]
theorem Rl.park (R : Rl K Z H σ s) (hv : ∀ i ∈ vs, i ∈ us) : Rl K (fun b => Z b ∨ Pk σ s vs us b) H (wipe σ vs) (wipeS s us) := by
  have inn : ∀ (i : Nat) (x : Bool × PV), (wipeS s us)[i]? = some (some x) → i ∉ us ∧ s[i]? = some (some x) := fun i x e => by
    have hl : i < s.length := by
      have z := (List.getElem?_eq_some_iff.mp e).1
      rw [wipeS_len] at z
      exact z
    by_cases hi : i ∈ us
    · rw [wipeS_in hi hl] at e; cases e
    · rw [wipeS_out hi] at e; exact ⟨hi, e⟩
  refine ⟨by rw [wipeS_len, wipe_length]; exact R.len, fun b z => z.elim (R.zin b) fun z => R.ownIn z.1, fun i p e => ?_, fun i p e => ?_, fun i j p q b e1 e2 e3 e4 => ?_⟩
  · obtain ⟨hi, e⟩ := inn i _ e
    obtain ⟨v, e1, r⟩ := R.sh i p e
    exact ⟨v, by rw [wipe_out' fun z => hi (hv i z)]; exact e1, by rw [hd_park hv]; exact r⟩
  · obtain ⟨hi, e'⟩ := inn i _ e
    obtain ⟨b, e1, n, r⟩ := R.ow i p e'
    have ew : (wipe σ vs)[i]? = some (some (V.ref b)) := by rw [wipe_out' fun z => hi (hv i z)]; exact e1
    exact ⟨b, ew, fun z => z.elim n fun z => z.2 ⟨i, p, e, ew⟩, by rw [hd_park hv]; exact r⟩
  · exact R.dj i j p q b (inn i _ e1).2 (inn j _ e2).2 (wipe_some e3).1 (wipe_some e4).1
/-- the block's end: all is taken back -/
theorem Rl.unpark (R : Rl K Z H σ s) (hv : ∀ i ∈ vs, i ∈ us) (hZ : ∀ a, Z a → Z' a) (hZn : ∀ a, Z' a → ¬ Z a → H a = none)
    (g : Go K (fun b => Z b ∨ Pk σ s vs us b) (fun b => Z' b ∨ Pk σ s vs us b) H (wipe σ vs) (wipeS s us) s' H') : Go K Z Z' H σ s (unw s s' us) H' := by
  have W := R.park hv
  have hl' : s'.length = s.length := by rw [g.rl.len, wipe_length, R.len]
  -- who owns at the end
  have own : ∀ b, Owns σ (unw s s' us) b → (∃ i p, i ∈ us ∧ s[i]? = some (some (true, p)) ∧ σ[i]? = some (some (V.ref b))) ∨ (∃ i p, i ∉ us ∧ s'[i]? = some (some (true, p)) ∧ σ[i]? = some (some (V.ref b)) ∧ (wipe σ vs)[i]? = some (some (V.ref b))) := fun b ⟨i, p, e1, e2⟩ => by
    have hl : i < s.length := by
      have z := (List.getElem?_eq_some_iff.mp e1).1
      rw [unw_len, hl'] at z
      exact z
    by_cases hi : i ∈ us
    · rw [unw_in hi (by rw [hl']; exact hl) hl] at e1
      exact .inl ⟨i, p, hi, e1, e2⟩
    · rw [unw_out hi] at e1
      exact .inr ⟨i, p, hi, e1, e2, by rw [wipe_out' fun z => hi (hv i z)]; exact e2⟩
  have pk : ∀ b, (∃ i p, i ∈ us ∧ s[i]? = some (some (true, p)) ∧ σ[i]? = some (some (V.ref b))) → Pk σ s vs us b := fun b ⟨i, p, hi, e1, e2⟩ => by
    refine ⟨⟨i, p, e1, e2⟩, fun ⟨j, q, e3, e4⟩ => ?_⟩
    have hl : j < s.length := by
      have z := (List.getElem?_eq_some_iff.mp e3).1
      rw [wipeS_len] at z
      exact z
    by_cases hj : j ∈ us
    · rw [wipeS_in hj hl] at e3; cases e3
    · rw [wipeS_out hj] at e3
      have z := R.dj i j p q b e1 e3 e2 (wipe_some e4).1
      subst z
      exact hj hi
  have ow : ∀ b, Owns σ (unw s s' us) b → Owns σ s b := fun b h => by
    rcases own b h with h | ⟨i, p, _, e1, _, e3⟩
    · exact (pk b h).1
    · exact owns_wipe hv (g.ow b ⟨i, p, e1, e3⟩)
  -- what is shared at the start
  have ext : Ext (Hd Z σ s H) (Hd Z' σ (unw s s' us) H') := hid_mono fun b o n q => by
    refine ⟨fun z => ?_, g.fr b o q fun z => n (.inr (owns_wipe hv z))⟩
    rcases z with z | z
    · by_cases zb : Z b
      · exact n (.inl zb)
      · have := hZn b z zb; rw [q] at this; cases this
    · exact n (.inr (ow b z))
  -- what is shared at the end, within
  have ext' : Ext (Hd (fun b => Z' b ∨ Pk σ s vs us b) (wipe σ vs) s' H') (Hd Z' σ (unw s s' us) H') := hid_mono fun b o n q => by
    refine ⟨fun z => ?_, q⟩
    rcases z with z | z
    · exact n (.inl (.inl z))
    · rcases own b z with h | ⟨i, p, _, e1, _, e3⟩
      · exact n (.inl (.inr (pk b h)))
      · exact n (.inr ⟨i, p, e1, e3⟩)
  refine ⟨⟨by rw [unw_len, hl']; exact R.len, fun b z => g.rl.zin b (.inl z), fun i p e => ?_, fun i p e => ?_, fun i j p q b e1 e2 e3 e4 => ?_⟩, fun b o e n => g.fr b o e fun z => n (owns_wipe hv z), ow, g.tr, fun i q e => ?_⟩
  · have hl : i < s.length := by
      have z := (List.getElem?_eq_some_iff.mp e).1
      rw [unw_len, hl'] at z
      exact z
    by_cases hi : i ∈ us
    · rw [unw_in hi (by rw [hl']; exact hl) hl] at e
      obtain ⟨v, e1, r⟩ := R.sh i p e
      exact ⟨v, e1, r.ext ext⟩
    · rw [unw_out hi] at e
      obtain ⟨v, e1, r⟩ := g.rl.sh i p e
      exact ⟨v, (wipe_some e1).1, r.ext ext'⟩
  · have hl : i < s.length := by
      have z := (List.getElem?_eq_some_iff.mp e).1
      rw [unw_len, hl'] at z
      exact z
    by_cases hi : i ∈ us
    · rw [unw_in hi (by rw [hl']; exact hl) hl] at e
      obtain ⟨b, e1, n, r⟩ := R.ow i p e
      obtain ⟨o, ho, _⟩ := r.at_
      have pb := pk b ⟨i, p, hi, e, e1⟩
      refine ⟨b, e1, fun z => ?_, r.ext ?_ ext⟩
      · have := hZn b z n; rw [ho] at this; cases this
      · rw [ho]; exact g.fr b o ho pb.2
    · rw [unw_out hi] at e
      obtain ⟨b, e1, n, r⟩ := g.rl.ow i p e
      exact ⟨b, (wipe_some e1).1, fun z => n (.inl z), r.ext rfl ext'⟩
  · have c : ∀ (m : Nat) (x : PV), (unw s s' us)[m]? = some (some (true, x)) → σ[m]? = some (some (V.ref b)) → (m ∈ us ∧ s[m]? = some (some (true, x))) ∨ (m ∉ us ∧ s'[m]? = some (some (true, x)) ∧ (wipe σ vs)[m]? = some (some (V.ref b))) := fun m x y z => by
      have hl : m < s.length := by
        have z := (List.getElem?_eq_some_iff.mp y).1
        rw [unw_len, hl'] at z
        exact z
      by_cases hm : m ∈ us
      · rw [unw_in hm (by rw [hl']; exact hl) hl] at y
        exact .inl ⟨hm, y⟩
      · rw [unw_out hm] at y
        exact .inr ⟨hm, y, by rw [wipe_out' fun z => hm (hv m z)]; exact z⟩
    rcases c i p e1 e3 with ⟨i1, i2⟩ | ⟨i1, i2, i3⟩
    · rcases c j q e2 e4 with ⟨j1, j2⟩ | ⟨j1, j2, j3⟩
      · exact R.dj i j p q b i2 j2 e3 e4
      · exact absurd (g.ow b ⟨j, q, j2, j3⟩) (pk b ⟨i, p, i1, i2, e3⟩).2
    · rcases c j q e2 e4 with ⟨j1, j2⟩ | ⟨j1, j2, j3⟩
      · exact absurd (g.ow b ⟨i, p, i2, i3⟩) (pk b ⟨j, q, j1, j2, e4⟩).2
      · exact g.rl.dj i j p q b i2 j2 i3 j3
  · have hl : i < s.length := (List.getElem?_eq_some_iff.mp e).1
    by_cases hi : i ∈ us
    · exact ⟨q, by rw [unw_in hi (by rw [hl']; exact hl) hl]; exact e⟩
    · rw [unw_out hi]
      exact g.kp i q (by rw [wipeS_out hi]; exact e)
end

/-! ### list comprehensions -/
def WF : WX := fun _ _ _ _ => False
def wp (us : List Nat) : PM Unit := fun s => .ok () (wipeS s us)
def compL (us : List Nat) (G : PV → PM Unit) (T : PM Bool) (E : PM Arg) : List PV → PM (List PV)
  | [] => ret []
  | p :: ps => bnd (nx (G p)) fun _ => bnd T fun k => if k = true then bnd E fun a => bnd (rel1 a) fun q => bnd (wp us) fun _ => bnd (compL us G T E ps) fun qs => ret (q :: qs)
    else bnd (wp us) fun _ => compL us G T E ps
def eComp (own : List Nat) (I : PM (List PV × List Nat)) (G : PV → PM Unit) (T : PM Bool) (E : PM Arg) : PM Arg := bnd I fun x => fun s =>
  if x.1.length ≤ sizeLine then (match compL (x.2 ++ own) G T E x.1 (wipeS s (x.2 ++ own)) with
    | .ok qs s1 => .ok (.val (.lst qs) true) (unw s s1 (x.2 ++ own))
    | _ => .stuck) else .stuck
theorem Rl.forget {K : Frg} {Z : Addr → Prop} {H : Hp} {σ : L2.St} {s : SE} {own us : List Nat} (R : Rl K Z H σ s) (hv : ∀ i ∈ own, i ∈ us) : Rl K Z H (wipe σ own) (wipeS s us) ∧ Ext (Hd Z σ s H) (Hd Z (wipe σ own) (wipeS s us) H) := by
  refine ⟨(R.park hv).weak fun b z => .inl z, ?_⟩
  rw [← hd_park (H := H) (Z := Z) (σ := σ) (s := s) hv]
  exact hid_mono fun b o n e => ⟨fun z => n (z.imp .inl id), e⟩
/-- something that is hidden is written -/
theorem hd_z {Z : Addr → Prop} {H : Hp} {σ : L2.St} {s : SE} {a : Addr} {o : HO} (z : Z a) : Hd Z σ s (upd H a o) = Hd Z σ s H := by
  funext b
  by_cases e : b = a
  · subst e
    simp [hid, z]
  · show hid _ _ b = hid _ _ b
    unfold hid
    rw [upd_ne e]
theorem Rl.zwrite {K : Frg} {Z : Addr → Prop} {H : Hp} {σ : L2.St} {s : SE} {a : Addr} {o : HO} (R : Rl K Z H σ s) (z : Z a) : Rl K Z (upd H a o) σ s := by
  refine ⟨R.len, fun b y => ?_, fun i p e => ?_, fun i p e => ?_, R.dj⟩
  · by_cases e : b = a
    · subst e; rw [upd_same]; nofun
    · rw [upd_ne e]; exact R.zin b y
  · rw [hd_z z]; exact R.sh i p e
  · obtain ⟨b, e1, n, r⟩ := R.ow i p e
    exact ⟨b, e1, n, r.ext (upd_ne fun e => n (by rw [e]; exact z)) (by rw [hd_z z]; exact Ext.refl)⟩
/-- iterables of comprehensions: the slots that wait are told -/
def lIB (K : Frg) (mg : Str → Option Value) (W : WX) (own : List Nat) (f : PM (List PV × List Nat)) : TI := fun σ H R => ∃ (Z : Addr → Prop) (s : SE), Rl K Z H σ s ∧
  Mt (f s) (fun x s' => ∀ J H' Rb, Go K Z Z H σ s s' H' → Wk K J Rb x.1 → Rb (Hq (wipe σ own) (wipeS s' (x.2 ++ own)) H') (Hd Z σ s' H') → R J H') (fun c s' => XOut K mg W Z H σ s c s')
structure QIB (X : Cx) (W : WX) (own : List Nat) (tg iter : Expr) (f : PM (List PV × List Nat)) : Prop where
  pi : PI X tg iter (lIB (kx X) X.mg W own f)
def iOf (f : PM (List PV)) : PM (List PV × List Nat) := bnd f fun ps => ret (ps, [])
def ifsT (X : Cx) (ifs : List Expr) (T : PM Bool) : Prop := PTs X ifs (lT (kx X) X.mg WF T)
theorem Mt.noex {α : Type} {r : Rs α} {ok : α → SE → Prop} {ex : Str → SE → Prop} (h : Mt r ok fun _ _ => False) : Mt r ok ex := by
  cases r with
  | ok a s => exact h
  | exc c s => exact h.elim
  | stuck => exact h
section
variable {K : Frg} {mg : Str → Option Value} {W : WX} {Z : Addr → Prop} {H H' H1 : Hp} {σ : L2.St} {s s1 s' : SE}
theorem hq_park {own us : List Nat} (hv : ∀ i ∈ own, i ∈ us) : Ext (Hq σ s H) (Hq (wipe σ own) (wipeS s us) H) := hid_mono fun a o n e => ⟨fun z => n (owns_wipe hv z), e⟩
theorem lIB_of {own : List Nat} {f : PM (List PV)} {R : It → Hp → Prop} (h : lIB K mg W own (iOf f) σ H R) : lI K mg W f σ H R := by
  obtain ⟨Z, s, R1, h⟩ := h
  refine ⟨Z, s, R1, Mt.imp (Mt.bnd_ h) fun ps s' k J H' Rb g wk rb => k J H' Rb g wk ?_⟩
  exact wk.mono _ _ _ _ rb (hq_park fun i hi => hi) Ext.refl
end
theorem qib_of {X : Cx} {W : WX} {own : List Nat} {tg iter : Expr} {f : PM (List PV)} (h : QI X W tg iter f) : QIB X W own tg iter (iOf f) := ⟨pi_mono h.pi fun σ H R h => lIB_of h⟩
/-- the slots of a def that are not the block's own -/
def others (n : Nat) (own : List Nat) : List Nat := (List.range n).filter fun i => !own.contains i
theorem others_mem {n : Nat} {own : List Nat} {i : Nat} : i ∈ others n own ↔ i < n ∧ i ∉ own := by
  unfold others
  simp [List.mem_filter]
theorem wipe_same {n : Nat} {own : List Nat} {σ σ' : L2.St} (hn : σ.length = n) (hl : σ'.length = σ.length) (h : ∀ i ∈ others n own, σ'[i]? = (wipe σ own)[i]?) : wipe σ' own = wipe σ own := by
  refine List.ext_getElem? fun i => ?_
  by_cases hi : i < n
  · by_cases ho : i ∈ own
    · rw [wipe_in' ho (by omega), wipe_in' ho (by omega)]
    · rw [wipe_out' ho, h i (others_mem.mpr ⟨hi, ho⟩)]
  · rw [List.getElem?_eq_none (by rw [wipe_length]; omega), List.getElem?_eq_none (by rw [wipe_length]; omega)]
section
variable {K : Frg} {mg : Str → Option Value} {W : WX} {own : List Nat} {I : PM (List PV × List Nat)} {G : PV → PM Unit} {T : PM Bool} {E : PM Arg} {n : Nat}
noncomputable abbrev HqD (D : Addr) (σ : L2.St) (s : SE) (H : Hp) : Hp := hid (fun b => Owns σ s b ∨ b = D) H
theorem lc_m {σ : L2.St} {H : Hp} {Q : VK} (hn : σ.length = n) (h : lE K mg W (eComp own I G T E) σ H Q) : tLc (lIB K mg W own I) (lG K (others n own) G) (lT K mg WF T) (lE K mg WF E) own σ H Q := by
  obtain ⟨Z, s, R, h⟩ := lE_iff.mp h
  refine ⟨Z, s, R, Mt.imp (Mt.bnd_ h) fun x s1 q J H1 Rb g wk rb D hD => ?_⟩
  obtain ⟨ps, us0⟩ := x
  dsimp only at q wk rb
  by_cases hz : ps.length ≤ sizeLine
  · rw [if_pos hz] at q
    generalize hus : us0 ++ own = us at q rb
    have hv : ∀ i ∈ own, i ∈ us := fun i hi => by rw [← hus]; exact List.mem_append_right _ hi
    cases e : compL us G T E ps (wipeS s1 us) with
    | stuck => rw [e] at q; exact q.elim
    | exc c s2 => rw [e] at q; exact q.elim
    | ok qs s2 =>
      rw [e] at q
      have R1 := g.rl
      have P1 := R1.park hv
      have nD : ∀ b o, H1 b = some o → b ≠ D := fun b o e z => by rw [z, hD] at e; cases e
      -- at the start
      have hp0 : Hd (fun b => Z b ∨ Pk σ s1 own us b) (wipe σ own) (wipeS s1 us) H1 = Hd Z σ s1 H1 := hd_park hv
      refine ⟨fun i m H => m + i = ps.length ∧ ∃ (s : SE) (acc : List V) (as : List PV), Go K (fun b => Z b ∨ Pk σ s1 own us b) (fun b => (Z b ∨ b = D) ∨ Pk σ s1 own us b) H1 (wipe σ own) (wipeS s1 us) s H ∧
        Rb (HqD D (wipe σ own) s H) (Hd (fun b => (Z b ∨ b = D) ∨ Pk σ s1 own us b) (wipe σ own) s H) ∧ H D = some (.lst acc) ∧ acc.length ≤ i ∧ Reps K (Hd (fun b => (Z b ∨ b = D) ∨ Pk σ s1 own us b) (wipe σ own) s H) acc as ∧
        ∃ rest, compL us G T E (ps.drop i) s = .ok rest s2 ∧ qs = as ++ rest, ⟨ps.length, by omega, wipeS s1 us, [], [], ?_⟩, ?_⟩
      · have g0 := Go.grown P1 (ext_upd (o := .lst []) hD)
        have r0 : Rl K (fun b => (Z b ∨ b = D) ∨ Pk σ s1 own us b) (upd H1 D (.lst [])) (wipe σ own) (wipeS s1 us) := (P1.hold hD (ext_upd hD) (by rw [upd_same]; nofun)).weak fun b z => by
          rcases z with (z | z) | z
          · exact .inl (.inl z)
          · exact .inr z
          · exact .inl (.inr z)
        refine ⟨⟨r0, g0.fr, g0.ow, g0.tr, g0.kp⟩, wk.mono _ _ _ _ rb (hid_mono fun b o n e => ⟨fun z => z.elim n (nD b o e), ext_upd hD b o e⟩) ?_, upd_same, Nat.zero_le _, .nil, qs, e, rfl⟩
        rw [← hp0]
        refine hid_mono fun b o n e => ⟨fun z => n ?_, ext_upd hD b o e⟩
        rcases z with ((z | z) | z) | z
        · exact .inl (.inl z)
        · exact absurd z (nD b o e)
        · exact .inl (.inr z)
        · exact .inr z
      · intro i m H2 ⟨em, s3, acc, as, g3, rb3, hacc, la, ra, rest, e3, eq⟩
        cases ei : ps[i]? with
        | none =>
          have hl : ps.length ≤ i := List.getElem?_eq_none_iff.mp ei
          refine .inl ⟨wk.stop i H2 _ _ rb3 hid_sub (hid_mono fun b o n e => ⟨fun z => n (z.elim .inr fun z => .inl (.inl (.inr z))), e⟩) hl, ?_⟩
          rw [List.drop_of_length_le hl] at e3
          obtain ⟨rfl, rfl⟩ : ([] : List PV) = rest ∧ s3 = s2 := by simpa [compL, ret] using e3
          rw [List.append_nil] at eq
          subst eq
          have gu := R1.unpark hv (Z' := fun b => Z b ∨ b = D) (fun _ z => .inl z) (fun b z n => (z.elim (fun z => absurd z n) fun z => by rw [z]; exact hD)) g3
          have nown : ¬ Owns σ (unw s1 s3 us) D := fun z => R1.ownIn (gu.ow D z) hD
          refine q (.ref D) H2 ((show PostE K Z H1 σ s1 (.val (.lst qs) true) (unw s1 s3 us) (.ref D) H2 from ⟨D, rfl, hD, gu, ⟨acc, hacc, ra.ext ?_⟩, nown, fun z => R1.zin D z hD⟩).after g)
          -- what is shared within is shared behind
          refine hid_mono fun b o n e => ⟨fun z => ?_, e⟩
          rcases z with z | ⟨i, p, z1, z2⟩
          · exact n (.inl (.inl z))
          · have hl' : s3.length = s1.length := by rw [g3.rl.len, wipe_length, R1.len]
            have hli : i < s1.length := by
              have z := (List.getElem?_eq_some_iff.mp z1).1
              rw [unw_len, hl'] at z
              exact z
            by_cases hi : i ∈ us
            · rw [unw_in hi (by rw [hl']; exact hli) hli] at z1
              refine n (.inl (.inr ⟨⟨i, p, z1, z2⟩, fun ⟨j, r, y1, y2⟩ => ?_⟩))
              have hlj : j < s1.length := by
                have z := (List.getElem?_eq_some_iff.mp y1).1
                rw [wipeS_len] at z
                exact z
              by_cases hj : j ∈ us
              · rw [wipeS_in hj hlj] at y1; cases y1
              · rw [wipeS_out hj] at y1
                have := R1.dj i j p r b z1 y1 z2 (wipe_some y2).1
                subst this
                exact hj hi
            · rw [unw_out hi] at z1
              exact n (.inr ⟨i, p, z1, by rw [wipe_out' fun z => hi (hv i z)]; exact z2⟩)
        | some p =>
          obtain ⟨hl, ep⟩ := List.getElem?_eq_some_iff.mp ei
          rw [List.drop_eq_getElem_cons hl, ep] at e3
          have subq : Ext (Hd (fun b => (Z b ∨ b = D) ∨ Pk σ s1 own us b) (wipe σ own) s3 H2) (HqD D (wipe σ own) s3 H2) := hid_mono fun b o n e => ⟨fun z => n (z.elim .inr fun z => .inl (.inl (.inr z))), e⟩
          refine .inr ⟨wk.go i p H2 _ _ rb3 hid_sub subq ei, fun H' => ∃ (s : SE) (acc : List V) (as : List PV), Go K (fun b => Z b ∨ Pk σ s1 own us b) (fun b => (Z b ∨ b = D) ∨ Pk σ s1 own us b) H1 (wipe σ own) (wipeS s1 us) s H' ∧
            Rb (HqD D (wipe σ own) s H') (Hd (fun b => (Z b ∨ b = D) ∨ Pk σ s1 own us b) (wipe σ own) s H') ∧ H' D = some (.lst acc) ∧ acc.length ≤ i + 1 ∧ Reps K (Hd (fun b => (Z b ∨ b = D) ∨ Pk σ s1 own us b) (wipe σ own) s H') acc as ∧
            ∃ rest, compL us G T E (ps.drop (i + 1)) s = .ok rest s2 ∧ qs = as ++ rest, fun H' z => ⟨m - 1, by omega, by omega, z⟩, fun x H' hy => ?_⟩
          obtain ⟨ex, rp⟩ := wk.yld i p H2 _ _ x H' rb3 hid_sub subq ei hy
          have g4 : Go K _ _ H2 (wipe σ own) s3 s3 H' := Go.grown g3.rl ex
          rw [grow_hid g3.rl.hidIn ex] at rp
          have m3 : Mt (compL us G T E (p :: ps.drop (i + 1)) s3) (fun r s' => r = rest ∧ s' = s2) (fun _ _ => False) := by rw [e3]; exact ⟨rfl, rfl⟩
          refine ⟨_, s3, p, g4.rl, rp, Mt.imp (Mt.nx (Mt.bnd_ m3)) fun _ s5 m5 σ5 H5 g5 ow5 => ?_⟩
          have hw : wipe σ5 own = wipe σ own := wipe_same hn (by rw [g5.ln, wipe_length]) fun i hi => g5.pn i hi
          have pD : (Z D ∨ D = D) ∨ Pk σ s1 own us D := .inl (.inr rfl)
          refine ⟨hw, ?_⟩
          -- a turn's end
          have fin : ∀ (s6 : SE) (H6 : Hp), Go K (fun b => (Z b ∨ b = D) ∨ Pk σ s1 own us b) (fun b => (Z b ∨ b = D) ∨ Pk σ s1 own us b) H5 σ5 s5 s6 H6 →
              Go K (fun b => Z b ∨ Pk σ s1 own us b) (fun b => (Z b ∨ b = D) ∨ Pk σ s1 own us b) H1 (wipe σ own) (wipeS s1 us) (wipeS s6 us) H6 ∧ Rb (HqD D (wipe σ own) (wipeS s6 us) H6) (Hd (fun b => (Z b ∨ b = D) ∨ Pk σ s1 own us b) (wipe σ own) (wipeS s6 us) H6) ∧
              H6 D = some (.lst acc) ∧ Reps K (Hd (fun b => (Z b ∨ b = D) ∨ Pk σ s1 own us b) (wipe σ own) (wipeS s6 us) H6) acc as ∧ Ext (Hd (fun b => (Z b ∨ b = D) ∨ Pk σ s1 own us b) σ5 s6 H6) (Hd (fun b => (Z b ∨ b = D) ∨ Pk σ s1 own us b) (wipe σ own) (wipeS s6 us) H6) := fun s6 H6 g6 => by
            have nD3 : ¬ Owns (wipe σ own) s3 D := fun z => by
              obtain ⟨i, p, e1, e2⟩ := z
              obtain ⟨b, e3, n, _⟩ := g3.rl.ow i p e1
              rw [e2] at e3; cases e3
              exact n pD
            have G : GoS K (others n own) _ _ H2 (wipe σ own) s3 H6 σ5 s6 := ((g4.st).trans g5).trans g6.st
            obtain ⟨rf, ef⟩ := g6.rl.forget hv
            rw [hw] at rf ef
            have ow6 : ∀ b, Owns (wipe σ own) (wipeS s6 us) b → Owns (wipe σ own) s3 b := fun b z => ow5 b (g6.ow b (owns_wipe (σ := σ5) (vs := own) hv (by rw [hw]; exact z)))
            have fr6 : ∀ b o, H2 b = some o → ¬ Owns (wipe σ own) s3 b → H6 b = some o := fun b o e nn => g6.fr b o (g5.fr b o (ex b o e) nn) fun z => nn (ow5 b z)
            refine ⟨⟨rf, fun b o e nn => fr6 b o (g3.fr b o e nn) fun z => nn (g3.ow b z), fun b z => g3.ow b (ow6 b z), fun b h => G.tr b (g3.tr b h), fun i q e => ?_⟩, ?_, fr6 D _ hacc nD3, ?_, ef⟩
            · have hl : i < s1.length := by
                have z := (List.getElem?_eq_some_iff.mp e).1
                rw [wipeS_len] at z
                exact z
              have hi : i ∉ us := fun hi => by rw [wipeS_in hi hl] at e; cases e
              obtain ⟨q1, e1⟩ := g3.kp i q e
              obtain ⟨q2, e2⟩ := G.kp i q1 e1
              exact ⟨q2, by rw [wipeS_out hi]; exact e2⟩
            · refine wk.mono _ _ _ _ rb3 (hid_mono fun b o nn e => ⟨fun z => nn (z.imp (ow6 b) id), fr6 b o e fun z => nn (.inl z)⟩) (hid_mono fun b o nn e => ⟨fun z => nn (z.imp id (ow6 b)), fr6 b o e fun z => nn (.inr z)⟩)
            · exact ra.ext (hid_mono fun b o nn e => ⟨fun z => nn (z.imp id (ow6 b)), fr6 b o e fun z => nn (.inr z)⟩)
          refine lT_step g5.rl (Mt.noex (Mt.bnd_ m5)) fun k s6 H6 m6 g6 => ?_
          cases k with
          | false =>
            obtain ⟨f1, f2, f3, f4, _⟩ := fin s6 H6 g6
            exact ⟨wipeS s6 us, acc, as, f1, f2, f3, Nat.le_succ_of_le la, f4, rest, by
              have m6 : Mt (compL us G T E (ps.drop (i + 1)) (wipeS s6 us)) (fun r s' => r = rest ∧ s' = s2) (fun _ _ => False) := m6
              cases e6 : compL us G T E (ps.drop (i + 1)) (wipeS s6 us) with
              | stuck => rw [e6] at m6; exact m6.elim
              | exc c s => rw [e6] at m6; exact m6.elim
              | ok r s => rw [e6] at m6; obtain ⟨rfl, rfl⟩ := m6; rfl, eq⟩
          | true =>
            refine lE_step g6.rl (Mt.noex (Mt.bnd_ m6)) fun r s7 y H7 m7 p7 => ?_
            obtain ⟨q8, s8, m8, g8, r8⟩ := rel1_step (mg := mg) p7 (Mt.bnd_ m7)
            obtain ⟨f1, f2, f3, f4, f5⟩ := fin s8 H7 (g6.trans g8)
            refine ⟨acc, f3, by omega, wipeS s8 us, acc ++ [y], as ++ [q8], ⟨f1.rl.zwrite pD, fun b o e nn => by rw [upd_ne (nD b o e)]; exact f1.fr b o e nn, f1.ow, fun b h => ?_, f1.kp⟩, wk.mono _ _ _ _ f2 ?_ (by rw [hd_z pD]; exact Ext.refl), upd_same, by simp; omega, by rw [hd_z pD]; exact f4.append (.cons (r8.ext f5) .nil), ?_⟩
            · by_cases e : b = D
              · subst e; rw [upd_same]; nofun
              · rw [upd_ne e]; exact f1.tr b h
            · exact hid_mono fun b o nn e => ⟨nn, by rw [upd_ne fun z => nn (.inr z)]; exact e⟩
            · have m8 : Mt (bnd (compL us G T E (ps.drop (i + 1))) (fun qs => ret (q8 :: qs)) (wipeS s8 us)) (fun r s' => r = rest ∧ s' = s2) (fun _ _ => False) := m8
              have m9 := Mt.bnd_ m8
              cases e6 : compL us G T E (ps.drop (i + 1)) (wipeS s8 us) with
              | stuck => rw [e6] at m9; exact m9.elim
              | exc c s => rw [e6] at m9; exact m9.elim
              | ok r s =>
                rw [e6] at m9
                obtain ⟨e7, e8⟩ := (m9 : q8 :: r = rest ∧ s = s2)
                exact ⟨r, by rw [e8], by rw [eq, ← e7]; simp⟩
  · rw [if_neg hz] at q
    exact q.elim
end

structure QTs (X : Cx) (W : WX) (ifs : List Expr) (T : PM Bool) : Prop where
  pts : PTs X ifs (lT (kx X) X.mg W T)
theorem pe_monoI {X : Cx} {e : Expr} {t t' : TE} (h : PE X e t) (m : ∀ pins s σ H Q, Inv X pins σ H s → t' σ H Q → t σ H Q) : PE X e t' := ⟨fun pins s σ H Q I q => h.run pins s σ H Q I (m pins s σ H Q I q)⟩
theorem ps_monoI {X : Cx} {st : Stmt} {t t' : TS} (h : PS X st t) (m : ∀ pins s D σ H, Inv X pins σ H s → t' D σ H → t D σ H) : PS X st t' := ⟨fun pins s σ H D I q => h.run pins s σ H D I (m pins s D σ H I q)⟩
section
variable {X : Cx} {W : WX} {pin : List Nat} {c : Expr} {ct : PM Bool}
theorem qts_nil : QTs X W [] (ret true) := ⟨⟨fun pins s σ H Q I ⟨Z, s1, R, h⟩ => pts_nil.run pins s σ H Q I (h _ (Go.refl R))⟩⟩
theorem qts_one (h : QT X W c ct) : QTs X W [c] ct := ⟨pts_one h.pt⟩
theorem qe_lc {elt tg iter : Expr} {ifs : List Expr} {scope : Scope} {own : List (Str × Nat)} {pos : Pos} {I : PM (List PV × List Nat)} {G : PV → PM Unit} {T : PM Bool} {E : PM Arg} (hc : X.calm = true) (hN : X.N.Nodup) (ok : BlkOk X.N X.env.scope scope own) (hi : QIB X W (own.map (·.2)) tg iter I)
    (hg : ∀ (s : Shared) (H : Hp) (C : Addr) (cl : List (Str × Addr)) (fp : List Addr), QG (X.blk s H scope (compEnvC scope cl C X.env) fp) (others X.N.length (own.map (·.2))) tg G)
    (ht : ∀ (s : Shared) (H : Hp) (C : Addr) (cl : List (Str × Addr)) (fp : List Addr), QTs (X.blk s H scope (compEnvC scope cl C X.env) fp) WF ifs T)
    (he : ∀ (s : Shared) (H : Hp) (C : Addr) (cl : List (Str × Addr)) (fp : List Addr), QE (X.blk s H scope (compEnvC scope cl C X.env) fp) WF elt E) (hs : ∀ x, foldedSetIterable iter X.env x = pure x := by intro _; rfl) :
    QE X W (.ListComp elt [⟨tg, iter, ifs, 0⟩] scope pos) (eComp (own.map (·.2)) I G T E) :=
  ⟨pe_monoI (pe_lc hc hN hi.pi ok (fun s H C cl fp => (hg s H C cl fp).pg) (fun s H C cl fp => (ht s H C cl fp).pts) (fun s H C cl fp => (he s H C cl fp).pe) hs) fun pins s σ H Q I h => lc_m I.len h⟩
/-- name = [..], the name a local -/
theorem qs_setLc {i : Nat} {y : Str} {py : Pos} {elt tg iter : Expr} {ifs : List Expr} {scope : Scope} {own : List (Str × Nat)} {pos spos : Pos} {I : PM (List PV × List Nat)} {G : PV → PM Unit} {T : PM Bool} {E : PM Arg} (hp : i ∉ pin) (hc : X.calm = true) (hN : X.N.Nodup) (hy : X.N[i]? = some y) (hyl : X.env.scope.names.lookup y = some .local)
    (hsw : swapsWith (.ListComp elt [⟨tg, iter, ifs, 0⟩] scope pos) (some (.Name y py)) spos.line X.env = pure true) (ok : BlkOk X.N X.env.scope scope own) (hi : QIB X W (own.map (·.2)) tg iter I)
    (hg : ∀ (s : Shared) (H : Hp) (C : Addr) (cl : List (Str × Addr)) (fp : List Addr), QG (X.blk s H scope (compEnvC scope cl C X.env) fp) (others X.N.length (own.map (·.2))) tg G)
    (ht : ∀ (s : Shared) (H : Hp) (C : Addr) (cl : List (Str × Addr)) (fp : List Addr), QTs (X.blk s H scope (compEnvC scope cl C X.env) fp) WF ifs T)
    (he : ∀ (s : Shared) (H : Hp) (C : Addr) (cl : List (Str × Addr)) (fp : List Addr), QE (X.blk s H scope (compEnvC scope cl C X.env) fp) WF elt E) (hs : ∀ x, foldedSetIterable iter X.env x = pure x := by intro _; rfl) :
    QS X W pin (.Assign [.Name y py] (.ListComp elt [⟨tg, iter, ifs, 0⟩] scope pos) spos) (sSet i (eComp (own.map (·.2)) I G T E)) :=
  ⟨ps_monoI (ps_setLc hc hN hy hyl hsw hi.pi ok (fun s H C cl fp => (hg s H C cl fp).pg) (fun s H C cl fp => (ht s H C cl fp).pts) (fun s H C cl fp => (he s H C cl fp).pe) hs) fun pins s D σ H In ⟨Z, s1, R, h⟩ => by
    refine lc_m In.len (lE_step R (MtS.ex (Mt.bnd_ h)) fun r s2 v H1 k p => ?_)
    obtain ⟨s3, k2, g⟩ := setA_post p hp k.bnd_
    exact k2 _ _ g⟩
end
end HF
end

section
set_option Elab.async false
set_option linter.all false
set_option maxRecDepth 100000
set_option maxHeartbeats 1000000
set_option autoImplicit false
/-! HF6: defs and their calls. -/
namespace HF
open PySem PySem.Spec PyProof.Rows L2

/-- what a def gives: a value (fr: new, not shared), behind it what its first parameter holds (where it may change that); an exception -/
inductive DR where
  | ok (p : PV) (fr : Bool) (io : Option PV)
  | exc (c : Str)
  | stuck
abbrev Den := List PV → DR
def st0 (n : Nat) (ps : List PV) : SE := ps.map (fun p => some (false, p)) ++ List.replicate (n - ps.length) none
def outR (r : Arg) (s : SE) (io : Option PV) : DR := match r with
  | .val p fr => .ok p fr io
  | .bor i => (match s[i]? with
    | some (some (true, p)) => .ok p true io
    | _ => .stuck)
/-- a body's worth -/
def denOf (n : Nat) (F : PM Fl) : Den := fun ps => match F (st0 n ps) with
  | .ok .next _ => .ok .non false none
  | .ok (.ret r) s => outR r s none
  | .exc c _ => .exc c
  | _ => .stuck
def ResAt (K : Frg) (Z : Addr → Prop) (H H' : Hp) (v : V) (p : PV) : Bool → Prop
  | false => Rep K (hid Z H') v p
  | true => ∃ a, v = .ref a ∧ H a = none ∧ Ob K H' (hid (fun b => Z b ∨ b = a) H') a p
/-- a def's promise -/
def spP (K : Frg) (mg : Str → Option Value) (n : Nat) (den : Den) : Sp := fun vs H Q E => ∃ (Z : Addr → Prop) (ps : List PV), ps.length = n ∧ (∀ a, Z a → H a ≠ none) ∧ Reps K (hid Z H) vs ps ∧
  match den ps with
  | .ok p fr _ => ∀ v H', Ext H H' → ResAt K Z H H' v p fr → Q v H'
  | .exc c => ∀ C H', mg c = some (.ref C) → Ext H H' → E (.ref C) none H'
  | .stuck => False
section
variable {K : Frg} {Z : Addr → Prop} {H H' : Hp} {vs : List V} {ps : List PV} {N : List Str} {n : Nat}
theorem st0_some {i : Nat} {f : Bool} {p : PV} (h : (st0 n ps)[i]? = some (some (f, p))) : f = false ∧ ps[i]? = some p := by
  unfold st0 at h
  by_cases hi : i < ps.length
  · rw [List.getElem?_append_left (by simpa using hi)] at h
    rw [List.getElem?_map, List.getElem?_eq_getElem hi] at h
    simp at h
    exact ⟨h.1, by rw [List.getElem?_eq_getElem hi, h.2]⟩
  · rw [List.getElem?_append_right (by simpa using Nat.le_of_not_lt hi)] at h
    have h2 := List.mem_of_getElem? h
    rw [List.mem_replicate] at h2
    cases h2.2
theorem start_some {i : Nat} {v : V} (h : vs[i]? = some v) : (L2.start N vs)[i]? = some (some v) := by
  unfold L2.start
  have hi := (List.getElem?_eq_some_iff.mp h).1
  rw [List.getElem?_append_left (by simpa using hi), List.getElem?_map, h]
  rfl
theorem noOwn {σ : L2.St} {a : Addr} : ¬ Owns σ (st0 n ps) a := fun ⟨i, p, e, _⟩ => by
  have := (st0_some e).1
  cases this
theorem hd_start {σ : L2.St} : Hd Z σ (st0 n ps) H = hid Z H := by
  have e : (fun a => Z a ∨ Owns σ (st0 n ps) a) = Z := by
    funext a
    exact propext ⟨fun h => h.elim id fun z => absurd z noOwn, .inl⟩
  show hid _ H = _
  rw [e]
theorem rl_start (hn : N.length = n) (hZ : ∀ a, Z a → H a ≠ none) (r : Reps K (hid Z H) vs ps) : Rl K Z H (L2.start N vs) (st0 n ps) := by
  refine ⟨?_, hZ, fun i p e => ?_, fun i p e => ?_, fun i j p q a e => ?_⟩
  · unfold st0 L2.start
    simp [r.length, hn]
  · obtain ⟨v, h1, h2⟩ := r.get (st0_some e).2
    exact ⟨v, start_some h1, by rw [hd_start]; exact h2⟩
  · have := (st0_some e).1; cases this
  · have := (st0_some e).1; cases this
end
abbrev WE0 (E : XK) : WX := fun cls d _ H => E cls d H
/-- a def by its body -/
theorem fn_pure {P : Program} {w : World} {K : PySem.W.Frag} {mg : Str → Option Value} {base : Heap} {x qual : Str} {params : Arguments} {body : List Stmt} {scope : Scope} {kws : List (Str × V)} {f : Addr} {fd : FuncData} {N ps : List Str} {k : Nat} {F : PM Fl}
    (Fd : FunD K x qual params body scope [] kws f fd) (S : FnScope N ps scope)
    (hbody : ∀ (cdv : Value) (A : Around) (outer : List Env) (s : Shared) (H : Hp) (E : XK), Room k (A.deeper (envOfC qual scope s.heap.objs.size f cdv)) →
      QSs (cxOf (L2.CX P w) P w K mg base N qual scope f cdv A outer s H E) (WE0 E) [] body F) : FnOk P w K mg base (L2.CX P w) (k + 1) f fd ps (spP ⟨K, P, w⟩ mg ps.length (denOf N.length F)) := by
  refine Fd.ok S (fun vs H Q E h => ?_) (fun cdv A outer s H vs Q E hr h => ⟨lS ⟨K, P, w⟩ mg (WE0 E) [] F, (hbody cdv A outer s H E hr).pss, ?_⟩)
  · obtain ⟨Z, qs, h1, _, h2, _⟩ := h
    rw [h2.length, h1]
  · obtain ⟨Z, qs, h1, h0, h2, h3⟩ := h
    have R := rl_start (N := N) rfl h0 h2
    refine ⟨Z, st0 N.length qs, R, ?_⟩
    unfold denOf at h3
    have nO : ∀ a, ¬ Owns (L2.start N vs) (st0 N.length qs) a := fun a => noOwn
    cases e : F (st0 N.length qs) with
    | stuck => simp only [e] at h3
    | exc c s1 =>
      simp only [e] at h3
      exact fun C H' σ' hc g => h3 C H' hc fun a o q => g.fr a o q (nO a)
    | ok fl s1 =>
      cases fl with
      | brk => simp only [e] at h3
      | cont => simp only [e] at h3
      | next =>
        simp only [e] at h3
        exact fun σ' H' g => h3 .non H' (fun a o q => g.fr a o q (nO a)) .non
      | ret r =>
        simp only [e] at h3
        intro v σ' H' p
        match r, h3, p with
        | .val q false, h3, p => exact h3 v H' (fun a o z => p.1.fr a o z (nO a)) (p.2.ext (hid_mono fun a o n z => ⟨fun y => n (.inl y), z⟩))
        | .val q true, h3, ⟨a, e, hn, g, ob, _⟩ => exact h3 v H' (fun a o z => g.fr a o z (nO a)) ⟨a, e, hn, ob.ext rfl (hid_mono fun a o n z => ⟨fun y => n (.inl y), z⟩)⟩
        | .bor i, h3, ⟨g, e1, q, e2⟩ =>
          simp only [outR, e2] at h3
          obtain ⟨a, e3, nz, ob⟩ := g.rl.ow i q e2
          rw [e1] at e3; cases e3
          refine h3 _ H' (fun a o z => g.fr a o z (nO a)) ⟨a, rfl, (g.ow a ⟨i, q, e2, e1⟩).resolve_left (nO a), ob.ext rfl (hid_mono fun b o n z => ⟨fun y => ?_, z⟩)⟩
          rcases y with y | y
          · exact n (.inl y)
          · exact n (.inr (y ▸ ⟨i, q, e2, e1⟩))

/-! ### values without lists and dicts -/
mutual
def imm : PV → Bool
  | .lst _ => false
  | .dct _ _ => false
  | .scr _ => false
  | .tup xs => imms xs
  | _ => true
def imms : List PV → Bool
  | [] => true
  | p :: ps => imm p && imms ps
end
section
variable {K : Frg} {B B' : Addr → Prop} {H : Hp}
theorem rd_imm (h : ∀ a o, ¬ B a → H a = some o → B' a → LD o) {a : Addr} {u : HO} (nu : ¬ LD u) (r : Rd (hid B H) a u) : Rd (hid B' H) a u := by
  rcases r with r | ⟨ob, r⟩
  · obtain ⟨n, e⟩ := hid_some.mp r
    exact .inl (hid_some.mpr ⟨fun z => nu (h a _ n e z), e⟩)
  · obtain ⟨n, e⟩ := hid_some.mp r
    exact .inr ⟨ob, hid_some.mpr ⟨fun z => h a _ n e z, e⟩⟩
mutual
theorem Rep.imm (h : ∀ a o, ¬ B a → H a = some o → B' a → LD o) : ∀ {v : V} {p : PV}, Rep K (hid B H) v p → HF.imm p = true → Rep K (hid B' H) v p
  | _, _, .non, _ => .non
  | _, _, .bl b, _ => .bl b
  | _, _, .int i, _ => .int i
  | _, _, .str x, _ => .str x
  | _, _, .tup q r, e => .tup (q.elim (fun q => .inl (rd_imm h (fun z => z) q)) .inr) (Reps.imm h r (by simpa [HF.imm] using e))
  | _, _, .lst q r, e => by simp [HF.imm] at e
  | _, _, .scr q, e => by simp [HF.imm] at e
  | _, _, .rng q, e => .rng (by
    obtain ⟨n, q⟩ := hid_some.mp q
    exact hid_some.mpr ⟨fun z => h _ _ n q z, q⟩)
  | _, _, .dct q r, e => by simp [HF.imm] at e
theorem Reps.imm (h : ∀ a o, ¬ B a → H a = some o → B' a → LD o) : ∀ {vs : List V} {ps : List PV}, Reps K (hid B H) vs ps → imms ps = true → Reps K (hid B' H) vs ps
  | _, _, .nil, _ => .nil
  | _, _, .cons a r, e => .cons (Rep.imm h a (by simp [imms] at e; exact e.1)) (Reps.imm h r (by simp [imms] at e; exact e.2))
end
theorem RepD.imm (h : ∀ a o, ¬ B a → H a = some o → B' a → LD o) : ∀ {l : List (PV × V × V)} {kvs : List (PV × PV)}, RepD K (hid B H) l kvs → kvs.all (fun p => HF.imm p.1 && HF.imm p.2) = true → RepD K (hid B' H) l kvs
  | _, _, .nil, _ => .nil
  | _, _, .cons b a r, e => by
    simp only [List.all_cons, Bool.and_eq_true] at e
    exact .cons (Rep.imm h b e.1.1) (Rep.imm h a e.1.2) (RepD.imm h r (by simpa using e.2))
end
theorem Reps.conv {K : Frg} {H1 H2 : Hp} {C : PV → Prop} (f : ∀ (w : V) (q : PV), C q → Rep K H1 w q → Rep K H2 w q) : ∀ {ws : List V} {qs : List PV}, Reps K H1 ws qs → (∀ q ∈ qs, C q) → Reps K H2 ws qs
  | _, _, .nil, _ => .nil
  | _, _, .cons a r, h => .cons (f _ _ (h _ List.mem_cons_self) a) (Reps.conv f r fun q hq => h q (List.mem_cons_of_mem _ hq))
theorem RepD.conv {K : Frg} {H1 H2 : Hp} {C : PV → Prop} (f : ∀ (w : V) (q : PV), C q → Rep K H1 w q → Rep K H2 w q) : ∀ {l : List (PV × V × V)} {kvs : List (PV × PV)}, RepD K H1 l kvs → (∀ q ∈ kvs, C q.1 ∧ C q.2) → RepD K H2 l kvs
  | _, _, .nil, _ => .nil
  | _, _, .cons b a r, h => .cons (f _ _ (h _ List.mem_cons_self).1 b) (f _ _ (h _ List.mem_cons_self).2 a) (RepD.conv f r fun q hq => h q (List.mem_cons_of_mem _ hq))
theorem imms_mem : ∀ {ps : List PV}, imms ps = true → ∀ q ∈ ps, imm q = true
  | [], _, q, h => nomatch h
  | p :: ps, e, q, h => by
    simp only [imms, Bool.and_eq_true] at e
    rcases List.mem_cons.mp h with h | h
    · rw [h]; exact e.1
    · exact imms_mem e.2 q h
/-- what comes bears no list, no dict (but itself, where it is new) -/
def immR : PV → Bool → Bool
  | p, false => imm p
  | .lst ps, true => imms ps
  | .dct _ kvs, true => kvs.all fun p => imm p.1 && imm p.2
  | _, true => false
def noBor : List Arg → Bool
  | [] => true
  | .val _ _ :: r => noBor r
  | .bor _ :: _ => false

/-! ### a call -/
def callD (den : Den) (as : List Arg) : PM Arg := fun s => match rvs s as with
  | none => .stuck
  | some ps => (match den ps with
    | .ok p fr _ => if noBor as || immR p fr then .ok (.val p fr) s else (match relAll as s with
      | .ok _ s' => .ok (.val p false) s'
      | _ => .stuck)
    | .exc c => .exc c s
    | .stuck => .stuck)
def eCall (den : Den) (fs : PM (List Arg)) : PM Arg := bnd fs (callD den)
section
variable {K : Frg} {mg : Str → Option Value} {W : WX} {Z : Addr → Prop} {H H' H1 : Hp} {σ : L2.St} {s s1 s' : SE} {v w : V} {vs : List V} {Q : VK} {as : List Arg} {ps : List PV}
/-- what a callee may not see: what is owned and not handed over -/
def Zc (Z : Addr → Prop) (σ : L2.St) (s : SE) (as : List Arg) (a : Addr) : Prop := Z a ∨ ∃ (j : Nat) (p : PV), s[j]? = some (some (true, p)) ∧ σ[j]? = some (some (V.ref a)) ∧ Arg.bor j ∉ as
theorem zc_ext (as : List Arg) : Ext (Hd Z σ s H) (hid (Zc Z σ s as) H) := hid_mono fun b o n q => ⟨fun z => n (z.imp id fun ⟨j, p, e1, e2, _⟩ => ⟨j, p, e1, e2⟩), q⟩
theorem ArgAt.seen {r : Arg} {p : PV} (R : Rl K Z H σ s) (h : ArgAt K Z H σ s v r) (e : rv s r = some p) (hv : r ∈ as) : Rep K (hid (Zc Z σ s as) H) v p := by
  match r, h, hv with
  | .val q fr, h, _ => cases e; exact Rep.ext (zc_ext as) h
  | .bor i, ⟨e1, f, q, e2⟩, hv =>
    simp only [rv, e2, Option.some.injEq] at e
    subst e
    cases f with
    | false =>
      obtain ⟨u, e3, r⟩ := R.sh i _ e2
      rw [e1] at e3; cases e3
      exact r.ext (zc_ext as)
    | true =>
      obtain ⟨a, e3, nz, ob⟩ := R.ow i _ e2
      rw [e1] at e3; cases e3
      refine ob.rep ?_ (zc_ext as)
      show hid _ H a = H a
      unfold hid
      refine if_neg fun z => z.elim nz fun ⟨j, q, e4, e5, nm⟩ => nm ?_
      rw [R.dj j i _ _ a e4 e2 e5 e1]
      exact hv
theorem ArgsAt.seen {bs : List Arg} (R : Rl K Z H σ s) (h : ArgsAt K Z H σ s vs bs) : ∀ {ps : List PV}, rvs s bs = some ps → (∀ r ∈ bs, r ∈ as) → Reps K (hid (Zc Z σ s as) H) vs ps := by
  induction h with
  | nil => intro ps e _; cases e; exact .nil
  | cons a _ ih =>
    rename_i v vs r rs _
    intro ps e hm
    unfold rvs at e
    cases h1 : rv s r with
    | none => rw [h1] at e; simp at e
    | some p =>
      cases h2 : rvs s rs with
      | none => rw [h1, h2] at e; simp at e
      | some qs =>
        rw [h1, h2] at e
        simp at e
        subst e
        exact .cons (a.seen R h1 (hm r List.mem_cons_self)) (ih h2 fun r hr => hm r (List.mem_cons_of_mem _ hr))
theorem noBor_out : ∀ {as : List Arg}, noBor as = true → ∀ j, Arg.bor j ∉ as
  | [], _, _ => by simp
  | .val p f :: r, h, j => by
    intro z
    rcases List.mem_cons.mp z with z | z
    · cases z
    · exact noBor_out (as := r) h j z
  | .bor i :: r, h, j => by cases h
theorem rel1_keep {r : Arg} {p : PV} (h : rel1 r s = .ok p s') : (∀ (j : Nat) (q : PV), s'[j]? = some (some (true, q)) → s[j]? = some (some (true, q)) ∧ r ≠ .bor j) := by
  match r, h with
  | .val q f, h => cases h; exact fun j q e => ⟨e, nofun⟩
  | .bor i, h =>
    unfold rel1 at h
    dsimp only at h
    split at h
    · rename_i q e
      cases h
      intro j q' e'
      by_cases hj : i = j
      · subst hj
        rw [List.getElem?_set_self (List.getElem?_eq_some_iff.mp e).1] at e'
        cases e'
      · rw [List.getElem?_set_ne hj] at e'
        exact ⟨e', fun z => hj (by cases z; rfl)⟩
    · rename_i q e
      cases h
      intro j q' e'
      refine ⟨e', fun z => ?_⟩
      cases z
      rw [e] at e'
      cases e'
    · cases h
theorem relAll_keep : ∀ {as : List Arg} {s s' : SE} {ps : List PV}, relAll as s = .ok ps s' → ∀ (j : Nat) (q : PV), s'[j]? = some (some (true, q)) → s[j]? = some (some (true, q)) ∧ Arg.bor j ∉ as
  | [], s, s', ps, h, j, q, e => by cases h; exact ⟨e, by simp⟩
  | a :: as, s, s', ps, h, j, q, e => by
    unfold relAll bnd at h
    cases h1 : rel1 a s with
    | stuck => rw [h1] at h; cases h
    | exc c s1 => rw [h1] at h; cases h
    | ok p s1 =>
      rw [h1] at h
      dsimp only [bnd] at h
      cases h2 : relAll as s1 with
      | stuck => rw [h2] at h; cases h
      | exc c s1 => rw [h2] at h; cases h
      | ok ps2 s2 =>
        rw [h2] at h
        cases h
        obtain ⟨e1, n1⟩ := relAll_keep h2 j q e
        obtain ⟨e2, n2⟩ := rel1_keep h1 j q e1
        exact ⟨e2, fun z => (List.mem_cons.mp z).elim (fun z => n2 z.symm) n1⟩
theorem call_m {n : Nat} {den : Den} {E : L2.St → XK} (hE : ∀ σ cls d H, E σ cls d H = W cls d σ H) {fs : PM (List Arg)} (hl : ∀ s rs s', fs s = .ok rs s' → rs.length = n)
    (h : lE K mg W (eCall den fs) σ H Q) : tCallS (spP K mg n den) E (lA K mg W fs) σ H Q := by
  obtain ⟨Z, s, R, h⟩ := lE_iff.mp h
  have hb := Mt.bnd_ h
  refine lA_iff.mpr ⟨Z, s, R, ?_⟩
  cases e0 : fs s with
  | stuck => rw [e0] at hb; exact hb
  | exc c s1 => rw [e0] at hb; exact hb
  | ok as s1 =>
    rw [e0] at hb
    intro vs H1 g a1
    have k : Mt (callD den as s1) (fun r s' => ∀ v H', PostE K Z H σ s r s' v H' → Q v H') (fun c s' => XOut K mg W Z H σ s c s') := hb
    unfold callD at k
    cases e1 : rvs s1 as with
    | none => simp only [e1] at k; exact k.elim
    | some ps =>
      simp only [e1] at k
      have lps : ps.length = n := by
        rw [← hl s as s1 e0]
        clear k hb h e0 a1
        induction as generalizing ps with
        | nil => cases e1; rfl
        | cons a as ih =>
          unfold rvs at e1
          cases h1 : rv s1 a with
          | none => rw [h1] at e1; simp at e1
          | some p =>
            cases h2 : rvs s1 as with
            | none => rw [h1, h2] at e1; simp at e1
            | some qs =>
              rw [h1, h2] at e1
              simp at e1
              subst e1
              simp [ih qs h2]
      have R1 := g.rl
      refine ⟨Zc Z σ s1 as, ps, lps, fun a z => z.elim (R1.zin a) fun ⟨j, p, x, y, _⟩ => R1.ownIn ⟨j, p, x, y⟩, a1.seen R1 e1 fun _ h => h, ?_⟩
      cases e2 : den ps with
      | stuck => simp only [e2] at k; exact k.elim
      | exc c =>
        simp only [e2] at k
        intro C H' hc ex
        rw [hE]
        exact k C H' hc (g.trans (Go.grown R1 ex))
      | ok p fr io =>
        simp only [e2] at k
        intro v H' ex res
        have g2 := Go.grown R1 ex
        by_cases c : (noBor as || immR p fr) = true
        · rw [if_pos c] at k
          refine k v H' (PostE.after g ?_)
          rw [Bool.or_eq_true] at c
          -- what the result leans on is not owned
          have key : ∀ (B : Addr → Prop) (w : V) (q : PV), (noBor as = true ∨ imm q = true) → Rep K (hid (fun a => Zc Z σ s1 as a ∨ B a) H') w q → Rep K (hid (fun a => (Z a ∨ Owns σ s1 a) ∨ B a) H') w q := fun B w q c r => by
            rcases c with c | c
            · refine r.ext (hid_mono fun b o n e => ⟨fun z => n (z.imp (fun z => z.imp id fun ⟨j, p, x, y⟩ => ⟨j, p, x, y, noBor_out c j⟩) id), e⟩)
            · refine Rep.imm (fun a o n e z => ?_) r c
              rcases z with (z | z) | z
              · exact absurd (.inl (.inl z)) n
              · obtain ⟨j, p, x, y⟩ := z
                obtain ⟨a', y', _, ob⟩ := R1.ow j p x
                rw [y] at y'; cases y'
                obtain ⟨o', h1, h2⟩ := ob.at_
                have := ex a o' h1
                rw [e] at this; cases this
                exact h2
              · exact absurd (.inr z) n
          have key0 : ∀ (w : V) (q : PV), (noBor as = true ∨ imm q = true) → Rep K (hid (Zc Z σ s1 as) H') w q → Rep K (Hd Z σ s1 H') w q := fun w q c r => by
            have r1 := key (fun _ => False) w q c (r.ext (hid_mono fun b o n e => ⟨fun z => z.elim n id, e⟩))
            exact r1.ext (hid_mono fun b o n e => ⟨fun z => n (.inl z), e⟩)
          cases fr with
          | false => exact ⟨g2, key0 v p c res⟩
          | true =>
            obtain ⟨a, rfl, hn, ob⟩ := res
            obtain ⟨o, ho, _⟩ := ob.at_
            have rh := R1.hold hn ex (by rw [ho]; nofun)
            refine ⟨a, rfl, hn, ⟨rh, g2.fr, g2.ow, g2.tr, g2.kp⟩, ?_, fun z => R1.ownIn z hn, fun z => R1.zin a z hn⟩
            have sw : ∀ (w : V) (q : PV), (noBor as = true ∨ imm q = true) → Rep K (hid (fun b => Zc Z σ s1 as b ∨ b = a) H') w q → Rep K (Hd (fun b => Z b ∨ b = a) σ s1 H') w q := fun w q c r =>
              (key (· = a) w q c r).ext (hid_mono fun b o n e => ⟨fun z => n (by
                rcases z with (z | z) | z
                · exact .inl (.inl z)
                · exact .inr z
                · exact .inl (.inr z)), e⟩)
            cases p with
            | lst xs =>
              obtain ⟨us, hu, ru⟩ := ob
              exact ⟨us, hu, Reps.conv (C := fun q => noBor as = true ∨ imm q = true) sw ru fun q hq => c.imp id fun c => imms_mem c q hq⟩
            | dct kd kvs =>
              obtain ⟨l, hu, ru⟩ := ob
              exact ⟨l, hu, RepD.conv (C := fun q => noBor as = true ∨ imm q = true) sw ru fun q hq => by
                rcases c with c | c
                · exact ⟨.inl c, .inl c⟩
                · have z := List.all_eq_true.mp c q hq
                  rw [Bool.and_eq_true] at z
                  exact ⟨.inr z.1, .inr z.2⟩⟩
            | _ => exact ob.elim
        · rw [if_neg c] at k
          cases e3 : relAll as s1 with
          | stuck => simp only [e3] at k; exact k.elim
          | exc c s2 => simp only [e3] at k; exact k.elim
          | ok qs s2 =>
            simp only [e3] at k
            refine k v H' (PostE.after g ?_)
            have m : Mt (relAll as s1) (fun _ s' => s' = s2) (fun _ _ => False) := by rw [e3]; rfl
            obtain ⟨_, s3, rfl, g3, _⟩ := relAll_post R1 a1 m
            have g4 := g3.trans (Go.grown g3.rl ex)
            refine ⟨g4, ?_⟩
            have ext : Ext (hid (Zc Z σ s1 as) H') (Hd Z σ s3 H') := hid_mono fun b o n e => ⟨fun z => n (z.imp id fun ⟨j, p, x, y⟩ => by
              obtain ⟨x1, x2⟩ := relAll_keep e3 j p x
              exact ⟨j, p, x1, y, x2⟩), e⟩
            cases fr with
            | false => exact Rep.ext ext res
            | true =>
              obtain ⟨a, rfl, hn, ob⟩ := res
              refine ob.rep ?_ (hid_mono fun b o n e => ⟨fun z => n (.inl (z.imp id fun ⟨j, p, x, y⟩ => by
                obtain ⟨x1, x2⟩ := relAll_keep e3 j p x
                exact ⟨j, p, x1, y, x2⟩)), e⟩)
              show hid _ H' a = H' a
              unfold hid
              refine if_neg fun z => ?_
              rcases z with z | z
              · exact R1.zin a z hn
              · exact g3.rl.ownIn z hn
end
end HF
end

section
set_option Elab.async false
set_option linter.all false
set_option maxRecDepth 100000
set_option maxHeartbeats 1000000
set_option autoImplicit false
/-! HF7: calls of defs, raise, several stores at once, changes of owned things. -/
namespace HF
open PySem PySem.Spec PyProof.Rows L2

/-! ### f(..), raise -/
section
variable {X : Cx} {W : WX} {pin : List Nat} {e : Expr} {es : List Expr} {fs : PM (List Arg)} {f : PM Arg} {p pos p2 pos2 : Pos} {x : Str} {den : Den}
theorem qe_fn {a C : Addr} {fd : FuncData} {ps : List Str} {k n : Nat} (F : FnOk X.prog X.w X.K X.mg X.base (L2.CX X.prog X.w) k a fd ps (spP (kx X) X.mg n den)) (hr : Room k X.A) (hg : Gl X x) (hm : X.mg x = some (.ref a)) (hk : PySem.W.keepIn X.K (.ref a) = true)
    (hb : Binds X.K fd ps []) (tk : Takes X W) (ha : QA X W (e :: es) fs) (hn : (e :: es).length = n) (hdb : (x == ("__debug__" : Str)) = false := by decide) (he : starEach (e :: es) X.env = (false, eval e X.env) :: starEach es X.env := by rfl)
    (hpl : (backTo pos (starEach es X.env)).any (·.1) = false := by rfl) : QE X W (.Call (.Name x p) (e :: es) [] pos) (eCall den fs) :=
  qe_of (pe_callS (E := WE W) F hr hg hm hk hb (fun σ => passAt tk σ) ha.pa hdb he hpl) fun σ H Q h => call_m (fun _ _ _ _ => rfl) (fun s rs s' q => (ha.len s rs s' q).trans hn) h
def sRaise (x : Str) : PM Fl := fun s => .exc x s
theorem qs_raise {m : Str} {C : Addr} {bmB : List Value} {B newId initId : String} {j : Nat} (hc : X.calm = true) (tk : Takes X W) (F : ExcBaseFacts B newId initId bmB) (q : PySem.W.excIn X.K C bmB newId = true) (gC : X.mg x = some (.ref C)) (kC : PySem.W.keepIn X.K (.ref C) = true)
    (r : Raises X (.ref C)) (hg : Gl X x) (hdb : (x == ("__debug__" : Str)) = false := by decide) : QS X W pin (.Raise (some (.Call (.Name x p) [.Constant (.str m) j p2] [] pos)) none pos2) (sRaise x) :=
  ⟨ps_mono (ps_raise hc tk (pmk_own F q gC kC r hg hdb)) fun D σ H ⟨Z, s, R, h⟩ => h C H σ gC (GoS.refl R)⟩
end

/-! ### values that wait, new ones among them -/
section
variable {K : Frg} {mg : Str → Option Value} {W : WX} {pin : List Nat} {Z Z1 Z2 Z' : Addr → Prop} {H H' H1 H2 : Hp} {σ σ' σ1 σ2 : L2.St} {s s1 s2 s' : SE} {v w u : V} {vs : List V} {Q : VK} {D : Ends} {p q : PV} {fr fr2 : Bool} {i j l : Nat}
def Pn (K : Frg) (Z Z1 : Addr → Prop) (H : Hp) (σ : L2.St) (s : SE) (v : V) (p : PV) : Bool → Prop
  | false => Z1 = Z ∧ Rep K (Hd Z1 σ s H) v p
  | true => ∃ a, v = .ref a ∧ Z1 = (fun b => Z b ∨ b = a) ∧ Ob K H (Hd Z1 σ s H) a p ∧ ¬ Owns σ s a ∧ ¬ Z a
/-- it stays -/
theorem Pn.keep (h : Pn K Z Z1 H σ s v p fr) (R : Rl K Z1 H σ s) (fk : ∀ a o, H a = some o → ¬ Owns σ s a → H' a = some o) (ow : ∀ a, Owns σ' s' a → Owns σ s a ∨ H a = none) : Pn K Z Z1 H' σ' s' v p fr := by
  have ext : Ext (Hd Z1 σ s H) (Hd Z1 σ' s' H') := hid_mono fun b o n e => ⟨fun z => z.elim (fun z => n (.inl z)) fun z => (ow b z).elim (fun z => n (.inr z)) fun z => (by rw [e] at z; cases z), fk b o e fun z => n (.inr z)⟩
  cases fr with
  | false => exact ⟨h.1, h.2.ext ext⟩
  | true =>
    obtain ⟨a, e, ez, ob, no, nz⟩ := h
    obtain ⟨o, ho, _⟩ := ob.at_
    refine ⟨a, e, ez, ob.ext (by rw [ho]; exact fk a o ho no) ext, fun z => ?_, nz⟩
    rcases ow a z with z | z
    · exact no z
    · rw [ho] at z; cases z
/-- a piece's value as one that waits -/
def norm : Arg → PM Arg
  | .val p fr => ret (.val p fr)
  | .bor i => bnd (rel1 (.bor i)) fun p => ret (.val p false)
theorem norm_post {r : Arg} {ok : Arg → SE → Prop} {ex : Str → SE → Prop} (h : PostE K Z H σ s r s1 v H1) (m : Mt (norm r s1) ok ex) : ∃ p fr s2 Z1, ok (.val p fr) s2 ∧ Go K Z Z1 H σ s s2 H1 ∧ Pn K Z Z1 H1 σ s2 v p fr ∧ (∀ a, Z a → Z1 a) ∧ (∀ a, Z1 a → ¬ Z a → H a = none) := by
  match r, h, m with
  | .val p false, h, m => exact ⟨p, false, s1, Z, m, h.1, ⟨rfl, h.2⟩, fun _ z => z, fun _ z n => absurd z n⟩
  | .val p true, ⟨a, e, hn, g, ob, no, nz⟩, m => exact ⟨p, true, s1, _, m, g, ⟨a, e, rfl, ob, no, nz⟩, fun _ z => .inl z, fun b z n => (z.elim (fun z => absurd z n) fun z => by rw [z]; exact hn)⟩
  | .bor i, h, m =>
    obtain ⟨q, s2, k, g, r⟩ := rel1_step (mg := fun _ => none) h (Mt.bnd_ m)
    exact ⟨q, false, s2, Z, k, g, ⟨rfl, r⟩, fun _ z => z, fun _ z n => absurd z n⟩
/-- a value that waits goes into a slot -/
theorem Pn.store (R : Rl K Z1 H σ s) (h : Pn K Z Z1 H σ s v p fr) (hp : i ∉ pin) (hi : i < s.length) :
    Rl K Z H (σ.set i (some v)) (s.set i (some (fr, p))) ∧ (∀ b, Owns (σ.set i (some v)) (s.set i (some (fr, p))) b → Owns σ s b ∨ (Z1 b ∧ ¬ Z b)) ∧ (∀ j ∈ pin, (σ.set i (some v))[j]? = σ[j]?) ∧ (σ.set i (some v)).length = σ.length := by
  cases fr with
  | false =>
    obtain ⟨rfl, r⟩ := h
    have g := store_sh (pin := pin) R r hp hi
    exact ⟨g.rl, fun b z => .inl (store_ow_sub R.len z), g.pn, g.ln⟩
  | true =>
    obtain ⟨a, rfl, rfl, ob, no, nz⟩ := h
    obtain ⟨r, ow, pn⟩ := store_ow (pin := pin) R ob no nz hp hi
    exact ⟨r, fun b z => (ow b z).imp id fun e => by subst e; exact ⟨.inr rfl, nz⟩, pn, List.length_set⟩
end
def setW (i : Nat) : Arg → PM Unit
  | .val p fr => setV i p fr
  | .bor _ => stk
def sPar (i j : Nat) (f g : PM Arg) : PM Fl := bnd f fun a => bnd (norm a) fun a => bnd g fun b => bnd (norm b) fun b => bnd (setW j b) fun _ => bnd (setW i a) fun _ => ret .next
def sPar3 (i j l : Nat) (f g h : PM Arg) : PM Fl := bnd f fun a => bnd (norm a) fun a => bnd g fun b => bnd (norm b) fun b => bnd h fun c => bnd (norm c) fun c => bnd (setW l c) fun _ => bnd (setW j b) fun _ => bnd (setW i a) fun _ => ret .next

section
variable {K : Frg} {mg : Str → Option Value} {W : WX} {pin : List Nat} {Z Z1 Z2 Z3 Z' : Addr → Prop} {H H' H1 H2 H3 : Hp} {σ σ' σ1 σ2 : L2.St} {s s0 s1 s2 s3 s' : SE} {v w u : V} {vs : List V} {Q : VK} {D : Ends} {p q : PV} {fr fr2 : Bool} {i j l : Nat}
theorem Go.thru (a : Go K Z Z1 H σ s s1 H1) (b : Go K Z1 Z2 H1 σ s1 s2 H2) : Go K Z Z2 H σ s s2 H2 :=
  ⟨b.rl, fun c o e n => b.fr c o (a.fr c o e n) fun z => n (a.ow c z), fun c z => a.ow c (b.ow c z), fun c h => b.tr c (a.tr c h), fun i q e => let ⟨_, e1⟩ := a.kp i q e; b.kp i _ e1⟩
theorem setW_in {r : Arg} {ok : Unit → SE → Prop} {ex : Str → SE → Prop} {p : PV} {fr : Bool} (e : r = .val p fr) (m : Mt (setW i r s) ok ex) : i < s.length ∧ ok () (s.set i (some (fr, p))) := by
  subst e
  simp only [setW, setV] at m
  split at m
  · rename_i hi; exact ⟨hi, m⟩
  · exact m.elim
/-- a chain of values that wait: what they are worth at the end -/
structure Ch (K : Frg) (pin : List Nat) (Z Z' : Addr → Prop) (H : Hp) (σ : L2.St) (s : SE) (H' : Hp) (σ' : L2.St) (s' : SE) : Prop where
  rl : Rl K Z' H' σ' s'
  fr : ∀ a o, H a = some o → ¬ Owns σ s a → H' a = some o
  ow : ∀ a, Owns σ' s' a → Owns σ s a ∨ H a = none
  tr : ∀ a, H a ≠ none → H' a ≠ none
  pn : ∀ i ∈ pin, σ'[i]? = σ[i]?
  ln : σ'.length = σ.length
  kp : ∀ (i : Nat) (q : Bool × PV), s[i]? = some (some q) → ∃ q', s'[i]? = some (some q')
theorem Ch.of (g : Go K Z Z1 H σ s s1 H1) : Ch K pin Z Z1 H σ s H1 σ s1 := ⟨g.rl, g.fr, fun a o => .inl (g.ow a o), g.tr, fun _ _ => rfl, rfl, g.kp⟩
theorem Ch.gos (c : Ch K pin Z Z H σ s H' σ' s') : GoS K pin Z Z H σ s H' σ' s' := ⟨c.rl, c.fr, c.ow, c.tr, c.pn, c.ln, c.kp⟩
theorem Ch.pre (g : Go K Z Z1 H σ s s1 H1) (c : Ch K pin Z1 Z2 H1 σ s1 H2 σ2 s2) : Ch K pin Z Z2 H σ s H2 σ2 s2 where
  rl := c.rl
  fr := fun a o e n => c.fr a o (g.fr a o e n) fun z => n (g.ow a z)
  ow := fun a z => (c.ow a z).imp (g.ow a) fun y => by
    cases e : H a with
    | none => rfl
    | some o => exact absurd y (g.tr a (by rw [e]; nofun))
  tr := fun a h => c.tr a (g.tr a h)
  pn := c.pn
  ln := c.ln
  kp := fun i q e => let ⟨_, e1⟩ := g.kp i q e; c.kp i _ e1
/-- the value that waited at (H1, s1) is stored behind all others -/
theorem Ch.store (hp : i ∉ pin) (hi : i < s2.length) (R1 : Rl K Z1 H1 σ s1) (hz : ∀ a, Z1 a → ¬ Z a → H1 a ≠ none → H a = none) (pn : Pn K Z Z1 H1 σ s1 v p fr) (hzn : ∀ a, Z1 a → ¬ Z a → H a = none) (g : Go K Z Z1 H σ s s1 H1)
    (c : Ch K pin Z1 Z1 H1 σ s1 H2 σ2 s2) : Ch K pin Z Z H σ s H2 (σ2.set i (some v)) (s2.set i (some (fr, p))) := by
  have p2 := pn.keep R1 c.fr c.ow
  obtain ⟨r, ow, pnn, ln⟩ := p2.store (pin := pin) c.rl hp hi
  have cc := Ch.pre g c
  refine ⟨r, cc.fr, fun a z => ?_, cc.tr, fun j hj => (pnn j hj).trans (cc.pn j hj), ln.trans cc.ln, fun j q e => let ⟨_, e1⟩ := cc.kp j q e; set_kp j _ e1⟩
  rcases ow a z with z | ⟨z1, z2⟩
  · exact cc.ow a z
  · exact .inr (hzn a z1 z2)
theorem par_m (hp : i ∉ pin) (hq : j ∉ pin) (hij : i ≠ j) {f g : PM Arg} (R : Rl K Z H σ s) (h : Mt (sPar i j f g s) (lF K pin Z H σ s D) (XOutS K mg W pin Z H σ s)) :
    lE K mg W f σ H fun x H1 => lE K mg W g σ H1 fun y H2 => ∀ H3, Ext H2 H3 → D.nx ((σ.set i (some x)).set j (some y)) H3 := by
  refine lE_step R (MtS.ex (Mt.bnd_ h)) fun r s1 v H1 k p1 => ?_
  obtain ⟨p, fr, s2, Z1, k, g1, n1, z1, zn1⟩ := norm_post p1 (Mt.bnd_ k)
  have k' : Mt (bnd g _ s2) (lF K pin Z H σ s D) (XOutS K mg W pin Z H σ s) := k
  have kb := Mt.bnd_ k'
  refine lE_iff.mpr ⟨Z1, s2, g1.rl, ?_⟩
  cases e : g s2 with
  | stuck => rw [e] at kb; exact kb
  | exc c s3 =>
    rw [e] at kb
    exact fun C H' hc gg => kb C H' σ hc ((g1.thru gg).weak z1).st
  | ok r2 s3 =>
    rw [e] at kb
    intro w H2 p2 H3 ex
    obtain ⟨q, fr2, s4, Z2, k2, g2, n2, z2, zn2⟩ := norm_post p2 (Mt.bnd_ kb)
    have m3 := Mt.bnd_ k2
    obtain ⟨hj, k3⟩ := setW_in rfl m3
    have m4 := Mt.bnd_ k3
    obtain ⟨hi, k4⟩ := setW_in rfl m4
    have g3 : Go K Z2 Z2 H2 σ s4 s4 H3 := Go.grown g2.rl ex
    have c2 : Ch K pin Z1 Z1 H1 σ s2 H3 (σ.set j (some w)) (s4.set j (some (fr2, q))) := Ch.store hq hj g2.rl (fun a x y _ => zn2 a x y) n2 zn2 g2 (Ch.of g3)
    have c1 := Ch.store hp hi g1.rl (fun a x y _ => zn1 a x y) n1 zn1 g1 c2
    rw [List.set_comm _ _ hij.symm] at c1
    exact k4 _ _ c1.gos
theorem par3_m (hp : i ∉ pin) (hq : j ∉ pin) (hl : l ∉ pin) (hij : i ≠ j) (hil : i ≠ l) (hjl : j ≠ l) {f g h : PM Arg} (R : Rl K Z H σ s) (m : Mt (sPar3 i j l f g h s) (lF K pin Z H σ s D) (XOutS K mg W pin Z H σ s)) :
    lE K mg W f σ H fun x H1 => lE K mg W g σ H1 fun y H2 => lE K mg W h σ H2 fun z H3 => ∀ H4, Ext H3 H4 → D.nx (((σ.set i (some x)).set j (some y)).set l (some z)) H4 := by
  refine lE_step R (MtS.ex (Mt.bnd_ m)) fun r s1 v H1 k p1 => ?_
  obtain ⟨p, fr, s2, Z1, k, g1, n1, z1, zn1⟩ := norm_post p1 (Mt.bnd_ k)
  have kb := Mt.bnd_ (show Mt (bnd g _ s2) (lF K pin Z H σ s D) (XOutS K mg W pin Z H σ s) from k)
  refine lE_iff.mpr ⟨Z1, s2, g1.rl, ?_⟩
  cases e : g s2 with
  | stuck => rw [e] at kb; exact kb
  | exc c s3 =>
    rw [e] at kb
    exact fun C H' hc gg => kb C H' σ hc ((g1.thru gg).weak z1).st
  | ok r2 s3 =>
    rw [e] at kb
    intro w H2 p2
    obtain ⟨q, fr2, s4, Z2, k2, g2, n2, z2, zn2⟩ := norm_post p2 (Mt.bnd_ kb)
    have kc := Mt.bnd_ (show Mt (bnd h _ s4) (lF K pin Z H σ s D) (XOutS K mg W pin Z H σ s) from k2)
    refine lE_iff.mpr ⟨Z2, s4, g2.rl, ?_⟩
    cases e2 : h s4 with
    | stuck => rw [e2] at kc; exact kc
    | exc c s5 =>
      rw [e2] at kc
      exact fun C H' hc gg => kc C H' σ hc (((g1.thru g2).thru gg).weak fun a z => z2 a (z1 a z)).st
    | ok r3 s5 =>
      rw [e2] at kc
      intro u H3 p3 H4 ex
      obtain ⟨q3, fr3, s6, Z3, k3, g3, n3, z3, zn3⟩ := norm_post p3 (Mt.bnd_ kc)
      obtain ⟨h1, k4⟩ := setW_in rfl (Mt.bnd_ k3)
      obtain ⟨h2, k5⟩ := setW_in rfl (Mt.bnd_ k4)
      obtain ⟨h3, k6⟩ := setW_in rfl (Mt.bnd_ k5)
      have g4 : Go K Z3 Z3 H3 σ s6 s6 H4 := Go.grown g3.rl ex
      have c3 : Ch K pin Z2 Z2 H2 σ s4 H4 (σ.set l (some u)) (s6.set l (some (fr3, q3))) := Ch.store hl h1 g3.rl (fun a x y _ => zn3 a x y) n3 zn3 g3 (Ch.of g4)
      have c2 := Ch.store hq h2 g2.rl (fun a x y _ => zn2 a x y) n2 zn2 g2 c3
      have c1 := Ch.store hp h3 g1.rl (fun a x y _ => zn1 a x y) n1 zn1 g1 c2
      rw [List.set_comm _ _ hjl.symm, List.set_comm _ _ hil.symm, List.set_comm _ _ hij.symm] at c1
      exact k6 _ _ c1.gos
end
section
variable {X : Cx} {W : WX} {pin : List Nat} {a b c : Expr} {f g h : PM Arg} {x y z : Str} {i j l : Nat} {px py pz pt pos : Pos} {kt k2 : Nat} {pt2 : Pos}
theorem qs_par (hp : i ∉ pin) (hq : j ∉ pin) (hc : X.calm = true) (hN : X.N.Nodup) (hi : X.N[i]? = some x) (hj : X.N[j]? = some y) (hij : i ≠ j)
    (hx : X.env.scope.names.lookup x = some .local) (hy : X.env.scope.names.lookup y = some .local) (ha : QE X W a f) (hb : QE X W b g)
    (hw : swappedStores [.Tuple [.Name x px, .Name y py] kt pt] (.Tuple [a, b] k2 pt2) X.env = pure (some [x, y]))
    (hs : swapsWithSole [.Tuple [.Name x px, .Name y py] kt pt] (.Tuple [a, b] k2 pt2) pos.line X.env = pure false := by rfl)
    (s1 : starEach [a, b] X.env = (false, eval a X.env) :: starEach [b] X.env := by rfl) (s2 : starEach [b] X.env = (false, eval b X.env) :: starEach [] X.env := by rfl) :
    QS X W pin (.Assign [.Tuple [.Name x px, .Name y py] kt pt] (.Tuple [a, b] k2 pt2) pos) (sPar i j f g) :=
  ⟨ps_mono (ps_par hc hN hi hj hij hx hy (pa_cons ha.pe (pa_cons hb.pe pa_nil s2) s1) hw hs) fun D σ H ⟨Z, s, R, h⟩ => by
    obtain ⟨Z', s', R', m⟩ := lE_iff.mp (par_m hp hq hij R h)
    refine lE_iff.mpr ⟨Z', s', R', m.imp fun r s1 k v H1 p => ?_⟩
    obtain ⟨Z2, s2, R2, m2⟩ := lE_iff.mp (k v H1 p)
    exact lE_iff.mpr ⟨Z2, s2, R2, m2.imp fun r s1 k w H2 p => ⟨v, w, rfl, k w H2 p H2 Ext.refl⟩⟩⟩
theorem qs_par3 (hp : i ∉ pin) (hq : j ∉ pin) (hl' : l ∉ pin) (hc : X.calm = true) (hN : X.N.Nodup) (hi : X.N[i]? = some x) (hj : X.N[j]? = some y) (hl : X.N[l]? = some z) (hij : i ≠ j) (hil : i ≠ l) (hjl : j ≠ l)
    (hx : X.env.scope.names.lookup x = some .local) (hy : X.env.scope.names.lookup y = some .local) (hz : X.env.scope.names.lookup z = some .local) (ha : QE X W a f) (hb : QE X W b g) (hcc : QE X W c h)
    (hw : swappedStores [.Tuple [.Name x px, .Name y py, .Name z pz] kt pt] (.Tuple [a, b, c] k2 pt2) X.env = pure (some [x, y, z]))
    (hs : swapsWithSole [.Tuple [.Name x px, .Name y py, .Name z pz] kt pt] (.Tuple [a, b, c] k2 pt2) pos.line X.env = pure false := by rfl)
    (s1 : starEach [a, b, c] X.env = (false, eval a X.env) :: starEach [b, c] X.env := by rfl) (s2 : starEach [b, c] X.env = (false, eval b X.env) :: starEach [c] X.env := by rfl) (s3 : starEach [c] X.env = (false, eval c X.env) :: starEach [] X.env := by rfl) :
    QS X W pin (.Assign [.Tuple [.Name x px, .Name y py, .Name z pz] kt pt] (.Tuple [a, b, c] k2 pt2) pos) (sPar3 i j l f g h) :=
  ⟨ps_mono (ps_par3 hc hN hi hj hl hij hil hjl hx hy hz (pa_cons ha.pe (pa_cons hb.pe (pa_cons hcc.pe pa_nil s3) s2) s1) hw hs) fun D σ H ⟨Z, s, R, h⟩ => by
    obtain ⟨Z', s', R', m⟩ := lE_iff.mp (par3_m hp hq hl' hij hil hjl R h)
    refine lE_iff.mpr ⟨Z', s', R', m.imp fun r s1 k v H1 p => ?_⟩
    obtain ⟨Z2, s2, R2, m2⟩ := lE_iff.mp (k v H1 p)
    refine lE_iff.mpr ⟨Z2, s2, R2, m2.imp fun r s1 k w H2 p => ?_⟩
    obtain ⟨Z3, s3, R3, m3⟩ := lE_iff.mp (k w H2 p)
    exact lE_iff.mpr ⟨Z3, s3, R3, m3.imp fun r s1 k u H3 p => ⟨v, w, u, rfl, k u H3 p H3 Ext.refl⟩⟩⟩
/-- the same where a name is captured: the tuple is made and taken apart -/
theorem qs_parC (hp : i ∉ pin) (hq : j ∉ pin) (hc : X.calm = true) (hN : X.N.Nodup) (hi : X.N[i]? = some x) (hj : X.N[j]? = some y) (hij : i ≠ j) (hx : Loc X.env.scope x) (hy : Loc X.env.scope y) (ha : QE X W a f) (hb : QE X W b g)
    (hw : swappedStores [.Tuple [.Name x px, .Name y py] kt pt] (.Tuple [a, b] k2 pt2) X.env = pure none)
    (fx : X.fn x = true ∨ X.env.scope.names.lookup x = some .local := by first | exact .inl rfl | exact .inr rfl) (fy : X.fn y = true ∨ X.env.scope.names.lookup y = some .local := by first | exact .inl rfl | exact .inr rfl)
    (hs : swapsWithSole [.Tuple [.Name x px, .Name y py] kt pt] (.Tuple [a, b] k2 pt2) pos.line X.env = pure false := by rfl)
    (s1 : starEach [a, b] X.env = (false, eval a X.env) :: starEach [b] X.env := by rfl) (s2 : starEach [b] X.env = (false, eval b X.env) :: starEach [] X.env := by rfl) :
    QS X W pin (.Assign [.Tuple [.Name x px, .Name y py] kt pt] (.Tuple [a, b] k2 pt2) pos) (sPar i j f g) :=
  ⟨ps_mono (ps_asg (pe_tup (pa_cons ha.pe (pa_cons hb.pe pa_nil s2) s1)) (pg_tup hc (pgs_cons (pg_name hN hi hx fx) (pgs_cons (pg_name hN hj hy fy) pgs_nil))) hs hw) fun D σ H ⟨Z, s, R, h⟩ => by
    obtain ⟨Z', s', R', m⟩ := lE_iff.mp (par_m hp hq hij R h)
    refine lE_iff.mpr ⟨Z', s', R', m.imp fun r s1 k v H1 p => ?_⟩
    obtain ⟨Z2, s2, R2, m2⟩ := lE_iff.mp (k v H1 p)
    refine lE_iff.mpr ⟨Z2, s2, R2, m2.imp fun r s1 k w H2 p => ⟨by show 2 ≤ sizeLine; decide, fun t ht => ?_⟩⟩
    exact ⟨t, [v, w], rfl, .of upd_same, rfl, v, [w], rfl, w, [], rfl, rfl, k w H2 p _ (ext_upd ht)⟩⟩
theorem qs_par3C (hp : i ∉ pin) (hq : j ∉ pin) (hl' : l ∉ pin) (hc : X.calm = true) (hN : X.N.Nodup) (hi : X.N[i]? = some x) (hj : X.N[j]? = some y) (hl : X.N[l]? = some z) (hij : i ≠ j) (hil : i ≠ l) (hjl : j ≠ l) (hx : Loc X.env.scope x) (hy : Loc X.env.scope y) (hz : Loc X.env.scope z)
    (ha : QE X W a f) (hb : QE X W b g) (hcc : QE X W c h)
    (hw : swappedStores [.Tuple [.Name x px, .Name y py, .Name z pz] kt pt] (.Tuple [a, b, c] k2 pt2) X.env = pure none)
    (fx : X.fn x = true ∨ X.env.scope.names.lookup x = some .local := by first | exact .inl rfl | exact .inr rfl) (fy : X.fn y = true ∨ X.env.scope.names.lookup y = some .local := by first | exact .inl rfl | exact .inr rfl) (fz : X.fn z = true ∨ X.env.scope.names.lookup z = some .local := by first | exact .inl rfl | exact .inr rfl)
    (hs : swapsWithSole [.Tuple [.Name x px, .Name y py, .Name z pz] kt pt] (.Tuple [a, b, c] k2 pt2) pos.line X.env = pure false := by rfl)
    (s1 : starEach [a, b, c] X.env = (false, eval a X.env) :: starEach [b, c] X.env := by rfl) (s2 : starEach [b, c] X.env = (false, eval b X.env) :: starEach [c] X.env := by rfl) (s3 : starEach [c] X.env = (false, eval c X.env) :: starEach [] X.env := by rfl) :
    QS X W pin (.Assign [.Tuple [.Name x px, .Name y py, .Name z pz] kt pt] (.Tuple [a, b, c] k2 pt2) pos) (sPar3 i j l f g h) :=
  ⟨ps_mono (ps_asg (pe_tup (pa_cons ha.pe (pa_cons hb.pe (pa_cons hcc.pe pa_nil s3) s2) s1)) (pg_tup hc (pgs_cons (pg_name hN hi hx fx) (pgs_cons (pg_name hN hj hy fy) (pgs_cons (pg_name hN hl hz fz) pgs_nil)))) hs hw) fun D σ H ⟨Z, s, R, h⟩ => by
    obtain ⟨Z', s', R', m⟩ := lE_iff.mp (par3_m hp hq hl' hij hil hjl R h)
    refine lE_iff.mpr ⟨Z', s', R', m.imp fun r s1 k v H1 p => ?_⟩
    obtain ⟨Z2, s2, R2, m2⟩ := lE_iff.mp (k v H1 p)
    refine lE_iff.mpr ⟨Z2, s2, R2, m2.imp fun r s1 k w H2 p => ?_⟩
    obtain ⟨Z3, s3, R3, m3⟩ := lE_iff.mp (k w H2 p)
    refine lE_iff.mpr ⟨Z3, s3, R3, m3.imp fun r s1 k u H3 p => ⟨by show 3 ≤ sizeLine; decide, fun t ht => ?_⟩⟩
    exact ⟨t, [v, w, u], rfl, .of upd_same, rfl, v, [w, u], rfl, w, [u], rfl, u, [], rfl, rfl, k u H3 p _ (ext_upd ht)⟩⟩
end
end HF
end

section
set_option Elab.async false
set_option linter.all false
set_option maxRecDepth 100000
set_option maxHeartbeats 1000000
set_option autoImplicit false
/-! HF8: owned lists and dicts are changed; op=. -/
namespace HF
open PySem PySem.Spec PyProof.Rows L2

section
variable {K : Frg} {mg : Str → Option Value} {W : WX} {pin : List Nat} {Z Z' : Addr → Prop} {H H' H1 : Hp} {σ : L2.St} {s s1 s' : SE} {v w : V} {vs : List V} {Q : VK} {p p' q : PV} {i : Nat} {a : Addr} {o : HO}
theorem owns_same (e : s[i]? = some (some (true, p))) {b : Addr} : Owns σ (s.set i (some (true, p'))) b ↔ Owns σ s b := by
  have hi := (List.getElem?_eq_some_iff.mp e).1
  refine ⟨fun ⟨j, q, e1, e2⟩ => ?_, fun ⟨j, q, e1, e2⟩ => ?_⟩
  · by_cases hj : i = j
    · subst hj; exact ⟨i, p, e, e2⟩
    · rw [List.getElem?_set_ne hj] at e1; exact ⟨j, q, e1, e2⟩
  · by_cases hj : i = j
    · subst hj; exact ⟨i, p', List.getElem?_set_self hi, e2⟩
    · exact ⟨j, q, by rw [List.getElem?_set_ne hj]; exact e1, e2⟩
/-- what an owned slot holds is changed -/
theorem Rl.change (R : Rl K Z H σ s) (e : s[i]? = some (some (true, p))) (ea : σ[i]? = some (some (V.ref a))) (ob : Ob K (upd H a o) (Hd Z σ s H) a p') : Go K Z Z H σ s (s.set i (some (true, p'))) (upd H a o) := by
  have hi := (List.getElem?_eq_some_iff.mp e).1
  have oa : Owns σ s a := ⟨i, p, e, ea⟩
  have hd : Hd Z σ (s.set i (some (true, p'))) (upd H a o) = Hd Z σ s H := by
    have e1 : (fun b => Z b ∨ Owns σ (s.set i (some (true, p'))) b) = fun b => Z b ∨ Owns σ s b := by
      funext b
      rw [owns_same e]
    show hid _ _ = hid _ _
    rw [e1]
    funext b
    unfold hid
    by_cases hb : b = a
    · subst hb; rw [if_pos (.inr oa), if_pos (.inr oa)]
    · rw [upd_ne hb]
  refine ⟨⟨by rw [List.length_set]; exact R.len, fun b z => ?_, fun j q z => ?_, fun j q z => ?_, fun j k q r b z1 z2 z3 z4 => ?_⟩, fun b u z n => ?_, fun b z => (owns_same e).mp z, fun b z => ?_, set_kp⟩
  · by_cases hb : b = a
    · subst hb; rw [upd_same]; nofun
    · rw [upd_ne hb]; exact R.zin b z
  · by_cases hj : i = j
    · subst hj
      rw [List.getElem?_set_self hi] at z
      cases z
    · rw [List.getElem?_set_ne hj] at z
      rw [hd]
      exact R.sh j q z
  · rw [hd]
    by_cases hj : i = j
    · subst hj
      rw [List.getElem?_set_self hi] at z
      cases z
      obtain ⟨a', e1, n, _⟩ := R.ow i p e
      rw [ea] at e1; cases e1
      exact ⟨a, ea, n, ob⟩
    · rw [List.getElem?_set_ne hj] at z
      obtain ⟨b, e1, n, r⟩ := R.ow j q z
      refine ⟨b, e1, n, r.ext (upd_ne fun x => hj ?_) Ext.refl⟩
      subst x
      exact R.dj i j p q b e z ea e1
  · have c : ∀ (m : Nat) (x : PV), (s.set i (some (true, p')))[m]? = some (some (true, x)) → ∃ y, s[m]? = some (some (true, y)) := fun m x y => by
      by_cases hm : i = m
      · subst hm; exact ⟨p, e⟩
      · rw [List.getElem?_set_ne hm] at y; exact ⟨x, y⟩
    obtain ⟨q', y1⟩ := c j q z1
    obtain ⟨r', y2⟩ := c k r z2
    exact R.dj j k q' r' b y1 y2 z3 z4
  · rw [upd_ne fun x => n (by rw [x]; exact oa)]; exact z
  · by_cases hb : b = a
    · subst hb; rw [upd_same]; nofun
    · rw [upd_ne hb]; exact z
end

/-! ### methods of lists -/
/-- what a method makes of the list, what it gives back -/
abbrev OpM := List PV → List PV → Option (List PV × PV)
def MOk (K : Frg) (r : V → List V → Hp → VK → Prop) (op : OpM) : Prop := ∀ (H Hv : Hp) (a : Addr) (vs : List V) (xs : List V) (ps qs ps' : List PV) (res : PV) (Q : VK), Ext Hv H → H a = some (.lst vs) → Reps K Hv vs ps → Reps K Hv xs qs → op ps qs = some (ps', res) →
  (∀ vs' v, Reps K Hv vs' ps' → Rep K Hv v res → Q v (upd H a (.lst vs'))) → r (.ref a) xs H Q
def onLst (i : Nat) (op : OpM) (qs : List PV) : PM Arg := fun s => match s[i]? with
  | some (some (true, .lst ps)) => (match op ps qs with
    | some (ps', res) => .ok (.val res false) (s.set i (some (true, .lst ps')))
    | none => .stuck)
  | _ => .stuck
def isOwnL (i : Nat) : PM Unit := fun s => match s[i]? with
  | some (some (true, .lst _)) => .ok () s
  | _ => .stuck
def eMeth (i : Nat) (op : OpM) (fs : PM (List Arg)) : PM Arg := bnd (isOwnL i) fun _ => bnd fs fun as => bnd (relAll as) fun qs => onLst i op qs
section
variable {K : Frg} {mg : Str → Option Value} {W : WX} {pin : List Nat} {Z Z' : Addr → Prop} {H H' H1 : Hp} {σ : L2.St} {s s1 s' : SE} {v w : V} {vs : List V} {Q : VK} {p p' q : PV} {i : Nat} {a : Addr} {o : HO}
theorem onLst_post {r : V → List V → Hp → VK → Prop} {op : OpM} {qs : List PV} {ok : Arg → SE → Prop} {ex : Str → SE → Prop} (R : Rl K Z H σ s) (mo : MOk K r op) (ea : σ[i]? = some (some (V.ref a))) (rq : Reps K (Hd Z σ s H) vs qs) (m : Mt (onLst i op qs s) ok ex)
    (k : ∀ x s' v H', ok x s' → PostE K Z H σ s x s' v H' → Q v H') : r (.ref a) vs H Q := by
  unfold onLst at m
  cases e : s[i]? with
  | none => simp only [e] at m; exact m.elim
  | some sl =>
    match sl, e, m with
    | some (true, .lst ps), e, m =>
      simp only [e] at m
      cases e2 : op ps qs with
      | none => simp only [e2] at m; exact m.elim
      | some x =>
        obtain ⟨ps', res⟩ := x
        simp only [e2] at m
        obtain ⟨a', e3, _, us, hu, ru⟩ := R.ow i _ e
        rw [ea] at e3; cases e3
        refine mo H _ a us vs ps qs ps' res Q hid_sub hu ru rq e2 fun vs' v r1 r2 => ?_
        have g := R.change e ea (p' := .lst ps') (o := .lst vs') ⟨vs', upd_same, r1⟩
        exact k _ _ v _ m ⟨g, r2.ext g.vis⟩
    | none, e, m => simp only [e] at m; exact m.elim
    | some (false, _), e, m => simp only [e] at m; exact m.elim
    | some (true, .non), e, m => simp only [e] at m; exact m.elim
    | some (true, .bl _), e, m => simp only [e] at m; exact m.elim
    | some (true, .int _), e, m => simp only [e] at m; exact m.elim
    | some (true, .str _), e, m => simp only [e] at m; exact m.elim
    | some (true, .tup _), e, m => simp only [e] at m; exact m.elim
    | some (true, .dct _ _), e, m => simp only [e] at m; exact m.elim
    | some (true, .rng _ _), e, m => simp only [e] at m; exact m.elim
    | some (true, .scr _), e, m => simp only [e] at m; exact m.elim
theorem isOwnL_post {ok : Unit → SE → Prop} {ex : Str → SE → Prop} (R : Rl K Z H σ s) (m : Mt (isOwnL i s) ok ex) : ok () s ∧ ∃ a vs, σ[i]? = some (some (V.ref a)) ∧ H a = some (.lst vs) := by
  unfold isOwnL at m
  cases e : s[i]? with
  | none => simp only [e] at m; exact m.elim
  | some sl =>
    match sl, e, m with
    | some (true, .lst ps), e, m =>
      simp only [e] at m
      obtain ⟨a, e3, _, us, hu, _⟩ := R.ow i _ e
      exact ⟨m, a, us, e3, hu⟩
    | none, e, m => simp only [e] at m; exact m.elim
    | some (false, _), e, m => simp only [e] at m; exact m.elim
    | some (true, .non), e, m => simp only [e] at m; exact m.elim
    | some (true, .bl _), e, m => simp only [e] at m; exact m.elim
    | some (true, .int _), e, m => simp only [e] at m; exact m.elim
    | some (true, .str _), e, m => simp only [e] at m; exact m.elim
    | some (true, .tup _), e, m => simp only [e] at m; exact m.elim
    | some (true, .dct _ _), e, m => simp only [e] at m; exact m.elim
    | some (true, .rng _ _), e, m => simp only [e] at m; exact m.elim
    | some (true, .scr _), e, m => simp only [e] at m; exact m.elim
end
section
variable {X : Cx} {W : WX} {pin : List Nat} {e : Expr} {es : List Expr} {fs : PM (List Arg)} {f : PM Arg} {i : Nat} {x name : Str} {p apos cpos : Pos}
theorem qe_meth {id : String} {r : V → List V → Hp → VK → Prop} {op : OpM} (pa : PlainAttrs "list") (slot : Slot "list" name id) (hty : typeOf (.builtin id) = pure (.type "method_descriptor")) (hm : MtR X id r) (mo : MOk (kx X) r op) (hN : X.N[i]? = some x) (hv : Vis X.env.scope x) (ha : QA X W (e :: es) fs)
    (hd : (x == ("__debug__" : Str)) = false := by decide) (hcd : (x == ("__classdict__" : Str)) = false := by decide)
    (hbase : attributeBase (.Name x p) name X.env (eval (.Name x p) X.env) = eval (.Name x p) X.env := by rfl)
    (hfew : ((backTo cpos (starEach (e :: es) X.env)).all (fun x => !x.1) && (backToKw cpos (keywordEach [] X.env)).all (fun x => x.1.isSome)
      && decide ((e :: es).length + ([] : List Keyword).length + (if ([] : List Keyword).isEmpty then 0 else 1) < 30)) = true := by rfl)
    (hline : (apos.endLine == cpos.line) = true := by rfl) (hs : starEach (e :: es) X.env = (false, eval e X.env) :: starEach es X.env := by rfl) (hplain : (backTo cpos (starEach es X.env)).any (·.1) = false := by rfl) :
    QE X W (.Call (.Attribute (.Name x p) name apos) (e :: es) [] cpos) (eMeth i op fs) :=
  qe_of (pe_bm pa slot hty hm (pe_var hN hv hd hcd) ha.pa hbase hfew hline hs hplain) fun σ H Q h => by
    obtain ⟨Z, s, R, h⟩ := lE_iff.mp h
    obtain ⟨h, a, vs, ea, hu⟩ := isOwnL_post R (Mt.bnd_ h)
    refine ⟨.ref a, ea, .inl ⟨rfl, vs, .of hu⟩, ?_⟩
    refine lA_step R h.bnd_ fun rs s1 xs H1 k g1 a1 => ?_
    obtain ⟨qs, s2, k, g2, r⟩ := relAll_post g1.rl a1 k.bnd_
    exact onLst_post g2.rl mo ea r k fun x s' v H' k p => k v H' (PostE.after (g1.trans g2) p)
theorem qe_meth0 {id : String} {r : V → List V → Hp → VK → Prop} {op : OpM} (pa : PlainAttrs "list") (slot : Slot "list" name id) (hty : typeOf (.builtin id) = pure (.type "method_descriptor")) (hm : MtR X id r) (mo : MOk (kx X) r op) (hN : X.N[i]? = some x) (hv : Vis X.env.scope x)
    (hd : (x == ("__debug__" : Str)) = false := by decide) (hcd : (x == ("__classdict__" : Str)) = false := by decide)
    (hbase : attributeBase (.Name x p) name X.env (eval (.Name x p) X.env) = eval (.Name x p) X.env := by rfl) (hline : (apos.endLine == cpos.line) = true := by rfl) :
    QE X W (.Call (.Attribute (.Name x p) name apos) [] [] cpos) (eMeth i op aNil) :=
  qe_of (pe_bm0 pa slot hty hm (pe_var hN hv hd hcd) hbase hline) fun σ H Q h => by
    obtain ⟨Z, s, R, h⟩ := lE_iff.mp h
    obtain ⟨h, a, vs, ea, hu⟩ := isOwnL_post R (Mt.bnd_ h)
    refine ⟨.ref a, ea, .inl ⟨rfl, vs, .of hu⟩, ?_⟩
    have k : Mt (onLst i op [] s) _ _ := h
    exact onLst_post R mo ea .nil k fun x s' v H' k p => k v H' p
end
/-! the operations -/
def opAppend : OpM := fun ps qs => match qs with
  | [q] => if ps.length < sizeLine then some (ps ++ [q], .non) else none
  | _ => none
def opExtend : OpM := fun ps qs => match qs with
  | [.lst zs] => if ps.length + zs.length ≤ sizeLine then some (ps ++ zs, .non) else none
  | _ => none
def opPop : OpM := fun ps qs => match qs, ps[ps.length - 1]? with
  | [], some q => some (ps.dropLast, q)
  | _, _ => none
def opPopAt : OpM := fun ps qs => match qs with
  | [.int i] => if -(2 ^ 63) ≤ i ∧ i < 2 ^ 63 then (match ixN ps.length i with
    | some k => (match ps[k]? with
      | some q => some (ps.eraseIdx k, q)
      | none => none)
    | none => none) else none
  | _ => none
section
variable {K : Frg}
theorem mo_append : MOk K rAppend opAppend := fun H Hv a vs xs ps qs ps' res Q e ha r rq op k => by
  match qs, rq, op with
  | [q], .cons r1 .nil, op =>
    simp only [opAppend] at op
    split at op
    · rename_i hl
      cases op
      exact ⟨a, vs, _, rfl, rfl, ha, by rw [r.length]; exact hl, k _ _ (r.append (.cons r1 .nil)) .non⟩
    · cases op
theorem mo_extend : MOk K rExtend opExtend := fun H Hv a vs xs ps qs ps' res Q e ha r rq op k => by
  match qs, rq, op with
  | [.lst zs], .cons (.lst hb rb) .nil, op =>
    simp only [opExtend] at op
    split at op
    · rename_i hl
      cases op
      exact ⟨a, _, vs, _, rfl, rfl, ha, e _ _ hb, by rw [r.length, rb.length]; exact hl, k _ _ (r.append rb) .non⟩
    · cases op
theorem Reps.dropLast {H : Hp} {vs : List V} {ps : List PV} (r : Reps K H vs ps) : Reps K H vs.dropLast ps.dropLast := by
  rw [List.dropLast_eq_take, List.dropLast_eq_take, r.length]
  exact r.take _
theorem mo_pop : MOk K rPop opPop := fun H Hv a vs xs ps qs ps' res Q e ha r rq op k => by
  match qs, rq, op with
  | [], .nil, op =>
    simp only [opPop] at op
    split at op
    · rename_i q _ eq
      cases op
      obtain ⟨v, hv, rv⟩ := r.get eq
      exact ⟨a, vs, v, rfl, rfl, ha, by rw [r.length]; exact hv, k _ _ r.dropLast rv⟩
    · cases op
theorem mo_popAt : MOk K rPopAt opPopAt := fun H Hv a vs xs ps qs ps' res Q e ha r rq op k => by
  match qs, rq, op with
  | [.int i], .cons (.int _) .nil, op =>
    simp only [opPopAt] at op
    split at op
    · rename_i hb
      split at op
      · rename_i j ej
        split at op
        · rename_i q eq
          cases op
          obtain ⟨v, hv, rv⟩ := r.get eq
          exact ⟨a, vs, i, j, v, rfl, rfl, ha, hb.1, hb.2, by rw [r.length]; exact (ixN_seq ej).1, hv, k _ _ (r.eraseIdx j) rv⟩
        · cases op
      · cases op
    · cases op
end

/-! ### o[i] = v -/
/-- what is stored into, at what, what: the object behind it -/
abbrev OpS := PV → PV → PV → Option PV
def SOk (K : Frg) (r : V → V → V → Hp → (Hp → Prop) → Prop) (op : OpS) : Prop := ∀ (H Hv : Hp) (a : Addr) (iv v : V) (p q x p' : PV) (Q : Hp → Prop), Ext Hv H → Ob K H Hv a p → Rep K Hv iv q → Rep K Hv v x → op p q x = some p' →
  (∀ o, Ob K (upd H a o) Hv a p' → Q (upd H a o)) → r (.ref a) iv v H Q
def gSubP (i : Nat) (op : OpS) (f : PM Arg) : PV → PM Unit := fun x => fun s => match s[i]? with
  | some (some (true, _)) => (bnd f fun b => bnd (rel1 b) fun q => fun s => match s[i]? with
    | some (some (true, p)) => (match op p q x with
      | some p' => .ok () (s.set i (some (true, p')))
      | none => .stuck)
    | _ => .stuck) s
  | _ => .stuck
section
variable {X : Cx} {W : WX} {pin : List Nat} {e : Expr} {f : PM Arg} {i : Nat} {y : Str} {p pos : Pos}
theorem qg_sub {r : V → V → V → Hp → (Hp → Prop) → Prop} {op : OpS} (hs : PSet X r) (so : SOk (kx X) r op) (hN : X.N[i]? = some y) (hv : Vis X.env.scope y) (he : QE X WF e f) (hd : (y == ("__debug__" : Str)) = false := by decide) (hcd : (y == ("__classdict__" : Str)) = false := by decide)
    (ha : ∀ v, assign (.Subscript (.Name y p) e pos) X.env v = (do
      let ov ← holding [v] (eval (.Name y p) X.env)
      let iv ← holding [v, ov] (eval e X.env)
      standAt pos
      holding [v, ov, iv] (setItem ov iv v)
      release [v, ov, iv] []) := by intro _; rfl) : QG X pin (.Subscript (.Name y p) e pos) (gSubP i op f) :=
  ⟨pg_mono (pg_sub (pe_var hN hv hd hcd) he.pe hs ha) fun v σ H Q ⟨Z, s, x, R, rx, h⟩ => by
    unfold gSubP at h
    cases e1 : s[i]? with
    | none => simp only [e1] at h; exact h.elim
    | some sl =>
      match sl, e1, h with
      | none, e1, h => simp only [e1] at h; exact h.elim
      | some (false, _), e1, h => simp only [e1] at h; exact h.elim
      | some (true, p0), e1, h =>
        simp only [e1] at h
        obtain ⟨a, ea, _, _⟩ := R.ow i p0 e1
        refine ⟨.ref a, ea, ?_⟩
        refine lE_step R (Mt.noex (Mt.bnd_ h)) fun r1 s1 w H1 k p1 => ?_
        obtain ⟨q, s2, k, g2, rq⟩ := rel1_step (mg := X.mg) p1 (Mt.bnd_ k)
        cases e2 : s2[i]? with
        | none => simp only [e2] at k; exact k.elim
        | some sl2 =>
          match sl2, e2, k with
          | none, e2, k => simp only [e2] at k; exact k.elim
          | some (false, _), e2, k => simp only [e2] at k; exact k.elim
          | some (true, p1), e2, k =>
            simp only [e2] at k
            cases e3 : op p1 q x with
            | none => simp only [e3] at k; exact k.elim
            | some p' =>
              simp only [e3] at k
              obtain ⟨a', ea', _, ob⟩ := g2.rl.ow i p1 e2
              rw [ea] at ea'; cases ea'
              refine so H1 _ a w v p1 q x p' _ hid_sub ob rq (rx.ext g2.vis) e3 fun o ob' => ?_
              have g3 := g2.rl.change e2 ea ob'
              exact k _ _ (g2.trans g3).st fun b z => (g2.trans g3).ow b z⟩
end
def opSetL : OpS := fun p q x => match p, q with
  | .lst ps, .int k => (match ixN ps.length k with
    | some j => some (.lst (ps.set j x))
    | none => none)
  | _, _ => none
theorem so_list {K : Frg} : SOk K rSetL opSetL := fun H Hv a iv v p q x p' Q e ob rq rx op k => by
  match p, q, ob, rq, op with
  | .lst ps, .int i, ⟨vs, hv, r⟩, .int _, op =>
    simp only [opSetL] at op
    split at op
    · rename_i j ej
      cases op
      exact ⟨a, vs, i, j, rfl, rfl, hv, by rw [r.length]; exact ej, k _ ⟨_, upd_same, r.set rx j⟩⟩
    · cases op
/-! ### name op= e -/
def sAug (i : Nat) (op : Op2) (f : PM Arg) : PM Fl := fun s => match s[i]? with
  | some (some (false, p)) => (bnd f fun a => bnd (opt2 op (.val p false) a) fun r => bnd (setA i r) fun _ => ret .next) s
  | _ => .stuck
section
variable {X : Cx} {W : WX} {pin : List Nat} {e : Expr} {f : PM Arg} {i : Nat} {x : Str} {p' pos : Pos}
theorem qs_aug {op : Operator} {r : R2} {o : Op2} (hp : i ∉ pin) (hN : X.N.Nodup) (hi : X.N[i]? = some x) (hx : Loc X.env.scope x) (he : QE X W e f) (ho : OpR X (inplaceOp op) r) (ro : ROk2 (kx X) r o)
    (hf : X.fn x = true ∨ X.env.scope.names.lookup x = some .local := by first | exact .inl rfl | exact .inr rfl | assumption) : QS X W pin (.AugAssign (.Name x p') op e pos) (sAug i o f) :=
  ⟨ps_mono (ps_aug hN hi hx he.pe (show PIp X op r from ho) hf) fun D σ H ⟨Z, s, R, h⟩ => by
    unfold sAug at h
    cases e1 : s[i]? with
    | none => simp only [e1] at h; exact h.elim
    | some sl =>
      match sl, e1, h with
      | none, e1, h => simp only [e1] at h; exact h.elim
      | some (true, _), e1, h => simp only [e1] at h; exact h.elim
      | some (false, p), e1, h =>
        simp only [e1] at h
        obtain ⟨v, ev, rp⟩ := R.sh i p e1
        refine ⟨v, ev, lE_step R (MtS.ex (Mt.bnd_ h)) fun r1 s1 w H1 k p1 => ?_⟩
        obtain ⟨g1, a1⟩ := p1.wait
        refine end2' g1.rl ro (show ArgAt (kx X) Z H1 σ s1 v (.val p false) from rp.ext g1.vis) a1 (Mt.bnd_ k) fun z s2 u H2 k2 p2 => ?_
        obtain ⟨s3, k3, g3⟩ := setA_post (p2.after g1) hp (Mt.bnd_ k2)
        exact k3 _ _ g3⟩
end
end HF
end

section
set_option Elab.async false
set_option linter.all false
set_option maxRecDepth 100000
set_option maxHeartbeats 1000000
set_option autoImplicit false
/-! HF9: defs that change what their first parameter holds. -/
namespace HF
open PySem PySem.Spec PyProof.Rows L2

def st1 (n : Nat) : List PV → SE
  | [] => st0 n []
  | p :: ps => some (true, p) :: (ps.map (fun p => some (false, p)) ++ List.replicate (n - (ps.length + 1)) none)
def denIO (n : Nat) (F : PM Fl) : Den := fun ps => match F (st1 n ps) with
  | .ok .next s => (match s[0]? with
    | some (some (true, q)) => .ok .non false (some q)
    | _ => .stuck)
  | .ok (.ret r) s => (match s[0]?, r with
    | some (some (true, q)), .val p fr => .ok p fr (some q)
    | some (some (true, q)), .bor i => if i = 0 then .stuck else outR (.bor i) s (some q)
    | _, _ => .stuck)
  | _ => .stuck
def ResM (K : Frg) (Z : Addr → Prop) (H H' : Hp) (a : Addr) (p0 : PV) (v : V) (p : PV) : Bool → Prop
  | false => Rep K (hid Z H') v p ∧ Ob K H' (hid Z H') a p0
  | true => ∃ b, v = .ref b ∧ H b = none ∧ Ob K H' (hid (fun c => Z c ∨ c = b) H') b p ∧ Ob K H' (hid (fun c => Z c ∨ c = b) H') a p0
def spM (K : Frg) (n : Nat) (den : Den) : Sp := fun vs H Q _ => ∃ (Z : Addr → Prop) (a : Addr) (vs' : List V) (p0 : PV) (ps : List PV), vs = .ref a :: vs' ∧ ps.length + 1 = n ∧ (∀ b, Z b → H b ≠ none) ∧ ¬ Z a ∧ Ob K H (hid (fun b => Z b ∨ b = a) H) a p0 ∧ Reps K (hid (fun b => Z b ∨ b = a) H) vs' ps ∧
  match den (p0 :: ps) with
  | .ok p fr (some p0') => ∀ v H', (∀ b o, H b = some o → b ≠ a → H' b = some o) → ResM K (fun b => Z b ∨ b = a) H H' a p0' v p fr → Q v H'
  | _ => False
section
variable {K : Frg} {Z Z' : Addr → Prop} {H H' : Hp} {vs : List V} {ps : List PV} {N : List Str} {n : Nat} {a : Addr} {p0 : PV}
theorem st1_some {i : Nat} {f : Bool} {p : PV} (h : (st1 n (p0 :: ps))[i]? = some (some (f, p))) : (i = 0 ∧ f = true ∧ p = p0) ∨ ∃ j, i = j + 1 ∧ f = false ∧ ps[j]? = some p := by
  unfold st1 at h
  cases i with
  | zero => simp at h; exact .inl ⟨rfl, h.1, h.2.symm⟩
  | succ j =>
    rw [List.getElem?_cons_succ] at h
    by_cases hi : j < ps.length
    · rw [List.getElem?_append_left (by simpa using hi)] at h
      rw [List.getElem?_map, List.getElem?_eq_getElem hi] at h
      simp at h
      exact .inr ⟨j, rfl, h.1, by rw [List.getElem?_eq_getElem hi, h.2]⟩
    · rw [List.getElem?_append_right (by simpa using Nat.le_of_not_lt hi)] at h
      have h2 := List.mem_of_getElem? h
      rw [List.mem_replicate] at h2
      cases h2.2
theorem own_st1 (hn : N.length = n) {b : Addr} : Owns (L2.start N (.ref a :: vs)) (st1 n (p0 :: ps)) b ↔ b = a := by
  refine ⟨fun ⟨i, p, e1, e2⟩ => ?_, fun e => ⟨0, p0, rfl, by rw [e]; exact start_some rfl⟩⟩
  rcases st1_some e1 with ⟨rfl, _, _⟩ | ⟨j, _, e, _⟩
  · have e3 : (L2.start N (V.ref a :: vs))[0]? = some (some (V.ref a)) := start_some rfl
    rw [e3] at e2
    simp at e2
    exact e2.symm
  · cases e
theorem rl_start1 (hn : N.length = n) (hZ : ∀ a, Z a → H a ≠ none) (nz : ¬ Z a) (ob : Ob K H (hid (fun b => Z b ∨ b = a) H) a p0) (r : Reps K (hid (fun b => Z b ∨ b = a) H) vs ps) : Rl K Z H (L2.start N (.ref a :: vs)) (st1 n (p0 :: ps)) := by
  have hd : Hd Z (L2.start N (.ref a :: vs)) (st1 n (p0 :: ps)) H = hid (fun b => Z b ∨ b = a) H := by
    show hid _ H = _
    congr 1
    funext b
    rw [own_st1 hn]
  refine ⟨?_, hZ, fun i p e => ?_, fun i p e => ?_, fun i j p q b e1 e2 _ _ => ?_⟩
  · unfold st1 L2.start
    simp [r.length, hn]
  · rcases st1_some e with ⟨_, e, _⟩ | ⟨j, rfl, _, e⟩
    · cases e
    · obtain ⟨v, h1, h2⟩ := r.get e
      exact ⟨v, start_some (by simpa using h1), by rw [hd]; exact h2⟩
  · rcases st1_some e with ⟨rfl, _, rfl⟩ | ⟨j, _, e, _⟩
    · exact ⟨a, start_some rfl, nz, by rw [hd]; exact ob⟩
    · cases e
  · rcases st1_some e1 with ⟨rfl, _, _⟩ | ⟨j, _, e, _⟩
    · rcases st1_some e2 with ⟨rfl, _, _⟩ | ⟨j, _, e, _⟩
      · rfl
      · cases e
    · cases e
end
/-- a def that changes what its first parameter holds, by its body -/
theorem fn_io {P : Program} {w : World} {K : PySem.W.Frag} {mg : Str → Option Value} {base : Heap} {x qual : Str} {params : Arguments} {body : List Stmt} {scope : Scope} {kws : List (Str × V)} {f : Addr} {fd : FuncData} {N ps : List Str} {k : Nat} {F : PM Fl}
    (Fd : FunD K x qual params body scope [] kws f fd) (S : FnScope N ps scope)
    (hbody : ∀ (cdv : Value) (A : Around) (outer : List Env) (s : Shared) (H : Hp) (E : XK), Room k (A.deeper (envOfC qual scope s.heap.objs.size f cdv)) →
      QSs (cxOf (L2.CX P w) P w K mg base N qual scope f cdv A outer s H E) (WE0 E) [0] body F) : FnOk P w K mg base (L2.CX P w) (k + 1) f fd ps (spM ⟨K, P, w⟩ ps.length (denIO N.length F)) := by
  refine Fd.ok S (fun vs H Q E h => ?_) (fun cdv A outer s H vs Q E hr h => ⟨lS ⟨K, P, w⟩ mg (WE0 E) [0] F, (hbody cdv A outer s H E hr).pss, ?_⟩)
  · obtain ⟨Z, a, vs', p0, qs, rfl, h1, _, _, _, h2, _⟩ := h
    rw [List.length_cons, h2.length, h1]
  · obtain ⟨Z, a, vs', p0, qs, rfl, h1, h0, nz, ob, h2, h3⟩ := h
    have R := rl_start1 (N := N) rfl h0 nz ob h2
    refine ⟨Z, st1 N.length (p0 :: qs), R, ?_⟩
    unfold denIO at h3
    have nO : ∀ b, b ≠ a → ¬ Owns (L2.start N (.ref a :: vs')) (st1 N.length (p0 :: qs)) b := fun b n z => n ((own_st1 rfl).mp z)
    have s0 : (L2.start N (V.ref a :: vs'))[0]? = some (some (V.ref a)) := start_some rfl
    -- the end
    have fin : ∀ {H' : Hp} {σ' : L2.St} {s' : SE} {Z' : Addr → Prop} {q : PV}, GoS ⟨K, P, w⟩ [0] Z Z' H (L2.start N (.ref a :: vs')) (st1 N.length (p0 :: qs)) H' σ' s' → s'[0]? = some (some (true, q)) → (∀ b, Z b → Z' b) →
        σ'[0]? = some (some (V.ref a)) ∧ (∀ b o, H b = some o → b ≠ a → H' b = some o) ∧ Ob ⟨K, P, w⟩ H' (Hd Z' σ' s' H') a q := fun {H' σ' s' Z' q} g e hz => by
      have e0 : σ'[0]? = some (some (V.ref a)) := (g.pn 0 (by simp)).trans s0
      obtain ⟨b, e1, _, obq⟩ := g.rl.ow 0 q e
      rw [e0] at e1; cases e1
      exact ⟨e0, fun b o y n => g.fr b o y (nO b n), obq⟩
    cases e : F (st1 N.length (p0 :: qs)) with
    | stuck => simp only [e] at h3
    | exc c s1 => simp only [e] at h3
    | ok fl s1 =>
      cases fl with
      | brk => simp only [e] at h3
      | cont => simp only [e] at h3
      | next =>
        simp only [e] at h3
        intro σ' H' g
        cases e0 : s1[0]? with
        | none => simp only [e0] at h3
        | some sl =>
          match sl, e0, h3 with
          | none, e0, h3 => simp only [e0] at h3
          | some (false, _), e0, h3 => simp only [e0] at h3
          | some (true, q), e0, h3 =>
            simp only [e0] at h3
            obtain ⟨f0, f1, f2⟩ := fin g e0 fun _ z => z
            exact h3 .non H' f1 ⟨.non, f2.ext rfl (hid_mono fun b o n y => ⟨fun z => n (z.imp id fun z => ⟨0, q, e0, by rw [z]; exact f0⟩), y⟩)⟩
      | ret r =>
        simp only [e] at h3
        intro v σ' H' p
        cases e0 : s1[0]? with
        | none => simp only [e0] at h3
        | some sl =>
          match sl, e0, h3 with
          | none, e0, h3 => simp only [e0] at h3
          | some (false, _), e0, h3 => simp only [e0] at h3
          | some (true, q), e0, h3 =>
            simp only [e0] at h3
            match r, h3, p with
            | .val p false, h3, ⟨g, rp⟩ =>
              obtain ⟨f0, f1, f2⟩ := fin g e0 fun _ z => z
              have ext : Ext (Hd Z σ' s1 H') (hid (fun b => Z b ∨ b = a) H') := hid_mono fun b o n y => ⟨fun z => n (z.imp id fun z => ⟨0, q, e0, by rw [z]; exact f0⟩), y⟩
              exact h3 v H' f1 ⟨rp.ext ext, f2.ext rfl ext⟩
            | .val p true, h3, ⟨b, eb, hn, g, ob, _, _⟩ =>
              obtain ⟨f0, f1, f2⟩ := fin g e0 fun _ z => .inl z
              have ext : Ext (Hd (fun c => Z c ∨ c = b) σ' s1 H') (hid (fun c => (Z c ∨ c = a) ∨ c = b) H') := hid_mono fun c o n y => ⟨fun z => n (by
                rcases z with (z | z) | z
                · exact .inl (.inl z)
                · exact .inr ⟨0, q, e0, by rw [z]; exact f0⟩
                · exact .inl (.inr z)), y⟩
              exact h3 v H' f1 ⟨b, eb, hn, ob.ext rfl ext, f2.ext rfl ext⟩
            | .bor i, h3, ⟨g, e1, pq, e2⟩ =>
              obtain ⟨f0, f1, f2⟩ := fin g e0 fun _ z => z
              simp only at h3
              by_cases hi : i = 0
              · rw [if_pos hi] at h3; exact h3.elim
              · rw [if_neg hi] at h3
                simp only [outR, e2] at h3
                obtain ⟨b, e3, nz', obp⟩ := g.rl.ow i pq e2
                rw [e1] at e3; cases e3
                have nab : b ≠ a := fun z => hi (g.rl.dj i 0 pq q a e2 e0 (z ▸ e1) f0)
                have ext : Ext (Hd Z σ' s1 H') (hid (fun c => (Z c ∨ c = a) ∨ c = b) H') := hid_mono fun c o n y => ⟨fun z => n (by
                  rcases z with (z | z) | z
                  · exact .inl z
                  · exact .inr ⟨0, q, e0, by rw [z]; exact f0⟩
                  · exact .inr ⟨i, pq, e2, by rw [z]; exact e1⟩), y⟩
                exact h3 _ H' f1 ⟨b, rfl, (g.ow b ⟨i, pq, e2, e1⟩).resolve_left (nO b nab), obp.ext rfl ext, f2.ext rfl ext⟩

/-! ### its call -/
def callM (den : Den) : List Arg → PM Arg
  | .bor i :: rest => bnd (relAll rest) fun ps => fun s => match s[i]? with
    | some (some (true, p0)) => (match den (p0 :: ps) with
      | .ok p fr (some p0') => .ok (.val p fr) (s.set i (some (true, p0')))
      | _ => .stuck)
    | _ => .stuck
  | _ => stk
def eCallM (den : Den) (fs : PM (List Arg)) : PM Arg := bnd fs (callM den)
section
variable {K : Frg} {mg : Str → Option Value} {W : WX} {pin : List Nat} {Z Z' : Addr → Prop} {H H' H1 : Hp} {σ : L2.St} {s s1 s' : SE} {v w : V} {vs : List V} {Q : VK} {p p' q : PV} {i : Nat} {a : Addr} {o : HO}
/-- what an owned slot holds is changed, new things come -/
theorem Rl.change' (R : Rl K Z H σ s) (e : s[i]? = some (some (true, p))) (ea : σ[i]? = some (some (V.ref a))) (fk : ∀ b o, H b = some o → b ≠ a → H' b = some o) (hz : ∀ b, Z b → Z' b) (hn : ∀ b, Z' b → ¬ Z b → H b = none ∧ H' b ≠ none)
    (ob : Ob K H' (hid (fun b => Z' b ∨ Owns σ s b) H') a p') : Go K Z Z' H σ s (s.set i (some (true, p'))) H' := by
  have hi := (List.getElem?_eq_some_iff.mp e).1
  have oa : Owns σ s a := ⟨i, p, e, ea⟩
  obtain ⟨a', ea', nza, _⟩ := R.ow i p e
  rw [ea] at ea'; cases ea'
  have hd : Hd Z' σ (s.set i (some (true, p'))) H' = hid (fun b => Z' b ∨ Owns σ s b) H' := by
    show hid _ _ = _
    congr 1
    funext b
    rw [owns_same e]
  obtain ⟨oo, ho, _⟩ := ob.at_
  have ext : Ext (Hd Z σ s H) (hid (fun b => Z' b ∨ Owns σ s b) H') := hid_mono fun b u n z => by
    refine ⟨fun y => ?_, fk b u z fun x => n (.inr (by rw [x]; exact oa))⟩
    rcases y with y | y
    · by_cases zb : Z b
      · exact n (.inl zb)
      · rw [(hn b y zb).1] at z; cases z
    · exact n (.inr y)
  have tr : ∀ b, H b ≠ none → H' b ≠ none := fun b h => by
    by_cases hb : b = a
    · rw [hb, ho]; nofun
    · cases x : H b with
      | none => exact absurd x h
      | some u => rw [fk b u x hb]; nofun
  refine ⟨⟨by rw [List.length_set]; exact R.len, fun b z => ?_, fun j q z => ?_, fun j q z => ?_, fun j k q r b z1 z2 z3 z4 => ?_⟩, fun b u z n => fk b u z fun x => n (by rw [x]; exact oa), fun b z => (owns_same e).mp z, tr, set_kp⟩
  · by_cases zb : Z b
    · exact tr b (R.zin b zb)
    · exact (hn b z zb).2
  · by_cases hj : i = j
    · subst hj
      rw [List.getElem?_set_self hi] at z
      cases z
    · rw [List.getElem?_set_ne hj] at z
      rw [hd]
      obtain ⟨u, e1, r⟩ := R.sh j q z
      exact ⟨u, e1, r.ext ext⟩
  · rw [hd]
    by_cases hj : i = j
    · subst hj
      rw [List.getElem?_set_self hi] at z
      cases z
      refine ⟨a, ea, fun z => ?_, ob⟩
      have := (hn a z nza).1
      exact R.ownIn oa this
    · rw [List.getElem?_set_ne hj] at z
      obtain ⟨b, e1, n, r⟩ := R.ow j q z
      obtain ⟨u, hu, _⟩ := r.at_
      have nb : b ≠ a := fun x => hj (by subst x; exact R.dj i j p q b e z ea e1)
      refine ⟨b, e1, fun z => ?_, r.ext (by rw [hu]; exact fk b u hu nb) ext⟩
      have := (hn b z n).1
      rw [hu] at this; cases this
  · have c : ∀ (m : Nat) (x : PV), (s.set i (some (true, p')))[m]? = some (some (true, x)) → ∃ y, s[m]? = some (some (true, y)) := fun m x y => by
      by_cases hm : i = m
      · subst hm; exact ⟨p, e⟩
      · rw [List.getElem?_set_ne hm] at y; exact ⟨x, y⟩
    obtain ⟨q', y1⟩ := c j q z1
    obtain ⟨r', y2⟩ := c k r z2
    exact R.dj j k q' r' b y1 y2 z3 z4
theorem callM_m {n : Nat} {den : Den} {E : L2.St → XK} {fs : PM (List Arg)} (hl : ∀ s rs s', fs s = .ok rs s' → rs.length = n) (h : lE K mg W (eCallM den fs) σ H Q) : tCallS (spM K n den) E (lA K mg W fs) σ H Q := by
  obtain ⟨Z, s, R, h⟩ := lE_iff.mp h
  have hb := Mt.bnd_ h
  refine lA_iff.mpr ⟨Z, s, R, ?_⟩
  cases e0 : fs s with
  | stuck => rw [e0] at hb; exact hb
  | exc c s1 => rw [e0] at hb; exact hb
  | ok as s1 =>
    rw [e0] at hb
    intro vs H1 g a1
    have ln := hl s as s1 e0
    match as, a1, hb, ln with
    | [], _, hb, _ => exact hb.elim
    | .val _ _ :: _, _, hb, _ => exact hb.elim
    | .bor i :: rest, .cons ai ar, hb, ln =>
      obtain ⟨ps, s2, k, g2, rps⟩ := relAll_post g.rl ar (Mt.bnd_ hb)
      obtain ⟨ea0, _⟩ := ai
      cases e1 : s2[i]? with
      | none => simp only [e1] at k; exact k.elim
      | some sl =>
        match sl, e1, k with
        | none, e1, k => simp only [e1] at k; exact k.elim
        | some (false, _), e1, k => simp only [e1] at k; exact k.elim
        | some (true, p0), e1, k =>
          simp only [e1] at k
          obtain ⟨a, ea, nz, ob⟩ := g2.rl.ow i p0 e1
          rw [ea0] at ea; cases ea
          have oa : Owns σ s2 a := ⟨i, p0, e1, ea0⟩
          have R2 := g2.rl
          have he : (fun b => (Z b ∨ (Owns σ s2 b ∧ b ≠ a)) ∨ b = a) = fun b => Z b ∨ Owns σ s2 b := by
            funext b
            refine propext ⟨fun z => ?_, fun z => ?_⟩
            · rcases z with (z | z) | z
              · exact .inl z
              · exact .inr z.1
              · rw [z]; exact .inr oa
            · rcases z with z | z
              · exact .inl (.inl z)
              · by_cases hb : b = a
                · exact .inr hb
                · exact .inl (.inr ⟨z, hb⟩)
          refine ⟨fun b => Z b ∨ (Owns σ s2 b ∧ b ≠ a), a, _, p0, ps, rfl, ?_, fun b z => z.elim (R2.zin b) fun z => R2.ownIn z.1, fun z => z.elim nz fun z => z.2 rfl, ?_, ?_, ?_⟩
          · rw [← rps.length]
            have := (show (Arg.bor i :: rest).length = n from ln)
            have l2 : ∀ {vs : List V} {rs : List Arg}, ArgsAt K Z H1 σ s1 vs rs → vs.length = rs.length := fun h => by
              induction h with
              | nil => rfl
              | cons _ _ ih => simp [ih]
            rw [← this, List.length_cons, l2 ar]
          · rw [he]; exact ob
          · rw [he]; exact rps
          · cases e2 : den (p0 :: ps) with
            | stuck => simp only [e2] at k; exact k.elim
            | exc c => simp only [e2] at k; exact k.elim
            | ok p fr io =>
              cases io with
              | none => simp only [e2] at k; exact k.elim
              | some p0' =>
                simp only [e2] at k
                intro v H' fk res
                cases fr with
                | false =>
                  obtain ⟨res, ob'⟩ := res
                  rw [he] at ob' res
                  have g3 := R2.change' e1 ea0 fk (fun _ z => z) (fun b z n => absurd z n) ob'
                  exact k v H' (PostE.after (g.trans g2) ⟨g3, res.ext (hid_mono fun b o n y => ⟨fun z => n (z.imp id (owns_same e1).mp), y⟩)⟩)
                | true =>
                  obtain ⟨b, rfl, hn, obb, oba⟩ := res
                  obtain ⟨u, hu, _⟩ := obb.at_
                  have he2 : (fun c => ((Z c ∨ (Owns σ s2 c ∧ c ≠ a)) ∨ c = a) ∨ c = b) = fun c => (Z c ∨ c = b) ∨ Owns σ s2 c := by
                    funext c
                    have hc : ((Z c ∨ (Owns σ s2 c ∧ c ≠ a)) ∨ c = a) = (Z c ∨ Owns σ s2 c) := congrFun he c
                    rw [hc]
                    exact propext ⟨fun z => z.elim (fun z => z.elim (fun z => .inl (.inl z)) .inr) fun z => .inl (.inr z), fun z => z.elim (fun z => z.elim (fun z => .inl (.inl z)) .inr) fun z => .inl (.inr z)⟩
                  rw [he2] at obb oba
                  have g3 := R2.change' (Z' := fun c => Z c ∨ c = b) e1 ea0 fk (fun _ z => .inl z) (fun c z n => by
                    rcases z with z | z
                    · exact absurd z n
                    · rw [z]; exact ⟨hn, by rw [hu]; nofun⟩) oba
                  exact k _ H' (PostE.after (g.trans g2) ⟨b, rfl, hn, g3, obb.ext rfl (hid_mono fun c o n y => ⟨fun z => n (z.imp id (owns_same e1).mp), y⟩), fun z => R2.ownIn ((owns_same e1).mp z) hn, fun z => R2.zin b z hn⟩)
end

section
variable {X : Cx} {W : WX} {e : Expr} {es : List Expr} {fs : PM (List Arg)} {p pos : Pos} {x : Str} {den : Den}
theorem qe_fnM {a C : Addr} {fd : FuncData} {ps : List Str} {k n : Nat} (F : FnOk X.prog X.w X.K X.mg X.base (L2.CX X.prog X.w) k a fd ps (spM (kx X) n den)) (hr : Room k X.A) (hg : Gl X x) (hm : X.mg x = some (.ref a)) (hk : PySem.W.keepIn X.K (.ref a) = true)
    (hb : Binds X.K fd ps []) (tk : Takes X W) (ha : QA X W (e :: es) fs) (hn : (e :: es).length = n) (hdb : (x == ("__debug__" : Str)) = false := by decide) (he : starEach (e :: es) X.env = (false, eval e X.env) :: starEach es X.env := by rfl)
    (hpl : (backTo pos (starEach es X.env)).any (·.1) = false := by rfl) : QE X W (.Call (.Name x p) (e :: es) [] pos) (eCallM den fs) :=
  qe_of (pe_callS (E := WE W) F hr hg hm hk hb (fun σ => passAt tk σ) ha.pa hdb he hpl) fun σ H Q h => callM_m (fun s rs s' q => (ha.len s rs s' q).trans hn) h
end
end HF
end

section
set_option Elab.async false
set_option linter.all false
set_option maxRecDepth 100000
set_option maxHeartbeats 1000000
set_option autoImplicit false
/-! HFA: what operators and built-in functions do with values. -/
namespace HF
open PySem PySem.Spec PyProof.Rows L2

/-! ### values as data -/
mutual
def peq : PV → PV → Bool
  | .non, .non => true
  | .bl a, .bl b => a == b
  | .int a, .int b => decide (a = b)
  | .str a, .str b => decide (a = b)
  | .tup a, .tup b => peqs a b
  | .lst a, .lst b => peqs a b
  | .dct k a, .dct l b => decide (k = l) && peqd a b
  | .rng a b, .rng c d => decide (a = c) && decide (b = d)
  | .scr a, .scr b => decide (a = b)
  | _, _ => false
def peqs : List PV → List PV → Bool
  | [], [] => true
  | a :: as, b :: bs => peq a b && peqs as bs
  | _, _ => false
def peqd : List (PV × PV) → List (PV × PV) → Bool
  | [], [] => true
  | (a, c) :: as, (b, d) :: bs => peq a b && peq c d && peqd as bs
  | _, _ => false
end
mutual
theorem peq_refl : ∀ p : PV, peq p p = true
  | .non => rfl
  | .bl a => by simp [peq]
  | .int a => by simp [peq]
  | .str a => by simp [peq]
  | .tup a => by simp [peq, peqs_refl a]
  | .lst a => by simp [peq, peqs_refl a]
  | .dct k a => by simp [peq, peqd_refl a]
  | .rng a b => by simp [peq]
  | .scr a => by simp [peq]
theorem peqs_refl : ∀ p : List PV, peqs p p = true
  | [] => rfl
  | a :: as => by simp [peqs, peq_refl a, peqs_refl as]
theorem peqd_refl : ∀ p : List (PV × PV), peqd p p = true
  | [] => rfl
  | (a, b) :: as => by simp [peqd, peq_refl a, peq_refl b, peqd_refl as]
end
mutual
theorem peq_eq : ∀ p q : PV, peq p q = true → p = q
  | .non, q, h => by cases q <;> simp [peq] at h ⊢
  | .bl a, q, h => by cases q <;> simp [peq] at h ⊢; exact h
  | .int a, q, h => by cases q <;> simp [peq] at h ⊢; exact h
  | .str a, q, h => by cases q <;> simp [peq] at h ⊢; exact h
  | .tup a, q, h => by cases q <;> simp [peq] at h ⊢; exact peqs_eq _ _ h
  | .lst a, q, h => by cases q <;> simp [peq] at h ⊢; exact peqs_eq _ _ h
  | .dct k a, q, h => by cases q <;> simp [peq] at h ⊢; exact ⟨h.1, peqd_eq _ _ h.2⟩
  | .rng a b, q, h => by cases q <;> simp [peq] at h ⊢; exact h
  | .scr a, q, h => by cases q <;> simp [peq] at h ⊢; exact h
theorem peqs_eq : ∀ p q : List PV, peqs p q = true → p = q
  | [], q, h => by cases q <;> simp [peqs] at h ⊢
  | a :: as, q, h => by
    cases q with
    | nil => simp [peqs] at h
    | cons b bs =>
      simp [peqs] at h
      rw [peq_eq _ _ h.1, peqs_eq _ _ h.2]
theorem peqd_eq : ∀ p q : List (PV × PV), peqd p q = true → p = q
  | [], q, h => by cases q <;> simp [peqd] at h ⊢
  | (a, c) :: as, q, h => by
    cases q with
    | nil => simp [peqd] at h
    | cons b bs =>
      obtain ⟨b, d⟩ := b
      simp [peqd] at h
      rw [peq_eq _ _ h.1.1, peq_eq _ _ h.1.2, peqd_eq _ _ h.2]
end
instance : DecidableEq PV := fun p q => if h : peq p q = true then .isTrue (peq_eq p q h) else .isFalse fun e => h (e ▸ peq_refl p)
theorem peq_dec (p q : PV) : peq p q = decide (p = q) := by
  by_cases e : p = q
  · subst e; simp [peq_refl]
  · simp [e]; cases h : peq p q with
    | false => rfl
    | true => exact absurd (peq_eq p q h) e
/-- data: ints, texts, None, tuples and lists of such, nested to n -/
def okb : Nat → PV → Bool
  | _, .int _ => true
  | _, .non => true
  | _, .str x => PySem.PyData.canLay0 (.str x)
  | n + 1, .tup ps => ps.all (okb n)
  | n + 1, .lst ps => ps.all (okb n)
  | _, _ => false
mutual
def toD : PV → PyData
  | .int i => .int i
  | .str x => .str x
  | .bl b => .bool b
  | .tup ps => .tuple (toDs ps)
  | .lst ps => .list (toDs ps)
  | _ => .none
def toDs : List PV → List PyData
  | [] => []
  | p :: ps => toD p :: toDs ps
end
theorem toDs_map : ∀ ps : List PV, toDs ps = ps.map toD
  | [] => rfl
  | p :: ps => by simp [toDs, toDs_map ps]
section
variable {K : Frg} {H Hv : Hp}
theorem RepB.full {v : V} {p : PV} (e : Ext Hv H) (r : RepB K H Hv v p) : Rep K H v p := by
  cases r with
  | of r => exact r.ext e
  | ob o => exact o.rep rfl e
theorem okb_dp : ∀ (n : Nat) (v : V) (p : PV), Rep K H v p → okb n p = true → Dp K.K H v (toD p) := by
  intro n
  induction n with
  | zero =>
    intro v p r h
    cases r <;> first | (simp [okb] at h; done) | skip
    · exact .non
    · exact .int _
    · exact .str _
  | succ n ih =>
    have all : ∀ (vs : List V) (ps : List PV), Reps K H vs ps → ps.all (okb n) = true → DpAll K.K H vs (toDs ps) := by
      intro vs ps r
      induction ps generalizing vs with
      | nil => intro _; cases r; exact .nil
      | cons p ps ih2 =>
        intro h
        cases r with
        | cons a r =>
          rw [List.all_cons, Bool.and_eq_true] at h
          exact .cons (ih _ _ a h.1) (ih2 _ r h.2)
    intro v p r h
    cases r <;> first | (simp [okb] at h; done) | skip
    · exact .non
    · exact .int _
    · exact .str _
    · rename_i q r; exact .tup q (all _ _ r (by simpa [okb] using h))
    · rename_i q r; exact .lst (.of q) (all _ _ r (by simpa [okb] using h))
end
theorem okb_lay : ∀ (n : Nat) (p : PV), okb n p = true → (toD p).canLay0 = true ∧ (toD p).depth ≤ n := by
  intro n
  induction n with
  | zero =>
    intro p h
    cases p <;> simp [okb] at h <;> simp [toD, PyData.canLay0, PyData.depth] at h ⊢
    exact h
  | succ n ih =>
    have all : ∀ (ps : List PV), ps.all (okb n) = true → PyData.canLayAll0 (toDs ps) = true ∧ PyData.depthAll (toDs ps) ≤ n := by
      intro ps
      induction ps with
      | nil => intro _; simp [toDs, PyData.canLayAll0, PyData.depthAll]
      | cons p ps ih2 =>
        intro h
        rw [List.all_cons, Bool.and_eq_true] at h
        obtain ⟨a1, a2⟩ := ih p h.1
        obtain ⟨b1, b2⟩ := ih2 h.2
        simp only [toDs, PyData.canLayAll0, PyData.depthAll, a1, b1, Bool.and_self, true_and]
        omega
    intro p h
    cases p <;> simp only [okb, Bool.false_eq_true] at h <;> simp only [toD, PyData.canLay0, PyData.depth] <;> first | exact ⟨trivial, Nat.zero_le _⟩ | skip
    · exact ⟨by simpa [PyData.canLay0] using h, Nat.zero_le _⟩
    · obtain ⟨a, b⟩ := all _ h; exact ⟨a, by omega⟩
    · obtain ⟨a, b⟩ := all _ h; exact ⟨a, by omega⟩
theorem okb_shaped {p : PV} (h : okb 60 p = true) : SeqAt.shaped (toD p) = true := by
  obtain ⟨a, b⟩ := okb_lay 60 p h
  unfold SeqAt.shaped
  rw [a, decide_eq_true (by omega : (toD p).depth ≤ 64)]
  rfl
theorem okb_eqv : ∀ (n m : Nat) (p q : PV), okb n p = true → okb m q = true → PyData.eqv (toD p) (toD q) = peq p q := by
  intro n
  induction n with
  | zero =>
    intro m p q h h2
    cases p <;> first | (simp only [okb, Bool.false_eq_true] at h; done) | skip
    all_goals cases q <;> first | (cases m <;> simp only [okb, Bool.false_eq_true] at h2; done) | (simp [toD, PyData.eqv, peq]; done) | (simp only [toD, PyData.eqv, peq]; rfl) | (simp only [toD, PyData.eqv, peq]; exact Bool.beq_eq_decide_eq _ _)
  | succ n ih =>
    have all : ∀ (m : Nat) (ps qs : List PV), ps.all (okb n) = true → qs.all (okb m) = true → PyData.eqvAll (toDs ps) (toDs qs) = peqs ps qs := by
      intro m ps
      induction ps with
      | nil => intro qs _ _; cases qs <;> simp [toDs, PyData.eqvAll, peqs]
      | cons p ps ih2 =>
        intro qs h h2
        cases qs with
        | nil => simp [toDs, PyData.eqvAll, peqs]
        | cons q qs =>
          rw [List.all_cons, Bool.and_eq_true] at h h2
          simp only [toDs, PyData.eqvAll, peqs, ih m p q h.1 h2.1, ih2 qs h.2 h2.2]
    intro m p q h h2
    cases p <;> first | (simp only [okb, Bool.false_eq_true] at h; done) | skip
    all_goals cases q <;> first | (cases m <;> simp only [okb, Bool.false_eq_true] at h2; done) | skip
    all_goals first
      | (cases m with
          | zero => simp [okb] at h2
          | succ m => simp only [okb] at h h2; simp only [toD, PyData.eqv, peq]; exact all m _ _ h h2)
      | (simp [toD, PyData.eqv, peq]; done) | (simp only [toD, PyData.eqv, peq]; rfl) | (simp only [toD, PyData.eqv, peq]; exact Bool.beq_eq_decide_eq _ _)
end HF
end

section
set_option Elab.async false
set_option linter.all false
set_option maxRecDepth 100000
set_option maxHeartbeats 1000000
set_option autoImplicit false
/-! HFB: operators by values. -/
namespace HF
open PySem PySem.Spec PyProof.Rows L2

/-! ### one rule for an operator of many kinds -/
def rOf1 (K : Frg) (o : Op1) : V → Hp → VK → Prop := fun x H Q => ∃ (Hv : Hp) (p q : PV) (fr : Bool), Ext Hv H ∧ RepB K H Hv x p ∧ o p = some (q, fr) ∧ ∀ v H', Post1 K H Hv v H' q fr → Q v H'
def rOf2 (K : Frg) (o : Op2) : R2 := fun x y H Q => ∃ (Hv : Hp) (p1 p2 q : PV) (fr : Bool), Ext Hv H ∧ RepB K H Hv x p1 ∧ RepB K H Hv y p2 ∧ o p1 p2 = some (q, fr) ∧ ∀ v H', Post1 K H Hv v H' q fr → Q v H'
def rOfN (K : Frg) (o : OpN) : List V → Hp → VK → Prop := fun xs H Q => ∃ (Hv : Hp) (ps : List PV) (q : PV) (fr : Bool), Ext Hv H ∧ RepBs K H Hv xs ps ∧ o ps = some (q, fr) ∧ ∀ v H', Post1 K H Hv v H' q fr → Q v H'
def RO1 (K : Frg) (r : V → Hp → VK → Prop) (p q : PV) (fr : Bool) : Prop := ∀ (H Hv : Hp) (x : V) (Q : VK), Ext Hv H → RepB K H Hv x p → (∀ v H', Post1 K H Hv v H' q fr → Q v H') → r x H Q
def RO2 (K : Frg) (r : R2) (p1 p2 q : PV) (fr : Bool) : Prop := ∀ (H Hv : Hp) (x y : V) (Q : VK), Ext Hv H → RepB K H Hv x p1 → RepB K H Hv y p2 → (∀ v H', Post1 K H Hv v H' q fr → Q v H') → r x y H Q
def RON (K : Frg) (r : List V → Hp → VK → Prop) (ps : List PV) (q : PV) (fr : Bool) : Prop := ∀ (H Hv : Hp) (xs : List V) (Q : VK), Ext Hv H → RepBs K H Hv xs ps → (∀ v H', Post1 K H Hv v H' q fr → Q v H') → r xs H Q
theorem rof1 {K : Frg} {o : Op1} : ROk1 K (rOf1 K o) o := fun H Hv x p q fr Q e r h k => ⟨Hv, p, q, fr, e, r, h, k⟩
theorem rof2 {K : Frg} {o : Op2} : ROk2 K (rOf2 K o) o := fun H Hv x y p1 p2 q fr Q e r1 r2 h k => ⟨Hv, p1, p2, q, fr, e, r1, r2, h, k⟩
theorem rofN {K : Frg} {o : OpN} : ROkN K (rOfN K o) o := fun H Hv xs ps q fr Q e r h k => ⟨Hv, ps, q, fr, e, r, h, k⟩
section
variable {X : Cx}
theorem unr_of {f : Value → Sem Value} {o : Op1} (h : ∀ p q fr, o p = some (q, fr) → ∃ r, UnR X f r ∧ RO1 (kx X) r p q fr) : UnR X f (rOf1 (kx X) o) := by
  intro pins s σ H x v Q I rx ⟨Hv, p, q, fr, e, r1, ho, k⟩
  obtain ⟨r, hr, ok⟩ := h p q fr ho
  exact hr pins s σ H x v Q I rx (ok H Hv x Q e r1 k)
theorem opr_of {f : Value → Value → Sem Value} {o : Op2} (h : ∀ p1 p2 q fr, o p1 p2 = some (q, fr) → ∃ r, OpR X f r ∧ RO2 (kx X) r p1 p2 q fr) : OpR X f (rOf2 (kx X) o) := by
  intro pins s σ H x y v u Q I rx ry ⟨Hv, p1, p2, q, fr, e, r1, r2, ho, k⟩
  obtain ⟨r, hr, ok⟩ := h p1 p2 q fr ho
  exact hr pins s σ H x y v u Q I rx ry (ok H Hv x y Q e r1 r2 k)
theorem ixr_of {o : Op2} (h : ∀ p1 p2 q fr, o p1 p2 = some (q, fr) → ∃ r, IxR X r ∧ RO2 (kx X) r p1 p2 q fr) : IxR X (rOf2 (kx X) o) := by
  intro value slice pins s σ H x y v u Q I rx ry ⟨Hv, p1, p2, q, fr, e, r1, r2, ho, k⟩ hs
  obtain ⟨r, hr, ok⟩ := h p1 p2 q fr ho
  exact hr value slice pins s σ H x y v u Q I rx ry (ok H Hv x y Q e r1 r2 k) hs
theorem callr_of {f : Value} {o : OpN} (h : ∀ ps q fr, o ps = some (q, fr) → ∃ r, CallR X f r ∧ RON (kx X) r ps q fr) : CallR X f (rOfN (kx X) o) := by
  intro pins s σ H xs us Q I rx ⟨Hv, ps, q, fr, e, r1, ho, k⟩
  obtain ⟨r, hr, ok⟩ := h ps q fr ho
  exact hr pins s σ H xs us Q I rx (ok H Hv xs Q e r1 k)
end

/-! ### what stands behind a value -/
section
variable {K : Frg} {H Hv : Hp} {x : V}
theorem rb_non (r : RepB K H Hv x .non) : x = .non := by
  cases r with
  | of r => cases r; rfl
  | ob o => exact o.elim
theorem rb_bl {b : Bool} (r : RepB K H Hv x (.bl b)) : x = .bl b := by
  cases r with
  | of r => cases r; rfl
  | ob o => exact o.elim
theorem rb_int {i : Int} (r : RepB K H Hv x (.int i)) : x = .int i := by
  cases r with
  | of r => cases r; rfl
  | ob o => exact o.elim
theorem rb_str {z : Str} (r : RepB K H Hv x (.str z)) : x = .str z := by
  cases r with
  | of r => cases r; rfl
  | ob o => exact o.elim
theorem rb_tup {ps : List PV} (e : Ext Hv H) (r : RepB K H Hv x (.tup ps)) : ∃ a vs, x = .ref a ∧ SqT K.K H a vs ∧ Reps K Hv vs ps ∧ Rep K Hv x (.tup ps) := by
  cases r with
  | of r =>
    cases r with
    | tup h r => exact ⟨_, _, rfl, e.sqT h, r, .tup h r⟩
  | ob o => exact o.elim
theorem rb_lst {ps : List PV} (e : Ext Hv H) (r : RepB K H Hv x (.lst ps)) : ∃ a vs, x = .ref a ∧ H a = some (.lst vs) ∧ Reps K Hv vs ps := by
  cases r with
  | of r =>
    cases r with
    | lst h r => exact ⟨_, _, rfl, e _ _ h, r⟩
  | ob o => obtain ⟨vs, h, r⟩ := o; exact ⟨_, vs, rfl, h, r⟩
theorem rb_scr {ns : List Int} (e : Ext Hv H) (r : RepB K H Hv x (.scr ns)) : ∃ a, x = .ref a ∧ SqL K.K H a (ns.map V.int) := by
  cases r with
  | of r =>
    cases r with
    | scr h => exact ⟨_, rfl, e.sqL h⟩
  | ob o => exact o.elim
theorem rb_rng {lo hi : Int} (e : Ext Hv H) (r : RepB K H Hv x (.rng lo hi)) : ∃ a, x = .ref a ∧ H a = some (.rng lo hi) := by
  cases r with
  | of r =>
    cases r with
    | rng h => exact ⟨_, rfl, e _ _ h⟩
  | ob o => exact o.elim
theorem rb_dct {k : Nat} {kvs : List (PV × PV)} (e : Ext Hv H) (r : RepB K H Hv x (.dct k kvs)) : ∃ a l, x = .ref a ∧ RDAt K H a k l ∧ RepD K Hv l kvs := by
  cases r with
  | of r =>
    cases r with
    | dct h r => exact ⟨_, _, rfl, e.dAt h, r⟩
  | ob o => obtain ⟨l, h, r⟩ := o; exact ⟨_, l, rfl, h.rd, r⟩
theorem rbs_1 {xs : List V} {p : PV} (r : RepBs K H Hv xs [p]) : ∃ x, xs = [x] ∧ RepB K H Hv x p := by
  cases r with
  | cons a t => cases t; exact ⟨_, rfl, a⟩
theorem rbs_2 {xs : List V} {p q : PV} (r : RepBs K H Hv xs [p, q]) : ∃ x y, xs = [x, y] ∧ RepB K H Hv x p ∧ RepB K H Hv y q := by
  cases r with
  | cons a t =>
    cases t with
    | cons b t => cases t; exact ⟨_, _, rfl, a, b⟩
theorem rbs_3 {xs : List V} {p q r' : PV} (r : RepBs K H Hv xs [p, q, r']) : ∃ x y z, xs = [x, y, z] ∧ RepB K H Hv x p ∧ RepB K H Hv y q ∧ RepB K H Hv z r' := by
  cases r with
  | cons a t =>
    cases t with
    | cons b t =>
      cases t with
      | cons c t => cases t; exact ⟨_, _, _, rfl, a, b, c⟩
theorem p1_int (e : Ext Hv H) (i : Int) : Post1 K H Hv (.int i) H (.int i) false := post1_same e (.int i)
theorem p1_bl (e : Ext Hv H) (i : Bool) : Post1 K H Hv (.bl i) H (.bl i) false := post1_same e (.bl i)
theorem p1_str (e : Ext Hv H) (i : Str) : Post1 K H Hv (.str i) H (.str i) false := post1_same e (.str i)
end
abbrev sI (i : Int) : Option (PV × Bool) := some (.int i, false)
abbrev sB (b : Bool) : Option (PV × Bool) := some (.bl b, false)
theorem ro_ii {K : Frg} {g : Int → Int → Int} {C : Int → Int → Prop} {i j : Int} (h : C i j) : RO2 K (rI C fun i j => .int (g i j)) (.int i) (.int j) (.int (g i j)) false := fun H Hv x y Q e r1 r2 k => ⟨i, j, rb_int r1, rb_int r2, h, k _ _ (p1_int e _)⟩
theorem ro_i0 {K : Frg} {g : Int → Int → Int} {i j : Int} : RO2 K (rI0 fun i j => .int (g i j)) (.int i) (.int j) (.int (g i j)) false := fun H Hv x y Q e r1 r2 k => ⟨i, j, rb_int r1, rb_int r2, k _ _ (p1_int e _)⟩
theorem ro_b0 {K : Frg} {g : Int → Int → Bool} {i j : Int} : RO2 K (rI0 fun i j => .bl (g i j)) (.int i) (.int j) (.bl (g i j)) false := fun H Hv x y Q e r1 r2 k => ⟨i, j, rb_int r1, rb_int r2, k _ _ (p1_bl e _)⟩

/-! ### + - * // % -/
def opAdd : Op2
  | .int i, .int j => sI (i + j)
  | .int i, .bl b => sI (i + b2i b)
  | .tup a, .tup b => if a.length + b.length ≤ sizeLine then some (.tup (a ++ b), false) else none
  | .lst a, .lst b => if a.length + b.length ≤ sizeLine then some (.lst (a ++ b), true) else none
  | _, _ => none
def opSub : Op2
  | .int i, .int j => sI (i - j)
  | _, _ => none
def mulOk (i j : Int) : Bool := decide (i.natAbs.log2 + j.natAbs.log2 < 1000000)
def opMul : Op2
  | .int i, .int j => if mulOk i j then sI (i * j) else none
  | .lst a, .int k => if 0 ≤ k ∧ k < 2 ^ 63 ∧ a.length * k.toNat ≤ sizeLine then some (.lst (List.replicate k.toNat a).flatten, true) else none
  | .tup a, .int k => if a ≠ [] ∧ 2 ≤ k ∧ k ≤ 1000 ∧ a.length ≤ 1000 then some (.tup (List.replicate k.toNat a).flatten, false) else none
  | _, _ => none
def divOk (j : Int) : Bool := decide (0 < j) && decide (j.natAbs.log2 < 9000)
def opFdiv : Op2
  | .int i, .int j => if divOk j then sI (i / j) else none
  | _, _ => none
def opMod : Op2
  | .int i, .int j => if 0 < j then sI (i % j) else none
  | _, _ => none
def opNeg : Op1
  | .int i => sI (-i)
  | _ => none
section
variable {X : Cx} {K : Frg}
theorem reps_rep {H : Hp} {vs : List V} {ps : List PV} (r : Reps K H vs ps) : ∀ n, Reps K H (List.replicate n vs).flatten (List.replicate n ps).flatten
  | 0 => .nil
  | n + 1 => by rw [List.replicate_succ, List.replicate_succ, List.flatten_cons, List.flatten_cons]; exact r.append (reps_rep r n)
theorem opr_add : OpR X (binaryOp .Add) (rOf2 (kx X) opAdd) := opr_of fun p1 p2 q fr h => by
  match p1, p2, h with
  | .int i, .int j, h => cases h; exact ⟨_, op_add, ro_i0⟩
  | .int i, .bl b, h =>
    cases h
    exact ⟨_, op_add_ib, fun H Hv x y Q e r1 r2 k => ⟨i, b, rb_int r1, rb_bl r2, k _ _ (p1_int e _)⟩⟩
  | .tup a, .tup b, h =>
    simp only [opAdd] at h
    split at h
    · rename_i hl
      cases h
      refine ⟨_, op_catA, fun H Hv x y Q e r1 r2 k => ?_⟩
      obtain ⟨a1, vs, rfl, h1, q1, w1⟩ := rb_tup e r1
      obtain ⟨a2, ws, rfl, h2, q2, w2⟩ := rb_tup e r2
      refine ⟨a1, a2, vs, ws, rfl, rfl, h1, h2, by rw [q1.length, q2.length]; exact hl, fun z => ?_, fun _ z => ?_, fun _ _ p hp => ?_⟩
      · subst z; cases q1; exact k _ _ (post1_same e w2)
      · subst z; cases q2; exact k _ _ (post1_same e (by rw [List.append_nil]; exact w1))
      · exact k _ _ (post1_tup e hp (q1.append q2))
    · cases h
  | .lst a, .lst b, h =>
    simp only [opAdd] at h
    split at h
    · rename_i hl
      cases h
      refine ⟨_, op_cat, fun H Hv x y Q e r1 r2 k => ?_⟩
      obtain ⟨a1, vs, rfl, h1, q1⟩ := rb_lst e r1
      obtain ⟨a2, ws, rfl, h2, q2⟩ := rb_lst e r2
      exact ⟨a1, a2, vs, ws, rfl, rfl, h1, h2, by rw [q1.length, q2.length]; exact hl, fun p hp => k _ _ (post1_lst e hp (q1.append q2))⟩
    · cases h
theorem opr_sub : OpR X (binaryOp .Sub) (rOf2 (kx X) opSub) := opr_of fun p1 p2 q fr h => by
  match p1, p2, h with
  | .int i, .int j, h => cases h; exact ⟨_, op_sub, ro_i0⟩
theorem opr_mul : OpR X (binaryOp .Mult) (rOf2 (kx X) opMul) := opr_of fun p1 p2 q fr h => by
  match p1, p2, h with
  | .int i, .int j, h =>
    simp only [opMul] at h
    split at h
    · rename_i hc
      cases h
      exact ⟨_, op_mulW, ro_ii (C := CMulW) (by unfold mulOk at hc; rw [decide_eq_true_eq] at hc; exact hc)⟩
    · cases h
  | .lst a, .int j, h =>
    simp only [opMul] at h
    split at h
    · rename_i hc
      cases h
      refine ⟨_, op_rep, fun H Hv x y Q e r1 r2 k => ?_⟩
      obtain ⟨a1, vs, rfl, h1, q1⟩ := rb_lst e r1
      exact ⟨a1, j, vs, rfl, rb_int r2, h1, by omega, hc.2.1, by rw [q1.length]; exact hc.2.2, fun p hp => k _ _ (post1_lst e hp (reps_rep q1 _))⟩
    · cases h
  | .tup a, .int j, h =>
    simp only [opMul] at h
    split at h
    · rename_i hc
      cases h
      refine ⟨_, op_repT, fun H Hv x y Q e r1 r2 k => ?_⟩
      obtain ⟨a1, vs, rfl, h1, q1, _⟩ := rb_tup e r1
      exact ⟨a1, j, vs, rfl, rb_int r2, h1, fun z => hc.1 (by subst z; cases q1; rfl), hc.2.1, hc.2.2.1, by rw [q1.length]; exact hc.2.2.2, fun p hp => k _ _ (post1_tup e hp (reps_rep q1 _))⟩
    · cases h
theorem opr_fdiv : OpR X (binaryOp .FloorDiv) (rOf2 (kx X) opFdiv) := opr_of fun p1 p2 q fr h => by
  match p1, p2, h with
  | .int i, .int j, h =>
    simp only [opFdiv] at h
    split at h
    · rename_i hc
      cases h
      unfold divOk at hc
      rw [Bool.and_eq_true, decide_eq_true_eq, decide_eq_true_eq] at hc
      exact ⟨_, op_fdivW, ro_ii (C := CDivW) hc⟩
    · cases h
theorem opr_mod : OpR X (binaryOp .Mod) (rOf2 (kx X) opMod) := opr_of fun p1 p2 q fr h => by
  match p1, p2, h with
  | .int i, .int j, h =>
    simp only [opMod] at h
    split at h
    · rename_i hc
      cases h
      exact ⟨_, op_mod, ro_ii (C := fun _ j => 0 < j) hc⟩
    · cases h
theorem unr_neg : UnR X (unaryOp .USub) (rOf1 (kx X) opNeg) := unr_of fun p q fr h => by
  match p, h with
  | .int i, h => cases h; exact ⟨_, un_neg, fun H Hv x Q e r1 k => ⟨i, rb_int r1, k _ _ (p1_int e _)⟩⟩
end

/-! ### comparisons -/
def opEq : Op2
  | .bl a, .bl b => sB (decide (a = b))
  | p, q => if okb 60 p && okb 60 q then sB (peq p q) else none
def opNe : Op2
  | .bl a, .bl b => sB (!decide (a = b))
  | p, q => if okb 60 p && okb 60 q then sB (!peq p q) else none
def opLt : Op2
  | .int i, .int j => sB (decide (i < j))
  | _, _ => none
def opLe : Op2
  | .int i, .int j => sB (decide (i ≤ j))
  | _, _ => none
def opGt : Op2
  | .int i, .int j => sB (decide (j < i))
  | _, _ => none
def opGe : Op2
  | .int i, .int j => sB (decide (j ≤ i))
  | _, _ => none
def isN : PV → Bool
  | .non => true
  | _ => false
def opIs : Op2
  | p, .non => sB (isN p)
  | .bl a, .bl b => sB (decide (a = b))
  | _, _ => none
def opIsNot : Op2
  | p, .non => sB (!isN p)
  | .bl a, .bl b => sB (!decide (a = b))
  | _, _ => none
section
variable {X : Cx} {K : Frg}
theorem isN_v {H Hv : Hp} {x : V} {p : PV} (r : RepB K H Hv x p) : decide (x = .non) = isN p := by
  cases r with
  | of r => cases r <;> simp [isN]
  | ob o => cases p <;> first | (simp [isN]; done) | exact o.elim
theorem eqD_case (hu : X.A.units + 64 < cLine) {p1 p2 : PV} (h : (okb 60 p1 && okb 60 p2) = true) : ∃ r, OpR X (compareOp .Eq) r ∧ RO2 (kx X) r p1 p2 (.bl (peq p1 p2)) false := by
  rw [Bool.and_eq_true] at h
  refine ⟨_, op_eqD hu, fun H Hv x y Q e r1 r2 k => ⟨toD p1, toD p2, okb_dp _ _ _ (r1.full e) h.1, okb_dp _ _ _ (r2.full e) h.2, okb_shaped h.1, okb_shaped h.2, ?_⟩⟩
  rw [okb_eqv _ _ _ _ h.1 h.2]
  exact k _ _ (p1_bl e _)
theorem neD_case (hu : X.A.units + 64 < cLine) {p1 p2 : PV} (h : (okb 60 p1 && okb 60 p2) = true) : ∃ r, OpR X (compareOp .NotEq) r ∧ RO2 (kx X) r p1 p2 (.bl (!peq p1 p2)) false := by
  rw [Bool.and_eq_true] at h
  refine ⟨_, op_neD hu, fun H Hv x y Q e r1 r2 k => ⟨toD p1, toD p2, okb_dp _ _ _ (r1.full e) h.1, okb_dp _ _ _ (r2.full e) h.2, okb_shaped h.1, okb_shaped h.2, ?_⟩⟩
  rw [okb_eqv _ _ _ _ h.1 h.2]
  exact k _ _ (p1_bl e _)
theorem opEq_data {p q : PV} (h : ∀ a b, p = .bl a → q = .bl b → False) : opEq p q = if okb 60 p && okb 60 q then sB (peq p q) else none := by
  unfold opEq
  split
  · exact (h _ _ rfl rfl).elim
  · rfl
theorem opNe_data {p q : PV} (h : ∀ a b, p = .bl a → q = .bl b → False) : opNe p q = if okb 60 p && okb 60 q then sB (!peq p q) else none := by
  unfold opNe
  split
  · exact (h _ _ rfl rfl).elim
  · rfl
theorem opr_eq (hu : X.A.units + 64 < cLine) : OpR X (compareOp .Eq) (rOf2 (kx X) opEq) := opr_of fun p1 p2 q fr h => by
  by_cases z : ∃ a b, p1 = .bl a ∧ p2 = .bl b
  · obtain ⟨a, b, rfl, rfl⟩ := z
    cases h
    refine ⟨_, op_eq, fun H Hv x y Q e r1 r2 k => ?_⟩
    rw [rb_bl r1, rb_bl r2]
    refine ⟨rfl, ?_⟩
    rw [show decide (V.bl a = V.bl b) = decide (a = b) by simp]
    exact k _ _ (p1_bl e _)
  · rw [opEq_data fun a b h1 h2 => z ⟨a, b, h1, h2⟩] at h
    split at h
    · rename_i hc
      cases h
      exact eqD_case hu hc
    · cases h
theorem opr_ne (hu : X.A.units + 64 < cLine) : OpR X (compareOp .NotEq) (rOf2 (kx X) opNe) := opr_of fun p1 p2 q fr h => by
  by_cases z : ∃ a b, p1 = .bl a ∧ p2 = .bl b
  · obtain ⟨a, b, rfl, rfl⟩ := z
    cases h
    refine ⟨_, op_ne, fun H Hv x y Q e r1 r2 k => ?_⟩
    rw [rb_bl r1, rb_bl r2]
    refine ⟨rfl, ?_⟩
    rw [show (!decide (V.bl a = V.bl b)) = !decide (a = b) by simp]
    exact k _ _ (p1_bl e _)
  · rw [opNe_data fun a b h1 h2 => z ⟨a, b, h1, h2⟩] at h
    split at h
    · rename_i hc
      cases h
      exact neD_case hu hc
    · cases h
theorem opr_lt : OpR X (compareOp .Lt) (rOf2 (kx X) opLt) := opr_of fun p1 p2 q fr h => by
  match p1, p2, h with
  | .int i, .int j, h => cases h; exact ⟨_, op_lt, ro_b0⟩
theorem opr_le : OpR X (compareOp .LtE) (rOf2 (kx X) opLe) := opr_of fun p1 p2 q fr h => by
  match p1, p2, h with
  | .int i, .int j, h => cases h; exact ⟨_, op_le, ro_b0⟩
theorem opr_gt : OpR X (compareOp .Gt) (rOf2 (kx X) opGt) := opr_of fun p1 p2 q fr h => by
  match p1, p2, h with
  | .int i, .int j, h => cases h; exact ⟨_, op_gt, ro_b0⟩
theorem opr_ge : OpR X (compareOp .GtE) (rOf2 (kx X) opGe) := opr_of fun p1 p2 q fr h => by
  match p1, p2, h with
  | .int i, .int j, h => cases h; exact ⟨_, op_ge, ro_b0⟩
theorem is_case {p : PV} : ∃ r, OpR X (compareOp .Is) r ∧ RO2 (kx X) r p .non (.bl (isN p)) false :=
  ⟨_, op_isN, fun H Hv x y Q e r1 r2 k => ⟨rb_non r2, by rw [isN_v r1]; exact k _ _ (p1_bl e _)⟩⟩
theorem isnot_case {p : PV} : ∃ r, OpR X (compareOp .IsNot) r ∧ RO2 (kx X) r p .non (.bl (!isN p)) false :=
  ⟨_, op_notN, fun H Hv x y Q e r1 r2 k => ⟨rb_non r2, by rw [isN_v r1]; exact k _ _ (p1_bl e _)⟩⟩
theorem opIs_non {p : PV} : opIs p .non = sB (isN p) := by cases p <;> rfl
theorem opIsNot_non {p : PV} : opIsNot p .non = sB (!isN p) := by cases p <;> rfl
theorem opr_is : OpR X (compareOp .Is) (rOf2 (kx X) opIs) := opr_of fun p1 p2 q fr h => by
  cases p2 with
  | non => rw [opIs_non] at h; cases h; exact is_case
  | bl b =>
    cases p1 with
    | bl a =>
      cases h
      exact ⟨_, op_is_bl, fun H Hv x y Q e r1 r2 k => ⟨a, b, rb_bl r1, rb_bl r2, k _ _ (p1_bl e _)⟩⟩
    | _ => simp [opIs] at h
  | _ => simp [opIs] at h
theorem opr_isnot : OpR X (compareOp .IsNot) (rOf2 (kx X) opIsNot) := opr_of fun p1 p2 q fr h => by
  cases p2 with
  | non => rw [opIsNot_non] at h; cases h; exact isnot_case
  | bl b =>
    cases p1 with
    | bl a =>
      cases h
      exact ⟨_, op_isnot_bl, fun H Hv x y Q e r1 r2 k => ⟨a, b, rb_bl r1, rb_bl r2, k _ _ (p1_bl e _)⟩⟩
    | _ => simp [opIsNot] at h
  | _ => simp [opIsNot] at h
end
end HF
end

section
set_option Elab.async false
set_option linter.all false
set_option maxRecDepth 100000
set_option maxHeartbeats 1000000
set_option autoImplicit false
/-! HFC: subscripts, membership, dicts. -/
namespace HF
open PySem PySem.Spec PyProof.Rows L2

/-! ### keys that are tuples -/
mutual
def nkOf : PV → NestedKey
  | .int i => .num i
  | .str x => .text x
  | .tup ps => .tup (nkOfs ps)
  | _ => .none
def nkOfs : List PV → List NestedKey
  | [] => []
  | p :: ps => nkOf p :: nkOfs ps
end
mutual
theorem nk_pv : ∀ k : NestedKey, nkOf (pvK k) = k
  | .none => rfl
  | .num _ => rfl
  | .text _ => rfl
  | .tup ks => by simp only [pvK, nkOf, nks_pv ks]
theorem nks_pv : ∀ ks : List NestedKey, nkOfs (pvKs ks) = ks
  | [] => rfl
  | k :: ks => by simp only [pvKs, nkOfs, nk_pv k, nks_pv ks]
end
theorem pvK_inj {a b : NestedKey} (h : pvK a = pvK b) : a = b := by rw [← nk_pv a, ← nk_pv b, h]
def isTup : PV → Bool
  | .tup _ => true
  | _ => false
/-- may be a key of a dict of tuples -/
def kb (q : PV) : Bool := isTup q && peq (pvK (nkOf q)) q && decide ((nkOf q).depth ≤ 8)
theorem kb_at {q : PV} (h : kb q = true) : pvK (nkOf q) = q ∧ (nkOf q).depth ≤ 8 := by
  unfold kb at h
  rw [Bool.and_eq_true, Bool.and_eq_true, decide_eq_true_eq] at h
  exact ⟨peq_eq _ _ h.1.2, h.2⟩
section
variable {X : Cx} {pins : List (Addr × Obj)} {σ : L2.St} {H Hv : Hp} {s : Shared}
mutual
theorem rep_nk (I : Inv X pins σ H s) : ∀ (k : NestedKey) (v : V) (u : Value), Rep (kx X) H v (pvK k) → RelV v u → NestedIs s.heap k u
  | .none, v, u, h, r => by cases h; cases r; exact .none
  | .num i, v, u, h, r => by cases h; obtain ⟨t, rfl⟩ := r; exact .int i t
  | .text x, v, u, h, r => by cases h; obtain ⟨t, rfl⟩ := r; exact .text x t
  | .tup ks, v, u, h, r => by
    cases h with
    | tup h1 h2 =>
      cases (show u = Value.ref _ from r)
      obtain ⟨its, rv, ⟨o, e, hc, n, hd⟩, _⟩ := I.tuple h1
      exact .tup e hc hd (by simpa using rep_nks I ks _ its h2 rv)
theorem rep_nks (I : Inv X pins σ H s) : ∀ (ks : List NestedKey) (vs : List V) (us : List Value), Reps (kx X) H vs (pvKs ks) → Vals vs us → NestedAll s.heap ks us
  | [], vs, us, h, r => by cases h; cases r; exact .nil
  | k :: ks, vs, us, h, r => by
    cases h with
    | cons a b =>
      cases r with
      | cons r1 r2 => exact .cons (rep_nk I k _ _ a r1) (rep_nks I ks _ _ b r2)
end
end

/-! ### tables -/
def dGet : List (PV × PV) → PV → Option PV
  | [], _ => none
  | (a, b) :: r, q => if peq a q then some b else dGet r q
def dPut (kvs : List (PV × PV)) (q x : PV) : List (PV × PV) := match dGet kvs q with
  | some _ => kvs.map fun e => if peq e.1 q then (e.1, x) else e
  | none => kvs ++ [(q, x)]
abbrev XN := List (NestedKey × Addr × V)
def atV : XN → NestedKey → Option V
  | [], _ => none
  | x :: r, k => if x.1 = k then some x.2.2 else atV r k
def stV (xs : XN) (k : NestedKey) (b : Addr) (v : V) : XN := match atV xs k with
  | some _ => xs.map fun x => if x.1 = k then (x.1, x.2.1, v) else x
  | none => xs ++ [(k, b, v)]
theorem kn_at {xs : XN} {ys : List (NestedKey × Addr × Value)} (r : KN xs ys) (k : NestedKey) : RelO (atV xs k) ((atKey ys k).map (·.2)) := by
  induction r with
  | nil => exact True.intro
  | cons a _ ih =>
    rename_i x y xs ys _
    obtain ⟨h1, h2, h3⟩ := a
    by_cases e : x.1 = k
    · have e2 : y.1 = k := h1 ▸ e
      simp only [atV, if_pos e, atKey, List.find?_cons, decide_eq_true e2]
      exact h3
    · have e2 : ¬ y.1 = k := h1 ▸ e
      simp only [atV, if_neg e, atKey, List.find?_cons, decide_eq_false e2]
      exact ih
theorem kn_map {xs : XN} {ys : List (NestedKey × Addr × Value)} (r : KN xs ys) (k : NestedKey) {v : V} {u : Value} (ru : RelV v u) : KN (xs.map fun x => if x.1 = k then (x.1, x.2.1, v) else x) (ys.map (putAt k u)) := by
  induction r with
  | nil => exact .nil
  | cons a _ ih =>
    rename_i x y xs ys _
    obtain ⟨h1, h2, h3⟩ := a
    refine .cons ?_ ih
    unfold putAt
    by_cases e : x.1 = k
    · have e2 : y.1 = k := h1 ▸ e
      simp only [if_pos e, if_pos e2]
      exact ⟨h1, h2, ru⟩
    · have e2 : ¬ y.1 = k := h1 ▸ e
      simp only [if_neg e, if_neg e2]
      exact ⟨h1, h2, h3⟩
theorem kn_snoc {xs : XN} {ys : List (NestedKey × Addr × Value)} (r : KN xs ys) (k : NestedKey) (b : Addr) {v : V} {u : Value} (ru : RelV v u) : KN (xs ++ [(k, b, v)]) (ys ++ [(k, b, u)]) := by
  induction r with
  | nil => exact .cons ⟨rfl, rfl, ru⟩ .nil
  | cons a _ ih => exact .cons a ih
theorem kn_put {xs : XN} {ys : List (NestedKey × Addr × Value)} (r : KN xs ys) (k : NestedKey) (b : Addr) {v : V} {u : Value} (ru : RelV v u) : KN (stV xs k b v) (storedH ys k b u) := by
  have h := kn_at r k
  unfold stV storedH
  cases e : atV xs k with
  | some z =>
    rw [e] at h
    cases e2 : atKey ys k with
    | none => rw [e2] at h; exact h.elim
    | some p =>
      simp only [Option.isSome_some, if_true]
      exact kn_map r k ru
  | none =>
    rw [e] at h
    cases e2 : atKey ys k with
    | some p => rw [e2] at h; exact h.elim
    | none =>
      simp only [Option.isSome_none, Bool.false_eq_true, if_false]
      exact kn_snoc r k b ru
theorem kn_len {xs : XN} {ys : List (NestedKey × Addr × Value)} (r : KN xs ys) : xs.length = ys.length := Paired.length r
theorem stV_len (xs : XN) (k : NestedKey) (b : Addr) (v : V) : (stV xs k b v).length ≤ xs.length + 1 := by
  unfold stV
  split <;> simp
abbrev lN (xs : XN) : List (PV × V × V) := xs.map fun x => (pvK x.1, .ref x.2.1, x.2.2)
abbrev lK (kvs : List (Key × V)) : List (PV × V × V) := kvs.map fun p => (kPV p.1, kV p.1, p.2)
section
variable {K : Frg} {H Hv : Hp}
theorem kPV_inj {a b : Key} (h : kPV a = kPV b) : a = b := by
  match a, b, h with
  | .inl i, .inl j, h => cases h; rfl
  | .inr i, .inr j, h => cases h; rfl
/-- what is found -/
theorem rd1_get {xs : XN} {pv : List (PV × PV)} (r : RepD K Hv (lN xs) pv) (k : NestedKey) : (∃ v p, atV xs k = some v ∧ dGet pv (pvK k) = some p ∧ Rep K Hv v p) ∨ (atV xs k = none ∧ dGet pv (pvK k) = none) := by
  induction xs generalizing pv with
  | nil => cases r; exact .inr ⟨rfl, rfl⟩
  | cons x xs ih =>
    cases r with
    | cons a b c =>
      by_cases e : x.1 = k
      · subst e
        exact .inl ⟨_, _, by simp only [atV, if_true], by simp only [dGet, peq_refl, if_true], b⟩
      · have e2 : peq (pvK x.1) (pvK k) = false := by rw [peq_dec]; exact decide_eq_false fun z => e (pvK_inj z)
        simp only [atV, if_neg e, dGet, e2, Bool.false_eq_true, if_false]
        exact ih c
theorem rd0_get {kvs : List (Key × V)} {pv : List (PV × PV)} (r : RepD K Hv (lK kvs) pv) (k : Key) : (∃ v p, valV kvs k = some v ∧ dGet pv (kPV k) = some p ∧ Rep K Hv v p) ∨ (valV kvs k = none ∧ dGet pv (kPV k) = none) := by
  induction kvs generalizing pv with
  | nil => cases r; exact .inr ⟨rfl, rfl⟩
  | cons x xs ih =>
    cases r with
    | cons a b c =>
      by_cases e : x.1 = k
      · subst e
        exact .inl ⟨_, _, valV_pos rfl, by simp only [dGet, peq_refl, if_true], b⟩
      · have e2 : peq (kPV x.1) (kPV k) = false := by rw [peq_dec]; exact decide_eq_false fun z => e (kPV_inj z)
        simp only [valV_neg e, dGet, e2, Bool.false_eq_true, if_false]
        exact ih c
theorem rd_snoc {l : List (PV × V × V)} {pv : List (PV × PV)} {q p : PV} {u v : V} (r : RepD K Hv l pv) (a : Rep K Hv u q) (b : Rep K Hv v p) : RepD K Hv (l ++ [(q, u, v)]) (pv ++ [(q, p)]) := by
  induction l generalizing pv with
  | nil => cases r; exact .cons a b .nil
  | cons x xs ih => cases r with | cons a1 b1 c => exact .cons a1 b1 (ih c)
theorem rd1_map {xs : XN} {pv : List (PV × PV)} (r : RepD K Hv (lN xs) pv) (k : NestedKey) {v : V} {p : PV} (rv : Rep K Hv v p) : RepD K Hv (lN (xs.map fun x => if x.1 = k then (x.1, x.2.1, v) else x)) (pv.map fun e => if peq e.1 (pvK k) then (e.1, p) else e) := by
  induction xs generalizing pv with
  | nil => cases r; exact .nil
  | cons x xs ih =>
    cases r with
    | cons a b c =>
      by_cases e : x.1 = k
      · subst e
        simp only [lN, List.map_cons, if_true, peq_refl]
        exact .cons a rv (ih c)
      · have e2 : peq (pvK x.1) (pvK k) = false := by rw [peq_dec]; exact decide_eq_false fun z => e (pvK_inj z)
        simp only [lN, List.map_cons, if_neg e, e2, Bool.false_eq_true, if_false]
        exact .cons a b (ih c)
theorem rd0_map {xs : List (Key × V)} {pv : List (PV × PV)} (r : RepD K Hv (lK xs) pv) (k : Key) {v : V} {p : PV} (rv : Rep K Hv v p) : RepD K Hv (lK (xs.map fun x => if x.1 = k then (x.1, v) else x)) (pv.map fun e => if peq e.1 (kPV k) then (e.1, p) else e) := by
  induction xs generalizing pv with
  | nil => cases r; exact .nil
  | cons x xs ih =>
    cases r with
    | cons a b c =>
      by_cases e : x.1 = k
      · subst e
        simp only [lK, List.map_cons, if_true, peq_refl]
        exact .cons a rv (ih c)
      · have e2 : peq (kPV x.1) (kPV k) = false := by rw [peq_dec]; exact decide_eq_false fun z => e (kPV_inj z)
        simp only [lK, List.map_cons, if_neg e, e2, Bool.false_eq_true, if_false]
        exact .cons a b (ih c)
theorem rd1_put {xs : XN} {pv : List (PV × PV)} (r : RepD K Hv (lN xs) pv) (k : NestedKey) {b : Addr} {v : V} {p : PV} (rb : Rep K Hv (.ref b) (pvK k)) (rv : Rep K Hv v p) : RepD K Hv (lN (stV xs k b v)) (dPut pv (pvK k) p) := by
  unfold stV dPut
  rcases rd1_get r k with ⟨z, y, e1, e2, _⟩ | ⟨e1, e2⟩
  · rw [e1, e2]; exact rd1_map r k rv
  · rw [e1, e2]
    have z := rd_snoc r rb rv
    simpa only [lN, List.map_append, List.map_cons, List.map_nil] using z
theorem rep_k (k : Key) : Rep K Hv (kV k) (kPV k) := by cases k with
  | inl i => exact .int i
  | inr x => exact .str x
theorem rd0_put {xs : List (Key × V)} {pv : List (PV × PV)} (r : RepD K Hv (lK xs) pv) (k : Key) {v : V} {p : PV} (rv : Rep K Hv v p) : RepD K Hv (lK (putK xs k v)) (dPut pv (kPV k) p) := by
  unfold putK dPut
  rw [valV_any]
  rcases rd0_get r k with ⟨z, y, e1, e2, _⟩ | ⟨e1, e2⟩
  · rw [e1, e2]; exact rd0_map r k rv
  · rw [e1, e2]
    have z := rd_snoc r (rep_k k) rv
    show RepD K Hv (lK (xs ++ [(k, v)])) _
    simpa only [lK, List.map_append, List.map_cons, List.map_nil] using z
theorem repD_len {l : List (PV × V × V)} {pv : List (PV × PV)} (r : RepD K Hv l pv) : l.length = pv.length := by
  induction l generalizing pv with
  | nil => cases r; rfl
  | cons x xs ih => cases r with | cons a b c => simp [ih c]
/-- the keys stand -/
theorem rd1_keys {xs : XN} {pv : List (PV × PV)} (r : RepD K Hv (lN xs) pv) : ∀ x ∈ xs, Rep K Hv (.ref x.2.1) (pvK x.1) := by
  induction xs generalizing pv with
  | nil => intro x h; cases h
  | cons y xs ih =>
    cases r with
    | cons a b c =>
      intro x h
      rcases List.mem_cons.mp h with e | h
      · subst e; exact a
      · exact ih c x h
theorem rd1_depth {xs : XN} {pv : List (PV × PV)} (r : RepD K Hv (lN xs) pv) (h : pv.all (fun e => kb e.1) = true) : ∀ x ∈ xs, x.1.depth ≤ 8 := by
  induction xs generalizing pv with
  | nil => intro x h; cases h
  | cons y xs ih =>
    cases r with
    | cons a b c =>
      rw [List.all_cons, Bool.and_eq_true] at h
      intro x hx
      rcases List.mem_cons.mp hx with e | hx
      · subst e
        have := (kb_at h.1).2
        rwa [nk_pv] at this
      · exact ih c h.2 x hx
end
section
variable {X : Cx} {pins : List (Addr × Obj)} {σ : L2.St} {H Hv : Hp} {s : Shared}
/-- a dict of tuples as the heap has it -/
theorem dn_of (I : Inv X pins σ H s) {a : Addr} {xs : XN} (h : Rd H a (DNo X.prog X.w a xs)) (keys : ∀ x ∈ xs, Rep (kx X) H (.ref x.2.1) (pvK x.1)) (dp : ∀ x ∈ xs, x.1.depth ≤ 8) :
    xs.length ≤ sizeLine ∧ (a == sysModules) = false ∧ ∃ ys, KN xs ys ∧ s.heap.DictOfH (nestedKind X.prog X.w) a ys := by
  obtain ⟨⟨hl, hs, ys, kn, o, es, ep, ho, hx, hd, he, hn⟩, _⟩ := (show ObjOk X.prog X.w H s.heap a (DNo X.prog X.w a xs) from h.ok I.hok)
  refine ⟨hl, hs, ys, kn, o, es, ep, ho, hx, hd, he, ?_, hn⟩
  have all : ∀ {xs : XN} {ys : List (NestedKey × Addr × Value)}, KN xs ys → (∀ x ∈ xs, Rep (kx X) H (.ref x.2.1) (pvK x.1)) → (∀ x ∈ xs, x.1.depth ≤ 8) → ∀ y ∈ ys, (nestedKind X.prog X.w).is s.heap y.1 y.2.1 := by
    intro xs ys kn
    induction kn with
    | nil => intro _ _ y hy; cases hy
    | cons r _ ih =>
      rename_i x y xs ys _
      intro k d z hz
      rcases List.mem_cons.mp hz with e | hz
      · subst e
        obtain ⟨h1, h2, _⟩ := r
        refine ⟨?_, ?_⟩
        · rw [← h1, ← h2]
          exact rep_nk I _ _ _ (k x List.mem_cons_self) rfl
        · rw [← h1]; exact d x List.mem_cons_self
      · exact ih (fun x hx => k x (List.mem_cons_of_mem _ hx)) (fun x hx => d x (List.mem_cons_of_mem _ hx)) z hz
  exact all kn keys dp
end
theorem atKey_some {ys : List (NestedKey × Addr × Value)} {k : NestedKey} {w : Value} (h : (atKey ys k).map (·.2) = some w) : ∃ p, atKey ys k = some p ∧ p.2 = w := Option.map_eq_some_iff.mp h

/-! ### o[i] -/
theorem subTail_of {prog : Program} {w : World} {A : Around} {E : Value → Shared → Prop} {s : Shared} {value slice : Expr} {o i : Value} {T id : String} {Q : Value → Shared → Prop} (hT : s.TypeIs o T)
    (hl : typeLookup (.type T) "__getitem__" = pure (some (.builtin id))) (h : wpAny (model prog w) A (getItem o i) Q E s)
    (hs : subscripted slice false o i = operate [o, i] (getItem o i)) :
    wpAny (model prog w) A (subscriptTail value slice o i) Q E s := by
  unfold subscriptTail
  refine wpAny_bind ?_
  rw [getitemInPython_of_ne hT.not_modules]
  refine wpAny_bind (wpAny_specialOf hT hl ?_)
  have fin : wpAny (model prog w) A (subscripted slice false o i) (fun r s₃ => wpAny (model prog w) A (letTemporaryGo value o r >>= fun _ => pure r) Q E s₃) E s := by
    rw [hs]
    exact wpAny_operating (wpAny_mono h (fun r s₃ h₃ => wpAny_bind (wpAny_letTemporaryGo (wpAny_pure h₃))) fun _ _ x => x)
  first
    | exact wpAny_pure (wpAny_bind fin)
    | exact wpAny_bind (wpAny_pure (wpAny_bind fin))
    | exact wpAny_bind fin
def keyOf : PV → Option Key
  | .int i => some (.inl i)
  | .str x => some (.inr x)
  | _ => none
theorem keyOf_some {q : PV} {k : Key} (h : keyOf q = some k) : q = kPV k := by
  cases q <;> simp [keyOf] at h <;> subst h <;> rfl
def opIx : Op2
  | .lst ps, .int i => (atI ps i).map fun p => (p, false)
  | .tup ps, .int i => (atI ps i).map fun p => (p, false)
  | .scr ns, .int i => (atI ns i).map fun p => (.int p, false)
  | .str z, .int i => if z.length ≤ sizeLine then (atI z.cps.toList i).map fun c => (.str ⟨#[c]⟩, false) else none
  | .dct 0 kvs, q => (keyOf q).bind fun _ => (dGet kvs q).map fun p => (p, false)
  | .dct 1 kvs, q => if kb q && kvs.all (fun e => kb e.1) then (dGet kvs q).map fun p => (p, false) else none
  | _, _ => none
section
variable {K : Frg} {H Hv : Hp}
theorem reps_at {vs : List V} {ps : List PV} {i : Int} {p : PV} (r : Reps K Hv vs ps) (h : atI ps i = some p) : ∃ v, atI vs i = some v ∧ Rep K Hv v p := by
  unfold atI at h ⊢
  rw [r.length]
  cases e : ixN ps.length i with
  | none => rw [e] at h; cases h
  | some j =>
    rw [e] at h
    exact r.get h
end
section
variable {X : Cx}
/-- d[y] of a dict of tuples -/
def rIxN (X : Cx) : R2 := fun x y H Q => ∃ (a b : Addr) (xs : XN) (k : NestedKey) (v : V), x = .ref a ∧ y = .ref b ∧ Rd H a (DNo X.prog X.w a xs) ∧ (∀ x ∈ xs, Rep (kx X) H (.ref x.2.1) (pvK x.1)) ∧ (∀ x ∈ xs, x.1.depth ≤ 8) ∧ k.depth ≤ 8 ∧
  Rep (kx X) H (.ref b) (pvK k) ∧ atV xs k = some v ∧ Q v H
theorem ix_N (hu : X.A.units + 64 < cLine) : IxR X (rIxN X) := by
  intro value slice pins s σ H x y v u Q I rx ry ⟨a, b, xs, k, z, ex, ey, h, hk, hd, hkd, rb, hz, q⟩ hs
  subst ex ey
  cases rx
  cases ry
  obtain ⟨hl, hsy, ys, kn, D⟩ := dn_of I h hk hd
  have hv := kn_at kn k
  rw [hz] at hv
  obtain ⟨w', hw, rw'⟩ := RelO.some_of hv
  obtain ⟨p, hp, hp2⟩ := atKey_some hw
  refine subTail_of D.typeIs PySem.F.slot_dict_getitem.lookup (wpAny_getItem_heap (knd := nestedKind X.prog X.w) (k := k) (show (X.A.in1).units + 8 < cLine by simp only [Around.in1_units]; omega) ⟨rep_nk I k _ _ rb rfl, hkd⟩ D hp ?_) hs
  rw [hp2]
  exact ⟨z, H, I.tok _, rw', q⟩
/-- d[y] of a dict of ints and texts -/
def rIxK : R2 := fun x y H Q => ∃ (a : Addr) (kvs : List (Key × V)) (k : Key) (v : V), x = .ref a ∧ y = kV k ∧ Rd H a (.dK kvs) ∧ valV kvs k = some v ∧ Q v H
theorem ix_K (hu : X.A.units + 64 < cLine) : IxR X rIxK := by
  intro value slice pins s σ H x y v u Q I rx ry ⟨a, kvs, k, z, ex, ey, h, hz, q⟩ hs
  subst ex ey
  cases rx
  have g : DGet H a (kV k) (some z) := .inl ⟨kvs, k, h, rfl, hz.symm⟩
  exact subTail_of (dict_typeIs I g) PySem.F.slot_dict_getitem.lookup (d_getItem (by omega) I g ry fun w' s3 I3 rw' => ⟨z, H, I3, rw', q⟩) hs
theorem ixr_at (hu : X.A.units + 64 < cLine) : IxR X (rOf2 (kx X) opIx) := ixr_of fun p1 p2 q fr h => by
  match p1, p2, h with
  | .lst ps, .int i, h =>
    simp only [opIx] at h
    obtain ⟨p, hp, e⟩ := Option.map_eq_some_iff.mp h
    cases e
    refine ⟨_, ix_list, fun H Hv x y Q e r1 r2 k => ?_⟩
    obtain ⟨a, vs, rfl, h1, q1⟩ := rb_lst e r1
    obtain ⟨v, hv, rv⟩ := reps_at q1 hp
    exact ⟨a, vs, i, v, rfl, rb_int r2, .inl (.of h1), hv, k _ _ (post1_same e rv)⟩
  | .tup ps, .int i, h =>
    simp only [opIx] at h
    obtain ⟨p, hp, e⟩ := Option.map_eq_some_iff.mp h
    cases e
    refine ⟨_, ix_tup, fun H Hv x y Q e r1 r2 k => ?_⟩
    obtain ⟨a, vs, rfl, h1, q1, _⟩ := rb_tup e r1
    obtain ⟨v, hv, rv⟩ := reps_at q1 hp
    exact ⟨a, vs, i, v, rfl, rb_int r2, h1, hv, k _ _ (post1_same e rv)⟩
  | .scr ns, .int i, h =>
    simp only [opIx] at h
    obtain ⟨p, hp, e⟩ := Option.map_eq_some_iff.mp h
    cases e
    refine ⟨_, ix_list, fun H Hv x y Q e r1 r2 k => ?_⟩
    obtain ⟨a, rfl, h1⟩ := rb_scr e r1
    refine ⟨a, _, i, .int p, rfl, rb_int r2, h1, ?_, k _ _ (p1_int e _)⟩
    unfold atI at hp ⊢
    rw [List.length_map]
    cases z : ixN ns.length i with
    | none => rw [z] at hp; cases hp
    | some j =>
      rw [z] at hp
      simp only [Option.bind_some, List.getElem?_map] at hp ⊢
      rw [hp]; rfl
  | .str z, .int i, h =>
    simp only [opIx] at h
    split at h
    · rename_i hl
      obtain ⟨p, hp, e⟩ := Option.map_eq_some_iff.mp h
      cases e
      exact ⟨_, ix_str, fun H Hv x y Q e r1 r2 k => ⟨z, i, p, rb_str r1, rb_int r2, hl, hp, k _ _ (p1_str e _)⟩⟩
    · cases h
  | .dct 0 kvs, q2, h =>
    have h : ((keyOf q2).bind fun _ => (dGet kvs q2).map fun p => (p, false)) = some (q, fr) := by
      cases q2 <;> exact h
    cases e0 : keyOf q2 with
    | none => rw [e0] at h; cases h
    | some key =>
      rw [e0, Option.bind_some] at h
      have e1 := keyOf_some e0
      subst e1
      obtain ⟨p, hp, e⟩ := Option.map_eq_some_iff.mp h
      cases e
      refine ⟨_, ix_K hu, fun H Hv x y Q e r1 r2 k => ?_⟩
      obtain ⟨a, l, rfl, ⟨kvs', h1, rfl⟩, rd⟩ := rb_dct e r1
      rcases rd0_get rd key with ⟨v, p', e1, e2, rv⟩ | ⟨e1, e2⟩
      · rw [hp] at e2; cases e2
        refine ⟨a, kvs', key, v, rfl, ?_, h1, e1, k _ _ (post1_same e rv)⟩
        cases key with
        | inl i => exact rb_int r2
        | inr i => exact rb_str r2
      · rw [hp] at e2; cases e2
  | .dct 1 kvs, q2, h =>
    have h : (if kb q2 && kvs.all (fun e => kb e.1) then (dGet kvs q2).map fun p => (p, false) else none) = some (q, fr) := by
      cases q2 <;> exact h
    split at h
    · rename_i hc
      rw [Bool.and_eq_true] at hc
      obtain ⟨p, hp, e⟩ := Option.map_eq_some_iff.mp h
      cases e
      refine ⟨_, ix_N hu, fun H Hv x y Q e r1 r2 k => ?_⟩
      obtain ⟨a, l, rfl, ⟨xs, h1, rfl⟩, rd⟩ := rb_dct e r1
      obtain ⟨k1, k2⟩ := kb_at hc.1
      have ht : isTup q2 = true := by unfold kb at hc; simp only [Bool.and_eq_true] at hc; exact hc.1.1.1
      match q2, ht with
      | .tup qs, _ =>
        obtain ⟨b, vs, rfl, _, _, rq⟩ := rb_tup e r2
        rw [← k1] at hp rq
        rcases rd1_get rd (nkOf (.tup qs)) with ⟨v, p', e1, e2, rv⟩ | ⟨e1, e2⟩
        · rw [hp] at e2; cases e2
          exact ⟨a, b, xs, _, v, rfl, rfl, h1, fun x hx => (rd1_keys rd x hx).ext e, rd1_depth rd hc.2, k2, rq.ext e, e1, k _ _ (post1_same e rv)⟩
        · rw [hp] at e2; cases e2
    · cases h
end

/-! ### in -/
def isFlat : PV → Bool
  | .int _ | .str _ | .non => true
  | _ => false
def opIn : Op2
  | p, .lst ps => if okb 60 p && okb 60 (.lst ps) then sB (ps.any fun z => peq z p) else none
  | p, .tup ps => if isFlat p && ps.all isFlat then sB (ps.any fun z => peq z p) else none
  | .int i, .rng lo hi => sB (decide (lo ≤ i ∧ i < hi))
  | q, .dct 0 kvs => (keyOf q).bind fun _ => sB (dGet kvs q).isSome
  | q, .dct 1 kvs => if kb q && kvs.all (fun e => kb e.1) then sB (dGet kvs q).isSome else none
  | _, _ => none
def negB : Option (PV × Bool) → Option (PV × Bool)
  | some (.bl b, f) => some (.bl (!b), f)
  | _ => none
def opNotIn : Op2
  | .int _, .rng _ _ => none
  | p, q => negB (opIn p q)
section
variable {X : Cx}
def rInN (X : Cx) (neg : Bool) : R2 := fun y x H Q => ∃ (a b : Addr) (xs : XN) (k : NestedKey), x = .ref a ∧ y = .ref b ∧ Rd H a (DNo X.prog X.w a xs) ∧ (∀ x ∈ xs, Rep (kx X) H (.ref x.2.1) (pvK x.1)) ∧ (∀ x ∈ xs, x.1.depth ≤ 8) ∧ k.depth ≤ 8 ∧
  Rep (kx X) H (.ref b) (pvK k) ∧ Q (.bl (if neg then !(atV xs k).isSome else (atV xs k).isSome)) H
theorem or_inN (hu : X.A.units + 64 < cLine) : OpR X (compareOp .In) (rInN X false) := by
  intro pins s σ H x y v u Q I rx ry ⟨a, b, xs, k, ex, ey, h, hk, hd, hkd, rb, q⟩
  subst ex ey
  cases rx
  cases ry
  obtain ⟨hl, hsy, ys, kn, D⟩ := dn_of I h hk hd
  have hv := (kn_at kn k).isSome_eq
  rw [Option.isSome_map] at hv
  exact wpAny_in_heap (knd := nestedKind X.prog X.w) (k := k) (show (X.A.in1).units + 8 < cLine by simp only [Around.in1_units]; omega) ⟨rep_nk I k _ _ rb rfl, hkd⟩ hsy D ⟨.bl _, H, I.tok _, by rw [← hv]; rfl, q⟩
theorem or_notInN (hu : X.A.units + 64 < cLine) : OpR X (compareOp .NotIn) (rInN X true) := by
  intro pins s σ H x y v u Q I rx ry ⟨a, b, xs, k, ex, ey, h, hk, hd, hkd, rb, q⟩
  subst ex ey
  cases rx
  cases ry
  obtain ⟨hl, hsy, ys, kn, D⟩ := dn_of I h hk hd
  have hv := (kn_at kn k).isSome_eq
  rw [Option.isSome_map] at hv
  exact wpAny_notIn_heap (knd := nestedKind X.prog X.w) (k := k) (show (X.A.in1).units + 8 < cLine by simp only [Around.in1_units]; omega) ⟨rep_nk I k _ _ rb rfl, hkd⟩ hsy D ⟨.bl _, H, I.tok _, by rw [← hv]; rfl, q⟩
def rInK (neg : Bool) : R2 := fun y x H Q => ∃ (a : Addr) (kvs : List (Key × V)) (k : Key), x = .ref a ∧ y = kV k ∧ Rd H a (.dK kvs) ∧ Q (.bl (if neg then !(valV kvs k).isSome else (valV kvs k).isSome)) H
theorem or_inK (hu : X.A.units + 64 < cLine) : OpR X (compareOp .In) (rInK false) := by
  intro pins s σ H x y v u Q I rx ry ⟨a, kvs, k, ex, ey, h, q⟩
  subst ex
  cases ry
  exact d_in (by omega) I (.inl ⟨kvs, k, h, ey, rfl⟩ : DGet H a x (valV kvs k)) rx fun s3 I3 => ⟨.bl _, H, I3, rfl, q⟩
theorem or_notInK (hu : X.A.units + 64 < cLine) : OpR X (compareOp .NotIn) (rInK true) := by
  intro pins s σ H x y v u Q I rx ry ⟨a, kvs, k, ex, ey, h, q⟩
  subst ex
  cases ry
  exact d_notIn (by omega) I (.inl ⟨kvs, k, h, ey, rfl⟩ : DGet H a x (valV kvs k)) rx fun s3 I3 => ⟨.bl _, H, I3, rfl, q⟩
end
section
variable {K : Frg} {H Hv : Hp}
/-- what `in` a dict asks -/
theorem inN_ro {X : Cx} {neg : Bool} {q : PV} {kvs : List (PV × PV)} (h1 : kb q = true) (h2 : kvs.all (fun e => kb e.1) = true) : RO2 (kx X) (rInN X neg) q (.dct 1 kvs) (.bl (if neg then !(dGet kvs q).isSome else (dGet kvs q).isSome)) false := by
  intro H Hv x y Q e r1 r2 k
  obtain ⟨a, l, rfl, ⟨xs, h3, rfl⟩, rd⟩ := rb_dct e r2
  obtain ⟨k1, k2⟩ := kb_at h1
  have ht : isTup q = true := by unfold kb at h1; simp only [Bool.and_eq_true] at h1; exact h1.1.1
  match q, ht with
  | .tup qs, _ =>
    obtain ⟨b, vs, rfl, _, _, rq⟩ := rb_tup e r1
    rw [← k1] at rq
    refine ⟨a, b, xs, _, rfl, rfl, h3, fun x hx => (rd1_keys rd x hx).ext e, rd1_depth rd h2, k2, rq.ext e, ?_⟩
    have hg : (atV xs (nkOf (.tup qs))).isSome = (dGet kvs (.tup qs)).isSome := by
      rcases rd1_get rd (nkOf (.tup qs)) with ⟨v, p', e1, e2, rv⟩ | ⟨e1, e2⟩ <;> rw [k1] at e2 <;> rw [e1, e2] <;> rfl
    rw [hg]
    exact k _ _ (p1_bl e _)
theorem inK_ro {neg : Bool} {q : PV} {key : Key} {kvs : List (PV × PV)} (h1 : keyOf q = some key) : RO2 K (rInK neg) q (.dct 0 kvs) (.bl (if neg then !(dGet kvs q).isSome else (dGet kvs q).isSome)) false := by
  intro H Hv x y Q e r1 r2 k
  obtain ⟨a, l, rfl, ⟨kvs', h3, rfl⟩, rd⟩ := rb_dct e r2
  have e1 := keyOf_some h1
  subst e1
  refine ⟨a, kvs', key, rfl, ?_, h3, ?_⟩
  · cases key with
    | inl i => exact rb_int r1
    | inr i => exact rb_str r1
  · have hg : (valV kvs' key).isSome = (dGet kvs (kPV key)).isSome := by
      rcases rd0_get rd key with ⟨v, p', e1, e2, rv⟩ | ⟨e1, e2⟩ <;> rw [e1, e2] <;> rfl
    rw [hg]
    exact k _ _ (p1_bl e _)
theorem toD_any {n m : Nat} {p : PV} (hp : okb m p = true) : ∀ ps : List PV, ps.all (okb n) = true → ((toDs ps).any fun z => PyData.eqv z (toD p)) = ps.any fun z => peq z p
  | [], _ => rfl
  | q :: ps, h => by
    rw [List.all_cons, Bool.and_eq_true] at h
    rw [toDs, List.any_cons, List.any_cons, okb_eqv _ _ _ _ h.1 hp, toD_any hp ps h.2]
theorem flat_v {v : V} {p : PV} (r : RepB K H Hv v p) (h : isFlat p = true) : flatV v = true := by
  cases p <;> first | (simp [isFlat] at h; done) | skip
  · rw [rb_non r]; rfl
  · rw [rb_int r]; rfl
  · rw [rb_str r]; rfl
theorem flat_in {x : V} {p : PV} (r : RepB K H Hv x p) (h : isFlat p = true) : ∀ {vs : List V} {ps : List PV}, Reps K Hv vs ps → ps.all isFlat = true → vs.all flatV = true ∧ inV x vs = ps.any fun z => peq z p
  | _, _, .nil, _ => ⟨rfl, rfl⟩
  | _, _, .cons (v := v) (p := q) a b, h2 => by
    rw [List.all_cons, Bool.and_eq_true] at h2
    obtain ⟨i1, i2⟩ := flat_in r h b h2.2
    refine ⟨by rw [List.all_cons, Bool.and_eq_true]; exact ⟨flat_v (H := H) (.of a) h2.1, i1⟩, ?_⟩
    have e : ∀ xs : List V, inV x (v :: xs) = (eqV v x || inV x xs) := fun xs => rfl
    rw [e, List.any_cons, i2]
    congr 1
    cases p <;> first | (simp [isFlat] at h; done) | skip
    all_goals cases q <;> first | (simp [isFlat] at h2; done) | skip
    all_goals cases a
    all_goals first | rw [rb_non r] | rw [rb_int r] | rw [rb_str r]
    all_goals simp [peq, eqV, Bool.beq_eq_decide_eq]
end
end HF
end

section
set_option Elab.async false
set_option linter.all false
set_option maxRecDepth 100000
set_option maxHeartbeats 1000000
set_option autoImplicit false
/-! HFD: in, dicts that are made and stored into. -/
namespace HF
open PySem PySem.Spec PyProof.Rows L2
theorem okb_lst {n : Nat} {ps : List PV} (h : okb 60 (.lst ps) = true) : ps.all (okb 59) = true := by
  simpa [okb] using h
section
variable {X : Cx}
theorem opr_in (hu : X.A.units + 65 < cLine) : OpR X (compareOp .In) (rOf2 (kx X) opIn) := opr_of fun p1 p2 q fr h => by
  cases p2 with
  | lst ps =>
    have h : (if okb 60 p1 && okb 60 (.lst ps) then sB (ps.any fun z => peq z p1) else none) = some (q, fr) := by cases p1 <;> exact h
    split at h
    · rename_i hc
      rw [Bool.and_eq_true] at hc
      cases h
      refine ⟨_, op_inD hu, fun H Hv x y Q e r1 r2 k => ⟨toD p1, toDs ps, okb_dp _ _ _ (r1.full e) hc.1, okb_dp _ _ _ (r2.full e) hc.2, okb_shaped hc.1, okb_shaped hc.2, ?_⟩⟩
      rw [toD_any hc.1 ps (okb_lst (n := 60) hc.2)]
      exact k _ _ (p1_bl e _)
    · cases h
  | tup ps =>
    have h : (if isFlat p1 && ps.all isFlat then sB (ps.any fun z => peq z p1) else none) = some (q, fr) := by cases p1 <;> exact h
    split at h
    · rename_i hc
      rw [Bool.and_eq_true] at hc
      cases h
      refine ⟨_, op_in_seq, fun H Hv x y Q e r1 r2 k => ?_⟩
      obtain ⟨a, vs, rfl, h1, q1, _⟩ := rb_tup e r2
      obtain ⟨f1, f2⟩ := flat_in r1 hc.1 q1 hc.2
      refine ⟨a, vs, rfl, .inr h1, flat_v r1 hc.1, f1, ?_⟩
      simp only [Bool.false_eq_true, if_false]
      rw [f2]
      exact k _ _ (p1_bl e _)
    · cases h
  | rng lo hi =>
    cases p1 with
    | int i =>
      cases h
      refine ⟨_, op_in_rng, fun H Hv x y Q e r1 r2 k => ?_⟩
      obtain ⟨a, rfl, h1⟩ := rb_rng e r2
      exact ⟨i, a, lo, hi, rb_int r1, rfl, h1, k _ _ (p1_bl e _)⟩
    | _ => simp [opIn] at h
  | dct n kvs =>
    match n with
    | 0 =>
      have h : ((keyOf p1).bind fun _ => sB (dGet kvs p1).isSome) = some (q, fr) := by cases p1 <;> exact h
      cases e0 : keyOf p1 with
      | none => rw [e0] at h; cases h
      | some key =>
        rw [e0] at h
        cases h
        exact ⟨_, or_inK (by omega), inK_ro (neg := false) e0⟩
    | 1 =>
      have h : (if kb p1 && kvs.all (fun e => kb e.1) then sB (dGet kvs p1).isSome else none) = some (q, fr) := by cases p1 <;> exact h
      split at h
      · rename_i hc
        rw [Bool.and_eq_true] at hc
        cases h
        exact ⟨_, or_inN (by omega), inN_ro (neg := false) hc.1 hc.2⟩
      · cases h
    | n + 2 => cases p1 <;> simp [opIn] at h
  | _ => cases p1 <;> simp [opIn] at h
theorem negB_some {o : Option (PV × Bool)} {q : PV} {fr : Bool} (h : negB o = some (q, fr)) : ∃ b, o = some (.bl b, fr) ∧ q = .bl (!b) := by
  match o, h with
  | some (.bl b, f), h => cases h; exact ⟨b, rfl, rfl⟩
theorem opr_notin (hu : X.A.units + 65 < cLine) : OpR X (compareOp .NotIn) (rOf2 (kx X) opNotIn) := opr_of fun p1 p2 q fr h => by
  cases p2 with
  | lst ps =>
    have h : negB (if okb 60 p1 && okb 60 (.lst ps) then sB (ps.any fun z => peq z p1) else none) = some (q, fr) := by cases p1 <;> exact h
    split at h
    · rename_i hc
      rw [Bool.and_eq_true] at hc
      cases h
      refine ⟨_, op_notInD hu, fun H Hv x y Q e r1 r2 k => ⟨toD p1, toDs ps, okb_dp _ _ _ (r1.full e) hc.1, okb_dp _ _ _ (r2.full e) hc.2, okb_shaped hc.1, okb_shaped hc.2, ?_⟩⟩
      rw [toD_any hc.1 ps (okb_lst (n := 60) hc.2)]
      exact k _ _ (p1_bl e _)
    · cases h
  | tup ps =>
    have h : negB (if isFlat p1 && ps.all isFlat then sB (ps.any fun z => peq z p1) else none) = some (q, fr) := by cases p1 <;> exact h
    split at h
    · rename_i hc
      rw [Bool.and_eq_true] at hc
      cases h
      refine ⟨_, op_notIn_seq, fun H Hv x y Q e r1 r2 k => ?_⟩
      obtain ⟨a, vs, rfl, h1, q1, _⟩ := rb_tup e r2
      obtain ⟨f1, f2⟩ := flat_in r1 hc.1 q1 hc.2
      refine ⟨a, vs, rfl, .inr h1, flat_v r1 hc.1, f1, ?_⟩
      simp only [if_true]
      rw [f2]
      exact k _ _ (p1_bl e _)
    · cases h
  | rng lo hi => cases p1 <;> simp [opNotIn, opIn, negB] at h
  | dct n kvs =>
    match n with
    | 0 =>
      have h : negB ((keyOf p1).bind fun _ => sB (dGet kvs p1).isSome) = some (q, fr) := by cases p1 <;> exact h
      cases e0 : keyOf p1 with
      | none => rw [e0] at h; cases h
      | some key =>
        rw [e0] at h
        cases h
        exact ⟨_, or_notInK (by omega), inK_ro (neg := true) e0⟩
    | 1 =>
      have h : negB (if kb p1 && kvs.all (fun e => kb e.1) then sB (dGet kvs p1).isSome else none) = some (q, fr) := by cases p1 <;> exact h
      split at h
      · rename_i hc
        rw [Bool.and_eq_true] at hc
        cases h
        exact ⟨_, or_notInN (by omega), inN_ro (neg := true) hc.1 hc.2⟩
      · cases h
    | n + 2 => cases p1 <;> simp [opNotIn, opIn, negB] at h
  | _ => cases p1 <;> simp [opNotIn, opIn, negB] at h
end

/-! ### o[i] = v -/
def rOfS (K : Frg) (op : OpS) : V → V → V → Hp → (Hp → Prop) → Prop := fun o iv v H Q => ∃ (Hv : Hp) (a : Addr) (p q x p' : PV), o = .ref a ∧ Ext Hv H ∧ Ob K H Hv a p ∧ Rep K Hv iv q ∧ Rep K Hv v x ∧ op p q x = some p' ∧ ∀ o, Ob K (upd H a o) Hv a p' → Q (upd H a o)
theorem rofS {K : Frg} {op : OpS} : SOk K (rOfS K op) op := fun H Hv a iv v p q x p' Q e ob rq rx h k => ⟨Hv, a, p, q, x, p', rfl, e, ob, rq, rx, h, k⟩
/-- keys at entries -/
def opSet : OpS := fun p q x => match p, q with
  | .lst ps, .int k => (match ixN ps.length k with
    | some j => some (.lst (ps.set j x))
    | none => none)
  | .dct 0 kvs, q => if (keyOf q).isSome && decide (kvs.length < sizeLine) then some (.dct 0 (dPut kvs q x)) else none
  | .dct 1 kvs, q => if kb q && kvs.all (fun e => kb e.1) && decide (kvs.length < sizeLine) then some (.dct 1 (dPut kvs q x)) else none
  | _, _ => none
section
variable {X : Cx}
def rSetN (X : Cx) : TSet := fun o i v H Q => ∃ (a b : Addr) (xs : XN) (k : NestedKey), o = .ref a ∧ i = .ref b ∧ H a = some (DNo X.prog X.w a xs) ∧ (∀ x ∈ xs, Rep (kx X) H (.ref x.2.1) (pvK x.1)) ∧ (∀ x ∈ xs, x.1.depth ≤ 8) ∧ k.depth ≤ 8 ∧
  Rep (kx X) H (.ref b) (pvK k) ∧ xs.length < sizeLine ∧ Q (upd H a (DNo X.prog X.w a (stV xs k b v)))
theorem set_N (hu : X.A.units + 64 < cLine) : PSet X (rSetN X) := by
  intro pins s σ H o i v ov iv u Q I ro ri rv ⟨a, b, xs, k, eo, ei, h, hk, hd, hkd, rb, hl0, q⟩
  subst eo ei
  cases ro
  cases ri
  obtain ⟨hl, hsy, ys, kn, D⟩ := dn_of I (.of h) hk hd
  have hz : ys.length ≤ sizeLine := by rw [← kn_len kn]; exact hl
  refine wpAny_setItem_heap (knd := nestedKind X.prog X.w) (k := k) (hsz := hz) (show (X.A.in1).units + 8 < cLine by simp only [Around.in1_units]; omega) ⟨rep_nk I k _ _ rb rfl, hkd⟩ D fun h' D' hs => ?_
  obtain ⟨ob, es, ep, hq, h2, h3, h4, _, h5⟩ := D'
  have hlen : (stV xs k b v).length ≤ sizeLine := by have := stV_len xs k b v; omega
  refine ⟨_, d_write I (by rw [h]; exact True.intro) hs ⟨ob, hq⟩ ?_, q⟩
  refine ⟨⟨hlen, hsy, _, kn_put kn k b rv, ob, es, ep, hq, h2, h3, h4, h5⟩, ⟨ob, hq⟩, fun h1 h2 ⟨g1, g2, zs, g3, o1, e1, ep1, g4, g5⟩ hh => ⟨g1, g2, zs, g3, o1, e1, ep1, hh _ g4, g5⟩⟩
theorem pset_at (hu : X.A.units + 64 < cLine) : PSet X (rOfS (kx X) opSet) := by
  intro pins s σ H o i v ov iv u Q I ro ri rv ⟨Hv, a, p, q, x, p', eo, e, ob, rq, rx, h, k⟩
  subst eo
  match p, q, ob, rq, h with
  | .lst ps, .int j, ⟨vs, hv, r⟩, .int _, h =>
    simp only [opSet] at h
    split at h
    · rename_i jj ej
      cases h
      exact set_list pins s σ H _ _ v ov iv u Q I ro ri rv ⟨a, vs, j, jj, rfl, rfl, hv, by rw [r.length]; exact ej, k _ ⟨_, upd_same, r.set rx jj⟩⟩
    · cases h
  | .dct 0 kvs, q, ⟨l, ⟨kvs', h1, el⟩, rd⟩, rq, h =>
    have h : (if (keyOf q).isSome && decide (kvs.length < sizeLine) then some (PV.dct 0 (dPut kvs q x)) else none) = some p' := by cases q <;> exact h
    subst el
    split at h
    · rename_i hc
      rw [Bool.and_eq_true, decide_eq_true_eq, Option.isSome_iff_exists] at hc
      obtain ⟨⟨key, e0⟩, hl⟩ := hc
      cases h
      have e1 := keyOf_some e0
      subst e1
      have ei : i = kV key := by
        cases key with
        | inl z => cases rq; rfl
        | inr z => cases rq; rfl
      subst ei
      have hl' : kvs'.length < sizeLine := by have := repD_len rd; rw [List.length_map] at this; omega
      exact set_dict (by omega) pins s σ H _ _ v ov iv u Q I ro ri rv ⟨a, _, rfl, .inl ⟨kvs', key, h1, rfl, hl', rfl⟩, k _ ⟨_, ⟨_, upd_same, rfl⟩, rd0_put rd key rx⟩⟩
    · cases h
  | .dct 1 kvs, q, ⟨l, ⟨xs, h1, el⟩, rd⟩, rq, h =>
    have h : (if kb q && kvs.all (fun e => kb e.1) && decide (kvs.length < sizeLine) then some (PV.dct 1 (dPut kvs q x)) else none) = some p' := by cases q <;> exact h
    subst el
    split at h
    · rename_i hc
      rw [Bool.and_eq_true, Bool.and_eq_true, decide_eq_true_eq] at hc
      obtain ⟨⟨c1, c2⟩, c3⟩ := hc
      cases h
      obtain ⟨k1, k2⟩ := kb_at c1
      have ht : isTup q = true := by unfold kb at c1; simp only [Bool.and_eq_true] at c1; exact c1.1.1
      match q, ht, rq with
      | .tup qs, _, .tup (a := b) t1 t2 =>
        have rq : Rep (kx X) Hv (.ref b) (pvK (nkOf (.tup qs))) := by rw [k1]; exact .tup t1 t2
        have hl' : xs.length < sizeLine := by have := repD_len rd; rw [List.length_map] at this; omega
        have z := rd1_put rd (nkOf (.tup qs)) rq rx
        rw [k1] at z
        exact set_N hu pins s σ H _ _ v ov iv u Q I ro ri rv ⟨a, b, xs, _, rfl, rfl, h1, fun x hx => (rd1_keys rd x hx).ext e, rd1_depth rd c2, k2, rq.ext e, hl', k _ ⟨_, ⟨_, upd_same, rfl⟩, z⟩⟩
    · cases h

/-! ### {} -/
theorem dn_empty {P : Program} {w : World} {H : Hp} (h : Heap) (hb : sysModules < h.objs.size) : ObjOk P w H (h.push { cls := .type "dict", data := .dict #[] }) h.objs.size (DNo P w h.objs.size []) :=
  ⟨⟨Nat.zero_le _, beq_eq_false_iff_ne.mpr (Ne.symm (Nat.ne_of_lt hb)), [], .nil, _, #[], 0, Heap.get?_push_size _ rfl, ⟨rfl, rfl, rfl⟩, rfl, rfl, List.nodup_nil⟩, ⟨_, Heap.get?_push_size _ rfl⟩,
    fun h1 h2 ⟨g1, g2, zs, g3, o1, e1, ep1, g4, g5⟩ hh => ⟨g1, g2, zs, g3, o1, e1, ep1, hh _ g4, g5⟩⟩
def tDNewN (X : Cx) : TE := fun _ H Q => ∀ p, H p = none → Q (.ref p) (upd H p (DNo X.prog X.w p []))
theorem pe_dnewN {pos : Pos} : PE X (.Dict [] [] pos) (tDNewN X) := ⟨fun pins s σ H Q I h =>
  wpAny_Dict_empty ⟨.ref s.heap.objs.size, _, I.laid (a := s.heap.objs.size) (o := DNo X.prog X.w s.heap.objs.size []) (t' := s.toks) (fun _ _ q => Heap.get?_push_of_some _ q) (Nat.le_refl _) (dn_empty s.heap I.big), rfl, h _ (I.hok.fresh (Nat.le_refl _))⟩⟩
/-- a new empty dict of kind n -/
def eNewD (n : Nat) : PM Arg := ret (.val (.dct n []) true)
theorem newD_post {W : WX} {K : Frg} {Z : Addr → Prop} {H : Hp} {σ : L2.St} {s : SE} {p : Addr} {o : HO} {n : Nat} (R : Rl K Z H σ s) (hn : H p = none) (d : DAt K (upd H p o) p n []) : PostE K Z H σ s (.val (.dct n []) true) s (.ref p) (upd H p o) :=
  Post1.postE R ⟨ext_upd hn, p, rfl, hn, [], d, .nil⟩
theorem qe_newK {W : WX} {pos : Pos} : QE X W (.Dict [] [] pos) (eNewD 0) := qe_of pe_dnewK fun σ H Q h => by
  obtain ⟨Z, s, R, h⟩ := lE_iff.mp h
  intro p hp
  exact h _ _ (newD_post (W := W) (n := 0) R hp ⟨[], upd_same, rfl⟩)
theorem qe_newN {W : WX} {pos : Pos} : QE X W (.Dict [] [] pos) (eNewD 1) := qe_of pe_dnewN fun σ H Q h => by
  obtain ⟨Z, s, R, h⟩ := lE_iff.mp h
  intro p hp
  exact h _ _ (newD_post (W := W) (n := 1) R hp ⟨[], upd_same, rfl⟩)
end
end HF
end

section
set_option Elab.async false
set_option linter.all false
set_option maxRecDepth 100000
set_option maxHeartbeats 1000000
set_option autoImplicit false
/-! HFE: built-in functions. -/
namespace HF
open PySem PySem.Spec PyProof.Rows L2

def intsOf : List PV → Option (List Int)
  | [] => some []
  | .int i :: ps => (intsOf ps).map (i :: ·)
  | _ => none
def boolsOf : List PV → Option (List Bool)
  | [] => some []
  | .bl i :: ps => (boolsOf ps).map (i :: ·)
  | _ => none
theorem intsOf_map (ns : List Int) : intsOf (ns.map .int) = some ns := by
  induction ns with
  | nil => rfl
  | cons n ns ih => simp [intsOf, ih]
theorem boolsOf_map (ns : List Bool) : boolsOf (ns.map .bl) = some ns := by
  induction ns with
  | nil => rfl
  | cons n ns ih => simp [boolsOf, ih]
theorem intsOf_some : ∀ {ps : List PV} {ns : List Int}, intsOf ps = some ns → ps = ns.map .int
  | [], _, h => by cases h; rfl
  | p :: ps, ns, h => by
    cases p <;> simp only [intsOf] at h <;> first | (cases h; done) | skip
    obtain ⟨ms, h1, h2⟩ := Option.map_eq_some_iff.mp h
    subst h2
    rw [intsOf_some h1]; rfl
theorem boolsOf_some : ∀ {ps : List PV} {ns : List Bool}, boolsOf ps = some ns → ps = ns.map .bl
  | [], _, h => by cases h; rfl
  | p :: ps, ns, h => by
    cases p <;> simp only [boolsOf] at h <;> first | (cases h; done) | skip
    obtain ⟨ms, h1, h2⟩ := Option.map_eq_some_iff.mp h
    subst h2
    rw [boolsOf_some h1]; rfl
section
variable {K : Frg} {Hv : Hp}
theorem reps_intE : ∀ {ns : List Int} {vs : List V}, Reps K Hv vs (ns.map .int) → vs = ns.map .int
  | [], _, h => by cases h; rfl
  | n :: ns, _, h => by
    cases h with
    | cons a b => cases a; rw [reps_intE b]; rfl
theorem reps_bls : ∀ {ns : List Bool} {vs : List V}, Reps K Hv vs (ns.map .bl) → vs = ns.map .bl
  | [], _, h => by cases h; rfl
  | n :: ns, _, h => by
    cases h with
    | cons a b => cases a; rw [reps_bls b]; rfl
theorem reps_of_ints : ∀ (ns : List Int), Reps K Hv (ns.map .int) (ns.map .int)
  | [] => .nil
  | n :: ns => .cons (.int n) (reps_of_ints ns)
end
def maxI : List Int → Int
  | [] => 0
  | [n] => n
  | n :: ns => let m := maxI ns; if m > n then m else n
def minI : List Int → Int
  | [] => 0
  | [n] => n
  | n :: ns => let m := minI ns; if m < n then m else n
theorem maxI_of : ∀ ns : List Int, ns ≠ [] → maxI ns ∈ ns ∧ ∀ y, y ∈ ns → y ≤ maxI ns
  | [], h => (h rfl).elim
  | [n], _ => ⟨List.mem_singleton.mpr rfl, fun y hy => by rw [List.mem_singleton.mp hy]; exact Int.le_refl _⟩
  | n :: m :: ns, _ => by
    obtain ⟨h1, h2⟩ := maxI_of (m :: ns) (by simp)
    simp only [maxI]
    by_cases c : maxI (m :: ns) > n
    · rw [if_pos c]
      refine ⟨List.mem_cons_of_mem _ h1, fun y hy => ?_⟩
      rcases List.mem_cons.mp hy with e | hy
      · omega
      · exact h2 y hy
    · rw [if_neg c]
      refine ⟨List.mem_cons_self, fun y hy => ?_⟩
      rcases List.mem_cons.mp hy with e | hy
      · omega
      · have := h2 y hy; omega
theorem minI_of : ∀ ns : List Int, ns ≠ [] → minI ns ∈ ns ∧ ∀ y, y ∈ ns → minI ns ≤ y
  | [], h => (h rfl).elim
  | [n], _ => ⟨List.mem_singleton.mpr rfl, fun y hy => by rw [List.mem_singleton.mp hy]; exact Int.le_refl _⟩
  | n :: m :: ns, _ => by
    obtain ⟨h1, h2⟩ := minI_of (m :: ns) (by simp)
    simp only [minI]
    by_cases c : minI (m :: ns) < n
    · rw [if_pos c]
      refine ⟨List.mem_cons_of_mem _ h1, fun y hy => ?_⟩
      rcases List.mem_cons.mp hy with e | hy
      · omega
      · exact h2 y hy
    · rw [if_neg c]
      refine ⟨List.mem_cons_self, fun y hy => ?_⟩
      rcases List.mem_cons.mp hy with e | hy
      · omega
      · have := h2 y hy; omega

def opLen : OpN
  | [.lst ps] => sI ps.length
  | [.tup ps] => sI ps.length
  | [.scr ps] => sI ps.length
  | [.str z] => if z.length ≤ sizeLine then sI z.length else none
  | _ => none
def opAbs : OpN
  | [.int i] => sI (if i < 0 then -i else i)
  | _ => none
def opInt : OpN
  | [.int i] => sI i
  | [.bl b] => sI (if b then 1 else 0)
  | _ => none
def opSum : OpN
  | [.lst ps] => (intsOf ps).map fun ns => (.int ns.sum, false)
  | _ => none
def opMax : OpN
  | [.lst ps] => (intsOf ps).bind fun ns => if ns.isEmpty then none else sI (maxI ns)
  | [.int i, .int j] => sI (if j > i then j else i)
  | _ => none
def opMin : OpN
  | [.lst ps] => (intsOf ps).bind fun ns => if ns.isEmpty then none else sI (minI ns)
  | [.int i, .int j] => sI (if j < i then j else i)
  | _ => none
def opAny : OpN
  | [.lst ps] => (boolsOf ps).map fun bs => (.bl (bs.any id), false)
  | [.tup ps] => (intsOf ps).map fun ns => (.bl (ns.any fun i => !decide (i = 0)), false)
  | _ => none
def opAll : OpN
  | [.lst ps] => (boolsOf ps).map fun bs => (.bl (bs.all id), false)
  | [.tup ps] => (intsOf ps).map fun ns => (.bl (ns.all fun i => !decide (i = 0)), false)
  | _ => none
def opTuple : OpN
  | [.lst ps] => some (.tup ps, false)
  | [.tup ps] => some (.tup ps, false)
  | [.scr ps] => some (.tup (ps.map .int), false)
  | _ => none
def opList : OpN
  | [.lst ps] => some (.lst ps, true)
  | [.tup ps] => some (.lst ps, true)
  | [.scr ps] => some (.lst (ps.map .int), true)
  | _ => none
def opRange : OpN
  | [.int j] => some (.rng 0 j, false)
  | [.int i, .int j] => some (.rng i j, false)
  | _ => none
def leb (a b : Int) : Bool := decide (a ≤ b)
def opSorted : OpN
  | [.lst ps] => (intsOf ps).map fun ns => (.lst ((ns.mergeSort leb).map .int), true)
  | _ => none
section
variable {X : Cx}
theorem cr_range1 : CallR X (.type "range") (fun vs H Q => ∃ j, vs = [V.int j] ∧ ∀ p, H p = none → Q (.ref p) (upd H p (.rng 0 j))) := by
  intro pins s σ H vs us Q I r h
  obtain ⟨j, rfl, q⟩ := h
  obtain ⟨u2, rfl, rj⟩ := vals1 r
  obtain ⟨u, rfl⟩ := rj
  refine call_range_1 ⟨.ref s.heap.objs.size, upd H s.heap.objs.size (.rng 0 j), I.laid (t' := s.toks + 1 + 1) (fun b o e => Heap.get?_push_of_some _ e) (Nat.le_refl _) ?_, rfl, q _ (I.hok.fresh (Nat.le_refl _))⟩
  exact ⟨s.toks, u, s.toks + 1, Heap.get?_push_size _ rfl⟩
def rAnyT (K : PySem.W.Frag) (al : Bool) : List V → Hp → VK → Prop := fun vs H Q => ∃ (a : Addr) (ns : List Int), vs = [V.ref a] ∧ SqT K H a (ns.map V.int) ∧ Q (.bl (if al then ns.all (fun i => !decide (i = 0)) else ns.any (fun i => !decide (i = 0)))) H
theorem dp_ints {K : PySem.W.Frag} {H : Hp} : ∀ ns : List Int, DpAll K H (ns.map V.int) (ns.map PyData.int)
  | [] => .nil
  | n :: ns => .cons (.int n) (dp_ints ns)
theorem plain_ints : ∀ ns : List Int, PyData.plainAll (ns.map PyData.int) = true
  | [] => rfl
  | n :: ns => by rw [List.map_cons, PyData.plainAll, plain_ints ns]; rfl
theorem any_ints (ns : List Int) : (ns.map PyData.int).any PyData.truthy = ns.any fun i => !decide (i = 0) := by
  induction ns with
  | nil => rfl
  | cons n ns ih => rw [List.map_cons, List.any_cons, List.any_cons, ih]; congr 1
theorem all_ints (ns : List Int) : (ns.map PyData.int).all PyData.truthy = ns.all fun i => !decide (i = 0) := by
  induction ns with
  | nil => rfl
  | cons n ns ih => rw [List.map_cons, List.all_cons, List.all_cons, ih]; congr 1
theorem cr_anyT (hc : X.calm = true) : CallR X (.builtin "any") (rAnyT X.K false) := by
  intro pins s σ H vs us Q I r ⟨a, ns, ev, hs, q⟩
  subst ev
  rw [Vals.ref1 r]
  obtain ⟨its, rv, ht, _⟩ := I.tuple hs
  obtain ⟨as, ra⟩ := Dp.readsAll I _ _ _ (dp_ints ns) rv
  refine PySem.W.any_tuple_data (I.ok.hd hc) ht (by simpa using ra) (plain_ints ns) (fun x hx => ?_) fun h' tk hk => ⟨.bl _, H, I.kept hk, ?_, q⟩
  · obtain ⟨i, _, rfl⟩ := List.mem_map.mp hx; exact True.intro
  · rw [any_ints]; rfl
theorem cr_allT (hc : X.calm = true) : CallR X (.builtin "all") (rAnyT X.K true) := by
  intro pins s σ H vs us Q I r ⟨a, ns, ev, hs, q⟩
  subst ev
  rw [Vals.ref1 r]
  obtain ⟨its, rv, ht, _⟩ := I.tuple hs
  obtain ⟨as, ra⟩ := Dp.readsAll I _ _ _ (dp_ints ns) rv
  refine PySem.W.all_tuple_data (I.ok.hd hc) ht (by simpa using ra) (plain_ints ns) (fun x hx => ?_) fun h' tk hk => ⟨.bl _, H, I.kept hk, ?_, q⟩
  · obtain ⟨i, _, rfl⟩ := List.mem_map.mp hx; exact True.intro
  · rw [all_ints]; rfl

theorem callr_len : CallR X (.builtin "len") (rOfN (kx X) opLen) := callr_of fun ps q fr h => by
  match ps, h with
  | [.lst ps], h =>
    cases h
    refine ⟨_, call_len, fun H Hv xs Q e r k => ?_⟩
    obtain ⟨x, rfl, r1⟩ := rbs_1 r
    obtain ⟨a, vs, rfl, h1, q1⟩ := rb_lst e r1
    exact ⟨_, vs.length, rfl, .inl ⟨vs, .inl (.of h1), rfl⟩, by rw [q1.length]; exact k _ _ (p1_int e _)⟩
  | [.tup ps], h =>
    cases h
    refine ⟨_, call_len, fun H Hv xs Q e r k => ?_⟩
    obtain ⟨x, rfl, r1⟩ := rbs_1 r
    obtain ⟨a, vs, rfl, h1, q1, _⟩ := rb_tup e r1
    exact ⟨_, vs.length, rfl, .inr ⟨vs, h1, rfl⟩, by rw [q1.length]; exact k _ _ (p1_int e _)⟩
  | [.scr ps], h =>
    cases h
    refine ⟨_, call_len, fun H Hv xs Q e r k => ?_⟩
    obtain ⟨x, rfl, r1⟩ := rbs_1 r
    obtain ⟨a, rfl, h1⟩ := rb_scr e r1
    exact ⟨_, _, rfl, .inl ⟨_, h1, rfl⟩, by rw [List.length_map]; exact k _ _ (p1_int e _)⟩
  | [.str z], h =>
    simp only [opLen] at h
    split at h
    · rename_i hz
      cases h
      refine ⟨_, call_len, fun H Hv xs Q e r k => ?_⟩
      obtain ⟨x, rfl, r1⟩ := rbs_1 r
      exact ⟨_, _, rfl, by rw [rb_str r1]; exact ⟨hz, rfl⟩, k _ _ (p1_int e _)⟩
    · cases h
theorem callr_abs : CallR X (.builtin "abs") (rOfN (kx X) opAbs) := callr_of fun ps q fr h => by
  match ps, h with
  | [.int i], h =>
    cases h
    refine ⟨_, call_abs, fun H Hv xs Q e r k => ?_⟩
    obtain ⟨x, rfl, r1⟩ := rbs_1 r
    exact ⟨i, by rw [rb_int r1], k _ _ (p1_int e _)⟩
theorem callr_int : CallR X (.type "int") (rOfN (kx X) opInt) := callr_of fun ps q fr h => by
  match ps, h with
  | [.int i], h =>
    cases h
    refine ⟨_, call_int1, fun H Hv xs Q e r k => ?_⟩
    obtain ⟨x, rfl, r1⟩ := rbs_1 r
    exact .inl ⟨i, by rw [rb_int r1], k _ _ (p1_int e _)⟩
  | [.bl b], h =>
    cases h
    refine ⟨_, call_int1, fun H Hv xs Q e r k => ?_⟩
    obtain ⟨x, rfl, r1⟩ := rbs_1 r
    exact .inr ⟨b, by rw [rb_bl r1], k _ _ (p1_int e _)⟩
theorem callr_sum (hc : X.calm = true) : CallR X (.builtin "sum") (rOfN (kx X) opSum) := callr_of fun ps q fr h => by
  match ps, h with
  | [.lst ps], h =>
    simp only [opSum] at h
    obtain ⟨ns, h1, h2⟩ := Option.map_eq_some_iff.mp h
    cases h2
    rw [intsOf_some h1]
    refine ⟨_, cr_sum hc, fun H Hv xs Q e r k => ?_⟩
    obtain ⟨x, rfl, r1⟩ := rbs_1 r
    obtain ⟨a, vs, rfl, h1, q1⟩ := rb_lst e r1
    rw [reps_intE q1] at h1
    exact ⟨a, ns, rfl, .inl (.of h1), k _ _ (p1_int e _)⟩
theorem callr_max (hc : X.calm = true) : CallR X (.builtin "max") (rOfN (kx X) opMax) := callr_of fun ps q fr h => by
  match ps, h with
  | [.lst ps], h =>
    simp only [opMax] at h
    obtain ⟨ns, h1, h2⟩ := Option.bind_eq_some_iff.mp h
    split at h2
    · cases h2
    · rename_i hne
      cases h2
      rw [intsOf_some h1]
      refine ⟨_, cr_max hc, fun H Hv xs Q e r k => ?_⟩
      obtain ⟨x, rfl, r1⟩ := rbs_1 r
      obtain ⟨a, vs, rfl, h1, q1⟩ := rb_lst e r1
      rw [reps_intE q1] at h1
      have hn : ns ≠ [] := by intro z; subst z; simp at hne
      refine ⟨a, ns, rfl, .inl (.of h1), List.length_pos_iff.mpr hn, fun m m1 m2 => ?_⟩
      obtain ⟨w1, w2⟩ := maxI_of ns hn
      have : m = maxI ns := Int.le_antisymm (w2 m m1) (m2 _ w1)
      rw [this]
      exact k _ _ (p1_int e _)
  | [.int i, .int j], h =>
    cases h
    refine ⟨_, call_max2 hc, fun H Hv xs Q e r k => ?_⟩
    obtain ⟨x, y, rfl, r1, r2⟩ := rbs_2 r
    exact ⟨i, j, by rw [rb_int r1, rb_int r2], k _ _ (p1_int e _)⟩
theorem callr_min (hc : X.calm = true) : CallR X (.builtin "min") (rOfN (kx X) opMin) := callr_of fun ps q fr h => by
  match ps, h with
  | [.lst ps], h =>
    simp only [opMin] at h
    obtain ⟨ns, h1, h2⟩ := Option.bind_eq_some_iff.mp h
    split at h2
    · cases h2
    · rename_i hne
      cases h2
      rw [intsOf_some h1]
      refine ⟨_, cr_min hc, fun H Hv xs Q e r k => ?_⟩
      obtain ⟨x, rfl, r1⟩ := rbs_1 r
      obtain ⟨a, vs, rfl, h1, q1⟩ := rb_lst e r1
      rw [reps_intE q1] at h1
      have hn : ns ≠ [] := by intro z; subst z; simp at hne
      refine ⟨a, ns, rfl, .inl (.of h1), List.length_pos_iff.mpr hn, fun m m1 m2 => ?_⟩
      obtain ⟨w1, w2⟩ := minI_of ns hn
      have : m = minI ns := Int.le_antisymm (m2 _ w1) (w2 m m1)
      rw [this]
      exact k _ _ (p1_int e _)
  | [.int i, .int j], h =>
    cases h
    refine ⟨_, call_min2 hc, fun H Hv xs Q e r k => ?_⟩
    obtain ⟨x, y, rfl, r1, r2⟩ := rbs_2 r
    exact ⟨i, j, by rw [rb_int r1, rb_int r2], k _ _ (p1_int e _)⟩
theorem callr_any (hc : X.calm = true) : CallR X (.builtin "any") (rOfN (kx X) opAny) := callr_of fun ps q fr h => by
  match ps, h with
  | [.lst ps], h =>
    simp only [opAny] at h
    obtain ⟨ns, h1, h2⟩ := Option.map_eq_some_iff.mp h
    cases h2
    rw [boolsOf_some h1]
    refine ⟨_, cr_any hc, fun H Hv xs Q e r k => ?_⟩
    obtain ⟨x, rfl, r1⟩ := rbs_1 r
    obtain ⟨a, vs, rfl, h1, q1⟩ := rb_lst e r1
    rw [reps_bls q1] at h1
    exact ⟨a, ns, rfl, .inl (.of h1), k _ _ (p1_bl e _)⟩
  | [.tup ps], h =>
    simp only [opAny] at h
    obtain ⟨ns, h1, h2⟩ := Option.map_eq_some_iff.mp h
    cases h2
    rw [intsOf_some h1]
    refine ⟨_, cr_anyT hc, fun H Hv xs Q e r k => ?_⟩
    obtain ⟨x, rfl, r1⟩ := rbs_1 r
    obtain ⟨a, vs, rfl, h1, q1, _⟩ := rb_tup e r1
    rw [reps_intE q1] at h1
    exact ⟨a, ns, rfl, h1, k _ _ (p1_bl e _)⟩
theorem callr_all (hc : X.calm = true) : CallR X (.builtin "all") (rOfN (kx X) opAll) := callr_of fun ps q fr h => by
  match ps, h with
  | [.lst ps], h =>
    simp only [opAll] at h
    obtain ⟨ns, h1, h2⟩ := Option.map_eq_some_iff.mp h
    cases h2
    rw [boolsOf_some h1]
    refine ⟨_, cr_all hc, fun H Hv xs Q e r k => ?_⟩
    obtain ⟨x, rfl, r1⟩ := rbs_1 r
    obtain ⟨a, vs, rfl, h1, q1⟩ := rb_lst e r1
    rw [reps_bls q1] at h1
    exact ⟨a, ns, rfl, .inl (.of h1), k _ _ (p1_bl e _)⟩
  | [.tup ps], h =>
    simp only [opAll] at h
    obtain ⟨ns, h1, h2⟩ := Option.map_eq_some_iff.mp h
    cases h2
    rw [intsOf_some h1]
    refine ⟨_, cr_allT hc, fun H Hv xs Q e r k => ?_⟩
    obtain ⟨x, rfl, r1⟩ := rbs_1 r
    obtain ⟨a, vs, rfl, h1, q1, _⟩ := rb_tup e r1
    rw [reps_intE q1] at h1
    exact ⟨a, ns, rfl, h1, k _ _ (p1_bl e _)⟩
theorem callr_tuple : CallR X (.type "tuple") (rOfN (kx X) opTuple) := callr_of fun ps q fr h => by
  match ps, h with
  | [.lst ps], h =>
    cases h
    refine ⟨_, call_tuple_of, fun H Hv xs Q e r k => ?_⟩
    obtain ⟨x, rfl, r1⟩ := rbs_1 r
    obtain ⟨a, vs, rfl, h1, q1⟩ := rb_lst e r1
    exact ⟨a, vs, rfl, .inl ⟨.inl (.of h1), fun l hl => k _ _ (post1_tup e hl q1)⟩⟩
  | [.tup ps], h =>
    cases h
    refine ⟨_, call_tuple_of, fun H Hv xs Q e r k => ?_⟩
    obtain ⟨x, rfl, r1⟩ := rbs_1 r
    obtain ⟨a, vs, rfl, h1, q1, w1⟩ := rb_tup e r1
    exact ⟨a, vs, rfl, .inr ⟨h1, k _ _ (post1_same e w1)⟩⟩
  | [.scr ps], h =>
    cases h
    refine ⟨_, call_tuple_of, fun H Hv xs Q e r k => ?_⟩
    obtain ⟨x, rfl, r1⟩ := rbs_1 r
    obtain ⟨a, rfl, h1⟩ := rb_scr e r1
    exact ⟨a, _, rfl, .inl ⟨h1, fun l hl => k _ _ (post1_tup e hl (reps_of_ints _))⟩⟩
theorem callr_list : CallR X (.type "list") (rOfN (kx X) opList) := callr_of fun ps q fr h => by
  match ps, h with
  | [.lst ps], h =>
    cases h
    refine ⟨_, call_list_of, fun H Hv xs Q e r k => ?_⟩
    obtain ⟨x, rfl, r1⟩ := rbs_1 r
    obtain ⟨a, vs, rfl, h1, q1⟩ := rb_lst e r1
    exact ⟨a, vs, rfl, .inl (.inl (.of h1)), fun l hl => k _ _ (post1_lst e hl q1)⟩
  | [.tup ps], h =>
    cases h
    refine ⟨_, call_list_of, fun H Hv xs Q e r k => ?_⟩
    obtain ⟨x, rfl, r1⟩ := rbs_1 r
    obtain ⟨a, vs, rfl, h1, q1, w1⟩ := rb_tup e r1
    exact ⟨a, vs, rfl, .inr h1, fun l hl => k _ _ (post1_lst e hl q1)⟩
  | [.scr ps], h =>
    cases h
    refine ⟨_, call_list_of, fun H Hv xs Q e r k => ?_⟩
    obtain ⟨x, rfl, r1⟩ := rbs_1 r
    obtain ⟨a, rfl, h1⟩ := rb_scr e r1
    exact ⟨a, _, rfl, .inl h1, fun l hl => k _ _ (post1_lst e hl (reps_of_ints _))⟩
theorem post1_rng {K : Frg} {H Hv : Hp} {a : Addr} {lo hi : Int} (e : Ext Hv H) (hn : H a = none) : Post1 K H Hv (.ref a) (upd H a (.rng lo hi)) (.rng lo hi) false :=
  ⟨ext_upd hn, by show Rep K (grow Hv H _) _ _; rw [grow_upd e hn]; exact .rng upd_same⟩
theorem callr_range : CallR X (.type "range") (rOfN (kx X) opRange) := callr_of fun ps q fr h => by
  match ps, h with
  | [.int j], h =>
    cases h
    refine ⟨_, cr_range1, fun H Hv xs Q e r k => ?_⟩
    obtain ⟨x, rfl, r1⟩ := rbs_1 r
    exact ⟨j, by rw [rb_int r1], fun p hp => k _ _ (post1_rng e hp)⟩
  | [.int i, .int j], h =>
    cases h
    refine ⟨_, cr_range2, fun H Hv xs Q e r k => ?_⟩
    obtain ⟨x, y, rfl, r1, r2⟩ := rbs_2 r
    exact ⟨i, j, by rw [rb_int r1, rb_int r2], fun p hp => k _ _ (post1_rng e hp)⟩
theorem sorted_uniq : ∀ {a b : List Int}, a.Perm b → a.Pairwise (· ≤ ·) → b.Pairwise (· ≤ ·) → a = b := fun p h1 h2 =>
  p.eq_of_pairwise (fun a b _ _ x y => Int.le_antisymm x y) h1 h2
theorem callr_sorted : CallR X (.builtin "sorted") (rOfN (kx X) opSorted) := callr_of fun ps q fr h => by
  match ps, h with
  | [.lst ps], h =>
    simp only [opSorted] at h
    obtain ⟨ns, h1, h2⟩ := Option.map_eq_some_iff.mp h
    cases h2
    rw [intsOf_some h1]
    refine ⟨_, cr_sortedI, fun H Hv xs Q e r k => ?_⟩
    obtain ⟨x, rfl, r1⟩ := rbs_1 r
    obtain ⟨a, vs, rfl, h1, q1⟩ := rb_lst e r1
    rw [reps_intE q1] at h1
    refine ⟨a, ns, rfl, .inl (.of h1), fun ns' p hp hs hn => ?_⟩
    have : ns' = ns.mergeSort leb := by
      refine sorted_uniq (hp.trans (List.mergeSort_perm ns leb).symm) hs ?_
      have := List.pairwise_mergeSort (le := leb) (fun a b c x y => by unfold leb at *; simp at *; omega) (fun a b => by unfold leb; simp; omega) ns
      exact this.imp fun z => of_decide_eq_true z
    rw [this]
    exact k _ _ (post1_lst e hn (reps_of_ints _))
end
end HF
end

section
set_option Elab.async false
set_option linter.all false
set_option maxRecDepth 100000
set_option maxHeartbeats 1000000
set_option autoImplicit false
/-! HFF: what may be walked, by its value; slices. -/
namespace HF
open PySem PySem.Spec PyProof.Rows L2
def rOk (lo hi : Int) : Bool := decide (-(2 ^ 62) ≤ lo ∧ lo < 2 ^ 62 ∧ -(2 ^ 62) ≤ hi ∧ hi < 2 ^ 62)
def iVal (f : PM Arg) : PM (List PV) := bnd f fun a => bnd (rel1 a) fun p => match p with
  | .lst ps => ret ps
  | .tup ps => ret ps
  | .scr ns => ret (ns.map PV.int)
  | .rng lo hi => if rOk lo hi then ret (rngL lo (hi - lo).toNat) else stk
  | _ => stk
section
variable {X : Cx} {tg : Expr}
def iV (K : PySem.W.Frag) (tl : TE) : TI := fun σ H R => tl σ H fun x H1 => (∃ a, x = .ref a ∧ (∃ xs, SqL K H1 a xs) ∧ R (Itl K a) H1) ∨ (∃ a, x = .ref a ∧ (∃ xs, SqT K H1 a xs) ∧ R (Itt K a) H1) ∨
  ∃ (a : Addr) (lo hi : Int), x = .ref a ∧ H1 a = some (.rng lo hi) ∧ rOk lo hi = true ∧ R (Itr lo (hi - lo).toNat) H1
theorem pi_val {l : Expr} {tl : TE} (hl : PE X l tl) : PI X tg l (iV X.K tl) := by
  refine ⟨fun pins s σ H R I h => ?_⟩
  refine thn (hl.run pins s σ H _ I h) fun v s1 ⟨x, H1, I1, r1, q1⟩ => ?_
  have fpo : ∀ b ∈ [s1.heap.objs.size], FpOk X pins H1 b := fun b hb => by
    have e : b = s1.heap.objs.size := by simpa using hb
    subst e
    exact I1.fpOk (Nat.le_refl _) (I1.hok.fresh (Nat.le_refl _))
  rcases q1 with ⟨a, e, ⟨xs, hq⟩, q⟩ | ⟨a, e, ⟨xs, hq⟩, q⟩ | ⟨a, lo, hi, e, hq, hb, q⟩
  · subst e
    cases r1
    obtain ⟨its, rv, p, hz⟩ := I1.list hq
    refine wpAny_pyIter_list p.isList ?_
    exact ⟨s1.heap.objs.size, [s1.heap.objs.size], _, _, H1, rfl, I1.kept (t' := s1.toks) fun b o e => Heap.get?_push_of_some _ e, turn_list a _, ⟨_, Heap.get?_push_size _ rfl, rfl, rfl⟩, fpo, q⟩
  · subst e
    cases r1
    obtain ⟨its, rv, p, hz⟩ := I1.tuple hq
    refine wpAny_pyIter_tuple (show s1.heap.IsTuple a its.toArray from p) ?_
    exact ⟨s1.heap.objs.size, [s1.heap.objs.size], _, _, H1, rfl, I1.kept (t' := s1.toks) fun b o e => Heap.get?_push_of_some _ e, turn_tuple a _, ⟨_, Heap.get?_push_size _ rfl, rfl, rfl⟩, fpo, q⟩
  · subst e
    cases r1
    obtain ⟨t, u, v, ho⟩ := (show ∃ t u v, s1.heap.get? a = some { cls := .type "range", data := .fields #[.int lo t, .int hi u, .int 1 v] } from I1.hok a _ hq)
    obtain ⟨h1, h2, h3, h4⟩ := of_decide_eq_true (p := -(2 ^ 62) ≤ lo ∧ lo < 2 ^ 62 ∧ -(2 ^ 62) ≤ hi ∧ hi < 2 ^ 62) hb
    refine wpAny_pyIter_range (a := lo) (b := hi) (c := 1) (t := t) (u := u) (v := v) ho (small_one h1 h2 h3 h4) ?_
    refine ⟨s1.heap.objs.size, [s1.heap.objs.size], _, _, H1, rfl, I1.kept (t' := s1.toks) fun b o e => Heap.get?_push_of_some _ e, turn_range _ lo (hi - lo).toNat, ?_, fpo, q⟩
    have e1 : lo + ((0 : Nat) : Int) * 1 = lo := by simp
    have e2 : (((hi - lo).toNat : Nat) : Int) - ((0 : Nat) : Int) = Builtin.Range.rangeSize lo hi 1 := by rw [rangeSize_one]; split <;> omega
    show IsRangeIter _ _ (lo + ((0 : Nat) : Int) * 1) ((((hi - lo).toNat : Nat) : Int) - ((0 : Nat) : Int)) 1
    rw [e1, e2]
    exact Heap.get?_push_size _ rfl
theorem qi_val {W : WX} {e : Expr} {f : PM Arg} (he : QE X W e f) : QI X W tg e (iVal f) := ⟨pi_mono (pi_val he.pe) fun σ H R ⟨Z, s, R1, h⟩ => by
  refine lE_step R1 (Mt.bnd_ h) fun r s1 v H1 k p => ?_
  obtain ⟨q, s2, k, g, rp⟩ := rel1_step (mg := X.mg) p k.bnd_
  cases rp with
  | lst hq rs => exact .inl ⟨_, rfl, ⟨_, hid_sub.sqL (.inl (.of hq))⟩, k _ _ _ g (wk_list _ _ _) ⟨hv_hq.sqL (.inl (.of hq)), rs⟩⟩
  | scr hq => exact .inl ⟨_, rfl, ⟨_, hid_sub.sqL hq⟩, k _ _ _ g (wk_list _ _ _) ⟨hv_hq.sqL hq, reps_ints _⟩⟩
  | tup hq rs => exact .inr (.inl ⟨_, rfl, ⟨_, hid_sub.sqT hq⟩, k _ _ _ g (wk_tup _ _ _) ⟨hv_hq.sqT hq, rs⟩⟩)
  | rng hq =>
    simp only at k
    split at k
    · rename_i hb
      exact .inr (.inr ⟨_, _, _, rfl, hid_sub _ _ hq, hb, k _ _ _ g (wk_rng _ _) trivial⟩)
    · exact k.elim
  | _ => exact k.elim⟩
end

/-! ### slices -/
def cutP (xs : List PV) (lo hi : Option Int) : List PV := (xs.drop (HT.sIx xs.length 0 lo)).take (HT.sIx xs.length xs.length hi - HT.sIx xs.length 0 lo)
def opSl (p : PV) (lo hi : Option Int) : Option (PV × Bool) := match p with
  | .lst ps => some (.lst (cutP ps lo hi), true)
  | .tup ps => some (.tup (cutP ps lo hi), false)
  | .scr ps => some (.lst (cutP (ps.map .int) lo hi), true)
  | _ => none
/-- a part of a slice: none, or an int -/
def eNoP : PM (Option Int) := ret none
def eP (f : PM Arg) : PM (Option Int) := bnd f fun a => match a with
  | .val (.int i) _ => ret (some i)
  | _ => stk
def eSl (f : PM Arg) (l u : PM (Option Int)) : PM Arg := bnd f fun a => bnd l fun lo => bnd u fun hi => fun s => match rv s a with
  | some p => fin (opSl p lo hi) s
  | none => .stuck
def lO (K : Frg) (mg : Str → Option Value) (W : WX) (f : PM (Option Int)) : TO := fun σ H Q => ∃ (Z : Addr → Prop) (s : SE), Rl K Z H σ s ∧
  Mt (f s) (fun o s' => ∀ H', Go K Z Z H σ s s' H' → Q o H') (fun c s' => XOut K mg W Z H σ s c s')
structure QO (X : Cx) (W : WX) (e : Option Expr) (f : PM (Option Int)) : Prop where
  po : PO X e (lO (kx X) X.mg W f)
theorem po_mono {X : Cx} {e : Option Expr} {t t' : TO} (h : PO X e t) (m : ∀ σ H Q, t' σ H Q → t σ H Q) : PO X e t' := ⟨fun pins s σ H Q I q => h.run pins s σ H Q I (m σ H Q q)⟩
theorem lO_step {K : Frg} {mg : Str → Option Value} {W : WX} {Z : Addr → Prop} {H : Hp} {σ : L2.St} {s : SE} {f : PM (Option Int)} {Q : Option Int → Hp → Prop} {ok : Option Int → SE → Prop} (R : Rl K Z H σ s) (h : Mt (f s) ok (fun c s' => XOut K mg W Z H σ s c s')) (k : ∀ b s1 H1, ok b s1 → Go K Z Z H σ s s1 H1 → Q b H1) : lO K mg W f σ H Q :=
  ⟨Z, s, R, by
    cases q : f s with
    | ok r s1 => rw [q] at h; exact fun H1 p => k r s1 H1 h p
    | exc c s1 => rw [q] at h; exact h
    | stuck => rw [q] at h; exact h⟩
section
variable {X : Cx} {W : WX} {e a b : Expr} {lo hi : Option Expr} {f : PM Arg} {l u : PM (Option Int)} {pos p2 : Pos}
theorem qo_none : QO X W none eNoP := ⟨po_mono po_none fun σ H Q ⟨Z, s, R, h⟩ => h H (Go.refl R)⟩
theorem qo_some (he : QE X W e f) : QO X W (some e) (eP f) := ⟨po_mono (po_some he.pe) fun σ H Q ⟨Z, s, R, h⟩ => by
  refine lE_step R (Mt.bnd_ h) fun r s1 v H1 k p => ?_
  obtain ⟨g, a1⟩ := p.wait
  match r, a1, k with
  | .val (.int i) _, a1, k =>
    cases a1
    exact ⟨i, rfl, k H1 g⟩⟩
theorem cut_reps {K : Frg} {H : Hp} {vs : List V} {ps : List PV} (r : Reps K H vs ps) (lo hi : Option Int) : Reps K H (cutV vs lo hi) (cutP ps lo hi) := by
  unfold cutV cutP
  rw [r.length]
  exact (r.drop _).take _
theorem cut_whole {xs : List PV} {lo hi : Option Int} (h : HT.sIx xs.length 0 lo = 0 ∧ HT.sIx xs.length xs.length hi = xs.length) : cutP xs lo hi = xs := by
  unfold cutP
  rw [h.1, h.2]
  simp
/-- what slices of values give -/
theorem sl_post {K : Frg} {H Hv : Hp} {v : V} {p q : PV} {fr : Bool} {i j : Option Int} {Q : VK} (e : Ext Hv H) (r : RepB K H Hv v p) (h : opSl p i j = some (q, fr)) (k : ∀ v H', Post1 K H Hv v H' q fr → Q v H') : rSlL K.K v i j H Q ∨ rSlA K.K v i j H Q := by
  match p, h with
  | .lst ps, h =>
    cases h
    obtain ⟨a, vs, rfl, h1, q1⟩ := rb_lst e r
    exact .inl ⟨a, vs, rfl, .inl (.of h1), fun p hp => k _ _ (post1_lst e hp (cut_reps q1 i j))⟩
  | .scr ns, h =>
    cases h
    obtain ⟨a, rfl, h1⟩ := rb_scr e r
    exact .inl ⟨a, _, rfl, h1, fun p hp => k _ _ (post1_lst e hp (cut_reps (reps_of_ints ns) i j))⟩
  | .tup ps, h =>
    cases h
    obtain ⟨a, vs, rfl, h1, q1, w⟩ := rb_tup e r
    refine .inr ⟨a, vs, rfl, h1, fun z => ?_, fun _ p hp => k _ _ (post1_tup e hp (cut_reps q1 i j))⟩
    rw [q1.length] at z
    have := cut_whole z
    exact k _ _ (post1_same e (by rw [this]; exact w))
theorem qe_sl (he : QE X W e f) (hl : QO X W lo l) (hu : QO X W hi u) : QE X W (.Subscript e (.Slice lo hi none p2) pos) (eSl f l u) :=
  qe_of (pe_slice (sl_list.or sl_tupA) he.pe hl.po hu.po) fun σ H Q h => by
    obtain ⟨Z, s, R, h⟩ := lE_iff.mp h
    refine lE_step R h.bnd_ fun r1 s1 v H1 k p1 => ?_
    obtain ⟨g1, a1⟩ := p1.wait
    refine lO_step g1.rl ((Mt.bnd_ k).later g1) fun i s2 H2 k2 g2 => ?_
    refine lO_step g2.rl ((Mt.bnd_ k2).later (g1.trans g2)) fun j s3 H3 k3 g3 => ?_
    have a3 := (a1.go g2).go g3
    cases e1 : rv s3 r1 with
    | none => simp only [e1] at k3; exact k3.elim
    | some p =>
      simp only [e1, fin] at k3
      cases e3 : opSl p i j with
      | none => rw [e3] at k3; exact k3.elim
      | some q =>
        obtain ⟨q, fr⟩ := q
        rw [e3] at k3
        exact sl_post hid_sub (a3.repB g3.rl e1) e3 fun v H' z => k3 v H' ((z.postE g3.rl).after ((g1.trans g2).trans g3))
end
end HF
end

section
set_option Elab.async false
set_option linter.all false
set_option maxRecDepth 100000
set_option maxHeartbeats 1000000
set_option autoImplicit false
/-! HFG: displays of dicts. -/
namespace HF
open PySem PySem.Spec PyProof.Rows L2
def dispL : List (PM Arg) → PM (List PV)
  | [] => ret []
  | f :: fs => bnd f fun a => bnd (rel1 a) fun p => bnd (dispL fs) fun ps => ret (p :: ps)
def dispD (ks : List Key) (ps : List PV) : List (PV × PV) := (ks.zip ps).foldl (fun acc e => dPut acc (kPV e.1) e.2) []
def eDisp (ks : List Key) (fs : List (PM Arg)) : PM Arg := fun s => match dispL fs s with
  | .ok ps s' => .ok (.val (.dct 0 (dispD ks ps)) true) s'
  | _ => .stuck
def trD (X : Cx) (W : WX) : List Key → List (PM Arg) → List (TE × TE)
  | k :: ks, f :: fs => (tC (kV k), lE (kx X) X.mg W f) :: trD X W ks fs
  | _, _ => []
/-- the pairs of a display -/
structure QD (X : Cx) (W : WX) (pos : Pos) (keys : List (Option Expr)) (values : List Expr) (ks : List Key) (fs : List (PM Arg)) : Prop where
  pps : PPs X pos keys values (trD X W ks fs)
  len : ks.length = fs.length
section
variable {X : Cx} {W : WX} {pos : Pos}
theorem qd_nil : QD X W pos [] [] [] [] := ⟨pps_nil, rfl⟩
theorem qd_cons {k v : Expr} {keys : List (Option Expr)} {values : List Expr} {x : Key} {f : PM Arg} {ks : List Key} {fs : List (PM Arg)} (hk : PE X k (tC (kV x))) (hv : QE X W v f) (hr : QD X W pos keys values ks fs) : QD X W pos (some k :: keys) (v :: values) (x :: ks) (f :: fs) :=
  ⟨pps_cons hk hv.pe hr.pps, by simp [hr.len]⟩
theorem disp_m {Z : Addr → Prop} : ∀ (ks : List Key) (fs : List (PM Arg)) (s : SE) (σ : L2.St) (H : Hp) (Q : List (V × V) → Hp → Prop), ks.length = fs.length → Rl (kx X) Z H σ s →
    Mt (dispL fs s) (fun ps s' => ∀ vs H', Go (kx X) Z Z H σ s s' H' → Reps (kx X) (Hd Z σ s' H') vs ps → vs.length = ks.length → Q ((ks.map kV).zip vs) H') (fun _ _ => False) → tPairs (trD X W ks fs) σ H Q
  | [], [], s, σ, H, Q, _, R, h => h [] H (Go.refl R) .nil rfl
  | [], _ :: _, _, _, _, _, e, _, _ => by cases e
  | _ :: _, [], _, _, _, _, e, _, _ => by cases e
  | k :: ks, f :: fs, s, σ, H, Q, e, R, h => by
    refine lE_step R (Mt.noex (Mt.bnd_ h)) fun r s1 v H1 q p => ?_
    obtain ⟨x, s2, q, g, rp⟩ := rel1_step (mg := X.mg) p (Mt.bnd_ q)
    refine disp_m ks fs s2 σ H1 _ (Nat.succ.inj e) g.rl (Mt.imp (Mt.bnd_ q) fun ps s3 q2 vs H3 g3 rs el => ?_)
    exact q2 (v :: vs) H3 (g.trans g3) (.cons (rp.ext g3.vis) rs) (by simp [el])
/-- entry by entry -/
theorem disp_put {K : Frg} {Hv : Hp} : ∀ (ks : List Key) (vs : List V) (ps : List PV) (kvs : List (Key × V)) (pv : List (PV × PV)), RepD K Hv (lK kvs) pv → Reps K Hv vs ps →
    RepD K Hv (lK (mergeK kvs (ks.zip vs))) ((ks.zip ps).foldl (fun acc e => dPut acc (kPV e.1) e.2) pv)
  | [], _, _, _, _, r, _ => r
  | k :: ks, _, _, kvs, pv, r, .nil => r
  | k :: ks, _, _, kvs, pv, r, .cons a b => disp_put ks _ _ _ _ (rd0_put r k a) b
theorem zip_kV : ∀ (ks : List Key) (vs : List V), (ks.map kV).zip vs = (ks.zip vs).map fun kv => (kV kv.1, kv.2)
  | [], _ => rfl
  | _ :: _, [] => rfl
  | k :: ks, v :: vs => by simp only [List.map_cons, List.zip_cons_cons, zip_kV ks vs]
theorem qe_disp {keys : List (Option Expr)} {values : List Expr} {ks : List Key} {fs : List (PM Arg)} (h : QD X W pos keys values ks fs) (hall : keys.all (·.isSome) = true) (hl : keys.length = values.length) (h0 : keys ≠ []) (h15 : keys.length ≤ 15) (hk : ks.length ≤ 15) :
    QE X W (.Dict keys values pos) (eDisp ks fs) := qe_of (pe_disp h.pps hall hl h0 h15) fun σ H Q q => by
  obtain ⟨Z, s, R, q⟩ := lE_iff.mp q
  intro p hp
  have q' : Mt (dispL fs s) (fun ps s' => ∀ v H', PostE (kx X) Z H σ s (.val (.dct 0 (dispD ks ps)) true) s' v H' → Q v H') (fun _ _ => False) := by
    unfold eDisp at q
    cases e : dispL fs s with
    | ok ps s' => rw [e] at q; exact q
    | exc c s' => rw [e] at q; exact q.elim
    | stuck => rw [e] at q; exact q.elim
  have R1 : Rl (kx X) (fun b => Z b ∨ b = p) (upd H p (.dK [])) σ s := R.hold hp (ext_upd hp) (by rw [upd_same]; nofun)
  refine disp_m ks fs s σ (upd H p (.dK [])) _ h.len R1 (Mt.imp q' fun ps s' k vs H' g rs el => ?_)
  have hpo : ∀ b, Owns σ s b → b ≠ p := fun b z e => by subst e; exact R.ownIn z hp
  have hk' : H' p = some (.dK []) := g.fr p _ upd_same fun z => (hpo p z rfl).elim
  refine ⟨hk', ks.zip vs, zip_kV ks vs, by rw [List.length_zip]; omega, k _ _ ?_⟩
  have hp' : ¬ Owns σ s' p := fun z => (hpo p (g.ow p z)) rfl
  -- what is visible behind the store
  have R2 : Rl (kx X) (fun b => Z b ∨ b = p) (upd H' p (.dK (mergeK [] (ks.zip vs)))) σ s' := g.rl.zwrite (.inr rfl)
  have hv : Hd (fun b => Z b ∨ b = p) σ s' (upd H' p (.dK (mergeK [] (ks.zip vs)))) = Hd (fun b => Z b ∨ b = p) σ s' H' := hd_z (.inr rfl)
  refine ⟨p, rfl, hp, ⟨R2, fun b o e n => ?_, g.ow, fun b h => ?_, g.kp⟩, ⟨_, ⟨_, upd_same, rfl⟩, ?_⟩, hp', fun z => R.zin p z hp⟩
  · by_cases eb : b = p
    · subst eb; rw [hp] at e; cases e
    · rw [upd_ne eb]
      exact g.fr b o (by rw [upd_ne eb]; exact e) n
  · by_cases eb : b = p
    · subst eb; rw [upd_same]; nofun
    · rw [upd_ne eb]
      exact g.tr b (by rw [upd_ne eb]; exact h)
  · have z := disp_put (K := kx X) (Hv := Hd (fun b => Z b ∨ b = p) σ s' H') ks vs ps [] [] .nil rs
    rw [hv]
    exact z
end
end HF
end

section
set_option Elab.async false
set_option linter.all false
set_option maxRecDepth 100000
set_option maxHeartbeats 1000000
set_option autoImplicit false
/-! HFL: the law's own def: statements that hand lambdas on; tables of code objects change on the way. -/
namespace HF
open PySem PySem.Spec PyProof.Rows L2 LamX

/-! ### tables are no owned things -/
theorem codeO_sat (c : Addr) (q : Str) : ∃ h : Heap, ∃ (oc : Obj) (vs : Array Value) (t : Tok), h.get? c = some oc ∧ oc.data = .fields vs ∧ vs[1]? = some (.str q t) :=
  ⟨⟨Array.replicate (c + 1) { cls := .none, data := .fields #[.none, .str q 0] }, {}⟩, { cls := .none, data := .fields #[.none, .str q 0] }, #[.none, .str q 0], 0, by simp [Heap.get?, Array.getElem?_replicate], rfl, rfl⟩
theorem dno_code {P : Program} {w : World} {a : Addr} {xs : XN} {q : Str} : DNo P w a xs ≠ CodeO a q := fun e => by
  unfold DNo CodeO at e
  injection e with e
  obtain ⟨h, hc⟩ := codeO_sat a q
  have z := congrFun e h
  have hc' := hc
  obtain ⟨oc, vs, t, h1, h2, _⟩ := hc'
  rw [← z] at hc
  obtain ⟨_, _, ys, _, o, es, ep, ho, _, hd, _⟩ := hc
  rw [ho] at h1; cases h1
  rw [hd] at h2; cases h2
theorem nt_lst {xs : List V} : (∀ ps, HO.lst xs ≠ .tbl ps) ∧ ∀ a q, HO.lst xs ≠ CodeO a q := ⟨fun ps z => (by cases z), fun a q z => (by unfold CodeO at z; cases z)⟩
theorem nt_dK {xs : List (Key × V)} : (∀ ps, HO.dK xs ≠ .tbl ps) ∧ ∀ a q, HO.dK xs ≠ CodeO a q := ⟨fun ps z => (by cases z), fun a q z => (by unfold CodeO at z; cases z)⟩
theorem nt_dN {P : Program} {w : World} {a : Addr} {xs : XN} : ∀ ps, DNo P w a xs ≠ .tbl ps := fun ps z => (by unfold DNo at z; cases z)
theorem ob_nc {K : Frg} {H Hv : Hp} {a : Addr} {p : PV} (h : Ob K H Hv a p) : ∃ o, H a = some o ∧ NT o ∧ ∀ q, o ≠ CodeO a q := by
  cases p with
  | lst ps => obtain ⟨vs, e, _⟩ := h; exact ⟨_, e, nt_lst.1, fun q => nt_lst.2 a q⟩
  | dct k kvs =>
    obtain ⟨l, e, _⟩ := h
    match k, e with
    | 0, ⟨kvs, e, _⟩ => exact ⟨_, e, nt_dK.1, fun q => nt_dK.2 a q⟩
    | 1, ⟨xs, e, _⟩ => exact ⟨_, e, nt_dN, fun q z => dno_code z⟩
  | _ => exact h.elim
section
variable {K : Frg} {Z : Addr → Prop} {H H1 : Hp} {σ : L2.St} {s : SE}
theorem hd_extN (e : ExtN H H1) : Ext (noT (Hd Z σ s H)) (Hd Z σ s H1) := fun a o h => by
  obtain ⟨h1, n⟩ := noT_some.mp h
  obtain ⟨h2, h3⟩ := hid_some.mp h1
  exact hid_some.mpr ⟨h2, e a o h3 n⟩
theorem Rl.extN (R : Rl K Z H σ s) (e : ExtN H H1) (t : ∀ a, Z a → H1 a ≠ none) : Rl K Z H1 σ s where
  len := R.len
  zin := t
  sh := fun i p h => by
    obtain ⟨v, e1, r⟩ := R.sh i p h
    exact ⟨v, e1, r.noT.ext (hd_extN e)⟩
  ow := fun i p h => by
    obtain ⟨a, e1, n, ob⟩ := R.ow i p h
    obtain ⟨o, ho, nt, _⟩ := ob_nc ob
    refine ⟨a, e1, n, ?_⟩
    have ob' : Ob K H (HF.noT (Hd Z σ s H)) a p := by
      cases p with
      | lst ps => obtain ⟨vs, e, r⟩ := ob; exact ⟨vs, e, r.noT⟩
      | dct k kvs => obtain ⟨l, e, r⟩ := ob; exact ⟨l, e, r.noT⟩
      | _ => exact ob.elim
    exact ob'.ext (by rw [ho]; exact e a o ho nt) (hd_extN e)
  dj := R.dj
end

/-! ### the law's own steps -/
def Tb (T : List (Addr × Str)) (Z : Addr → Prop) (H : Hp) : Prop := Tabs T H ∧ ∀ a, ¬ Z a
section
variable {T : List (Addr × Str)} {K : Frg} {Z Z' : Addr → Prop} {H H' H1 H2 : Hp} {σ σ' σ1 σ2 : L2.St} {s s1 s2 s' : SE} {pin : List Nat}
structure GL (T : List (Addr × Str)) (K : Frg) (Z : Addr → Prop) (H : Hp) (σ : L2.St) (s : SE) (H' : Hp) (σ' : L2.St) (s' : SE) : Prop where
  rl : Rl K Z H' σ' s'
  tb : Tb T Z H'
  vd : Ext (noT (Hd Z σ s H)) (noT (Hd Z σ' s' H'))
  vq : Ext (noT (Hq σ s H)) (noT (Hq σ' s' H'))
theorem GL.refl (R : Rl K Z H σ s) (t : Tb T Z H) : GL T K Z H σ s H σ s := ⟨R, t, Ext.refl, Ext.refl⟩
theorem GL.trans (a : GL T K Z H σ s H1 σ1 s1) (b : GL T K Z H1 σ1 s1 H2 σ2 s2) : GL T K Z H σ s H2 σ2 s2 := ⟨b.rl, b.tb, a.vd.trans b.vd, a.vq.trans b.vq⟩
theorem tabs_fr (R : Rl K Z H σ s) (t : Tb T Z H) (fr : ∀ a o, H a = some o → ¬ Owns σ s a → H' a = some o) : Tb T Z H' := ⟨fun p hp => by
  obtain ⟨ps, h1, h2, h3⟩ := t.1 p hp
  have no : ∀ a o, H a = some o → ((∃ ps, o = .tbl ps) ∨ ∃ q, o = CodeO a q) → ¬ Owns σ s a := fun a o e h z => by
    obtain ⟨i, p', e1, e2⟩ := z
    obtain ⟨b, e3, _, ob⟩ := R.ow i p' e1
    rw [e2] at e3; cases e3
    obtain ⟨o', e4, n1, n2⟩ := ob_nc ob
    rw [e] at e4; cases e4
    rcases h with ⟨ps, h⟩ | ⟨q, h⟩
    · exact n1 ps h
    · exact n2 q h
  refine ⟨ps, fr _ _ h1 (no _ _ h1 (.inl ⟨ps, rfl⟩)), h2, fun pos cv hc => ?_⟩
  obtain ⟨c, e1, e2⟩ := h3 pos cv hc
  exact ⟨c, e1, fr _ _ e2 (no _ _ e2 (.inr ⟨_, rfl⟩))⟩, t.2⟩
theorem GoS.gl (g : GoS K pin Z Z H σ s H' σ' s') (R : Rl K Z H σ s) (t : Tb T Z H) : GL T K Z H σ s H' σ' s' := ⟨g.rl, tabs_fr R t g.fr, noT_mono g.vis, noT_mono g.visQ⟩
theorem Go.gl (g : Go K Z Z H σ s s' H') (R : Rl K Z H σ s) (t : Tb T Z H) : GL T K Z H σ s H' σ s' := GoS.gl (pin := []) g.st R t
/-- a result, told when it is a bool -/
def RV (v : V) (r : Arg) : Prop := ∀ b, r = .val (.bl b) false → v = .bl b
theorem PostR.gl {r : Arg} {v : V} (p : PostR K pin Z H σ s r s' v H' σ') (R : Rl K Z H σ s) (t : Tb T Z H) : GL T K Z H σ s H' σ' s' ∧ RV v r := by
  match r, p with
  | .val _ false, p => exact ⟨GoS.gl p.1 R t, fun b e => by cases e; have := p.2; cases this; rfl⟩
  | .val _ true, ⟨a, e, hn, g, _⟩ =>
    have g' : GoS K pin Z Z H σ s H' σ' s' := ⟨g.rl.weak fun _ z => .inl z, g.fr, g.ow, g.tr, g.pn, g.ln, g.kp⟩
    exact ⟨g'.gl R t, fun b e => by cases e⟩
  | .bor i, p => exact ⟨GoS.gl p.1 R t, fun b e => by cases e⟩
def lFL (T : List (Addr × Str)) (K : Frg) (Z : Addr → Prop) (H : Hp) (σ : L2.St) (s : SE) (D : Ends) (f : Fl) (s' : SE) : Prop :=
  match f with
  | .next => ∀ σ' H', GL T K Z H σ s H' σ' s' → D.nx σ' H'
  | .brk => ∀ σ' H', GL T K Z H σ s H' σ' s' → D.bk σ' H'
  | .cont => ∀ σ' H', GL T K Z H σ s H' σ' s' → D.ct σ' H'
  | .ret r => ∀ v σ' H', GL T K Z H σ s H' σ' s' → RV v r → D.rt v H'
def lSL (T : List (Addr × Str)) (K : Frg) (F : PM Fl) : TS := fun D σ H => ∃ (Z : Addr → Prop) (s : SE), Rl K Z H σ s ∧ Tb T Z H ∧ Mt (F s) (lFL T K Z H σ s D) (fun _ _ => False)
def lTL (T : List (Addr × Str)) (K : Frg) (f : PM Bool) : TT := fun σ H Q => ∃ (Z : Addr → Prop) (s : SE), Rl K Z H σ s ∧ Tb T Z H ∧ Mt (f s) (fun b s' => ∀ H', GL T K Z H σ s H' σ s' → Q b H') (fun _ _ => False)
def lBL (T : List (Addr × Str)) (K : Frg) (f : PM Bool) : TE := fun σ H Q => ∃ (Z : Addr → Prop) (s : SE), Rl K Z H σ s ∧ Tb T Z H ∧ Mt (f s) (fun b s' => ∀ H', GL T K Z H σ s H' σ s' → Q (.bl b) H') (fun _ _ => False)
theorem lFL.after {D : Ends} {f : Fl} (h : lFL T K Z H σ s D f s2) (g : GL T K Z H σ s H1 σ1 s1) : lFL T K Z H1 σ1 s1 D f s2 := by
  cases f with
  | next => exact fun σ' H' p => h σ' H' (g.trans p)
  | brk => exact fun σ' H' p => h σ' H' (g.trans p)
  | cont => exact fun σ' H' p => h σ' H' (g.trans p)
  | ret r => exact fun v σ' H' p => h v σ' H' (g.trans p)
theorem MtL.after {D : Ends} {r : Rs Fl} (h : Mt r (lFL T K Z H σ s D) (fun _ _ => False)) (g : GL T K Z H σ s H1 σ1 s1) : Mt r (lFL T K Z H1 σ1 s1 D) (fun _ _ => False) := by
  cases r with
  | ok a s => exact lFL.after h g
  | exc c s => exact h
  | stuck => exact h
theorem lTL_step {f : PM Bool} {Q : Bool → Hp → Prop} {ok : Bool → SE → Prop} (R : Rl K Z H σ s) (t : Tb T Z H) (h : Mt (f s) ok (fun _ _ => False)) (k : ∀ b s1 H1, ok b s1 → GL T K Z H σ s H1 σ s1 → Q b H1) : lTL T K f σ H Q :=
  ⟨Z, s, R, t, Mt.imp h fun b s1 q H1 g => k b s1 H1 q g⟩
theorem lBL_step {f : PM Bool} {Q : VK} {ok : Bool → SE → Prop} (R : Rl K Z H σ s) (t : Tb T Z H) (h : Mt (f s) ok (fun _ _ => False)) (k : ∀ b s1 H1, ok b s1 → GL T K Z H σ s H1 σ s1 → Q (.bl b) H1) : lBL T K f σ H Q :=
  ⟨Z, s, R, t, Mt.imp h fun b s1 q H1 g => k b s1 H1 q g⟩
end
structure LS (X : Cx) (T : List (Addr × Str)) (st : Stmt) (F : PM Fl) : Prop where
  ps : PS X st (lSL T (kx X) F)
structure LSs (X : Cx) (T : List (Addr × Str)) (sts : List Stmt) (F : PM Fl) : Prop where
  pss : PSs X sts (lSL T (kx X) F)
structure LT (X : Cx) (T : List (Addr × Str)) (e : Expr) (f : PM Bool) : Prop where
  pt : PT X e (lTL T (kx X) f)
structure LB (X : Cx) (T : List (Addr × Str)) (e : Expr) (f : PM Bool) : Prop where
  pe : PE X e (lBL T (kx X) f)
section
variable {X : Cx} {W : WX} {T : List (Addr × Str)} {st : Stmt} {rest a b : List Stmt} {F G : PM Fl} {e c : Expr} {f : PM Bool} {ct : PM Bool} {pos : Pos}
theorem ls_of (h : QS X W [] st F) : LS X T st F := ⟨ps_mono h.ps fun D σ H ⟨Z, s, R, t, m⟩ => ⟨Z, s, R, by
  cases q : F s with
  | stuck => rw [q] at m; exact m
  | exc c s1 => rw [q] at m; exact m.elim
  | ok fl s1 =>
    rw [q] at m
    cases fl with
    | next => exact fun σ' H' g => m σ' H' (g.gl R t)
    | brk => exact fun σ' H' g => m σ' H' (g.gl R t)
    | cont => exact fun σ' H' g => m σ' H' (g.gl R t)
    | ret r => exact fun v σ' H' p => m v σ' H' (p.gl R t).1 (p.gl R t).2⟩⟩
theorem ls_nil : LSs X T [] sNext := ⟨pss_mono pss_nil fun D σ H ⟨Z, s, R, t, h⟩ => h _ _ (GL.refl R t)⟩
theorem ls_cons (h1 : LS X T st F) (h2 : LSs X T rest G) : LSs X T (st :: rest) (sSeq F G) := ⟨pss_mono (pss_cons h1.ps h2.pss) fun D σ H ⟨Z, s, R, t, h⟩ => by
  refine ⟨Z, s, R, t, ?_⟩
  unfold sSeq at h
  cases q : F s with
  | stuck => rw [q] at h; exact h
  | exc c s1 => rw [q] at h; exact h
  | ok fl s1 =>
    rw [q] at h
    cases fl with
    | next => exact fun σ' H' g => ⟨Z, s1, g.rl, g.tb, MtL.after h g⟩
    | brk => exact h
    | cont => exact h
    | ret r => exact h⟩
theorem ls_one (h1 : LS X T st F) : LSs X T [st] F := ⟨pss_one h1.ps⟩
theorem ls_if (hc : LT X T c ct) (ha : LSs X T a F) (hb : LSs X T b G) : LS X T (.If c a b pos) (sIf ct F G) := ⟨ps_mono (ps_if hc.pt ha.pss hb.pss) fun D σ H ⟨Z, s, R, t, h⟩ => by
  refine lTL_step R t (Mt.bnd_ (ex := fun _ _ => False) h) fun k s1 H1 q g => ?_
  cases k with
  | true => exact ⟨Z, s1, g.rl, g.tb, MtL.after q g⟩
  | false => exact ⟨Z, s1, g.rl, g.tb, MtL.after q g⟩⟩
theorem lt_of (h : QT X W e f) : LT X T e f := ⟨pt_mono h.pt fun σ H Q ⟨Z, s, R, t, m⟩ => ⟨Z, s, R, Mt.noex (m.imp fun b s1 q H1 g => q H1 (g.gl R t))⟩⟩
theorem lt_not (h : LT X T e f) : LT X T (.UnaryOp .Not e pos) (tNotP f) := ⟨pt_mono (pt_not h.pt) fun σ H Q ⟨Z, s, R, t, m⟩ => by
  refine lTL_step R t (Mt.bnd_ (ex := fun _ _ => False) m) fun b s1 H1 k g => k H1 g⟩
theorem lt_val (h : LB X T e f) (he : ∀ whole, isTrue e X.env whole = (do let v ← whole; standAt e.pos; holding [v] (truthy v)) := by intro _; rfl) : LT X T e f := ⟨pt_mono (pt_truth h.pe he) fun σ H Q ⟨Z, s, R, t, m⟩ =>
  ⟨Z, s, R, t, m.imp fun b s1 q H1 g => ⟨b, rfl, q H1 g⟩⟩⟩
def sRetB (f : PM Bool) : PM Fl := bnd f fun b => ret (.ret (.val (.bl b) false))
theorem ls_retB (h : LB X T e f) : LS X T (.Return (some e) pos) (sRetB f) := ⟨ps_mono (ps_ret h.pe) fun D σ H ⟨Z, s, R, t, m⟩ => by
  refine lBL_step R t (Mt.bnd_ (ex := fun _ _ => False) m) fun b s1 H1 k g => k _ σ H1 g fun b' e => ?_
  cases e; rfl⟩
/-- for .. in what is walked -/
theorem ls_for {tg iter : Expr} {body : List Stmt} {I : PM (List PV)} {G : PV → PM Unit} (hp : PassesOwn (model X.prog X.w) X.A X.env X.xe) (hc : X.calm = true) (hi : QI X W tg iter I) (hg : QG X [] tg G) (hb : LSs X T body F) (hs : ∀ x, foldedSetIterable iter X.env x = pure x := by intro _; rfl) :
    LS X T (.For tg iter body [] pos) (sFor I G F) := ⟨ps_mono (ps_for hp hc hi.pi hg.pg hb.pss hs) fun D σ H ⟨Z, s, R, t, h⟩ => by
  refine ⟨Z, s, R, Mt.noex (Mt.imp (Mt.bnd_ (ex := fun _ _ => False) h) fun ps s1 q J H1 Rb g wk rb => ?_)⟩
  refine ⟨fun i m σ' H' => m + i = ps.length ∧ ∃ s : SE, Rl (kx X) Z H' σ' s ∧ Tb T Z H' ∧ Rb (noT (Hq σ' s H')) (noT (Hd Z σ' s H')) ∧ Mt (forL G F (ps.drop i) s) (lFL T (kx X) Z H' σ' s D) (fun _ _ => False), ?_, ?_⟩
  · exact ⟨ps.length, by omega, s1, g.rl, tabs_fr R t g.fr, wk.nt _ _ rb, MtL.after q (g.gl R t)⟩
  · clear q g rb H1 s1 h R t s
    intro i m σ H ⟨em, s, R, t, rb, h⟩
    have sub1 : Ext (noT (Hq σ s H)) H := noT_sub.trans hid_sub
    have sub2 : Ext (noT (Hd Z σ s H)) (noT (Hq σ s H)) := noT_mono hv_hq
    cases e : ps[i]? with
    | none =>
      have hl : ps.length ≤ i := List.getElem?_eq_none_iff.mp e
      rw [List.drop_of_length_le hl] at h
      exact .inl ⟨wk.stop i H _ _ rb sub1 sub2 hl, h σ H (GL.refl R t)⟩
    | some p =>
      obtain ⟨hl, ep⟩ := List.getElem?_eq_some_iff.mp e
      rw [List.drop_eq_getElem_cons hl, ep] at h
      refine .inr ⟨wk.go i p H _ _ rb sub1 sub2 e, fun σ' H' => ∃ s : SE, Rl (kx X) Z H' σ' s ∧ Tb T Z H' ∧ Rb (noT (Hq σ' s H')) (noT (Hd Z σ' s H')) ∧ Mt (forL G F (ps.drop (i + 1)) s) (lFL T (kx X) Z H' σ' s D) (fun _ _ => False),
        fun σ' H' z => ⟨m - 1, by omega, by omega, z⟩, fun x H' hy => ?_⟩
      have hdH : Ext (Hd Z σ s H) H := hid_sub
      obtain ⟨ex, rp⟩ := wk.yld i p H _ _ x H' (wk.mono _ _ _ _ rb noT_sub noT_sub) hid_sub hv_hq e hy
      have g0 : Go (kx X) Z Z H σ s s H' := Go.grown R ex
      rw [grow_hid R.hidIn ex] at rp
      refine ⟨Z, s, p, g0.rl, rp, Mt.imp (Mt.nx (Mt.bnd_ (ex := fun _ _ => False) h)) fun _ s1 q σ1 H1 g1 _ => ⟨Z, s1, g1.rl, ?_⟩⟩
      have G1 := (g0.st (pin := [])).trans g1
      have L1 := G1.gl R t
      refine ⟨L1.tb, ?_⟩
      have rb1 := wk.mono _ _ _ _ rb L1.vq L1.vd
      cases e2 : F s1 with
      | stuck => rw [e2] at q; exact q.elim
      | exc x s2 => rw [e2] at q; exact q.elim
      | ok fl s2 =>
        rw [e2] at q
        cases fl with
        | next => exact fun σ' H' gs => ⟨s2, gs.rl, gs.tb, wk.mono _ _ _ _ rb1 gs.vq gs.vd, MtL.after q (L1.trans gs)⟩
        | cont => exact fun σ' H' gs => ⟨s2, gs.rl, gs.tb, wk.mono _ _ _ _ rb1 gs.vq gs.vd, MtL.after q (L1.trans gs)⟩
        | brk => exact fun σ' H' gs => q σ' H' (L1.trans gs)
        | ret r => exact fun v σ' H' gs => q v σ' H' (L1.trans gs)⟩
end

/-! ### x(lambda: ..) with def x(call): try: call() except E: return True; return False -/
def TTref (K : PySem.W.Frag) (CS : Addr) : (XK → Hp → VK → Prop) → Hp → VK → Prop := fun tl H Q => tl (fun cls _ H' => PySem.W.exmOne K cls (.ref CS) = some true ∧ Q (.bl true) H') H (fun _ H' => Q (.bl false) H')
section
variable {X : Cx}
theorem ref_gives {Ng : List Str} {x a e q : Str} {sg : Scope} {g CS : Addr} {cdg : Value} {j j2 : Nat} {p1 p2 p3 p4 p5 p6 p7 p8 p9 p10 : Pos} (hge : sg.names.lookup e = some .globalImplicit) (hme : X.mg e = some (.ref CS)) (hde : (e == ("__debug__" : Str)) = false) (h0 : ∀ f : Addr, (L2.start Ng [V.ref f])[0]? = some (some (V.ref f))) :
    GivesTo X Ng x sg g cdg [.Try [.Expr (.Call (.Name a p1) [] [] p2) p3] [.ExceptHandler (some (.Name e p4)) none [.Return (some (.Constant (.bool true) j p5)) p6] p7] [] [] p8, .Return (some (.Constant (.bool false) j2 p9)) p10] a q (TTref X.K CS) := by
  intro f c' s H Q tl act hc h
  have hgl : Gl (cxOf C8.CX0 X.prog X.w X.K X.mg X.base Ng x sg g cdg X.A X.stack s H C8.E0).nox e := hge
  refine ⟨_, pss_cons (ps_try_only (X := (cxOf C8.CX0 X.prog X.w X.K X.mg X.base Ng x sg g cdg X.A X.stack s H C8.E0).nox) (c := .ref CS)
      (tb := fun W D σ H => ∃ Ech : XK, (∀ cls d σ' H', Ech cls d H' → W cls d σ' H') ∧ σ[0]? = some (some (.ref f)) ∧ H c' = some (CodeO c' q) ∧ tl Ech H (fun _ H' => D.nx σ H'))
      rfl rfl ⟨hgl, hde, .inl hme⟩ LamX.takes0 (fun W pn xe tk _ => ?_) (fun a oe cls d pn _ _ => pss_one (ps_ret pe_bl))) (pss_one (ps_ret pe_bl)), ?_⟩
  · refine ⟨fun pins s' σ H' D I h' => ?_⟩
    obtain ⟨Ech, hW, h1, h2, h3⟩ := h'
    have hp := act W pn xe Ech p1 p2 tk hW
    have hq := pss_one (ps_expr (pos := p3) hp (by rfl))
    exact hq.run pins s' σ H' D I ⟨h1, h2, h3⟩
  · exact ⟨fun cls _ H' => PySem.W.exmOne X.K cls (.ref CS) = some true ∧ Q (.bl true) H', fun cls d σ' H' ⟨e1, e2⟩ => ⟨true, e1, fun _ a _ => e2, fun z => by cases z⟩, h0 f, hc, h⟩
end
/-- is refused by an exception that cs takes -/
def tRef (cs : Str → Bool) (f : PM Arg) : PM Bool := fun s => match f s with
  | .ok _ s' => .ok false s'
  | .exc c s' => if cs c then .ok true s' else .stuck
  | .stuck => .stuck
section
variable {X : Cx}
theorem lb_lam {T : List (Addr × Str)} {cs : Str → Bool} {fE : PM Arg} {x a e : Str} {g c P CS : Addr} {k : Nat} {pg : Arguments} {j j2 : Nat} {p1 p2 p3 p4 p5 p6 p7 p8 p9 p10 : Pos} {sg : Scope} {dV kV doc pm cdv ct oc : Value} {an od : Option Addr} {osl : Array (Option Value)} {Ng : List Str}
    {params : Arguments} {body : Expr} {scope : Scope} {p lpos pos : Pos} (hg : Gl X x) (hm : X.mg x = some (.ref g)) (hk : PySem.W.keepIn X.K (.ref g) = true)
    (lk : X.K.lookup g = some ⟨oc, od, .func (PySem.W.fnOf x x pg [.Try [.Expr (.Call (.Name a p1) [] [] p2) p3] [.ExceptHandler (some (.Name e p4)) none [.Return (some (.Constant (.bool true) j p5)) p6] p7] [] [] p8, .Return (some (.Constant (.bool false) j2 p9)) p10] sg dV kV doc pm an cdv ct), osl⟩)
    (hcg : PySem.W.codeIn X.K cdv x = true) (hb : L2.Binds X.K (PySem.W.fnOf x x pg [.Try [.Expr (.Call (.Name a p1) [] [] p2) p3] [.ExceptHandler (some (.Name e p4)) none [.Return (some (.Constant (.bool true) j p5)) p6] p7] [] [] p8, .Return (some (.Constant (.bool false) j2 p9)) p10] sg dV kV doc pm an cdv ct) [a] [])
    (Sg : FnScope Ng [a] sg) (hNg : Ng[0]? = some a) (hva : Vis sg a) (hge : sg.names.lookup e = some .globalImplicit) (hme : X.mg e = some (.ref CS)) (hde : (e == ("__debug__" : Str)) = false) (h0 : ∀ f : Addr, (L2.start Ng [V.ref f])[0]? = some (some (V.ref f)))
    (TB : TabB X.base X.mg c P) (hcode : X.env.code = .ref c) (hmT : (P, X.env.qual ++ "<lambda>") ∈ T) (hu : ∀ p ∈ T, p.1 = P → p.2 = X.env.qual ++ "<lambda>") (hr : Room (k + 2) X.A) (L : LamS X.env.scope scope) (hdef : defaultsOf params X.env = ([], []))
    (hbind : ∀ (q : Str) (cl : List (Str × Addr)) (pm cv ctv : Value), bindArgs (PySem.W.kla_fn "<lambda>" q params body scope cl pm cv ctv) ⟨[], []⟩ = pure [])
    (hcs : ∀ (n : Str) (C : Addr), cs n = true → X.mg n = some (.ref C) → PySem.W.exmOne X.K (.ref C) (.ref CS) = some true)
    (hbody : ∀ (A : Around) (outer : List Env) (s : Shared) (H : Hp) (E : XK) (f c' : Addr), Room k (A.deeper (lamEnv X scope s.heap.objs.size f c')) → QE (lamCx X A outer s H E scope f c') (WE0 E) body fE)
    (hdb : (x == ("__debug__" : Str)) = false := by decide) (hd : (a == ("__debug__" : Str)) = false := by decide) (hcd : (a == ("__classdict__" : Str)) = false := by decide) :
    LB X T (.Call (.Name x p) [.Lambda params body scope lpos] [] pos) (tRef cs fE) :=
  ⟨pe_mono (pe_lamcall hg hm hk lk hcg hb Sg hNg hva (ref_gives hge hme hde h0) TB hcode hmT hu hr L hdef hbind (t := fun E => lE (kx X) X.mg (WE0 E) fE) (fun A outer s H E f c' hr' => (hbody A outer s H E f c' hr').pe) hdb hd hcd) fun σ H Q ⟨Z, s, R, t, m⟩ => by
    refine ⟨t.1, fun H1 eN t1 => ?_⟩
    have R1 : Rl (kx X) Z H1 σ s := R.extN eN fun a z => absurd z (t.2 a)
    have t1 : Tb T Z H1 := ⟨t1, t.2⟩
    unfold tRef at m
    refine lE_iff.mpr ⟨Z, s, R1, ?_⟩
    have gl1 : ∀ H' s', Go (kx X) Z Z H1 σ s s' H' → GL T (kx X) Z H σ s H' σ s' := fun H' s' g => by
      have b := g.gl R1 t1
      refine ⟨b.rl, b.tb, Ext.trans (fun a o h => noT_some.mpr ⟨hd_extN eN a o h, (noT_some.mp h).2⟩) b.vd, Ext.trans (fun a o h => ?_) b.vq⟩
      obtain ⟨h1, n⟩ := noT_some.mp h
      obtain ⟨h2, h3⟩ := hid_some.mp h1
      exact noT_some.mpr ⟨hid_some.mpr ⟨h2, eN a o h3 n⟩, n⟩
    cases q : fE s with
    | stuck => rw [q] at m; exact m.elim
    | exc n s1 =>
      simp only [q] at m
      split at m
      · rename_i hn
        intro C H' hC g
        exact ⟨hcs n C hn hC, m H' (gl1 H' s1 g)⟩
      · exact m.elim
    | ok r s1 =>
      simp only [q] at m
      exact fun v H' pe => m H' (gl1 H' s1 pe.go)⟩
end
end HF
end

section
set_option Elab.async false
set_option linter.all false
set_option maxRecDepth 100000
set_option maxHeartbeats 2000000
set_option autoImplicit false
/-! HFH: comprehensions of any shape, clause by clause. -/
namespace HF
open PySem PySem.Spec PyProof.Rows L2

/-! ### a clause's turn, its inner part left open -/
def turnOf (p : Pos) (tg : Expr) (ifs : List Expr) (it : Value) (env : Env) (inner : Sem Fin → Sem Fin) (nxt : Sem Fin) : Sem Fin := do
  standAt p
  match ← pyNext it with
  | none => pure (.done .next)
  | some v =>
    letOwnedTupleGo tg it v
    assign tg env v
    let mut ok := true
    for c in ifs do
      if ok then ok ← isTrue c env (eval c env)
    if ok then inner nxt else nxt
/-- what a comprehension's end is to bring -/
def CompR (Y : Cx) (pins : List (Addr × Obj)) (E : Prop) (P : L2.St → Hp → Prop) (r : Result) (s' : Shared) : Prop := match r with
  | .ok _ => ∃ σ' H', Inv Y pins σ' H' s' ∧ P σ' H'
  | .error _ => E
/-- a comprehension's loop is its turns, in the trees' own way -/
def LoopsAt (prog : Program) (w : World) (e : Expr) (n : Nat) : Prop := ∀ (A : Around) (it acc : Value) (env : Env) (Q : Fin → Shared → Prop) (E : Value → Shared → Prop) (s : Shared),
  wpAny (model prog w) A ((compTurn e n it acc env).onRaise (fun x => do noteFrame x env; theTreesLotGoes x)) Q E s → wpAny (model prog w) (A.under (.compLoop e n it acc env)) ((model prog w).den (.compLoop e n it acc env)) Q E s
/-- one clause's loop: W as in the loops of statements; inner: what is done behind the tests -/
theorem clause_run {X : Cx} {s3 : Shared} {H3 : Hp} {scope : Scope} {ce : Env} {fp0 fp : List Addr} {e tg : Expr} {ifs : List Expr} {n : Nat} {it : Addr} {acc : Value} {J : It} {tn : Nat → Heap → Prop} {p : Pos} {inner : Sem Fin → Sem Fin} {g : TG} {tt : TT} {vs : List Nat} {σ : L2.St} {pins : List (Addr × Obj)} {W : Nat → Nat → Hp → Prop} {P : L2.St → Hp → Prop} {B : (Hp → Prop) → L2.St → Hp → Prop}
    (hlp : LoopsAt X.prog X.w e n) (hc : X.calm = true) (T : Turn X.prog X.w X.K tg J fp it tn) (pg : PG (X.blk s3 H3 scope ce fp0) tg g) (pt : PTs (X.blk s3 H3 scope ce fp0) ifs tt)
    (ht : compTurn e n (.ref it) acc ce = turnOf p tg ifs (.ref it) ce inner (again (.compLoop e n (.ref it) acc ce)))
    (step : ∀ i m H, W i m H → (J.stop i H ∧ P (wipe σ vs) H) ∨ (J.go i H ∧ ∃ Nx : Hp → Prop, (∀ H', Nx H' → ∃ m', m' < m ∧ W (i + 1) m' H') ∧ ∀ x H', J.yld i H x H' → g x (wipe σ vs) H' fun σ2 H2 => wipe σ2 vs = wipe σ vs ∧ tt σ2 H2 fun b H4 =>
      if b = true then B Nx σ2 H4
      else Nx H4))
    (hB : ∀ (Nx : Hp → Prop) (σ2 : L2.St) (H4 : Hp), B Nx σ2 H4 → wipe σ2 vs = wipe σ vs → ∀ (ps : List (Addr × Obj)) (s : Shared), Inv (X.blk s3 H3 scope ce fp0) ps σ2 H4 s → ∀ (k : Sem Fin) (R : Fin → Shared → Prop) (E : Value → Shared → Prop),
      (∀ (σ5 : L2.St) (H5 : Hp) (s' : Shared), Inv (X.blk s3 H3 scope ce fp0) ps σ5 H5 s' → σ5.length = σ2.length → (∀ (j : Nat) v, (wipe σ vs)[j]? = some (some v) → σ5[j]? = some (some v)) → Nx H5 → wpAny (model X.prog X.w) X.A k R E s') → wpAny (model X.prog X.w) X.A (inner k) R E s)
    {m : Nat} {H : Hp} {s : Shared} (I : Inv (X.blk s3 H3 scope ce fp0) pins (wipe σ vs) H s) (st : tn 0 s.heap) (fpo : ∀ b ∈ fp, FpOk (X.blk s3 H3 scope ce fp0) pins H b) (w : W 0 m H) :
    codeAny (model X.prog X.w) X.A (.compLoop e n (.ref it) acc ce) (CompR (X.blk s3 H3 scope ce fp0) pins False P) s := by
  -- the addresses of the iterator stay free for it
  have fpk : ∀ {H' : Hp}, (∀ b ∈ fp, H' b = none) → ∀ b ∈ fp, FpOk (X.blk s3 H3 scope ce fp0) pins H' b := fun {H'} hn b hb => ⟨hn b hb, (fpo b hb).2⟩
  refine codeAny_loop rfl (fun m s' => ∃ i H', Inv (X.blk s3 H3 scope ce fp0) pins (wipe σ vs) H' s' ∧ tn i s'.heap ∧ (∀ b ∈ fp, H' b = none) ∧ W i m H') (fun m s1 ⟨i, H1, I1, st1, n1, w1⟩ => ?_) m ⟨0, H, I, st, fun b hb => (fpo b hb).1, w⟩
  refine hlp X.A _ _ _ _ _ _ (wpAny_noted ?_)
  rw [ht]
  unfold turnOf
  refine wpAny_bind (wpAny_standAt ?_)
  rcases step i m H1 w1 with ⟨stop, q⟩ | ⟨go, Nx, hNx, turn⟩
  · refine wpAny_bind (thnF (T.done (X.blk s3 H3 scope ce fp0) rfl rfl rfl hc i pins s1 _ H1 (fun _ _ => False) I1 (fpk n1) st1 stop) fun r s2 ⟨hr, I2⟩ => ?_)
    subst hr
    exact wpAny_pure ⟨_, _, I2, q⟩
  · refine wpAny_bind (thnF (T.item (X.blk s3 H3 scope ce fp0) rfl rfl rfl hc i pins s1 _ H1 (fun _ _ => False) I1 (fpk n1) st1 go) fun r s2 ⟨u, hr, h2⟩ => ?_)
    subst hr
    refine wpAny_bind (thnF h2 fun _ s3' ⟨x, H4, I4, r4, y4, st4, n4⟩ => ?_)
    have I4' := I4.pinned (fpk n4) (T.obj _ _ st4)
    refine wpAny_bind (thnF (pg.run _ s3' _ H4 x u _ I4' r4 (turn x H4 y4)) fun _ s5 ⟨σ5, H5, I5, hw, q5⟩ => ?_)
    refine wpAny_bind (thnF (pt.run _ s5 σ5 H5 _ I5 q5) fun b s6 ⟨H6, I6, q6⟩ => ?_)
    have hl5 : (wipe σ vs).length = σ5.length := by rw [← hw, wipe_length]
    have hk5 : ∀ (j : Nat) v, (wipe σ vs)[j]? = some (some v) → σ5[j]? = some (some v) := fun j v z => by rw [← hw] at z; exact (wipe_some z).1
    -- the turn's end
    have fin : ∀ {σ' : L2.St} {H' : Hp} {s' : Shared}, Inv (X.blk s3 H3 scope ce fp0) (pins ++ pinsAt fp s3'.heap) σ' H' s' → σ'.length = σ5.length → (∀ (j : Nat) v, (wipe σ vs)[j]? = some (some v) → σ'[j]? = some (some v)) → Nx H' →
        ∃ m', m' < m ∧ ∃ i H', Inv (X.blk s3 H3 scope ce fp0) pins (wipe σ vs) H' s' ∧ tn i s'.heap ∧ (∀ b ∈ fp, H' b = none) ∧ W i m' H' := fun {σ' H' s'} I' el ek nx => by
      obtain ⟨m', hm, w'⟩ := hNx H' nx
      have at_ : ∀ b ∈ fp, ∀ o, s3'.heap.get? b = some o → s'.heap.get? b = some o ∧ H' b = none := fun b hb o e =>
        let z := I'.pin (b, o) (List.mem_append_right _ (List.mem_append_right _ (mem_pinsAt hb e)))
        ⟨z.1, z.2.1⟩
      refine ⟨m', hm, i + 1, H', I'.unpinned.weak (hl5.trans el.symm) ek, T.keep _ _ _ st4 fun b hb o e => (at_ b hb o e).1, fun b hb => ?_, w'⟩
      obtain ⟨o, e, _⟩ := T.obj _ _ st4 b hb
      exact (at_ b hb o e).2
    cases b with
    | false => exact wpAny_pure ⟨rfl, fin I6 rfl hk5 q6⟩
    | true => exact hB Nx σ5 H6 q6 hw _ s6 I6 _ _ _ fun σ7 H7 s7 I7 l7 k7 nx => wpAny_pure ⟨rfl, fin I7 l7 k7 nx⟩

/-! ### a second source -/
/-- behind the tests: a clause more -/
def innerOf (e : Expr) (n : Nat) (it1 : Expr) (acc : Value) (env : Env) (k : Sem Fin) : Sem Fin := do
  let x ← eval it1 env
  standAt it1.pos
  let x ← foldedSetIterable it1 env x
  let _ ← runOwn (.compStart e n (← holding [x] (pyIter x)) acc env) env
  k
/-- its start, once it is known that an iterator is its own -/
def StartsAt (prog : Program) (w : World) (e : Expr) (n : Nat) : Prop := ∀ (A : Around) (it acc : Value) (env : Env) (R : Result → Shared → Prop) (s : Shared), codeAny (model prog w) A (.compLoop e n it acc env) R s →
  wpAny (model prog w) A (pyIter it) (fun it' s' => codeAny (model prog w) A (.compLoop e n it' acc env) R s') (fun _ _ => False) s → codeAny (model prog w) A (.compStart e n it acc env) R s
theorem inner_run {X : Cx} {s3 : Shared} {H3 : Hp} {scope : Scope} {ce : Env} {fp0 : List Addr} {e it1 tg1 : Expr} {n : Nat} {acc : Value} {wi1 : TI} {ps : List (Addr × Obj)} {σ : L2.St} {H : Hp} {s : Shared} {P : L2.St → Hp → Prop}
    (hsA : StartsAt X.prog X.w e n) (hs1 : ∀ x, foldedSetIterable it1 ce x = pure x) (pi : PI (X.blk s3 H3 scope ce fp0) tg1 it1 wi1) (I : Inv (X.blk s3 H3 scope ce fp0) ps σ H s) {RJ : It → Hp → Prop} (h : wi1 σ H RJ)
    (loop : ∀ (it : Addr) (fp : List Addr) (tn : Nat → Heap → Prop) (J : It) (H1 : Hp) (s1 : Shared), Inv (X.blk s3 H3 scope ce fp0) ps σ H1 s1 → Turn X.prog X.w X.K tg1 J fp it tn → tn 0 s1.heap → (∀ b ∈ fp, FpOk (X.blk s3 H3 scope ce fp0) ps H1 b) → RJ J H1 →
      codeAny (model X.prog X.w) X.A (.compLoop e n (.ref it) acc ce) (CompR (X.blk s3 H3 scope ce fp0) ps False P) s1) (k : Sem Fin) (R : Fin → Shared → Prop) (E : Value → Shared → Prop) (hk : ∀ (σ' : L2.St) (H' : Hp) (s' : Shared), Inv (X.blk s3 H3 scope ce fp0) ps σ' H' s' → P σ' H' → wpAny (model X.prog X.w) X.A k R E s') :
    wpAny (model X.prog X.w) X.A (innerOf e n it1 acc ce k) R E s := by
  unfold innerOf
  refine wpAny_bind (thnF (pi.run ps s σ H RJ I h) fun x s1 h1 => ?_)
  refine wpAny_bind (wpAny_standAt (wpAny_bind (wpAny_of_eq (hs1 x) (wpAny_bind (wpAny_holding (thnF h1 fun itv s2 h2 => ?_))))))
  obtain ⟨it, fp, tn, J, H2, e2, I2, T, st2, f2, q⟩ := h2
  subst e2
  have hloop := loop it fp tn J H2 s2 I2 T st2 f2 q
  refine wpAny_bind (wpAny_runOwn ?_)
  rw [Around.mark_none]
  refine codeAny_mono (hsA X.A (.ref it) acc ce _ s2 hloop (T.self X.A 0 s2 _ _ st2 hloop)) fun r s' hr => ?_
  cases r with
  | ok f =>
    obtain ⟨σ', H', I', q'⟩ := hr
    first
      | exact hk σ' H' s' I' q'
      | exact wpAny_bind (wpAny_pure (hk σ' H' s' I' q'))
  | error e => exact hr.elim

/-! ### the whole -/
/-- from outside: the source, the new thing, the block -/
theorem comp_enter {X : Cx} {pins : List (Addr × Obj)} {s : Shared} {σ : L2.St} {H : Hp} {Q : VK} {e tg iter : Expr} {ifs : List Expr} {rest : List Comprehension} {scope : Scope} {own : List (Str × Nat)} {pos : Pos} {wi : TI} {o0 : Addr → HO} {obj : Obj} {newAcc : Sem Value}
    (hN : X.N.Nodup) (hcl : clausesOf e = ⟨tg, iter, ifs, 0⟩ :: rest) (hs : ∀ x, foldedSetIterable iter X.env x = pure x) (I : Inv X pins σ H s) (hi : PI X tg iter wi) (ok : BlkOk X.N X.env.scope scope own)
    (hnew : ∀ (s : Shared) (R : Value → Shared → Prop), R (.ref s.heap.objs.size) { s with heap := s.heap.push obj } → wpAny (model X.prog X.w) X.A newAcc R X.xe s) (hobj : ∀ (H : Hp) (h : Heap), sysModules < h.objs.size → ObjOk X.prog X.w H (h.push obj) h.objs.size (o0 h.objs.size))
    (hsA : StartsAt X.prog X.w e 0) {RJ : It → Hp → Prop} (h : wi σ H RJ)
    (loop : ∀ (s3 : Shared) (H2 : Hp) (C : Addr) (cl : List (Str × Addr)) (D it : Addr) (fp : List Addr) (tn : Nat → Heap → Prop) (J : It) (s4 : Shared), H2 D = none → RJ J H2 → Inv (X.blk s3 (upd H2 D (o0 D)) scope (compEnvC scope cl C X.env) fp) [] (wipe σ (own.map (·.2))) (upd H2 D (o0 D)) s4 →
      Turn X.prog X.w X.K tg J fp it tn → tn 0 s4.heap → (∀ b ∈ fp, FpOk (X.blk s3 (upd H2 D (o0 D)) scope (compEnvC scope cl C X.env) fp) [] (upd H2 D (o0 D)) b) →
      codeAny (model X.prog X.w) X.A (.compLoop e 0 (.ref it) (.ref D) (compEnvC scope cl C X.env)) (CompR (X.blk s3 (upd H2 D (o0 D)) scope (compEnvC scope cl C X.env) fp) [] False fun _ H' => Q (.ref D) H') s4) :
    wpAny (model X.prog X.w) X.A (comprehension e scope X.env pos newAcc false (eval iter X.env) none) (EP X pins σ Q) X.xe s := by
  have has : ∀ y ∈ scope.names, y.2 = .free → ∃ c, X.env.cells.lookup y.1 = some c := fun y hy e => (ok.free y hy e).elim (fun k => I.ok.has _ (.inl k)) fun k => I.ok.has _ (.inr k)
  refine wpAny_comprehension_free (use := none) hcl hs (closure_ok has) ok.kind (fun y hy e => by rw [ok.uniq y hy, e]) (thn (hi.run pins s σ H _ I h) fun xv s1 hx => thn hx fun itv s2 h2 => ?_)
  obtain ⟨it, fp, tn, J, H2, e2, I2, T, st2, f2, q⟩ := h2
  subst e2
  refine hnew s2 _ (newEnv_comp ?_)
  have hD : H2 s2.heap.objs.size = none := I2.hok.fresh (Nat.le_refl _)
  have I3 : Inv X pins σ (upd H2 s2.heap.objs.size (o0 s2.heap.objs.size)) { s2 with heap := s2.heap.push obj } := I2.laid (t' := s2.toks) (fun b o e => Heap.get?_push_of_some _ e) (Nat.le_refl _) (hobj _ s2.heap I2.big)
  have below : ∀ b ∈ fp, b < s2.heap.objs.size := fun b hb => by
    obtain ⟨o, e, _⟩ := T.obj _ _ st2 b hb
    exact Heap.lt_size e
  have f3 : ∀ b ∈ fp, FpOk X pins (upd H2 s2.heap.objs.size (o0 s2.heap.objs.size)) b ∧ b < ({ s2 with heap := s2.heap.push obj } : Shared).heap.objs.size := fun b hb =>
    ⟨⟨by rw [upd_ne (Nat.ne_of_lt (below b hb))]; exact (f2 b hb).1, (f2 b hb).2⟩, by show b < (s2.heap.push obj).objs.size; rw [Heap.size_push]; exact Nat.lt_succ_of_lt (below b hb)⟩
  have I4 := block_start I3 ok hN f3
  show codeAny (model X.prog X.w) X.A (.compStart e 0 (.ref it) (.ref s2.heap.objs.size) (compEnvC scope (cellsFrom (({ s2 with heap := s2.heap.push obj } : Shared).heap.objs.size + 1) scope.names (cloFrom X.env.cells scope.names [])) ({ s2 with heap := s2.heap.push obj } : Shared).heap.objs.size X.env)) (compPost (model X.prog X.w) X.A X.xe none (EP X pins σ Q) (.ref s2.heap.objs.size) ({ s2 with heap := s2.heap.push obj } : Shared).heap.objs.size) { ({ s2 with heap := s2.heap.push obj } : Shared) with heap := pushCells (({ s2 with heap := s2.heap.push obj } : Shared).heap.push { cls := .type "dict", data := .dict #[] }) scope.names }
  generalize hs3 : ({ s2 with heap := s2.heap.push obj } : Shared) = s3 at I3 I4 f3 ⊢
  have h3 : s3.heap = s2.heap.push obj := by rw [← hs3]
  generalize hcl2 : cellsFrom (s3.heap.objs.size + 1) scope.names (cloFrom X.env.cells scope.names []) = cl at I4 ⊢
  generalize hs4 : ({ s3 with heap := pushCells (s3.heap.push { cls := .type "dict", data := .dict #[] }) scope.names } : Shared) = s4 at I4 ⊢
  have st4 : tn 0 s4.heap := T.keep _ _ _ st2 fun b _ o e => by rw [← hs4]; exact pushCells_keeps _ _ _ _ (Heap.get?_push_of_some _ (by rw [h3]; exact Heap.get?_push_of_some _ e))
  have hloop := loop s3 H2 s3.heap.objs.size cl s2.heap.objs.size it fp tn J s4 hD q I4 T st4 fun b hb =>
    ⟨(f3 b hb).1.1, (I4.ok.exf b hb).1, I4.ok.exfs b hb, .inl hb, fun x c e => (I4.ok.exf b hb).2 x c e, fun p hp => absurd (show p ∈ ([] : List (Addr × Obj)) ++ [] from hp) (by simp)⟩
  refine codeAny_mono (hsA X.A (.ref it) (.ref s2.heap.objs.size) (compEnvC scope cl s3.heap.objs.size X.env) _ s4 hloop (T.self X.A 0 s4 _ _ st4 hloop)) fun r s6 hr => ?_
  cases r with
  | error e => exact hr.elim
  | ok f =>
    obtain ⟨σ6, H6, I6, q6⟩ := hr
    have I7 : Inv X pins σ H6 s6 := I3.call' (ch := fp) I6.os I6.base I6.hok I6.bare fun b hb => ⟨(f3 b hb).1.2.2.2.1, (f3 b hb).1.2.1, (f3 b hb).1.2.2.2.2.1, (f3 b hb).1.2.2.2.2.2⟩
    have nC : H6 s3.heap.objs.size = none := I6.free
    obtain ⟨m, hn, _⟩ := I6.loc
    refine ⟨m, hn, fun h'' sb => ?_⟩
    obtain ⟨f0, f1, f2', f3', f4, f5⟩ := I3.fpOk (Nat.le_refl _) nC
    exact ⟨.ref _, H6, I7.turned (t' := s6.toks) (fun b o hb e => (sb.2 b hb).trans e) f0 f1 f3' f4 f5, rfl, q6⟩
end HF
namespace L2
open PySem PySem.Spec PyProof.Rows HF
/-! ### {k: v for .. for ..} -/
/-- a kind of dict: its empty object, its store -/
structure DictK (X : Cx) where
  o0 : Addr → HO
  st : Addr → V → V → Hp → (Hp → Prop) → Prop
  em : ∀ (H : Hp) (h : Heap), sysModules < h.objs.size → ObjOk X.prog X.w H (h.push { cls := .type "dict", data := .dict #[] }) h.objs.size (o0 h.objs.size)
  set : ∀ (s3 : Shared) (H3 : Hp) (scope : Scope) (ce : Env) (fp : List Addr) (pins : List (Addr × Obj)) (s : Shared) (σ : St) (H : Hp) (E : Value → Shared → Prop) (D : Addr) (y z : V) (u r : Value) (Q : Hp → Prop), Inv (X.blk s3 H3 scope ce fp) pins σ H s → RelV y u → RelV z r → st D y z H Q →
    wpAny (model X.prog X.w) X.A (dictSet D u r) (fun _ s' => ∃ H', Inv (X.blk s3 H3 scope ce fp) pins σ H' s' ∧ Q H') E s
section
variable {X : Cx}
/-- behind a clause's store and tests: the next clause's loop, till Nx -/
def bIn (T : DictK X) (D : Addr) (tk tv : TE) (Nx : Hp → Prop) (σ : St) (H : Hp) : Prop := tk σ H fun y H1 => tv σ H1 fun z H2 => T.st D y z H2 Nx
def lpW (J : It) (g : TG) (tt : TT) (vs : List Nat) (B : (Hp → Prop) → St → Hp → Prop) (σ : St) (P : Hp → Prop) (W : Nat → Nat → Hp → Prop) : Prop := ∀ i m H, W i m H → (J.stop i H ∧ P H) ∨ (J.go i H ∧ ∃ Nx : Hp → Prop, (∀ H', Nx H' → ∃ m', m' < m ∧ W (i + 1) m' H') ∧
  ∀ x H', J.yld i H x H' → g x (wipe σ vs) H' fun σ2 H2 => wipe σ2 vs = wipe σ vs ∧ tt σ2 H2 fun b H3 => if b = true then B Nx σ2 H3 else Nx H3)
def rjDc2 (T : DictK X) (g : TG) (tt : TT) (wi1 : TI) (g1 : TG) (tt1 : TT) (tk tv : TE) (vs vs1 : List Nat) (σ : St) (Q : VK) (J : It) (H1 : Hp) : Prop := ∀ D, H1 D = none → ∃ W : Nat → Nat → Hp → Prop, (∃ m, W 0 m (upd H1 D (T.o0 D))) ∧
  lpW J g tt vs (fun Nx σ2 H3 => wi1 σ2 H3 fun J1 H4 => ∃ W1 : Nat → Nat → Hp → Prop, (∃ m, W1 0 m H4) ∧ lpW J1 g1 tt1 vs1 (bIn T D tk tv) σ2 Nx W1) σ (Q (.ref D)) W
def tDc2 (T : DictK X) (wi : TI) (g : TG) (tt : TT) (wi1 : TI) (g1 : TG) (tt1 : TT) (tk tv : TE) (vs vs1 : List Nat) : TE := fun σ H Q => wi σ H (rjDc2 T g tt wi1 g1 tt1 tk tv vs vs1 σ Q)
theorem pe_dc2 {kx vx tg iter tg1 iter1 : Expr} {ifs ifs1 : List Expr} {scope : Scope} {own : List (Str × Nat)} {vs1 : List Nat} {pos : Pos} {wi wi1 : TI} {g g1 : TG} {tt tt1 : TT} {tk tv : TE} (T : DictK X) (hc : X.calm = true) (hN : X.N.Nodup) (hi : PI X tg iter wi) (ok : BlkOk X.N X.env.scope scope own) (hv : ∀ i ∈ vs1, i ∈ own.map (·.2))
    (hg : ∀ (s : Shared) (H : Hp) (C : Addr) (cl : List (Str × Addr)) (fp : List Addr), PG (X.blk s H scope (compEnvC scope cl C X.env) fp) tg g) (ht : ∀ (s : Shared) (H : Hp) (C : Addr) (cl : List (Str × Addr)) (fp : List Addr), PTs (X.blk s H scope (compEnvC scope cl C X.env) fp) ifs tt)
    (hi1 : ∀ (s : Shared) (H : Hp) (C : Addr) (cl : List (Str × Addr)) (fp : List Addr), PI (X.blk s H scope (compEnvC scope cl C X.env) fp) tg1 iter1 wi1)
    (hg1 : ∀ (s : Shared) (H : Hp) (C : Addr) (cl : List (Str × Addr)) (fp : List Addr), PG (X.blk s H scope (compEnvC scope cl C X.env) fp) tg1 g1) (ht1 : ∀ (s : Shared) (H : Hp) (C : Addr) (cl : List (Str × Addr)) (fp : List Addr), PTs (X.blk s H scope (compEnvC scope cl C X.env) fp) ifs1 tt1)
    (hk : ∀ (s : Shared) (H : Hp) (C : Addr) (cl : List (Str × Addr)) (fp : List Addr), PE (X.blk s H scope (compEnvC scope cl C X.env) fp) kx tk)
    (he : ∀ (s : Shared) (H : Hp) (C : Addr) (cl : List (Str × Addr)) (fp : List Addr), PE (X.blk s H scope (compEnvC scope cl C X.env) fp) vx tv) (hs : ∀ x, foldedSetIterable iter X.env x = pure x := by intro _; rfl) (hs1 : ∀ env x, foldedSetIterable iter1 env x = pure x := by intro _ _; rfl) :
    PE X (.DictComp kx vx [⟨tg, iter, ifs, 0⟩, ⟨tg1, iter1, ifs1, 0⟩] scope pos) (tDc2 T wi g tt wi1 g1 tt1 tk tv (own.map (·.2)) vs1) := by
  refine ⟨fun pins s σ H Q I h => ?_⟩
  rw [arm_eval_DictComp]
  have lp : ∀ n, LoopsAt X.prog X.w (.DictComp kx vx [⟨tg, iter, ifs, 0⟩, ⟨tg1, iter1, ifs1, 0⟩] scope pos) n := fun n A it acc env Q E s h => h
  have sa0 : StartsAt X.prog X.w (.DictComp kx vx [⟨tg, iter, ifs, 0⟩, ⟨tg1, iter1, ifs1, 0⟩] scope pos) 0 := fun A it acc env R s h1 h2 => codeAny_compStart_dict h1 (wpAny_mono h2 (fun _ _ z => z) fun _ _ z => z.elim)
  have sa1 : StartsAt X.prog X.w (.DictComp kx vx [⟨tg, iter, ifs, 0⟩, ⟨tg1, iter1, ifs1, 0⟩] scope pos) 1 := fun A it acc env R s h1 h2 => by
    refine codeAny_of_tree ?_
    show wpAny _ _ ((compStart (.DictComp kx vx [⟨tg, iter, ifs, 0⟩, ⟨tg1, iter1, ifs1, 0⟩] scope pos) 1 it acc env).onRaise (fun x => do noteFrame x env; standAt theWindowsPlace)) _ _ s
    refine wpAny_notedAt ?_
    unfold compStart
    refine wpAny_bind (m := ask) (wpAny_askSetting (wpAny_ite ?_))
    have go : ∀ {E : Value → Shared → Prop}, wpAny (model X.prog X.w) A (pyIter it) (fun it' s' => codeAny (model X.prog X.w) A (.compLoop (.DictComp kx vx [⟨tg, iter, ifs, 0⟩, ⟨tg1, iter1, ifs1, 0⟩] scope pos) 1 it' acc env) R s') E s := fun {E} => wpAny_mono h2 (fun _ _ z => z) fun _ _ z => z.elim
    split
    · first
        | exact wpAny_pure ⟨rfl, h1⟩
        | exact wpAny_bind (wpAny_pure (wpAny_pure ⟨rfl, h1⟩))
    · first
        | exact wpAny_bind (wpAny_rule (wpAny_bind (wpAny_standAt (wpAny_bind (wpAny_mono go (fun it' s' z => wpAny_pure ⟨rfl, z⟩) fun _ _ x => x)))))
        | (refine wpAny_bind (wpAny_rule ?_)
           show wpAny _ _ (standAt iter1.pos >>= _) _ _ s
           exact wpAny_bind (wpAny_standAt (wpAny_bind (wpAny_mono go (fun it' s' z => wpAny_pure ⟨rfl, z⟩) fun _ _ x => x))))
  refine comp_enter (own := own) (RJ := rjDc2 T g tt wi1 g1 tt1 tk tv (own.map fun p : Str × Nat => p.2) vs1 σ Q) (obj := { cls := .type "dict", data := .dict #[] }) (o0 := T.o0) hN rfl hs I hi ok (fun s R r => by refine wpAny_newObj_type r) T.em sa0 h fun s3 H2 C cl D it fp tn J s4 hD rj I4 Tn st4 f4 => ?_
  obtain ⟨W, ⟨m0, w0⟩, turn⟩ := rj D hD
  refine clause_run (n := 0) (p := iter.pos) (J := J) (g := g) (tt := tt) (vs := own.map (·.2)) (σ := σ) (W := W) (P := fun _ H' => Q (.ref D) H') (B := fun Nx σ2 H3 => wi1 σ2 H3 fun J1 H4 => ∃ W1 : Nat → Nat → Hp → Prop, (∃ m, W1 0 m H4) ∧ lpW J1 g1 tt1 vs1 (bIn T D tk tv) σ2 Nx W1) (inner := innerOf (.DictComp kx vx [⟨tg, iter, ifs, 0⟩, ⟨tg1, iter1, ifs1, 0⟩] scope pos) 1 iter1 (.ref D) (compEnvC scope cl C X.env)) (lp 0) hc Tn (hg _ _ C cl fp) (ht _ _ C cl fp) (by rfl) (fun i m H w => turn i m H w) (fun Nx σ2 H3 b hw ps s5 I5 k R E hk' => ?_) I4 st4 f4 w0
  -- the second clause
  have hl2 : σ2.length = σ.length := by have := congrArg List.length hw; rwa [wipe_length, wipe_length] at this
  refine inner_run (P := fun σ5 H5 => σ5 = wipe σ2 vs1 ∧ Nx H5) sa1 (hs1 _) (hi1 _ _ C cl fp) I5 b (fun it1 fp1 tn1 J1 H6 s6 I6 Tn1 st6 f6 rj1 => ?_) k R E fun σ7 H7 s7 I7 ⟨e7, nx⟩ => hk' σ7 H7 s7 I7 (by rw [e7, wipe_length]) (fun j v hj => ?_) nx
  · obtain ⟨W1, ⟨m1, w1⟩, turn1⟩ := rj1
    refine clause_run (n := 1) (p := iter1.pos) (J := J1) (g := g1) (tt := tt1) (vs := vs1) (σ := σ2) (W := W1) (P := fun σ5 H5 => σ5 = wipe σ2 vs1 ∧ Nx H5) (B := bIn T D tk tv) (inner := fun k => (do
      let kv ← eval kx (compEnvC scope cl C X.env)
      let vv ← holding [kv] (eval vx (compEnvC scope cl C X.env))
      standAt { kx.pos with endLine := vx.pos.endLine, endCol := vx.pos.endCol }
      holding [kv, vv] (dictSet D kv vv)) >>= fun _ => k) (lp 1) hc Tn1 (hg1 _ _ C cl fp) (ht1 _ _ C cl fp) (by rfl) (fun i m H w => (turn1 i m H w).imp (fun z => ⟨z.1, rfl, z.2⟩) id) (fun Nx1 σ3 H8 b1 hw1 ps1 s8 I8 k1 R1 E1 hk1 => ?_) (I6.weak (wipe_length _ _) fun j v hj => (wipe_some hj).1) st6 f6 w1
    refine wpAny_bind (wpAny_bind (thnF ((hk _ _ C cl fp).run _ s8 σ3 H8 _ I8 b1) fun kv s9 ⟨y, H9, I9, r9, q9⟩ => ?_))
    refine wpAny_bind (wpAny_holding (thnF ((he _ _ C cl fp).run _ s9 σ3 H9 _ I9 q9) fun vv s10 ⟨z, H10, I10, r10, q10⟩ => ?_))
    refine wpAny_bind (wpAny_standAt (wpAny_holding (wpAny_mono (T.set _ _ scope (compEnvC scope cl C X.env) fp _ s10 σ3 H10 E1 D y z kv vv Nx1 I10 r9 r10 q10) (fun _ s11 ⟨H11, I11, n11⟩ => hk1 σ3 H11 s11 I11 rfl (fun j v hj => ?_) n11) fun _ _ z => z)))
    rw [← hw1] at hj
    exact (wipe_some hj).1
  · rw [e7]
    rw [← hw] at hj
    obtain ⟨h1, h2⟩ := wipe_some hj
    rw [wipe_out fun z => h2 (hv j z)]
    exact h1
end
end L2
end

section
set_option Elab.async false
set_option linter.all false
set_option maxRecDepth 100000
set_option maxHeartbeats 2000000
set_option autoImplicit false
/-! HFI: {k: v for .. for ..} by values. -/
namespace HF
open PySem PySem.Spec PyProof.Rows L2
def dE (X : Cx) (n : Nat) (p : Addr) : HO := if n = 0 then .dK [] else DNo X.prog X.w p []
def dSt (X : Cx) (n : Nat) : Addr → V → V → Hp → (Hp → Prop) → Prop := fun D y z H Q => ∃ (Hv : Hp) (kvs : List (PV × PV)) (q x p' : PV), Ext Hv H ∧ Ob (kx X) H Hv D (.dct n kvs) ∧ Rep (kx X) Hv y q ∧ Rep (kx X) Hv z x ∧ opSet (.dct n kvs) q x = some p' ∧ ∀ o, Ob (kx X) (upd H D o) Hv D p' → Q (upd H D o)
section
variable {X : Cx}
theorem dset_at {n : Nat} (hu : X.A.units + 64 < cLine) {pins : List (Addr × Obj)} {s : Shared} {σ : L2.St} {H : Hp} {E : Value → Shared → Prop} {D : Addr} {y z : V} {u r : Value} {Q : Hp → Prop} (I : Inv X pins σ H s) (ry : RelV y u) (rz : RelV z r) (h : dSt X n D y z H Q) :
    wpAny (model X.prog X.w) X.A (dictSet D u r) (fun _ s' => ∃ H', Inv X pins σ H' s' ∧ Q H') E s := by
  obtain ⟨Hv, kvs, q, x, p', e, ob, rq, rx, h, k⟩ := h
  match n, ob, h with
  | 0, ⟨l, ⟨kvs', h1, el⟩, rd⟩, h =>
    have h : (if (keyOf q).isSome && decide (kvs.length < sizeLine) then some (PV.dct 0 (dPut kvs q x)) else none) = some p' := by cases q <;> exact h
    subst el
    split at h
    · rename_i hc
      rw [Bool.and_eq_true, decide_eq_true_eq, Option.isSome_iff_exists] at hc
      obtain ⟨⟨key, e0⟩, hl⟩ := hc
      cases h
      have e1 := keyOf_some e0
      subst e1
      have ei : y = kV key := by
        cases key with
        | inl z => cases rq; rfl
        | inr z => cases rq; rfl
      subst ei
      have hl' : kvs'.length < sizeLine := by have := repD_len rd; rw [List.length_map] at this; omega
      exact d_dictSet I h1 hl' ry rz fun s' I' => ⟨_, I', k _ ⟨_, ⟨_, upd_same, rfl⟩, rd0_put rd key rx⟩⟩
    · cases h
  | 1, ⟨l, ⟨xs, h1, el⟩, rd⟩, h =>
    have h : (if kb q && kvs.all (fun e => kb e.1) && decide (kvs.length < sizeLine) then some (PV.dct 1 (dPut kvs q x)) else none) = some p' := by cases q <;> exact h
    subst el
    split at h
    · rename_i hc
      rw [Bool.and_eq_true, Bool.and_eq_true, decide_eq_true_eq] at hc
      obtain ⟨⟨c1, c2⟩, c3⟩ := hc
      cases h
      obtain ⟨k1, k2⟩ := kb_at c1
      have ht : isTup q = true := by unfold kb at c1; simp only [Bool.and_eq_true] at c1; exact c1.1.1
      match q, ht, rq with
      | .tup qs, _, .tup (a := b) t1 t2 =>
        have rq : Rep (kx X) Hv (.ref b) (pvK (nkOf (.tup qs))) := by rw [k1]; exact .tup t1 t2
        have hl' : xs.length < sizeLine := by have := repD_len rd; rw [List.length_map] at this; omega
        have z0 := rd1_put rd (nkOf (.tup qs)) rq rx
        rw [k1] at z0
        cases ry
        obtain ⟨hl, hsy, ys, kn, DD⟩ := dn_of I (.of h1) (fun x hx => (rd1_keys rd x hx).ext e) (rd1_depth rd c2)
        have hz : ys.length ≤ sizeLine := by rw [← kn_len kn]; exact hl
        refine wpAny_dictSet_heap (knd := nestedKind X.prog X.w) (k := nkOf (.tup qs)) (hsz := hz) (show X.A.units + 8 < cLine by omega) ⟨rep_nk I _ _ _ (rq.ext e) rfl, k2⟩ DD fun h' D' hs => ?_
        obtain ⟨ob, es, ep, hq, h2, h3, h4, _, h5⟩ := D'
        have hlen : (stV xs (nkOf (.tup qs)) b z).length ≤ sizeLine := by have := stV_len xs (nkOf (.tup qs)) b z; omega
        refine ⟨_, d_write I (by rw [h1]; exact True.intro) hs ⟨ob, hq⟩ ?_, k _ ⟨_, ⟨_, upd_same, rfl⟩, z0⟩⟩
        exact ⟨⟨hlen, hsy, _, kn_put kn (nkOf (.tup qs)) b rz, ob, es, ep, hq, h2, h3, h4, h5⟩, ⟨ob, hq⟩, fun h1 h2 ⟨g1, g2, zs, g3, o1, e1, ep1, g4, g5⟩ hh => ⟨g1, g2, zs, g3, o1, e1, ep1, hh _ g4, g5⟩⟩
    · cases h
  | n + 2, ⟨l, h1, _⟩, h => exact h1.elim
theorem dE_ok {n : Nat} {H : Hp} (h : Heap) (hb : sysModules < h.objs.size) : ObjOk X.prog X.w H (h.push { cls := .type "dict", data := .dict #[] }) h.objs.size (dE X n h.objs.size) := by
  unfold dE
  split
  · exact dk_empty h hb
  · exact dn_empty h hb
def dK (X : Cx) (n : Nat) (hu : X.A.units + 64 < cLine) : DictK X := ⟨dE X n, dSt X n, fun H h hb => dE_ok h hb, fun s3 H3 scope ce fp pins s σ H E D y z u r Q I ry rz h => dset_at (X := X.blk s3 H3 scope ce fp) hu I ry rz h⟩
end
/-! ### what is walked, shared -/
def lIV (K : Frg) (mg : Str → Option Value) (W : WX) (f : PM (List PV)) : TI := fun σ H R => ∃ (Z : Addr → Prop) (s : SE), Rl K Z H σ s ∧
  Mt (f s) (fun ps s' => ∀ J H' Rb, Go K Z Z H σ s s' H' → Wk K J Rb ps → Rb (Hd Z σ s' H') (Hd Z σ s' H') → R J H') (fun c s' => XOut K mg W Z H σ s c s')
structure QIV (X : Cx) (W : WX) (tg iter : Expr) (f : PM (List PV)) : Prop where
  pi : PI X tg iter (lIV (kx X) X.mg W f)
theorem qiv_val {X : Cx} {W : WX} {tg e : Expr} {f : PM Arg} (he : QE X W e f) : QIV X W tg e (iVal f) := ⟨pi_mono (pi_val he.pe) fun σ H R ⟨Z, s, R1, h⟩ => by
  refine lE_step R1 (Mt.bnd_ h) fun r s1 v H1 k p => ?_
  obtain ⟨q, s2, k, g, rp⟩ := rel1_step (mg := X.mg) p k.bnd_
  cases rp with
  | lst hq rs => exact .inl ⟨_, rfl, ⟨_, hid_sub.sqL (.inl (.of hq))⟩, k _ _ _ g (wk_list _ _ _) ⟨.inl (.of hq), rs⟩⟩
  | scr hq => exact .inl ⟨_, rfl, ⟨_, hid_sub.sqL hq⟩, k _ _ _ g (wk_list _ _ _) ⟨hq, reps_ints _⟩⟩
  | tup hq rs => exact .inr (.inl ⟨_, rfl, ⟨_, hid_sub.sqT hq⟩, k _ _ _ g (wk_tup _ _ _) ⟨hq, rs⟩⟩)
  | rng hq =>
    simp only at k
    split at k
    · rename_i hb
      exact .inr (.inr ⟨_, _, _, rfl, hid_sub _ _ hq, hb, k _ _ _ g (wk_rng _ _) trivial⟩)
    · exact k.elim
  | _ => exact k.elim⟩
/-! ### the way -/
def dcIn (us : List Nat) (G : PV → PM Unit) (T : PM Bool) (Ek Ev : PM Arg) : List PV → PV → PM PV
  | [], acc => ret acc
  | p :: ps, acc => bnd (nx (G p)) fun _ => bnd T fun k => if k = true then bnd Ek fun a => bnd (rel1 a) fun q => bnd Ev fun b => bnd (rel1 b) fun x => fun s => match opSet acc q x with
      | some acc' => bnd (wp us) (fun _ => dcIn us G T Ek Ev ps acc') s
      | none => .stuck
    else bnd (wp us) fun _ => dcIn us G T Ek Ev ps acc
def dcOut (us vs : List Nat) (G : PV → PM Unit) (T : PM Bool) (I1 : PM (List PV)) (G1 : PV → PM Unit) (T1 : PM Bool) (Ek Ev : PM Arg) : List PV → PV → PM PV
  | [], acc => ret acc
  | p :: ps, acc => bnd (nx (G p)) fun _ => bnd T fun k => if k = true then bnd I1 fun qs => bnd (wp vs) fun _ => bnd (dcIn vs G1 T1 Ek Ev qs acc) fun acc' => bnd (wp us) fun _ => dcOut us vs G T I1 G1 T1 Ek Ev ps acc'
    else bnd (wp us) fun _ => dcOut us vs G T I1 G1 T1 Ek Ev ps acc
def eDc2 (n : Nat) (us vs : List Nat) (I : PM (List PV)) (G : PV → PM Unit) (T : PM Bool) (I1 : PM (List PV)) (G1 : PV → PM Unit) (T1 : PM Bool) (Ek Ev : PM Arg) : PM Arg := bnd I fun ps => fun s =>
  match dcOut us vs G T I1 G1 T1 Ek Ev ps (.dct n []) (wipeS s us) with
  | .ok acc s1 => .ok (.val acc true) (unw s s1 us)
  | _ => .stuck

theorem opSet_dct {n : Nat} {kvs : List (PV × PV)} {q x p' : PV} (h : opSet (.dct n kvs) q x = some p') : ∃ kvs', p' = .dct n kvs' := by
  match n, h with
  | 0, h =>
    have h : (if (keyOf q).isSome && decide (kvs.length < sizeLine) then some (PV.dct 0 (dPut kvs q x)) else none) = some p' := by cases q <;> exact h
    split at h
    · cases h; exact ⟨_, rfl⟩
    · cases h
  | 1, h =>
    have h : (if kb q && kvs.all (fun e => kb e.1) && decide (kvs.length < sizeLine) then some (PV.dct 1 (dPut kvs q x)) else none) = some p' := by cases q <;> exact h
    split at h
    · cases h; exact ⟨_, rfl⟩
    · cases h
  | n + 2, h => cases q <;> simp [opSet] at h
section
variable {K : Frg} {Z Z1 : Addr → Prop} {own vs : List Nat} {H H1 H2 H' : Hp} {σ σ1 σ2 σ' : L2.St} {s s1 s2 s' : SE} {D : Addr} {o : HO} {n : Nat}
/-- from a place in a block's loop to another -/
structure Tw (K : Frg) (Z : Addr → Prop) (own : List Nat) (H : Hp) (σ : L2.St) (s : SE) (H' : Hp) (σ' : L2.St) (s' : SE) : Prop where
  rl : Rl K Z H' σ' s'
  fr : ∀ a o, H a = some o → ¬ Owns σ s a → H' a = some o
  ow : ∀ a, Owns σ' s' a → Owns σ s a
  tr : ∀ a, H a ≠ none → H' a ≠ none
  kp : ∀ (i : Nat) (q : Bool × PV), i ∉ own → s[i]? = some (some q) → ∃ q', s'[i]? = some (some q')
  wp : wipe σ' own = wipe σ own
theorem Tw.trans (a : Tw K Z1 own H σ s H1 σ1 s1) (b : Tw K Z own H1 σ1 s1 H2 σ2 s2) : Tw K Z own H σ s H2 σ2 s2 where
  rl := b.rl
  fr := fun c o e n => b.fr c o (a.fr c o e n) fun z => n (a.ow c z)
  ow := fun c z => a.ow c (b.ow c z)
  tr := fun c h => b.tr c (a.tr c h)
  kp := fun i q hi e => let ⟨_, e1⟩ := a.kp i q hi e; b.kp i _ hi e1
  wp := b.wp.trans a.wp
theorem Go.tw (g : Go K Z Z1 H σ s s' H') : Tw K Z1 own H σ s H' σ s' := ⟨g.rl, g.fr, g.ow, g.tr, fun i q _ e => g.kp i q e, rfl⟩
theorem wipe_wipe (h : ∀ i ∈ vs, i ∈ own) : wipe (wipe σ vs) own = wipe σ own := by
  refine List.ext_getElem? fun i => ?_
  by_cases hl : i < σ.length
  · by_cases hi : i ∈ own
    · rw [wipe_in' hi (by rw [wipe_length]; exact hl), wipe_in' hi hl]
    · rw [wipe_out' hi, wipe_out' hi, wipe_out' fun z => hi (h i z)]
  · rw [List.getElem?_eq_none (by rw [wipe_length, wipe_length]; omega), List.getElem?_eq_none (by rw [wipe_length]; omega)]
theorem Rl.tw_wipe (R : Rl K Z H σ s) (hv : ∀ i ∈ vs, i ∈ own) : Tw K Z own H σ s H (wipe σ vs) (wipeS s vs) where
  rl := (R.forget (own := vs) (us := vs) fun _ h => h).1
  fr := fun _ _ e _ => e
  ow := fun a z => owns_wipe (fun _ h => h) z
  tr := fun _ h => h
  kp := fun i q hi e => ⟨q, by rw [wipeS_out fun z => hi (hv i z)]; exact e⟩
  wp := wipe_wipe hv
theorem Tw.vis (a : Tw K Z own H σ s H' σ' s') : Ext (Hd Z σ s H) (Hd Z σ' s' H') := hid_mono fun b o n e => ⟨fun z => n (z.imp id (a.ow b)), a.fr b o e fun z => n (.inr z)⟩
theorem Tw.visD (a : Tw K Z own H σ s H' σ' s') : Ext (HqD D σ s H) (HqD D σ' s' H') := hid_mono fun b o n e => ⟨fun z => n (z.imp (a.ow b) id), a.fr b o e fun z => n (.inl z)⟩
/-- D's object along such a way -/
theorem Tw.obD {p : PV} (a : Tw K Z own H σ s H' σ' s') (nD : ¬ Owns σ s D) (ob : Ob K H (Hd Z σ s H) D p) : Ob K H' (Hd Z σ' s' H') D p := by
  obtain ⟨o, ho, _⟩ := ob.at_
  exact ob.ext (by rw [ho]; exact a.fr D o ho nD) a.vis
theorem Rl.nOwn (R : Rl K Z H σ s) (z : Z D) : ¬ Owns σ s D := fun ⟨i, p, e1, e2⟩ => by
  obtain ⟨b, e3, n, _⟩ := R.ow i p e1
  rw [e2] at e3; cases e3
  exact n z
theorem GoS.tw {N : Nat} (g : GoS K (others N vs) Z Z H σ s H' σ' s') (ho : ∀ a, Owns σ' s' a → Owns σ s a) (hn : σ.length = N) (hv : ∀ i ∈ vs, i ∈ own) : Tw K Z own H σ s H' σ' s' := ⟨g.rl, g.fr, ho, g.tr, fun i q _ e => g.kp i q e, by
  refine List.ext_getElem? fun i => ?_
  by_cases hl : i < N
  · by_cases hi : i ∈ own
    · rw [wipe_in' hi (by rw [g.ln, hn]; exact hl), wipe_in' hi (by rw [hn]; exact hl)]
    · rw [wipe_out' hi, wipe_out' hi, g.pn i (others_mem.mpr ⟨hl, fun z => hi (hv i z)⟩)]
  · rw [List.getElem?_eq_none (by rw [wipe_length, g.ln]; omega), List.getElem?_eq_none (by rw [wipe_length]; omega)]⟩
/-- .. and a store into D -/
theorem Tw.store (a : Tw K Z own H σ s H' σ' s') (zD : Z D) (hD : H D = none) : Tw K Z own H σ s (upd H' D o) σ' s' ∧ Hd Z σ' s' (upd H' D o) = Hd Z σ' s' H' ∧ Ext (HqD D σ' s' H') (HqD D σ' s' (upd H' D o)) := by
  refine ⟨⟨a.rl.zwrite zD, fun b u e n => ?_, a.ow, fun b h => ?_, a.kp, a.wp⟩, hd_z zD, hid_mono fun b u n e => ⟨n, by rw [upd_ne fun z => n (.inr z)]; exact e⟩⟩
  · rw [upd_ne fun z => by rw [z, hD] at e; cases e]; exact a.fr b u e n
  · by_cases z : b = D
    · rw [z, upd_same]; nofun
    · rw [upd_ne z]; exact a.tr b h
end
theorem Mt.ok_ {α : Type} {r : Rs α} {ok : α → SE → Prop} (h : Mt r ok (fun _ _ => False)) : ∃ a s, r = .ok a s ∧ ok a s := by
  cases r with
  | ok a s => exact ⟨a, s, rfl, h⟩
  | exc c s => exact h.elim
  | stuck => exact h.elim
theorem mt_of {α : Type} {r : Rs α} {a : α} {s : SE} (h : r = .ok a s) : Mt r (fun a' s' => a' = a ∧ s' = s) (fun _ _ => False) := by rw [h]; exact ⟨rfl, rfl⟩
theorem of_mt {α : Type} {r : Rs α} {a : α} {s : SE} (h : Mt r (fun a' s' => a' = a ∧ s' = s) (fun _ _ => False)) : r = .ok a s := by
  obtain ⟨a', s', e, h1, h2⟩ := h.ok_
  rw [e, h1, h2]
section
variable {X : Cx} {W : WX} {us vs : List Nat} {I I1 : PM (List PV)} {G G1 : PV → PM Unit} {T T1 : PM Bool} {Ek Ev : PM Arg} {N n : Nat}
theorem dc2_m {σ : L2.St} {H : Hp} {Q : VK} (hu : X.A.units + 64 < cLine) (hd : n < 2) (hn : σ.length = N) (hv : ∀ i ∈ vs, i ∈ us) (h : lE (kx X) X.mg W (eDc2 n us vs I G T I1 G1 T1 Ek Ev) σ H Q) :
    tDc2 (dK X n hu) (lI (kx X) X.mg W I) (lG (kx X) (others N us) G) (lT (kx X) X.mg WF T) (lIV (kx X) X.mg WF I1) (lG (kx X) (others N vs) G1) (lT (kx X) X.mg WF T1) (lE (kx X) X.mg WF Ek) (lE (kx X) X.mg WF Ev) us vs σ H Q := by
  obtain ⟨Z, s, R, h⟩ := lE_iff.mp h
  refine ⟨Z, s, R, Mt.imp (Mt.bnd_ h) fun ps s1 q J H1 Rb g wk rb D hD => ?_⟩
  cases e : dcOut us vs G T I1 G1 T1 Ek Ev ps (.dct n []) (wipeS s1 us) with
  | stuck => rw [e] at q; exact q.elim
  | exc c s2 => rw [e] at q; exact q.elim
  | ok accF sF =>
  rw [e] at q
  have R1 := g.rl
  have P1 := R1.park (us := us) (vs := us) fun _ h => h
  have hp0 : Hd (fun b => Z b ∨ Pk σ s1 us us b) (wipe σ us) (wipeS s1 us) H1 = Hd Z σ s1 H1 := hd_park fun _ h => h
  obtain ⟨Z1, hZ1⟩ : ∃ Z1 : Addr → Prop, Z1 = fun b => (Z b ∨ b = D) ∨ Pk σ s1 us us b := ⟨_, rfl⟩
  have pD : Z1 D := by rw [hZ1]; exact .inl (.inr rfl)
  obtain ⟨o0, ho0⟩ : ∃ o0, dE X n D = o0 := ⟨_, rfl⟩
  have nD : ∀ b o, H1 b = some o → b ≠ D := fun b o e z => by rw [z, hD] at e; cases e
  have t0 : Tw (kx X) Z1 us H1 (wipe σ us) (wipeS s1 us) (upd H1 D o0) (wipe σ us) (wipeS s1 us) := by
    have g0 := Go.grown P1 (ext_upd (o := o0) hD)
    refine ⟨(P1.hold hD (ext_upd hD) (by rw [upd_same]; nofun)).weak fun b z => ?_, g0.fr, g0.ow, g0.tr, fun i q _ e => g0.kp i q e, rfl⟩
    rw [hZ1] at z
    rcases z with (z | z) | z
    · exact .inl (.inl z)
    · exact .inr z
    · exact .inl (.inr z)
  have rb0 : Rb (HqD D (wipe σ us) (wipeS s1 us) (upd H1 D o0)) (Hd Z1 (wipe σ us) (wipeS s1 us) (upd H1 D o0)) := by
    refine wk.mono _ _ _ _ rb (hid_mono fun b o n e => ⟨fun z => n (z.elim (owns_wipe fun _ h => h) fun z => absurd z (nD b o e)), ext_upd hD b o e⟩) ?_
    rw [← hp0, hZ1]
    refine hid_mono fun b o n e => ⟨fun z => n ?_, ext_upd hD b o e⟩
    rcases z with ((z | z) | z) | z
    · exact .inl (.inl z)
    · exact absurd z (nD b o e)
    · exact .inl (.inr z)
    · exact .inr z
  have ob0 : Ob (kx X) (upd H1 D o0) (Hd Z1 (wipe σ us) (wipeS s1 us) (upd H1 D o0)) D (.dct n []) := by
    rw [← ho0]
    match n, hd with
    | 0, _ => exact ⟨[], ⟨[], upd_same, rfl⟩, .nil⟩
    | 1, _ => exact ⟨[], ⟨[], upd_same, rfl⟩, .nil⟩
  refine ⟨fun i m H => m + i = ps.length ∧ ∃ (s : SE) (kvs : List (PV × PV)), Tw (kx X) Z1 us H1 (wipe σ us) (wipeS s1 us) H (wipe σ us) s ∧ Rb (HqD D (wipe σ us) s H) (Hd Z1 (wipe σ us) s H) ∧ Ob (kx X) H (Hd Z1 (wipe σ us) s H) D (.dct n kvs) ∧
    dcOut us vs G T I1 G1 T1 Ek Ev (ps.drop i) (.dct n kvs) s = .ok accF sF, ⟨ps.length, by omega, wipeS s1 us, [], by rw [← ho0] at t0; exact t0, by rw [← ho0] at rb0; exact rb0, by rw [← ho0] at ob0; exact ob0, e⟩, ?_⟩
  intro i m H2 ⟨em, s3, kvs, t3, rb3, ob3, e3⟩
  have subq : ∀ {σ : L2.St} {s : SE} {H : Hp}, Ext (Hd Z1 σ s H) (HqD D σ s H) := hid_mono fun b o n e => ⟨fun z => n (z.elim .inr fun z => .inl (by rw [z]; exact pD)), e⟩
  have wW : ∀ {σ' : L2.St}, wipe σ' us = wipe (wipe σ us) us → wipe σ' us = wipe σ us := fun e => e.trans (wipe_wipe fun _ h => h)
  cases ei : ps[i]? with
  | none =>
    have hl : ps.length ≤ i := List.getElem?_eq_none_iff.mp ei
    refine .inl ⟨wk.stop i H2 _ _ rb3 hid_sub subq hl, ?_⟩
    rw [List.drop_of_length_le hl] at e3
    simp only [dcOut, ret, Rs.ok.injEq] at e3
    obtain ⟨e4, e5⟩ := e3
    subst e4 e5
    have g3 : Go (kx X) (fun b => Z b ∨ Pk σ s1 us us b) (fun b => (Z b ∨ b = D) ∨ Pk σ s1 us us b) H1 (wipe σ us) (wipeS s1 us) s3 H2 := by
      refine ⟨by have := t3.rl; rw [hZ1] at this; exact this, t3.fr, t3.ow, t3.tr, fun i q e => ?_⟩
      refine t3.kp i q (fun hi => ?_) e
      have hl : i < s1.length := by
        have z := (List.getElem?_eq_some_iff.mp e).1
        rw [wipeS_len] at z
        exact z
      rw [wipeS_in hi hl] at e; cases e
    have gu := R1.unpark (us := us) (vs := us) (fun _ h => h) (Z' := fun b => Z b ∨ b = D) (fun _ z => .inl z) (fun b z n => (z.elim (fun z => absurd z n) fun z => by rw [z]; exact hD)) g3
    have nown : ¬ Owns σ (unw s1 s3 us) D := fun z => R1.ownIn (gu.ow D z) hD
    refine q (.ref D) H2 ((show PostE (kx X) Z H1 σ s1 (.val (.dct n kvs) true) (unw s1 s3 us) (.ref D) H2 from ⟨D, rfl, hD, gu, ob3.ext rfl ?_, nown, fun z => R1.zin D z hD⟩).after g)
    -- what is shared within is shared behind
    rw [hZ1]
    refine hid_mono fun b o n e => ⟨fun z => ?_, e⟩
    rcases z with z | ⟨i, p, z1, z2⟩
    · exact n (.inl (.inl z))
    · have hl' : s3.length = s1.length := by rw [t3.rl.len, wipe_length, R1.len]
      have hli : i < s1.length := by
        have z := (List.getElem?_eq_some_iff.mp z1).1
        rw [unw_len, hl'] at z
        exact z
      by_cases hi : i ∈ us
      · rw [unw_in hi (by rw [hl']; exact hli) hli] at z1
        refine n (.inl (.inr ⟨⟨i, p, z1, z2⟩, fun ⟨j, r, y1, y2⟩ => ?_⟩))
        have hlj : j < s1.length := by
          have z := (List.getElem?_eq_some_iff.mp y1).1
          rw [wipeS_len] at z
          exact z
        by_cases hj : j ∈ us
        · rw [wipeS_in hj hlj] at y1; cases y1
        · rw [wipeS_out hj] at y1
          have := R1.dj i j p r b z1 y1 z2 (wipe_some y2).1
          subst this
          exact hj hi
      · rw [unw_out hi] at z1
        exact n (.inr ⟨i, p, z1, by rw [wipe_out' hi]; exact z2⟩)
  | some p =>
    obtain ⟨hl, ep⟩ := List.getElem?_eq_some_iff.mp ei
    rw [List.drop_eq_getElem_cons hl, ep] at e3
    -- the next turn's start
    have nxt : ∀ {σ' : L2.St} {s' : SE} {H' : Hp} {kvs' : List (PV × PV)}, Tw (kx X) Z1 us H1 (wipe σ us) (wipeS s1 us) H' σ' s' → Rb (HqD D σ' s' H') (Hd Z1 σ' s' H') → Ob (kx X) H' (Hd Z1 σ' s' H') D (.dct n kvs') → dcOut us vs G T I1 G1 T1 Ek Ev (ps.drop (i + 1)) (.dct n kvs') (wipeS s' us) = .ok accF sF →
        ∃ m', m' < m ∧ (m' + (i + 1) = ps.length ∧ ∃ (s : SE) (kvs : List (PV × PV)), Tw (kx X) Z1 us H1 (wipe σ us) (wipeS s1 us) H' (wipe σ us) s ∧ Rb (HqD D (wipe σ us) s H') (Hd Z1 (wipe σ us) s H') ∧ Ob (kx X) H' (Hd Z1 (wipe σ us) s H') D (.dct n kvs) ∧
          dcOut us vs G T I1 G1 T1 Ek Ev (ps.drop (i + 1)) (.dct n kvs) s = .ok accF sF) := fun {σ' s' H' kvs'} t rb ob ev => by
      have t6 := t.rl.tw_wipe (vs := us) (own := us) fun _ h => h
      have ew : wipe σ' us = wipe σ us := wW t.wp
      rw [ew] at t6
      exact ⟨m - 1, by omega, by omega, wipeS s' us, kvs', t.trans t6, wk.mono _ _ _ _ rb t6.visD t6.vis, t6.obD (t.rl.nOwn pD) ob, ev⟩
    refine .inr ⟨wk.go i p H2 _ _ rb3 hid_sub subq ei, fun H' => ∃ m', m' < m ∧ (m' + (i + 1) = ps.length ∧ ∃ (s : SE) (kvs : List (PV × PV)), Tw (kx X) Z1 us H1 (wipe σ us) (wipeS s1 us) H' (wipe σ us) s ∧ Rb (HqD D (wipe σ us) s H') (Hd Z1 (wipe σ us) s H') ∧ Ob (kx X) H' (Hd Z1 (wipe σ us) s H') D (.dct n kvs) ∧
          dcOut us vs G T I1 G1 T1 Ek Ev (ps.drop (i + 1)) (.dct n kvs) s = .ok accF sF), fun H' z => z, fun x H' hy => ?_⟩
    obtain ⟨ex, rp⟩ := wk.yld i p H2 _ _ x H' rb3 hid_sub subq ei hy
    have g4 : Go (kx X) _ _ H2 (wipe σ us) s3 s3 H' := Go.grown t3.rl ex
    rw [grow_hid t3.rl.hidIn ex] at rp
    refine ⟨_, s3, p, g4.rl, rp, Mt.imp (Mt.nx (Mt.bnd_ (mt_of e3))) fun _ s5 m5 σ5 H5 g5 ow5 => ?_⟩
    have t5 : Tw (kx X) Z1 us H2 (wipe σ us) s3 H5 σ5 s5 := (Go.tw g4).trans (GoS.tw g5 ow5 (by rw [wipe_length]; exact hn) fun _ h => h)
    refine ⟨wW t5.wp, ?_⟩
    refine lT_step t5.rl (Mt.noex (Mt.bnd_ m5)) fun k s6 H6 m6 g6 => ?_
    have t6 : Tw (kx X) Z1 us H2 (wipe σ us) s3 H6 σ5 s6 := t5.trans (Go.tw g6)
    have nD3 := t3.rl.nOwn pD
    cases k with
    | false => exact nxt (t3.trans t6) (wk.mono _ _ _ _ rb3 t6.visD t6.vis) (t6.obD nD3 ob3) (of_mt m6)
    | true =>
      refine ⟨_, s6, t6.rl, Mt.imp (Mt.noex (Mt.bnd_ m6)) fun qs s7 m7 J1 H7 Rb1 g7 wk1 rb1 => ?_⟩
      have t7' := g7.rl.tw_wipe (vs := vs) (own := us) hv
      have t7 : Tw (kx X) Z1 us H2 (wipe σ us) s3 H7 (wipe σ5 vs) (wipeS s7 vs) := (t6.trans (Go.tw g7)).trans t7'
      have rbi : Rb1 (HqD D (wipe σ5 vs) (wipeS s7 vs) H7) (Hd Z1 (wipe σ5 vs) (wipeS s7 vs) H7) := wk1.mono _ _ _ _ rb1 (t7'.vis.trans subq) t7'.vis
      obtain ⟨rest, hrest⟩ : ∃ rest : PV → PM PV, rest = fun acc' => bnd (wp us) fun _ => dcOut us vs G T I1 G1 T1 Ek Ev (ps.drop (i + 1)) acc' := ⟨_, rfl⟩
      have m8 := Mt.bnd_ m7
      rw [← hrest] at m8
      refine ⟨fun j k H => k + j = qs.length ∧ ∃ (s : SE) (kvs : List (PV × PV)), Tw (kx X) Z1 us H1 (wipe σ us) (wipeS s1 us) H (wipe σ5 vs) s ∧ Rb (HqD D (wipe σ5 vs) s H) (Hd Z1 (wipe σ5 vs) s H) ∧ Rb1 (HqD D (wipe σ5 vs) s H) (Hd Z1 (wipe σ5 vs) s H) ∧ Ob (kx X) H (Hd Z1 (wipe σ5 vs) s H) D (.dct n kvs) ∧
        bnd (dcIn vs G1 T1 Ek Ev (qs.drop j) (.dct n kvs)) rest s = .ok accF sF, ⟨qs.length, by omega, wipeS s7 vs, kvs, t3.trans t7, wk.mono _ _ _ _ rb3 t7.visD t7.vis, rbi, t7.obD nD3 ob3, of_mt m8⟩, ?_⟩
      clear m8 m7 rbi t7 t7' rb1 g7 H7 s7 m6 g6 t6 m5
      intro j k H8 ⟨ek, s8, kv8, t8, rb8, rc8, ob8, e8⟩
      have nD8 := t8.rl.nOwn pD
      cases ej : qs[j]? with
      | none =>
        have hl1 : qs.length ≤ j := List.getElem?_eq_none_iff.mp ej
        refine .inl ⟨wk1.stop j H8 _ _ rc8 hid_sub subq hl1, ?_⟩
        rw [List.drop_of_length_le hl1] at e8
        have m9 := Mt.bnd_ (mt_of e8)
        rw [hrest] at m9
        exact nxt t8 rb8 ob8 (of_mt m9)
      | some p1 =>
        obtain ⟨hl1, ep1⟩ := List.getElem?_eq_some_iff.mp ej
        rw [List.drop_eq_getElem_cons hl1, ep1] at e8
        have nxt1 : ∀ {σ' : L2.St} {s' : SE} {H' : Hp} {kvs' : List (PV × PV)}, Tw (kx X) Z1 us H1 (wipe σ us) (wipeS s1 us) H' σ' s' → wipe σ' vs = wipe σ5 vs → Rb (HqD D σ' s' H') (Hd Z1 σ' s' H') → Rb1 (HqD D σ' s' H') (Hd Z1 σ' s' H') → Ob (kx X) H' (Hd Z1 σ' s' H') D (.dct n kvs') →
            bnd (dcIn vs G1 T1 Ek Ev (qs.drop (j + 1)) (.dct n kvs')) rest (wipeS s' vs) = .ok accF sF →
            ∃ k', k' < k ∧ (k' + (j + 1) = qs.length ∧ ∃ (s : SE) (kvs : List (PV × PV)), Tw (kx X) Z1 us H1 (wipe σ us) (wipeS s1 us) H' (wipe σ5 vs) s ∧ Rb (HqD D (wipe σ5 vs) s H') (Hd Z1 (wipe σ5 vs) s H') ∧ Rb1 (HqD D (wipe σ5 vs) s H') (Hd Z1 (wipe σ5 vs) s H') ∧ Ob (kx X) H' (Hd Z1 (wipe σ5 vs) s H') D (.dct n kvs) ∧
              bnd (dcIn vs G1 T1 Ek Ev (qs.drop (j + 1)) (.dct n kvs)) rest s = .ok accF sF) := fun {σ' s' H' kvs'} t ew rb rc ob ev => by
          have tw := t.rl.tw_wipe (vs := vs) (own := us) hv
          rw [ew] at tw
          exact ⟨k - 1, by omega, by omega, wipeS s' vs, kvs', t.trans tw, wk.mono _ _ _ _ rb tw.visD tw.vis, wk1.mono _ _ _ _ rc tw.visD tw.vis, tw.obD (t.rl.nOwn pD) ob, ev⟩
        refine .inr ⟨wk1.go j p1 H8 _ _ rc8 hid_sub subq ej, fun H' => ∃ k', k' < k ∧ (k' + (j + 1) = qs.length ∧ ∃ (s : SE) (kvs : List (PV × PV)), Tw (kx X) Z1 us H1 (wipe σ us) (wipeS s1 us) H' (wipe σ5 vs) s ∧ Rb (HqD D (wipe σ5 vs) s H') (Hd Z1 (wipe σ5 vs) s H') ∧ Rb1 (HqD D (wipe σ5 vs) s H') (Hd Z1 (wipe σ5 vs) s H') ∧ Ob (kx X) H' (Hd Z1 (wipe σ5 vs) s H') D (.dct n kvs) ∧
              bnd (dcIn vs G1 T1 Ek Ev (qs.drop (j + 1)) (.dct n kvs)) rest s = .ok accF sF), fun H' z => z, fun x1 H9 hy1 => ?_⟩
        obtain ⟨ex1, rp1⟩ := wk1.yld j p1 H8 _ _ x1 H9 rc8 hid_sub subq ej hy1
        have g9 : Go (kx X) _ _ H8 (wipe σ5 vs) s8 s8 H9 := Go.grown t8.rl ex1
        rw [grow_hid t8.rl.hidIn ex1] at rp1
        have m10 := Mt.bnd_ (mt_of e8)
        refine ⟨_, s8, p1, g9.rl, rp1, Mt.imp (Mt.nx (Mt.bnd_ m10)) fun _ s11 m11 σ11 H11 g11 ow11 => ?_⟩
        have hN5 : (wipe σ5 vs).length = N := by rw [wipe_length]; have := g5.ln; rw [wipe_length] at this; omega
        have w11 : wipe σ11 vs = wipe σ5 vs := (wipe_same (n := N) (own := vs) (σ := σ5) (σ' := σ11) (by rw [wipe_length] at hN5; exact hN5) (by rw [g11.ln, wipe_length]) fun i hi => by rw [g11.pn i hi])
        have t11 : Tw (kx X) Z1 us H8 (wipe σ5 vs) s8 H11 σ11 s11 := (Go.tw g9).trans (GoS.tw g11 ow11 hN5 hv)
        refine ⟨w11, ?_⟩
        refine lT_step t11.rl (Mt.noex (Mt.bnd_ m11)) fun k1 s12 H12 m12 g12 => ?_
        have t12 : Tw (kx X) Z1 us H8 (wipe σ5 vs) s8 H12 σ11 s12 := t11.trans (Go.tw g12)
        cases k1 with
        | false =>
          refine nxt1 (t8.trans t12) w11 (wk.mono _ _ _ _ rb8 t12.visD t12.vis) (wk1.mono _ _ _ _ rc8 t12.visD t12.vis) (t12.obD nD8 ob8) ?_
          unfold bnd
          have m12 : Mt (dcIn vs G1 T1 Ek Ev (qs.drop (j + 1)) (.dct n kv8) (wipeS s12 vs)) (fun a s => Mt (rest a s) (fun a' s' => a' = accF ∧ s' = sF) (fun _ _ => False)) (fun _ _ => False) := m12
          obtain ⟨a13, s13, e13, q13⟩ := m12.ok_
          rw [e13]
          exact of_mt q13
        | true =>
          refine lE_step t12.rl (Mt.noex (Mt.bnd_ m12)) fun r s13 y H13 m13 p13 => ?_
          obtain ⟨qk, s14, m14, g14, r14⟩ := rel1_step (mg := X.mg) p13 (Mt.bnd_ m13)
          refine lE_step g14.rl (Mt.noex (Mt.bnd_ m14)) fun r2 s15 z H15 m15 p15 => ?_
          obtain ⟨qx, s16, m16, g16, r16⟩ := rel1_step (mg := X.mg) p15 (Mt.bnd_ m15)
          have t16 : Tw (kx X) Z1 us H8 (wipe σ5 vs) s8 H15 σ11 s16 := (t12.trans (Go.tw g14)).trans (Go.tw g16)
          have ob16 := t16.obD nD8 ob8
          cases eo : opSet (.dct n kv8) qk qx with
          | none => rw [eo] at m16; exact m16.elim
          | some acc' =>
            rw [eo] at m16
            obtain ⟨kv', rfl⟩ := opSet_dct eo
            refine ⟨_, kv8, qk, qx, _, hid_sub, ob16, r14.ext g16.vis, r16, eo, fun o ob' => ?_⟩
            obtain ⟨ts, ehd, ehq⟩ := (t8.trans t16).store (o := o) pD hD
            refine nxt1 ts w11 (wk.mono _ _ _ _ rb8 (t16.visD.trans ehq) (by rw [ehd]; exact t16.vis)) (wk1.mono _ _ _ _ rc8 (t16.visD.trans ehq) (by rw [ehd]; exact t16.vis)) (by rw [ehd]; exact ob') ?_
            unfold bnd
            have m17 : Mt (dcIn vs G1 T1 Ek Ev (qs.drop (j + 1)) (.dct n kv') (wipeS s16 vs)) (fun a s => Mt (rest a s) (fun a' s' => a' = accF ∧ s' = sF) (fun _ _ => False)) (fun _ _ => False) := m16
            obtain ⟨a18, s18, e18, q18⟩ := m17.ok_
            rw [e18]
            exact of_mt q18
end
section
variable {X : Cx} {W : WX}
theorem qe_dc2 {kx vx tg iter tg1 iter1 : Expr} {ifs ifs1 : List Expr} {scope : Scope} {own : List (Str × Nat)} {vs : List Nat} {pos : Pos} {n : Nat} {I I1 : PM (List PV)} {G G1 : PV → PM Unit} {T T1 : PM Bool} {Ek Ev : PM Arg} (hu : X.A.units + 64 < cLine) (hd : n < 2) (hc : X.calm = true) (hN : X.N.Nodup) (ok : BlkOk X.N X.env.scope scope own) (hv : ∀ i ∈ vs, i ∈ own.map (·.2)) (hi : QI X W tg iter I)
    (hg : ∀ (s : Shared) (H : Hp) (C : Addr) (cl : List (Str × Addr)) (fp : List Addr), QG (X.blk s H scope (compEnvC scope cl C X.env) fp) (others X.N.length (own.map (·.2))) tg G)
    (ht : ∀ (s : Shared) (H : Hp) (C : Addr) (cl : List (Str × Addr)) (fp : List Addr), QTs (X.blk s H scope (compEnvC scope cl C X.env) fp) WF ifs T)
    (hi1 : ∀ (s : Shared) (H : Hp) (C : Addr) (cl : List (Str × Addr)) (fp : List Addr), QIV (X.blk s H scope (compEnvC scope cl C X.env) fp) WF tg1 iter1 I1)
    (hg1 : ∀ (s : Shared) (H : Hp) (C : Addr) (cl : List (Str × Addr)) (fp : List Addr), QG (X.blk s H scope (compEnvC scope cl C X.env) fp) (others X.N.length vs) tg1 G1)
    (ht1 : ∀ (s : Shared) (H : Hp) (C : Addr) (cl : List (Str × Addr)) (fp : List Addr), QTs (X.blk s H scope (compEnvC scope cl C X.env) fp) WF ifs1 T1)
    (hk : ∀ (s : Shared) (H : Hp) (C : Addr) (cl : List (Str × Addr)) (fp : List Addr), QE (X.blk s H scope (compEnvC scope cl C X.env) fp) WF kx Ek)
    (he : ∀ (s : Shared) (H : Hp) (C : Addr) (cl : List (Str × Addr)) (fp : List Addr), QE (X.blk s H scope (compEnvC scope cl C X.env) fp) WF vx Ev)
    (hs : ∀ x, foldedSetIterable iter X.env x = pure x := by intro _; rfl) (hs1 : ∀ env x, foldedSetIterable iter1 env x = pure x := by intro _ _; rfl) :
    QE X W (.DictComp kx vx [⟨tg, iter, ifs, 0⟩, ⟨tg1, iter1, ifs1, 0⟩] scope pos) (eDc2 n (own.map (·.2)) vs I G T I1 G1 T1 Ek Ev) :=
  ⟨pe_monoI (pe_dc2 (dK X n hu) hc hN hi.pi ok hv (fun s H C cl fp => (hg s H C cl fp).pg) (fun s H C cl fp => (ht s H C cl fp).pts) (fun s H C cl fp => (hi1 s H C cl fp).pi) (fun s H C cl fp => (hg1 s H C cl fp).pg) (fun s H C cl fp => (ht1 s H C cl fp).pts)
    (fun s H C cl fp => (hk s H C cl fp).pe) (fun s H C cl fp => (he s H C cl fp).pe) hs hs1) fun pins s σ H Q I h => dc2_m hu hd I.len hv h⟩
end
end HF
end

section
set_option Elab.async false
set_option linter.all false
set_option maxRecDepth 100000
set_option maxHeartbeats 1000000
set_option autoImplicit false
/-! HFJ: displays of dicts of tuples. -/
namespace HF
open PySem PySem.Spec PyProof.Rows L2
/-- entry by entry -/
def stAll (acc : XN) (es : XN) : XN := es.foldl (fun acc e => stV acc e.1 e.2.1 e.2.2) acc
theorem stAll_len : ∀ (es acc : XN), (stAll acc es).length ≤ acc.length + es.length
  | [], acc => Nat.le_refl _
  | e :: es, acc => by
    have h1 := stAll_len es (stV acc e.1 e.2.1 e.2.2)
    have h2 := stV_len acc e.1 e.2.1 e.2.2
    show (stAll (stV acc e.1 e.2.1 e.2.2) es).length ≤ _
    rw [List.length_cons]; omega
theorem kn_all : ∀ {es : XN} {fs : List (NestedKey × Addr × Value)} {acc : XN} {bcc : List (NestedKey × Addr × Value)}, KN acc bcc → KN es fs → KN (stAll acc es) (storedAllH bcc fs) := by
  intro es fs acc bcc r q
  induction q generalizing acc bcc with
  | nil => exact r
  | @cons x y xs ys a _ ih =>
    obtain ⟨h1, h2, h3⟩ := a
    refine ih (acc := stV acc x.1 x.2.1 x.2.2) (bcc := storedH bcc y.1 y.2.1 y.2.2) ?_
    rw [← h1, ← h2]
    exact kn_put r _ _ h3
def tDispN (X : Cx) (trs : List (TE × TE)) : TE := fun σ H Q => ∀ p, H p = none → tPairs trs σ (upd H p (DNo X.prog X.w p [])) fun ps H2 => H2 p = some (DNo X.prog X.w p []) ∧ ∃ es : XN, ps = es.map (fun x => (V.ref x.2.1, x.2.2)) ∧ es.length ≤ 15 ∧ (∀ x ∈ es, Rep (kx X) H2 (.ref x.2.1) (pvK x.1)) ∧ (∀ x ∈ es, x.1.depth ≤ 8) ∧
  Q (.ref p) (upd H2 p (DNo X.prog X.w p (stAll [] es)))
section
variable {X : Cx} {pos : Pos}
theorem carriesH_of {pins : List (Addr × Obj)} {σ : L2.St} {H : Hp} {s : Shared} (I : Inv X pins σ H s) : ∀ (es : XN) {ws : List (Value × Value)}, VV (es.map fun x => (V.ref x.2.1, x.2.2)) ws → (∀ x ∈ es, Rep (kx X) H (.ref x.2.1) (pvK x.1)) → (∀ x ∈ es, x.1.depth ≤ 8) → ∃ fs, CarriesH (nestedKind X.prog X.w) s.heap ws fs ∧ KN es fs
  | [], _, r, _, _ => by rw [List.map_nil] at r; cases r; exact ⟨[], True.intro, .nil⟩
  | x :: es, _, r, h1, h2 => by
    rw [List.map_cons] at r
    cases r with
    | @cons a b as bs h t =>
      obtain ⟨fs, c, q⟩ := carriesH_of I es t (fun y hy => h1 y (List.mem_cons_of_mem _ hy)) fun y hy => h2 y (List.mem_cons_of_mem _ hy)
      obtain ⟨b1, b2⟩ := b
      obtain ⟨h3, h4⟩ := h
      cases (show b1 = Value.ref x.2.1 from h3)
      exact ⟨(x.1, x.2.1, b2) :: fs, ⟨rfl, rfl, ⟨rep_nk I _ _ _ (h1 x List.mem_cons_self) rfl, h2 x List.mem_cons_self⟩, c⟩, .cons ⟨rfl, rfl, h4⟩ q⟩
theorem pe_dispN {keys : List (Option Expr)} {values : List Expr} {trs : List (TE × TE)} (hu : X.A.units + 64 < cLine) (h : PPs X pos keys values trs) (hsh : (evalEachOpt keys X.env).zip ((evalEach values X.env).map fun v => do let x ← v; standAt pos; pure x) = (pairTrees keys values X.env pos).map fun p => (some p.1, p.2)) (h0 : pairTrees keys values X.env pos ≠ []) (h15 : (pairTrees keys values X.env pos).length ≤ 15) :
    PE X (.Dict keys values pos) (tDispN X trs) := by
  refine ⟨fun pins s σ H Q I q => ?_⟩
  have hn := I.hok.fresh (Nat.le_refl s.heap.objs.size)
  have I1 := I.laid (a := s.heap.objs.size) (o := DNo X.prog X.w s.heap.objs.size []) (h' := s.heap.push { cls := .type "dict", data := .dict #[] }) (t' := s.toks) (fun _ _ q => Heap.get?_push_of_some _ q) (Nat.le_refl _) (dn_empty s.heap I.big)
  rw [arm_eval_Dict, hsh, dictDisplay_pairs _ h0 (by omega)]
  refine wpAny_bind (wpAny_standAt (wpAny_bind (wpAny_subDictH (knd := nestedKind X.prog X.w) (Q := fun d s' => wpAny (model X.prog X.w) X.A (pure (Value.ref d)) (EP X pins σ Q) X.xe s') (show X.A.units + 8 < cLine by omega) h15
    (thn (h.run pins _ σ _ _ I1 (q _ hn)) fun ws s2 ⟨ps, H2, I2, rel, e, es, ep, l15, hk, hd, q2⟩ => ?_))))
  subst ep
  obtain ⟨fs, c, kn⟩ := carriesH_of I2 es rel hk hd
  obtain ⟨⟨hl, hs, ys, kn0, o, e0, ep, ho, hx, hdat, he, hnd⟩, _⟩ := (show ObjOk X.prog X.w H2 s2.heap s.heap.objs.size (DNo X.prog X.w s.heap.objs.size []) from I2.hok _ _ e)
  cases kn0
  refine ⟨fs, c, ⟨o, e0, ep, ho, hx, hdat, he, fun x hx => (by cases hx), hnd⟩, fun h' tk D' sb => wpAny_pure ⟨.ref s.heap.objs.size, _, ?_, rfl, q2⟩⟩
  obtain ⟨ob, e1, ep1, hq, h2, h3, h4, _, h5⟩ := D'
  have hlen : (stAll [] es).length ≤ sizeLine := by
    have := stAll_len es []
    rw [List.length_nil] at this
    rw [sizeLine_eq]; omega
  refine d_write I2 (by rw [e]; exact True.intro) sb ⟨ob, hq⟩ ⟨⟨hlen, hs, _, kn_all .nil kn, ob, e1, ep1, hq, h2, h3, h4, h5⟩, ⟨ob, hq⟩, fun h1 h2 ⟨g1, g2, zs, g3, o1, e1, ep1, g4, g5⟩ hh => ⟨g1, g2, zs, g3, o1, e1, ep1, hh _ g4, g5⟩⟩
end
def dispL2 : List (PM Arg × PM Arg) → PM (List (PV × PV))
  | [] => ret []
  | (f, g) :: fs => bnd f fun a => bnd (rel1 a) fun p => bnd g fun b => bnd (rel1 b) fun q => bnd (dispL2 fs) fun ps => ret ((p, q) :: ps)
def eDispN (fs : List (PM Arg × PM Arg)) : PM Arg := fun s => match dispL2 fs s with
  | .ok kvs s' => if kvs.all (fun e => kb e.1) && decide (kvs.length ≤ 15) then .ok (.val (.dct 1 (kvs.foldl (fun acc e => dPut acc e.1 e.2) [])) true) s' else .stuck
  | _ => .stuck
def trN (X : Cx) (W : WX) (fs : List (PM Arg × PM Arg)) : List (TE × TE) := fs.map fun f => (lE (kx X) X.mg W f.1, lE (kx X) X.mg W f.2)
structure QDN (X : Cx) (W : WX) (pos : Pos) (keys : List (Option Expr)) (values : List Expr) (fs : List (PM Arg × PM Arg)) : Prop where
  pps : PPs X pos keys values (trN X W fs)
section
variable {X : Cx} {W : WX} {pos : Pos}
theorem qdn_nil : QDN X W pos [] [] [] := ⟨pps_nil⟩
theorem qdn_cons {k v : Expr} {keys : List (Option Expr)} {values : List Expr} {f g : PM Arg} {fs : List (PM Arg × PM Arg)} (hk : QE X W k f) (hv : QE X W v g) (hr : QDN X W pos keys values fs) : QDN X W pos (some k :: keys) (v :: values) ((f, g) :: fs) :=
  ⟨pps_cons hk.pe hv.pe hr.pps⟩
inductive RepP (K : Frg) (H : Hp) : List (V × V) → List (PV × PV) → Prop
  | nil : RepP K H [] []
  | cons {x y : V} {p q : PV} {vs : List (V × V)} {ps : List (PV × PV)} : Rep K H x p → Rep K H y q → RepP K H vs ps → RepP K H ((x, y) :: vs) ((p, q) :: ps)
theorem dispN_m {Z : Addr → Prop} : ∀ (fs : List (PM Arg × PM Arg)) (s : SE) (σ : L2.St) (H : Hp) (Q : List (V × V) → Hp → Prop), Rl (kx X) Z H σ s →
    Mt (dispL2 fs s) (fun ps s' => ∀ vs H', Go (kx X) Z Z H σ s s' H' → RepP (kx X) (Hd Z σ s' H') vs ps → Q vs H') (fun _ _ => False) → tPairs (trN X W fs) σ H Q
  | [], s, σ, H, Q, R, h => h [] H (Go.refl R) .nil
  | (f, g) :: fs, s, σ, H, Q, R, h => by
    refine lE_step R (Mt.noex (Mt.bnd_ h)) fun r s1 v H1 q p => ?_
    obtain ⟨x, s2, q, g2, rp⟩ := rel1_step (mg := X.mg) p (Mt.bnd_ q)
    refine lE_step g2.rl (Mt.noex (Mt.bnd_ q)) fun r3 s3 w H3 q3 p3 => ?_
    obtain ⟨y, s4, q4, g4, rp4⟩ := rel1_step (mg := X.mg) p3 (Mt.bnd_ q3)
    refine dispN_m fs s4 σ H3 _ g4.rl (Mt.imp (Mt.bnd_ q4) fun ps s5 q5 vs H5 g5 rs => ?_)
    exact q5 ((v, w) :: vs) H5 ((g2.trans g4).trans g5) (.cons ((rp.ext g4.vis).ext g5.vis) (rp4.ext g5.vis) rs)
theorem repP_es {K : Frg} {H : Hp} : ∀ {vs : List (V × V)} {ps : List (PV × PV)}, RepP K H vs ps → ps.all (fun e => kb e.1) = true → ∃ es : XN, vs = es.map (fun x => (V.ref x.2.1, x.2.2)) ∧ es.length = ps.length ∧ (∀ x ∈ es, Rep K H (.ref x.2.1) (pvK x.1)) ∧ (∀ x ∈ es, x.1.depth ≤ 8) ∧ ps.map (·.1) = es.map (fun x => pvK x.1) ∧
    ∀ (acc : XN) (bcc : List (PV × PV)), RepD K H (lN acc) bcc → RepD K H (lN (stAll acc es)) (ps.foldl (fun acc e => dPut acc e.1 e.2) bcc)
  | _, _, .nil, _ => ⟨[], rfl, rfl, fun x h => (by cases h), fun x h => (by cases h), rfl, fun acc bcc r => r⟩
  | _, _, .cons (p := p) (x := x) a b c, h => by
    rw [List.all_cons, Bool.and_eq_true] at h
    obtain ⟨es, e1, e2, e3, e4, e5, e6⟩ := repP_es c h.2
    obtain ⟨k1, k2⟩ := kb_at h.1
    have ht : isTup p = true := by have := h.1; unfold kb at this; simp only [Bool.and_eq_true] at this; exact this.1.1
    match p, ht, a with
    | .tup qs, _, .tup (a := t) t1 t2 =>
      have ra : Rep K H (.ref t) (pvK (nkOf (.tup qs))) := by rw [k1]; exact .tup t1 t2
      refine ⟨(nkOf (.tup qs), t, _) :: es, by rw [e1]; rfl, by simp [e2], fun y hy => ?_, fun y hy => ?_, by simp only [List.map_cons, e5, k1], fun acc bcc r => ?_⟩
      · rcases List.mem_cons.mp hy with z | z
        · subst z; exact ra
        · exact e3 y z
      · rcases List.mem_cons.mp hy with z | z
        · subst z; exact k2
        · exact e4 y z
      · have z := rd1_put r (nkOf (.tup qs)) ra b
        rw [k1] at z
        exact e6 _ _ z
theorem qe_dispN {keys : List (Option Expr)} {values : List Expr} {fs : List (PM Arg × PM Arg)} (hu : X.A.units + 64 < cLine) (h : QDN X W pos keys values fs) (hsh : (evalEachOpt keys X.env).zip ((evalEach values X.env).map fun v => do let x ← v; standAt pos; pure x) = (pairTrees keys values X.env pos).map fun p => (some p.1, p.2) := by rfl) (h0 : pairTrees keys values X.env pos ≠ [] := by intro z; cases z) (h15 : (pairTrees keys values X.env pos).length ≤ 15 := by exact Nat.le_of_ble_eq_true rfl) :
    QE X W (.Dict keys values pos) (eDispN fs) := qe_of (pe_dispN hu h.pps hsh h0 h15) fun σ H Q q => by
  obtain ⟨Z, s, R, q⟩ := lE_iff.mp q
  intro p hp
  obtain ⟨kvs, s', ek, hall, hl, q⟩ : ∃ kvs s', dispL2 fs s = .ok kvs s' ∧ kvs.all (fun e => kb e.1) = true ∧ kvs.length ≤ 15 ∧ ∀ v H', PostE (kx X) Z H σ s (.val (.dct 1 (kvs.foldl (fun acc e => dPut acc e.1 e.2) [])) true) s' v H' → Q v H' := by
    unfold eDispN at q
    cases e : dispL2 fs s with
    | ok kvs s' =>
      simp only [e] at q
      split at q
      · rename_i hc
        rw [Bool.and_eq_true, decide_eq_true_eq] at hc
        exact ⟨kvs, s', rfl, hc.1, hc.2, q⟩
      · exact q.elim
    | exc c s' => simp only [e] at q; exact q.elim
    | stuck => simp only [e] at q; exact q.elim
  have R1 : Rl (kx X) (fun b => Z b ∨ b = p) (upd H p (DNo X.prog X.w p [])) σ s := R.hold hp (ext_upd hp) (by rw [upd_same]; nofun)
  refine dispN_m fs s σ (upd H p (DNo X.prog X.w p [])) _ R1 (Mt.imp (mt_of ek) fun ps s2 ⟨e1, e2⟩ vs H' g rs => ?_)
  subst e1 e2
  have hpo : ∀ b, Owns σ s b → b ≠ p := fun b z e => by subst e; exact R.ownIn z hp
  have hk' : H' p = some (DNo X.prog X.w p []) := g.fr p _ upd_same fun z => (hpo p z rfl).elim
  obtain ⟨es, e1, e2, e3, e4, e5, e6⟩ := repP_es rs hall
  have hp' : ¬ Owns σ s2 p := fun z => (hpo p (g.ow p z)) rfl
  have R2 : Rl (kx X) (fun b => Z b ∨ b = p) (upd H' p (DNo X.prog X.w p (stAll [] es))) σ s2 := g.rl.zwrite (.inr rfl)
  have hv : Hd (fun b => Z b ∨ b = p) σ s2 (upd H' p (DNo X.prog X.w p (stAll [] es))) = Hd (fun b => Z b ∨ b = p) σ s2 H' := hd_z (.inr rfl)
  refine ⟨hk', es, e1, by omega, fun x hx => (e3 x hx).ext hid_sub, e4, q _ _ ?_⟩
  refine ⟨p, rfl, hp, ⟨R2, fun b o e n => ?_, g.ow, fun b h => ?_, g.kp⟩, ⟨_, ⟨_, upd_same, rfl⟩, ?_⟩, hp', fun z => R.zin p z hp⟩
  · by_cases eb : b = p
    · subst eb; rw [hp] at e; cases e
    · rw [upd_ne eb]
      exact g.fr b o (by rw [upd_ne eb]; exact e) n
  · by_cases eb : b = p
    · subst eb; rw [upd_same]; nofun
    · rw [upd_ne eb]
      exact g.tr b (by rw [upd_ne eb]; exact h)
  · rw [hv]
    exact e6 [] [] .nil
end
end HF
end

section
set_option Elab.async false
set_option linter.all false
set_option maxRecDepth 100000
set_option maxHeartbeats 1000000
set_option autoImplicit false
/-! HFK: sorted(d), d a dict of tuples. -/
namespace HF
open PySem PySem.Spec PyProof.Rows L2 PySem.W
def kD (x : NestedKey × Addr × V) : PyData := toD (pvK x.1)
mutual
theorem reads_none {h : Heap} : ∀ (k : NestedKey) (v : Value) (as : List Addr), Reads h v (toD (pvK k)) as → as = []
  | .none, _, _, r => by cases r; rfl
  | .num _, _, _, r => by cases r; rfl
  | .text _, _, _, r => by cases r; rfl
  | .tup ks, _, _, r => by
    cases r with
    | tuple h1 h2 h3 h4 => exact readsAll_none ks _ _ h4
theorem readsAll_none {h : Heap} : ∀ (ks : List NestedKey) (vs : List Value) (as : List Addr), ReadsAll h vs (toDs (pvKs ks)) as → as = []
  | [], _, _, r => by cases r; rfl
  | k :: ks, _, _, r => by
    cases r with
    | cons a b => rw [reads_none k _ _ a, readsAll_none ks _ _ b]; rfl
end
mutual
theorem dp_k {K : Frg} {H : Hp} : ∀ (k : NestedKey) (v : V), Rep K H v (pvK k) → Dp K.K H v (toD (pvK k))
  | .none, _, r => by cases r; exact .non
  | .num i, _, r => by cases r; exact .int i
  | .text x, _, r => by cases r; exact .str x
  | .tup ks, _, r => by
    cases r with
    | tup h1 h2 => exact .tup h1 (dp_ks ks _ h2)
theorem dp_ks {K : Frg} {H : Hp} : ∀ (ks : List NestedKey) (vs : List V), Reps K H vs (pvKs ks) → DpAll K.K H vs (toDs (pvKs ks))
  | [], _, r => by cases r; exact .nil
  | k :: ks, _, r => by
    cases r with
    | cons a b => exact .cons (dp_k k _ a) (dp_ks ks _ b)
end
mutual
theorem depth_k : ∀ k : NestedKey, (toD (pvK k)).depth ≤ k.depth
  | .none => Nat.le_refl _
  | .num _ => Nat.le_refl _
  | .text _ => Nat.le_refl _
  | .tup ks => by simp only [pvK, toD, PyData.depth, NestedKey.depth]; have := depth_ks ks; omega
theorem depth_ks : ∀ ks : List NestedKey, PyData.depthAll (toDs (pvKs ks)) ≤ NestedKey.depthAll ks
  | [] => Nat.le_refl _
  | k :: ks => by simp only [pvKs, toDs, PyData.depthAll, NestedKey.depthAll]; have := depth_k k; have := depth_ks ks; omega
end
theorem each_at {R : Value → (NestedKey × Addr × V) → Prop} : ∀ (vs : List Value) (xs : XN), vs.length = xs.length → (∀ (i : Nat) (v : Value) (x : NestedKey × Addr × V), vs[i]? = some v → xs[i]? = some x → R v x) → PySem.W.EachIs R vs xs
  | [], [], _, _ => .nil
  | [], _ :: _, e, _ => by cases e
  | _ :: _, [], e, _ => by cases e
  | v :: vs, x :: xs, e, h => .cons (h 0 v x rfl rfl) (each_at vs xs (Nat.succ.inj e) fun i w y h1 h2 => h (i + 1) w y (by simpa using h1) (by simpa using h2))
theorem each_refs : ∀ {vs : List Value} {xs : XN}, PySem.W.EachIs (fun v x => v = Value.ref x.2.1) vs xs → Vals (xs.map fun x => V.ref x.2.1) vs
  | _, _, .nil => .nil
  | _, _, .cons a t => .cons (by rw [a]; rfl) (each_refs t)
def rSortedN (X : Cx) : List V → Hp → VK → Prop := fun vs H Q => ∃ (a : Addr) (xs : XN), vs = [V.ref a] ∧ Rd H a (DNo X.prog X.w a xs) ∧ (∀ x ∈ xs, Rep (kx X) H (.ref x.2.1) (pvK x.1)) ∧ (∀ x ∈ xs, x.1.depth ≤ 8) ∧
  PySem.W.AllAlike (xs.map kD) ∧ PySem.W.Sortable (xs.map kD) ∧ ∀ p, H p = none → Q (.ref p) (upd H p (.lst ((xs.mergeSort (PySem.W.dataLe false kD)).map fun x => V.ref x.2.1)))
section
variable {X : Cx}
theorem cr_sortedN (hc : X.calm = true) (hu : X.A.units + 64 < cLine) : CallR X (.builtin "sorted") (rSortedN X) := by
  intro pins s σ H vs us Q I r ⟨a, xs, ev, hd, hk, h8, hal, hso, q⟩
  subst ev
  rw [Vals.ref1 r]
  obtain ⟨hl, lo, ys, kn, D⟩ := dn_of I hd hk h8
  obtain ⟨es, ep, raw, hsz, hat⟩ := D.raw
  have hlen : es.size = xs.length := by rw [hsz, kn_len kn]
  refine Calls.call_function_entry PyProof.Rows.kind_sorted PyProof.Rows.plain_sorted PyProof.Rows.entry_sorted (PyProof.Rows.args_sorted1 _) ?_
  unfold Builtin.«sorted»
  refine wpAny_bind (m := checkCount "sorted" 1 1 _) (wpAny_pure ?_)
  refine wpAny_bind (PySem.W.kdu_collect (A := X.A.in1) (KdlSrc.rawDict (es := es) (ep := ep) lo) (I.ok.hd hc) raw (by omega) fun h' tk acc hk' hacc => ?_)
  have hal' : acc.toList.length = xs.length := by rw [Array.length_toList, hacc.1, hlen]
  have I1 : Inv X pins σ H { s with heap := h', toks := tk } := I.kept hk'
  have eR : PySem.W.EachIs (fun v x => v = Value.ref x.2.1) acc.toList xs := each_at _ _ hal' fun i v x h1 h2 => by
    obtain ⟨hi, ev⟩ := hacc.2 i v (by rw [← Array.getElem?_toList]; exact h1)
    obtain ⟨y, hy, ek, _, _⟩ := hat i hi
    have hxy : x.2.1 = y.2.1 := by
      have z : ∀ {xs : XN} {ys : List (NestedKey × Addr × Value)}, KN xs ys → ∀ (i : Nat) x y, xs[i]? = some x → ys[i]? = some y → x.2.1 = y.2.1 := by
        intro xs ys kn
        induction kn with
        | nil => intro i x y h; simp at h
        | cons a _ ih =>
          intro i x y h1 h2
          cases i with
          | zero => simp at h1 h2; subst h1 h2; exact a.2.1
          | succ i => exact ih i x y (by simpa using h1) (by simpa using h2)
      exact z kn i x y h2 hy
    rw [ev, ek, hxy]
  refine wpAny_bind (wpAny_newList ?_ (by rw [hal']; exact hl))
  have hoL : (h'.push (seqObj "list" acc.toList.toArray 0)).get? h'.objs.size = some (seqObj "list" acc.toList.toArray 0) := Heap.get?_push_size _ rfl
  have I2 : Inv X pins σ H { s with heap := h'.push (seqObj "list" acc.toList.toArray 0), toks := tk } := I1.kept (t' := tk) fun b o e => Heap.get?_push_of_some _ e
  have er : PySem.W.EachIs (fun v b => ∃ as, Reads (h'.push (seqObj "list" acc.toList.toArray 0)) v (kD b) as ∧ h'.objs.size ∉ as) acc.toList xs := each_at _ _ hal' fun i v x h1 h2 => by
    have ev : v = Value.ref x.2.1 := by
      have z : ∀ {vs : List Value} {xs : XN}, PySem.W.EachIs (fun v x => v = Value.ref x.2.1) vs xs → ∀ (i : Nat) v x, vs[i]? = some v → xs[i]? = some x → v = Value.ref x.2.1 := by
        intro vs xs e
        induction e with
        | nil => intro i v x h; simp at h
        | cons a _ ih =>
          intro i v x h1 h2
          cases i with
          | zero => simp at h1 h2; subst h1 h2; exact a
          | succ i => exact ih i v x (by simpa using h1) (by simpa using h2)
      exact z eR i v x h1 h2
    subst ev
    obtain ⟨as, ra⟩ := Dp.reads I2 (kD x) (.ref x.2.1) _ (dp_k x.1 _ (hk x (List.mem_of_getElem? h2))) rfl
    exact ⟨as, ra, by rw [reads_none _ _ _ ra]; simp⟩
  refine wpAny_bind (wpAny_holding (PySem.W.list_sort_data (s := { s with heap := h'.push (seqObj "list" acc.toList.toArray 0), toks := tk }) hoL eR er hal hso hl (fun b hb => ?_) fun out ho eo => ?_))
  · have h1 := depth_k b.1
    have h2 := h8 b hb
    show (X.A.in1).units + 1 + (toD (pvK b.1)).depth < cLine
    simp only [Around.in1_units]
    omega
  · obtain ⟨e', he'⟩ := PyProof.Rows.sortedHeap_at (vs := acc.toList) (out := List.toArray out) hoL
    refine wpAny_pure ⟨_, rfl, .ref h'.objs.size, upd H h'.objs.size (.lst ((xs.mergeSort (PySem.W.dataLe false kD)).map fun x => V.ref x.2.1)), I1.laid (t' := tk) (fun b u e => ?_) (Nat.le_refl _)
      (show ObjOk X.prog X.w _ _ _ (.lst _) from ⟨by rw [List.length_map, List.length_mergeSort]; exact hl, out, e', each_refs eo, he'⟩), rfl, q _ (I1.hok.fresh (Nat.le_refl _))⟩
    have hb : b < h'.objs.size := Heap.lt_size e
    rw [PyProof.Rows.sortedHeap_old (Nat.ne_of_lt hb) (by rw [size_push']; exact Nat.lt_succ_of_lt hb)]
    exact Heap.get?_push_of_some _ e
end

def neTup : PyData → Bool
  | .tuple (_ :: _) => true
  | _ => false
def opSrt : OpN
  | [.dct 1 kvs] => if kvs.all (fun e => kb e.1) && kvs.all (fun e => kvs.all fun f => alike (toD e.1) (toD f.1)) && kvs.all (fun e => neTup (toD e.1)) then some (.lst ((kvs.map (·.1)).mergeSort (PySem.W.dataLe false toD)), true) else none
  | ps => opSorted ps
theorem repD_keys {K : Frg} {Hv : Hp} {xs : XN} {kvs : List (PV × PV)} (r : RepD K Hv (lN xs) kvs) : kvs.map (·.1) = xs.map fun x => pvK x.1 := by
  induction xs generalizing kvs with
  | nil => cases r; rfl
  | cons x xs ih =>
    cases r with
    | cons a b c => rw [List.map_cons, List.map_cons, ih c]
theorem reps_refs {K : Frg} {Hv : Hp} : ∀ (xs : XN), (∀ x ∈ xs, Rep K Hv (.ref x.2.1) (pvK x.1)) → Reps K Hv (xs.map fun x => V.ref x.2.1) (xs.map fun x => pvK x.1)
  | [], _ => .nil
  | x :: xs, h => .cons (h x List.mem_cons_self) (reps_refs xs fun y hy => h y (List.mem_cons_of_mem _ hy))
section
variable {X : Cx}
theorem callr_srt (hc : X.calm = true) (hu : X.A.units + 64 < cLine) : CallR X (.builtin "sorted") (rOfN (kx X) opSrt) := callr_of fun ps q fr h => by
  by_cases z : ∃ kvs, ps = [.dct 1 kvs]
  · obtain ⟨kvs, rfl⟩ := z
    simp only [opSrt] at h
    split at h
    · rename_i hcnd
      rw [Bool.and_eq_true, Bool.and_eq_true] at hcnd
      obtain ⟨⟨c1, c2⟩, c3⟩ := hcnd
      cases h
      refine ⟨_, cr_sortedN hc hu, fun H Hv xs Q e r k => ?_⟩
      obtain ⟨x, rfl, r1⟩ := rbs_1 r
      obtain ⟨a, l, rfl, ⟨ys, h1, rfl⟩, rd⟩ := rb_dct e r1
      have hk := rd1_keys rd
      have ek := repD_keys rd
      have mem : ∀ d ∈ ys.map kD, ∃ f ∈ kvs, d = toD f.1 := fun d hd => by
        obtain ⟨y, hy, rfl⟩ := List.mem_map.mp hd
        have : pvK y.1 ∈ kvs.map (·.1) := by rw [ek]; exact List.mem_map.mpr ⟨y, hy, rfl⟩
        obtain ⟨f, hf, ef⟩ := List.mem_map.mp this
        exact ⟨f, hf, by rw [ef]; rfl⟩
      refine ⟨a, ys, rfl, h1, fun x hx => (hk x hx).ext e, rd1_depth rd c1, fun d hd d' hd' => ?_, .inl fun d hd => ?_, fun p hp => ?_⟩
      · obtain ⟨f, hf, rfl⟩ := mem d hd
        obtain ⟨f', hf', rfl⟩ := mem d' hd'
        exact List.all_eq_true.mp (List.all_eq_true.mp c2 f hf) f' hf'
      · obtain ⟨f, hf, rfl⟩ := mem d hd
        have := List.all_eq_true.mp c3 f hf
        match toD f.1, this with
        | .tuple (x :: r), _ => exact ⟨x, r, rfl⟩
      · have em : (kvs.map (·.1)).mergeSort (PySem.W.dataLe false toD) = (ys.mergeSort (PySem.W.dataLe false kD)).map fun x => pvK x.1 := by
          rw [ek]
          exact (List.map_mergeSort (r := PySem.W.dataLe false kD) (s := PySem.W.dataLe false toD) (f := fun x : NestedKey × Addr × V => pvK x.1) (fun a _ b _ => rfl)).symm
        rw [em] at k
        exact k _ _ (post1_lst e hp (reps_refs _ fun x hx => hk x (List.mem_mergeSort.mp hx)))
    · cases h
  · have h : opSorted ps = some (q, fr) := by
      unfold opSrt at h
      split at h
      · exact (z ⟨_, rfl⟩).elim
      · exact h
    match ps, h with
    | [.lst ps], h =>
      simp only [opSorted] at h
      obtain ⟨ns, h1, h2⟩ := Option.map_eq_some_iff.mp h
      cases h2
      rw [intsOf_some h1]
      refine ⟨_, cr_sortedI, fun H Hv xs Q e r k => ?_⟩
      obtain ⟨x, rfl, r1⟩ := rbs_1 r
      obtain ⟨a, vs, rfl, h1, q1⟩ := rb_lst e r1
      rw [reps_intE q1] at h1
      refine ⟨a, ns, rfl, .inl (.of h1), fun ns' p hp hs hn => ?_⟩
      have : ns' = ns.mergeSort leb := by
        refine sorted_uniq (hp.trans (List.mergeSort_perm ns leb).symm) hs ?_
        have := List.pairwise_mergeSort (le := leb) (fun a b c x y => by unfold leb at *; simp at *; omega) (fun a b => by unfold leb; simp; omega) ns
        exact this.imp fun z => of_decide_eq_true z
      rw [this]
      exact k _ _ (post1_lst e hn (reps_of_ints _))
end
end HF
end

section
set_option Elab.async false
set_option linter.all false
set_option maxRecDepth 100000
set_option maxHeartbeats 1000000
set_option autoImplicit false
/-! HFR: the rules as a printer takes them. -/
namespace HF
open PySem PySem.Spec PyProof.Rows L2
/-- a def that is there -/
def HasFn (P : Program) (w : World) (K : PySem.W.Frag) (mg : Str → Option Value) (base : Heap) (k : Nat) (x : Str) (ps : List Str) (n : Nat) (F : PM Fl) : Prop :=
  ∃ (a : Addr) (fd : FuncData), FnOk P w K mg base (L2.CX P w) k a fd ps (spP ⟨K, P, w⟩ mg ps.length (denOf n F)) ∧ mg x = some (.ref a) ∧ PySem.W.keepIn K (.ref a) = true ∧ Binds K fd ps []
/-- .. that changes its first argument -/
def HasFnM (P : Program) (w : World) (K : PySem.W.Frag) (mg : Str → Option Value) (base : Heap) (k : Nat) (x : Str) (ps : List Str) (n : Nat) (F : PM Fl) : Prop :=
  ∃ (a : Addr) (fd : FuncData), FnOk P w K mg base (L2.CX P w) k a fd ps (spM ⟨K, P, w⟩ ps.length (denIO n F)) ∧ mg x = some (.ref a) ∧ PySem.W.keepIn K (.ref a) = true ∧ Binds K fd ps []
/-- an own exception class -/
def ExcOk (K : PySem.W.Frag) (mg : Str → Option Value) (x : Str) : Prop := ∃ C, mg x = some (.ref C) ∧ PySem.W.excIn K C [.type "ValueError", .type "Exception", .type "BaseException", .type "object"] "ValueError.__new__" = true ∧ PySem.W.keepIn K (.ref C) = true ∧
  PySem.W.subIn K (.ref C) (.type "BaseException") = some true ∧ PySem.W.typeIn K (.ref C) = some (.type "type")
section
variable {X : Cx} {W : WX} {pin : List Nat} {e : Expr} {es : List Expr} {fs : PM (List Arg)} {f : PM Arg} {p pos p2 pos2 : Pos} {x : Str}
theorem e_fn {k n : Nat} {ps : List Str} {F : PM Fl} (h : HasFn X.prog X.w X.K X.mg X.base k x ps n F) (hr : Room k X.A) (hg : Gl X x) (tk : Takes X W) (ha : QA X W (e :: es) fs) (hn : (e :: es).length = ps.length) (hdb : (x == ("__debug__" : Str)) = false := by decide)
    (he : starEach (e :: es) X.env = (false, eval e X.env) :: starEach es X.env := by rfl) (hpl : (backTo pos (starEach es X.env)).any (·.1) = false := by rfl) : QE X W (.Call (.Name x p) (e :: es) [] pos) (eCall (denOf n F) fs) := by
  obtain ⟨a, fd, F', hm, hk, hb⟩ := h
  exact qe_fn (C := 0) F' hr hg hm hk hb tk ha hn hdb he hpl
theorem e_fnM {k n : Nat} {ps : List Str} {F : PM Fl} (h : HasFnM X.prog X.w X.K X.mg X.base k x ps n F) (hr : Room k X.A) (hg : Gl X x) (tk : Takes X W) (ha : QA X W (e :: es) fs) (hn : (e :: es).length = ps.length) (hdb : (x == ("__debug__" : Str)) = false := by decide)
    (he : starEach (e :: es) X.env = (false, eval e X.env) :: starEach es X.env := by rfl) (hpl : (backTo pos (starEach es X.env)).any (·.1) = false := by rfl) : QE X W (.Call (.Name x p) (e :: es) [] pos) (eCallM (denIO n F) fs) := by
  obtain ⟨a, fd, F', hm, hk, hb⟩ := h
  exact qe_fnM (C := 0) F' hr hg hm hk hb tk ha hn hdb he hpl
theorem s_raise {m : Str} {j : Nat} (h : ExcOk X.K X.mg x) (hc : X.calm = true) (tk : Takes X W) (hg : Gl X x) (hdb : (x == ("__debug__" : Str)) = false := by decide) : QS X W pin (.Raise (some (.Call (.Name x p) [.Constant (.str m) j p2] [] pos)) none pos2) (sRaise x) := by
  obtain ⟨C, hm, hq, hk, h1, h2⟩ := h
  exact qs_raise hc tk PySem.F.excBase_ValueError hq hm hk (raises_own h1 h2) hg hdb
theorem hp_own {n i : Nat} {own : List Nat} (h : i ∈ own) : i ∉ others n own := fun z => (others_mem.mp z).2 h
theorem glob_int {i : Int} (hg : Gl X x) (hm : ∃ u, X.mg x = some (.int i u)) (hd : (x == ("__debug__" : Str)) = false := by decide) : QE X W (.Name x pos) (eC (.int i)) := by
  obtain ⟨u, hm⟩ := hm
  exact qe_glob hg hm (v := .int i) ⟨u, rfl⟩ (fun _ => .int i) hd
end
theorem gl_of {X : Cx} {x : Str} (h : X.env.kindOf x = some .globalImplicit) : Gl X x := h
theorem room_un {k : Nat} {A : Around} (r : Room k A) : A.units + 65 < cLine := by have := r.un; omega

/-! ### the law's def -/
/-- what the law's def promises: at a list of ints, with an empty table -/
def spL (K : PySem.W.Frag) (P : Addr) (n : Nat) (F : PM Fl) : Sp := fun vs H Q _ => ∃ (a : Addr) (ns : List Int), vs = [V.ref a] ∧ SqL K H a (ns.map V.int) ∧ H P = some (.tbl #[]) ∧ (∃ s', F (st0 n [.scr ns]) = .ok (.ret (.val (.bl true) false)) s') ∧ ∀ H', Q (.bl true) H'
theorem fn_law {P : Program} {w : World} {K : PySem.W.Frag} {mg : Str → Option Value} {base : Heap} {x qual a0 : Str} {params : Arguments} {body : List Stmt} {scope : Scope} {kws : List (Str × V)} {f c Pt : Addr} {fd : FuncData} {N : List Str} {k : Nat} {F : PM Fl} {q : Str} (hq : ∀ (L : Addr) (cd : Value), (envOfC qual scope L f cd).qual ++ "<lambda>" = q)
    (Fd : FunD K x qual params body scope [] kws f fd) (hc : ∀ (oc : Value) (od : Option Addr) (osl : Array (Option Value)), K.lookup f = some ⟨oc, od, .func fd, osl⟩ → fd.code = .ref c) (S : FnScope N [a0] scope)
    (hbody : ∀ (A : Around) (outer : List Env) (s : Shared) (H : Hp) (E : XK), Room k (A.deeper (envOfC qual scope s.heap.objs.size f (.ref c))) →
      LSs (cxOf (L2.CX P w) P w K mg base N qual scope f (.ref c) A outer s H E) [(Pt, q)] body F) : FnOk P w K mg base (L2.CX P w) (k + 1) f fd [a0] (spL K Pt N.length F) := by
  obtain ⟨oc, od, dV, kV, doc, pm, an, cdv, ct, osl, rfl, lk, hcd, _, _⟩ := Fd.ex
  have ec : cdv = .ref c := hc _ _ _ lk
  subst ec
  refine fn_of lk hcd S (fun vs H Q E h => ?_) fun A outer s H vs Q E hr h => ⟨_, (hbody A outer s H E hr).pss, ?_⟩
  · obtain ⟨a, ns, rfl, _⟩ := h; rfl
  · obtain ⟨a, ns, rfl, hs, hP, ⟨s', hF⟩, hQ⟩ := h
    have R := rl_start (K := ⟨K, P, w⟩) (Z := fun _ => False) (H := H) (N := N) rfl (fun _ z => z.elim) (vs := [.ref a]) (ps := [.scr ns]) (.cons (.scr (by
      have e : hid (fun _ => False) H = H := by funext b; simp [hid]
      rw [e]; exact hs)) .nil)
    refine ⟨_, _, R, ⟨fun p hp => ?_, fun _ z => z⟩, ?_⟩
    · rw [List.mem_singleton.mp hp]
      exact LamX.TabS.nil hP
    · rw [hF]
      intro v σ' H' _ rv
      rw [rv true rfl]
      exact hQ H'

/-- what the law's helper takes as a refusal -/
def RefF (K : PySem.W.Frag) (mg : Str → Option Value) (e : Str) (xs : List Str) : Prop := ∃ CS, mg e = some (.ref CS) ∧ ∀ n ∈ xs, ∀ C, mg n = some (.ref C) → PySem.W.exmOne K (.ref C) (.ref CS) = some true
section
variable {X : Cx}
theorem lb_ref {T : List (Addr × Str)} {xs : List Str} {fE : PM Arg} {x a e q : Str} {g c P : Addr} {k : Nat} {pg : Arguments} {j j2 : Nat} {p1 p2 p3 p4 p5 p6 p7 p8 p9 p10 : Pos} {sg : Scope} {fd : FuncData} {Ng : List Str}
    {params : Arguments} {body : Expr} {scope : Scope} {p lpos pos : Pos} (h : RefF X.K X.mg e xs)
    (Fd : FunD X.K x x pg [.Try [.Expr (.Call (.Name a p1) [] [] p2) p3] [.ExceptHandler (some (.Name e p4)) none [.Return (some (.Constant (.bool true) j p5)) p6] p7] [] [] p8, .Return (some (.Constant (.bool false) j2 p9)) p10] sg [] [] g fd)
    (hm : X.mg x = some (.ref g)) (hg : Gl X x) (Sg : FnScope Ng [a] sg) (hNg : Ng[0]? = some a) (hva : Vis sg a) (hge : sg.names.lookup e = some .globalImplicit) (hde : (e == ("__debug__" : Str)) = false)
    (h0 : ∀ f : Addr, (L2.start Ng [V.ref f])[0]? = some (some (V.ref f))) (hbd : ∀ (kV doc pm : Value) (an : Option Addr) (cdv ct : Value) (us : List Value), us.length = 1 → bindArgs (PySem.W.fnOf x x pg [.Try [.Expr (.Call (.Name a p1) [] [] p2) p3] [.ExceptHandler (some (.Name e p4)) none [.Return (some (.Constant (.bool true) j p5)) p6] p7] [] [] p8, .Return (some (.Constant (.bool false) j2 p9)) p10] sg .none kV doc pm an cdv ct) ⟨us, []⟩ = pure ([a].zip us))
    (TB : LamX.TabB X.base X.mg c P) (hcode : X.env.code = .ref c) (hq : X.env.qual ++ "<lambda>" = q) (hT : T = [(P, q)]) (hr : Room (k + 2) X.A) (L : LamX.LamS X.env.scope scope) (hdef : defaultsOf params X.env = ([], []))
    (hbind : ∀ (q : Str) (cl : List (Str × Addr)) (pm cv ctv : Value), bindArgs (PySem.W.kla_fn "<lambda>" q params body scope cl pm cv ctv) ⟨[], []⟩ = pure [])
    (hbody : ∀ (A : Around) (outer : List Env) (s : Shared) (H : Hp) (E : XK) (f c' : Addr), Room k (A.deeper (LamX.lamEnv X scope s.heap.objs.size f c')) → QE (LamX.lamCx X A outer s H E scope f c') (WE0 E) body fE)
    (hdb : (x == ("__debug__" : Str)) = false := by decide) (hd : (a == ("__debug__" : Str)) = false := by decide) (hcd : (a == ("__classdict__" : Str)) = false := by decide) :
    LB X T (.Call (.Name x p) [.Lambda params body scope lpos] [] pos) (tRef (fun n => decide (n ∈ xs)) fE) := by
  obtain ⟨CS, hme, hx⟩ := h
  have B : L2.Binds X.K fd [a] [] := Fd.bindsN fun kV doc pm an cdv ct us hl => hbd kV doc pm an cdv ct us hl
  have kp := Fd.kp
  obtain ⟨oc, od, dV, kV, doc, pm, an, cdv, ct, osl, rfl, lk, hcd', _, _⟩ := Fd.ex
  subst hT hq
  exact lb_lam hg hm kp lk hcd' B Sg hNg hva hge hme hde h0 TB hcode (List.mem_singleton.mpr rfl) (fun p hp _ => by rw [List.mem_singleton.mp hp]) hr L hdef hbind (fun n C hn hC => hx n (of_decide_eq_true hn) C hC) hbody hdb hd hcd
end
end HF
end

section
set_option Elab.async false
set_option linter.all false
set_option maxRecDepth 100000
set_option maxHeartbeats 1000000
set_option autoImplicit false
/-! HM: running the ways. -/
namespace HF
open PySem PySem.Spec PyProof.Rows L2
section
variable {α β : Type} {s s' : SE}
theorem bnd_ok {f : PM α} {g : α → PM β} {a : α} (h : f s = .ok a s') : bnd f g s = g a s' := by unfold bnd; rw [h]
theorem bnd_exc {f : PM α} {g : α → PM β} {c : Str} (h : f s = .exc c s') : bnd f g s = .exc c s' := by unfold bnd; rw [h]
theorem bnd_eq (f : PM α) (g : α → PM β) (s : SE) : bnd f g s = match f s with
  | .ok a s' => g a s'
  | .exc c s' => .exc c s'
  | .stuck => .stuck := rfl
theorem ret_eq (a : α) (s : SE) : ret a s = .ok a s := rfl
end
theorem unw_wipe (s : SE) (us : List Nat) : unw s (wipeS s us) us = s := by
  refine List.ext_getElem? fun i => ?_
  by_cases hl : i < s.length
  · by_cases hi : i ∈ us
    · rw [unw_in hi (by rw [wipeS_len]; exact hl) hl]
    · rw [unw_out hi, wipeS_out hi]
  · rw [List.getElem?_eq_none (by rw [unw_len, wipeS_len]; omega), List.getElem?_eq_none (by omega)]
/-- a comprehension that changes nothing -/
theorem compL_pure {us : List Nat} {G : PV → PM Unit} {T : PM Bool} {E : PM Arg} {f : PV → PV} {c : PV → Bool} {s : SE} : ∀ {ps : List PV},
    (∀ p ∈ ps, ∃ s1, G p s = .ok () s1 ∧ ∃ s2, T s1 = .ok (c p) s2 ∧ (c p = true → ∃ fr s3, E s2 = .ok (.val (f p) fr) s3 ∧ wipeS s3 us = s) ∧ (c p = false → wipeS s2 us = s)) →
    compL us G T E ps s = .ok ((ps.filter c).map f) s
  | [], _ => rfl
  | p :: ps, h => by
    obtain ⟨s1, h1, s2, h2, h3, h4⟩ := h p List.mem_cons_self
    have ih := compL_pure (us := us) (G := G) (T := T) (E := E) (ps := ps) fun q hq => h q (List.mem_cons_of_mem _ hq)
    unfold compL
    rw [bnd_ok (show nx (G p) s = .ok () s1 by unfold nx; rw [h1]), bnd_ok h2]
    cases hc : c p with
    | true =>
      obtain ⟨fr, s3, h5, h6⟩ := h3 hc
      rw [if_pos rfl, bnd_ok h5, bnd_ok (show rel1 (Arg.val (f p) fr) s3 = .ok (f p) s3 from rfl), bnd_ok (show wp us s3 = .ok () s by unfold wp; rw [h6]), bnd_ok ih, List.filter_cons, if_pos hc]
      rfl
    | false =>
      rw [if_neg (by simp), bnd_ok (show wp us s2 = .ok () s by unfold wp; rw [h4 hc]), ih, List.filter_cons, if_neg (by simp [hc])]
theorem eComp_pure {own : List Nat} {I : PM (List PV × List Nat)} {G : PV → PM Unit} {T : PM Bool} {E : PM Arg} {ps : List PV} {s s0 : SE} (f : PV → PV) (c : PV → Bool) (hI : I s = .ok (ps, []) s0) (hl : ps.length ≤ sizeLine)
    (h : ∀ p ∈ ps, ∃ s1, G p (wipeS s0 own) = .ok () s1 ∧ ∃ s2, T s1 = .ok (c p) s2 ∧ (c p = true → ∃ fr s3, E s2 = .ok (.val (f p) fr) s3 ∧ wipeS s3 own = wipeS s0 own) ∧ (c p = false → wipeS s2 own = wipeS s0 own)) :
    eComp own I G T E s = .ok (.val (.lst ((ps.filter c).map f)) true) s0 := by
  unfold eComp
  rw [bnd_ok hI]
  simp only [List.nil_append]
  rw [if_pos hl, compL_pure h]
  simp only
  rw [unw_wipe]
/-- .. without tests -/
theorem eComp_map {own : List Nat} {I : PM (List PV × List Nat)} {G : PV → PM Unit} {E : PM Arg} {ps : List PV} {s s0 : SE} (f : PV → PV) (hI : I s = .ok (ps, []) s0) (hl : ps.length ≤ sizeLine)
    (h : ∀ p ∈ ps, ∃ s1, G p (wipeS s0 own) = .ok () s1 ∧ ∃ fr s3, E s1 = .ok (.val (f p) fr) s3 ∧ wipeS s3 own = wipeS s0 own) :
    eComp own I G (ret true) E s = .ok (.val (.lst (ps.map f)) true) s0 := by
  have := eComp_pure (T := ret true) f (fun _ => true) hI hl fun p hp => by
    obtain ⟨s1, h1, h2⟩ := h p hp
    exact ⟨s1, h1, s1, rfl, fun _ => h2, fun z => by cases z⟩
  rw [this, List.filter_eq_self.mpr fun _ _ => rfl]

/-! ### an expression's worth where nothing changes -/
/-- f gives p (fr: new) and changes nothing -/
def Ev (f : PM Arg) (s : SE) (p : PV) (fr : Bool) : Prop := f s = .ok (.val p fr) s
/-- the arguments ps -/
def EvA (fs : PM (List Arg)) (s : SE) (ps : List PV) : Prop := ∃ as, fs s = .ok as s ∧ rvs s as = some ps ∧ relAll as s = .ok ps s ∧ noBor as = true
/-- f gives something that stands for p, and changes nothing -/
def Rdv (f : PM Arg) (s : SE) (p : PV) : Prop := ∃ a, f s = .ok a s ∧ rv s a = some p
def RdA (fs : PM (List Arg)) (s : SE) (ps : List PV) : Prop := ∃ as, fs s = .ok as s ∧ rvs s as = some ps
def EvT (f : PM Bool) (s : SE) (b : Bool) : Prop := f s = .ok b s
section
variable {s : SE} {f g h : PM Arg} {fs : PM (List Arg)} {p q r : PV} {ps : List PV} {fr fr2 fr3 b : Bool} {i : Nat}
theorem ev_var (h : s[i]? = some (some (false, p))) : Ev (eVar i) s p false := by unfold Ev eVar; simp only [h]
theorem Ev.rd (h : Ev f s p fr) : Rdv f s p := ⟨_, h, rfl⟩
theorem rd_var (h : s[i]? = some (some (b, p))) : Rdv (eVar i) s p := by
  cases b with
  | false => exact (ev_var h).rd
  | true => exact ⟨.bor i, by unfold eVar; simp only [h], by simp only [rv, h]⟩
theorem EvA.rd (h : EvA fs s ps) : RdA fs s ps := let ⟨as, h1, h2, _⟩ := h; ⟨as, h1, h2⟩
theorem rda_nil : RdA aNil s [] := ⟨[], rfl, rfl⟩
theorem rv_wait {a : Arg} : rv s (wait a) = rv s a := by cases a <;> rfl
theorem rda_cons (hf : Rdv f s p) (ha : RdA fs s ps) : RdA (aCons f fs) s (p :: ps) := by
  obtain ⟨a, h1, h2⟩ := hf
  obtain ⟨as, h3, h4⟩ := ha
  refine ⟨wait a :: as, ?_, ?_⟩
  · unfold aCons
    rw [bnd_ok h1, bnd_ok h3]
    rfl
  · simp only [rvs, rv_wait, h2, h4]
theorem ev_c : Ev (eC p) s p false := rfl
theorem ev_op2 {o : Op2} (hf : Rdv f s p) (hg : Rdv g s q) (ho : o p q = some (r, fr3)) : Ev (eOp2 o f g) s r fr3 := by
  obtain ⟨a, h1, h2⟩ := hf
  obtain ⟨b, h3, h4⟩ := hg
  unfold Ev eOp2
  rw [bnd_ok h1, bnd_ok h3]
  simp only [opt2, h2, h4, ho, fin, ret]
theorem ev_op1 {o : Op1} (hf : Rdv f s p) (ho : o p = some (r, fr3)) : Ev (eOp1 o f) s r fr3 := by
  obtain ⟨a, h1, h2⟩ := hf
  unfold Ev eOp1
  rw [bnd_ok h1]
  simp only [opt1, h2, ho, fin, ret]
theorem eva_nil : EvA aNil s [] := ⟨[], rfl, rfl, rfl, rfl⟩
theorem eva_cons (hf : Ev f s p fr) (ha : EvA fs s ps) : EvA (aCons f fs) s (p :: ps) := by
  obtain ⟨as, h1, h2, h3, h4⟩ := ha
  refine ⟨.val p false :: as, ?_, ?_, ?_, h4⟩
  · unfold aCons
    rw [bnd_ok hf, bnd_ok h1]
    rfl
  · simp only [rvs, rv, h2]
  · show bnd (rel1 (.val p false)) _ s = _
    rw [bnd_ok (show rel1 (.val p false) s = .ok p s from rfl), bnd_ok h3]
    rfl
/-- an owned slot as an argument of a built-in -/
theorem ev_opN {o : OpN} (ha : RdA fs s ps) (ho : o ps = some (r, fr3)) : Ev (eOpN o fs) s r fr3 := by
  obtain ⟨as, h1, h2⟩ := ha
  unfold Ev eOpN
  rw [bnd_ok h1]
  simp only [optN, h2, ho, fin, ret]
theorem ev_tup (ha : EvA fs s ps) (hl : ps.length ≤ sizeLine) : Ev (eTup fs) s (.tup ps) false := by
  obtain ⟨as, h1, _, h3, _⟩ := ha
  unfold Ev eTup
  rw [bnd_ok h1, bnd_ok h3]
  unfold mkTup
  rw [if_pos hl]
  rfl
theorem ev_lst (ha : EvA fs s ps) (hl : ps.length ≤ sizeLine) : Ev (eLst fs) s (.lst ps) true := by
  obtain ⟨as, h1, _, h3, _⟩ := ha
  unfold Ev eLst
  rw [bnd_ok h1, bnd_ok h3]
  unfold mkLst
  rw [if_pos hl]
  rfl
theorem evt_bool (hf : Ev f s (.bl b) fr) : EvT (tBool f) s b := by
  unfold EvT tBool
  rw [bnd_ok hf]
  rfl
theorem evt_tru (hf : Rdv f s p) (ht : truthP p = some b) : EvT (tTru f) s b := by
  obtain ⟨a, h1, h2⟩ := hf
  unfold EvT tTru
  rw [bnd_ok h1]
  simp only [truA, h2, ht]
theorem evt_not {t : PM Bool} (h : EvT t s b) : EvT (tNotP t) s (!b) := by
  unfold EvT tNotP
  rw [bnd_ok h]
  rfl
theorem evt_and {t u : PM Bool} {b2 : Bool} (h : EvT t s b) (h2 : b = true → EvT u s b2) : EvT (tAndP t u) s (b && b2) := by
  unfold EvT tAndP
  rw [bnd_ok h]
  cases b with
  | true => rw [if_pos rfl]; exact h2 rfl
  | false => rfl
theorem evt_or {t u : PM Bool} {b2 : Bool} (h : EvT t s b) (h2 : b = false → EvT u s b2) : EvT (tOrP t u) s (b || b2) := by
  unfold EvT tOrP
  rw [bnd_ok h]
  cases b with
  | true => rfl
  | false => rw [if_neg (by simp)]; exact h2 rfl
theorem ev_if {t : PM Bool} (h : EvT t s b) (h1 : b = true → Ev f s p fr) (h2 : b = false → Ev g s p fr) : Ev (eIf t f g) s p fr := by
  unfold Ev eIf
  rw [bnd_ok h]
  cases b with
  | true => rw [if_pos rfl]; exact h1 rfl
  | false => rw [if_neg (by simp)]; exact h2 rfl
theorem ev_not (hf : Rdv f s p) (ht : truthP p = some b) : Ev (eNot f) s (.bl (!b)) false := by
  unfold Ev eNot
  rw [bnd_ok (evt_tru hf ht)]
  rfl
theorem ev_chain {o o2 : Op2} {b2 : Bool} (hf : Ev f s p fr) (hg : Ev g s q fr2) (ho : o p q = some (.bl b, fr3)) (hh : b = true → ∃ fr4 fr5, Ev h s r fr4 ∧ o2 q r = some (.bl b2, fr5)) : ∃ fr6, Ev (eChain o o2 f g h) s (.bl (b && b2)) fr6 := by
  cases b with
  | true =>
    obtain ⟨fr4, fr5, h1, h2⟩ := hh rfl
    refine ⟨fr5, ?_⟩
    unfold Ev eChain
    rw [bnd_ok hf, bnd_ok hg]
    have e : opt2 o (.val p fr) (.val q fr2) s = .ok (.val (.bl true) fr3) s := by simp only [opt2, rv, ho, fin, ret]
    rw [bnd_ok e, bnd_ok (show asB (.val (.bl true) fr3) s = .ok true s from rfl), if_pos rfl, bnd_ok h1]
    simp only [opt2, wait, rv, h2, fin, ret, Bool.true_and]
  | false =>
    refine ⟨false, ?_⟩
    unfold Ev eChain
    rw [bnd_ok hf, bnd_ok hg]
    have e : opt2 o (.val p fr) (.val q fr2) s = .ok (.val (.bl false) fr3) s := by simp only [opt2, rv, ho, fin, ret]
    rw [bnd_ok e, bnd_ok (show asB (.val (.bl false) fr3) s = .ok false s from rfl)]
    rfl
/-- what is walked -/
theorem iv_of {ps : List PV} (hf : Ev f s p fr) (hp : (match p with
    | .lst ps => some ps
    | .tup ps => some ps
    | .scr ns => some (ns.map PV.int)
    | .rng lo hi => if rOk lo hi then some (rngL lo (hi - lo).toNat) else none
    | _ => none) = some ps) : iVal f s = .ok ps s := by
  unfold iVal
  rw [bnd_ok hf, bnd_ok (show rel1 (.val p fr) s = .ok p s from rfl)]
  cases p <;> simp only [reduceCtorEq, Option.some.injEq] at hp <;> first | (subst hp; rfl) | (split at hp; (cases hp; rename_i h; simp only [h, if_true]; rfl); cases hp)
theorem ev_comp {own : List Nat} {I : PM (List PV)} {G : PV → PM Unit} {E : PM Arg} (F : PV → PV) (hI : I s = .ok ps s) (hl : ps.length ≤ sizeLine)
    (h : ∀ p ∈ ps, ∃ s1, G p (wipeS s own) = .ok () s1 ∧ wipeS s1 own = wipeS s own ∧ ∃ fr, Ev E s1 (F p) fr) : Ev (eComp own (iOf I) G (ret true) E) s (.lst (ps.map F)) true := by
  refine eComp_map F (s0 := s) (by unfold iOf; rw [bnd_ok hI]; rfl) hl fun p hp => ?_
  obtain ⟨s1, h1, h2, fr, h3⟩ := h p hp
  exact ⟨s1, h1, fr, s1, h3, h2⟩
theorem ev_compF {own : List Nat} {I : PM (List PV)} {G : PV → PM Unit} {T : PM Bool} {E : PM Arg} (F : PV → PV) (c : PV → Bool) (hI : I s = .ok ps s) (hl : ps.length ≤ sizeLine)
    (h : ∀ p ∈ ps, ∃ s1, G p (wipeS s own) = .ok () s1 ∧ wipeS s1 own = wipeS s own ∧ EvT T s1 (c p) ∧ (c p = true → ∃ fr, Ev E s1 (F p) fr)) : Ev (eComp own (iOf I) G T E) s (.lst ((ps.filter c).map F)) true := by
  refine eComp_pure F c (s0 := s) (by unfold iOf; rw [bnd_ok hI]; rfl) hl fun p hp => ?_
  obtain ⟨s1, h1, h2, h3, h4⟩ := h p hp
  exact ⟨s1, h1, s1, h3, fun hc => let ⟨fr, h5⟩ := h4 hc; ⟨fr, s1, h5, h2⟩, fun _ => h2⟩
theorem ev_call {den : Den} {io : Option PV} (ha : EvA fs s ps) (hd : den ps = .ok r fr3 io) : Ev (eCall den fs) s r fr3 := by
  obtain ⟨as, h1, h2, _, h4⟩ := ha
  unfold Ev eCall
  rw [bnd_ok h1]
  simp only [callD, h2, hd, h4, Bool.true_or, if_true]
theorem exc_call {den : Den} {c : Str} (ha : RdA fs s ps) (hd : den ps = .exc c) : eCall den fs s = .exc c s := by
  obtain ⟨as, h1, h2⟩ := ha
  unfold eCall
  rw [bnd_ok h1]
  simp only [callD, h2, hd]
/-- statements -/
theorem s_set {n : Nat} (hf : Ev f s p fr) (hi : n < s.length) : sSet n f s = .ok .next (s.set n (some (fr, p))) := by
  unfold sSet
  rw [bnd_ok hf, bnd_ok (show setA n (.val p fr) s = .ok () (s.set n (some (fr, p))) by show setV n p fr s = _; unfold setV; rw [if_pos hi])]
  rfl
theorem s_seq {F G : PM Fl} {s1 : SE} (h : F s = .ok .next s1) : sSeq F G s = G s1 := by unfold sSeq; rw [h]
theorem s_seq_ret {F G : PM Fl} {s1 : SE} {a : Arg} (h : F s = .ok (.ret a) s1) : sSeq F G s = .ok (.ret a) s1 := by unfold sSeq; rw [h]
theorem s_seq_exc {F G : PM Fl} {s1 : SE} {c : Str} (h : F s = .exc c s1) : sSeq F G s = .exc c s1 := by unfold sSeq; rw [h]
theorem s_ret (hf : Ev f s p fr) : sRet f s = .ok (.ret (.val p fr)) s := by unfold sRet; rw [bnd_ok hf]; rfl
theorem s_if {t : PM Bool} {F G : PM Fl} (h : EvT t s b) : sIf t F G s = if b = true then F s else G s := by unfold sIf; rw [bnd_ok h]; cases b <;> rfl
theorem s_expr {a : Arg} {s1 : SE} (h : f s = .ok a s1) : sExpr f s = .ok .next s1 := by unfold sExpr; rw [bnd_ok h]; rfl
theorem den_ret {n : Nat} {F : PM Fl} {s1 : SE} (h : F (st0 n ps) = .ok (.ret (.val p fr)) s1) : denOf n F ps = .ok p fr none := by unfold denOf; rw [h]; rfl
theorem den_exc {n : Nat} {F : PM Fl} {s1 : SE} {c : Str} (h : F (st0 n ps) = .exc c s1) : denOf n F ps = .exc c := by unfold denOf; rw [h]
theorem den_next {n : Nat} {F : PM Fl} {s1 : SE} (h : F (st0 n ps) = .ok .next s1) : denOf n F ps = .ok .non false none := by unfold denOf; rw [h]
end
section
variable {s : SE} {α : Type} {fr : Bool} {p : PV} {i : Nat}
/-- over things that are encoded, one name -/
theorem ev_compX {I : PM (List PV)} {E : PM Arg} (xs : List α) (enc : α → PV) (F : α → PV) (hI : I s = .ok (xs.map enc) s) (hl : xs.length ≤ sizeLine) (hi : i < s.length) (h : ∀ x ∈ xs, ∃ fr, Ev E (s.set i (some (false, enc x))) (F x) fr) :
    Ev (eComp [i] (iOf I) (gNm i) (ret true) E) s (.lst (xs.map F)) true := by
  have key : ∀ (ys : List α), (∀ x ∈ ys, x ∈ xs) → compL [i] (gNm i) (ret true) E (ys.map enc) (s.set i none) = .ok (ys.map F) (s.set i none) := by
    intro ys
    induction ys with
    | nil => intro _; rfl
    | cons y ys ih =>
      intro hy
      obtain ⟨fr, h1⟩ := h y (hy y List.mem_cons_self)
      have e1 : nx (gNm i (enc y)) (s.set i none) = .ok () (s.set i (some (false, enc y))) := by
        unfold nx gNm setV
        simp only [List.length_set, hi, if_true, List.set_set]
      rw [List.map_cons]
      unfold compL
      rw [bnd_ok e1, bnd_ok (show ret true (s.set i (some (false, enc y))) = .ok true (s.set i (some (false, enc y))) from rfl), if_pos rfl, bnd_ok h1, bnd_ok (show rel1 (Arg.val (F y) fr) _ = .ok (F y) _ from rfl),
        bnd_ok (show wp [i] (s.set i (some (false, enc y))) = .ok () (s.set i none) by unfold wp wipeS wipeS; rw [List.set_set]), bnd_ok (ih fun x hx => hy x (List.mem_cons_of_mem _ hx))]
      rfl
  unfold Ev eComp
  rw [bnd_ok (show iOf I s = .ok (xs.map enc, []) s by unfold iOf; rw [bnd_ok hI]; rfl)]
  simp only [List.nil_append, List.length_map, hl, if_true]
  rw [show wipeS s [i] = s.set i none from rfl, key xs fun _ h => h]
  simp only
  rw [show s.set i none = wipeS s [i] from rfl, unw_wipe]
/-- .. with a test -/
theorem ev_compXF {I : PM (List PV)} {T : PM Bool} {E : PM Arg} (xs : List α) (enc : α → PV) (c : α → Bool) (F : α → PV) (hI : I s = .ok (xs.map enc) s) (hl : xs.length ≤ sizeLine) (hi : i < s.length) (hT : ∀ x ∈ xs, EvT T (s.set i (some (false, enc x))) (c x)) (h : ∀ x ∈ xs, c x = true → ∃ fr, Ev E (s.set i (some (false, enc x))) (F x) fr) :
    Ev (eComp [i] (iOf I) (gNm i) T E) s (.lst ((xs.filter c).map F)) true := by
  have key : ∀ (ys : List α), (∀ x ∈ ys, x ∈ xs) → compL [i] (gNm i) T E (ys.map enc) (s.set i none) = .ok ((ys.filter c).map F) (s.set i none) := by
    intro ys
    induction ys with
    | nil => intro _; rfl
    | cons y ys ih =>
      intro hy
      have ht := hT y (hy y List.mem_cons_self)
      have ih := ih fun x hx => hy x (List.mem_cons_of_mem _ hx)
      have e1 : nx (gNm i (enc y)) (s.set i none) = .ok () (s.set i (some (false, enc y))) := by
        unfold nx gNm setV
        simp only [List.length_set, hi, if_true, List.set_set]
      have e2 : wp [i] (s.set i (some (false, enc y))) = .ok () (s.set i none) := by unfold wp wipeS wipeS; rw [List.set_set]
      rw [List.map_cons]
      unfold compL
      rw [bnd_ok e1, bnd_ok ht]
      cases hc : c y with
      | true =>
        obtain ⟨fr, h1⟩ := h y (hy y List.mem_cons_self) hc
        rw [if_pos rfl, bnd_ok h1, bnd_ok (show rel1 (Arg.val (F y) fr) _ = .ok (F y) _ from rfl), bnd_ok e2, bnd_ok ih, List.filter_cons, if_pos hc]
        rfl
      | false => rw [if_neg (by simp), bnd_ok e2, ih, List.filter_cons, if_neg (by simp [hc])]
  unfold Ev eComp
  rw [bnd_ok (show iOf I s = .ok (xs.map enc, []) s by unfold iOf; rw [bnd_ok hI]; rfl)]
  simp only [List.nil_append, List.length_map, hl, if_true]
  rw [show wipeS s [i] = s.set i none from rfl, key xs fun _ h => h]
  simp only
  rw [show s.set i none = wipeS s [i] from rfl, unw_wipe]
def eI (k : Nat) : PV := .int (k : Int)
theorem iv_rng {f : PM Arg} {n : Nat} (hf : Ev f s (.rng 0 n) fr) (hn : n < 2 ^ 62) : iVal f s = .ok ((List.range n).map eI) s := by
  have e : rngL 0 ((n : Int) - 0).toNat = (List.range n).map eI := by
    unfold rngL eI
    simp
  refine iv_of hf ?_
  have h : rOk 0 (n : Int) = true := by unfold rOk; rw [decide_eq_true_eq]; omega
  simp only [h, if_true, e]
theorem iv_tup {f : PM Arg} {ps : List PV} (hf : Ev f s (.tup ps) fr) : iVal f s = .ok ps s := iv_of hf rfl
theorem iv_lst {f : PM Arg} {ps : List PV} (hf : Ev f s (.lst ps) fr) : iVal f s = .ok ps s := iv_of hf rfl
end
/-! ### loops -/
section
variable {α β : Type} {G : PV → PM Unit} {F : PM Fl} {enc : α → PV} {step : β → α → β} {P : β → SE → Prop}
theorem for_rel : ∀ (xs : List α) (b : β) (s : SE), (∀ b x s, x ∈ xs → P b s → ∃ s1, G (enc x) s = .ok () s1 ∧ ∃ s2, F s1 = .ok .next s2 ∧ P (step b x) s2) → P b s → ∃ s', forL G F (xs.map enc) s = .ok .next s' ∧ P (xs.foldl step b) s'
  | [], b, s, _, hP => ⟨s, rfl, hP⟩
  | x :: xs, b, s, h, hP => by
    obtain ⟨s1, h1, s2, h2, h3⟩ := h b x s List.mem_cons_self hP
    obtain ⟨s', h4, h5⟩ := for_rel xs (step b x) s2 (fun b y s hy => h b y s (List.mem_cons_of_mem _ hy)) h3
    refine ⟨s', ?_, h5⟩
    rw [List.map_cons]
    unfold forL
    rw [bnd_ok (show nx (G (enc x)) s = .ok () s1 by unfold nx; rw [h1])]
    simp only [h2, h4]
theorem for_relN {P : β → Nat → SE → Prop} : ∀ (xs : List α) (b : β) (n : Nat) (s : SE), (∀ b x n s, x ∈ xs → P b (n + 1) s → ∃ s1, G (enc x) s = .ok () s1 ∧ ∃ s2, F s1 = .ok .next s2 ∧ P (step b x) n s2) → P b (n + xs.length) s → ∃ s', forL G F (xs.map enc) s = .ok .next s' ∧ P (xs.foldl step b) n s'
  | [], b, n, s, _, hP => ⟨s, rfl, hP⟩
  | x :: xs, b, n, s, h, hP => by
    obtain ⟨s1, h1, s2, h2, h3⟩ := h b x (n + xs.length) s List.mem_cons_self (by rw [List.length_cons, ← Nat.add_assoc] at hP; exact hP)
    obtain ⟨s', h4, h5⟩ := for_relN xs (step b x) n s2 (fun b y n s hy => h b y n s (List.mem_cons_of_mem _ hy)) h3
    refine ⟨s', ?_, h5⟩
    rw [List.map_cons]
    unfold forL
    rw [bnd_ok (show nx (G (enc x)) s = .ok () s1 by unfold nx; rw [h1])]
    simp only [h2, h4]
theorem s_for {I : PM (List PV)} {ps : List PV} {s s1 : SE} (h : I s = .ok ps s1) : sFor I G F s = forL G F ps s1 := by unfold sFor; rw [bnd_ok h]
/-- the first that leaves by a return -/
theorem for_ret {r : α → Arg} {c : α → Bool} {P : SE → Prop} : ∀ (xs : List α) (s : SE), (∀ x s, x ∈ xs → P s → ∃ s1, G (enc x) s = .ok () s1 ∧ ∃ s2, F s1 = .ok (if c x then .ret (r x) else .next) s2 ∧ P s2) → P s →
    ∃ s', P s' ∧ forL G F (xs.map enc) s = .ok (match xs.find? c with
      | some x => .ret (r x)
      | none => .next) s'
  | [], s, _, hP => ⟨s, hP, rfl⟩
  | x :: xs, s, h, hP => by
    obtain ⟨s1, h1, s2, h2, h3⟩ := h x s List.mem_cons_self hP
    rw [List.map_cons]
    unfold forL
    rw [bnd_ok (show nx (G (enc x)) s = .ok () s1 by unfold nx; rw [h1])]
    simp only [h2, List.find?_cons]
    cases hc : c x with
    | true => exact ⟨s2, h3, by simp⟩
    | false =>
      obtain ⟨s', h4, h5⟩ := for_ret xs s2 (fun y s hy => h y s (List.mem_cons_of_mem _ hy)) h3
      exact ⟨s', h4, by simpa using h5⟩
theorem g_nm {i : Nat} {p : PV} {s : SE} (h : i < s.length) : gNm i p s = .ok () (s.set i (some (false, p))) := by unfold gNm setV; rw [if_pos h]
theorem g_tp2 {i j : Nat} {p q : PV} {s : SE} (hi : i < s.length) (hj : j < s.length) : gTp 2 (gsCons (gNm i) (gsCons (gNm j) gsNil)) (.tup [p, q]) s = .ok () ((s.set i (some (false, p))).set j (some (false, q))) := by
  show bnd (gNm i p) (fun _ => bnd (gNm j q) fun _ => gsNil []) s = _
  rw [bnd_ok (g_nm hi), bnd_ok (g_nm (by rw [List.length_set]; exact hj))]
  rfl
end
end HF
end

section
set_option Elab.async false
set_option linter.all false
set_option maxRecDepth 100000
set_option maxHeartbeats 1000000
set_option autoImplicit false
/-! HT: the tape that every law draws from. -/
namespace HF
open PySem PySem.Spec PyProof.Rows L2
section
variable {s s1 s2 : SE} {f g h : PM Arg} {fs : PM (List Arg)} {p q r d d' : PV} {ps : List PV} {fr fr2 fr3 b : Bool} {i : Nat}
/-- f gives p (fr: new), the state is then s1 -/
def EvS (f : PM Arg) (s : SE) (p : PV) (fr : Bool) (s1 : SE) : Prop := f s = .ok (.val p fr) s1
theorem evs_op2 {o : Op2} (hf : EvS f s p fr s1) (hg : EvS g s1 q fr2 s2) (ho : o p q = some (r, fr3)) : EvS (eOp2 o f g) s r fr3 s2 := by
  unfold EvS eOp2
  rw [bnd_ok hf, bnd_ok hg]
  simp only [opt2, wait, rv, ho, fin, ret]
theorem evs_opN1 {o : OpN} (hf : EvS f s p fr s1) (ho : o [p] = some (r, fr3)) : EvS (eOpN o (aCons f aNil)) s r fr3 s1 := by
  unfold EvS eOpN
  rw [bnd_ok (show aCons f aNil s = .ok [.val p false] s1 by unfold aCons; rw [bnd_ok hf]; rfl)]
  simp only [optN, rvs, rv, ho, fin, ret]
theorem evs_compX {α : Type} {I : PM (List PV)} {E : PM Arg} (xs : List α) (enc : α → PV) (F : α → PV) (hI : I s = .ok (xs.map enc) s1) (hl : xs.length ≤ sizeLine) (hi : i < s1.length) (h : ∀ x ∈ xs, ∃ fr, Ev E (s1.set i (some (false, enc x))) (F x) fr) :
    EvS (eComp [i] (iOf I) (gNm i) (ret true) E) s (.lst (xs.map F)) true s1 := by
  have := ev_compX (I := ret (xs.map enc)) (s := s1) xs enc F rfl hl hi h
  unfold Ev eComp at this
  unfold EvS eComp
  rw [bnd_ok (show iOf I s = .ok (xs.map enc, []) s1 by unfold iOf; rw [bnd_ok hI]; rfl)]
  rw [bnd_ok (show iOf (ret (xs.map enc)) s1 = .ok (xs.map enc, []) s1 from rfl)] at this
  exact this
theorem s_retS (hf : EvS f s p fr s1) : sRet f s = .ok (.ret (.val p fr)) s1 := by unfold sRet; rw [bnd_ok hf]; rfl
theorem evs_callM {den : Den} {p0 q0 : PV} (hi : s[i]? = some (some (true, p0))) (hf : Ev f s q fr) (hd : den [p0, q] = .ok p fr2 (some q0)) : EvS (eCallM den (aCons (eVar i) (aCons f aNil))) s p fr2 (s.set i (some (true, q0))) := by
  unfold EvS eCallM
  have e1 : eVar i s = .ok (.bor i) s := by unfold eVar; simp only [hi]
  have e2 : aCons (eVar i) (aCons f aNil) s = .ok [.bor i, .val q false] s := by
    unfold aCons
    rw [bnd_ok e1, bnd_ok (show bnd f _ s = .ok [.val q false] s by rw [bnd_ok hf]; rfl)]
    rfl
  rw [bnd_ok e2]
  simp only [callM]
  rw [bnd_ok (show relAll [Arg.val q false] s = .ok [q] s from rfl)]
  simp only [hi, hd]
theorem s_sub {op : OpS} (hf : Ev f s p fr) (hi : s[i]? = some (some (true, d))) (hg : Ev g s q fr2) (ho : op d q p = some d') : sAsg f (gSubP i op g) s = .ok .next (s.set i (some (true, d'))) := by
  unfold sAsg
  rw [bnd_ok hf, bnd_ok (show rel1 (.val p fr) s = .ok p s from rfl)]
  have e : nx (gSubP i op g p) s = .ok () (s.set i (some (true, d'))) := by
    unfold nx gSubP
    simp only [hi]
    rw [bnd_ok hg, bnd_ok (show rel1 (.val q fr2) s = .ok q s from rfl)]
    simp only [hi, ho]
  rw [bnd_ok e]
  rfl
theorem s_setS {n : Nat} (hf : EvS f s p fr s1) (hi : n < s1.length) : sSet n f s = .ok .next (s1.set n (some (fr, p))) := by
  unfold sSet
  rw [bnd_ok hf, bnd_ok (show setA n (.val p fr) s1 = .ok () (s1.set n (some (fr, p))) by show setV n p fr s1 = _; unfold setV; rw [if_pos hi])]
  rfl
end
theorem sq {F G : PM Fl} {s s1 : SE} {r : Rs Fl} (h : F s = .ok .next s1) (h2 : G s1 = r) : sSeq F G s = r := by rw [s_seq h, h2]
theorem sf {I : PM (List PV)} {G : PV → PM Unit} {F : PM Fl} {ps : List PV} {s s1 : SE} {r : Rs Fl} (h : I s = .ok ps s1) (h2 : forL G F ps s1 = r) : sFor I G F s = r := by rw [s_for h, h2]
theorem si {t : PM Bool} {F G : PM Fl} {s : SE} {b : Bool} {r : Rs Fl} (h : EvT t s b) (h1 : b = true → F s = r) (h2 : b = false → G s = r) : sIf t F G s = r := by
  rw [s_if h]
  cases b with
  | true => rw [if_pos rfl, h1 rfl]
  | false => rw [if_neg (by simp), h2 rfl]
/-- a check that finds nothing -/
theorem sno {t : PM Bool} {F G : PM Fl} {s : SE} {r : Rs Fl} (h : EvT t s false) (h2 : G s = r) : sIf t F G s = r := si h (fun z => by cases z) fun _ => h2
theorem iv_own {s : SE} {i : Nat} {ps : List PV} (h : s[i]? = some (some (true, .lst ps))) : iVal (eVar i) s = .ok ps (s.set i (some (false, .lst ps))) := by
  unfold iVal
  rw [bnd_ok (show eVar i s = .ok (.bor i) s by unfold eVar; simp only [h]), bnd_ok (show rel1 (.bor i) s = .ok (.lst ps) (s.set i (some (false, .lst ps))) by unfold rel1; simp only [h])]
  rfl
/-! ### the tape -/
def Ftape : PM Fl := (sSeq (sSet 2 (eComp [1] (iOf (iVal (eVar 0))) (gNm 1) (ret true) (eOpN opAbs (aCons (eOpN opInt (aCons (eVar 1) aNil)) aNil))))
  (sSeq (sSet 3 (eC (.int 7)))
  (sSeq (sFor (iVal (eVar 2)) (gNm 1) (sSeq (sSet 3 (eOp2 opMod (eOpN opInt (aCons (eOp2 opAdd (eOp2 opMul (eVar 3) (eC (.int 31))) (eVar 1)) aNil)) (eC (.int 2147483647))))
  sNext))
  (sSeq (sRet (eDisp [(.inr "cells"), (.inr "at"), (.inr "left"), (.inr "seed"), (.inr "salt")] [(eVar 2), (eC (.int 0)), (eC (.int 0)), (eVar 3), (eC (.int 0))]))
  sNext))))
def Ftake : PM Fl := (sSeq (sIf (tAndP (tBool (eOp2 opEq (eOp2 opIx (eVar 0) (eC (.str "left"))) (eC (.int 0)))) (tBool (eOp2 opLt (eOp2 opIx (eVar 0) (eC (.str "at"))) (eOpN opLen (aCons (eOp2 opIx (eVar 0) (eC (.str "cells"))) aNil))))) (sSeq (sAsg (eOp2 opIx (eOp2 opIx (eVar 0) (eC (.str "cells"))) (eOp2 opIx (eVar 0) (eC (.str "at")))) (gSubP 0 opSet (eC (.str "left"))))
  (sSeq (sAsg (eOp2 opAdd (eOp2 opIx (eVar 0) (eC (.str "at"))) (eC (.int 1))) (gSubP 0 opSet (eC (.str "at"))))
  sNext)) sNext)
  (sSeq (sIf (tBool (eOp2 opGt (eOp2 opIx (eVar 0) (eC (.str "left"))) (eC (.int 0)))) (sSeq (sSet 2 (eOp2 opMod (eOpN opInt (aCons (eOp2 opIx (eVar 0) (eC (.str "left"))) aNil)) (eVar 1)))
  (sSeq (sAsg (eOp2 opFdiv (eOp2 opIx (eVar 0) (eC (.str "left"))) (eVar 1)) (gSubP 0 opSet (eC (.str "left"))))
  (sSeq (sRet (eVar 2))
  sNext))) sNext)
  (sSeq (sAsg (eOp2 opAdd (eOp2 opIx (eVar 0) (eC (.str "salt"))) (eC (.int 1))) (gSubP 0 opSet (eC (.str "salt"))))
  (sSeq (sSet 3 (eOp2 opMod (eOpN opInt (aCons (eOp2 opAdd (eOp2 opMul (eOp2 opIx (eVar 0) (eC (.str "seed"))) (eC (.int 48271))) (eOp2 opMul (eOp2 opIx (eVar 0) (eC (.str "salt"))) (eC (.int 69621)))) aNil)) (eC (.int 2147483647))))
  (sSeq (sSet 3 (eOp2 opMod (eOpN opInt (aCons (eOp2 opAdd (eOp2 opAdd (eOp2 opMul (eVar 3) (eVar 3)) (eOp2 opMul (eOp2 opIx (eVar 0) (eC (.str "salt"))) (eC (.int 40692)))) (eC (.int 12345))) aNil)) (eC (.int 2147483399))))
  (sSeq (sRet (eOp2 opMod (eOpN opInt (aCons (eVar 3) aNil)) (eVar 1)))
  sNext))))))
def tapeV (cells : List Int) (at_ left seed salt : Int) : PV := .dct 0 [(.str "cells", .lst (cells.map .int)), (.str "at", .int at_), (.str "left", .int left), (.str "seed", .int seed), (.str "salt", .int salt)]
section
variable {c : List Int} {a l e t x : Int}
theorem t_cells : opIx (tapeV c a l e t) (.str "cells") = some (.lst (c.map .int), false) := by rfl
theorem t_at : opIx (tapeV c a l e t) (.str "at") = some (.int a, false) := by rfl
theorem t_left : opIx (tapeV c a l e t) (.str "left") = some (.int l, false) := by rfl
theorem t_seed : opIx (tapeV c a l e t) (.str "seed") = some (.int e, false) := by rfl
theorem t_salt : opIx (tapeV c a l e t) (.str "salt") = some (.int t, false) := by rfl
theorem t_set_at : opSet (tapeV c a l e t) (.str "at") (.int x) = some (tapeV c x l e t) := by rfl
theorem t_set_left : opSet (tapeV c a l e t) (.str "left") (.int x) = some (tapeV c a x e t) := by rfl
theorem t_set_salt : opSet (tapeV c a l e t) (.str "salt") (.int x) = some (tapeV c a l e x) := by rfl
end
/-- a tape with N draws to come -/
def Tp (N : Nat) (p : PV) : Prop := ∃ (c : List Int) (a l e t : Int), p = tapeV c a l e t ∧ (∀ x ∈ c, 0 ≤ x) ∧ 0 ≤ a ∧ 0 ≤ l ∧ 0 ≤ e ∧ e < 2147483647 ∧ 0 ≤ t ∧ t + N ≤ 2 ^ 900
theorem eq_ii (a b : Int) : opEq (.int a) (.int b) = some (.bl (decide (a = b)), false) := by
  rw [opEq_data (by intro _ _ h; cases h)]
  simp only [okb, peq, Bool.and_self, if_true, sB]
theorem ne_ii (a b : Int) : opNe (.int a) (.int b) = some (.bl (!decide (a = b)), false) := by
  rw [opNe_data (by intro _ _ h; cases h)]
  simp only [okb, peq, Bool.and_self, if_true, sB]
theorem mulOk_of {i j : Int} (hi : i.natAbs < 2 ^ 1000) (hj : j.natAbs < 2 ^ 1000) : mulOk i j = true := by
  have f : ∀ x : Int, x.natAbs < 2 ^ 1000 → x.natAbs.log2 < 1000 := fun x h => by
    by_cases z : x.natAbs = 0
    · rw [z]; decide
    · exact (Nat.log2_lt z).mpr h
  have h1 := f _ hi
  have h2 := f _ hj
  unfold mulOk
  rw [decide_eq_true_eq]
  omega
theorem mul_ii {i j : Int} (hi : i.natAbs < 2 ^ 1000) (hj : j.natAbs < 2 ^ 1000) : opMul (.int i) (.int j) = some (.int (i * j), false) := by
  simp only [opMul, mulOk_of hi hj, if_true, sI]
theorem mod_ii {i j : Int} (h : 0 < j) : opMod (.int i) (.int j) = some (.int (i % j), false) := by
  simp only [opMod, h, if_true, sI]
theorem fdiv_ii {i j : Int} (h : 0 < j) (hj : j < 2 ^ 1000) : opFdiv (.int i) (.int j) = some (.int (i / j), false) := by
  have : divOk j = true := by
    unfold divOk
    rw [Bool.and_eq_true, decide_eq_true_eq, decide_eq_true_eq]
    refine ⟨h, ?_⟩
    have : j.natAbs.log2 < 1000 := (Nat.log2_lt (by omega)).mpr (by omega)
    omega
  simp only [opFdiv, this, if_true, sI]
theorem den_io {n : Nat} {F : PM Fl} {ps : List PV} {p q : PV} {fr : Bool} {s1 : SE} (h : F (st1 n ps) = .ok (.ret (.val p fr)) s1) (h0 : s1[0]? = some (some (true, q))) : denIO n F ps = .ok p fr (some q) := by
  unfold denIO
  simp only [h, h0]
theorem d_take {N : Nat} {p : PV} {m : Int} (h : Tp (N + 1) p) (hm : 0 < m) (hm2 : m < 2 ^ 1000) : ∃ d p', denIO 4 Ftake [p, .int m] = .ok (.int d) false (some p') ∧ 0 ≤ d ∧ d < m ∧ Tp N p' := by
  obtain ⟨c, a, l, e, t, rfl, hc, ha, hl, he, he2, ht, ht2⟩ := h
  have step1 : ∃ a' l', 0 ≤ a' ∧ 0 ≤ l' ∧ (sIf (tAndP (tBool (eOp2 opEq (eOp2 opIx (eVar 0) (eC (.str "left"))) (eC (.int 0)))) (tBool (eOp2 opLt (eOp2 opIx (eVar 0) (eC (.str "at"))) (eOpN opLen (aCons (eOp2 opIx (eVar 0) (eC (.str "cells"))) aNil))))) (sSeq (sAsg (eOp2 opIx (eOp2 opIx (eVar 0) (eC (.str "cells"))) (eOp2 opIx (eVar 0) (eC (.str "at")))) (gSubP 0 opSet (eC (.str "left"))))
  (sSeq (sAsg (eOp2 opAdd (eOp2 opIx (eVar 0) (eC (.str "at"))) (eC (.int 1))) (gSubP 0 opSet (eC (.str "at"))))
  sNext)) sNext) [some (true, tapeV c a l e t), some (false, .int m), none, none] = .ok .next [some (true, tapeV c a' l' e t), some (false, .int m), none, none] := by
    have c1 : EvT (tAndP (tBool (eOp2 opEq (eOp2 opIx (eVar 0) (eC (.str "left"))) (eC (.int 0)))) (tBool (eOp2 opLt (eOp2 opIx (eVar 0) (eC (.str "at"))) (eOpN opLen (aCons (eOp2 opIx (eVar 0) (eC (.str "cells"))) aNil))))) [some (true, tapeV c a l e t), some (false, .int m), none, none] (decide (l = 0) && decide (a < (c.length : Int))) := by
      refine evt_and (evt_bool (ev_op2 (ev_op2 (rd_var rfl) ev_c.rd t_left).rd ev_c.rd (eq_ii _ _))) fun _ => evt_bool (fr := false) (ev_op2 (ev_op2 (rd_var rfl) ev_c.rd t_at).rd (ev_opN (r := .int c.length) (fr3 := false) (rda_cons (ev_op2 (rd_var rfl) ev_c.rd t_cells).rd rda_nil) ?_).rd rfl)
      simp only [opLen, List.length_map, sI]
    rw [s_if c1]
    by_cases h : l = 0 ∧ a < (c.length : Int)
    · have ha2 : a.toNat < c.length := by omega
      have e1 : opIx (.lst (c.map .int)) (.int a) = some (.int c[a.toNat], false) := by
        show (L2.atI _ a).map _ = _
        unfold L2.atI L2.ixN
        rw [List.length_map, if_pos ha, if_pos (by omega)]
        simp [List.getElem?_eq_getElem ha2]
      refine ⟨a + 1, c[a.toNat], by omega, hc _ (List.getElem_mem ha2), ?_⟩
      rw [if_pos (by simp only [h.1, h.2, decide_true, Bool.and_self])]
      rw [s_seq (s_sub (ev_op2 (ev_op2 (rd_var rfl) ev_c.rd t_cells).rd (ev_op2 (rd_var rfl) ev_c.rd t_at).rd e1) rfl ev_c t_set_left)]
      rw [s_seq (s_sub (ev_op2 (p := .int a) (q := .int 1) (ev_op2 (rd_var rfl) ev_c.rd t_at).rd ev_c.rd rfl) rfl ev_c t_set_at)]
      rfl
    · refine ⟨a, l, ha, hl, ?_⟩
      rw [if_neg (by simpa using h)]
      rfl
  obtain ⟨a', l', ha', hl', e1⟩ := step1
  have gt : EvT (tBool (eOp2 opGt (eOp2 opIx (eVar 0) (eC (.str "left"))) (eC (.int 0)))) [some (true, tapeV c a' l' e t), some (false, .int m), none, none] (decide (0 < l')) :=
    evt_bool (fr := false) (ev_op2 (ev_op2 (rd_var rfl) ev_c.rd t_left).rd ev_c.rd rfl)
  by_cases hp : 0 < l'
  · refine ⟨l' % m, tapeV c a' (l' / m) e t, ?_, Int.emod_nonneg _ (by omega), Int.emod_lt_of_pos _ hm, c, a', l' / m, e, t, rfl, hc, ha', Int.ediv_nonneg hl' (by omega), he, he2, ht, by omega⟩
    refine den_io (s1 := [some (true, tapeV c a' (l' / m) e t), some (false, .int m), some (false, .int (l' % m)), none]) ?_ rfl
    show Ftake [some (true, tapeV c a l e t), some (false, .int m), none, none] = _
    unfold Ftake
    rw [s_seq e1]
    refine s_seq_ret ?_
    rw [s_if gt, if_pos (by simpa using hp)]
    rw [s_seq (s_set (ev_op2 (ev_opN (rda_cons (ev_op2 (rd_var rfl) ev_c.rd t_left).rd rda_nil) rfl).rd (rd_var rfl) (mod_ii hm)) (by simp))]
    rw [s_seq (s_sub (ev_op2 (ev_op2 (rd_var rfl) ev_c.rd t_left).rd (rd_var rfl) (fdiv_ii hm hm2)) rfl ev_c t_set_left)]
    exact s_seq_ret (s_ret (ev_var rfl))
  · have r1 : 0 ≤ (e * 48271 + (t + 1) * 69621) % 2147483647 := Int.emod_nonneg _ (by decide)
    have r2 : (e * 48271 + (t + 1) * 69621) % 2147483647 < 2147483647 := Int.emod_lt_of_pos _ (by decide)
    generalize hx : (e * 48271 + (t + 1) * 69621) % 2147483647 = x at r1 r2
    generalize hy : (x * x + (t + 1) * 40692 + 12345) % 2147483399 = y
    refine ⟨y % m, tapeV c a' l' e (t + 1), ?_, Int.emod_nonneg _ (by omega), Int.emod_lt_of_pos _ hm, c, a', l', e, t + 1, rfl, hc, ha', hl', he, he2, by omega, by omega⟩
    refine den_io (s1 := [some (true, tapeV c a' l' e (t + 1)), some (false, .int m), none, some (false, .int y)]) ?_ rfl
    show Ftake [some (true, tapeV c a l e t), some (false, .int m), none, none] = _
    unfold Ftake
    rw [s_seq e1]
    rw [s_seq (s1 := [some (true, tapeV c a' l' e t), some (false, .int m), none, none]) (by rw [s_if gt, if_neg (by simpa using hp)]; rfl)]
    rw [s_seq (s_sub (ev_op2 (p := .int t) (q := .int 1) (ev_op2 (rd_var rfl) ev_c.rd t_salt).rd ev_c.rd rfl) rfl ev_c t_set_salt)]
    have hs : ∀ k : Int, k.natAbs < 100000 → opMul (.int (t + 1)) (.int k) = some (.int ((t + 1) * k), false) := fun k hk => mul_ii (by omega) (by omega)
    rw [s_seq (s_set (p := .int x) (fr := false) (ev_op2 (p := .int (e * 48271 + (t + 1) * 69621)) (ev_opN (rda_cons (ev_op2 (p := .int (e * 48271)) (q := .int ((t + 1) * 69621)) (ev_op2 (ev_op2 (rd_var rfl) ev_c.rd t_seed).rd ev_c.rd (mul_ii (by omega) (by decide))).rd (ev_op2 (ev_op2 (rd_var rfl) ev_c.rd t_salt).rd ev_c.rd (hs _ (by decide))).rd rfl).rd rda_nil) rfl).rd ev_c.rd (by rw [mod_ii (by decide), hx])) (by simp))]
    rw [s_seq (s_set (p := .int y) (fr := false) (ev_op2 (p := .int (x * x + (t + 1) * 40692 + 12345)) (ev_opN (rda_cons (ev_op2 (p := .int (x * x + (t + 1) * 40692)) (q := .int 12345) (ev_op2 (p := .int (x * x)) (q := .int ((t + 1) * 40692)) (ev_op2 (rd_var rfl) (rd_var rfl) (mul_ii (by omega) (by omega))).rd (ev_op2 (ev_op2 (rd_var rfl) ev_c.rd t_salt).rd ev_c.rd (hs _ (by decide))).rd rfl).rd ev_c.rd rfl).rd rda_nil) rfl).rd ev_c.rd (by rw [mod_ii (by decide), hy])) (by simp))]
    exact s_seq_ret (s_ret (ev_op2 (ev_opN (rda_cons (rd_var rfl) rda_nil) rfl).rd (rd_var rfl) (mod_ii hm)))
theorem d_tape {ns : List Int} (hl : ns.length ≤ 63) {N : Nat} (hN : (N : Int) ≤ 2 ^ 900) : ∃ p, denOf 4 Ftape [.scr ns] = .ok p true none ∧ Tp N p := by
  let ab : Int → Int := fun i => if i < 0 then -i else i
  have e0 : Ev (eComp [1] (iOf (iVal (eVar 0))) (gNm 1) (ret true) (eOpN opAbs (aCons (eOpN opInt (aCons (eVar 1) aNil)) aNil))) (st0 4 [.scr ns]) (.lst (ns.map fun i => .int (ab i))) true := by
    refine ev_compX ns PV.int (fun i => .int (ab i)) (iv_of (ev_var rfl) rfl) (by rw [sizeLine_eq]; omega) (by simp [st0]) fun i _ => ⟨false, ?_⟩
    exact ev_opN (rda_cons (ev_opN (rda_cons (rd_var rfl) rda_nil) rfl).rd rda_nil) rfl
  have e1 : (ns.map fun i => PV.int (ab i)) = (ns.map ab).map PV.int := by simp
  rw [e1] at e0
  obtain ⟨s', h1, e, a, hs, he, he2⟩ := for_rel (G := gNm 1) (F := sSeq (sSet 3 (eOp2 opMod (eOpN opInt (aCons (eOp2 opAdd (eOp2 opMul (eVar 3) (eC (.int 31))) (eVar 1)) aNil)) (eC (.int 2147483647)))) sNext) (enc := PV.int) (step := fun (_ : Unit) (_ : Int) => ())
    (P := fun _ s => ∃ (e : Int) (a : Option (Bool × PV)), s = [some (false, .scr ns), a, some (false, .lst ((ns.map ab).map .int)), some (false, .int e)] ∧ 0 ≤ e ∧ e < 2147483647)
    (ns.map ab) () [some (false, .scr ns), none, some (false, .lst ((ns.map ab).map .int)), some (false, .int 7)] (fun _ x s _ ⟨e, a, hs, he, he2⟩ => by
      subst hs
      refine ⟨_, g_nm (by simp), _, ?_, (e * 31 + x) % 2147483647, some (false, .int x), rfl, Int.emod_nonneg _ (by decide), Int.emod_lt_of_pos _ (by decide)⟩
      refine sq (s_set (s := [some (false, .scr ns), some (false, .int x), some (false, .lst ((ns.map ab).map .int)), some (false, .int e)]) (ev_op2 (p := .int (e * 31 + x)) (ev_opN (rda_cons (ev_op2 (p := .int (e * 31)) (q := .int x) (ev_op2 (rd_var rfl) ev_c.rd (mul_ii (by omega) (by decide))).rd (rd_var rfl) rfl).rd rda_nil) rfl).rd ev_c.rd (mod_ii (by decide))) (by simp)) rfl) ⟨7, none, rfl, by decide, by decide⟩
  refine ⟨tapeV (ns.map ab) 0 0 e 0, ?_, ns.map ab, 0, 0, e, 0, rfl, fun x hx => ?_, by decide, by decide, he, he2, by decide, by omega⟩
  · refine den_ret (s1 := s') ?_
    unfold Ftape
    refine sq (s_set e0 (by simp [st0])) (sq (s_set (fr := false) ev_c (by simp [st0])) (sq (sf (iv_own rfl) h1) ?_))
    subst hs
    rfl
  · obtain ⟨i, _, rfl⟩ := List.mem_map.mp hx
    show 0 ≤ (if i < 0 then -i else i)
    split <;> omega
/-! ### drawing -/
theorem take_at {den : Den} (hden : den = denIO 4 Ftake) {s : SE} {i : Nat} {tp : PV} {N : Nat} {f : PM Arg} {m : Int} {fr : Bool} (h1 : s[i]? = some (some (true, tp))) (ht : Tp (N + 1) tp) (hf : Ev f s (.int m) fr) (hm : 0 < m) (hm2 : m < 2 ^ 1000) :
    ∃ d tp', EvS (eCallM den (aCons (eVar i) (aCons f aNil))) s (.int d) false (s.set i (some (true, tp'))) ∧ 0 ≤ d ∧ d < m ∧ Tp N tp' := by
  obtain ⟨d, tp', e, h0, h2, h3⟩ := d_take ht hm hm2
  rw [← hden] at e
  exact ⟨d, tp', evs_callM h1 hf e, h0, h2, h3⟩
/-- a comprehension that draws; the tape at slot t, the name at slot i -/
theorem comp_take {α β : Type} {E : PM Arg} {i t : Nat} {I : PM (List PV)} (xs : List α) (enc0 : α → PV) (enc : β → PV) (R : β → Prop) (c N : Nat) {s s0 : SE} {tp : PV} (hI : I s = .ok (xs.map enc0) s0) (hl : xs.length ≤ sizeLine) (hi : i < s0.length) (hit : t ≠ i) (h1 : s0[t]? = some (some (true, tp))) (ht : Tp (N + xs.length * c) tp)
    (step : ∀ x ∈ xs, ∀ N tp, Tp (N + c) tp → ∃ y fr tp', EvS E ((s0.set i (some (false, enc0 x))).set t (some (true, tp))) (enc y) fr ((s0.set i (some (false, enc0 x))).set t (some (true, tp'))) ∧ R y ∧ Tp N tp') :
    ∃ (ys : List β) (tp' : PV), EvS (eComp [i] (iOf I) (gNm i) (ret true) E) s (.lst (ys.map enc)) true (s0.set t (some (true, tp'))) ∧ ys.length = xs.length ∧ (∀ y ∈ ys, R y) ∧ Tp N tp' := by
  have htl : t < s0.length := (List.getElem?_eq_some_iff.mp h1).1
  have key : ∀ (zs : List α) (N : Nat) (tp : PV), (∀ x ∈ zs, x ∈ xs) → Tp (N + zs.length * c) tp → ∃ (ys : List β) (tp' : PV), compL [i] (gNm i) (ret true) E (zs.map enc0) ((s0.set i none).set t (some (true, tp))) = .ok (ys.map enc) ((s0.set i none).set t (some (true, tp'))) ∧ ys.length = zs.length ∧ (∀ y ∈ ys, R y) ∧ Tp N tp' := by
    intro zs
    induction zs with
    | nil => intro N tp _ ht; exact ⟨[], tp, rfl, rfl, (fun y hy => absurd hy (List.not_mem_nil)), by simpa using ht⟩
    | cons z zs ih =>
      intro N tp hz ht
      rw [List.length_cons, Nat.succ_mul, ← Nat.add_assoc] at ht
      obtain ⟨y, fr, tp1, e, hR, ht1⟩ := step z (hz z List.mem_cons_self) _ tp ht
      obtain ⟨ys, tp', e2, hl2, hR2, ht2⟩ := ih N tp1 (fun x hx => hz x (List.mem_cons_of_mem _ hx)) ht1
      refine ⟨y :: ys, tp', ?_, by rw [List.length_cons, hl2, List.length_cons], fun w hw => ?_, ht2⟩
      · have e1 : nx (gNm i (enc0 z)) ((s0.set i none).set t (some (true, tp))) = .ok () ((s0.set i (some (false, enc0 z))).set t (some (true, tp))) := by
          unfold nx gNm setV
          simp only [List.length_set, hi, if_true]
          rw [List.set_comm _ _ hit, List.set_set]
        have e3 : wp [i] ((s0.set i (some (false, enc0 z))).set t (some (true, tp1))) = .ok () ((s0.set i none).set t (some (true, tp1))) := by
          show Rs.ok () (((s0.set i (some (false, enc0 z))).set t (some (true, tp1))).set i none) = _
          rw [List.set_comm _ _ hit, List.set_set]
        rw [List.map_cons]
        unfold compL
        rw [bnd_ok e1, bnd_ok (show ret true _ = .ok true _ from rfl), if_pos rfl, bnd_ok e, bnd_ok (show rel1 (Arg.val (enc y) fr) _ = .ok (enc y) _ from rfl), bnd_ok e3, bnd_ok e2]
        rfl
      · rcases List.mem_cons.mp hw with e | hw
        · rw [e]; exact hR
        · exact hR2 w hw
  obtain ⟨ys, tp', e, hl2, hR, ht2⟩ := key xs N tp (fun x hx => hx) ht
  refine ⟨ys, tp', ?_, hl2, hR, ht2⟩
  unfold EvS eComp
  rw [bnd_ok (show iOf I s = .ok (xs.map enc0, []) s0 by unfold iOf; rw [bnd_ok hI]; rfl)]
  simp only [List.nil_append, List.length_map, hl, if_true]
  have e0 : wipeS s0 [i] = (s0.set i none).set t (some (true, tp)) := by
    show s0.set i none = _
    refine List.ext_getElem? fun k => ?_
    by_cases hk : t = k
    · subst hk
      rw [List.getElem?_set_ne (Ne.symm hit), h1, List.getElem?_set_self (by rw [List.length_set]; exact htl)]
    · rw [List.getElem?_set_ne hk]
  rw [e0, e]
  simp only
  congr 1
  show ((s0.set i none).set t (some (true, tp'))).set i _ = s0.set t (some (true, tp'))
  refine List.ext_getElem? fun k => ?_
  by_cases hk : i = k
  · subst hk
    rw [List.getElem?_set_self (by rw [List.length_set, List.length_set]; exact hi), List.getElem?_set_ne hit, List.getElem?_eq_getElem hi]
  · rw [List.getElem?_set_ne hk]
    by_cases hk2 : t = k
    · subst hk2
      rw [List.getElem?_set_self (by rw [List.length_set]; exact htl), List.getElem?_set_self htl]
    · rw [List.getElem?_set_ne hk2, List.getElem?_set_ne hk, List.getElem?_set_ne hk2]
end HF
end

section
set_option Elab.async false
set_option linter.all false
set_option maxRecDepth 100000
set_option maxHeartbeats 1000000
set_option autoImplicit false
/-! HZ: what zip and enumerate draw from: lists and tuples alike (printed by zipgen.py). -/
namespace HZ
open PySem PySem.Spec PyProof.Rows L2
inductive SK where
  | l | t
def SK.It (b : SK) (h : Heap) (i a : Addr) (k : Nat) : Prop := match b with
  | .l => h.IsListIter i a k
  | .t => h.IsTupleIter i a k
def SK.Sq (b : SK) (h : Heap) (a : Addr) (xs : Array Value) : Prop := match b with
  | .l => h.IsList a xs
  | .t => h.IsTuple a xs
def SK.Vq (b : SK) (K : PySem.W.Frag) (H : Hp) (a : Addr) (xs : List V) : Prop := match b with
  | .l => SqL K H a xs
  | .t => SqT K H a xs
def SK.obj (b : SK) (a : Addr) : Obj := match b with
  | .l => { cls := .type "list_iterator", data := .fields #[.ref a, .int 0 0] }
  | .t => { cls := .type "tuple_iterator", data := .fields #[.ref a, .int 0 0] }
theorem SK.It.ext {b : SK} {h h' : Heap} {i a c : Addr} {k : Nat} (x : b.It h i a k) (e : Heap.ExtBut c h h') (n : i ≠ c) : b.It h' i a k := by
  cases b
  · exact Heap.IsListIter.extBut x e n
  · exact Heap.IsTupleIter.extBut x e n
theorem SK.It.to {b : SK} {h h' : Heap} {i a : Addr} {k : Nat} (x : b.It h i a k) (e : ∀ o, h.get? i = some o → h'.get? i = some o) : b.It h' i a k := by
  cases b
  · exact Heap.IsListIter.at x e
  · obtain ⟨o, ho, r⟩ := x
    exact ⟨o, e o ho, r⟩
theorem SK.It.has {b : SK} {h : Heap} {i a : Addr} {k : Nat} (x : b.It h i a k) : ∃ o, h.get? i = some o ∧ ∀ v, o.data ≠ .cell v := by
  cases b <;> (obtain ⟨o, ho, _, hd⟩ := x; exact ⟨o, ho, fun v q => by rw [hd] at q; cases q⟩)
theorem SK.It.lt {b : SK} {h : Heap} {i a : Addr} {k : Nat} (x : b.It h i a k) : i < h.objs.size := let ⟨_, ho, _⟩ := x.has; Heap.lt_size ho
theorem SK.Sq.ext {b : SK} {h h' : Heap} {a c : Addr} {xs : Array Value} (x : b.Sq h a xs) (e : Heap.ExtBut c h h') (n : a ≠ c) : b.Sq h' a xs := by
  cases b
  · exact Heap.IsList.extBut x e n
  · exact Heap.IsTuple.extBut x e n
theorem SK.Sq.to {b : SK} {h h' : Heap} {a : Addr} {xs : Array Value} (x : b.Sq h a xs) (e : ∀ o, h.get? a = some o → h'.get? a = some o) : b.Sq h' a xs := by
  cases b <;> (obtain ⟨o, ho, r⟩ := x; exact ⟨o, e o ho, r⟩)
theorem SK.Sq.lt {b : SK} {h : Heap} {a : Addr} {xs : Array Value} (x : b.Sq h a xs) : a < h.objs.size := by
  cases b <;> (obtain ⟨o, ho, _⟩ := x; exact Heap.lt_size ho)
theorem SK.Vq.get {b : SK} {X : Cx} {pins : List (Addr × Obj)} {σ : L2.St} {H : Hp} {s : Shared} {a : Addr} {xs : List V} (I : Inv X pins σ H s) (x : b.Vq X.K H a xs) : ∃ its, Vals xs its ∧ b.Sq s.heap a its.toArray := by
  cases b
  · obtain ⟨its, rv, p, _⟩ := I.list x
    exact ⟨its, rv, p.isList⟩
  · obtain ⟨its, rv, p, _⟩ := I.tuple x
    exact ⟨its, rv, p⟩
theorem SK.Vq.inj {b : SK} {X : Cx} {pins : List (Addr × Obj)} {σ : L2.St} {H : Hp} {s : Shared} {a : Addr} {xs ys : List V} (I : Inv X pins σ H s) (x : b.Vq X.K H a xs) (y : b.Vq X.K H a ys) : xs = ys := by
  cases b
  · exact I.list_inj x y
  · exact I.tuple_inj x y
section
variable {prog : Program} {w : World} {A : Around} {E : Value → Shared → Prop} {s : Shared}
theorem nx_item {b : SK} {i a : Addr} {k : Nat} {xs : Array Value} {x : Value} {Q : Value → Shared → Prop} (h : b.It s.heap i a k) (q : b.Sq s.heap a xs) (e : xs[k]? = some x)
    (hQ : ∀ h', b.It h' i a (k + 1) → Heap.SameBut i s.heap h' → Q x { s with heap := h' }) : wpAny (model prog w) A (Builtin.SmallTypes.nextOf (.ref i)) Q E s := by
  cases b
  · exact wpAny_nextOf_list_item h q e hQ
  · exact RZ.nextOf_tuple_item h q e hQ
theorem nx_end {b : SK} {i a : Addr} {k : Nat} {xs : Array Value} {Q : Value → Shared → Prop} (hh : A.handled = none) (h : b.It s.heap i a k) (q : b.Sq s.heap a xs) (e : xs[k]? = none)
    (hE : ∀ h' c, Heap.ExtBut i s.heap h' → (∃ o, h'.get? c = some o ∧ o.cls = .type "StopIteration") → E (.ref c) { s with heap := h' }) : wpAny (model prog w) A (Builtin.SmallTypes.nextOf (.ref i)) Q E s := by
  cases b
  · exact wpAny_nextOf_list_end hh h q e hE
  · exact RZ.nextOf_tuple_end hh h q e hE
theorem it_src {b : SK} {a : Addr} {xs : Array Value} {Q : Value → Shared → Prop} (q : b.Sq s.heap a xs) (hQ : Q (.ref s.heap.objs.size) { s with heap := s.heap.push (b.obj a) }) : wpAny (model prog w) A (pyIter (.ref a)) Q E s := by
  cases b
  · exact wpAny_pyIter_list q hQ
  · exact wpAny_pyIter_tuple q hQ
end
theorem it_new {b : SK} {h : Heap} {i a : Addr} (e : h.get? i = some (b.obj a)) : b.It h i a 0 := by
  cases b
  · exact ⟨_, e, rfl, rfl⟩
  · exact ⟨_, e, rfl, rfl⟩
theorem vrefs : ∀ (as : List Addr) (us : List Value), Vals (as.map V.ref) us → us = as.map Value.ref
  | [], _, h => by cases h; rfl
  | a :: as, _, h => by
    cases h with
    | cons r t =>
      have e : _ = Value.ref a := r
      rw [vrefs as _ t, e]
      rfl
theorem sz {h h' : Heap} {a : Addr} (e : Heap.SameBut a h h') : h'.objs.size = h.objs.size := e.1

/-! ### 2 sources -/
abbrev Tp2 (h : Heap) (T : Addr) (x1 x2 : Value) : Prop := h.get? T = some { cls := .type "tuple", data := .seq #[x1, x2] }
theorem up2 {prog : Program} {w : World} {A : Around} {E : Value → Shared → Prop} {s : Shared} {T : Addr} {y1 y2 x : Value} {k : Nat} {Q : Unit → Shared → Prop} (hT : Tp2 s.heap T y1 y2)
    (h : ∀ h', h'.get? T = some { cls := .type "tuple", data := .seq ((#[y1, y2] : Array Value).setIfInBounds k x) } → Heap.SameBut T s.heap h' → Q () { s with heap := h' }) : wpAny (model prog w) A (updateSeq T (·.setIfInBounds k x)) Q E s :=
  wpAny_updateSeq hT rfl (h _ (by rw [Heap.get?_update_self _ hT rfl]; simp [Obj.mapSeq]) (Heap.SameBut.update ..))
structure Ap2 (z TI TO i1 i2 a1 a2 : Addr) : Prop where
  Tz : TI ≠ z
  Oz : TO ≠ z
  tO : TI ≠ TO
  z1 : i1 ≠ z
  T1 : TI ≠ i1
  O1 : TO ≠ i1
  az1 : a1 ≠ z
  aO1 : a1 ≠ TO
  z2 : i2 ≠ z
  T2 : TI ≠ i2
  O2 : TO ≠ i2
  az2 : a2 ≠ z
  aO2 : a2 ≠ TO
  a11 : a1 ≠ i1
  i12 : i1 ≠ i2
  a12 : a1 ≠ i2
  a21 : a2 ≠ i1
  a22 : a2 ≠ i2
theorem z2_item {z TI TO i1 i2 a1 a2 : Addr} {k : Nat} {b1 b2 : SK} {m1 m2 : Array Value} {x1 x2 y1 y2 : Value} {prog : Program} {w : World} {A : Around} {E : Value → Shared → Prop} {s : Shared} {Q : Value → Shared → Prop} (D : Ap2 z TI TO i1 i2 a1 a2) (hz : IsZip s.heap z TI TO .none) (hI : Tp2 s.heap TI (.ref i1) (.ref i2)) (hO : Tp2 s.heap TO y1 y2) (t1 : b1.It s.heap i1 a1 k) (t2 : b2.It s.heap i2 a2 k) (q1 : b1.Sq s.heap a1 m1) (q2 : b2.Sq s.heap a2 m2) (e1 : m1[k]? = some x1) (e2 : m2[k]? = some x2)
    (hQ : ∀ h', IsZip h' z TI TO (rawInt s.heap.objs.size) → Tp2 h' TO x1 x2 → b1.It h' i1 a1 (k + 1) → b2.It h' i2 a2 (k + 1) → Tp2 h' s.heap.objs.size x1 x2 → h'.objs.size = s.heap.objs.size + 1 → (∀ c o, c ≠ z → c ≠ TO → c ≠ i1 → c ≠ i2 → s.heap.get? c = some o → h'.get? c = some o) → Q (.ref s.heap.objs.size) { s with heap := h' }) : wpAny (model prog w) A (Builtin.«zip.__next__» ⟨[.ref z], []⟩) (fun r s' => ∃ v, r = .done (.ret v) ∧ Q v s') E s := by
  show wpAny _ _ (field (.ref z) 2 >>= _) _ _ _
  refine wpAny_bind (wpAny_field hz rfl (x := .bool false) rfl ?_)
  show wpAny _ _ (field (.ref z) 3 >>= _) _ _ _
  refine wpAny_bind (wpAny_field hz rfl (x := .ref TI) rfl ?_)
  refine wpAny_bind (wpAny_seqItems hI rfl ?_)
  show wpAny _ _ (Builtin.SmallTypes.ownedTupleIsFree (.ref z) >>= _) _ _ _
  refine wpAny_bind ?_
  unfold Builtin.SmallTypes.ownedTupleIsFree
  refine wpAny_bind (wpAny_field hz rfl (x := .none) rfl (wpAny_pure ?_))
  simp only [if_true]
  refine wpAny_bind (wpAny_rule (wpAny_bind (wpAny_field hz rfl (x := .ref TO) rfl ?_)))
  refine wpAny_bind (wpAny_setField_rec hz (by simp) fun g0 z0 s0 => ?_)
  replace z0 : IsZip g0 z TI TO .ellipsis := z0
  refine wpAny_bind ?_
  simp only [List.zipIdx_cons, List.zipIdx_nil, List.forIn_cons, List.forIn_nil]
  have o0 : Tp2 g0 TO y1 y2 := s0.extBut _ _ D.Oz hO
  have t1_0 := t1.ext s0.extBut D.z1
  have q1_0 := q1.ext s0.extBut D.az1
  have t2_0 := t2.ext s0.extBut D.z2
  have q2_0 := q2.ext s0.extBut D.az2
  have p0 : ∀ c o, c ≠ z → c ≠ TO → c ≠ i1 → c ≠ i2 → s.heap.get? c = some o → g0.get? c = some o := fun c o cz _ _ _ x => s0.extBut _ _ cz x
  refine wpAny_bind (wpAny_bind (wpAny_onRaise ?_))
  show wpAny _ _ (Builtin.SmallTypes.nextOf (.ref i1) >>= _) _ _ _
  refine wpAny_bind (nx_item t1_0 q1_0 e1 fun f1 u1 r1 => wpAny_pure ?_)
  have v1 : Tp2 f1 TO y1 y2 := r1.extBut _ _ D.O1 o0
  refine wpAny_bind (wpAny_seqItems v1 rfl (wpAny_bind (up2 v1 fun g1 o1 s1 => ?_)))
  replace o1 : Tp2 g1 TO x1 y2 := o1
  refine wpAny_bind (wpAny_letGo (wpAny_pure ?_))
  have z1 : IsZip g1 z TI TO .ellipsis := s1.extBut _ _ D.Oz.symm (r1.extBut _ _ D.z1.symm z0)
  have t1_1 := u1.ext s1.extBut D.O1.symm
  have q1_1 := (q1_0.ext r1.extBut D.a11).ext s1.extBut D.aO1
  have t2_1 := (t2_0.ext r1.extBut D.i12.symm).ext s1.extBut D.O2.symm
  have q2_1 := (q2_0.ext r1.extBut D.a21).ext s1.extBut D.aO2
  have p1 : ∀ c o, c ≠ z → c ≠ TO → c ≠ i1 → c ≠ i2 → s.heap.get? c = some o → g1.get? c = some o := fun c o cz cO c1 c2 x => s1.extBut _ _ cO (r1.extBut _ _ c1 (p0 c o cz cO c1 c2 x))
  refine wpAny_bind (wpAny_bind (wpAny_onRaise ?_))
  show wpAny _ _ (Builtin.SmallTypes.nextOf (.ref i2) >>= _) _ _ _
  refine wpAny_bind (nx_item t2_1 q2_1 e2 fun f2 u2 r2 => wpAny_pure ?_)
  have v2 : Tp2 f2 TO x1 y2 := r2.extBut _ _ D.O2 o1
  refine wpAny_bind (wpAny_seqItems v2 rfl (wpAny_bind (up2 v2 fun g2 o2 s2 => ?_)))
  replace o2 : Tp2 g2 TO x1 x2 := o2
  refine wpAny_bind (wpAny_letGo (wpAny_pure (wpAny_pure ?_)))
  have z2 : IsZip g2 z TI TO .ellipsis := s2.extBut _ _ D.Oz.symm (r2.extBut _ _ D.z2.symm z1)
  have t1_2 := (t1_1.ext r2.extBut D.i12).ext s2.extBut D.O1.symm
  have q1_2 := (q1_1.ext r2.extBut D.a12).ext s2.extBut D.aO1
  have t2_2 := u2.ext s2.extBut D.O2.symm
  have q2_2 := (q2_1.ext r2.extBut D.a22).ext s2.extBut D.aO2
  have p2 : ∀ c o, c ≠ z → c ≠ TO → c ≠ i1 → c ≠ i2 → s.heap.get? c = some o → g2.get? c = some o := fun c o cz cO c1 c2 x => s2.extBut _ _ cO (r2.extBut _ _ c2 (p1 c o cz cO c1 c2 x))
  refine wpAny_bind (wpAny_seqItems o2 rfl (wpAny_bind (wpAny_newTuple ?_)))
  have hs : g2.objs.size = s.heap.objs.size := by rw [sz s2, sz r2, sz s1, sz r1, sz s0]
  have lz : z < g2.objs.size := Heap.lt_size z2
  show wpAny _ _ (Builtin.SmallTypes.ownedTupleHandOut (.ref z) (.ref g2.objs.size) >>= _) _ _ _
  refine wpAny_bind ?_
  unfold Builtin.SmallTypes.ownedTupleHandOut
  have zz : IsZip (g2.push { cls := .type "tuple", data := .seq #[x1, x2] }) z TI TO .ellipsis := Heap.get?_push_of_some _ z2
  refine wpAny_bind (wpAny_setField_rec zz (by simp) fun w1 y1 j1 => ?_)
  replace y1 : IsZip w1 z TI TO (rawInt g2.objs.size) := y1
  refine wpAny_setField_rec y1 (by simp) fun w2 y2 j2 => ?_
  replace y2 : IsZip w2 z TI TO (rawInt g2.objs.size) := y2
  have up : ∀ c o, c ≠ z → g2.get? c = some o → w2.get? c = some o := fun c o cz e => j2.extBut _ _ cz (j1.extBut _ _ cz (Heap.get?_push_of_some _ e))
  have nw : Tp2 w2 g2.objs.size x1 x2 := j2.extBut _ _ (Nat.ne_of_gt lz) (j1.extBut _ _ (Nat.ne_of_gt lz) (Heap.get?_push_size _ rfl))
  have hs2 : w2.objs.size = g2.objs.size + 1 := by rw [sz j2, sz j1, Heap.size_push]
  rw [hs] at y2 nw hs2
  refine wpAny_pure ⟨_, rfl, ?_⟩
  show Q (.ref g2.objs.size) _
  rw [hs]
  exact hQ w2 y2 (up _ _ D.Oz o2) (t1_2.to fun o e => up _ o D.z1 e) (t2_2.to fun o e => up _ o D.z2 e) nw hs2 fun c o cz cO c1 c2 e => up c o cz (p2 c o cz cO c1 c2 e)
theorem z2_end {z TI TO i1 i2 a1 a2 : Addr} {k : Nat} {b1 b2 : SK} {m1 m2 : Array Value} {y1 y2 : Value} {prog : Program} {w : World} {A : Around} {E : Value → Shared → Prop} {s : Shared} {Q : Fin → Shared → Prop} (hh : A.handled = none) (D : Ap2 z TI TO i1 i2 a1 a2) (hz : IsZip s.heap z TI TO .none) (hI : Tp2 s.heap TI (.ref i1) (.ref i2)) (hO : Tp2 s.heap TO y1 y2) (t1 : b1.It s.heap i1 a1 k) (t2 : b2.It s.heap i2 a2 k) (q1 : b1.Sq s.heap a1 m1) (q2 : b2.Sq s.heap a2 m2) (hn : m1[k]? = none ∨ m2[k]? = none)
    (hE : ∀ h' e, (∀ c o, c ≠ z → c ≠ TO → c ≠ i1 → c ≠ i2 → s.heap.get? c = some o → h'.get? c = some o) → (∃ o, h'.get? e = some o ∧ o.cls = .type "StopIteration") → E (.ref e) { s with heap := h' }) : wpAny (model prog w) A (Builtin.«zip.__next__» ⟨[.ref z], []⟩) Q E s := by
  show wpAny _ _ (field (.ref z) 2 >>= _) _ _ _
  refine wpAny_bind (wpAny_field hz rfl (x := .bool false) rfl ?_)
  show wpAny _ _ (field (.ref z) 3 >>= _) _ _ _
  refine wpAny_bind (wpAny_field hz rfl (x := .ref TI) rfl ?_)
  refine wpAny_bind (wpAny_seqItems hI rfl ?_)
  show wpAny _ _ (Builtin.SmallTypes.ownedTupleIsFree (.ref z) >>= _) _ _ _
  refine wpAny_bind ?_
  unfold Builtin.SmallTypes.ownedTupleIsFree
  refine wpAny_bind (wpAny_field hz rfl (x := .none) rfl (wpAny_pure ?_))
  simp only [if_true]
  refine wpAny_bind (wpAny_rule (wpAny_bind (wpAny_field hz rfl (x := .ref TO) rfl ?_)))
  refine wpAny_bind (wpAny_setField_rec hz (by simp) fun g0 z0 s0 => ?_)
  replace z0 : IsZip g0 z TI TO .ellipsis := z0
  refine wpAny_bind ?_
  simp only [List.zipIdx_cons, List.zipIdx_nil, List.forIn_cons, List.forIn_nil]
  have o0 : Tp2 g0 TO y1 y2 := s0.extBut _ _ D.Oz hO
  have t1_0 := t1.ext s0.extBut D.z1
  have q1_0 := q1.ext s0.extBut D.az1
  have t2_0 := t2.ext s0.extBut D.z2
  have q2_0 := q2.ext s0.extBut D.az2
  have p0 : ∀ c o, c ≠ z → c ≠ TO → c ≠ i1 → c ≠ i2 → s.heap.get? c = some o → g0.get? c = some o := fun c o cz _ _ _ x => s0.extBut _ _ cz x
  cases n1 : m1[k]? with
  | none =>
    refine wpAny_bind (wpAny_bind (wpAny_onRaise ?_))
    show wpAny _ _ (Builtin.SmallTypes.nextOf (.ref i1) >>= _) _ _ _
    refine wpAny_bind (nx_end hh t1_0 q1_0 n1 fun f c rx ex => ?_)
    obtain ⟨oe, he, hc⟩ := ex
    have zf : IsZip f z TI TO .ellipsis := rx _ _ D.z1.symm z0
    have cz : c ≠ z := fun q => by subst q; rw [zf] at he; cases he; simp at hc
    exact wpAny_setField_rec zf (by simp) fun w1 _ j1 => hE w1 c (fun c o cz cO c1 c2 x => j1.extBut _ _ cz (rx _ _ c1 (p0 c o cz cO c1 c2 x))) ⟨oe, j1.extBut _ _ cz he, hc⟩
  | some x1 =>
    refine wpAny_bind (wpAny_bind (wpAny_onRaise ?_))
    show wpAny _ _ (Builtin.SmallTypes.nextOf (.ref i1) >>= _) _ _ _
    refine wpAny_bind (nx_item t1_0 q1_0 n1 fun f1 u1 r1 => wpAny_pure ?_)
    have v1 : Tp2 f1 TO y1 y2 := r1.extBut _ _ D.O1 o0
    refine wpAny_bind (wpAny_seqItems v1 rfl (wpAny_bind (up2 v1 fun g1 o1 s1 => ?_)))
    replace o1 : Tp2 g1 TO x1 y2 := o1
    refine wpAny_bind (wpAny_letGo (wpAny_pure ?_))
    have z1 : IsZip g1 z TI TO .ellipsis := s1.extBut _ _ D.Oz.symm (r1.extBut _ _ D.z1.symm z0)
    have t1_1 := u1.ext s1.extBut D.O1.symm
    have q1_1 := (q1_0.ext r1.extBut D.a11).ext s1.extBut D.aO1
    have t2_1 := (t2_0.ext r1.extBut D.i12.symm).ext s1.extBut D.O2.symm
    have q2_1 := (q2_0.ext r1.extBut D.a21).ext s1.extBut D.aO2
    have p1 : ∀ c o, c ≠ z → c ≠ TO → c ≠ i1 → c ≠ i2 → s.heap.get? c = some o → g1.get? c = some o := fun c o cz cO c1 c2 x => s1.extBut _ _ cO (r1.extBut _ _ c1 (p0 c o cz cO c1 c2 x))
    cases n2 : m2[k]? with
    | none =>
      refine wpAny_bind (wpAny_bind (wpAny_onRaise ?_))
      show wpAny _ _ (Builtin.SmallTypes.nextOf (.ref i2) >>= _) _ _ _
      refine wpAny_bind (nx_end hh t2_1 q2_1 n2 fun f c rx ex => ?_)
      obtain ⟨oe, he, hc⟩ := ex
      have zf : IsZip f z TI TO .ellipsis := rx _ _ D.z2.symm z1
      have cz : c ≠ z := fun q => by subst q; rw [zf] at he; cases he; simp at hc
      exact wpAny_setField_rec zf (by simp) fun w1 _ j1 => hE w1 c (fun c o cz cO c1 c2 x => j1.extBut _ _ cz (rx _ _ c2 (p1 c o cz cO c1 c2 x))) ⟨oe, j1.extBut _ _ cz he, hc⟩
    | some x2 =>
      exact absurd hn (by rw [n1, n2]; simp)

theorem py2_item {z TI TO i1 i2 a1 a2 : Addr} {k : Nat} {b1 b2 : SK} {m1 m2 : Array Value} {x1 x2 y1 y2 : Value} {prog : Program} {w : World} {A : Around} {E : Value → Shared → Prop} {s : Shared} {Q : Option Value → Shared → Prop} (D : Ap2 z TI TO i1 i2 a1 a2) (hz : IsZip s.heap z TI TO .none) (hI : Tp2 s.heap TI (.ref i1) (.ref i2)) (hO : Tp2 s.heap TO y1 y2) (t1 : b1.It s.heap i1 a1 k) (t2 : b2.It s.heap i2 a2 k) (q1 : b1.Sq s.heap a1 m1) (q2 : b2.Sq s.heap a2 m2) (e1 : m1[k]? = some x1) (e2 : m2[k]? = some x2)
    (hQ : ∀ h', IsZip h' z TI TO (rawInt s.heap.objs.size) → Tp2 h' TO x1 x2 → b1.It h' i1 a1 (k + 1) → b2.It h' i2 a2 (k + 1) → Tp2 h' s.heap.objs.size x1 x2 → h'.objs.size = s.heap.objs.size + 1 → (∀ c o, c ≠ z → c ≠ TO → c ≠ i1 → c ≠ i2 → s.heap.get? c = some o → h'.get? c = some o) → Q (some (.ref s.heap.objs.size)) { s with heap := h' }) : wpAny (model prog w) A (pyNext (.ref z)) Q E s := by
  have hT : s.TypeIs (.ref z) "zip" := ⟨_, hz, rfl⟩
  unfold pyNext
  exact wpAny_bind (wpAny_attempt (wpAny_callSpecial?_slot (name := Str.ofString "__next__") hT F.slot_zip_next (wpAny_call_entry F.slot_zip_next hT F.entry_zip_next
    (z2_item D hz hI hO t1 t2 q1 q2 e1 e2 fun h' k1 k2 k3 k4 k5 k6 k7 => wpAny_pure (hQ h' k1 k2 k3 k4 k5 k6 k7)) (F.args_zip_next_1 _))))
theorem py2_end {z TI TO i1 i2 a1 a2 : Addr} {k : Nat} {b1 b2 : SK} {m1 m2 : Array Value} {y1 y2 : Value} {prog : Program} {w : World} {A : Around} {E : Value → Shared → Prop} {s : Shared} {Q : Option Value → Shared → Prop} (hh : A.handled = none) (D : Ap2 z TI TO i1 i2 a1 a2) (hz : IsZip s.heap z TI TO .none) (hI : Tp2 s.heap TI (.ref i1) (.ref i2)) (hO : Tp2 s.heap TO y1 y2) (t1 : b1.It s.heap i1 a1 k) (t2 : b2.It s.heap i2 a2 k) (q1 : b1.Sq s.heap a1 m1) (q2 : b2.Sq s.heap a2 m2) (hn : m1[k]? = none ∨ m2[k]? = none)
    (hQ : ∀ h', (∀ c o, c ≠ z → c ≠ TO → c ≠ i1 → c ≠ i2 → s.heap.get? c = some o → h'.get? c = some o) → Q none { s with heap := h' }) : wpAny (model prog w) A (pyNext (.ref z)) Q E s := by
  have hT : s.TypeIs (.ref z) "zip" := ⟨_, hz, rfl⟩
  unfold pyNext
  refine wpAny_bind (wpAny_attempt (wpAny_callSpecial?_slot (name := Str.ofString "__next__") hT F.slot_zip_next (wpAny_call_entry F.slot_zip_next hT F.entry_zip_next
    (z2_end hh D hz hI hO t1 t2 q1 q2 hn fun h' e hk he => ?_) (F.args_zip_next_1 _))))
  obtain ⟨o, ho, hc⟩ := he
  exact wpAny_bind (wpAny_isInstance (T := "StopIteration") (b := true) ⟨o, ho, hc⟩ isSubtype_stop (wpAny_pure (hQ _ hk)))
abbrev nH2_0 (h : Heap) : Heap := h
abbrev nH2_1 (h : Heap) (b1 : SK) (a1 : Addr) : Heap := (nH2_0 h).push (b1.obj a1)
abbrev nH2_2 (h : Heap) (b1 : SK) (a1 : Addr) (b2 : SK) (a2 : Addr) : Heap := (nH2_1 h b1 a1).push (b2.obj a2)
abbrev nH2_I (h : Heap) (b1 : SK) (a1 : Addr) (b2 : SK) (a2 : Addr) : Heap := (nH2_2 h b1 a1 b2 a2).push { cls := .type "tuple", data := .seq #[.ref (nH2_0 h).objs.size, .ref (nH2_1 h b1 a1).objs.size] }
abbrev nH2_O (h : Heap) (b1 : SK) (a1 : Addr) (b2 : SK) (a2 : Addr) : Heap := (nH2_I h b1 a1 b2 a2).push { cls := .type "tuple", data := .seq #[.none, .none] }
abbrev nH2_Z (h : Heap) (b1 : SK) (a1 : Addr) (b2 : SK) (a2 : Addr) : Heap := (nH2_O h b1 a1 b2 a2).push { cls := .type "zip", data := .fields #[.none, .bool false, .bool false, .ref (nH2_2 h b1 a1 b2 a2).objs.size, .ref (nH2_I h b1 a1 b2 a2).objs.size] }
theorem meets_z2 {b1 b2 : SK} (a1 a2 : Addr) (m1 m2 : Array Value) : Meets (Builtin.«zip.__new__» ⟨[.type "zip", .ref a1, .ref a2], []⟩) (fun _ R s => b1.Sq s.heap a1 m1 ∧ b2.Sq s.heap a2 m2 ∧ R (.ok (.ret (.ref (nH2_O s.heap b1 a1 b2 a2).objs.size))) { s with heap := nH2_Z s.heap b1 a1 b2 a2 }) :=
  .of_wp fun prog w A R s h => by
    obtain ⟨hp, g, d, tk, os⟩ := s
    obtain ⟨q1, q2, h⟩ := h
    have hsub := sub_zip
    have w1 : b1.Sq (Shared.heap ⟨nH2_0 hp, g, d, tk, os⟩) a1 m1 := q1.to fun o e => e
    have w2 : b2.Sq (Shared.heap ⟨nH2_1 hp b1 a1, g, d, tk, os⟩) a2 m2 := q2.to fun o e => (Heap.get?_push_of_some _ e)
    wp_walk using it_src w1, it_src w2
    exact ⟨_, rfl, h⟩
theorem call_z2 {b1 b2 : SK} {a1 a2 : Addr} {m1 m2 : Array Value} {prog : Program} {w : World} {A : Around} {E : Value → Shared → Prop} {s : Shared} {Q : Value → Shared → Prop} (q1 : b1.Sq s.heap a1 m1) (q2 : b2.Sq s.heap a2 m2)
    (h : ∀ h', IsZip h' (s.heap.objs.size + 4) (s.heap.objs.size + 2) (s.heap.objs.size + 3) .none → Tp2 h' (s.heap.objs.size + 2) (.ref (s.heap.objs.size + 0)) (.ref (s.heap.objs.size + 1)) → Tp2 h' (s.heap.objs.size + 3) .none .none → b1.It h' (s.heap.objs.size + 0) a1 0 → b2.It h' (s.heap.objs.size + 1) a2 0 → (∀ c o, s.heap.get? c = some o → h'.get? c = some o) → Q (.ref (s.heap.objs.size + 4)) { s with heap := h' }) : wpAny (model prog w) A (call (.type "zip") [.ref a1, .ref a2]) Q E s := by
  refine callType_new F.called_zip (by decide) (F.typeCall_zip_2 _ _) (F.newCall_zip_2 _ _) (fun obj => F.args_object_init_3 obj _ _) F.entry_zip_new (meets_z2 a1 a2 m1 m2) ⟨q1, q2, ?_⟩
  have l1 : (nH2_1 s.heap b1 a1).objs.size = s.heap.objs.size + 1 := by rw [Heap.size_push]
  have l2 : (nH2_2 s.heap b1 a1 b2 a2).objs.size = s.heap.objs.size + 2 := by rw [Heap.size_push, l1]
  have lI : (nH2_I s.heap b1 a1 b2 a2).objs.size = s.heap.objs.size + 3 := by rw [Heap.size_push, l2]
  have lO : (nH2_O s.heap b1 a1 b2 a2).objs.size = s.heap.objs.size + 4 := by rw [Heap.size_push, lI]
  have gZ : (nH2_Z s.heap b1 a1 b2 a2).get? (nH2_O s.heap b1 a1 b2 a2).objs.size = some _ := Heap.get?_push_size _ rfl
  have gO : (nH2_Z s.heap b1 a1 b2 a2).get? (nH2_I s.heap b1 a1 b2 a2).objs.size = some _ := (Heap.get?_push_of_some _ (Heap.get?_push_size _ rfl))
  have gI : (nH2_Z s.heap b1 a1 b2 a2).get? (nH2_2 s.heap b1 a1 b2 a2).objs.size = some _ := (Heap.get?_push_of_some _ (Heap.get?_push_of_some _ (Heap.get?_push_size _ rfl)))
  have g1 : (nH2_Z s.heap b1 a1 b2 a2).get? (nH2_0 s.heap).objs.size = some (b1.obj a1) := (Heap.get?_push_of_some _ (Heap.get?_push_of_some _ (Heap.get?_push_of_some _ (Heap.get?_push_of_some _ (Heap.get?_push_size _ (by cases b1 <;> rfl))))))
  have g2 : (nH2_Z s.heap b1 a1 b2 a2).get? (nH2_1 s.heap b1 a1).objs.size = some (b2.obj a2) := (Heap.get?_push_of_some _ (Heap.get?_push_of_some _ (Heap.get?_push_of_some _ (Heap.get?_push_size _ (by cases b2 <;> rfl)))))
  show _ ∧ _
  rw [lO, l2, lI] at gZ
  rw [lI] at gO
  rw [l1, l2] at gI
  rw [l1] at g2
  rw [lO]
  exact ⟨⟨_, gZ, rfl⟩, h _ gZ gI gO (it_new g1) (it_new g2) fun c o x => (Heap.get?_push_of_some _ (Heap.get?_push_of_some _ (Heap.get?_push_of_some _ (Heap.get?_push_of_some _ (Heap.get?_push_of_some _ x)))))⟩
/-- the items of 2 sources as they stand at each turn, in new tuples -/
def It2 (K : PySem.W.Frag) (b1 : SK) (a1 : Addr) (b2 : SK) (a2 : Addr) : It :=
  ⟨fun i H => ∃ (m1 : List V) (x1 : V) (m2 : List V) (x2 : V), b1.Vq K H a1 m1 ∧ m1[i]? = some x1 ∧ b2.Vq K H a2 m2 ∧ m2[i]? = some x2,
    fun i H v H' => ∃ T x1 x2, v = .ref T ∧ H T = none ∧ H' = upd H T (.tup [x1, x2]) ∧ (∀ m, b1.Vq K H a1 m → m[i]? = some x1) ∧ (∀ m, b2.Vq K H a2 m → m[i]? = some x2),
    fun i H => ∃ (m1 : List V) (m2 : List V), b1.Vq K H a1 m1 ∧ b2.Vq K H a2 m2 ∧ (m1.length ≤ i ∨ m2.length ≤ i)⟩
theorem turn2 {P : Program} {w : World} {K : PySem.W.Frag} {elts : List Expr} {kk : Nat} {tpos : Pos} {b1 b2 : SK} {a1 a2 z TI TO i1 i2 : Addr} (D : Ap2 z TI TO i1 i2 a1 a2) :
    Turn P w K (.Tuple elts kk tpos) (It2 K b1 a1 b2 a2) [z, TI, TO, i1, i2] z (fun i h => IsZip h z TI TO .none ∧ Tp2 h TI (.ref i1) (.ref i2) ∧ (∃ x1 x2, Tp2 h TO x1 x2) ∧ b1.It h i1 a1 i ∧ b2.It h i2 a2 i) where
  mem := by simp
  obj := fun i h st c hc => by
    obtain ⟨hz, hI, ⟨x1, x2, hO⟩, t1, t2⟩ := st
    have e : c = z ∨ c = TI ∨ c = TO ∨ c = i1 ∨ c = i2 := by simpa using hc
    rcases e with rfl | rfl | rfl | rfl | rfl
    · exact ⟨_, hz, fun v q => nomatch q⟩
    · exact ⟨_, hI, fun v q => nomatch q⟩
    · exact ⟨_, hO, fun v q => nomatch q⟩
    · exact t1.has
    · exact t2.has
  keep := fun i h h' st k => by
    obtain ⟨hz, hI, ⟨x1, x2, hO⟩, t1, t2⟩ := st
    exact ⟨k z (by simp) _ hz, k TI (by simp) _ hI, ⟨x1, x2, k TO (by simp) _ hO⟩, t1.to fun o q => k i1 (by simp) o q, t2.to fun o q => k i2 (by simp) o q⟩
  item := by
    intro X hP hw hK hc i pins s σ H E I hf st hg
    subst hP hw hK
    obtain ⟨hz, hI, ⟨y1, y2, hO⟩, t1, t2⟩ := st
    obtain ⟨m1, x1, m2, x2, w1, e1, w2, e2⟩ := hg
    obtain ⟨n1, rv1, q1⟩ := SK.Vq.get I w1
    obtain ⟨u1, hu1, ru1⟩ := rv1.get e1
    obtain ⟨n2, rv2, q2⟩ := SK.Vq.get I w2
    obtain ⟨u2, hu2, ru2⟩ := rv2.get e2
    have lz : z < s.heap.objs.size := Heap.lt_size hz
    refine py2_item D hz hI hO t1 t2 q1 q2 (x1 := u1) (x2 := u2) (by simpa using hu1) (by simpa using hu2) fun h' kz kO k1 k2 kT ks kk => ?_
    refine ⟨_, rfl, wpAny_letOwnedTupleGo_zip (s := { s with heap := h' }) kz fun h'' kz2 sb => ?_⟩
    have kT2 : h''.get? s.heap.objs.size = some { cls := .type "tuple", data := .seq #[u1, u2] } := (sb.2 _ (Nat.ne_of_gt lz)).trans kT
    have new : ObjOk X.prog X.w (upd H s.heap.objs.size (.tup [x1, x2])) h'' s.heap.objs.size (.tup [x1, x2]) :=
      ⟨by show 2 ≤ sizeLine; decide, [u1, u2], .cons ru1 (.cons ru2 .nil), ⟨_, kT2, rfl, _, rfl⟩⟩
    have I1 : Inv X pins σ (upd H s.heap.objs.size (.tup [x1, x2])) { s with heap := h'' } :=
      I.turnedNew (t' := s.toks) (ch := [z, TI, TO, i1, i2]) (fun c o hb q => (sb.2 c (fun q' => hb (by simp [q']))).trans (kk c o (fun q' => hb (by simp [q'])) (fun q' => hb (by simp [q'])) (fun q' => hb (by simp [q'])) (fun q' => hb (by simp [q'])) q)) hf (Nat.le_refl _) new
    refine ⟨.ref s.heap.objs.size, _, I1, rfl, ⟨_, x1, x2, rfl, I.hok.fresh (Nat.le_refl _), rfl, fun l hl => by rw [SK.Vq.inj I hl w1]; exact e1, fun l hl => by rw [SK.Vq.inj I hl w2]; exact e2⟩, ⟨kz2, ?_, ⟨u1, u2, ?_⟩, k1.to fun o q => (sb.2 _ D.z1).trans q, k2.to fun o q => (sb.2 _ D.z2).trans q⟩, fun c hcm => ?_⟩
    · exact (sb.2 _ D.Tz).trans (kk _ _ D.Tz D.tO D.T1 D.T2 hI)
    · exact (sb.2 _ D.Oz).trans kO
    · have lt : c < s.heap.objs.size := by
        have e : c = z ∨ c = TI ∨ c = TO ∨ c = i1 ∨ c = i2 := by simpa using hcm
        rcases e with rfl | rfl | rfl | rfl | rfl
        · exact lz
        · exact Heap.lt_size hI
        · exact Heap.lt_size hO
        · exact t1.lt
        · exact t2.lt
      rw [upd_ne (Nat.ne_of_lt lt)]
      exact (hf c hcm).1
  done := by
    intro X hP hw hK hc i pins s σ H E I hf st hg
    subst hP hw hK
    obtain ⟨hz, hI, ⟨y1, y2, hO⟩, t1, t2⟩ := st
    obtain ⟨m1, m2, w1, w2, hend⟩ := hg
    obtain ⟨n1, rv1, q1⟩ := SK.Vq.get I w1
    have l1 := rv1.length
    obtain ⟨n2, rv2, q2⟩ := SK.Vq.get I w2
    have l2 := rv2.length
    refine py2_end (I.ok.hd hc) D hz hI hO t1 t2 q1 q2 ?_ fun h' hk => ⟨rfl, I.turnedL (t' := s.toks) (ch := [z, TI, TO, i1, i2]) (fun c o hb q => hk c o (fun q' => hb (by simp [q'])) (fun q' => hb (by simp [q'])) (fun q' => hb (by simp [q'])) (fun q' => hb (by simp [q'])) q) hf⟩
    rcases hend with q | q
    · exact .inl (by simp; omega)
    · exact .inr ((by simp; omega))
  self := fun A i s Q E st h => wpAny_pyIter_zip st.1 h
theorem mkAp2 (m a1 a2 : Nat) (l1 : a1 < m) (l2 : a2 < m) : Ap2 (m + 4) (m + 2) (m + 3) (m + 0) (m + 1) a1 a2 := by constructor <;> (show (_ : Nat) ≠ _; omega)
def iZ2 (K : PySem.W.Frag) (ta : TA) : TI := fun σ H R => ta σ H fun vs H1 => ∃ (b1 : SK) (a1 : Addr) (b2 : SK) (a2 : Addr) (m1 : List V) (m2 : List V), vs = [.ref a1, .ref a2] ∧ b1.Vq K H1 a1 m1 ∧ b2.Vq K H1 a2 m2 ∧ R (It2 K b1 a1 b2 a2) H1
theorem pi_z2 {X : Cx} {e1 e2 : Expr} {ta : TA} {p pos tpos : Pos} {elts : List Expr} {kk : Nat} (hg : Gl X "zip") (hm : X.mg "zip" = none) (ha : PA X [e1, e2] ta)
    (hs : starEach [e1, e2] X.env = (false, eval e1 X.env) :: starEach [e2] X.env := by rfl) (hpl : (backTo pos (starEach [e2] X.env)).any (·.1) = false := by rfl) :
    PI X (.Tuple elts kk tpos) (.Call (.Name "zip" p) [e1, e2] [] pos) (iZ2 X.K ta) := by
  refine ⟨fun pins s σ H R I h => ?_⟩
  refine Call_ (ld_blt I hg hm PyProof.Rows.boot_zip (PyProof.Rows.callWith_type1 (thn (ha.run pos pins s σ H _ I h) fun us s1 ⟨vs, H1, I1, r1, q1⟩ => ?_) hs hpl))
  obtain ⟨b1, a1, b2, a2, m1, m2, ex, w1, w2, q⟩ := q1
  subst ex
  have eu := vrefs [a1, a2] us r1
  subst eu
  obtain ⟨n1, _, q1⟩ := SK.Vq.get I1 w1
  obtain ⟨n2, _, q2⟩ := SK.Vq.get I1 w2
  refine call_z2 q1 q2 fun h' hz hI hO t1 t2 hk => wpAny_pyIter_zip hz ?_
  have I2 : Inv X pins σ H1 { s1 with heap := h' } := I1.kept (t' := s1.toks) hk
  have l1 := q1.lt
  have l2 := q2.lt
  refine ⟨_, [s1.heap.objs.size + 4, s1.heap.objs.size + 2, s1.heap.objs.size + 3, s1.heap.objs.size + 0, s1.heap.objs.size + 1], _, _, H1, rfl, I2, turn2 (a1 := a1) (z := s1.heap.objs.size + 4) (TI := s1.heap.objs.size + 2) (TO := s1.heap.objs.size + 3) (i1 := s1.heap.objs.size + 0) (i2 := s1.heap.objs.size + 1) (mkAp2 s1.heap.objs.size a1 a2 l1 l2), ⟨hz, hI, ⟨_, _, hO⟩, t1, t2⟩, fun c hcm => ?_, q⟩
  have e' : c = s1.heap.objs.size + 4 ∨ c = s1.heap.objs.size + 2 ∨ c = s1.heap.objs.size + 3 ∨ c = s1.heap.objs.size ∨ c = s1.heap.objs.size + 1 := by simpa using hcm
  have hle : s1.heap.objs.size ≤ c := by rcases e' with rfl | rfl | rfl | rfl | rfl <;> first | exact Nat.le_refl _ | exact Nat.le_add_right _ _
  exact I1.fpOk hle (I1.hok.fresh hle)
/-! ### 3 sources -/
abbrev Tp3 (h : Heap) (T : Addr) (x1 x2 x3 : Value) : Prop := h.get? T = some { cls := .type "tuple", data := .seq #[x1, x2, x3] }
theorem up3 {prog : Program} {w : World} {A : Around} {E : Value → Shared → Prop} {s : Shared} {T : Addr} {y1 y2 y3 x : Value} {k : Nat} {Q : Unit → Shared → Prop} (hT : Tp3 s.heap T y1 y2 y3)
    (h : ∀ h', h'.get? T = some { cls := .type "tuple", data := .seq ((#[y1, y2, y3] : Array Value).setIfInBounds k x) } → Heap.SameBut T s.heap h' → Q () { s with heap := h' }) : wpAny (model prog w) A (updateSeq T (·.setIfInBounds k x)) Q E s :=
  wpAny_updateSeq hT rfl (h _ (by rw [Heap.get?_update_self _ hT rfl]; simp [Obj.mapSeq]) (Heap.SameBut.update ..))
structure Ap3 (z TI TO i1 i2 i3 a1 a2 a3 : Addr) : Prop where
  Tz : TI ≠ z
  Oz : TO ≠ z
  tO : TI ≠ TO
  z1 : i1 ≠ z
  T1 : TI ≠ i1
  O1 : TO ≠ i1
  az1 : a1 ≠ z
  aO1 : a1 ≠ TO
  z2 : i2 ≠ z
  T2 : TI ≠ i2
  O2 : TO ≠ i2
  az2 : a2 ≠ z
  aO2 : a2 ≠ TO
  z3 : i3 ≠ z
  T3 : TI ≠ i3
  O3 : TO ≠ i3
  az3 : a3 ≠ z
  aO3 : a3 ≠ TO
  a11 : a1 ≠ i1
  i12 : i1 ≠ i2
  a12 : a1 ≠ i2
  i13 : i1 ≠ i3
  a13 : a1 ≠ i3
  a21 : a2 ≠ i1
  a22 : a2 ≠ i2
  i23 : i2 ≠ i3
  a23 : a2 ≠ i3
  a31 : a3 ≠ i1
  a32 : a3 ≠ i2
  a33 : a3 ≠ i3
theorem z3_item {z TI TO i1 i2 i3 a1 a2 a3 : Addr} {k : Nat} {b1 b2 b3 : SK} {m1 m2 m3 : Array Value} {x1 x2 x3 y1 y2 y3 : Value} {prog : Program} {w : World} {A : Around} {E : Value → Shared → Prop} {s : Shared} {Q : Value → Shared → Prop} (D : Ap3 z TI TO i1 i2 i3 a1 a2 a3) (hz : IsZip s.heap z TI TO .none) (hI : Tp3 s.heap TI (.ref i1) (.ref i2) (.ref i3)) (hO : Tp3 s.heap TO y1 y2 y3) (t1 : b1.It s.heap i1 a1 k) (t2 : b2.It s.heap i2 a2 k) (t3 : b3.It s.heap i3 a3 k) (q1 : b1.Sq s.heap a1 m1) (q2 : b2.Sq s.heap a2 m2) (q3 : b3.Sq s.heap a3 m3) (e1 : m1[k]? = some x1) (e2 : m2[k]? = some x2) (e3 : m3[k]? = some x3)
    (hQ : ∀ h', IsZip h' z TI TO (rawInt s.heap.objs.size) → Tp3 h' TO x1 x2 x3 → b1.It h' i1 a1 (k + 1) → b2.It h' i2 a2 (k + 1) → b3.It h' i3 a3 (k + 1) → Tp3 h' s.heap.objs.size x1 x2 x3 → h'.objs.size = s.heap.objs.size + 1 → (∀ c o, c ≠ z → c ≠ TO → c ≠ i1 → c ≠ i2 → c ≠ i3 → s.heap.get? c = some o → h'.get? c = some o) → Q (.ref s.heap.objs.size) { s with heap := h' }) : wpAny (model prog w) A (Builtin.«zip.__next__» ⟨[.ref z], []⟩) (fun r s' => ∃ v, r = .done (.ret v) ∧ Q v s') E s := by
  show wpAny _ _ (field (.ref z) 2 >>= _) _ _ _
  refine wpAny_bind (wpAny_field hz rfl (x := .bool false) rfl ?_)
  show wpAny _ _ (field (.ref z) 3 >>= _) _ _ _
  refine wpAny_bind (wpAny_field hz rfl (x := .ref TI) rfl ?_)
  refine wpAny_bind (wpAny_seqItems hI rfl ?_)
  show wpAny _ _ (Builtin.SmallTypes.ownedTupleIsFree (.ref z) >>= _) _ _ _
  refine wpAny_bind ?_
  unfold Builtin.SmallTypes.ownedTupleIsFree
  refine wpAny_bind (wpAny_field hz rfl (x := .none) rfl (wpAny_pure ?_))
  simp only [if_true]
  refine wpAny_bind (wpAny_rule (wpAny_bind (wpAny_field hz rfl (x := .ref TO) rfl ?_)))
  refine wpAny_bind (wpAny_setField_rec hz (by simp) fun g0 z0 s0 => ?_)
  replace z0 : IsZip g0 z TI TO .ellipsis := z0
  refine wpAny_bind ?_
  simp only [List.zipIdx_cons, List.zipIdx_nil, List.forIn_cons, List.forIn_nil]
  have o0 : Tp3 g0 TO y1 y2 y3 := s0.extBut _ _ D.Oz hO
  have t1_0 := t1.ext s0.extBut D.z1
  have q1_0 := q1.ext s0.extBut D.az1
  have t2_0 := t2.ext s0.extBut D.z2
  have q2_0 := q2.ext s0.extBut D.az2
  have t3_0 := t3.ext s0.extBut D.z3
  have q3_0 := q3.ext s0.extBut D.az3
  have p0 : ∀ c o, c ≠ z → c ≠ TO → c ≠ i1 → c ≠ i2 → c ≠ i3 → s.heap.get? c = some o → g0.get? c = some o := fun c o cz _ _ _ _ x => s0.extBut _ _ cz x
  refine wpAny_bind (wpAny_bind (wpAny_onRaise ?_))
  show wpAny _ _ (Builtin.SmallTypes.nextOf (.ref i1) >>= _) _ _ _
  refine wpAny_bind (nx_item t1_0 q1_0 e1 fun f1 u1 r1 => wpAny_pure ?_)
  have v1 : Tp3 f1 TO y1 y2 y3 := r1.extBut _ _ D.O1 o0
  refine wpAny_bind (wpAny_seqItems v1 rfl (wpAny_bind (up3 v1 fun g1 o1 s1 => ?_)))
  replace o1 : Tp3 g1 TO x1 y2 y3 := o1
  refine wpAny_bind (wpAny_letGo (wpAny_pure ?_))
  have z1 : IsZip g1 z TI TO .ellipsis := s1.extBut _ _ D.Oz.symm (r1.extBut _ _ D.z1.symm z0)
  have t1_1 := u1.ext s1.extBut D.O1.symm
  have q1_1 := (q1_0.ext r1.extBut D.a11).ext s1.extBut D.aO1
  have t2_1 := (t2_0.ext r1.extBut D.i12.symm).ext s1.extBut D.O2.symm
  have q2_1 := (q2_0.ext r1.extBut D.a21).ext s1.extBut D.aO2
  have t3_1 := (t3_0.ext r1.extBut D.i13.symm).ext s1.extBut D.O3.symm
  have q3_1 := (q3_0.ext r1.extBut D.a31).ext s1.extBut D.aO3
  have p1 : ∀ c o, c ≠ z → c ≠ TO → c ≠ i1 → c ≠ i2 → c ≠ i3 → s.heap.get? c = some o → g1.get? c = some o := fun c o cz cO c1 c2 c3 x => s1.extBut _ _ cO (r1.extBut _ _ c1 (p0 c o cz cO c1 c2 c3 x))
  refine wpAny_bind (wpAny_bind (wpAny_onRaise ?_))
  show wpAny _ _ (Builtin.SmallTypes.nextOf (.ref i2) >>= _) _ _ _
  refine wpAny_bind (nx_item t2_1 q2_1 e2 fun f2 u2 r2 => wpAny_pure ?_)
  have v2 : Tp3 f2 TO x1 y2 y3 := r2.extBut _ _ D.O2 o1
  refine wpAny_bind (wpAny_seqItems v2 rfl (wpAny_bind (up3 v2 fun g2 o2 s2 => ?_)))
  replace o2 : Tp3 g2 TO x1 x2 y3 := o2
  refine wpAny_bind (wpAny_letGo (wpAny_pure ?_))
  have z2 : IsZip g2 z TI TO .ellipsis := s2.extBut _ _ D.Oz.symm (r2.extBut _ _ D.z2.symm z1)
  have t1_2 := (t1_1.ext r2.extBut D.i12).ext s2.extBut D.O1.symm
  have q1_2 := (q1_1.ext r2.extBut D.a12).ext s2.extBut D.aO1
  have t2_2 := u2.ext s2.extBut D.O2.symm
  have q2_2 := (q2_1.ext r2.extBut D.a22).ext s2.extBut D.aO2
  have t3_2 := (t3_1.ext r2.extBut D.i23.symm).ext s2.extBut D.O3.symm
  have q3_2 := (q3_1.ext r2.extBut D.a32).ext s2.extBut D.aO3
  have p2 : ∀ c o, c ≠ z → c ≠ TO → c ≠ i1 → c ≠ i2 → c ≠ i3 → s.heap.get? c = some o → g2.get? c = some o := fun c o cz cO c1 c2 c3 x => s2.extBut _ _ cO (r2.extBut _ _ c2 (p1 c o cz cO c1 c2 c3 x))
  refine wpAny_bind (wpAny_bind (wpAny_onRaise ?_))
  show wpAny _ _ (Builtin.SmallTypes.nextOf (.ref i3) >>= _) _ _ _
  refine wpAny_bind (nx_item t3_2 q3_2 e3 fun f3 u3 r3 => wpAny_pure ?_)
  have v3 : Tp3 f3 TO x1 x2 y3 := r3.extBut _ _ D.O3 o2
  refine wpAny_bind (wpAny_seqItems v3 rfl (wpAny_bind (up3 v3 fun g3 o3 s3 => ?_)))
  replace o3 : Tp3 g3 TO x1 x2 x3 := o3
  refine wpAny_bind (wpAny_letGo (wpAny_pure (wpAny_pure ?_)))
  have z3 : IsZip g3 z TI TO .ellipsis := s3.extBut _ _ D.Oz.symm (r3.extBut _ _ D.z3.symm z2)
  have t1_3 := (t1_2.ext r3.extBut D.i13).ext s3.extBut D.O1.symm
  have q1_3 := (q1_2.ext r3.extBut D.a13).ext s3.extBut D.aO1
  have t2_3 := (t2_2.ext r3.extBut D.i23).ext s3.extBut D.O2.symm
  have q2_3 := (q2_2.ext r3.extBut D.a23).ext s3.extBut D.aO2
  have t3_3 := u3.ext s3.extBut D.O3.symm
  have q3_3 := (q3_2.ext r3.extBut D.a33).ext s3.extBut D.aO3
  have p3 : ∀ c o, c ≠ z → c ≠ TO → c ≠ i1 → c ≠ i2 → c ≠ i3 → s.heap.get? c = some o → g3.get? c = some o := fun c o cz cO c1 c2 c3 x => s3.extBut _ _ cO (r3.extBut _ _ c3 (p2 c o cz cO c1 c2 c3 x))
  refine wpAny_bind (wpAny_seqItems o3 rfl (wpAny_bind (wpAny_newTuple ?_)))
  have hs : g3.objs.size = s.heap.objs.size := by rw [sz s3, sz r3, sz s2, sz r2, sz s1, sz r1, sz s0]
  have lz : z < g3.objs.size := Heap.lt_size z3
  show wpAny _ _ (Builtin.SmallTypes.ownedTupleHandOut (.ref z) (.ref g3.objs.size) >>= _) _ _ _
  refine wpAny_bind ?_
  unfold Builtin.SmallTypes.ownedTupleHandOut
  have zz : IsZip (g3.push { cls := .type "tuple", data := .seq #[x1, x2, x3] }) z TI TO .ellipsis := Heap.get?_push_of_some _ z3
  refine wpAny_bind (wpAny_setField_rec zz (by simp) fun w1 y1 j1 => ?_)
  replace y1 : IsZip w1 z TI TO (rawInt g3.objs.size) := y1
  refine wpAny_setField_rec y1 (by simp) fun w2 y2 j2 => ?_
  replace y2 : IsZip w2 z TI TO (rawInt g3.objs.size) := y2
  have up : ∀ c o, c ≠ z → g3.get? c = some o → w2.get? c = some o := fun c o cz e => j2.extBut _ _ cz (j1.extBut _ _ cz (Heap.get?_push_of_some _ e))
  have nw : Tp3 w2 g3.objs.size x1 x2 x3 := j2.extBut _ _ (Nat.ne_of_gt lz) (j1.extBut _ _ (Nat.ne_of_gt lz) (Heap.get?_push_size _ rfl))
  have hs2 : w2.objs.size = g3.objs.size + 1 := by rw [sz j2, sz j1, Heap.size_push]
  rw [hs] at y2 nw hs2
  refine wpAny_pure ⟨_, rfl, ?_⟩
  show Q (.ref g3.objs.size) _
  rw [hs]
  exact hQ w2 y2 (up _ _ D.Oz o3) (t1_3.to fun o e => up _ o D.z1 e) (t2_3.to fun o e => up _ o D.z2 e) (t3_3.to fun o e => up _ o D.z3 e) nw hs2 fun c o cz cO c1 c2 c3 e => up c o cz (p3 c o cz cO c1 c2 c3 e)
theorem z3_end {z TI TO i1 i2 i3 a1 a2 a3 : Addr} {k : Nat} {b1 b2 b3 : SK} {m1 m2 m3 : Array Value} {y1 y2 y3 : Value} {prog : Program} {w : World} {A : Around} {E : Value → Shared → Prop} {s : Shared} {Q : Fin → Shared → Prop} (hh : A.handled = none) (D : Ap3 z TI TO i1 i2 i3 a1 a2 a3) (hz : IsZip s.heap z TI TO .none) (hI : Tp3 s.heap TI (.ref i1) (.ref i2) (.ref i3)) (hO : Tp3 s.heap TO y1 y2 y3) (t1 : b1.It s.heap i1 a1 k) (t2 : b2.It s.heap i2 a2 k) (t3 : b3.It s.heap i3 a3 k) (q1 : b1.Sq s.heap a1 m1) (q2 : b2.Sq s.heap a2 m2) (q3 : b3.Sq s.heap a3 m3) (hn : m1[k]? = none ∨ m2[k]? = none ∨ m3[k]? = none)
    (hE : ∀ h' e, (∀ c o, c ≠ z → c ≠ TO → c ≠ i1 → c ≠ i2 → c ≠ i3 → s.heap.get? c = some o → h'.get? c = some o) → (∃ o, h'.get? e = some o ∧ o.cls = .type "StopIteration") → E (.ref e) { s with heap := h' }) : wpAny (model prog w) A (Builtin.«zip.__next__» ⟨[.ref z], []⟩) Q E s := by
  show wpAny _ _ (field (.ref z) 2 >>= _) _ _ _
  refine wpAny_bind (wpAny_field hz rfl (x := .bool false) rfl ?_)
  show wpAny _ _ (field (.ref z) 3 >>= _) _ _ _
  refine wpAny_bind (wpAny_field hz rfl (x := .ref TI) rfl ?_)
  refine wpAny_bind (wpAny_seqItems hI rfl ?_)
  show wpAny _ _ (Builtin.SmallTypes.ownedTupleIsFree (.ref z) >>= _) _ _ _
  refine wpAny_bind ?_
  unfold Builtin.SmallTypes.ownedTupleIsFree
  refine wpAny_bind (wpAny_field hz rfl (x := .none) rfl (wpAny_pure ?_))
  simp only [if_true]
  refine wpAny_bind (wpAny_rule (wpAny_bind (wpAny_field hz rfl (x := .ref TO) rfl ?_)))
  refine wpAny_bind (wpAny_setField_rec hz (by simp) fun g0 z0 s0 => ?_)
  replace z0 : IsZip g0 z TI TO .ellipsis := z0
  refine wpAny_bind ?_
  simp only [List.zipIdx_cons, List.zipIdx_nil, List.forIn_cons, List.forIn_nil]
  have o0 : Tp3 g0 TO y1 y2 y3 := s0.extBut _ _ D.Oz hO
  have t1_0 := t1.ext s0.extBut D.z1
  have q1_0 := q1.ext s0.extBut D.az1
  have t2_0 := t2.ext s0.extBut D.z2
  have q2_0 := q2.ext s0.extBut D.az2
  have t3_0 := t3.ext s0.extBut D.z3
  have q3_0 := q3.ext s0.extBut D.az3
  have p0 : ∀ c o, c ≠ z → c ≠ TO → c ≠ i1 → c ≠ i2 → c ≠ i3 → s.heap.get? c = some o → g0.get? c = some o := fun c o cz _ _ _ _ x => s0.extBut _ _ cz x
  cases n1 : m1[k]? with
  | none =>
    refine wpAny_bind (wpAny_bind (wpAny_onRaise ?_))
    show wpAny _ _ (Builtin.SmallTypes.nextOf (.ref i1) >>= _) _ _ _
    refine wpAny_bind (nx_end hh t1_0 q1_0 n1 fun f c rx ex => ?_)
    obtain ⟨oe, he, hc⟩ := ex
    have zf : IsZip f z TI TO .ellipsis := rx _ _ D.z1.symm z0
    have cz : c ≠ z := fun q => by subst q; rw [zf] at he; cases he; simp at hc
    exact wpAny_setField_rec zf (by simp) fun w1 _ j1 => hE w1 c (fun c o cz cO c1 c2 c3 x => j1.extBut _ _ cz (rx _ _ c1 (p0 c o cz cO c1 c2 c3 x))) ⟨oe, j1.extBut _ _ cz he, hc⟩
  | some x1 =>
    refine wpAny_bind (wpAny_bind (wpAny_onRaise ?_))
    show wpAny _ _ (Builtin.SmallTypes.nextOf (.ref i1) >>= _) _ _ _
    refine wpAny_bind (nx_item t1_0 q1_0 n1 fun f1 u1 r1 => wpAny_pure ?_)
    have v1 : Tp3 f1 TO y1 y2 y3 := r1.extBut _ _ D.O1 o0
    refine wpAny_bind (wpAny_seqItems v1 rfl (wpAny_bind (up3 v1 fun g1 o1 s1 => ?_)))
    replace o1 : Tp3 g1 TO x1 y2 y3 := o1
    refine wpAny_bind (wpAny_letGo (wpAny_pure ?_))
    have z1 : IsZip g1 z TI TO .ellipsis := s1.extBut _ _ D.Oz.symm (r1.extBut _ _ D.z1.symm z0)
    have t1_1 := u1.ext s1.extBut D.O1.symm
    have q1_1 := (q1_0.ext r1.extBut D.a11).ext s1.extBut D.aO1
    have t2_1 := (t2_0.ext r1.extBut D.i12.symm).ext s1.extBut D.O2.symm
    have q2_1 := (q2_0.ext r1.extBut D.a21).ext s1.extBut D.aO2
    have t3_1 := (t3_0.ext r1.extBut D.i13.symm).ext s1.extBut D.O3.symm
    have q3_1 := (q3_0.ext r1.extBut D.a31).ext s1.extBut D.aO3
    have p1 : ∀ c o, c ≠ z → c ≠ TO → c ≠ i1 → c ≠ i2 → c ≠ i3 → s.heap.get? c = some o → g1.get? c = some o := fun c o cz cO c1 c2 c3 x => s1.extBut _ _ cO (r1.extBut _ _ c1 (p0 c o cz cO c1 c2 c3 x))
    cases n2 : m2[k]? with
    | none =>
      refine wpAny_bind (wpAny_bind (wpAny_onRaise ?_))
      show wpAny _ _ (Builtin.SmallTypes.nextOf (.ref i2) >>= _) _ _ _
      refine wpAny_bind (nx_end hh t2_1 q2_1 n2 fun f c rx ex => ?_)
      obtain ⟨oe, he, hc⟩ := ex
      have zf : IsZip f z TI TO .ellipsis := rx _ _ D.z2.symm z1
      have cz : c ≠ z := fun q => by subst q; rw [zf] at he; cases he; simp at hc
      exact wpAny_setField_rec zf (by simp) fun w1 _ j1 => hE w1 c (fun c o cz cO c1 c2 c3 x => j1.extBut _ _ cz (rx _ _ c2 (p1 c o cz cO c1 c2 c3 x))) ⟨oe, j1.extBut _ _ cz he, hc⟩
    | some x2 =>
      refine wpAny_bind (wpAny_bind (wpAny_onRaise ?_))
      show wpAny _ _ (Builtin.SmallTypes.nextOf (.ref i2) >>= _) _ _ _
      refine wpAny_bind (nx_item t2_1 q2_1 n2 fun f2 u2 r2 => wpAny_pure ?_)
      have v2 : Tp3 f2 TO x1 y2 y3 := r2.extBut _ _ D.O2 o1
      refine wpAny_bind (wpAny_seqItems v2 rfl (wpAny_bind (up3 v2 fun g2 o2 s2 => ?_)))
      replace o2 : Tp3 g2 TO x1 x2 y3 := o2
      refine wpAny_bind (wpAny_letGo (wpAny_pure ?_))
      have z2 : IsZip g2 z TI TO .ellipsis := s2.extBut _ _ D.Oz.symm (r2.extBut _ _ D.z2.symm z1)
      have t1_2 := (t1_1.ext r2.extBut D.i12).ext s2.extBut D.O1.symm
      have q1_2 := (q1_1.ext r2.extBut D.a12).ext s2.extBut D.aO1
      have t2_2 := u2.ext s2.extBut D.O2.symm
      have q2_2 := (q2_1.ext r2.extBut D.a22).ext s2.extBut D.aO2
      have t3_2 := (t3_1.ext r2.extBut D.i23.symm).ext s2.extBut D.O3.symm
      have q3_2 := (q3_1.ext r2.extBut D.a32).ext s2.extBut D.aO3
      have p2 : ∀ c o, c ≠ z → c ≠ TO → c ≠ i1 → c ≠ i2 → c ≠ i3 → s.heap.get? c = some o → g2.get? c = some o := fun c o cz cO c1 c2 c3 x => s2.extBut _ _ cO (r2.extBut _ _ c2 (p1 c o cz cO c1 c2 c3 x))
      cases n3 : m3[k]? with
      | none =>
        refine wpAny_bind (wpAny_bind (wpAny_onRaise ?_))
        show wpAny _ _ (Builtin.SmallTypes.nextOf (.ref i3) >>= _) _ _ _
        refine wpAny_bind (nx_end hh t3_2 q3_2 n3 fun f c rx ex => ?_)
        obtain ⟨oe, he, hc⟩ := ex
        have zf : IsZip f z TI TO .ellipsis := rx _ _ D.z3.symm z2
        have cz : c ≠ z := fun q => by subst q; rw [zf] at he; cases he; simp at hc
        exact wpAny_setField_rec zf (by simp) fun w1 _ j1 => hE w1 c (fun c o cz cO c1 c2 c3 x => j1.extBut _ _ cz (rx _ _ c3 (p2 c o cz cO c1 c2 c3 x))) ⟨oe, j1.extBut _ _ cz he, hc⟩
      | some x3 =>
        exact absurd hn (by rw [n1, n2, n3]; simp)

theorem py3_item {z TI TO i1 i2 i3 a1 a2 a3 : Addr} {k : Nat} {b1 b2 b3 : SK} {m1 m2 m3 : Array Value} {x1 x2 x3 y1 y2 y3 : Value} {prog : Program} {w : World} {A : Around} {E : Value → Shared → Prop} {s : Shared} {Q : Option Value → Shared → Prop} (D : Ap3 z TI TO i1 i2 i3 a1 a2 a3) (hz : IsZip s.heap z TI TO .none) (hI : Tp3 s.heap TI (.ref i1) (.ref i2) (.ref i3)) (hO : Tp3 s.heap TO y1 y2 y3) (t1 : b1.It s.heap i1 a1 k) (t2 : b2.It s.heap i2 a2 k) (t3 : b3.It s.heap i3 a3 k) (q1 : b1.Sq s.heap a1 m1) (q2 : b2.Sq s.heap a2 m2) (q3 : b3.Sq s.heap a3 m3) (e1 : m1[k]? = some x1) (e2 : m2[k]? = some x2) (e3 : m3[k]? = some x3)
    (hQ : ∀ h', IsZip h' z TI TO (rawInt s.heap.objs.size) → Tp3 h' TO x1 x2 x3 → b1.It h' i1 a1 (k + 1) → b2.It h' i2 a2 (k + 1) → b3.It h' i3 a3 (k + 1) → Tp3 h' s.heap.objs.size x1 x2 x3 → h'.objs.size = s.heap.objs.size + 1 → (∀ c o, c ≠ z → c ≠ TO → c ≠ i1 → c ≠ i2 → c ≠ i3 → s.heap.get? c = some o → h'.get? c = some o) → Q (some (.ref s.heap.objs.size)) { s with heap := h' }) : wpAny (model prog w) A (pyNext (.ref z)) Q E s := by
  have hT : s.TypeIs (.ref z) "zip" := ⟨_, hz, rfl⟩
  unfold pyNext
  exact wpAny_bind (wpAny_attempt (wpAny_callSpecial?_slot (name := Str.ofString "__next__") hT F.slot_zip_next (wpAny_call_entry F.slot_zip_next hT F.entry_zip_next
    (z3_item D hz hI hO t1 t2 t3 q1 q2 q3 e1 e2 e3 fun h' k1 k2 k3 k4 k5 k6 k7 k8 => wpAny_pure (hQ h' k1 k2 k3 k4 k5 k6 k7 k8)) (F.args_zip_next_1 _))))
theorem py3_end {z TI TO i1 i2 i3 a1 a2 a3 : Addr} {k : Nat} {b1 b2 b3 : SK} {m1 m2 m3 : Array Value} {y1 y2 y3 : Value} {prog : Program} {w : World} {A : Around} {E : Value → Shared → Prop} {s : Shared} {Q : Option Value → Shared → Prop} (hh : A.handled = none) (D : Ap3 z TI TO i1 i2 i3 a1 a2 a3) (hz : IsZip s.heap z TI TO .none) (hI : Tp3 s.heap TI (.ref i1) (.ref i2) (.ref i3)) (hO : Tp3 s.heap TO y1 y2 y3) (t1 : b1.It s.heap i1 a1 k) (t2 : b2.It s.heap i2 a2 k) (t3 : b3.It s.heap i3 a3 k) (q1 : b1.Sq s.heap a1 m1) (q2 : b2.Sq s.heap a2 m2) (q3 : b3.Sq s.heap a3 m3) (hn : m1[k]? = none ∨ m2[k]? = none ∨ m3[k]? = none)
    (hQ : ∀ h', (∀ c o, c ≠ z → c ≠ TO → c ≠ i1 → c ≠ i2 → c ≠ i3 → s.heap.get? c = some o → h'.get? c = some o) → Q none { s with heap := h' }) : wpAny (model prog w) A (pyNext (.ref z)) Q E s := by
  have hT : s.TypeIs (.ref z) "zip" := ⟨_, hz, rfl⟩
  unfold pyNext
  refine wpAny_bind (wpAny_attempt (wpAny_callSpecial?_slot (name := Str.ofString "__next__") hT F.slot_zip_next (wpAny_call_entry F.slot_zip_next hT F.entry_zip_next
    (z3_end hh D hz hI hO t1 t2 t3 q1 q2 q3 hn fun h' e hk he => ?_) (F.args_zip_next_1 _))))
  obtain ⟨o, ho, hc⟩ := he
  exact wpAny_bind (wpAny_isInstance (T := "StopIteration") (b := true) ⟨o, ho, hc⟩ isSubtype_stop (wpAny_pure (hQ _ hk)))
abbrev nH3_0 (h : Heap) : Heap := h
abbrev nH3_1 (h : Heap) (b1 : SK) (a1 : Addr) : Heap := (nH3_0 h).push (b1.obj a1)
abbrev nH3_2 (h : Heap) (b1 : SK) (a1 : Addr) (b2 : SK) (a2 : Addr) : Heap := (nH3_1 h b1 a1).push (b2.obj a2)
abbrev nH3_3 (h : Heap) (b1 : SK) (a1 : Addr) (b2 : SK) (a2 : Addr) (b3 : SK) (a3 : Addr) : Heap := (nH3_2 h b1 a1 b2 a2).push (b3.obj a3)
abbrev nH3_I (h : Heap) (b1 : SK) (a1 : Addr) (b2 : SK) (a2 : Addr) (b3 : SK) (a3 : Addr) : Heap := (nH3_3 h b1 a1 b2 a2 b3 a3).push { cls := .type "tuple", data := .seq #[.ref (nH3_0 h).objs.size, .ref (nH3_1 h b1 a1).objs.size, .ref (nH3_2 h b1 a1 b2 a2).objs.size] }
abbrev nH3_O (h : Heap) (b1 : SK) (a1 : Addr) (b2 : SK) (a2 : Addr) (b3 : SK) (a3 : Addr) : Heap := (nH3_I h b1 a1 b2 a2 b3 a3).push { cls := .type "tuple", data := .seq #[.none, .none, .none] }
abbrev nH3_Z (h : Heap) (b1 : SK) (a1 : Addr) (b2 : SK) (a2 : Addr) (b3 : SK) (a3 : Addr) : Heap := (nH3_O h b1 a1 b2 a2 b3 a3).push { cls := .type "zip", data := .fields #[.none, .bool false, .bool false, .ref (nH3_3 h b1 a1 b2 a2 b3 a3).objs.size, .ref (nH3_I h b1 a1 b2 a2 b3 a3).objs.size] }
theorem meets_z3 {b1 b2 b3 : SK} (a1 a2 a3 : Addr) (m1 m2 m3 : Array Value) : Meets (Builtin.«zip.__new__» ⟨[.type "zip", .ref a1, .ref a2, .ref a3], []⟩) (fun _ R s => b1.Sq s.heap a1 m1 ∧ b2.Sq s.heap a2 m2 ∧ b3.Sq s.heap a3 m3 ∧ R (.ok (.ret (.ref (nH3_O s.heap b1 a1 b2 a2 b3 a3).objs.size))) { s with heap := nH3_Z s.heap b1 a1 b2 a2 b3 a3 }) :=
  .of_wp fun prog w A R s h => by
    obtain ⟨hp, g, d, tk, os⟩ := s
    obtain ⟨q1, q2, q3, h⟩ := h
    have hsub := sub_zip
    have w1 : b1.Sq (Shared.heap ⟨nH3_0 hp, g, d, tk, os⟩) a1 m1 := q1.to fun o e => e
    have w2 : b2.Sq (Shared.heap ⟨nH3_1 hp b1 a1, g, d, tk, os⟩) a2 m2 := q2.to fun o e => (Heap.get?_push_of_some _ e)
    have w3 : b3.Sq (Shared.heap ⟨nH3_2 hp b1 a1 b2 a2, g, d, tk, os⟩) a3 m3 := q3.to fun o e => (Heap.get?_push_of_some _ (Heap.get?_push_of_some _ e))
    wp_walk using it_src w1, it_src w2, it_src w3
    exact ⟨_, rfl, h⟩
theorem tc_zip3 (a b c : Value) : checkTypeCall "zip" ⟨[a, b, c], []⟩ = pure () := by kernel_rfl
theorem nc_zip3 (a b c : Value) : checkBuiltinCall "zip.__new__" ⟨[.type "zip", a, b, c], []⟩ = pure () := by kernel_rfl
theorem ao_zip3 (a b c d : Value) : argsOk "object.__init__" ⟨[a, b, c, d], []⟩ := by
  unfold argsOk; rw [signature?_of (id := "object.__init__") (n := ['_', '_', 't', 'i', 'n', 'i', '_', '_']) (o := ['t', 'c', 'e', 'j', 'b', 'o']) (by kernel_rfl) F.owner_object]; kernel_rfl
theorem call_z3 {b1 b2 b3 : SK} {a1 a2 a3 : Addr} {m1 m2 m3 : Array Value} {prog : Program} {w : World} {A : Around} {E : Value → Shared → Prop} {s : Shared} {Q : Value → Shared → Prop} (q1 : b1.Sq s.heap a1 m1) (q2 : b2.Sq s.heap a2 m2) (q3 : b3.Sq s.heap a3 m3)
    (h : ∀ h', IsZip h' (s.heap.objs.size + 5) (s.heap.objs.size + 3) (s.heap.objs.size + 4) .none → Tp3 h' (s.heap.objs.size + 3) (.ref (s.heap.objs.size + 0)) (.ref (s.heap.objs.size + 1)) (.ref (s.heap.objs.size + 2)) → Tp3 h' (s.heap.objs.size + 4) .none .none .none → b1.It h' (s.heap.objs.size + 0) a1 0 → b2.It h' (s.heap.objs.size + 1) a2 0 → b3.It h' (s.heap.objs.size + 2) a3 0 → (∀ c o, s.heap.get? c = some o → h'.get? c = some o) → Q (.ref (s.heap.objs.size + 5)) { s with heap := h' }) : wpAny (model prog w) A (call (.type "zip") [.ref a1, .ref a2, .ref a3]) Q E s := by
  refine callType_new F.called_zip (by decide) (tc_zip3 _ _ _) (nc_zip3 _ _ _) (fun obj => ao_zip3 obj _ _ _) F.entry_zip_new (meets_z3 a1 a2 a3 m1 m2 m3) ⟨q1, q2, q3, ?_⟩
  have l1 : (nH3_1 s.heap b1 a1).objs.size = s.heap.objs.size + 1 := by rw [Heap.size_push]
  have l2 : (nH3_2 s.heap b1 a1 b2 a2).objs.size = s.heap.objs.size + 2 := by rw [Heap.size_push, l1]
  have l3 : (nH3_3 s.heap b1 a1 b2 a2 b3 a3).objs.size = s.heap.objs.size + 3 := by rw [Heap.size_push, l2]
  have lI : (nH3_I s.heap b1 a1 b2 a2 b3 a3).objs.size = s.heap.objs.size + 4 := by rw [Heap.size_push, l3]
  have lO : (nH3_O s.heap b1 a1 b2 a2 b3 a3).objs.size = s.heap.objs.size + 5 := by rw [Heap.size_push, lI]
  have gZ : (nH3_Z s.heap b1 a1 b2 a2 b3 a3).get? (nH3_O s.heap b1 a1 b2 a2 b3 a3).objs.size = some _ := Heap.get?_push_size _ rfl
  have gO : (nH3_Z s.heap b1 a1 b2 a2 b3 a3).get? (nH3_I s.heap b1 a1 b2 a2 b3 a3).objs.size = some _ := (Heap.get?_push_of_some _ (Heap.get?_push_size _ rfl))
  have gI : (nH3_Z s.heap b1 a1 b2 a2 b3 a3).get? (nH3_3 s.heap b1 a1 b2 a2 b3 a3).objs.size = some _ := (Heap.get?_push_of_some _ (Heap.get?_push_of_some _ (Heap.get?_push_size _ rfl)))
  have g1 : (nH3_Z s.heap b1 a1 b2 a2 b3 a3).get? (nH3_0 s.heap).objs.size = some (b1.obj a1) := (Heap.get?_push_of_some _ (Heap.get?_push_of_some _ (Heap.get?_push_of_some _ (Heap.get?_push_of_some _ (Heap.get?_push_of_some _ (Heap.get?_push_size _ (by cases b1 <;> rfl)))))))
  have g2 : (nH3_Z s.heap b1 a1 b2 a2 b3 a3).get? (nH3_1 s.heap b1 a1).objs.size = some (b2.obj a2) := (Heap.get?_push_of_some _ (Heap.get?_push_of_some _ (Heap.get?_push_of_some _ (Heap.get?_push_of_some _ (Heap.get?_push_size _ (by cases b2 <;> rfl))))))
  have g3 : (nH3_Z s.heap b1 a1 b2 a2 b3 a3).get? (nH3_2 s.heap b1 a1 b2 a2).objs.size = some (b3.obj a3) := (Heap.get?_push_of_some _ (Heap.get?_push_of_some _ (Heap.get?_push_of_some _ (Heap.get?_push_size _ (by cases b3 <;> rfl)))))
  show _ ∧ _
  rw [lO, l3, lI] at gZ
  rw [lI] at gO
  rw [l1, l2, l3] at gI
  rw [l1] at g2
  rw [l2] at g3
  rw [lO]
  exact ⟨⟨_, gZ, rfl⟩, h _ gZ gI gO (it_new g1) (it_new g2) (it_new g3) fun c o x => (Heap.get?_push_of_some _ (Heap.get?_push_of_some _ (Heap.get?_push_of_some _ (Heap.get?_push_of_some _ (Heap.get?_push_of_some _ (Heap.get?_push_of_some _ x))))))⟩
/-- the items of 3 sources as they stand at each turn, in new tuples -/
def It3 (K : PySem.W.Frag) (b1 : SK) (a1 : Addr) (b2 : SK) (a2 : Addr) (b3 : SK) (a3 : Addr) : It :=
  ⟨fun i H => ∃ (m1 : List V) (x1 : V) (m2 : List V) (x2 : V) (m3 : List V) (x3 : V), b1.Vq K H a1 m1 ∧ m1[i]? = some x1 ∧ b2.Vq K H a2 m2 ∧ m2[i]? = some x2 ∧ b3.Vq K H a3 m3 ∧ m3[i]? = some x3,
    fun i H v H' => ∃ T x1 x2 x3, v = .ref T ∧ H T = none ∧ H' = upd H T (.tup [x1, x2, x3]) ∧ (∀ m, b1.Vq K H a1 m → m[i]? = some x1) ∧ (∀ m, b2.Vq K H a2 m → m[i]? = some x2) ∧ (∀ m, b3.Vq K H a3 m → m[i]? = some x3),
    fun i H => ∃ (m1 : List V) (m2 : List V) (m3 : List V), b1.Vq K H a1 m1 ∧ b2.Vq K H a2 m2 ∧ b3.Vq K H a3 m3 ∧ (m1.length ≤ i ∨ m2.length ≤ i ∨ m3.length ≤ i)⟩
theorem turn3 {P : Program} {w : World} {K : PySem.W.Frag} {elts : List Expr} {kk : Nat} {tpos : Pos} {b1 b2 b3 : SK} {a1 a2 a3 z TI TO i1 i2 i3 : Addr} (D : Ap3 z TI TO i1 i2 i3 a1 a2 a3) :
    Turn P w K (.Tuple elts kk tpos) (It3 K b1 a1 b2 a2 b3 a3) [z, TI, TO, i1, i2, i3] z (fun i h => IsZip h z TI TO .none ∧ Tp3 h TI (.ref i1) (.ref i2) (.ref i3) ∧ (∃ x1 x2 x3, Tp3 h TO x1 x2 x3) ∧ b1.It h i1 a1 i ∧ b2.It h i2 a2 i ∧ b3.It h i3 a3 i) where
  mem := by simp
  obj := fun i h st c hc => by
    obtain ⟨hz, hI, ⟨x1, x2, x3, hO⟩, t1, t2, t3⟩ := st
    have e : c = z ∨ c = TI ∨ c = TO ∨ c = i1 ∨ c = i2 ∨ c = i3 := by simpa using hc
    rcases e with rfl | rfl | rfl | rfl | rfl | rfl
    · exact ⟨_, hz, fun v q => nomatch q⟩
    · exact ⟨_, hI, fun v q => nomatch q⟩
    · exact ⟨_, hO, fun v q => nomatch q⟩
    · exact t1.has
    · exact t2.has
    · exact t3.has
  keep := fun i h h' st k => by
    obtain ⟨hz, hI, ⟨x1, x2, x3, hO⟩, t1, t2, t3⟩ := st
    exact ⟨k z (by simp) _ hz, k TI (by simp) _ hI, ⟨x1, x2, x3, k TO (by simp) _ hO⟩, t1.to fun o q => k i1 (by simp) o q, t2.to fun o q => k i2 (by simp) o q, t3.to fun o q => k i3 (by simp) o q⟩
  item := by
    intro X hP hw hK hc i pins s σ H E I hf st hg
    subst hP hw hK
    obtain ⟨hz, hI, ⟨y1, y2, y3, hO⟩, t1, t2, t3⟩ := st
    obtain ⟨m1, x1, m2, x2, m3, x3, w1, e1, w2, e2, w3, e3⟩ := hg
    obtain ⟨n1, rv1, q1⟩ := SK.Vq.get I w1
    obtain ⟨u1, hu1, ru1⟩ := rv1.get e1
    obtain ⟨n2, rv2, q2⟩ := SK.Vq.get I w2
    obtain ⟨u2, hu2, ru2⟩ := rv2.get e2
    obtain ⟨n3, rv3, q3⟩ := SK.Vq.get I w3
    obtain ⟨u3, hu3, ru3⟩ := rv3.get e3
    have lz : z < s.heap.objs.size := Heap.lt_size hz
    refine py3_item D hz hI hO t1 t2 t3 q1 q2 q3 (x1 := u1) (x2 := u2) (x3 := u3) (by simpa using hu1) (by simpa using hu2) (by simpa using hu3) fun h' kz kO k1 k2 k3 kT ks kk => ?_
    refine ⟨_, rfl, wpAny_letOwnedTupleGo_zip (s := { s with heap := h' }) kz fun h'' kz2 sb => ?_⟩
    have kT2 : h''.get? s.heap.objs.size = some { cls := .type "tuple", data := .seq #[u1, u2, u3] } := (sb.2 _ (Nat.ne_of_gt lz)).trans kT
    have new : ObjOk X.prog X.w (upd H s.heap.objs.size (.tup [x1, x2, x3])) h'' s.heap.objs.size (.tup [x1, x2, x3]) :=
      ⟨by show 3 ≤ sizeLine; decide, [u1, u2, u3], .cons ru1 (.cons ru2 (.cons ru3 .nil)), ⟨_, kT2, rfl, _, rfl⟩⟩
    have I1 : Inv X pins σ (upd H s.heap.objs.size (.tup [x1, x2, x3])) { s with heap := h'' } :=
      I.turnedNew (t' := s.toks) (ch := [z, TI, TO, i1, i2, i3]) (fun c o hb q => (sb.2 c (fun q' => hb (by simp [q']))).trans (kk c o (fun q' => hb (by simp [q'])) (fun q' => hb (by simp [q'])) (fun q' => hb (by simp [q'])) (fun q' => hb (by simp [q'])) (fun q' => hb (by simp [q'])) q)) hf (Nat.le_refl _) new
    refine ⟨.ref s.heap.objs.size, _, I1, rfl, ⟨_, x1, x2, x3, rfl, I.hok.fresh (Nat.le_refl _), rfl, fun l hl => by rw [SK.Vq.inj I hl w1]; exact e1, fun l hl => by rw [SK.Vq.inj I hl w2]; exact e2, fun l hl => by rw [SK.Vq.inj I hl w3]; exact e3⟩, ⟨kz2, ?_, ⟨u1, u2, u3, ?_⟩, k1.to fun o q => (sb.2 _ D.z1).trans q, k2.to fun o q => (sb.2 _ D.z2).trans q, k3.to fun o q => (sb.2 _ D.z3).trans q⟩, fun c hcm => ?_⟩
    · exact (sb.2 _ D.Tz).trans (kk _ _ D.Tz D.tO D.T1 D.T2 D.T3 hI)
    · exact (sb.2 _ D.Oz).trans kO
    · have lt : c < s.heap.objs.size := by
        have e : c = z ∨ c = TI ∨ c = TO ∨ c = i1 ∨ c = i2 ∨ c = i3 := by simpa using hcm
        rcases e with rfl | rfl | rfl | rfl | rfl | rfl
        · exact lz
        · exact Heap.lt_size hI
        · exact Heap.lt_size hO
        · exact t1.lt
        · exact t2.lt
        · exact t3.lt
      rw [upd_ne (Nat.ne_of_lt lt)]
      exact (hf c hcm).1
  done := by
    intro X hP hw hK hc i pins s σ H E I hf st hg
    subst hP hw hK
    obtain ⟨hz, hI, ⟨y1, y2, y3, hO⟩, t1, t2, t3⟩ := st
    obtain ⟨m1, m2, m3, w1, w2, w3, hend⟩ := hg
    obtain ⟨n1, rv1, q1⟩ := SK.Vq.get I w1
    have l1 := rv1.length
    obtain ⟨n2, rv2, q2⟩ := SK.Vq.get I w2
    have l2 := rv2.length
    obtain ⟨n3, rv3, q3⟩ := SK.Vq.get I w3
    have l3 := rv3.length
    refine py3_end (I.ok.hd hc) D hz hI hO t1 t2 t3 q1 q2 q3 ?_ fun h' hk => ⟨rfl, I.turnedL (t' := s.toks) (ch := [z, TI, TO, i1, i2, i3]) (fun c o hb q => hk c o (fun q' => hb (by simp [q'])) (fun q' => hb (by simp [q'])) (fun q' => hb (by simp [q'])) (fun q' => hb (by simp [q'])) (fun q' => hb (by simp [q'])) q) hf⟩
    rcases hend with q | q | q
    · exact .inl (by simp; omega)
    · exact .inr (.inl (by simp; omega))
    · exact .inr (.inr ((by simp; omega)))
  self := fun A i s Q E st h => wpAny_pyIter_zip st.1 h
theorem mkAp3 (m a1 a2 a3 : Nat) (l1 : a1 < m) (l2 : a2 < m) (l3 : a3 < m) : Ap3 (m + 5) (m + 3) (m + 4) (m + 0) (m + 1) (m + 2) a1 a2 a3 := by constructor <;> (show (_ : Nat) ≠ _; omega)
def iZ3 (K : PySem.W.Frag) (ta : TA) : TI := fun σ H R => ta σ H fun vs H1 => ∃ (b1 : SK) (a1 : Addr) (b2 : SK) (a2 : Addr) (b3 : SK) (a3 : Addr) (m1 : List V) (m2 : List V) (m3 : List V), vs = [.ref a1, .ref a2, .ref a3] ∧ b1.Vq K H1 a1 m1 ∧ b2.Vq K H1 a2 m2 ∧ b3.Vq K H1 a3 m3 ∧ R (It3 K b1 a1 b2 a2 b3 a3) H1
theorem pi_z3 {X : Cx} {e1 e2 e3 : Expr} {ta : TA} {p pos tpos : Pos} {elts : List Expr} {kk : Nat} (hg : Gl X "zip") (hm : X.mg "zip" = none) (ha : PA X [e1, e2, e3] ta)
    (hs : starEach [e1, e2, e3] X.env = (false, eval e1 X.env) :: starEach [e2, e3] X.env := by rfl) (hpl : (backTo pos (starEach [e2, e3] X.env)).any (·.1) = false := by rfl) :
    PI X (.Tuple elts kk tpos) (.Call (.Name "zip" p) [e1, e2, e3] [] pos) (iZ3 X.K ta) := by
  refine ⟨fun pins s σ H R I h => ?_⟩
  refine Call_ (ld_blt I hg hm PyProof.Rows.boot_zip (PyProof.Rows.callWith_type1 (thn (ha.run pos pins s σ H _ I h) fun us s1 ⟨vs, H1, I1, r1, q1⟩ => ?_) hs hpl))
  obtain ⟨b1, a1, b2, a2, b3, a3, m1, m2, m3, ex, w1, w2, w3, q⟩ := q1
  subst ex
  have eu := vrefs [a1, a2, a3] us r1
  subst eu
  obtain ⟨n1, _, q1⟩ := SK.Vq.get I1 w1
  obtain ⟨n2, _, q2⟩ := SK.Vq.get I1 w2
  obtain ⟨n3, _, q3⟩ := SK.Vq.get I1 w3
  refine call_z3 q1 q2 q3 fun h' hz hI hO t1 t2 t3 hk => wpAny_pyIter_zip hz ?_
  have I2 : Inv X pins σ H1 { s1 with heap := h' } := I1.kept (t' := s1.toks) hk
  have l1 := q1.lt
  have l2 := q2.lt
  have l3 := q3.lt
  refine ⟨_, [s1.heap.objs.size + 5, s1.heap.objs.size + 3, s1.heap.objs.size + 4, s1.heap.objs.size + 0, s1.heap.objs.size + 1, s1.heap.objs.size + 2], _, _, H1, rfl, I2, turn3 (a1 := a1) (z := s1.heap.objs.size + 5) (TI := s1.heap.objs.size + 3) (TO := s1.heap.objs.size + 4) (i1 := s1.heap.objs.size + 0) (i2 := s1.heap.objs.size + 1) (i3 := s1.heap.objs.size + 2) (mkAp3 s1.heap.objs.size a1 a2 a3 l1 l2 l3), ⟨hz, hI, ⟨_, _, _, hO⟩, t1, t2, t3⟩, fun c hcm => ?_, q⟩
  have e' : c = s1.heap.objs.size + 5 ∨ c = s1.heap.objs.size + 3 ∨ c = s1.heap.objs.size + 4 ∨ c = s1.heap.objs.size ∨ c = s1.heap.objs.size + 1 ∨ c = s1.heap.objs.size + 2 := by simpa using hcm
  have hle : s1.heap.objs.size ≤ c := by rcases e' with rfl | rfl | rfl | rfl | rfl | rfl <;> first | exact Nat.le_refl _ | exact Nat.le_add_right _ _
  exact I1.fpOk hle (I1.hok.fresh hle)
end HZ
end

section
set_option Elab.async false
set_option linter.all false
set_option maxRecDepth 100000
set_option maxHeartbeats 1000000
set_option autoImplicit false
/-! HY: enumerate of a list or a tuple. -/
namespace HZ
open PySem PySem.Spec PyProof.Rows L2
/-- what a source is, as an object -/
def SK.cl (b : SK) : String := match b with
  | .l => "list"
  | .t => "tuple"
theorem SK.Sq.ob {b : SK} {h : Heap} {a : Addr} {xs : Array Value} (x : b.Sq h a xs) : ∃ (d : Option Addr) (n : Nat) (sl : Array (Option Value)), h.get? a = some { cls := .type b.cl, dict := d, data := .seq xs n, slots := sl } := by
  cases b <;> (obtain ⟨⟨c, d, dt, sl⟩, ho, hc, n, hd⟩ := x; have e1 : c = _ := hc; have e2 : dt = _ := hd; subst e1 e2; exact ⟨d, n, sl, ho⟩)
abbrev eObj (it : Addr) (i : Int) (old : Value) : Obj := { cls := .type "enumerate", data := .fields #[.none, .bool false, .ref it, rawInt i, .none, old] }
open AutoSeq1 (wpAny_loadPart') in
theorem meets_en {b : SK} {a : Addr} {xs : Array Value} {n : Nat} {d : Option Addr} {sl : Array (Option Value)} : Meets (Builtin.«enumerate.__new__» ⟨[.type "enumerate", .ref a], []⟩) (fun _ R s => s.heap.get? a = some { cls := .type b.cl, dict := d, data := .seq xs n, slots := sl } ∧
    R (.ok (.ret (.ref (s.heap.push (b.obj a)).objs.size))) { s with heap := (s.heap.push (b.obj a)).push (eObj s.heap.objs.size 0 .none) }) :=
  .of_wp fun prog w A R s h => by
    obtain ⟨hp, g, dd, tk, os⟩ := s
    obtain ⟨ho, h⟩ := h
    have hsub := sub_enumerate
    have hq : b.Sq (Shared.heap ⟨hp, g, dd, tk, os⟩) a xs := by cases b <;> exact ⟨_, ho, rfl, n, rfl⟩
    cases b <;>
    · wp_walk using wpAny_loadPart' ho
      refine wpAny_stack_any fun st => wpAny_pure ?_
      split
      · rename_i c _ _ _ _ _
        cases (c == Value.type "enumerate") <;> (wp_walk using wpAny_loadPart' ho, it_src hq; exact ⟨_, rfl, h⟩)
      · wp_walk using wpAny_loadPart' ho, it_src hq
        exact ⟨_, rfl, h⟩
section
variable {prog : Program} {w : World} {A : Around} {E : Value → Shared → Prop} {s : Shared}
theorem call_en {b : SK} {a : Addr} {xs : Array Value} {Q : Value → Shared → Prop} (q : b.Sq s.heap a xs) (h : ∀ h', IsEnum h' (s.heap.objs.size + 1) s.heap.objs.size 0 .none → b.It h' s.heap.objs.size a 0 →
    (∀ c o, s.heap.get? c = some o → h'.get? c = some o) → Q (.ref (s.heap.objs.size + 1)) { s with heap := h' }) : wpAny (model prog w) A (call (.type "enumerate") [.ref a]) Q E s := by
  obtain ⟨d, n, sl, ho⟩ := q.ob
  refine callType_new F.called_enumerate (by decide) (F.typeCall_enumerate_1 _) (F.newCall_enumerate_1 _) (fun obj => F.args_object_init_2 obj _) F.entry_enumerate_new (meets_en (b := b) (a := a) (xs := xs) (n := n) (d := d) (sl := sl)) ⟨ho, ?_⟩
  have l1 : (s.heap.push (b.obj a)).objs.size = s.heap.objs.size + 1 := Heap.size_push ..
  have gE : ((s.heap.push (b.obj a)).push (eObj s.heap.objs.size 0 .none)).get? (s.heap.push (b.obj a)).objs.size = some _ := Heap.get?_push_size _ rfl
  have gI : ((s.heap.push (b.obj a)).push (eObj s.heap.objs.size 0 .none)).get? s.heap.objs.size = some (b.obj a) := Heap.get?_push_of_some _ (Heap.get?_push_size _ (by cases b <;> rfl))
  show _ ∧ _
  rw [l1] at gE ⊢
  exact ⟨⟨_, gE, rfl⟩, h _ gE (it_new gI) fun c o x => Heap.get?_push_of_some _ (Heap.get?_push_of_some _ x)⟩
theorem en_item {b : SK} {e it a : Addr} {i : Nat} {xs : Array Value} {x old : Value} {Q : Value → Shared → Prop} (he : IsEnum s.heap e it i old) (ht : b.It s.heap it a i) (hq : b.Sq s.heap a xs) (hx : xs[i]? = some x) (hne : e ≠ it)
    (hQ : ∀ h', IsEnumOut h' e it ((i : Int) + 1) x s.heap.objs.size → b.It h' it a (i + 1) → h'.get? s.heap.objs.size = some { cls := .type "tuple", data := .seq #[.int i s.toks, x] } →
      (∀ c o, c ≠ e → c ≠ it → s.heap.get? c = some o → h'.get? c = some o) → Q (.ref s.heap.objs.size) { s with heap := h', toks := s.toks + 1 }) :
    wpAny (model prog w) A (Builtin.«enumerate.__next__» ⟨[.ref e], []⟩) (fun r s' => ∃ v, r = .done (.ret v) ∧ Q v s') E s := by
  obtain ⟨hp, g, d, tk, os⟩ := s
  show wpAny _ _ (field (.ref e) 2 >>= _) _ _ _
  refine wpAny_bind (wpAny_field he rfl (x := .ref it) rfl (wpAny_bind (nx_item ht hq hx fun g1 t1 s1 => ?_)))
  have k1 : IsEnum g1 e it i old := (s1.2 e hne).trans he
  show wpAny _ _ (field (.ref e) 3 >>= _) _ _ ⟨g1, g, d, tk, os⟩
  refine wpAny_bind (wpAny_field k1 rfl (x := rawInt i) rfl ?_)
  show wpAny _ _ (field (.ref e) 4 >>= _) _ _ ⟨g1, g, d, tk, os⟩
  refine wpAny_bind (wpAny_field k1 rfl (x := .none) rfl ?_)
  show wpAny _ _ (mkInt i >>= _) _ _ ⟨g1, g, d, tk, os⟩
  refine wpAny_bind (wpAny_mkInt ?_)
  show wpAny _ _ (setField (.ref e) 3 (rawInt ((i : Int) + 1)) >>= _) _ _ ⟨g1, g, d, tk + 1, os⟩
  refine wpAny_bind (wpAny_setField_rec k1 (by simp) fun g2 k2 s2 => ?_)
  replace k2 : IsEnum g2 e it ((i : Int) + 1) old := k2
  show wpAny _ _ (setField (.ref e) 4 .none >>= _) _ _ ⟨g2, g, d, tk + 1, os⟩
  refine wpAny_bind (wpAny_setField_rec k2 (by simp) fun g3 k3 s3 => ?_)
  replace k3 : IsEnum g3 e it ((i : Int) + 1) old := k3
  show wpAny _ _ (newTuple [.int i tk, x] >>= _) _ _ ⟨g3, g, d, tk + 1, os⟩
  refine wpAny_bind (wpAny_newTuple ?_)
  have hs : g3.objs.size = hp.objs.size := by rw [sz s3, sz s2, sz s1]
  have le : e < hp.objs.size := Heap.lt_size he
  have k4 : IsEnum (g3.push { cls := .type "tuple", data := .seq #[.int i tk, x] }) e it ((i : Int) + 1) old := Heap.get?_push_of_some _ k3
  have n4 : (g3.push { cls := .type "tuple", data := .seq #[.int i tk, x] }).get? hp.objs.size = some { cls := .type "tuple", data := .seq #[.int i tk, x] } := by rw [← hs]; exact Heap.get?_push_size _ rfl
  have p4 : ∀ c o, c ≠ e → c ≠ it → hp.get? c = some o → (g3.push { cls := .type "tuple", data := .seq #[.int i tk, x] }).get? c = some o := fun c o ce ci q =>
    Heap.get?_push_of_some _ (s3.extBut c o ce (s2.extBut c o ce (s1.extBut c o ci q)))
  have t4 : b.It (g3.push { cls := .type "tuple", data := .seq #[.int i tk, x] }) it a (i + 1) := ((t1.ext s2.extBut hne.symm).ext s3.extBut hne.symm).to fun o q => Heap.get?_push_of_some _ q
  generalize g3.push { cls := .type "tuple", data := .seq #[.int i tk, x] } = g4 at k4 n4 p4 t4 ⊢
  show wpAny _ _ (Builtin.SmallTypes.ownedTupleIsFree (.ref e) >>= _) _ _ ⟨g4, g, d, tk + 1, os⟩
  rw [hs]
  refine wpAny_bind ?_
  unfold Builtin.SmallTypes.ownedTupleIsFree
  refine wpAny_bind (wpAny_field k4 rfl (x := .none) rfl (wpAny_pure ?_))
  simp only [if_true]
  refine wpAny_bind (wpAny_rule (wpAny_bind (wpAny_field k4 rfl (x := old) rfl ?_)))
  refine wpAny_bind (wpAny_setField_rec k4 (by simp) fun g5 k5 s5 => ?_)
  replace k5 : IsEnum g5 e it ((i : Int) + 1) x := k5
  show wpAny _ _ (Builtin.SmallTypes.ownedTupleHandOut (.ref e) (.ref hp.objs.size) >>= _) _ _ ⟨g5, g, d, tk + 1, os⟩
  refine wpAny_bind ?_
  unfold Builtin.SmallTypes.ownedTupleHandOut
  refine wpAny_bind (wpAny_setField_rec k5 (by simp) fun g6 k6 s6 => ?_)
  replace k6 : IsEnumOut g6 e it ((i : Int) + 1) x hp.objs.size := k6
  refine wpAny_setField_rec k6 (by simp) fun g7 k7 s7 => ?_
  replace k7 : IsEnumOut g7 e it ((i : Int) + 1) x hp.objs.size := k7
  have up : ∀ c o, c ≠ e → g4.get? c = some o → g7.get? c = some o := fun c o ce q => s7.extBut _ _ ce (s6.extBut _ _ ce (s5.extBut _ _ ce q))
  exact wpAny_bind (wpAny_letGo (wpAny_pure ⟨_, rfl, hQ g7 k7 (t4.to fun o q => up _ o hne.symm q) (up _ _ (Nat.ne_of_gt le) n4) fun c o ce ci q => up c o ce (p4 c o ce ci q)⟩))
theorem pye_item {b : SK} {e it a : Addr} {i : Nat} {xs : Array Value} {x old : Value} {Q : Option Value → Shared → Prop} (he : IsEnum s.heap e it i old) (ht : b.It s.heap it a i) (hq : b.Sq s.heap a xs) (hx : xs[i]? = some x) (hne : e ≠ it)
    (hQ : ∀ h', IsEnumOut h' e it ((i : Int) + 1) x s.heap.objs.size → b.It h' it a (i + 1) → h'.get? s.heap.objs.size = some { cls := .type "tuple", data := .seq #[.int i s.toks, x] } →
      (∀ c o, c ≠ e → c ≠ it → s.heap.get? c = some o → h'.get? c = some o) → Q (some (.ref s.heap.objs.size)) { s with heap := h', toks := s.toks + 1 }) : wpAny (model prog w) A (pyNext (.ref e)) Q E s := by
  have hT : s.TypeIs (.ref e) "enumerate" := ⟨_, he, rfl⟩
  unfold pyNext
  exact wpAny_bind (wpAny_attempt (wpAny_callSpecial?_slot (name := Str.ofString "__next__") hT F.slot_enumerate_next (wpAny_call_entry F.slot_enumerate_next hT F.entry_enumerate_next
    (en_item he ht hq hx hne fun h' k1 k2 k3 k4 => wpAny_pure (hQ h' k1 k2 k3 k4)) (F.args_enumerate_next_1 _))))
theorem pye_end {b : SK} {e it a : Addr} {i : Nat} {xs : Array Value} {old : Value} {Q : Option Value → Shared → Prop} (hh : A.handled = none) (he : IsEnum s.heap e it i old) (ht : b.It s.heap it a i) (hq : b.Sq s.heap a xs) (hx : xs[i]? = none)
    (hQ : ∀ h', Heap.ExtBut it s.heap h' → Q none { s with heap := h' }) : wpAny (model prog w) A (pyNext (.ref e)) Q E s := by
  have hT : s.TypeIs (.ref e) "enumerate" := ⟨_, he, rfl⟩
  unfold pyNext
  refine wpAny_bind (wpAny_attempt (wpAny_callSpecial?_slot (name := Str.ofString "__next__") hT F.slot_enumerate_next (wpAny_call_entry F.slot_enumerate_next hT F.entry_enumerate_next ?_ (F.args_enumerate_next_1 _))))
  show wpAny _ _ (field (.ref e) 2 >>= _) _ _ _
  refine wpAny_bind (wpAny_field he rfl (x := .ref it) rfl (wpAny_bind (nx_end hh ht hq hx fun h' c rx ex => ?_)))
  obtain ⟨o, ho, hc⟩ := ex
  exact wpAny_bind (wpAny_isInstance (T := "StopIteration") (b := true) ⟨o, ho, hc⟩ isSubtype_stop (wpAny_pure (hQ _ rx)))
end
/-- the items of a source as they stand at each turn, with their numbers in new tuples -/
def ItE (K : PySem.W.Frag) (b : SK) (a : Addr) : It :=
  ⟨fun i H => ∃ (m : List V) (x : V), b.Vq K H a m ∧ m[i]? = some x, fun i H v H' => ∃ T x, v = .ref T ∧ H T = none ∧ H' = upd H T (.tup [.int (i : Nat), x]) ∧ ∀ m, b.Vq K H a m → m[i]? = some x,
    fun i H => ∃ m : List V, b.Vq K H a m ∧ m.length ≤ i⟩
theorem turnE {P : Program} {w : World} {K : PySem.W.Frag} {elts : List Expr} {kk : Nat} {tpos : Pos} {b : SK} {a e it : Addr} :
    Turn P w K (.Tuple elts kk tpos) (ItE K b a) [e, it] e (fun i h => (∃ old, IsEnum h e it ((i : Nat) : Int) old) ∧ b.It h it a i ∧ e ≠ it) where
  mem := by simp
  obj := fun i h st c hc => by
    obtain ⟨⟨old, he⟩, ht, _⟩ := st
    have q : c = e ∨ c = it := by simpa using hc
    rcases q with rfl | rfl
    · exact ⟨_, he, fun v q => nomatch q⟩
    · exact ht.has
  keep := fun i h h' st k => by
    obtain ⟨⟨old, he⟩, ht, hne⟩ := st
    exact ⟨⟨old, k e (by simp) _ he⟩, ht.to fun o q => k it (by simp) o q, hne⟩
  item := by
    intro X hP hw hK hc i pins s σ H E I hf st hg
    subst hP hw hK
    obtain ⟨⟨old, he⟩, ht, hne⟩ := st
    obtain ⟨m, x, w1, e1⟩ := hg
    obtain ⟨n1, rv, q1⟩ := SK.Vq.get I w1
    obtain ⟨u, hu, ru⟩ := rv.get e1
    have le : e < s.heap.objs.size := Heap.lt_size he
    refine pye_item he ht q1 (x := u) (by simpa using hu) hne fun h' k1 k2 kT kk => ?_
    refine ⟨_, rfl, wpAny_letOwnedTupleGo_enum (s := { s with heap := h', toks := s.toks + 1 }) k1 fun h'' k3 sb => ?_⟩
    have kT2 : h''.get? s.heap.objs.size = some { cls := .type "tuple", data := .seq #[.int i s.toks, u] } := (sb.2 _ (Nat.ne_of_gt le)).trans kT
    have new : ObjOk X.prog X.w (upd H s.heap.objs.size (.tup [.int (i : Nat), x])) h'' s.heap.objs.size (.tup [.int (i : Nat), x]) := ⟨by show 2 ≤ sizeLine; decide, [.int i s.toks, u], .cons ⟨_, rfl⟩ (.cons ru .nil), ⟨_, kT2, rfl, _, rfl⟩⟩
    have I1 : Inv X pins σ (upd H s.heap.objs.size (.tup [.int (i : Nat), x])) { s with heap := h'', toks := s.toks + 1 } :=
      I.turnedNew (ch := [e, it]) (fun c o hb q => (sb.2 c (fun z => hb (by simp [z]))).trans (kk c o (fun z => hb (by simp [z])) (fun z => hb (by simp [z])) q)) hf (Nat.le_refl _) new
    refine ⟨.ref s.heap.objs.size, _, I1, rfl, ⟨_, x, rfl, I.hok.fresh (Nat.le_refl _), rfl, fun l hl => by rw [SK.Vq.inj I hl w1]; exact e1⟩, ⟨⟨u, ?_⟩, k2.to fun o q => (sb.2 it hne.symm).trans q, hne⟩, fun c hcm => ?_⟩
    · have e1 : ((i + 1 : Nat) : Int) = (i : Int) + 1 := by omega
      rw [e1]; exact k3
    · have lt : c < s.heap.objs.size := by
        have q : c = e ∨ c = it := by simpa using hcm
        rcases q with rfl | rfl
        · exact le
        · exact ht.lt
      rw [upd_ne (Nat.ne_of_lt lt)]
      exact (hf c hcm).1
  done := by
    intro X hP hw hK hc i pins s σ H E I hf st hg
    subst hP hw hK
    obtain ⟨⟨old, he⟩, ht, hne⟩ := st
    obtain ⟨m, w1, hend⟩ := hg
    obtain ⟨n1, rv, q1⟩ := SK.Vq.get I w1
    obtain ⟨f0, f1, f2, f3, f4, f5⟩ := hf it (by simp)
    have l1 := rv.length
    exact pye_end (I.ok.hd hc) he ht q1 (by simp; omega) fun h' rx => ⟨rfl, I.turned (t' := s.toks) (fun c o hb q => rx c o hb q) f0 f1 f3 f4 f5⟩
  self := fun A i s Q E st h => let ⟨⟨_, he⟩, _⟩ := st; wpAny_pyIter_enum he h
def iE (K : PySem.W.Frag) (ta : TA) : TI := fun σ H R => ta σ H fun vs H1 => ∃ (b : SK) (a : Addr) (m : List V), vs = [.ref a] ∧ b.Vq K H1 a m ∧ R (ItE K b a) H1
theorem pi_en {X : Cx} {e : Expr} {ta : TA} {p pos tpos : Pos} {elts : List Expr} {kk : Nat} (hg : Gl X "enumerate") (hm : X.mg "enumerate" = none) (ha : PA X [e] ta) (hs : starEach [e] X.env = [(false, eval e X.env)] := by rfl) :
    PI X (.Tuple elts kk tpos) (.Call (.Name "enumerate" p) [e] [] pos) (iE X.K ta) := by
  refine ⟨fun pins s σ H R I h => ?_⟩
  refine Call_ (ld_blt I hg hm boot_enumerate (PyProof.Rows.callWith_type1 (thn (ha.run pos pins s σ H _ I h) fun us s1 ⟨vs, H1, I1, r1, q1⟩ => ?_) hs rfl))
  obtain ⟨b, a, m, ex, w1, q⟩ := q1
  subst ex
  have eu := vrefs [a] us r1
  subst eu
  obtain ⟨n1, _, q1⟩ := SK.Vq.get I1 w1
  refine call_en q1 fun h' he ht hk => wpAny_pyIter_enum he ?_
  have I2 : Inv X pins σ H1 { s1 with heap := h' } := I1.kept (t' := s1.toks) hk
  refine ⟨_, [s1.heap.objs.size + 1, s1.heap.objs.size], _, _, H1, rfl, I2, turnE (b := b) (a := a) (e := s1.heap.objs.size + 1) (it := s1.heap.objs.size), ⟨⟨.none, he⟩, ht, Nat.succ_ne_self _⟩, fun c hcm => ?_, q⟩
  have e' : c = s1.heap.objs.size + 1 ∨ c = s1.heap.objs.size := by simpa using hcm
  have hle : s1.heap.objs.size ≤ c := by rcases e' with rfl | rfl <;> first | exact Nat.le_refl _ | exact Nat.le_add_right _ _
  exact I1.fpOk hle (I1.hok.fresh hle)
end HZ
end

section
set_option Elab.async false
set_option linter.all false
set_option maxRecDepth 100000
set_option maxHeartbeats 1000000
set_option autoImplicit false
/-! HFN: zip, enumerate, reversed walked; constants of the module. -/
namespace HF
open PySem PySem.Spec PyProof.Rows L2 HZ

/-! ### sources by value -/
def srcP : PV → Option (List PV)
  | .lst ps => some ps
  | .tup ps => some ps
  | .scr ns => some (ns.map .int)
  | _ => none
def zipP : List PV → List PV → List PV
  | p :: ps, q :: qs => .tup [p, q] :: zipP ps qs
  | _, _ => []
def zipP3 : List PV → List PV → List PV → List PV
  | p :: ps, q :: qs, r :: rs => .tup [p, q, r] :: zipP3 ps qs rs
  | _, _, _ => []
def enuP : Nat → List PV → List PV
  | n, p :: ps => .tup [.int n, p] :: enuP (n + 1) ps
  | _, [] => []
def iZip2 (fs : PM (List Arg)) : PM (List PV) := bnd fs fun as => bnd (relAll as) fun ps => match ps with
  | [p, q] => (match srcP p, srcP q with
    | some xs, some ys => ret (zipP xs ys)
    | _, _ => stk)
  | _ => stk
def iZip3 (fs : PM (List Arg)) : PM (List PV) := bnd fs fun as => bnd (relAll as) fun ps => match ps with
  | [p, q, r] => (match srcP p, srcP q, srcP r with
    | some xs, some ys, some zs => ret (zipP3 xs ys zs)
    | _, _, _ => stk)
  | _ => stk
def iEnu (fs : PM (List Arg)) : PM (List PV) := bnd fs fun as => bnd (relAll as) fun ps => match ps with
  | [p] => (match srcP p with
    | some xs => ret (enuP 0 xs)
    | _ => stk)
  | _ => stk
def iRev (f : PM Arg) : PM (List PV) := bnd f fun a => bnd (rel1 a) fun p => match srcP p with
  | some xs => ret xs.reverse
  | none => stk
theorem zipP_get : ∀ {xs ys : List PV} {i : Nat} {p : PV}, (zipP xs ys)[i]? = some p → ∃ x y, xs[i]? = some x ∧ ys[i]? = some y ∧ p = .tup [x, y]
  | [], _, i, p, h => by simp [zipP] at h
  | _ :: _, [], i, p, h => by simp [zipP] at h
  | x :: xs, y :: ys, 0, p, h => by simp [zipP] at h; exact ⟨x, y, rfl, rfl, h.symm⟩
  | x :: xs, y :: ys, i + 1, p, h => by
    obtain ⟨a, b, h1, h2, h3⟩ := zipP_get (xs := xs) (ys := ys) (i := i) (p := p) (by simpa [zipP] using h)
    exact ⟨a, b, by simpa using h1, by simpa using h2, h3⟩
theorem zipP_len : ∀ (xs ys : List PV), (zipP xs ys).length = min xs.length ys.length
  | [], _ => by simp [zipP]
  | _ :: _, [] => by simp [zipP]
  | x :: xs, y :: ys => by simp [zipP, zipP_len xs ys]
theorem zipP3_get : ∀ {xs ys zs : List PV} {i : Nat} {p : PV}, (zipP3 xs ys zs)[i]? = some p → ∃ x y z, xs[i]? = some x ∧ ys[i]? = some y ∧ zs[i]? = some z ∧ p = .tup [x, y, z]
  | [], _, _, i, p, h => by simp [zipP3] at h
  | _ :: _, [], _, i, p, h => by simp [zipP3] at h
  | _ :: _, _ :: _, [], i, p, h => by simp [zipP3] at h
  | x :: xs, y :: ys, z :: zs, 0, p, h => by simp [zipP3] at h; exact ⟨x, y, z, rfl, rfl, rfl, h.symm⟩
  | x :: xs, y :: ys, z :: zs, i + 1, p, h => by
    obtain ⟨a, b, c, h1, h2, h3, h4⟩ := zipP3_get (xs := xs) (ys := ys) (zs := zs) (i := i) (p := p) (by simpa [zipP3] using h)
    exact ⟨a, b, c, by simpa using h1, by simpa using h2, by simpa using h3, h4⟩
theorem zipP3_len : ∀ (xs ys zs : List PV), (zipP3 xs ys zs).length = min xs.length (min ys.length zs.length)
  | [], _, _ => by simp [zipP3]
  | _ :: _, [], _ => by simp [zipP3]
  | _ :: _, _ :: _, [] => by simp [zipP3]
  | x :: xs, y :: ys, z :: zs => by simp [zipP3, zipP3_len xs ys zs]
theorem enuP_get : ∀ {xs : List PV} {n i : Nat} {p : PV}, (enuP n xs)[i]? = some p → ∃ x, xs[i]? = some x ∧ p = .tup [.int (n + i : Nat), x]
  | [], n, i, p, h => by simp [enuP] at h
  | x :: xs, n, 0, p, h => by simp [enuP] at h; exact ⟨x, rfl, h.symm⟩
  | x :: xs, n, i + 1, p, h => by
    obtain ⟨a, h1, h2⟩ := enuP_get (xs := xs) (n := n + 1) (i := i) (p := p) (by simpa [enuP] using h)
    exact ⟨a, by simpa using h1, by rw [h2]; congr 4; omega⟩
theorem enuP_len : ∀ (n : Nat) (xs : List PV), (enuP n xs).length = xs.length
  | _, [] => rfl
  | n, x :: xs => by simp [enuP, enuP_len (n + 1) xs]
section
variable {K : Frg} {Hq Hv H H' : Hp} {b b2 b3 : SK} {a a2 a3 : Addr} {vs vs2 vs3 : List V} {ps ps2 ps3 : List PV}
theorem vq_ext (e : Ext H H') (h : b.Vq K.K H a vs) : b.Vq K.K H' a vs := by
  cases b
  · exact e.sqL h
  · exact e.sqT h
theorem vq_noT (h : b.Vq K.K H a vs) : b.Vq K.K (noT H) a vs := by
  cases b
  · exact sqL_noT h
  · exact sqT_noT h
theorem src_of {v : V} {p : PV} {xs : List PV} (r : Rep K H v p) (h : srcP p = some xs) : ∃ (b : SK) (a : Addr) (vs : List V), v = .ref a ∧ b.Vq K.K H a vs ∧ Reps K H vs xs := by
  cases r with
  | lst hq rs => cases h; exact ⟨.l, _, _, rfl, .inl (.of hq), rs⟩
  | tup hq rs => cases h; exact ⟨.t, _, _, rfl, hq, rs⟩
  | scr hq => cases h; exact ⟨.l, _, _, rfl, hq, reps_ints _⟩
  | _ => cases h
theorem rep_newT {T : Addr} {xs : List V} {qs : List PV} (e : Ext Hv H) (hn : H T = none) (r : Reps K Hv xs qs) : Ext H (upd H T (.tup xs)) ∧ Rep K (grow Hv H (upd H T (.tup xs))) (.ref T) (.tup qs) :=
  ⟨ext_upd hn, by
    have e2 : Ext Hv (grow Hv H (upd H T (.tup xs))) := grow_old e
    exact .tup (.inl (.of (by rw [grow_new hn]; exact upd_same))) (r.ext e2)⟩
theorem wk_z2 : Wk K (It2 K.K b a b2 a2) (fun Hq Hv => (b.Vq K.K Hq a vs ∧ Reps K Hv vs ps) ∧ b2.Vq K.K Hq a2 vs2 ∧ Reps K Hv vs2 ps2) (zipP ps ps2) where
  mono := fun _ _ _ _ ⟨⟨h, r⟩, h2, r2⟩ e1 e2 => ⟨⟨vq_ext e1 h, r.ext e2⟩, vq_ext e1 h2, r2.ext e2⟩
  nt := fun _ _ ⟨⟨h, r⟩, h2, r2⟩ => ⟨⟨vq_noT h, r.noT⟩, vq_noT h2, r2.noT⟩
  go := fun i p H Hq Hv ⟨⟨h, r⟩, h2, r2⟩ e1 e2 hp => by
    obtain ⟨x, y, g1, g2, _⟩ := zipP_get hp
    obtain ⟨v, hv, _⟩ := r.get g1
    obtain ⟨u, hu, _⟩ := r2.get g2
    exact ⟨vs, v, vs2, u, vq_ext e1 h, hv, vq_ext e1 h2, hu⟩
  yld := fun i p H Hq Hv x H' ⟨⟨h, r⟩, h2, r2⟩ e1 e2 hp ⟨T, y1, y2, ev, hn, eH, q1, q2⟩ => by
    obtain ⟨x, y, g1, g2, ep⟩ := zipP_get hp
    obtain ⟨v, hv, rv⟩ := r.get g1
    obtain ⟨u, hu, ru⟩ := r2.get g2
    have w1 := q1 vs (vq_ext e1 h)
    have w2 := q2 vs2 (vq_ext e1 h2)
    rw [hv] at w1; cases w1
    rw [hu] at w2; cases w2
    subst ev eH ep
    exact rep_newT (e2.trans e1) hn (.cons rv (.cons ru .nil))
  stop := fun i H Hq Hv ⟨⟨h, r⟩, h2, r2⟩ e1 e2 hl => ⟨vs, vs2, vq_ext e1 h, vq_ext e1 h2, by
    rw [zipP_len] at hl
    have := r.length
    have := r2.length
    omega⟩
theorem wk_z3 : Wk K (It3 K.K b a b2 a2 b3 a3) (fun Hq Hv => (b.Vq K.K Hq a vs ∧ Reps K Hv vs ps) ∧ (b2.Vq K.K Hq a2 vs2 ∧ Reps K Hv vs2 ps2) ∧ b3.Vq K.K Hq a3 vs3 ∧ Reps K Hv vs3 ps3) (zipP3 ps ps2 ps3) where
  mono := fun _ _ _ _ ⟨⟨h, r⟩, ⟨h2, r2⟩, h3, r3⟩ e1 e2 => ⟨⟨vq_ext e1 h, r.ext e2⟩, ⟨vq_ext e1 h2, r2.ext e2⟩, vq_ext e1 h3, r3.ext e2⟩
  nt := fun _ _ ⟨⟨h, r⟩, ⟨h2, r2⟩, h3, r3⟩ => ⟨⟨vq_noT h, r.noT⟩, ⟨vq_noT h2, r2.noT⟩, vq_noT h3, r3.noT⟩
  go := fun i p H Hq Hv ⟨⟨h, r⟩, ⟨h2, r2⟩, h3, r3⟩ e1 e2 hp => by
    obtain ⟨x, y, z, g1, g2, g3, _⟩ := zipP3_get hp
    obtain ⟨v, hv, _⟩ := r.get g1
    obtain ⟨u, hu, _⟩ := r2.get g2
    obtain ⟨t, ht, _⟩ := r3.get g3
    exact ⟨vs, v, vs2, u, vs3, t, vq_ext e1 h, hv, vq_ext e1 h2, hu, vq_ext e1 h3, ht⟩
  yld := fun i p H Hq Hv x H' ⟨⟨h, r⟩, ⟨h2, r2⟩, h3, r3⟩ e1 e2 hp ⟨T, y1, y2, y3, ev, hn, eH, q1, q2, q3⟩ => by
    obtain ⟨x, y, z, g1, g2, g3, ep⟩ := zipP3_get hp
    obtain ⟨v, hv, rv⟩ := r.get g1
    obtain ⟨u, hu, ru⟩ := r2.get g2
    obtain ⟨t, ht, rt⟩ := r3.get g3
    have w1 := q1 vs (vq_ext e1 h)
    have w2 := q2 vs2 (vq_ext e1 h2)
    have w3 := q3 vs3 (vq_ext e1 h3)
    rw [hv] at w1; cases w1
    rw [hu] at w2; cases w2
    rw [ht] at w3; cases w3
    subst ev eH ep
    exact rep_newT (e2.trans e1) hn (.cons rv (.cons ru (.cons rt .nil)))
  stop := fun i H Hq Hv ⟨⟨h, r⟩, ⟨h2, r2⟩, h3, r3⟩ e1 e2 hl => ⟨vs, vs2, vs3, vq_ext e1 h, vq_ext e1 h2, vq_ext e1 h3, by
    rw [zipP3_len] at hl
    have := r.length
    have := r2.length
    have := r3.length
    omega⟩
theorem wk_en : Wk K (ItE K.K b a) (fun Hq Hv => b.Vq K.K Hq a vs ∧ Reps K Hv vs ps) (enuP 0 ps) where
  mono := fun _ _ _ _ ⟨h, r⟩ e1 e2 => ⟨vq_ext e1 h, r.ext e2⟩
  nt := fun _ _ ⟨h, r⟩ => ⟨vq_noT h, r.noT⟩
  go := fun i p H Hq Hv ⟨h, r⟩ e1 e2 hp => by
    obtain ⟨x, g1, _⟩ := enuP_get hp
    obtain ⟨v, hv, _⟩ := r.get g1
    exact ⟨vs, v, vq_ext e1 h, hv⟩
  yld := fun i p H Hq Hv x H' ⟨h, r⟩ e1 e2 hp ⟨T, y1, ev, hn, eH, q1⟩ => by
    obtain ⟨x, g1, ep⟩ := enuP_get hp
    obtain ⟨v, hv, rv⟩ := r.get g1
    have w1 := q1 vs (vq_ext e1 h)
    rw [hv] at w1; cases w1
    rw [Nat.zero_add] at ep
    subst ev eH ep
    exact rep_newT (e2.trans e1) hn (.cons (.int _) (.cons rv .nil))
  stop := fun i H Hq Hv ⟨h, r⟩ e1 e2 hl => ⟨vs, vq_ext e1 h, by
    rw [enuP_len] at hl
    have := r.length
    omega⟩
theorem wk_rev (J : It) (n : Nat) (hn : n = vs.length) (hJ : (b = .l ∧ J = Itv K.K a n) ∨ (b = .t ∧ J = RT.ItvT K.K a n)) : Wk K J (fun Hq Hv => b.Vq K.K Hq a vs ∧ Reps K Hv vs ps) ps.reverse := by
  have get : ∀ {Hv : Hp} (r : Reps K Hv vs ps) {i : Nat} {p : PV}, ps.reverse[i]? = some p → i < n ∧ ∃ v, vs[n - 1 - i]? = some v ∧ Rep K Hv v p := fun {Hv} r {i p} hp => by
    have hi : i < ps.length := by have := (List.getElem?_eq_some_iff.mp hp).1; simpa using this
    rw [List.getElem?_reverse hi] at hp
    have hl := r.length
    refine ⟨by omega, ?_⟩
    rw [hn, hl]
    exact r.get hp
  refine ⟨fun _ _ _ _ ⟨h, r⟩ e1 e2 => ⟨vq_ext e1 h, r.ext e2⟩, fun _ _ ⟨h, r⟩ => ⟨vq_noT h, r.noT⟩, fun i p H Hq Hv ⟨h, r⟩ e1 e2 hp => ?_, fun i p H Hq Hv x H' ⟨h, r⟩ e1 e2 hp y => ?_, fun i H Hq Hv ⟨h, r⟩ e1 e2 hl => ?_⟩
  · obtain ⟨hi, v, hv, _⟩ := get r hp
    rcases hJ with ⟨rfl, rfl⟩ | ⟨rfl, rfl⟩ <;> exact ⟨hi, vs, v, vq_ext e1 h, hv⟩
  · obtain ⟨hi, v, hv, rv⟩ := get r hp
    have e3 : H' = H ∧ vs[n - 1 - i]? = some x := by
      rcases hJ with ⟨rfl, rfl⟩ | ⟨rfl, rfl⟩ <;> exact ⟨y.1, y.2 vs (vq_ext e1 h)⟩
    obtain ⟨rfl, e4⟩ := e3
    rw [hv] at e4; cases e4
    exact ⟨Ext.refl, by rw [grow_self (e2.trans e1)]; exact rv⟩
  · have := r.length
    rw [List.length_reverse] at hl
    rcases hJ with ⟨rfl, rfl⟩ | ⟨rfl, rfl⟩ <;> (show n ≤ i; omega)
end
section
variable {X : Cx} {W : WX} {tg e e1 e2 e3 : Expr} {f : PM Arg} {fs : PM (List Arg)} {p pos tpos : Pos} {elts : List Expr} {kk : Nat}
theorem hv_hqV {K : Frg} {b : SK} {Z : Addr → Prop} {σ : L2.St} {s : SE} {H : Hp} {a : Addr} {vs : List V} (h : b.Vq K.K (Hd Z σ s H) a vs) : b.Vq K.K (HF.Hq σ s H) a vs := vq_ext hv_hq h
theorem qi_zip2 (hg : Gl X "zip") (hm : X.mg "zip" = none) (ha : QA X W [e1, e2] fs) (hs : starEach [e1, e2] X.env = (false, eval e1 X.env) :: starEach [e2] X.env := by rfl) (hpl : (backTo pos (starEach [e2] X.env)).any (·.1) = false := by rfl) :
    QI X W (.Tuple elts kk tpos) (.Call (.Name "zip" p) [e1, e2] [] pos) (iZip2 fs) := ⟨pi_mono (pi_z2 hg hm ha.pa hs hpl) fun σ H R ⟨Z, s, R1, h⟩ => by
  refine lA_step R1 (Mt.bnd_ h) fun rs s1 vs H1 k g a1 => ?_
  obtain ⟨ps, s2, k, g2, r⟩ := relAll_post g.rl a1 (Mt.bnd_ k)
  match ps, vs, r, k with
  | [p, q], [v, u], .cons r1 (.cons r2 .nil), k =>
    simp only at k
    cases h1 : srcP p with
    | none => simp only [h1] at k; exact k.elim
    | some xs =>
      cases h2 : srcP q with
      | none => simp only [h1, h2] at k; exact k.elim
      | some ys =>
        simp only [h1, h2] at k
        obtain ⟨b, a, vs, rfl, w1, q1⟩ := src_of r1 h1
        obtain ⟨b2, a2, vs2, rfl, w2, q2⟩ := src_of r2 h2
        exact ⟨b, a, b2, a2, vs, vs2, rfl, vq_ext hid_sub w1, vq_ext hid_sub w2, k _ _ _ (g.trans g2) wk_z2 ⟨⟨hv_hqV w1, q1⟩, hv_hqV w2, q2⟩⟩
  | [], _, _, k => exact k.elim
  | [_], _, _, k => exact k.elim
  | _ :: _ :: _ :: _, _, _, k => exact k.elim⟩
theorem qi_zip3 (hg : Gl X "zip") (hm : X.mg "zip" = none) (ha : QA X W [e1, e2, e3] fs) (hs : starEach [e1, e2, e3] X.env = (false, eval e1 X.env) :: starEach [e2, e3] X.env := by rfl) (hpl : (backTo pos (starEach [e2, e3] X.env)).any (·.1) = false := by rfl) :
    QI X W (.Tuple elts kk tpos) (.Call (.Name "zip" p) [e1, e2, e3] [] pos) (iZip3 fs) := ⟨pi_mono (pi_z3 hg hm ha.pa hs hpl) fun σ H R ⟨Z, s, R1, h⟩ => by
  refine lA_step R1 (Mt.bnd_ h) fun rs s1 vs H1 k g a1 => ?_
  obtain ⟨ps, s2, k, g2, r⟩ := relAll_post g.rl a1 (Mt.bnd_ k)
  match ps, vs, r, k with
  | [p, q, r], [v, u, t], .cons r1 (.cons r2 (.cons r3 .nil)), k =>
    simp only at k
    cases h1 : srcP p with
    | none => simp only [h1] at k; exact k.elim
    | some xs =>
      cases h2 : srcP q with
      | none => simp only [h1, h2] at k; exact k.elim
      | some ys =>
        cases h3 : srcP r with
        | none => simp only [h1, h2, h3] at k; exact k.elim
        | some zs =>
          simp only [h1, h2, h3] at k
          obtain ⟨b, a, vs, rfl, w1, q1⟩ := src_of r1 h1
          obtain ⟨b2, a2, vs2, rfl, w2, q2⟩ := src_of r2 h2
          obtain ⟨b3, a3, vs3, rfl, w3, q3⟩ := src_of r3 h3
          exact ⟨b, a, b2, a2, b3, a3, vs, vs2, vs3, rfl, vq_ext hid_sub w1, vq_ext hid_sub w2, vq_ext hid_sub w3, k _ _ _ (g.trans g2) wk_z3 ⟨⟨hv_hqV w1, q1⟩, ⟨hv_hqV w2, q2⟩, hv_hqV w3, q3⟩⟩
  | [], _, _, k => exact k.elim
  | [_], _, _, k => exact k.elim
  | [_, _], _, _, k => exact k.elim
  | _ :: _ :: _ :: _ :: _, _, _, k => exact k.elim⟩
theorem qi_enu (hg : Gl X "enumerate") (hm : X.mg "enumerate" = none) (ha : QA X W [e1] fs) (hs : starEach [e1] X.env = [(false, eval e1 X.env)] := by rfl) : QI X W (.Tuple elts kk tpos) (.Call (.Name "enumerate" p) [e1] [] pos) (iEnu fs) :=
  ⟨pi_mono (pi_en hg hm ha.pa hs) fun σ H R ⟨Z, s, R1, h⟩ => by
  refine lA_step R1 (Mt.bnd_ h) fun rs s1 vs H1 k g a1 => ?_
  obtain ⟨ps, s2, k, g2, r⟩ := relAll_post g.rl a1 (Mt.bnd_ k)
  match ps, vs, r, k with
  | [p], [v], .cons r1 .nil, k =>
    simp only at k
    cases h1 : srcP p with
    | none => simp only [h1] at k; exact k.elim
    | some xs =>
      simp only [h1] at k
      obtain ⟨b, a, vs, rfl, w1, q1⟩ := src_of r1 h1
      exact ⟨b, a, vs, rfl, vq_ext hid_sub w1, k _ _ _ (g.trans g2) wk_en ⟨hv_hqV w1, q1⟩⟩
  | [], _, _, k => exact k.elim
  | _ :: _ :: _, _, _, k => exact k.elim⟩
theorem qi_rev (hg : Gl X "reversed") (hm : X.mg "reversed" = none) (he : QE X W e f) (hs : starEach [e] X.env = (false, eval e X.env) :: starEach [] X.env := by rfl) : QI X W tg (.Call (.Name "reversed" p) [e] [] pos) (iRev f) :=
  ⟨pi_mono (RT.pi_revA hg hm he.pe hs) fun σ H R ⟨Z, s, R1, h⟩ => by
  refine lE_step R1 (Mt.bnd_ h) fun r s1 v H1 k p => ?_
  obtain ⟨q, s2, k, g, rp⟩ := rel1_step (mg := X.mg) p k.bnd_
  cases h1 : srcP q with
  | none => simp only [h1] at k; exact k.elim
  | some xs =>
    simp only [h1] at k
    obtain ⟨b, a, vs, rfl, w1, q1⟩ := src_of rp h1
    cases b with
    | l => exact ⟨a, vs, rfl, .inl ⟨vq_ext (b := .l) hid_sub w1, k _ _ _ g (wk_rev (b := .l) _ _ rfl (.inl ⟨rfl, rfl⟩)) ⟨hv_hqV w1, q1⟩⟩⟩
    | t => exact ⟨a, vs, rfl, .inr ⟨vq_ext (b := .t) hid_sub w1, k _ _ _ g (wk_rev (b := .t) _ _ rfl (.inr ⟨rfl, rfl⟩)) ⟨hv_hqV w1, q1⟩⟩⟩⟩
end

/-! ### constants of the module -/
def flatOk : Value → PV → Bool
  | .int i _, .int j => decide (i = j)
  | .str x _, .str y => decide (x = y)
  | .none, .non => true
  | .bool b, .bl c => decide (b = c)
  | _, _ => false
def flatsOk : List Value → List PV → Bool
  | [], [] => true
  | v :: vs, p :: ps => flatOk v p && flatsOk vs ps
  | _, _ => false
def conOk (K : PySem.W.Frag) (x : Str) (p : PV) : Bool := match PySem.W.nsIn K mainGlobals x with
  | some (some (.ref a)) => (match K.lookup a, p with
    | some ⟨.type c, _, .seq its _, _⟩, .tup ps => decide (c = "tuple") && (decide (its.size ≤ sizeLine) && flatsOk its.toList ps)
    | _, _ => false)
  | some (some v) => flatOk v p
  | _ => false
def ConOk (K : PySem.W.Frag) (mg : Str → Option Value) (x : Str) (p : PV) : Prop := ∃ (v : V) (u : Value), mg x = some u ∧ RelV v u ∧ ∀ (P : Program) (w : World) (H : Hp), Rep ⟨K, P, w⟩ H v p
theorem flat_ok {K : Frg} {u : Value} {p : PV} (h : flatOk u p = true) : ∃ v, RelV v u ∧ ∀ H, Rep K H v p := by
  unfold flatOk at h
  split at h
  · rw [of_decide_eq_true h]; exact ⟨.int _, ⟨_, rfl⟩, fun _ => .int _⟩
  · rw [of_decide_eq_true h]; exact ⟨.str _, ⟨_, rfl⟩, fun _ => .str _⟩
  · exact ⟨.non, rfl, fun _ => .non⟩
  · rw [of_decide_eq_true h]; exact ⟨.bl _, rfl, fun _ => .bl _⟩
  · cases h
theorem flat_ok2 {u : Value} {p : PV} (h : flatOk u p = true) : ∃ v, RelV v u ∧ ∀ (K : Frg) H, Rep K H v p := by
  unfold flatOk at h
  split at h
  · rw [of_decide_eq_true h]; exact ⟨.int _, ⟨_, rfl⟩, fun _ _ => .int _⟩
  · rw [of_decide_eq_true h]; exact ⟨.str _, ⟨_, rfl⟩, fun _ _ => .str _⟩
  · exact ⟨.non, rfl, fun _ _ => .non⟩
  · rw [of_decide_eq_true h]; exact ⟨.bl _, rfl, fun _ _ => .bl _⟩
  · cases h
theorem flats_ok : ∀ {us : List Value} {ps : List PV}, flatsOk us ps = true → ∃ vs, Vals vs us ∧ ∀ (K : Frg) H, Reps K H vs ps
  | [], [], _ => ⟨[], .nil, fun _ _ => .nil⟩
  | u :: us, p :: ps, h => by
    obtain ⟨h1, h2⟩ := Bool.and_eq_true_iff.mp h
    obtain ⟨v, r, q⟩ := flat_ok2 h1
    obtain ⟨vs, rs, qs⟩ := flats_ok h2
    exact ⟨v :: vs, .cons r rs, fun K H => .cons (q K H) (qs K H)⟩
  | [], _ :: _, h => by cases h
  | _ :: _, [], h => by cases h
theorem con_ok {K : PySem.W.Frag} {h : Heap} {mg : Str → Option Value} {x : Str} {p : PV} (X : K.In h) (G : h.Ns mainGlobals mg) (c : conOk K x p = true) : ConOk K mg x p := by
  unfold conOk at c
  split at c
  · rename_i a e
    have hm := PySem.W.mg_of X G e
    split at c
    · rename_i C o its n sl ps e2
      obtain ⟨h1, h2⟩ := Bool.and_eq_true_iff.mp c
      obtain ⟨h2, h3⟩ := Bool.and_eq_true_iff.mp h2
      obtain ⟨vs, rs, qs⟩ := flats_ok h3
      have hc : C = "tuple" := of_decide_eq_true h1
      exact ⟨.ref a, _, hm, rfl, fun P w H => .tup (.inr ⟨_, its, _, e2, by rw [hc], rfl, of_decide_eq_true h2, rs⟩) (qs _ _)⟩
    · cases c
  · rename_i v e1 e
    obtain ⟨u, r, q⟩ := flat_ok2 c
    exact ⟨u, v, PySem.W.mg_of X G e, r, fun P w H => q _ _⟩
  · cases c
theorem glob_con {X : Cx} {W : WX} {x : Str} {p : PV} {pos : Pos} (hg : Gl X x) (hm : ConOk X.K X.mg x p) (hd : (x == ("__debug__" : Str)) = false := by decide) : QE X W (.Name x pos) (eC p) := by
  obtain ⟨v, u, h1, h2, h3⟩ := hm
  exact qe_glob hg h1 h2 (fun H => h3 _ _ H) hd
end HF
end

section
set_option Elab.async false
set_option linter.all false
set_option maxRecDepth 100000
set_option maxHeartbeats 1000000
set_option autoImplicit false
/-! HFO: and, or over tests with lambdas; name op= int; what is not walked. -/
namespace HF
open PySem PySem.Spec PyProof.Rows L2
section
variable {X : Cx} {W : WX} {T : List (Addr × Str)} {a b e : Expr} {rest : List Expr} {f : PM Arg} {g h : PM Bool} {pos : Pos}
/-- a part without lambdas, read as a bool -/
theorem lb_of (he : QE X W e f) : LB X T e (tBool f) := ⟨pe_mono he.pe fun σ H Q ⟨Z, s, R, t, m⟩ => by
  have m1 := Mt.bnd_ (ex := fun _ _ => False) m
  refine lE_iff.mpr ⟨Z, s, R, ?_⟩
  refine Mt.noex (m1.imp fun r s1 k v H1 p => ?_)
  obtain ⟨b, rfl, g1, k2⟩ := asB_post p k
  exact k2 H1 (g1.gl R t)⟩
theorem GL.fromB {K : Frg} {Z : Addr → Prop} {H H1 : Hp} {σ : L2.St} {s s1 : SE} {r : Rs Bool} {Q : VK} (m : Mt r (fun b s' => ∀ H', GL T K Z H σ s H' σ s' → Q (.bl b) H') (fun _ _ => False)) (g1 : GL T K Z H σ s H1 σ s1) :
    Mt r (fun b s' => ∀ H', GL T K Z H1 σ s1 H' σ s' → Q (.bl b) H') (fun _ _ => False) := m.imp fun b s' q H' g2 => q H' (g1.trans g2)
theorem GL.fromT {K : Frg} {Z : Addr → Prop} {H H1 : Hp} {σ : L2.St} {s s1 : SE} {r : Rs Bool} {Q : Bool → Hp → Prop} (m : Mt r (fun b s' => ∀ H', GL T K Z H σ s H' σ s' → Q b H') (fun _ _ => False)) (g1 : GL T K Z H σ s H1 σ s1) :
    Mt r (fun b s' => ∀ H', GL T K Z H1 σ s1 H' σ s' → Q b H') (fun _ _ => False) := m.imp fun b s' q H' g2 => q H' (g1.trans g2)
theorem lb_one {op : BoolOp} (ha : LB X T a g) : LB X T (.BoolOp op [a] pos) g := ⟨pe_one ha.pe⟩
theorem lb_and (ha : LB X T a g) (hb : LB X T (.BoolOp .And (b :: rest) pos) h) : LB X T (.BoolOp .And (a :: b :: rest) pos) (tAndP g h) :=
  ⟨pe_mono (pe_and ha.pe hb.pe) fun σ H Q ⟨Z, s, R, t, m⟩ => by
    refine lBL_step R t (Mt.bnd_ (ex := fun _ _ => False) m) fun k s1 H1 q g1 => ⟨k, rfl, ?_⟩
    cases k with
    | false => exact q H1 g1
    | true => exact ⟨Z, s1, g1.rl, g1.tb, GL.fromB q g1⟩⟩
theorem lb_or (ha : LB X T a g) (hb : LB X T (.BoolOp .Or (b :: rest) pos) h) : LB X T (.BoolOp .Or (a :: b :: rest) pos) (tOrP g h) :=
  ⟨pe_mono (pe_or ha.pe hb.pe) fun σ H Q ⟨Z, s, R, t, m⟩ => by
    refine lBL_step R t (Mt.bnd_ (ex := fun _ _ => False) m) fun k s1 H1 q g1 => ⟨k, rfl, ?_⟩
    cases k with
    | true => exact q H1 g1
    | false => exact ⟨Z, s1, g1.rl, g1.tb, GL.fromB q g1⟩⟩
theorem lb_not (h : LB X T e g) : LB X T (.UnaryOp .Not e pos) (tNotP g) := ⟨pe_mono (pe_not h.pe) fun σ H Q ⟨Z, s, R, t, m⟩ => by
  refine lBL_step R t (Mt.bnd_ (ex := fun _ _ => False) m) fun k s1 H1 q g1 => ⟨k, rfl, q H1 g1⟩⟩
structure LW (X : Cx) (T : List (Addr × Str)) (e : Expr) (f : PM Bool) : Prop where
  pw : PW X e (lTL T (kx X) f)
theorem lt_w (h : LW X T a g) : LT X T a g := ⟨h.pw.pt⟩
theorem lw_and1 (ha : LT X T a g) : LW X T (.BoolOp .And [a] pos) g := ⟨pw_and1 ha.pt⟩
theorem lw_or1 (ha : LT X T a g) : LW X T (.BoolOp .Or [a] pos) g := ⟨pw_or1 ha.pt⟩
theorem lw_and (ha : LT X T a g) (hb : LW X T (.BoolOp .And (b :: rest) pos) h) : LW X T (.BoolOp .And (a :: b :: rest) pos) (tAndP g h) :=
  ⟨pw_mono (pw_and ha.pt hb.pw) fun σ H Q ⟨Z, s, R, t, m⟩ => by
    refine lTL_step R t (Mt.bnd_ (ex := fun _ _ => False) m) fun k s1 H1 q g1 => ?_
    cases k with
    | true => exact ⟨Z, s1, g1.rl, g1.tb, GL.fromT q g1⟩
    | false => exact q H1 g1⟩
theorem lw_or (ha : LT X T a g) (hb : LW X T (.BoolOp .Or (b :: rest) pos) h) : LW X T (.BoolOp .Or (a :: b :: rest) pos) (tOrP g h) :=
  ⟨pw_mono (pw_or ha.pt hb.pw) fun σ H Q ⟨Z, s, R, t, m⟩ => by
    refine lTL_step R t (Mt.bnd_ (ex := fun _ _ => False) m) fun k s1 H1 q g1 => ?_
    cases k with
    | false => exact ⟨Z, s1, g1.rl, g1.tb, GL.fromT q g1⟩
    | true => exact q H1 g1⟩
/-! what is not walked gives nothing -/
theorem qe_stk : QE X W e stk := ⟨⟨fun pins s σ H Q I q => by obtain ⟨Z, s1, R, h⟩ := q; exact h.elim⟩⟩
theorem qs_stk {pin : List Nat} {st : Stmt} : QS X W pin st stk := ⟨⟨fun pins s σ H D I q => by obtain ⟨Z, s1, R, h⟩ := q; exact h.elim⟩⟩
theorem qt_stk : QT X W e stk := ⟨⟨fun pins s σ H Q I q => by obtain ⟨Z, s1, R, h⟩ := q; exact h.elim⟩⟩
theorem qi_stk {tg : Expr} : QI X W tg e stk := ⟨⟨fun pins s σ H Q I q => by obtain ⟨Z, s1, R, h⟩ := q; exact h.elim⟩⟩
end
/-! ### range(a, b, c) walked -/
def rngC (lo c : Int) (n : Nat) : List PV := (List.range n).map fun (i : Nat) => PV.int (lo + (i : Int) * c)
theorem wk_rngC {K : Frg} (lo c : Int) (n : Nat) : Wk K (Itc lo c n) (fun _ _ => True) (rngC lo c n) where
  mono := fun _ _ _ _ _ _ _ => trivial
  nt := fun _ _ _ => trivial
  go := fun i p H Hq Hv _ _ _ hp => by
    have h := (List.getElem?_eq_some_iff.mp hp).1
    exact (by simpa [rngC] using h : i < n)
  yld := fun i p H Hq Hv x H' _ e1 e2 hp ⟨e, hy⟩ => by
    subst e; subst hy
    have h : i < n := by simpa [rngC] using (List.getElem?_eq_some_iff.mp hp).1
    have q : p = .int (lo + (i : Int) * c) := by
      simp only [rngC, List.getElem?_map, List.getElem?_range h, Option.map_some, Option.some.injEq] at hp
      exact hp.symm
    subst q
    exact ⟨Ext.refl, .int _⟩
  stop := fun i H Hq Hv _ _ _ hl => (by simpa [rngC] using hl : n ≤ i)
def rg3Ok (i j c : Int) : Bool := decide (c ≠ 0) && (decide (c.natAbs < 1073741824) && (Builtin.Range.small i j c && decide (0 ≤ Builtin.Range.rangeSize i j c)))
def iRg3 (fs : PM (List Arg)) : PM (List PV) := bnd fs fun as => match as with
  | [.val (.int i) _, .val (.int j) _, .val (.int c) _] => if rg3Ok i j c = true then ret (rngC i c (Builtin.Range.rangeSize i j c).toNat) else stk
  | _ => stk
theorem qi_rg3 {X : Cx} {W : WX} {tg a b c : Expr} {fs : PM (List Arg)} {p pos : Pos} (hg : Gl X "range") (hm : X.mg "range" = none) (ha : QA X W [a, b, c] fs)
    (hs : starEach [a, b, c] X.env = (false, eval a X.env) :: starEach [b, c] X.env := by rfl) (hpl : (backTo pos (starEach [b, c] X.env)).any (·.1) = false := by rfl) : QI X W tg (.Call (.Name "range" p) [a, b, c] [] pos) (iRg3 fs) :=
  ⟨pi_mono (pi_range3 hg hm ha.pa hs hpl) fun σ H R ⟨Z, s, R1, h⟩ => by
  refine lA_step R1 (Mt.bnd_ h) fun rs s1 vs H1 k g a1 => ?_
  match rs, a1, k with
  | [.val (.int i) _, .val (.int j) _, .val (.int c) _], .cons h1 (.cons h2 (.cons h3 .nil)), k =>
    cases h1
    cases h2
    cases h3
    simp only at k
    split at k
    · rename_i hb
      obtain ⟨q1, hb⟩ := Bool.and_eq_true_iff.mp hb
      obtain ⟨q2, hb⟩ := Bool.and_eq_true_iff.mp hb
      obtain ⟨q3, q4⟩ := Bool.and_eq_true_iff.mp hb
      have q4 := of_decide_eq_true q4
      exact ⟨i, j, c, _, rfl, ⟨of_decide_eq_true q1, of_decide_eq_true q2, q3, by omega⟩, k _ _ _ g (wk_rngC _ _ _) trivial⟩
    · exact k.elim⟩
/-! ### name op= e for ints -/
section
variable {X : Cx}
def onII (f : Int → Int → Option (PV × Bool)) : Op2
  | .int i, .int j => f i j
  | _, _ => none
theorem opi_add : OpR X (inplaceOp .Add) (rOf2 (kx X) (onII fun i j => sI (i + j))) := opr_of fun p1 p2 q fr h => by
  match p1, p2, h with
  | .int i, .int j, h => cases h; exact ⟨_, iop_add, ro_i0⟩
theorem opi_sub : OpR X (inplaceOp .Sub) (rOf2 (kx X) (onII fun i j => sI (i - j))) := opr_of fun p1 p2 q fr h => by
  match p1, p2, h with
  | .int i, .int j, h => cases h; exact ⟨_, iop_sub, ro_i0⟩
def smOk (i : Int) : Bool := decide (-(2 ^ 64) < i ∧ i < 2 ^ 64)
theorem opi_mul : OpR X (inplaceOp .Mult) (rOf2 (kx X) (onII fun i j => if smOk i || smOk j then sI (i * j) else none)) := opr_of fun p1 p2 q fr h => by
  match p1, p2, h with
  | .int i, .int j, h =>
    simp only [onII] at h
    split at h
    · rename_i hc
      cases h
      refine ⟨_, iop_mul, ro_ii (C := CMul) ?_⟩
      rcases Bool.or_eq_true_iff.mp hc with z | z
      · exact .inl (of_decide_eq_true (p := -(2 ^ 64) < i ∧ i < 2 ^ 64) z)
      · exact .inr (of_decide_eq_true (p := -(2 ^ 64) < j ∧ j < 2 ^ 64) z)
    · cases h
end
end HF
end

section
set_option Elab.async false
set_option linter.all false
set_option maxRecDepth 100000
set_option autoImplicit false
/-! PF: the ways of the package's defs, alike in all laws (printed by gen.py). -/
namespace PF
open PySem PySem.Spec PyProof.Rows L2 HF
def F_less : PM Fl := (sSeq (sRet (eOp2 opLt (eOp2 opMul (eOp2 opIx (eVar 0) (eC (.int 0))) (eOp2 opIx (eVar 1) (eC (.int 1)))) (eOp2 opMul (eOp2 opIx (eVar 1) (eC (.int 0))) (eOp2 opIx (eVar 0) (eC (.int 1))))))
  sNext)
def F_sign : PM Fl := (sSeq (sIf (tBool (eOp2 opEq (eOp2 opIx (eVar 0) (eC (.int 0))) (eC (.int 0)))) (sSeq (sRet (eC (.int 0)))
  sNext) sNext)
  (sSeq (sRet (eIf (tBool (eOp2 opGt (eOp2 opIx (eVar 0) (eC (.int 0))) (eC (.int 0)))) (eC (.int 1)) (eOp1 opNeg (eC (.int 1)))))
  sNext))
def F_corners_of_ranges : PM Fl := (sSeq (sIf (tOrP (tBool (eOp2 opNe (eOpN opLen (aCons (eVar 0) aNil)) (eOpN opLen (aCons (eVar 1) aNil)))) (tOrP (tBool (eOp2 opLt (eOpN opLen (aCons (eVar 0) aNil)) (eC (.int 2)))) (tTru (eOpN opAny (aCons (eComp [4, 5] (iOf (iZip2 (aCons (eVar 0) (aCons (eVar 1) aNil)))) (gTp 2 (gsCons (gNm 4) (gsCons (gNm 5) gsNil))) (ret true) (eCall (denOf 2 PF.F_less) (aCons (eVar 5) (aCons (eVar 4) aNil)))) aNil))))) (sSeq (sRaise "InvalidPoly")
  sNext) sNext)
  (sSeq (sIf (tBool (eOp2 opLe (eCall (denOf 1 PF.F_sign) (aCons (eOp2 opIx (eVar 0) (eOp1 opNeg (eC (.int 1)))) aNil)) (eC (.int 0)))) (sSeq (sRaise "InvalidPoly")
  sNext) sNext)
  (sSeq (sSet 2 (eLst aNil))
  (sSeq (sFor (iVal (eTup (aCons (eC (.str "llhh")) (aCons (eC (.str "lhhl")) (aCons (eC (.str "hllh")) (aCons (eC (.str "hhll")) aNil)))))) (gNm 3) (sSeq (sExpr (eMeth 2 opAppend (aCons (eOpN opTuple (aCons (eComp [6] (iOf (iVal (eOpN opRange (aCons (eOpN opLen (aCons (eVar 0) aNil)) aNil)))) (gNm 6) (ret true) (eIf (tBool (eOp2 opEq (eOp2 opIx (eVar 3) (eOp2 opMod (eVar 6) (eC (.int 4)))) (eC (.str "l")))) (eOp2 opIx (eVar 0) (eVar 6)) (eOp2 opIx (eVar 1) (eVar 6)))) aNil)) aNil)))
  sNext))
  (sSeq (sRet (eOpN opTuple (aCons (eVar 2) aNil)))
  sNext)))))
def F_share : PM Fl := (sSeq (sIf (tBool (eOp2 opEq (eVar 1) (eC (.int 0)))) (sSeq (sRaise "InvalidShare")
  sNext) sNext)
  (sSeq (sIf (tBool (eOp2 opLt (eVar 1) (eC (.int 0)))) (sSeq (sPar 0 1 (eOp1 opNeg (eVar 0)) (eOp1 opNeg (eVar 1)))
  sNext) sNext)
  (sSeq (sPar 2 3 (eOpN opAbs (aCons (eVar 0) aNil)) (eVar 1))
  (sSeq (sWhile (tTru (eVar 3)) (sSeq (sPar 2 3 (eVar 3) (eOp2 opMod (eVar 2) (eVar 3)))
  sNext))
  (sSeq (sRet (eTup (aCons (eOp2 opFdiv (eVar 0) (eVar 2)) (aCons (eOp2 opFdiv (eVar 1) (eVar 2)) aNil))))
  sNext)))))
def F_minus : PM Fl := (sSeq (sRet (eCall (denOf 4 PF.F_share) (aCons (eOp2 opSub (eOp2 opMul (eOp2 opIx (eVar 0) (eC (.int 0))) (eOp2 opIx (eVar 1) (eC (.int 1)))) (eOp2 opMul (eOp2 opIx (eVar 1) (eC (.int 0))) (eOp2 opIx (eVar 0) (eC (.int 1))))) (aCons (eOp2 opMul (eOp2 opIx (eVar 0) (eC (.int 1))) (eOp2 opIx (eVar 1) (eC (.int 1)))) aNil))))
  sNext)
def F_over : PM Fl := (sSeq (sRet (eCall (denOf 4 PF.F_share) (aCons (eOp2 opMul (eOp2 opIx (eVar 0) (eC (.int 0))) (eOp2 opIx (eVar 1) (eC (.int 1)))) (aCons (eOp2 opMul (eOp2 opIx (eVar 0) (eC (.int 1))) (eOp2 opIx (eVar 1) (eC (.int 0)))) aNil))))
  sNext)
def F_tidy : PM Fl := (sSeq (sSet 1 (eOpN opList (aCons (eVar 0) aNil)))
  (sSeq (sWhile (tAndP (tTru (eVar 1)) (tBool (eOp2 opEq (eOp2 opIx (eVar 1) (eOp1 opNeg (eC (.int 1)))) (eC (.tup [.int 0, .int 1]))))) (sSeq (sExpr (eMeth 1 opPop aNil))
  sNext))
  (sSeq (sRet (eOpN opTuple (aCons (eVar 1) aNil)))
  sNext)))
def F_times : PM Fl := (sSeq (sRet (eCall (denOf 4 PF.F_share) (aCons (eOp2 opMul (eOp2 opIx (eVar 0) (eC (.int 0))) (eOp2 opIx (eVar 1) (eC (.int 0)))) (aCons (eOp2 opMul (eOp2 opIx (eVar 0) (eC (.int 1))) (eOp2 opIx (eVar 1) (eC (.int 1)))) aNil))))
  sNext)
def F_divided : PM Fl := (sSeq (sIf (tNotP (tTru (eVar 1))) (sSeq (sRaise "InvalidPoly")
  sNext) sNext)
  (sSeq (sPar 2 3 (eOpN opList (aCons (eVar 0) aNil)) (eOp2 opMul (eLst (aCons (eC (.tup [.int 0, .int 1])) aNil)) (eOpN opMax (aCons (eC (.int 0)) (aCons (eOp2 opAdd (eOp2 opSub (eOpN opLen (aCons (eVar 0) aNil)) (eOpN opLen (aCons (eVar 1) aNil))) (eC (.int 1))) aNil)))))
  (sSeq (sFor (iRg3 (aCons (eOp2 opSub (eOpN opLen (aCons (eVar 0) aNil)) (eOpN opLen (aCons (eVar 1) aNil))) (aCons (eOp1 opNeg (eC (.int 1))) (aCons (eOp1 opNeg (eC (.int 1))) aNil)))) (gNm 4) (sSeq (sAsg (eCall (denOf 2 PF.F_over) (aCons (eOp2 opIx (eVar 2) (eOp2 opSub (eOp2 opAdd (eVar 4) (eOpN opLen (aCons (eVar 1) aNil))) (eC (.int 1)))) (aCons (eOp2 opIx (eVar 1) (eOp1 opNeg (eC (.int 1)))) aNil))) (gSubP 3 opSet (eVar 4)))
  (sSeq (sFor (iEnu (aCons (eVar 1) aNil)) (gTp 2 (gsCons (gNm 5) (gsCons (gNm 6) gsNil))) (sSeq (sAsg (eCall (denOf 2 PF.F_minus) (aCons (eOp2 opIx (eVar 2) (eOp2 opAdd (eVar 4) (eVar 5))) (aCons (eCall (denOf 2 PF.F_times) (aCons (eOp2 opIx (eVar 3) (eVar 4)) (aCons (eVar 6) aNil))) aNil))) (gSubP 2 opSet (eOp2 opAdd (eVar 4) (eVar 5))))
  sNext))
  sNext)))
  (sSeq (sRet (eTup (aCons (eCall (denOf 2 PF.F_tidy) (aCons (eVar 3) aNil)) (aCons (eCall (denOf 2 PF.F_tidy) (aCons (eVar 2) aNil)) aNil))))
  sNext))))
def F_scaled : PM Fl := (sSeq (sRet (eCall (denOf 2 PF.F_tidy) (aCons (eComp [2] (iOf (iVal (eVar 0))) (gNm 2) (ret true) (eCall (denOf 2 PF.F_times) (aCons (eVar 1) (aCons (eVar 2) aNil)))) aNil)))
  sNext)
def F_monic : PM Fl := (sSeq (sRet (eIf (tTru (eVar 0)) (eCall (denOf 3 PF.F_scaled) (aCons (eVar 0) (aCons (eCall (denOf 2 PF.F_over) (aCons (eC (.tup [.int 1, .int 1])) (aCons (eOp2 opIx (eVar 0) (eOp1 opNeg (eC (.int 1)))) aNil))) aNil))) (eVar 0)))
  sNext)
def F_common : PM Fl := (sSeq (sWhile (tTru (eVar 1)) (sSeq (sPar 0 1 (eVar 1) (eOp2 opIx (eCall (denOf 7 PF.F_divided) (aCons (eVar 0) (aCons (eVar 1) aNil))) (eC (.int 1))))
  sNext))
  (sSeq (sRet (eCall (denOf 1 PF.F_monic) (aCons (eVar 0) aNil)))
  sNext))
def F_chain : PM Fl := (sSeq (sSet 2 (eLst (aCons (eVar 0) aNil)))
  (sSeq (sWhile (tTru (eVar 1)) (sSeq (sExpr (eMeth 2 opAppend (aCons (eVar 1) aNil)))
  (sSeq (sPar 0 1 (eVar 1) (eCall (denOf 3 PF.F_scaled) (aCons (eOp2 opIx (eCall (denOf 7 PF.F_divided) (aCons (eVar 0) (aCons (eVar 1) aNil))) (eC (.int 1))) (aCons (eTup (aCons (eOp1 opNeg (eC (.int 1))) (aCons (eC (.int 1)) aNil))) aNil))))
  sNext)))
  (sSeq (sRet (eVar 2))
  sNext)))
def F_plus : PM Fl := (sSeq (sRet (eCall (denOf 4 PF.F_share) (aCons (eOp2 opAdd (eOp2 opMul (eOp2 opIx (eVar 0) (eC (.int 0))) (eOp2 opIx (eVar 1) (eC (.int 1)))) (eOp2 opMul (eOp2 opIx (eVar 1) (eC (.int 0))) (eOp2 opIx (eVar 0) (eC (.int 1))))) (aCons (eOp2 opMul (eOp2 opIx (eVar 0) (eC (.int 1))) (eOp2 opIx (eVar 1) (eC (.int 1)))) aNil))))
  sNext)
def F_value_at : PM Fl := (sSeq (sSet 2 (eC (.tup [.int 0, .int 1])))
  (sSeq (sFor (iRev (eVar 0)) (gNm 3) (sSeq (sSet 2 (eCall (denOf 2 PF.F_plus) (aCons (eCall (denOf 2 PF.F_times) (aCons (eVar 2) (aCons (eVar 1) aNil))) (aCons (eVar 3) aNil))))
  sNext))
  (sSeq (sRet (eVar 2))
  sNext)))
def F_sign_at : PM Fl := (sSeq (sIf (tBool (eOp2 opEq (eVar 1) (eC (.str "high")))) (sSeq (sRet (eCall (denOf 1 PF.F_sign) (aCons (eOp2 opIx (eVar 0) (eOp1 opNeg (eC (.int 1)))) aNil)))
  sNext) sNext)
  (sSeq (sIf (tBool (eOp2 opEq (eVar 1) (eC (.str "low")))) (sSeq (sRet (eIf (tBool (eOp2 opEq (eOp2 opMod (eOpN opLen (aCons (eVar 0) aNil)) (eC (.int 2))) (eC (.int 1)))) (eCall (denOf 1 PF.F_sign) (aCons (eOp2 opIx (eVar 0) (eOp1 opNeg (eC (.int 1)))) aNil)) (eOp1 opNeg (eCall (denOf 1 PF.F_sign) (aCons (eOp2 opIx (eVar 0) (eOp1 opNeg (eC (.int 1)))) aNil)))))
  sNext) sNext)
  (sSeq (sRet (eCall (denOf 1 PF.F_sign) (aCons (eCall (denOf 4 PF.F_value_at) (aCons (eVar 0) (aCons (eVar 1) aNil))) aNil)))
  sNext)))
def F_changes : PM Fl := (sSeq (sSet 2 (eComp [3] (iOf (iVal (eComp [4] (iOf (iVal (eVar 0))) (gNm 4) (ret true) (eCall (denOf 2 PF.F_sign_at) (aCons (eVar 4) (aCons (eVar 1) aNil)))))) (gNm 3) (tBool (eOp2 opNe (eVar 3) (eC (.int 0)))) (eVar 3)))
  (sSeq (sRet (eOpN opSum (aCons (eComp [5, 6] (iOf (iZip2 (aCons (eSl (eVar 2) eNoP (eP (eOp1 opNeg (eC (.int 1))))) (aCons (eSl (eVar 2) (eP (eC (.int 1))) eNoP) aNil)))) (gTp 2 (gsCons (gNm 5) (gsCons (gNm 6) gsNil))) (tBool (eOp2 opNe (eVar 5) (eVar 6))) (eC (.int 1))) aNil)))
  sNext))
def F_is_share : PM Fl := (sSeq (sRet (eAnd (eOp2 opGt (eOp2 opIx (eVar 0) (eC (.int 1))) (eC (.int 0))) (eOp2 opEq (eCall (denOf 4 PF.F_share) (aCons (eOp2 opIx (eVar 0) (eC (.int 0))) (aCons (eOp2 opIx (eVar 0) (eC (.int 1))) aNil))) (eTup (aCons (eOp2 opIx (eVar 0) (eC (.int 0))) (aCons (eOp2 opIx (eVar 0) (eC (.int 1))) aNil))))))
  sNext)
def F_check_poly : PM Fl := (sSeq (sIf (tOrP (tBool (eOp2 opGt (eOpN opLen (aCons (eVar 0) aNil)) (eOp2 opAdd (eC (.int 24)) (eC (.int 1))))) (tOrP (tNotP (tTru (eOpN opAll (aCons (eComp [1] (iOf (iVal (eVar 0))) (gNm 1) (ret true) (eCall (denOf 1 PF.F_is_share) (aCons (eVar 1) aNil))) aNil)))) (tAndP (tBool (eOp2 opGt (eOpN opLen (aCons (eVar 0) aNil)) (eC (.int 0)))) (tBool (eOp2 opEq (eOp2 opIx (eVar 0) (eOp1 opNeg (eC (.int 1)))) (eC (.tup [.int 0, .int 1]))))))) (sSeq (sRaise "InvalidPoly")
  sNext) sNext)
  sNext)
def F_whole : PM Fl := (sSeq (sRet (eTup (aCons (eVar 0) (aCons (eC (.int 1)) aNil))))
  sNext)
def F_slope : PM Fl := (sSeq (sRet (eCall (denOf 2 PF.F_tidy) (aCons (eComp [1] (iOf (iVal (eOpN opRange (aCons (eC (.int 1)) (aCons (eOpN opLen (aCons (eVar 0) aNil)) aNil))))) (gNm 1) (ret true) (eCall (denOf 2 PF.F_times) (aCons (eCall (denOf 1 PF.F_whole) (aCons (eVar 1) aNil)) (aCons (eOp2 opIx (eVar 0) (eVar 1)) aNil)))) aNil)))
  sNext)
def F_root_count : PM Fl := (sSeq (sExpr (eCall (denOf 2 PF.F_check_poly) (aCons (eVar 0) aNil)))
  (sSeq (sIf (tNotP (tTru (eVar 0))) (sSeq (sRaise "InvalidPoly")
  sNext) sNext)
  (sSeq (sIf (tAndP (tBool (eOp2 opNe (eVar 1) (eC (.str "low")))) (tAndP (tBool (eOp2 opNe (eVar 2) (eC (.str "high")))) (tTru (eCall (denOf 2 PF.F_less) (aCons (eVar 2) (aCons (eVar 1) aNil)))))) (sSeq (sRaise "InvalidPoly")
  sNext) sNext)
  (sSeq (sSet 3 (eIf (tBool (eOp2 opGt (eOpN opLen (aCons (eVar 0) aNil)) (eC (.int 1)))) (eOp2 opIx (eCall (denOf 7 PF.F_divided) (aCons (eVar 0) (aCons (eCall (denOf 2 PF.F_common) (aCons (eVar 0) (aCons (eCall (denOf 2 PF.F_slope) (aCons (eVar 0) aNil)) aNil))) aNil))) (eC (.int 0))) (eVar 0)))
  (sSeq (sSet 4 (eCall (denOf 3 PF.F_chain) (aCons (eVar 3) (aCons (eCall (denOf 2 PF.F_slope) (aCons (eVar 3) aNil)) aNil))))
  (sSeq (sRet (eOp2 opSub (eCall (denOf 7 PF.F_changes) (aCons (eVar 4) (aCons (eVar 1) aNil))) (eCall (denOf 7 PF.F_changes) (aCons (eVar 4) (aCons (eVar 2) aNil)))))
  sNext))))))
def F_all_count : PM Fl := (sSeq (sSet 3 (eC (.int 0)))
  (sSeq (sWhile (tBool (eOp2 opGt (eOpN opLen (aCons (eVar 0) aNil)) (eC (.int 1)))) (sSeq (sAug 3 (onII fun i j => sI (i + j)) (eCall (denOf 5 PF.F_root_count) (aCons (eVar 0) (aCons (eVar 1) (aCons (eVar 2) aNil)))))
  (sSeq (sSet 0 (eCall (denOf 2 PF.F_common) (aCons (eVar 0) (aCons (eCall (denOf 2 PF.F_slope) (aCons (eVar 0) aNil)) aNil))))
  sNext)))
  (sSeq (sRet (eVar 3))
  sNext)))
def F_axis_count : PM Fl := (sSeq (sSet 1 (eC (.int 0)))
  (sSeq (sWhile (tBool (eOp2 opEq (eOp2 opIx (eVar 0) (eVar 1)) (eC (.tup [.int 0, .int 1])))) (sSeq (sAug 1 (onII fun i j => sI (i + j)) (eC (.int 1)))
  sNext))
  (sSeq (sSet 2 (eCall (denOf 2 PF.F_tidy) (aCons (eComp [3] (iOf (iRg3 (aCons (eVar 1) (aCons (eOpN opLen (aCons (eVar 0) aNil)) (aCons (eC (.int 2)) aNil))))) (gNm 3) (ret true) (eOp2 opIx (eVar 0) (eVar 3))) aNil)))
  (sSeq (sRet (eOp2 opAdd (eVar 1) (eOp2 opMul (eC (.int 2)) (eCall (denOf 4 PF.F_all_count) (aCons (eVar 2) (aCons (eC (.str "low")) (aCons (eC (.tup [.int 0, .int 1])) aNil)))))))
  sNext))))
def F_axis_parts : PM Fl := (sSeq (sSet 1 (eComp [3] (iOf (iVal (eOpN opRange (aCons (eOpN opLen (aCons (eVar 0) aNil)) aNil)))) (gNm 3) (ret true) (eOp2 opIx (eLst (aCons (eC (.tup [.int 1, .int 1])) (aCons (eC (.tup [.int 0, .int 1])) (aCons (eTup (aCons (eOp1 opNeg (eC (.int 1))) (aCons (eC (.int 1)) aNil))) (aCons (eC (.tup [.int 0, .int 1])) aNil))))) (eOp2 opMod (eVar 3) (eC (.int 4))))))
  (sSeq (sSet 2 (eComp [3] (iOf (iVal (eOpN opRange (aCons (eOpN opLen (aCons (eVar 0) aNil)) aNil)))) (gNm 3) (ret true) (eOp2 opIx (eLst (aCons (eC (.tup [.int 0, .int 1])) (aCons (eC (.tup [.int 1, .int 1])) (aCons (eC (.tup [.int 0, .int 1])) (aCons (eTup (aCons (eOp1 opNeg (eC (.int 1))) (aCons (eC (.int 1)) aNil))) aNil))))) (eOp2 opMod (eVar 3) (eC (.int 4))))))
  (sSeq (sRet (eTup (aCons (eCall (denOf 2 PF.F_tidy) (aCons (eComp [4, 5] (iOf (iZip2 (aCons (eVar 1) (aCons (eVar 0) aNil)))) (gTp 2 (gsCons (gNm 4) (gsCons (gNm 5) gsNil))) (ret true) (eCall (denOf 2 PF.F_times) (aCons (eVar 4) (aCons (eVar 5) aNil)))) aNil)) (aCons (eCall (denOf 2 PF.F_tidy) (aCons (eComp [4, 5] (iOf (iZip2 (aCons (eVar 2) (aCons (eVar 0) aNil)))) (gTp 2 (gsCons (gNm 4) (gsCons (gNm 5) gsNil))) (ret true) (eCall (denOf 2 PF.F_times) (aCons (eVar 4) (aCons (eVar 5) aNil)))) aNil)) aNil))))
  sNext)))
def F_jumps : PM Fl := (sSeq (sSet 2 (eCall (denOf 3 PF.F_chain) (aCons (eVar 1) (aCons (eVar 0) aNil))))
  (sSeq (sRet (eOp2 opSub (eCall (denOf 7 PF.F_changes) (aCons (eVar 2) (aCons (eC (.str "low")) aNil))) (eCall (denOf 7 PF.F_changes) (aCons (eVar 2) (aCons (eC (.str "high")) aNil)))))
  sNext))
def F_turned : PM Fl := (sSeq (sRet (eCall (denOf 2 PF.F_tidy) (aCons (eComp [1, 2] (iOf (iEnu (aCons (eVar 0) aNil))) (gTp 2 (gsCons (gNm 1) (gsCons (gNm 2) gsNil))) (ret true) (eIf (tBool (eOp2 opEq (eOp2 opMod (eVar 1) (eC (.int 2))) (eC (.int 0)))) (eVar 2) (eCall (denOf 2 PF.F_minus) (aCons (eC (.tup [.int 0, .int 1])) (aCons (eVar 2) aNil))))) aNil)))
  sNext)
def F_sides : PM Fl := (sSeq (sExpr (eCall (denOf 2 PF.F_check_poly) (aCons (eVar 0) aNil)))
  (sSeq (sIf (tNotP (tTru (eVar 0))) (sSeq (sRaise "InvalidPoly")
  sNext) sNext)
  (sSeq (sSet 1 (eCall (denOf 2 PF.F_common) (aCons (eVar 0) (aCons (eCall (denOf 3 PF.F_turned) (aCons (eVar 0) aNil)) aNil))))
  (sSeq (sSet 2 (eOp2 opIx (eCall (denOf 7 PF.F_divided) (aCons (eVar 0) (aCons (eVar 1) aNil))) (eC (.int 0))))
  (sSeq (sSet 3 (eOp2 opSub (eOpN opLen (aCons (eVar 2) aNil)) (eC (.int 1))))
  (sSeq (sAsg (eCall (denOf 6 PF.F_axis_parts) (aCons (eVar 2) aNil)) (gTp 2 (gsCons (gNm 4) (gsCons (gNm 5) gsNil))))
  (sSeq (sSet 6 (eIf (tBool (eOp2 opEq (eOp2 opMod (eVar 3) (eC (.int 2))) (eC (.int 0)))) (eOp1 opNeg (eCall (denOf 3 PF.F_jumps) (aCons (eVar 5) (aCons (eVar 4) aNil)))) (eCall (denOf 3 PF.F_jumps) (aCons (eVar 4) (aCons (eVar 5) aNil)))))
  (sSeq (sIf (tBool (eOp2 opEq (eVar 3) (eC (.int 0)))) (sSeq (sSet 6 (eC (.int 0)))
  sNext) sNext)
  (sSeq (sSet 7 (eCall (denOf 4 PF.F_axis_count) (aCons (eVar 1) aNil)))
  (sSeq (sSet 8 (eOp2 opFdiv (eOp2 opSub (eOp2 opSub (eOpN opLen (aCons (eVar 1) aNil)) (eC (.int 1))) (eVar 7)) (eC (.int 2))))
  (sSeq (sRet (eTup (aCons (eOp2 opAdd (eOp2 opFdiv (eOp2 opAdd (eVar 3) (eVar 6)) (eC (.int 2))) (eVar 8)) (aCons (eVar 7) (aCons (eOp2 opAdd (eOp2 opFdiv (eOp2 opSub (eVar 3) (eVar 6)) (eC (.int 2))) (eVar 8)) aNil)))))
  sNext)))))))))))
def F_is_calm : PM Fl := (sSeq (sRet (eOp2 opEq (eOp2 opIx (eCall (denOf 9 PF.F_sides) (aCons (eVar 0) aNil)) (eC (.int 0))) (eOp2 opSub (eOpN opLen (aCons (eVar 0) aNil)) (eC (.int 1)))))
  sNext)
def F_is_calm_range : PM Fl := (sSeq (sRet (eOpN opAll (aCons (eComp [2] (iOf (iVal (eCall (denOf 7 PF.F_corners_of_ranges) (aCons (eVar 0) (aCons (eVar 1) aNil))))) (gNm 2) (ret true) (eCall (denOf 1 PF.F_is_calm) (aCons (eVar 2) aNil))) aNil)))
  sNext)
def F__law_gcd : PM Fl := (sSeq (sPar 0 1 (eOpN opAbs (aCons (eVar 0) aNil)) (eOpN opAbs (aCons (eVar 1) aNil)))
  (sSeq (sWhile (tBool (eOp2 opGt (eVar 1) (eC (.int 0)))) (sSeq (sPar 0 1 (eVar 1) (eOp2 opMod (eOpN opInt (aCons (eVar 0) aNil)) (eVar 1)))
  sNext))
  (sSeq (sRet (eVar 0))
  sNext)))
def F__law_ratio : PM Fl := (sSeq (sIf (tBool (eOp2 opLt (eVar 1) (eC (.int 0)))) (sSeq (sPar 0 1 (eOp2 opSub (eC (.int 0)) (eVar 0)) (eOp2 opSub (eC (.int 0)) (eVar 1)))
  sNext) sNext)
  (sSeq (sSet 2 (eCall (denOf 2 PF.F__law_gcd) (aCons (eVar 0) (aCons (eVar 1) aNil))))
  (sSeq (sRet (eTup (aCons (eOp2 opFdiv (eVar 0) (eVar 2)) (aCons (eOp2 opFdiv (eVar 1) (eVar 2)) aNil))))
  sNext)))
def F__law_minus : PM Fl := (sSeq (sRet (eCall (denOf 3 PF.F__law_ratio) (aCons (eOp2 opSub (eOp2 opMul (eOp2 opIx (eVar 0) (eC (.int 0))) (eOp2 opIx (eVar 1) (eC (.int 1)))) (eOp2 opMul (eOp2 opIx (eVar 1) (eC (.int 0))) (eOp2 opIx (eVar 0) (eC (.int 1))))) (aCons (eOp2 opMul (eOp2 opIx (eVar 0) (eC (.int 1))) (eOp2 opIx (eVar 1) (eC (.int 1)))) aNil))))
  sNext)
def F__law_sum : PM Fl := (sSeq (sAsg (eTup (aCons (eC (.int 0)) (aCons (eC (.int 1)) aNil))) (gTp 2 (gsCons (gNm 1) (gsCons (gNm 2) gsNil))))
  (sSeq (sFor (iVal (eVar 0)) (gTp 2 (gsCons (gNm 3) (gsCons (gNm 4) gsNil))) (sSeq (sAsg (eCall (denOf 3 PF.F__law_ratio) (aCons (eOp2 opAdd (eOp2 opMul (eVar 1) (eVar 4)) (eOp2 opMul (eVar 3) (eVar 2))) (aCons (eOp2 opMul (eVar 2) (eVar 4)) aNil))) (gTp 2 (gsCons (gNm 1) (gsCons (gNm 2) gsNil))))
  sNext))
  (sSeq (sRet (eTup (aCons (eVar 1) (aCons (eVar 2) aNil))))
  sNext)))
def F__law_times : PM Fl := (sSeq (sRet (eCall (denOf 3 PF.F__law_ratio) (aCons (eOp2 opMul (eOp2 opIx (eVar 0) (eC (.int 0))) (eOp2 opIx (eVar 1) (eC (.int 0)))) (aCons (eOp2 opMul (eOp2 opIx (eVar 0) (eC (.int 1))) (eOp2 opIx (eVar 1) (eC (.int 1)))) aNil))))
  sNext)
end PF
end

section
set_option Elab.async false
set_option linter.all false
set_option maxRecDepth 100000
set_option maxHeartbeats 1000000
set_option autoImplicit false
set_option exponentiation.threshold 2000
/-! MQ: fractions: what share, plus, minus, times, over, less, sign give. -/
namespace PF
open PySem PySem.Spec PyProof.Rows L2 HF
def eQ (q : Rat) : PV := .tup [.int q.num, .int q.den]
/-- numerator and denominator below 2 ^ n -/
def Hb (n : Nat) (q : Rat) : Prop := q.num.natAbs < 2 ^ n ∧ q.den < 2 ^ n
theorem pow_le {m n : Nat} (h : m ≤ n) : (2 : Nat) ^ m ≤ 2 ^ n := Nat.pow_le_pow_right (by decide) h
theorem Hb.mono {m n : Nat} {q : Rat} (h : Hb m q) (hn : m ≤ n) : Hb n q := ⟨Nat.lt_of_lt_of_le h.1 (pow_le hn), Nat.lt_of_lt_of_le h.2 (pow_le hn)⟩
theorem hb_divInt {n d : Int} {k : Nat} (hn : n.natAbs < 2 ^ k) (hd : d.natAbs < 2 ^ k) (h0 : d ≠ 0) : Hb k (Rat.divInt n d) := by
  constructor
  · rw [Rat.num_divInt]
    have h1 : (d.sign * n / (d.gcd n : Int)).natAbs ≤ (d.sign * n).natAbs := by
      rw [← Int.ofNat_natAbs_of_nonneg (a := (d.gcd n : Int)) (by omega)]
      exact Int.natAbs_ediv_le_natAbs _ _
    have h2 : (d.sign * n).natAbs ≤ n.natAbs := by
      rw [Int.natAbs_mul]
      have : d.sign.natAbs ≤ 1 := by
        rcases Int.lt_trichotomy d 0 with h | h | h
        · rw [Int.sign_eq_neg_one_of_neg h]; decide
        · exact absurd h h0
        · rw [Int.sign_eq_one_of_pos h]; decide
      calc d.sign.natAbs * n.natAbs ≤ 1 * n.natAbs := Nat.mul_le_mul_right _ this
        _ = n.natAbs := Nat.one_mul _
    omega
  · rw [Rat.den_divInt, if_neg h0]
    exact Nat.lt_of_le_of_lt (Nat.div_le_self _ _) hd
theorem mul_lt {a b m n : Nat} (ha : a < 2 ^ m) (hb : b < 2 ^ n) : a * b < 2 ^ (m + n) := by
  rw [Nat.pow_add]
  exact Nat.mul_lt_mul'' ha hb
theorem Hb.mul1 {a b : Rat} {m n : Nat} (ha : Hb m a) (hb : Hb n b) : (a.num * b.num).natAbs < 2 ^ (m + n) := by rw [Int.natAbs_mul]; exact mul_lt ha.1 hb.1
theorem Hb.mul2 {a b : Rat} {m n : Nat} (ha : Hb m a) (hb : Hb n b) : (a.num * (b.den : Int)).natAbs < 2 ^ (m + n) := by rw [Int.natAbs_mul, Int.natAbs_natCast]; exact mul_lt ha.1 hb.2
theorem Hb.mul3 {a b : Rat} {m n : Nat} (ha : Hb m a) (hb : Hb n b) : ((a.den : Int) * (b.den : Int)).natAbs < 2 ^ (m + n) := by rw [Int.natAbs_mul, Int.natAbs_natCast, Int.natAbs_natCast]; exact mul_lt ha.2 hb.2
theorem Hb.mul4 {a b : Rat} {m n : Nat} (ha : Hb m a) (hb : Hb n b) : ((a.den : Int) * b.num).natAbs < 2 ^ (m + n) := by rw [Int.natAbs_mul, Int.natAbs_natCast]; exact mul_lt ha.2 hb.1
theorem add_lt {x y : Int} {k : Nat} (hx : x.natAbs < 2 ^ k) (hy : y.natAbs < 2 ^ k) : (x + y).natAbs < 2 ^ (k + 1) := by
  have := Int.natAbs_add_le x y
  rw [Nat.pow_succ]
  omega
theorem sub_lt {x y : Int} {k : Nat} (hx : x.natAbs < 2 ^ k) (hy : y.natAbs < 2 ^ k) : (x - y).natAbs < 2 ^ (k + 1) := by
  have := Int.natAbs_sub_le x y
  rw [Nat.pow_succ]
  omega
theorem add_eq (a b : Rat) : Rat.divInt (a.num * b.den + b.num * a.den) (a.den * b.den) = a + b := by
  have h1 : (a.den : Int) ≠ 0 := by have := a.den_pos; omega
  have h2 : (b.den : Int) ≠ 0 := by have := b.den_pos; omega
  rw [← Rat.divInt_add_divInt _ _ h1 h2, Rat.num_divInt_den, Rat.num_divInt_den]
theorem sub_eq (a b : Rat) : Rat.divInt (a.num * b.den - b.num * a.den) (a.den * b.den) = a - b := by
  have h1 : (a.den : Int) ≠ 0 := by have := a.den_pos; omega
  have h2 : (b.den : Int) ≠ 0 := by have := b.den_pos; omega
  rw [← Rat.divInt_sub_divInt _ _ h1 h2, Rat.num_divInt_den, Rat.num_divInt_den]
theorem mul_eq (a b : Rat) : Rat.divInt (a.num * b.num) (a.den * b.den) = a * b := by
  rw [← Rat.divInt_mul_divInt, Rat.num_divInt_den, Rat.num_divInt_den]
theorem div_eq (a b : Rat) : Rat.divInt (a.num * b.den) (a.den * b.num) = a / b := by
  rw [← Rat.divInt_mul_divInt, Rat.num_divInt_den, ← Rat.inv_divInt, Rat.num_divInt_den, Rat.div_def]
theorem den_ne (a : Rat) : (a.den : Int) ≠ 0 := by have := a.den_pos; omega
theorem num_ne {b : Rat} (h : b ≠ 0) : b.num ≠ 0 := fun z => h (Rat.num_eq_zero.mp z)
theorem Hb.add {a b : Rat} {m n : Nat} (ha : Hb m a) (hb : Hb n b) : Hb (m + n + 1) (a + b) := by
  rw [← add_eq]
  exact hb_divInt (add_lt (ha.mul2 hb) (by rw [Nat.add_comm]; exact hb.mul2 ha)) (Nat.lt_of_lt_of_le (ha.mul3 hb) (pow_le (by omega))) (Int.mul_ne_zero (den_ne a) (den_ne b))
theorem Hb.sub {a b : Rat} {m n : Nat} (ha : Hb m a) (hb : Hb n b) : Hb (m + n + 1) (a - b) := by
  rw [← sub_eq]
  exact hb_divInt (sub_lt (ha.mul2 hb) (by rw [Nat.add_comm]; exact hb.mul2 ha)) (Nat.lt_of_lt_of_le (ha.mul3 hb) (pow_le (by omega))) (Int.mul_ne_zero (den_ne a) (den_ne b))
theorem Hb.mul {a b : Rat} {m n : Nat} (ha : Hb m a) (hb : Hb n b) : Hb (m + n) (a * b) := by
  rw [← mul_eq]
  exact hb_divInt (ha.mul1 hb) (ha.mul3 hb) (Int.mul_ne_zero (den_ne a) (den_ne b))
theorem Hb.div {a b : Rat} {m n : Nat} (ha : Hb m a) (hb : Hb n b) (h0 : b ≠ 0) : Hb (m + n) (a / b) := by
  rw [← div_eq]
  exact hb_divInt (ha.mul2 hb) (ha.mul4 hb) (Int.mul_ne_zero (den_ne a) (num_ne h0))
/-! ### share -/
def Lw : PM Fl := (sSeq (sPar 2 3 (eVar 3) (eOp2 opMod (eVar 2) (eVar 3))) sNext)
theorem s_par' {s : SE} {i j : Nat} {f g : PM HF.Arg} {p q : PV} {fr fr2 : Bool} (hf : Ev f s p fr) (hg : Ev g s q fr2) (hi : i < s.length) (hj : j < s.length) : sPar i j f g s = .ok .next ((s.set j (some (fr2, q))).set i (some (fr, p))) := by
  unfold sPar
  rw [bnd_ok hf, bnd_ok (show norm (.val p fr) s = .ok (.val p fr) s from rfl), bnd_ok hg, bnd_ok (show norm (.val q fr2) s = .ok (.val q fr2) s from rfl),
    bnd_ok (show setW j (.val q fr2) s = .ok () (s.set j (some (fr2, q))) by simp only [setW, setV, hj, if_true]),
    bnd_ok (show setW i (.val p fr) (s.set j (some (fr2, q))) = .ok () ((s.set j (some (fr2, q))).set i (some (fr, p))) by simp only [setW, setV, List.length_set, hi, if_true])]
  rfl
theorem tru_int (i : Int) : truthP (.int i) = some (i != 0) := rfl
theorem euclid (x y : Option (Bool × PV)) : ∀ (k a b : Nat), b < 2 ^ k → wl (tTru (eVar 3)) Lw (2 * k + 1) [x, y, some (false, eI a), some (false, eI b)] = .ok .next [x, y, some (false, eI (Nat.gcd a b)), some (false, eI 0)] := by
  have stop : ∀ (m a : Nat), wl (tTru (eVar 3)) Lw (m + 1) [x, y, some (false, eI a), some (false, eI 0)] = .ok .next [x, y, some (false, eI a), some (false, eI 0)] := fun m a => by
    unfold wl
    rw [bnd_ok (show tTru (eVar 3) [x, y, some (false, eI a), some (false, eI 0)] = .ok false _ from evt_tru (rd_var (i := 3) rfl) rfl)]
    rfl
  have step : ∀ (m a b : Nat), 0 < b → wl (tTru (eVar 3)) Lw (m + 1) [x, y, some (false, eI a), some (false, eI b)] = wl (tTru (eVar 3)) Lw m [x, y, some (false, eI b), some (false, eI (a % b))] := fun m a b hb => by
    have e1 : tTru (eVar 3) [x, y, some (false, eI a), some (false, eI b)] = .ok true [x, y, some (false, eI a), some (false, eI b)] := by
      have := evt_tru (s := [x, y, some (false, eI a), some (false, eI b)]) (rd_var (i := 3) (b := false) (p := eI b) rfl) (tru_int (b : Int))
      rw [this]
      congr 1
      rw [bne_iff_ne]; omega
    have e2 : Lw [x, y, some (false, eI a), some (false, eI b)] = .ok .next [x, y, some (false, eI b), some (false, eI (a % b))] := by
      unfold Lw
      refine sq (s_par' (s := [x, y, some (false, eI a), some (false, eI b)]) (ev_var (i := 3) rfl) (ev_op2 (r := eI (a % b)) (fr3 := false) (rd_var (i := 2) (b := false) (p := eI a) rfl) (rd_var (i := 3) (b := false) (p := eI b) rfl) (mod_ii (by omega))) (by simp) (by simp)) rfl
    rw [wl, bnd_ok e1]
    simp only [if_true, e2]
  intro k
  induction k with
  | zero =>
    intro a b hb
    have : b = 0 := by simpa using hb
    subst this
    rw [stop, Nat.gcd_zero_right]
  | succ k ih =>
    intro a b hb
    rw [Nat.pow_succ] at hb
    by_cases h0 : b = 0
    · subst h0
      rw [show 2 * (k + 1) + 1 = (2 * k + 2) + 1 by omega, stop, Nat.gcd_zero_right]
    · rw [show 2 * (k + 1) + 1 = (2 * k + 2) + 1 by omega, step _ _ _ (by omega)]
      by_cases h1 : a % b = 0
      · rw [h1, show 2 * k + 2 = (2 * k + 1) + 1 by omega, stop, Nat.gcd_comm a b, Nat.gcd_rec b a, h1, Nat.gcd_zero_left]
      · have hr : a % b < b := Nat.mod_lt _ (by omega)
        rw [show 2 * k + 2 = (2 * k + 1) + 1 by omega, step _ _ _ (by omega)]
        have hlt : b % (a % b) < 2 ^ k := by
          have h2 : b % (a % b) < a % b := Nat.mod_lt _ (by omega)
          have h3 : b % (a % b) ≤ b - a % b := by
            rw [Nat.mod_eq_sub_mod (by omega)]
            exact Nat.mod_le _ _
          omega
        have e : Nat.gcd a b = Nat.gcd (a % b) (b % (a % b)) := by rw [Nat.gcd_comm a b, Nat.gcd_rec b a, Nat.gcd_rec (a % b) b, Nat.gcd_comm]
        rw [ih _ _ hlt, e]
theorem d_share {n d : Int} {k : Nat} (hk : k < 1000) (hn : n.natAbs < 2 ^ k) (hd : d.natAbs < 2 ^ k) (h0 : d ≠ 0) : denOf 4 F_share [.int n, .int d] = .ok (eQ (Rat.divInt n d)) false none := by
  have top : (2 : Nat) ^ k ≤ 2 ^ 999 := pow_le (by omega)
  -- behind the sign
  obtain ⟨n', d', hd', e, hn2, hd2, e2⟩ : ∃ n' d' : Int, 0 < d' ∧ Rat.divInt n d = Rat.divInt n' d' ∧ n'.natAbs < 2 ^ k ∧ d'.natAbs < 2 ^ k ∧ (sIf (tBool (eOp2 opLt (eVar 1) (eC (.int 0)))) (sSeq (sPar 0 1 (eOp1 opNeg (eVar 0)) (eOp1 opNeg (eVar 1)))
      sNext) sNext) [some (false, .int n), some (false, .int d), none, none] = .ok .next [some (false, .int n'), some (false, .int d'), none, none] := by
    have t : EvT (tBool (eOp2 opLt (eVar 1) (eC (.int 0)))) [some (false, .int n), some (false, .int d), none, none] (decide (d < 0)) := evt_bool (fr := false) (ev_op2 (rd_var (i := 1) rfl) ev_c.rd rfl)
    by_cases h : d < 0
    · refine ⟨-n, -d, by omega, ?_, by omega, by omega, ?_⟩
      · have := Rat.divInt_mul_left (n := n) (d := d) (a := -1) (by decide)
        rw [← this]
        congr 1 <;> omega
      · refine si t (fun _ => ?_) fun z => by simp [h] at z
        exact sq (s_par' (s := [some (false, .int n), some (false, .int d), none, none]) (ev_op1 (rd_var (i := 0) rfl) rfl) (ev_op1 (rd_var (i := 1) rfl) rfl) (by simp) (by simp)) rfl
    · exact ⟨n, d, by omega, rfl, hn, hd, si t (fun z => by simp [h] at z) fun _ => rfl⟩
  have hg : Nat.gcd n'.natAbs d'.toNat ≤ d'.toNat := Nat.gcd_le_right _ (by omega)
  have hg0 : 0 < Nat.gcd n'.natAbs d'.toNat := Nat.gcd_pos_of_pos_right _ (by omega)
  have hdk : d'.toNat < 2 ^ k := by omega
  rw [e]
  refine den_ret (s1 := [some (false, .int n'), some (false, .int d'), some (false, eI (Nat.gcd n'.natAbs d'.toNat)), some (false, eI 0)]) ?_
  unfold F_share
  refine sq (sno (by
    have := evt_bool (fr := false) (ev_op2 (s := st0 4 [.int n, .int d]) (rd_var (i := 1) (b := false) (p := .int d) rfl) (ev_c (p := .int 0)).rd (eq_ii _ _))
    rw [decide_eq_false h0] at this
    exact this) rfl) (sq e2 ?_)
  refine sq (s_par' (s := [some (false, .int n'), some (false, .int d'), none, none]) (p := eI n'.natAbs) (q := eI d'.toNat) (fr := false) (fr2 := false) (ev_opN (rda_cons (rd_var (i := 0) (b := false) (p := .int n') rfl) rda_nil) (by
    show some (PV.int (if n' < 0 then -n' else n'), false) = some (PV.int (n'.natAbs : Int), false)
    congr 3
    split <;> omega)) (by rw [show eI d'.toNat = .int d' by unfold eI; congr 1; omega]; exact ev_var (i := 1) rfl) (by simp) (by simp)) ?_
  have w := euclid (some (false, .int n')) (some (false, .int d')) k n'.natAbs d'.toNat hdk
  refine sq (s1 := [some (false, .int n'), some (false, .int d'), some (false, eI (Nat.gcd n'.natAbs d'.toNat)), some (false, eI 0)]) ?_ ?_
  · show sWhile (tTru (eVar 3)) Lw [some (false, .int n'), some (false, .int d'), some (false, eI n'.natAbs), some (false, eI d'.toNat)] = _
    rw [sWhile_eq (2 * k + 1) (by unfold FUEL; omega) (by rw [w]; nofun), w]
  · refine s_seq_ret (s_ret ?_)
    have hgi : ((Nat.gcd n'.natAbs d'.toNat : Nat) : Int) < 2 ^ 1000 := by
      have : (2 : Nat) ^ 999 < 2 ^ 1000 := by decide
      have h3 : Nat.gcd n'.natAbs d'.toNat < 2 ^ 1000 := by omega
      exact_mod_cast h3
    have e3 : eQ (Rat.divInt n' d') = .tup [.int (n' / (Nat.gcd n'.natAbs d'.toNat : Nat)), .int (d' / (Nat.gcd n'.natAbs d'.toNat : Nat))] := by
      unfold eQ
      have hgc : d'.gcd n' = Nat.gcd n'.natAbs d'.toNat := by
        unfold Int.gcd
        rw [Nat.gcd_comm]
        congr 1
        omega
      rw [Rat.num_divInt, Rat.den_divInt, if_neg (by omega), Int.sign_eq_one_of_pos hd', Int.one_mul, hgc]
      congr 4
      rw [Int.natCast_ediv]
      congr 1
      omega
    rw [e3]
    exact ev_tup (eva_cons (ev_op2 (fr3 := false) (rd_var (i := 0) (b := false) (p := .int n') rfl) (rd_var (i := 2) (b := false) rfl) (fdiv_ii (by omega) hgi)) (eva_cons (ev_op2 (fr3 := false) (rd_var (i := 1) (b := false) (p := .int d') rfl) (rd_var (i := 2) (b := false) rfl) (fdiv_ii (by omega) hgi)) eva_nil)) (by rw [sizeLine_eq]; exact Nat.le_of_ble_eq_true rfl)
/-! ### the others -/
section
variable {a b : Rat} {m n : Nat}
theorem ix0 (a : Rat) : opIx (eQ a) (.int 0) = some (.int a.num, false) := rfl
theorem ix1 (a : Rat) : opIx (eQ a) (.int 1) = some (.int a.den, false) := rfl
theorem b1000 {x : Int} {k : Nat} (h : x.natAbs < 2 ^ k) (hk : k ≤ 1000) : x.natAbs < 2 ^ 1000 := Nat.lt_of_lt_of_le h (pow_le hk)
theorem Hb.n1 (h : Hb m a) (hm : m ≤ 1000) : a.num.natAbs < 2 ^ 1000 := b1000 h.1 hm
theorem Hb.d1 (h : Hb m a) (hm : m ≤ 1000) : (a.den : Int).natAbs < 2 ^ 1000 := b1000 (by rw [Int.natAbs_natCast]; exact h.2) hm
variable {s : SE} {i j : Nat} {f g : PM HF.Arg}
theorem ev_num (h : Rdv f s (eQ a)) : Ev (eOp2 opIx f (eC (.int 0))) s (.int a.num) false := ev_op2 h ev_c.rd (ix0 a)
theorem ev_den (h : Rdv f s (eQ a)) : Ev (eOp2 opIx f (eC (.int 1))) s (.int a.den) false := ev_op2 h ev_c.rd (ix1 a)
theorem ev_mul {x y : Int} {fr fr2 : Bool} (hx : Ev f s (.int x) fr) (hy : Ev g s (.int y) fr2) (h1 : x.natAbs < 2 ^ 1000) (h2 : y.natAbs < 2 ^ 1000) : Ev (eOp2 opMul f g) s (.int (x * y)) false := ev_op2 hx.rd hy.rd (mul_ii h1 h2)
theorem ev_add {x y : Int} {fr fr2 : Bool} (hx : Ev f s (.int x) fr) (hy : Ev g s (.int y) fr2) : Ev (eOp2 opAdd f g) s (.int (x + y)) false := ev_op2 hx.rd hy.rd rfl
theorem ev_sub {x y : Int} {fr fr2 : Bool} (hx : Ev f s (.int x) fr) (hy : Ev g s (.int y) fr2) : Ev (eOp2 opSub f g) s (.int (x - y)) false := ev_op2 hx.rd hy.rd rfl
theorem d_plus (ha : Hb m a) (hb : Hb n b) (h : m + n ≤ 900) : denOf 2 F_plus [eQ a, eQ b] = .ok (eQ (a + b)) false none := by
  have r0 : Rdv (eVar 0) (st0 2 [eQ a, eQ b]) (eQ a) := rd_var (b := false) rfl
  have r1 : Rdv (eVar 1) (st0 2 [eQ a, eQ b]) (eQ b) := rd_var (b := false) rfl
  have k1 := ha.n1 (by omega); have k2 := ha.d1 (by omega); have k3 := hb.n1 (by omega); have k4 := hb.d1 (by omega)
  rw [← add_eq]
  refine den_ret (s1 := st0 2 [eQ a, eQ b]) (s_seq_ret (s_ret (ev_call (io := none) (eva_cons (ev_add (ev_mul (ev_num r0) (ev_den r1) k1 k4) (ev_mul (ev_num r1) (ev_den r0) k3 k2)) (eva_cons (ev_mul (ev_den r0) (ev_den r1) k2 k4) eva_nil)) ?_)))
  exact d_share (k := m + n + 1) (by omega) (add_lt (ha.mul2 hb) (by rw [Nat.add_comm]; exact hb.mul2 ha)) (Nat.lt_of_lt_of_le (ha.mul3 hb) (pow_le (by omega))) (Int.mul_ne_zero (den_ne a) (den_ne b))
theorem d_minus (ha : Hb m a) (hb : Hb n b) (h : m + n ≤ 900) : denOf 2 F_minus [eQ a, eQ b] = .ok (eQ (a - b)) false none := by
  have r0 : Rdv (eVar 0) (st0 2 [eQ a, eQ b]) (eQ a) := rd_var (b := false) rfl
  have r1 : Rdv (eVar 1) (st0 2 [eQ a, eQ b]) (eQ b) := rd_var (b := false) rfl
  have k1 := ha.n1 (by omega); have k2 := ha.d1 (by omega); have k3 := hb.n1 (by omega); have k4 := hb.d1 (by omega)
  rw [← sub_eq]
  refine den_ret (s1 := st0 2 [eQ a, eQ b]) (s_seq_ret (s_ret (ev_call (io := none) (eva_cons (ev_sub (ev_mul (ev_num r0) (ev_den r1) k1 k4) (ev_mul (ev_num r1) (ev_den r0) k3 k2)) (eva_cons (ev_mul (ev_den r0) (ev_den r1) k2 k4) eva_nil)) ?_)))
  exact d_share (k := m + n + 1) (by omega) (sub_lt (ha.mul2 hb) (by rw [Nat.add_comm]; exact hb.mul2 ha)) (Nat.lt_of_lt_of_le (ha.mul3 hb) (pow_le (by omega))) (Int.mul_ne_zero (den_ne a) (den_ne b))
theorem d_times (ha : Hb m a) (hb : Hb n b) (h : m + n ≤ 900) : denOf 2 F_times [eQ a, eQ b] = .ok (eQ (a * b)) false none := by
  have r0 : Rdv (eVar 0) (st0 2 [eQ a, eQ b]) (eQ a) := rd_var (b := false) rfl
  have r1 : Rdv (eVar 1) (st0 2 [eQ a, eQ b]) (eQ b) := rd_var (b := false) rfl
  have k1 := ha.n1 (by omega); have k2 := ha.d1 (by omega); have k3 := hb.n1 (by omega); have k4 := hb.d1 (by omega)
  rw [← mul_eq]
  refine den_ret (s1 := st0 2 [eQ a, eQ b]) (s_seq_ret (s_ret (ev_call (io := none) (eva_cons (ev_mul (ev_num r0) (ev_num r1) k1 k3) (eva_cons (ev_mul (ev_den r0) (ev_den r1) k2 k4) eva_nil)) ?_)))
  exact d_share (k := m + n) (by omega) (ha.mul1 hb) (ha.mul3 hb) (Int.mul_ne_zero (den_ne a) (den_ne b))
theorem d_over (ha : Hb m a) (hb : Hb n b) (h : m + n ≤ 900) (h0 : b ≠ 0) : denOf 2 F_over [eQ a, eQ b] = .ok (eQ (a / b)) false none := by
  have r0 : Rdv (eVar 0) (st0 2 [eQ a, eQ b]) (eQ a) := rd_var (b := false) rfl
  have r1 : Rdv (eVar 1) (st0 2 [eQ a, eQ b]) (eQ b) := rd_var (b := false) rfl
  have k1 := ha.n1 (by omega); have k2 := ha.d1 (by omega); have k3 := hb.n1 (by omega); have k4 := hb.d1 (by omega)
  rw [← div_eq]
  refine den_ret (s1 := st0 2 [eQ a, eQ b]) (s_seq_ret (s_ret (ev_call (io := none) (eva_cons (ev_mul (ev_num r0) (ev_den r1) k1 k4) (eva_cons (ev_mul (ev_den r0) (ev_num r1) k2 k3) eva_nil)) ?_)))
  exact d_share (k := m + n) (by omega) (ha.mul2 hb) (ha.mul4 hb) (Int.mul_ne_zero (den_ne a) (num_ne h0))
theorem d_less (ha : Hb m a) (hb : Hb n b) (h : m + n ≤ 900) : denOf 2 F_less [eQ a, eQ b] = .ok (.bl (decide (a < b))) false none := by
  have r0 : Rdv (eVar 0) (st0 2 [eQ a, eQ b]) (eQ a) := rd_var (b := false) rfl
  have r1 : Rdv (eVar 1) (st0 2 [eQ a, eQ b]) (eQ b) := rd_var (b := false) rfl
  have k1 := ha.n1 (by omega); have k2 := ha.d1 (by omega); have k3 := hb.n1 (by omega); have k4 := hb.d1 (by omega)
  rw [show decide (a < b) = decide (a.num * (b.den : Int) < b.num * a.den) from decide_eq_decide.mpr (Rat.lt_iff a b)]
  exact den_ret (s1 := st0 2 [eQ a, eQ b]) (s_seq_ret (s_ret (ev_op2 (fr3 := false) (ev_mul (ev_num r0) (ev_den r1) k1 k4).rd (ev_mul (ev_num r1) (ev_den r0) k3 k2).rd rfl)))
def sgn (q : Rat) : Int := if q = 0 then 0 else if 0 < q then 1 else -1
theorem num_pos {q : Rat} : 0 < q.num ↔ 0 < q := by rw [Rat.lt_iff]; simp
theorem d_sign (a : Rat) : denOf 1 F_sign [eQ a] = .ok (.int (sgn a)) false none := by
  have r0 : Rdv (eVar 0) (st0 1 [eQ a]) (eQ a) := rd_var (b := false) rfl
  have t := evt_bool (fr := false) (ev_op2 (ev_num r0).rd (ev_c (s := st0 1 [eQ a]) (p := .int 0)).rd (eq_ii _ _))
  refine den_ret (fr := false) (s1 := st0 1 [eQ a]) ?_
  unfold F_sign
  by_cases h : a = 0
  · refine s_seq_ret (si t (fun _ => ?_) fun z => by rw [decide_eq_false_iff_not] at z; exact absurd (Rat.num_eq_zero.mpr h) z)
    rw [show sgn a = 0 from if_pos h]
    exact s_seq_ret (s_ret ev_c)
  · rw [show sgn a = if 0 < a then 1 else -1 from if_neg h]
    refine sq (si t (fun z => by rw [decide_eq_true_eq] at z; exact absurd (Rat.num_eq_zero.mp z) h) fun _ => rfl) (s_seq_ret (s_ret ?_))
    have t2 : EvT (tBool (eOp2 opGt (eOp2 opIx (eVar 0) (eC (.int 0))) (eC (.int 0)))) (st0 1 [eQ a]) (decide (0 < a.num)) := evt_bool (fr := false) (ev_op2 (ev_num r0).rd ev_c.rd rfl)
    refine ev_if t2 (fun z => ?_) fun z => ?_
    · rw [decide_eq_true_eq] at z
      rw [if_pos (num_pos.mp z)]
      exact ev_c
    · rw [decide_eq_false_iff_not] at z
      rw [if_neg fun y => z (num_pos.mpr y)]
      exact ev_op1 ev_c.rd rfl
theorem d_whole (n : Int) : denOf 1 F_whole [.int n] = .ok (eQ (n : Rat)) false none := by
  refine den_ret (s1 := st0 1 [.int n]) (s_seq_ret (s_ret ?_))
  exact ev_tup (ps := [.int n, .int 1]) (eva_cons (ev_var (i := 0) rfl) (eva_cons ev_c eva_nil)) (by rw [sizeLine_eq]; exact Nat.le_of_ble_eq_true rfl)
theorem okb_int' (n : Nat) (i : Int) : okb n (.int i) = true := by cases n <;> rfl
theorem okb_Q (n : Nat) (q : Rat) : okb (n + 1) (eQ q) = true := List.all_eq_true.mpr fun p hp => by
  rcases List.mem_cons.mp hp with e | hp
  · rw [e]; exact okb_int' _ _
  · rw [List.mem_singleton.mp hp]; exact okb_int' _ _
theorem eQ_inj {a b : Rat} (h : eQ a = eQ b) : a = b := by
  have h := PV.tup.inj h
  injection h with h1 h2
  injection h2 with h2 _
  exact Rat.ext (PV.int.inj h1) (by have := PV.int.inj h2; omega)
theorem peq_Q (a b : Rat) : peq (eQ a) (eQ b) = decide (a = b) := by
  rw [peq_dec]
  by_cases h : a = b
  · rw [h, decide_eq_true rfl, decide_eq_true rfl]
  · rw [decide_eq_false h, decide_eq_false fun e => h (eQ_inj e)]
theorem eq_Q (a b : Rat) : opEq (eQ a) (eQ b) = some (.bl (decide (a = b)), false) := by
  rw [opEq_data (by intro _ _ h; cases h), okb_Q, okb_Q, peq_Q]
  rfl
theorem eQ0 : eQ 0 = .tup [.int 0, .int 1] := rfl
theorem eQ1 : eQ 1 = .tup [.int 1, .int 1] := rfl
theorem d_is_share (ha : Hb m a) (h : m ≤ 900) : denOf 1 F_is_share [eQ a] = .ok (.bl true) false none := by
  have r0 : Rdv (eVar 0) (st0 1 [eQ a]) (eQ a) := rd_var (b := false) rfl
  have e1 := d_share (n := a.num) (d := a.den) (k := m) (by omega) ha.1 (by rw [Int.natAbs_natCast]; exact ha.2) (den_ne a)
  rw [Rat.num_divInt_den] at e1
  have c1 : Ev (eOp2 opGt (eOp2 opIx (eVar 0) (eC (.int 1))) (eC (.int 0))) (st0 1 [eQ a]) (.bl true) false := ev_op2 (ev_den r0).rd ev_c.rd (by
    show some (PV.bl (decide ((a.den : Int) > 0)), false) = _
    rw [decide_eq_true (by have := a.den_pos; omega)])
  have c2 : Ev (eOp2 opEq (eCall (denOf 4 F_share) (aCons (eOp2 opIx (eVar 0) (eC (.int 0))) (aCons (eOp2 opIx (eVar 0) (eC (.int 1))) aNil))) (eTup (aCons (eOp2 opIx (eVar 0) (eC (.int 0))) (aCons (eOp2 opIx (eVar 0) (eC (.int 1))) aNil)))) (st0 1 [eQ a]) (.bl true) false := by
    have := eq_Q a a
    rw [decide_eq_true rfl] at this
    exact ev_op2 (ev_call (eva_cons (ev_num r0) (eva_cons (ev_den r0) eva_nil)) e1).rd (ev_tup (ps := [.int a.num, .int a.den]) (eva_cons (ev_num r0) (eva_cons (ev_den r0) eva_nil)) (by rw [sizeLine_eq]; exact Nat.le_of_ble_eq_true rfl)).rd this
  refine den_ret (fr := false) (s1 := st0 1 [eQ a]) (s_seq_ret (s_ret ?_))
  unfold Ev eAnd
  rw [bnd_ok c1, bnd_ok (show asB (.val (.bl true) false) (st0 1 [eQ a]) = .ok true _ from rfl), if_pos rfl]
  exact c2
end
end PF
end

section
set_option Elab.async false
set_option linter.all false
set_option maxRecDepth 100000
set_option maxHeartbeats 1000000
set_option autoImplicit false
set_option exponentiation.threshold 2000
/-! MP: polynomials as lists of fractions: tidy, scaled, divided. -/
namespace PF
open PySem PySem.Spec PyProof.Rows L2 HF
theorem lastD_eq {xs : List Rat} {a : Rat} : xs.getLastD a = xs.getLast?.getD a := List.getLastD_eq_getLast?
def eL (xs : List Rat) : List PV := xs.map eQ
def eP (xs : List Rat) : PV := .tup (eL xs)
def HbL (n : Nat) (xs : List Rat) : Prop := ∀ a ∈ xs, Hb n a
theorem HbL.mono {m n : Nat} {xs : List Rat} (h : HbL m xs) (hn : m ≤ n) : HbL n xs := fun a ha => (h a ha).mono hn
theorem hb0 : Hb 1 0 := ⟨by decide, by decide⟩
theorem hb1 : Hb 1 1 := ⟨by decide, by decide⟩
theorem hbm1 : Hb 1 (-1) := ⟨by decide, by decide⟩
theorem eL_len (xs : List Rat) : (eL xs).length = xs.length := List.length_map _
theorem eL_app (xs ys : List Rat) : eL (xs ++ ys) = eL xs ++ eL ys := List.map_append
theorem HbL.getD {n : Nat} {xs : List Rat} (h : HbL n xs) (hn : 1 ≤ n) (k : Nat) : Hb n (xs.getD k 0) := by
  rw [List.getD_eq_getElem?_getD]
  cases e : xs[k]? with
  | none => exact hb0.mono hn
  | some a => exact h a (List.mem_of_getElem? e)
theorem HbL.set {n k : Nat} {xs : List Rat} {a : Rat} (h : HbL n xs) (ha : Hb n a) : HbL n (xs.set k a) := fun b hb => by
  rcases List.mem_or_eq_of_mem_set hb with h1 | h1
  · exact h b h1
  · rw [h1]; exact ha
theorem HbL.last {n : Nat} {xs : List Rat} (h : HbL n xs) (hn : 1 ≤ n) : Hb n (xs.getLastD 0) := by
  cases xs with
  | nil => exact hb0.mono hn
  | cons a as =>
    rw [List.getLastD_cons]
    cases as with
    | nil => exact h a List.mem_cons_self
    | cons b bs =>
      have := List.getLast_mem (l := b :: bs) (by simp)
      rw [show (b :: bs).getLastD a = (b :: bs).getLast (by simp) from lastD_eq.trans (by rw [List.getLast?_eq_some_getLast (by simp)]; rfl)]
      exact h _ (List.mem_cons_of_mem _ this)
/-! reading -/
theorem atI_nat {α : Type} {xs : List α} {k : Nat} {a : α} (h : xs[k]? = some a) : atI xs (k : Int) = some a := by
  have hk := (List.getElem?_eq_some_iff.mp h).1
  unfold atI ixN
  rw [if_pos (by omega), if_pos (by omega)]
  simpa using h
theorem ixL {xs : List Rat} {k : Nat} (h : k < xs.length) : opIx (.lst (eL xs)) (.int k) = some (eQ (xs.getD k 0), false) := by
  have e : (eL xs)[k]? = some (eQ (xs.getD k 0)) := by
    unfold eL
    rw [List.getElem?_map, List.getD_eq_getElem?_getD, List.getElem?_eq_getElem h]
    rfl
  show (atI (eL xs) (k : Int)).map _ = _
  rw [atI_nat e]
  rfl
theorem ixT {xs : List Rat} {k : Nat} (h : k < xs.length) : opIx (eP xs) (.int k) = some (eQ (xs.getD k 0), false) := ixL h
theorem ixL_last {xs : List Rat} (h : xs ≠ []) : opIx (.lst (eL xs)) (.int (-1)) = some (eQ (xs.getLastD 0), false) := by
  have hl : 0 < xs.length := List.length_pos_iff.mpr h
  have e : (eL xs)[xs.length - 1]? = some (eQ (xs.getLastD 0)) := by
    unfold eL
    rw [List.getElem?_map, ← List.getLast?_eq_getElem?, List.getLast?_eq_some_getLast h, lastD_eq, List.getLast?_eq_some_getLast h]
    rfl
  show (atI (eL xs) (-1)).map _ = _
  unfold atI ixN
  rw [if_neg (by omega), if_pos (by rw [eL_len]; omega), eL_len]
  rw [show ((-1 : Int) + (xs.length : Nat)).toNat = xs.length - 1 by omega]
  simp only [Option.bind_some, e, Option.map_some]
theorem ixT_last {xs : List Rat} (h : xs ≠ []) : opIx (eP xs) (.int (-1)) = some (eQ (xs.getLastD 0), false) := ixL_last h
section
variable {s : SE} {i : Nat} {b : Bool} {f : PM HF.Arg} {fs : PM (List HF.Arg)} {ps : List PV}
theorem ev_m1 : Ev (eOp1 opNeg (eC (.int 1))) s (.int (-1)) false := ev_op1 ev_c.rd rfl
theorem ev_callR {den : Den} {r : PV} {fr : Bool} {io : Option PV} (ha : RdA fs s ps) (hd : den ps = .ok r fr io) (hi : immR r fr = true) : Ev (eCall den fs) s r fr := by
  obtain ⟨as, h1, h2⟩ := ha
  unfold Ev eCall
  rw [bnd_ok h1]
  simp only [callD, h2, hd, hi, Bool.or_true, if_true]
theorem imm_Q (q : Rat) : imm (eQ q) = true := rfl
theorem imms_L : ∀ xs : List Rat, imms (eL xs) = true
  | [] => rfl
  | a :: xs => by
    show imms (eQ a :: eL xs) = true
    simp only [imms, imm_Q, imms_L xs, Bool.and_self]
theorem imm_P (xs : List Rat) : immR (eP xs) false = true := imms_L xs
end
/-! ### tidy -/
def tidyQ (xs : List Rat) : List Rat := (xs.reverse.dropWhile fun a => decide (a = 0)).reverse
theorem tidyQ_nil : tidyQ [] = [] := rfl
theorem tidyQ_snoc (xs : List Rat) (a : Rat) : tidyQ (xs ++ [a]) = if a = 0 then tidyQ xs else xs ++ [a] := by
  unfold tidyQ
  rw [List.reverse_append, List.reverse_singleton, List.singleton_append, List.dropWhile_cons]
  by_cases h : a = 0
  · simp [h]
  · simp [h]
theorem getLastD_snoc (xs : List Rat) (a : Rat) : (xs ++ [a]).getLastD 0 = a := by rw [lastD_eq]; simp
theorem snoc_cases (xs : List Rat) : xs = [] ∨ ∃ ys a, xs = ys ++ [a] := by
  rcases List.eq_nil_or_concat xs with h | ⟨ys, a, h⟩
  · exact .inl h
  · exact .inr ⟨ys, a, by rw [h, List.concat_eq_append]⟩
theorem tidyQ_id {xs : List Rat} (h : xs = [] ∨ xs.getLastD 0 ≠ 0) : tidyQ xs = xs := by
  rcases snoc_cases xs with e | ⟨ys, a, e⟩
  · rw [e]; rfl
  · subst e
    rw [tidyQ_snoc, if_neg]
    rcases h with h | h
    · simp at h
    · rwa [getLastD_snoc] at h
theorem tidyQ_last (xs : List Rat) : tidyQ xs = [] ∨ (tidyQ xs).getLastD 0 ≠ 0 := by
  induction h : xs.length generalizing xs with
  | zero => exact .inl (by rw [List.length_eq_zero_iff.mp h]; rfl)
  | succ n ih =>
    rcases snoc_cases xs with e | ⟨ys, a, e⟩
    · rw [e]; exact .inl rfl
    · subst e
      rw [tidyQ_snoc]
      by_cases ha : a = 0
      · rw [if_pos ha]; exact ih ys (by simpa using h)
      · rw [if_neg ha]; exact .inr (by rw [getLastD_snoc]; exact ha)
theorem tidyQ_sub (xs : List Rat) : ∀ a ∈ tidyQ xs, a ∈ xs := fun a ha => by
  unfold tidyQ at ha
  rw [List.mem_reverse] at ha
  exact List.mem_reverse.mp ((List.dropWhile_suffix _).mem ha)
theorem HbL.tidy {n : Nat} {xs : List Rat} (h : HbL n xs) : HbL n (tidyQ xs) := fun a ha => h a (tidyQ_sub xs a ha)
theorem tidyQ_len (xs : List Rat) : (tidyQ xs).length ≤ xs.length := by
  unfold tidyQ
  rw [List.length_reverse]
  have := (List.dropWhile_suffix (l := xs.reverse) fun a => decide (a = 0)).length_le
  rwa [List.length_reverse] at this
def Lt : PM Fl := (sSeq (sExpr (eMeth 1 opPop aNil)) sNext)
def Ct : PM Bool := (tAndP (tTru (eVar 1)) (tBool (eOp2 opEq (eOp2 opIx (eVar 1) (eOp1 opNeg (eC (.int 1)))) (eC (.tup [.int 0, .int 1])))))
theorem tru_lst (ps : List PV) : truthP (.lst ps) = some (!ps.isEmpty) := rfl
theorem tidy_wl (x : Option (Bool × PV)) : ∀ (n : Nat) (xs : List Rat), xs.length ≤ n → wl Ct Lt (n + 1) [x, some (true, .lst (eL xs))] = .ok .next [x, some (true, .lst (eL (tidyQ xs)))] := by
  have stop : ∀ (m : Nat) (xs : List Rat), Ct [x, some (true, .lst (eL xs))] = .ok false [x, some (true, .lst (eL xs))] → wl Ct Lt (m + 1) [x, some (true, .lst (eL xs))] = .ok .next [x, some (true, .lst (eL xs))] := fun m xs h => by
    unfold wl
    rw [bnd_ok h]
    rfl
  have c0 : Ct [x, some (true, .lst (eL []))] = .ok false [x, some (true, .lst (eL []))] := evt_and (b := false) (evt_tru (rd_var (i := 1) rfl) rfl) (b2 := false) fun z => by cases z
  have cs : ∀ (xs : List Rat) (a : Rat), Ct [x, some (true, .lst (eL (xs ++ [a])))] = .ok (decide (a = 0)) [x, some (true, .lst (eL (xs ++ [a])))] := fun xs a => by
    have h1 := ixL_last (xs := xs ++ [a]) (by simp)
    rw [getLastD_snoc] at h1
    have := evt_and (b := true) (evt_tru (s := [x, some (true, .lst (eL (xs ++ [a])))]) (rd_var (i := 1) rfl) (by rw [tru_lst, eL_app]; simp [eL])) fun _ => evt_bool (ev_op2 (ev_op2 (rd_var (i := 1) rfl) ev_m1.rd h1).rd ev_c.rd (eq_Q a 0))
    rw [Bool.true_and] at this
    exact this
  intro n
  induction n with
  | zero =>
    intro xs h
    have : xs = [] := List.length_eq_zero_iff.mp (by omega)
    subst this
    exact stop 0 [] c0
  | succ n ih =>
    intro xs h
    rcases snoc_cases xs with e | ⟨ys, a, e⟩
    · subst e; exact stop _ [] c0
    · subst e
      by_cases ha : a = 0
      · have c1 := cs ys a
        rw [decide_eq_true ha] at c1
        rw [wl, bnd_ok c1]
        have e2 : Lt [x, some (true, .lst (eL (ys ++ [a])))] = .ok .next [x, some (true, .lst (eL ys))] := by
          unfold Lt
          refine sq (s_expr (a := .val (eQ a) false) (s1 := [x, some (true, .lst (eL ys))]) ?_) rfl
          unfold eMeth
          rw [bnd_ok (show isOwnL 1 _ = .ok () _ from rfl), bnd_ok (show aNil _ = .ok [] _ from rfl), bnd_ok (show relAll [] _ = .ok [] _ from rfl)]
          have e3 : opPop (eL (ys ++ [a])) [] = some (eL ys, eQ a) := by
            unfold opPop
            have : (eL (ys ++ [a]))[(eL (ys ++ [a])).length - 1]? = some (eQ a) := by rw [eL_app, eL_len' ys a]; simp [eL]
            rw [this]
            simp [eL]
          show (match opPop (eL (ys ++ [a])) [] with
            | some (ps', res) => _
            | none => _) = _
          rw [e3]
          rfl
        simp only [if_true, e2]
        rw [ih ys (by simpa using h), tidyQ_snoc, if_pos ha]
      · have c1 := cs ys a
        rw [decide_eq_false ha] at c1
        rw [stop _ _ c1, tidyQ_snoc, if_neg ha]
where eL_len' (ys : List Rat) (a : Rat) : (eL ys ++ eL [a]).length - 1 = (eL ys).length := by simp [eL]
theorem d_tidy {p : PV} {xs : List Rat} (hp : opList [p] = some (.lst (eL xs), true)) (hl : xs.length ≤ 1000000) : denOf 2 F_tidy [p] = .ok (eP (tidyQ xs)) false none := by
  refine den_ret (s1 := [some (false, p), some (true, .lst (eL (tidyQ xs)))]) ?_
  unfold F_tidy
  refine sq (s_set (ev_opN (rda_cons (rd_var (i := 0) (b := false) rfl) rda_nil) hp) (by simp [st0])) ?_
  refine sq (s1 := [some (false, p), some (true, .lst (eL (tidyQ xs)))]) ?_ (s_seq_ret (s_ret (ev_opN (rda_cons (rd_var (i := 1) rfl) rda_nil) rfl)))
  show sWhile Ct Lt [some (false, p), some (true, .lst (eL xs))] = _
  have w := tidy_wl (some (false, p)) xs.length xs (Nat.le_refl _)
  rw [sWhile_eq (xs.length + 1) (by unfold FUEL; omega) (by rw [w]; nofun), w]
theorem list_P (xs : List Rat) : opList [eP xs] = some (.lst (eL xs), true) := rfl
theorem list_L (xs : List Rat) : opList [.lst (eL xs)] = some (.lst (eL xs), true) := rfl
/-! ### scaled -/
def scaledQ (xs : List Rat) (a : Rat) : List Rat := tidyQ (xs.map fun b => a * b)
theorem lenOk {xs : List Rat} (h : xs.length ≤ 1000) : xs.length ≤ sizeLine := by rw [sizeLine_eq]; omega
theorem d_scaled {xs : List Rat} {a : Rat} {m n : Nat} (hx : HbL m xs) (ha : Hb n a) (h : n + m ≤ 900) (hl : xs.length ≤ 1000) : denOf 3 F_scaled [eP xs, eQ a] = .ok (eP (scaledQ xs a)) false none := by
  refine den_ret (s1 := st0 3 [eP xs, eQ a]) (s_seq_ret (s_ret (ev_call (io := none) (eva_cons (ev_compX xs eQ (fun b => eQ (a * b)) (iv_tup (ev_var (i := 0) rfl)) (lenOk hl) (by simp [st0]) fun b hb => ⟨false, ?_⟩) eva_nil) ?_)))
  · exact ev_call (eva_cons (ev_var (i := 1) rfl) (eva_cons (ev_var (i := 2) rfl) eva_nil)) (d_times ha (hx b hb) h)
  · have := d_tidy (p := .lst (xs.map fun b => eQ (a * b))) (xs := xs.map fun b => a * b) (by unfold eL; rw [List.map_map]; rfl) (by rw [List.length_map]; omega)
    exact this
end PF
end

section
set_option Elab.async false
set_option linter.all false
set_option maxRecDepth 100000
set_option maxHeartbeats 1000000
set_option autoImplicit false
set_option exponentiation.threshold 2000
/-! MP2: divided. -/
namespace PF
open PySem PySem.Spec PyProof.Rows L2 HF
def HbD (n : Nat) (xs : List Rat) : Prop := ∀ i, Hb n (xs.getD i 0)
theorem HbL.d {n : Nat} {xs : List Rat} (h : HbL n xs) (hn : 1 ≤ n) : HbD n xs := fun i => h.getD hn i
theorem HbD.l {n : Nat} {xs : List Rat} (h : HbD n xs) : HbL n xs := fun a ha => by
  obtain ⟨i, hi, e⟩ := List.mem_iff_getElem.mp ha
  have := h i
  rwa [List.getD_eq_getElem?_getD, List.getElem?_eq_getElem hi, e] at this
def subAt : List Rat → Nat → Rat → List Rat → List Rat
  | re, _, _, [] => re
  | re, k, f, a :: as => subAt (re.set k (re.getD k 0 - f * a)) (k + 1) f as
def divK (other : List Rat) : Nat → List Rat → List Rat → List Rat × List Rat
  | 0, fo, re => (fo, re)
  | k + 1, fo, re => divK other k (fo.set k (re.getD (k + other.length - 1) 0 / other.getLastD 0)) (subAt re k (re.getD (k + other.length - 1) 0 / other.getLastD 0) other)
def divQ (one other : List Rat) : List Rat × List Rat :=
  let r := divK other (one.length + 1 - other.length) (List.replicate (one.length + 1 - other.length) 0) one
  (tidyQ r.1, tidyQ r.2)
def gro (h2 : Nat) : Nat → Nat → Nat
  | 0, h => h
  | k + 1, h => gro h2 k (2 * h + 2 * h2 + 1)
theorem gro_ge (h2 : Nat) : ∀ k h, h ≤ gro h2 k h
  | 0, _ => Nat.le_refl _
  | k + 1, h => Nat.le_trans (by omega) (gro_ge h2 k _)
theorem getD_set {xs : List Rat} {i j : Nat} {a : Rat} : (xs.set i a).getD j 0 = if i = j ∧ i < xs.length then a else xs.getD j 0 := by
  rw [List.getD_eq_getElem?_getD, List.getD_eq_getElem?_getD, List.getElem?_set]
  by_cases h : i = j
  · subst h
    by_cases h2 : i < xs.length
    · simp [h2]
    · simp [h2]
  · simp [h]
theorem subAt_len : ∀ (as re : List Rat) (k : Nat) (f : Rat), (subAt re k f as).length = re.length
  | [], _, _, _ => rfl
  | a :: as, re, k, f => by rw [subAt, subAt_len as]; exact List.length_set
theorem subAt_hb {hr hf h2 : Nat} {f : Rat} (hff : Hb hf f) : ∀ (as re : List Rat) (k : Nat), HbL h2 as → (∀ i, i < k → Hb (hr + (hf + h2) + 1) (re.getD i 0)) → (∀ i, k ≤ i → Hb hr (re.getD i 0)) → HbD (hr + (hf + h2) + 1) (subAt re k f as)
  | [], re, k, _, h1, h3 => fun i => by
    rcases Nat.lt_or_ge i k with h | h
    · exact h1 i h
    · exact (h3 i h).mono (by omega)
  | a :: as, re, k, ha, h1, h3 => by
    rw [subAt]
    refine subAt_hb hff as _ (k + 1) (fun b hb => ha b (List.mem_cons_of_mem _ hb)) (fun i hi => ?_) fun i hi => ?_
    · rw [getD_set]
      split
      · exact (h3 k (Nat.le_refl _)).sub (hff.mul (ha a List.mem_cons_self))
      · rcases Nat.lt_or_ge i k with h | h
        · exact h1 i h
        · exact (h3 i h).mono (by omega)
    · rw [getD_set, if_neg (by omega)]
      exact h3 i (by omega)
def DS (one other re fo : List Rat) (x4 x5 x6 : Option (Bool × PV)) : SE := [some (false, eP one), some (false, eP other), some (true, .lst (eL re)), some (true, .lst (eL fo)), x4, x5, x6]
theorem set_L {xs : List Rat} {k : Nat} {a : Rat} (h : k < xs.length) : opSet (.lst (eL xs)) (.int k) (eQ a) = some (.lst (eL (xs.set k a))) := by
  show (match ixN (eL xs).length (k : Int) with
    | some j => some (PV.lst ((eL xs).set j (eQ a)))
    | none => none) = _
  unfold ixN
  rw [eL_len, if_pos (by omega), if_pos (by omega)]
  simp [eL, List.map_set]
def Inn : PM Fl := (sSeq (sAsg (eCall (denOf 2 F_minus) (aCons (eOp2 opIx (eVar 2) (eOp2 opAdd (eVar 4) (eVar 5))) (aCons (eCall (denOf 2 F_times) (aCons (eOp2 opIx (eVar 3) (eVar 4)) (aCons (eVar 6) aNil))) aNil))) (gSubP 2 opSet (eOp2 opAdd (eVar 4) (eVar 5)))) sNext)
theorem inner {one other fo : List Rat} {k hr hf h2 : Nat} {f : Rat} (hff : Hb hf f) (hk : k < fo.length) (hfk : fo.getD k 0 = f) (hs : hr + (hf + h2) + 1 ≤ 900) : ∀ (as re : List Rat) (j : Nat) (x5 x6 : Option (Bool × PV)), HbL h2 as → (∀ i, k + j ≤ i → Hb hr (re.getD i 0)) → k + j + as.length ≤ re.length →
    ∃ y5 y6, forL (gTp 2 (gsCons (gNm 5) (gsCons (gNm 6) gsNil))) Inn (enuP j (eL as)) (DS one other re fo (some (false, eI k)) x5 x6) = .ok .next (DS one other (subAt re (k + j) f as) fo (some (false, eI k)) y5 y6)
  | [], re, j, x5, x6, _, _, _ => ⟨x5, x6, rfl⟩
  | a :: as, re, j, x5, x6, ha, h3, hl => by
    rw [List.length_cons] at hl
    have hj : k + j < re.length := by omega
    obtain ⟨y5, y6, ih⟩ := inner hff hk hfk hs as (re.set (k + j) (re.getD (k + j) 0 - f * a)) (j + 1) (some (false, eI j)) (some (false, eQ a)) (fun b hb => ha b (List.mem_cons_of_mem _ hb)) (fun i hi => by rw [getD_set, if_neg (by omega)]; exact h3 i (by omega)) (by rw [List.length_set]; omega)
    refine ⟨y5, y6, ?_⟩
    have e1 : nx (gTp 2 (gsCons (gNm 5) (gsCons (gNm 6) gsNil)) (.tup [eI j, eQ a])) (DS one other re fo (some (false, eI k)) x5 x6) = .ok () (DS one other re fo (some (false, eI k)) (some (false, eI j)) (some (false, eQ a))) := by
      unfold nx
      rw [g_tp2 (by simp [DS]) (by simp [DS])]
      rfl
    have kj : ∀ {s : SE}, s[4]? = some (some (false, eI k)) → s[5]? = some (some (false, eI j)) → Ev (eOp2 opAdd (eVar 4) (eVar 5)) s (.int (k + j : Nat)) false := fun q1 q2 => by
      have := ev_op2 (o := opAdd) (r := .int ((k : Int) + j)) (fr3 := false) (rd_var (b := false) q1) (rd_var (b := false) q2) rfl
      rwa [show (k : Int) + j = ((k + j : Nat) : Int) by omega] at this
    have e2 : Inn (DS one other re fo (some (false, eI k)) (some (false, eI j)) (some (false, eQ a))) = .ok .next (DS one other (re.set (k + j) (re.getD (k + j) 0 - f * a)) fo (some (false, eI k)) (some (false, eI j)) (some (false, eQ a))) := by
      unfold Inn
      have t1 : Ev (eCall (denOf 2 F_times) (aCons (eOp2 opIx (eVar 3) (eVar 4)) (aCons (eVar 6) aNil))) (DS one other re fo (some (false, eI k)) (some (false, eI j)) (some (false, eQ a))) (eQ (f * a)) false := by
        have := ixL hk
        rw [hfk] at this
        exact ev_call (eva_cons (ev_op2 (rd_var (i := 3) rfl) (rd_var (i := 4) (b := false) rfl) this) (eva_cons (ev_var (i := 6) rfl) eva_nil)) (d_times hff (ha a List.mem_cons_self) (by omega))
      refine sq (s_sub (i := 2) (ev_call (eva_cons (ev_op2 (rd_var (i := 2) rfl) (kj rfl rfl).rd (ixL hj)) (eva_cons t1 eva_nil)) (d_minus (h3 (k + j) (Nat.le_refl _)) (hff.mul (ha a List.mem_cons_self)) (by omega))) rfl (kj rfl rfl) (set_L hj)) rfl
    show forL _ _ (.tup [eI j, eQ a] :: enuP (j + 1) (eL as)) _ = _
    unfold forL
    rw [bnd_ok e1]
    simp only [e2]
    rw [ih]
    rfl
def Out : PM Fl := (sSeq (sAsg (eCall (denOf 2 F_over) (aCons (eOp2 opIx (eVar 2) (eOp2 opSub (eOp2 opAdd (eVar 4) (eOpN opLen (aCons (eVar 1) aNil))) (eC (.int 1)))) (aCons (eOp2 opIx (eVar 1) (eOp1 opNeg (eC (.int 1)))) aNil))) (gSubP 3 opSet (eVar 4)))
  (sSeq (sFor (iEnu (aCons (eVar 1) aNil)) (gTp 2 (gsCons (gNm 5) (gsCons (gNm 6) gsNil))) Inn)
  sNext))
theorem rngC_down (k : Nat) : rngC (k : Int) (-1) (k + 1) = eI k :: rngC ((k : Int) - 1) (-1) k := by
  unfold rngC
  rw [List.range_succ_eq_map, List.map_cons, List.map_map]
  have e0 : PV.int ((k : Int) + ((0 : Nat) : Int) * -1) = eI k := by unfold eI; simp
  rw [e0]
  congr 1
  refine List.map_congr_left fun i _ => ?_
  show PV.int _ = PV.int _
  congr 1
  omega
theorem len_P {s : SE} {i : Nat} {xs : List Rat} (h : s[i]? = some (some (false, eP xs))) : Ev (eOpN opLen (aCons (eVar i) aNil)) s (.int xs.length) false := ev_opN (rda_cons (rd_var h) rda_nil) (by
  show sI (eL xs).length = _
  rw [eL_len])
theorem outer {one other : List Rat} {h2 : Nat} (h21 : 1 ≤ h2) (ho : HbL h2 other) (hne : other ≠ []) (hl0 : other.getLastD 0 ≠ 0) : ∀ (K h : Nat) (fo re : List Rat) (x4 x5 x6 : Option (Bool × PV)), HbD h re → gro h2 K h ≤ 900 → K ≤ fo.length → (0 < K → K + other.length ≤ re.length + 1) →
    ∃ y4 y5 y6, forL (gNm 4) Out (rngC ((K : Int) - 1) (-1) K) (DS one other re fo x4 x5 x6) = .ok .next (DS one other (divK other K fo re).2 (divK other K fo re).1 y4 y5 y6)
  | 0, h, fo, re, x4, x5, x6, _, _, _, _ => ⟨x4, x5, x6, rfl⟩
  | K + 1, h, fo, re, x4, x5, x6, hre, hg, hfo, hlen => by
    have hl := hlen (by omega)
    have hol : 0 < other.length := List.length_pos_iff.mpr hne
    have hg' : 2 * h + 2 * h2 + 1 ≤ 900 := Nat.le_trans (gro_ge h2 K _) hg
    have hf : Hb (h + h2) (re.getD (K + other.length - 1) 0 / other.getLastD 0) := (hre _).div (ho.last h21) hl0
    have hlt : K + other.length - 1 < re.length := by omega
    have hK : K < fo.length := by omega
    obtain ⟨y5, y6, e3⟩ := inner (one := one) (other := other) (fo := fo.set K (re.getD (K + other.length - 1) 0 / other.getLastD 0)) (k := K) (hr := h) (h2 := h2) hf (by rw [List.length_set]; exact hK) (by rw [getD_set, if_pos ⟨rfl, hK⟩]) (by omega) other re 0 x5 x6 ho (fun i _ => hre i) (by omega)
    obtain ⟨z4, z5, z6, ih⟩ := outer (one := one) h21 ho hne hl0 K (2 * h + 2 * h2 + 1) (fo.set K (re.getD (K + other.length - 1) 0 / other.getLastD 0)) (subAt re K (re.getD (K + other.length - 1) 0 / other.getLastD 0) other) (some (false, eI K)) y5 y6
      (by have := subAt_hb (hr := h) hf other re K ho (fun i _ => (hre i).mono (by omega)) fun i _ => hre i
          exact fun i => (this i).mono (by omega)) hg (by rw [List.length_set]; omega) (fun h0 => by rw [subAt_len]; omega)
    refine ⟨z4, z5, z6, ?_⟩
    rw [show ((K + 1 : Nat) : Int) - 1 = (K : Int) by omega, rngC_down]
    unfold forL
    have e1 : nx (gNm 4 (eI K)) (DS one other re fo x4 x5 x6) = .ok () (DS one other re fo (some (false, eI K)) x5 x6) := by
      unfold nx
      rw [g_nm (by simp [DS])]
      rfl
    rw [bnd_ok e1]
    have ix : ∀ {s : SE}, s[4]? = some (some (false, eI K)) → s[1]? = some (some (false, eP other)) → Ev (eOp2 opSub (eOp2 opAdd (eVar 4) (eOpN opLen (aCons (eVar 1) aNil))) (eC (.int 1))) s (.int (K + other.length - 1 : Nat)) false := fun q1 q2 => by
      have := ev_op2 (o := opSub) (r := .int ((K : Int) + other.length - 1)) (fr3 := false) (ev_op2 (o := opAdd) (r := .int ((K : Int) + other.length)) (fr3 := false) (rd_var (b := false) q1) (len_P q2).rd rfl).rd (ev_c (p := .int 1)).rd rfl
      rwa [show (K : Int) + other.length - 1 = ((K + other.length - 1 : Nat) : Int) by omega] at this
    have e2 : Out (DS one other re fo (some (false, eI K)) x5 x6) = .ok .next (DS one other (subAt re K (re.getD (K + other.length - 1) 0 / other.getLastD 0) other) (fo.set K (re.getD (K + other.length - 1) 0 / other.getLastD 0)) (some (false, eI K)) y5 y6) := by
      unfold Out
      refine sq (s_sub (i := 3) (ev_call (eva_cons (ev_op2 (rd_var (i := 2) rfl) (ix rfl rfl).rd (ixL hlt)) (eva_cons (ev_op2 (rd_var (i := 1) (b := false) rfl) ev_m1.rd (ixT_last hne)) eva_nil)) (d_over (hre _) (ho.last h21) (by omega) hl0)) rfl (ev_var (i := 4) rfl) (set_L hK)) ?_
      refine sq (s1 := DS one other (subAt re K (re.getD (K + other.length - 1) 0 / other.getLastD 0) other) (fo.set K (re.getD (K + other.length - 1) 0 / other.getLastD 0)) (some (false, eI K)) y5 y6) ?_ rfl
      exact sf (ps := enuP 0 (eL other)) (s1 := DS one other re (fo.set K (re.getD (K + other.length - 1) 0 / other.getLastD 0)) (some (false, eI K)) x5 x6) rfl e3
    simp only [e2]
    rw [ih]
    rfl
theorem rep_flat {α : Type} (n : Nat) (a : α) : (List.replicate n [a]).flatten = List.replicate n a := by
  induction n with
  | zero => rfl
  | succ n ih => rw [List.replicate_succ, List.flatten_cons, ih]; rfl
theorem opMul_lst {a : List PV} {k : Int} (h0 : 0 ≤ k) (h1 : k < 2 ^ 63) (h2 : a.length * k.toNat ≤ sizeLine) : opMul (.lst a) (.int k) = some (.lst (List.replicate k.toNat a).flatten, true) := by
  unfold opMul
  exact if_pos ⟨h0, h1, h2⟩
theorem opMax2 (i j : Int) : opMax [.int i, .int j] = sI (if j > i then j else i) := rfl
theorem aCons_ok {s s1 s2 : SE} {f : PM HF.Arg} {fs : PM (List HF.Arg)} {p : PV} {fr : Bool} {as : List HF.Arg} (h : f s = .ok (.val p fr) s1) (h2 : fs s1 = .ok as s2) : aCons f fs s = .ok (.val p false :: as) s2 := by
  unfold aCons
  rw [bnd_ok h, bnd_ok h2]
  rfl
theorem d_divided {one other : List Rat} {h h2 : Nat} (h1 : 1 ≤ h) (h21 : 1 ≤ h2) (hx : HbL h one) (ho : HbL h2 other) (hne : other ≠ []) (hl0 : other.getLastD 0 ≠ 0) (hg : gro h2 (one.length + 1 - other.length) h ≤ 900) (hl : one.length ≤ 1000) (hl2 : other.length ≤ 1000) :
    denOf 7 F_divided [eP one, eP other] = .ok (.tup [eP (divQ one other).1, eP (divQ one other).2]) false none := by
  have hK : one.length + 1 - other.length ≤ 1001 := by omega
  obtain ⟨y4, y5, y6, e⟩ := outer (one := one) h21 ho hne hl0 (one.length + 1 - other.length) h (List.replicate (one.length + 1 - other.length) 0) one none none none (hx.d h1) hg (by simp) (fun _ => by omega)
  refine den_ret (s1 := DS one other (divK other (one.length + 1 - other.length) (List.replicate (one.length + 1 - other.length) 0) one).2 (divK other (one.length + 1 - other.length) (List.replicate (one.length + 1 - other.length) 0) one).1 y4 y5 y6) ?_
  have nl : ∀ {s : SE}, s[0]? = some (some (false, eP one)) → s[1]? = some (some (false, eP other)) → Ev (eOp2 opSub (eOpN opLen (aCons (eVar 0) aNil)) (eOpN opLen (aCons (eVar 1) aNil))) s (.int ((one.length : Int) - other.length)) false := fun q1 q2 => ev_op2 (len_P q1).rd (len_P q2).rd rfl
  have tr : EvT (tNotP (tTru (eVar 1))) (st0 7 [eP one, eP other]) false := by
    have := evt_not (evt_tru (s := st0 7 [eP one, eP other]) (rd_var (i := 1) (b := false) (p := eP other) rfl) (show truthP (eP other) = some true by
      show some (!(eL other).isEmpty) = _
      cases other with
      | nil => exact absurd rfl hne
      | cons a as => rfl))
    exact this
  unfold F_divided
  refine sq (sno tr rfl) ?_
  have e2 : opMul (.lst [eQ 0]) (.int (one.length + 1 - other.length : Nat)) = some (.lst (eL (List.replicate (one.length + 1 - other.length) 0)), true) := by
    rw [opMul_lst (by omega) (by omega) (by rw [sizeLine_eq]; simp; omega), Int.toNat_natCast, rep_flat]
    simp [eL]
  have mx : Ev (eOpN opMax (aCons (eC (.int 0)) (aCons (eOp2 opAdd (eOp2 opSub (eOpN opLen (aCons (eVar 0) aNil)) (eOpN opLen (aCons (eVar 1) aNil))) (eC (.int 1))) aNil))) (st0 7 [eP one, eP other]) (.int (one.length + 1 - other.length : Nat)) false := by
    refine ev_opN (rda_cons ev_c.rd (rda_cons (ev_op2 (o := opAdd) (r := .int ((one.length : Int) - other.length + 1)) (fr3 := false) (nl rfl rfl).rd ev_c.rd rfl).rd rda_nil)) ?_
    have e3 : (if (one.length : Int) - other.length + 1 > 0 then (one.length : Int) - other.length + 1 else 0) = ((one.length + 1 - other.length : Nat) : Int) := by split <;> omega
    rw [opMax2, e3]
  refine sq (s_par' (i := 2) (j := 3) (s := st0 7 [eP one, eP other]) (ev_opN (rda_cons (rd_var (i := 0) (b := false) rfl) rda_nil) (list_P one)) (ev_op2 (ev_lst (ps := [eQ 0]) (eva_cons ev_c eva_nil) (by rw [sizeLine_eq]; exact Nat.le_of_ble_eq_true rfl)).rd mx.rd e2) (by simp [st0]) (by simp [st0])) ?_
  have iv : iRg3 (aCons (eOp2 opSub (eOpN opLen (aCons (eVar 0) aNil)) (eOpN opLen (aCons (eVar 1) aNil))) (aCons (eOp1 opNeg (eC (.int 1))) (aCons (eOp1 opNeg (eC (.int 1))) aNil))) (DS one other one (List.replicate (one.length + 1 - other.length) 0) none none none) = .ok (rngC ((one.length + 1 - other.length : Nat) - 1) (-1) (one.length + 1 - other.length)) (DS one other one (List.replicate (one.length + 1 - other.length) 0) none none none) := by
    unfold iRg3
    have ea : aCons (eOp2 opSub (eOpN opLen (aCons (eVar 0) aNil)) (eOpN opLen (aCons (eVar 1) aNil))) (aCons (eOp1 opNeg (eC (.int 1))) (aCons (eOp1 opNeg (eC (.int 1))) aNil)) (DS one other one (List.replicate (one.length + 1 - other.length) 0) none none none) = .ok [.val (.int ((one.length : Int) - other.length)) false, .val (.int (-1)) false, .val (.int (-1)) false] (DS one other one (List.replicate (one.length + 1 - other.length) 0) none none none) := by
      exact aCons_ok (nl rfl rfl) (aCons_ok ev_m1 (aCons_ok ev_m1 rfl))
    rw [bnd_ok ea]
    have ok : rg3Ok ((one.length : Int) - other.length) (-1) (-1) = true := by
      unfold rg3Ok
      rw [show Builtin.Range.small ((one.length : Int) - other.length) (-1) (-1) = true from PySem.W.small_down (by omega) (by omega) (by omega) (by omega)]
      have : 0 ≤ Builtin.Range.rangeSize ((one.length : Int) - other.length) (-1) (-1) := by
        unfold Builtin.Range.rangeSize
        rw [if_neg (by decide)]
        split
        · rw [show (- (-1 : Int)) = 1 by decide, Int.ediv_one]; omega
        · omega
      simp [this]
    simp only [ok, if_true]
    have sz : (Builtin.Range.rangeSize ((one.length : Int) - other.length) (-1) (-1)).toNat = one.length + 1 - other.length := by
      unfold Builtin.Range.rangeSize
      rw [if_neg (by decide)]
      split
      · rw [show (- (-1 : Int)) = 1 by decide, Int.ediv_one]; omega
      · omega
    rw [sz]
    by_cases hz : one.length + 1 - other.length = 0
    · rw [hz]; rfl
    · rw [show ((one.length + 1 - other.length : Nat) : Int) - 1 = (one.length : Int) - other.length by omega]
      rfl
  refine sq (sf iv e) (s_seq_ret (s_ret ?_))
  have tl1 : ∀ (K : Nat) (fo re : List Rat), (divK other K fo re).1.length = fo.length ∧ (divK other K fo re).2.length = re.length := by
    intro K
    induction K with
    | zero => intro fo re; exact ⟨rfl, rfl⟩
    | succ K ih => intro fo re; rw [divK]; obtain ⟨a, b⟩ := ih (fo.set K (re.getD (K + other.length - 1) 0 / other.getLastD 0)) (subAt re K (re.getD (K + other.length - 1) 0 / other.getLastD 0) other); exact ⟨by rw [a, List.length_set], by rw [b, subAt_len]⟩
  obtain ⟨q1, q2⟩ := tl1 (one.length + 1 - other.length) (List.replicate (one.length + 1 - other.length) 0) one
  rw [List.length_replicate] at q1
  refine ev_tup (eva_cons (ev_callR (rda_cons (rd_var (i := 3) rfl) rda_nil) (d_tidy (list_L _) (by omega)) (imm_P _)) (eva_cons (ev_callR (rda_cons (rd_var (i := 2) rfl) rda_nil) (d_tidy (list_L _) (by omega)) (imm_P _)) eva_nil)) (by rw [sizeLine_eq]; exact Nat.le_of_ble_eq_true rfl)
end PF
end

section
set_option Elab.async false
set_option linter.all false
set_option maxRecDepth 100000
set_option maxHeartbeats 1000000
set_option autoImplicit false
set_option exponentiation.threshold 2000
/-! MP3: check_poly, monic, common, chain, turned, axis_parts, sign_at, changes, jumps. -/
namespace PF
open PySem PySem.Spec PyProof.Rows L2 HF
/-! ### comprehensions over pairs -/
section
variable {α : Type} {s : SE} {i j : Nat}
theorem wipe2 (s : SE) (i j : Nat) : wipeS s [i, j] = (s.set i none).set j none := by
  first
    | rfl
    | (by_cases h : i = j
       · subst h; rfl
       · show (s.set j none).set i none = _
         rw [List.set_comm _ _ (Ne.symm h)])
theorem ev_comp2F {I : PM (List PV)} {T : PM Bool} {E : PM HF.Arg} (xs : List α) (e1 e2 : α → PV) (c : α → Bool) (F : α → PV) (hI : I s = .ok (xs.map fun x => .tup [e1 x, e2 x]) s) (hl : xs.length ≤ sizeLine) (hi : i < s.length) (hj : j < s.length) (hij : i ≠ j)
    (hT : ∀ x ∈ xs, EvT T ((s.set i (some (false, e1 x))).set j (some (false, e2 x))) (c x)) (h : ∀ x ∈ xs, c x = true → ∃ fr, Ev E ((s.set i (some (false, e1 x))).set j (some (false, e2 x))) (F x) fr) :
    Ev (eComp [i, j] (iOf I) (gTp 2 (gsCons (gNm i) (gsCons (gNm j) gsNil))) T E) s (.lst ((xs.filter c).map F)) true := by
  have key : ∀ (ys : List α), (∀ x ∈ ys, x ∈ xs) → compL [i, j] (gTp 2 (gsCons (gNm i) (gsCons (gNm j) gsNil))) T E (ys.map fun x => .tup [e1 x, e2 x]) ((s.set i none).set j none) = .ok ((ys.filter c).map F) ((s.set i none).set j none) := by
    intro ys
    induction ys with
    | nil => intro _; rfl
    | cons y ys ih =>
      intro hy
      have ht := hT y (hy y List.mem_cons_self)
      have ih := ih fun x hx => hy x (List.mem_cons_of_mem _ hx)
      have g1 : nx (gTp 2 (gsCons (gNm i) (gsCons (gNm j) gsNil)) (.tup [e1 y, e2 y])) ((s.set i none).set j none) = .ok () ((s.set i (some (false, e1 y))).set j (some (false, e2 y))) := by
        unfold nx
        rw [g_tp2 (by simpa using hi) (by simpa using hj)]
        simp only [List.set_comm _ _ hij, List.set_set]
      have g2 : wp [i, j] ((s.set i (some (false, e1 y))).set j (some (false, e2 y))) = .ok () ((s.set i none).set j none) := by
        unfold wp
        rw [wipe2, List.set_comm (i := i) (j := j) _ _ hij, List.set_set, List.set_comm (i := j) (j := i) _ _ hij.symm, List.set_set]
      rw [List.map_cons]
      unfold compL
      rw [bnd_ok g1, bnd_ok ht]
      cases hc : c y with
      | true =>
        obtain ⟨fr, h1⟩ := h y (hy y List.mem_cons_self) hc
        rw [if_pos rfl, bnd_ok h1, bnd_ok (show rel1 (Arg.val (F y) fr) _ = .ok (F y) _ from rfl), bnd_ok g2, bnd_ok ih, List.filter_cons, if_pos hc]
        rfl
      | false => rw [if_neg (by simp), bnd_ok g2, ih, List.filter_cons, if_neg (by simp [hc])]
  unfold Ev eComp
  rw [bnd_ok (show iOf I s = .ok (xs.map fun x => .tup [e1 x, e2 x], []) s by unfold iOf; rw [bnd_ok hI]; rfl)]
  simp only [List.nil_append, List.length_map, hl, if_true]
  rw [show wipeS s [i, j] = (s.set i none).set j none from wipe2 s i j, key xs fun _ h => h]
  simp only
  rw [← wipe2 s i j, unw_wipe]
theorem ev_comp2 {I : PM (List PV)} {E : PM HF.Arg} (xs : List α) (e1 e2 : α → PV) (F : α → PV) (hI : I s = .ok (xs.map fun x => .tup [e1 x, e2 x]) s) (hl : xs.length ≤ sizeLine) (hi : i < s.length) (hj : j < s.length) (hij : i ≠ j)
    (h : ∀ x ∈ xs, ∃ fr, Ev E ((s.set i (some (false, e1 x))).set j (some (false, e2 x))) (F x) fr) :
    Ev (eComp [i, j] (iOf I) (gTp 2 (gsCons (gNm i) (gsCons (gNm j) gsNil))) (ret true) E) s (.lst (xs.map F)) true := by
  have := ev_comp2F (T := ret true) (E := E) xs e1 e2 (fun _ => true) F hI hl hi hj hij (fun _ _ => rfl) fun x hx _ => h x hx
  rwa [List.filter_eq_self.mpr fun _ _ => rfl] at this
end
theorem enuP_eL : ∀ (xs : List Rat) (n : Nat), enuP n (eL xs) = (xs.zipIdx n).map fun p => .tup [eI p.2, eQ p.1]
  | [], n => rfl
  | a :: xs, n => by
    show PV.tup [.int n, eQ a] :: enuP (n + 1) (eL xs) = _
    rw [enuP_eL xs (n + 1)]
    rfl
theorem zipP_map {α β : Type} (f : α → PV) (g : β → PV) : ∀ (xs : List α) (ys : List β), zipP (xs.map f) (ys.map g) = (xs.zip ys).map fun p => .tup [f p.1, g p.2]
  | [], _ => by cases ‹List β› <;> rfl
  | _ :: _, [] => rfl
  | x :: xs, y :: ys => by
    show PV.tup [f x, g y] :: zipP (xs.map f) (ys.map g) = _
    rw [zipP_map f g xs ys]
    rfl
section
variable {s : SE} {f g : PM HF.Arg} {p q : PV} {fr fr2 : Bool}
theorem iv_enu {xs : List PV} (hf : Ev f s p fr) (hp : srcP p = some xs) : iEnu (aCons f aNil) s = .ok (enuP 0 xs) s := by
  unfold iEnu
  rw [bnd_ok (aCons_ok hf (show aNil s = .ok [] s from rfl)), bnd_ok (show relAll [Arg.val p false] s = .ok [p] s from rfl)]
  simp only [hp]
  rfl
theorem iv_zip2 {xs ys : List PV} (hf : Ev f s p fr) (hg : Ev g s q fr2) (hp : srcP p = some xs) (hq : srcP q = some ys) : iZip2 (aCons f (aCons g aNil)) s = .ok (zipP xs ys) s := by
  unfold iZip2
  rw [bnd_ok (aCons_ok hf (aCons_ok hg (show aNil s = .ok [] s from rfl))), bnd_ok (show relAll [Arg.val p false, Arg.val q false] s = .ok [p, q] s from rfl)]
  simp only [hp, hq]
  rfl
end
theorem src_P (xs : List Rat) : srcP (eP xs) = some (eL xs) := rfl
/-! ### check_poly, monic -/
theorem bools_true {α : Type} (xs : List α) : boolsOf (xs.map fun _ => PV.bl true) = some (xs.map fun _ => true) := by
  induction xs with
  | nil => rfl
  | cons x xs ih => rw [List.map_cons, boolsOf, ih]; rfl
theorem all_true {α : Type} (xs : List α) : opAll [.lst (xs.map fun _ => PV.bl true)] = some (.bl true, false) := by
  show (boolsOf (xs.map fun _ => PV.bl true)).map _ = _
  rw [bools_true]
  simp
theorem tru_P {xs : List Rat} : truthP (eP xs) = some (!xs.isEmpty) := by cases xs <;> rfl
theorem ltm1 : (900 : Nat) ≤ 900 := Nat.le_refl _
theorem d_check {xs : List Rat} (hx : HbL 900 xs) (hl : xs.length ≤ 25) (h0 : xs = [] ∨ xs.getLastD 0 ≠ 0) : denOf 2 F_check_poly [eP xs] = .ok .non false none := by
  have t1 : EvT (tBool (eOp2 opGt (eOpN opLen (aCons (eVar 0) aNil)) (eOp2 opAdd (eC (.int 24)) (eC (.int 1))))) (st0 2 [eP xs]) false := by
    have := evt_bool (fr := false) (ev_op2 (o := opGt) (r := .bl (decide ((25 : Int) < xs.length))) (len_P (s := st0 2 [eP xs]) (i := 0) (xs := xs) rfl).rd (ev_op2 (o := opAdd) (r := .int 25) (fr3 := false) (ev_c (p := .int 24)).rd (ev_c (p := .int 1)).rd rfl).rd rfl)
    rwa [decide_eq_false (by omega)] at this
  have t2 : EvT (tNotP (tTru (eOpN opAll (aCons (eComp [1] (iOf (iVal (eVar 0))) (gNm 1) (ret true) (eCall (denOf 1 F_is_share) (aCons (eVar 1) aNil))) aNil)))) (st0 2 [eP xs]) false := by
    refine evt_not (b := true) (evt_tru (p := .bl true) (ev_opN (rda_cons (Ev.rd (ev_compX xs eQ (fun _ => .bl true) (iv_tup (ev_var (i := 0) rfl)) (lenOk (by omega)) (by simp [st0]) fun a ha => ⟨false, ?_⟩)) rda_nil) (all_true xs)).rd rfl)
    exact ev_call (eva_cons (ev_var (i := 1) rfl) eva_nil) (d_is_share (hx a ha) ltm1)
  have t3 : EvT (tAndP (tBool (eOp2 opGt (eOpN opLen (aCons (eVar 0) aNil)) (eC (.int 0)))) (tBool (eOp2 opEq (eOp2 opIx (eVar 0) (eOp1 opNeg (eC (.int 1)))) (eC (.tup [.int 0, .int 1]))))) (st0 2 [eP xs]) false := by
    have g1 : EvT (tBool (eOp2 opGt (eOpN opLen (aCons (eVar 0) aNil)) (eC (.int 0)))) (st0 2 [eP xs]) (decide ((0 : Int) < xs.length)) := evt_bool (fr := false) (ev_op2 (len_P (i := 0) rfl).rd ev_c.rd rfl)
    rcases h0 with e | h0
    · subst e
      exact evt_and (b := false) (b2 := false) g1 fun z => by cases z
    · have hne : xs ≠ [] := fun e => h0 (by rw [e]; rfl)
      have := evt_and g1 fun _ => evt_bool (ev_op2 (ev_op2 (rd_var (i := 0) (b := false) rfl) ev_m1.rd (ixT_last hne)).rd ev_c.rd (eq_Q _ 0))
      rwa [decide_eq_false h0, Bool.and_false] at this
  refine den_next (s1 := st0 2 [eP xs]) ?_
  unfold F_check_poly
  exact sq (sno (evt_or (b := false) (b2 := false) t1 fun _ => evt_or (b := false) (b2 := false) t2 fun _ => t3) rfl) rfl
def monicQ (xs : List Rat) : List Rat := if xs = [] then [] else scaledQ xs (1 / xs.getLastD 0)
theorem d_monic {xs : List Rat} {m : Nat} (hm : 1 ≤ m) (hx : HbL m xs) (hb : 2 * m + 1 ≤ 900) (hl : xs.length ≤ 1000) (h0 : xs = [] ∨ xs.getLastD 0 ≠ 0) : denOf 1 F_monic [eP xs] = .ok (eP (monicQ xs)) false none := by
  have tr : EvT (tTru (eVar 0)) (st0 1 [eP xs]) (!xs.isEmpty) := evt_tru (rd_var (i := 0) (b := false) rfl) tru_P
  refine den_ret (s1 := st0 1 [eP xs]) (s_seq_ret (s_ret ?_))
  unfold monicQ
  by_cases e : xs = []
  · rw [if_pos e]
    subst e
    exact ev_if (b := false) tr (fun z => by cases z) fun _ => ev_var (i := 0) rfl
  · rw [if_neg e]
    have h0 := h0.resolve_left e
    have te : (!xs.isEmpty) = true := by cases xs with
      | nil => exact absurd rfl e
      | cons a as => rfl
    rw [te] at tr
    refine ev_if tr (fun _ => ?_) fun z => by cases z
    have hi : Hb (1 + m) (1 / xs.getLastD 0) := hb1.div (hx.last hm) h0
    refine ev_call (io := none) (eva_cons (ev_var (i := 0) rfl) (eva_cons (ev_call (io := none) (eva_cons ev_c (eva_cons (ev_op2 (rd_var (i := 0) (b := false) rfl) ev_m1.rd (ixT_last e)) eva_nil)) (d_over hb1 (hx.last hm) (by omega) h0)) eva_nil)) (d_scaled hx hi (by omega) hl)
/-! ### common -/
def Dv (one other q r : List Rat) : Prop := denOf 7 F_divided [eP one, eP other] = .ok (.tup [eP q, eP r]) false none
inductive Com : List Rat → List Rat → List Rat → Nat → Prop
  | nil (one : List Rat) : Com one [] one 0
  | step {one other q r g : List Rat} {n : Nat} : other ≠ [] → Dv one other q r → Com other r g n → Com one other g (n + 1)
def Lc : PM Fl := (sSeq (sPar 0 1 (eVar 1) (eOp2 opIx (eCall (denOf 7 F_divided) (aCons (eVar 0) (aCons (eVar 1) aNil))) (eC (.int 1)))) sNext)
theorem Com.wl {one other g : List Rat} {n : Nat} (h : Com one other g n) : wl (tTru (eVar 1)) Lc (n + 1) [some (false, eP one), some (false, eP other)] = .ok .next [some (false, eP g), some (false, eP [])] := by
  induction h with
  | nil one =>
    unfold HF.wl
    rw [bnd_ok (show tTru (eVar 1) [some (false, eP one), some (false, eP [])] = .ok false _ from evt_tru (rd_var (i := 1) rfl) tru_P)]
    rfl
  | @step one other q r g n hne hd _ ih =>
    have e1 : tTru (eVar 1) [some (false, eP one), some (false, eP other)] = .ok true [some (false, eP one), some (false, eP other)] := by
      have := evt_tru (s := [some (false, eP one), some (false, eP other)]) (rd_var (i := 1) (b := false) rfl) (tru_P (xs := other))
      rw [show (!other.isEmpty) = true by cases other with
        | nil => exact absurd rfl hne
        | cons a as => rfl] at this
      exact this
    have e2 : Lc [some (false, eP one), some (false, eP other)] = .ok .next [some (false, eP other), some (false, eP r)] := by
      unfold Lc
      exact sq (s_par' (s := [some (false, eP one), some (false, eP other)]) (ev_var (i := 1) rfl) (ev_op2 (fr3 := false) (ev_call (io := none) (eva_cons (ev_var (i := 0) rfl) (eva_cons (ev_var (i := 1) rfl) eva_nil)) hd).rd (ev_c (p := .int 1)).rd rfl) (by simp) (by simp)) rfl
    rw [HF.wl, bnd_ok e1]
    simp only [if_true, e2]
    exact ih
theorem d_common {one other g : List Rat} {n m : Nat} (h : Com one other g n) (hn : n ≤ 1000) (hm : 1 ≤ m) (hx : HbL m g) (hb : 2 * m + 1 ≤ 900) (hl : g.length ≤ 1000) (h0 : g = [] ∨ g.getLastD 0 ≠ 0) : denOf 2 F_common [eP one, eP other] = .ok (eP (monicQ g)) false none := by
  have w := h.wl
  refine den_ret (s1 := [some (false, eP g), some (false, eP [])]) ?_
  unfold F_common
  refine sq (s1 := [some (false, eP g), some (false, eP [])]) ?_ (s_seq_ret (s_ret (ev_call (io := none) (eva_cons (ev_var (i := 0) rfl) eva_nil) (d_monic hm hx hb hl h0))))
  show sWhile (tTru (eVar 1)) Lc [some (false, eP one), some (false, eP other)] = _
  rw [sWhile_eq (n + 1) (by unfold FUEL; omega) (by rw [w]; nofun), w]
/-! ### chain -/
def ePs (rows : List (List Rat)) : PV := .lst (rows.map eP)
inductive Chn : List Rat → List Rat → List (List Rat) → Prop
  | nil (one : List Rat) : Chn one [] []
  | step {one other q r r' : List Rat} {rows : List (List Rat)} : other ≠ [] → Dv one other q r → denOf 3 F_scaled [eP r, eQ (-1)] = .ok (eP r') false none → Chn other r' rows → Chn one other (other :: rows)
def Lh : PM Fl := (sSeq (sExpr (eMeth 2 opAppend (aCons (eVar 1) aNil)))
  (sSeq (sPar 0 1 (eVar 1) (eCall (denOf 3 F_scaled) (aCons (eOp2 opIx (eCall (denOf 7 F_divided) (aCons (eVar 0) (aCons (eVar 1) aNil))) (eC (.int 1))) (aCons (eTup (aCons (eOp1 opNeg (eC (.int 1))) (aCons (eC (.int 1)) aNil))) aNil))))
  sNext))
theorem s_appL {s : SE} {i : Nat} {f : PM HF.Arg} {ps : List PV} {q : PV} {fr : Bool} (h : s[i]? = some (some (true, .lst ps))) (hf : Ev f s q fr) (hl : ps.length < sizeLine) :
    sExpr (eMeth i opAppend (aCons f aNil)) s = .ok .next (s.set i (some (true, .lst (ps ++ [q])))) := by
  refine s_expr (a := .val .non false) ?_
  unfold eMeth
  rw [bnd_ok (show isOwnL i s = .ok () s by unfold isOwnL; simp only [h]), bnd_ok (aCons_ok hf (show aNil s = .ok [] s from rfl)), bnd_ok (show relAll [Arg.val q false] s = .ok [q] s from rfl)]
  unfold onLst
  simp only [h, opAppend, hl, if_true]
theorem Chn.wl {one other : List Rat} {rows : List (List Rat)} (h : Chn one other rows) : ∀ (acc : List (List Rat)), acc.length + rows.length ≤ 1000 → ∃ x, wl (tTru (eVar 1)) Lh (rows.length + 1) [some (false, eP one), some (false, eP other), some (true, ePs acc)] = .ok .next [x, some (false, eP []), some (true, ePs (acc ++ rows))] := by
  induction h with
  | nil one =>
    intro acc _
    refine ⟨some (false, eP one), ?_⟩
    unfold HF.wl
    rw [bnd_ok (show tTru (eVar 1) [some (false, eP one), some (false, eP []), some (true, ePs acc)] = .ok false _ from evt_tru (rd_var (i := 1) rfl) tru_P), List.append_nil]
    rfl
  | @step one other q r r' rows hne hd hs _ ih =>
    intro acc hl
    rw [List.length_cons] at hl
    obtain ⟨x, ih⟩ := ih (acc ++ [other]) (by rw [List.length_append]; simp; omega)
    refine ⟨x, ?_⟩
    have e1 : tTru (eVar 1) [some (false, eP one), some (false, eP other), some (true, ePs acc)] = .ok true [some (false, eP one), some (false, eP other), some (true, ePs acc)] := by
      have := evt_tru (s := [some (false, eP one), some (false, eP other), some (true, ePs acc)]) (rd_var (i := 1) (b := false) rfl) (tru_P (xs := other))
      rw [show (!other.isEmpty) = true by cases other with
        | nil => exact absurd rfl hne
        | cons a as => rfl] at this
      exact this
    have e2 : Lh [some (false, eP one), some (false, eP other), some (true, ePs acc)] = .ok .next [some (false, eP other), some (false, eP r'), some (true, ePs (acc ++ [other]))] := by
      unfold Lh
      refine sq (s_appL (s := [some (false, eP one), some (false, eP other), some (true, ePs acc)]) (i := 2) rfl (ev_var (i := 1) rfl) (by rw [List.length_map, sizeLine_eq]; omega)) ?_
      have hm : (acc.map eP ++ [eP other]) = (acc ++ [other]).map eP := by simp
      rw [hm]
      exact sq (s_par' (s := [some (false, eP one), some (false, eP other), some (true, ePs (acc ++ [other]))]) (ev_var (i := 1) rfl) (ev_call (io := none) (eva_cons (ev_op2 (fr3 := false) (ev_call (io := none) (eva_cons (ev_var (i := 0) rfl) (eva_cons (ev_var (i := 1) rfl) eva_nil)) hd).rd (ev_c (p := .int 1)).rd rfl) (eva_cons (ev_tup (ps := [.int (-1), .int 1]) (eva_cons ev_m1 (eva_cons ev_c eva_nil)) (by rw [sizeLine_eq]; exact Nat.le_of_ble_eq_true rfl)) eva_nil)) hs) (by simp) (by simp)) rfl
    rw [HF.wl, bnd_ok e1]
    simp only [if_true, e2]
    rw [List.length_cons, ih]
    simp
theorem d_chain {one other : List Rat} {rows : List (List Rat)} (h : Chn one other rows) (hl : rows.length ≤ 900) : denOf 3 F_chain [eP one, eP other] = .ok (ePs (one :: rows)) true none := by
  obtain ⟨x, w⟩ := h.wl [one] (by simp; omega)
  unfold denOf
  have : F_chain (st0 3 [eP one, eP other]) = .ok (.ret (.bor 2)) [x, some (false, eP []), some (true, ePs (one :: rows))] := by
    unfold F_chain
    refine sq (s_set (ev_lst (ps := [eP one]) (eva_cons (ev_var (i := 0) rfl) eva_nil) (by rw [sizeLine_eq]; exact Nat.le_of_ble_eq_true rfl)) (by simp [st0])) ?_
    refine sq (s1 := [x, some (false, eP []), some (true, ePs (one :: rows))]) ?_ (s_seq_ret rfl)
    show sWhile (tTru (eVar 1)) Lh [some (false, eP one), some (false, eP other), some (true, ePs [one])] = _
    rw [sWhile_eq (rows.length + 1) (by unfold FUEL; omega) (by rw [w]; nofun), w]
    rfl
  rw [this]
  rfl
end PF
end

section
set_option Elab.async false
set_option linter.all false
set_option maxRecDepth 100000
set_option maxHeartbeats 1000000
set_option autoImplicit false
set_option exponentiation.threshold 2000
/-! MP4: turned, axis_parts, sign_at, changes, jumps. -/
namespace PF
open PySem PySem.Spec PyProof.Rows L2 HF
section
variable {s s1 s2 : SE} {f g : PM HF.Arg} {p q r : PV} {fr fr2 : Bool} {fs : PM (List HF.Arg)}
theorem evs_comp2 {α : Type} {i j : Nat} {I : PM (List PV)} {E : PM HF.Arg} (xs : List α) (e1 e2 : α → PV) (F : α → PV) (hI : I s = .ok (xs.map fun x => .tup [e1 x, e2 x]) s1) (hl : xs.length ≤ sizeLine) (hi : i < s1.length) (hj : j < s1.length) (hij : i ≠ j)
    (h : ∀ x ∈ xs, ∃ fr, Ev E ((s1.set i (some (false, e1 x))).set j (some (false, e2 x))) (F x) fr) :
    EvS (eComp [i, j] (iOf I) (gTp 2 (gsCons (gNm i) (gsCons (gNm j) gsNil))) (ret true) E) s (.lst (xs.map F)) true s1 := by
  have := ev_comp2 (I := ret (xs.map fun x => PV.tup [e1 x, e2 x])) (s := s1) (E := E) xs e1 e2 F rfl hl hi hj hij h
  unfold Ev eComp at this
  unfold EvS eComp
  rw [bnd_ok (show iOf I s = .ok (xs.map fun x => .tup [e1 x, e2 x], []) s1 by unfold iOf; rw [bnd_ok hI]; rfl)]
  rw [bnd_ok (show iOf (ret (xs.map fun x => PV.tup [e1 x, e2 x])) s1 = .ok (xs.map fun x => .tup [e1 x, e2 x], []) s1 from rfl)] at this
  exact this
theorem evs_call1 {den : Den} (hf : EvS f s p fr s1) (hd : den [p] = .ok r fr2 none) : EvS (eCall den (aCons f aNil)) s r fr2 s1 := by
  unfold EvS eCall
  rw [bnd_ok (aCons_ok hf (show aNil s1 = .ok [] s1 from rfl))]
  simp only [callD, rvs, rv, hd, noBor, Bool.true_or, if_true]
theorem evs_tup2 (hf : EvS f s p fr s1) (hg : EvS g s1 q fr2 s2) : EvS (eTup (aCons f (aCons g aNil))) s (.tup [p, q]) false s2 := by
  unfold EvS eTup
  rw [bnd_ok (aCons_ok hf (aCons_ok hg (show aNil s2 = .ok [] s2 from rfl))), bnd_ok (show relAll [Arg.val p false, Arg.val q false] s2 = .ok [p, q] s2 from rfl)]
  unfold mkTup
  rw [if_pos (by rw [sizeLine_eq]; exact Nat.le_of_ble_eq_true rfl)]
  rfl
end
/-! ### turned -/
def turnedQ (xs : List Rat) : List Rat := tidyQ (xs.zipIdx.map fun p => if p.2 % 2 = 0 then p.1 else 0 - p.1)
theorem ev_mod {s : SE} {i k : Nat} {m : Int} (h : s[i]? = some (some (false, eI k))) (hm : 0 < m) : Ev (eOp2 opMod (eVar i) (eC (.int m))) s (.int ((k : Int) % m)) false := ev_op2 (rd_var (b := false) h) ev_c.rd (mod_ii hm)
theorem d_turned {xs : List Rat} {m : Nat} (hx : HbL m xs) (hm : m + 1 ≤ 900) (hl : xs.length ≤ 1000) : denOf 3 F_turned [eP xs] = .ok (eP (turnedQ xs)) false none := by
  refine den_ret (s1 := st0 3 [eP xs]) (s_seq_ret (s_ret (ev_call (io := none) (eva_cons (ev_comp2 xs.zipIdx (fun p => eI p.2) (fun p => eQ p.1) (fun p => eQ (if p.2 % 2 = 0 then p.1 else 0 - p.1)) ?_ (by rw [List.length_zipIdx]; exact lenOk hl) (by simp [st0]) (by simp [st0]) (by decide) fun p hp => ⟨false, ?_⟩) eva_nil) ?_)))
  · rw [← enuP_eL]
    exact iv_enu (ev_var (i := 0) rfl) (src_P xs)
  · have hb : Hb m p.1 := hx _ (by
      have := List.mem_zipIdx' hp
      rw [this.2]; exact List.getElem_mem _)
    have t : EvT (tBool (eOp2 opEq (eOp2 opMod (eVar 1) (eC (.int 2))) (eC (.int 0)))) (((st0 3 [eP xs]).set 1 (some (false, eI p.2))).set 2 (some (false, eQ p.1))) (decide ((p.2 : Int) % 2 = 0)) := evt_bool (ev_op2 (ev_mod (i := 1) rfl (by decide)).rd (ev_c (p := .int 0)).rd (eq_ii _ _))
    refine ev_if t (fun z => ?_) fun z => ?_
    · rw [decide_eq_true_eq] at z
      rw [if_pos (by omega)]
      exact ev_var (i := 2) rfl
    · rw [decide_eq_false_iff_not] at z
      rw [if_neg (by omega)]
      exact ev_call (io := none) (eva_cons ev_c (eva_cons (ev_var (i := 2) rfl) eva_nil)) (d_minus hb0 hb (by omega))
  · have := d_tidy (p := .lst (xs.zipIdx.map fun p => eQ (if p.2 % 2 = 0 then p.1 else 0 - p.1))) (xs := xs.zipIdx.map fun p => if p.2 % 2 = 0 then p.1 else 0 - p.1) (by unfold eL; rw [List.map_map]; rfl) (by rw [List.length_map, List.length_zipIdx]; omega)
    exact this
/-! ### axis_parts -/
def patE (k : Nat) : Rat := if k % 4 = 0 then 1 else if k % 4 = 2 then -1 else 0
def patO (k : Nat) : Rat := if k % 4 = 1 then 1 else if k % 4 = 3 then -1 else 0
def evenQ (xs : List Rat) : List Rat := tidyQ ((((List.range xs.length).map patE).zip xs).map fun p => p.1 * p.2)
def oddQ (xs : List Rat) : List Rat := tidyQ ((((List.range xs.length).map patO).zip xs).map fun p => p.1 * p.2)
theorem hb_pat {k : Nat} : Hb 1 (patE k) ∧ Hb 1 (patO k) := by
  unfold patE patO
  refine ⟨?_, ?_⟩
  · split
    · exact hb1
    · split
      · exact hbm1
      · exact hb0
  · split
    · exact hb1
    · split
      · exact hbm1
      · exact hb0
theorem mod4 (k : Nat) : k % 4 = 0 ∨ k % 4 = 1 ∨ k % 4 = 2 ∨ k % 4 = 3 := by omega
theorem d_axis_parts {xs : List Rat} {m : Nat} (hx : HbL m xs) (hm : m + 1 ≤ 900) (hl : xs.length ≤ 1000) : denOf 6 F_axis_parts [eP xs] = .ok (.tup [eP (evenQ xs), eP (oddQ xs)]) false none := by
  have rg : ∀ {s : SE}, s[0]? = some (some (false, eP xs)) → iVal (eOpN opRange (aCons (eOpN opLen (aCons (eVar 0) aNil)) aNil)) s = .ok ((List.range xs.length).map eI) s := fun h => iv_rng (ev_opN (rda_cons (len_P h).rd rda_nil) rfl) (by omega)
  have ix : ∀ {s : SE} {k : Nat} {a b c d : PM HF.Arg} {A B C D : PV}, s[3]? = some (some (false, eI k)) → Ev a s A false → Ev b s B false → Ev c s C false → Ev d s D false →
      Ev (eOp2 opIx (eLst (aCons a (aCons b (aCons c (aCons d aNil))))) (eOp2 opMod (eVar 3) (eC (.int 4)))) s (if k % 4 = 0 then A else if k % 4 = 1 then B else if k % 4 = 2 then C else D) false := fun {s k a b c d A B C D} h ha hb hc hd => by
    refine ev_op2 (ev_lst (ps := [A, B, C, D]) (eva_cons ha (eva_cons hb (eva_cons hc (eva_cons hd eva_nil)))) (by rw [sizeLine_eq]; exact Nat.le_of_ble_eq_true rfl)).rd (ev_mod (i := 3) h (by decide)).rd ?_
    rcases mod4 k with z | z | z | z
    · rw [show (k : Int) % 4 = 0 by omega, if_pos z]; rfl
    · rw [show (k : Int) % 4 = 1 by omega, if_neg (by omega), if_pos z]; rfl
    · rw [show (k : Int) % 4 = 2 by omega, if_neg (by omega), if_neg (by omega), if_pos z]; rfl
    · rw [show (k : Int) % 4 = 3 by omega, if_neg (by omega), if_neg (by omega), if_neg (by omega)]; rfl
  have m1 : ∀ {s : SE}, Ev (eTup (aCons (eOp1 opNeg (eC (.int 1))) (aCons (eC (.int 1)) aNil))) s (eQ (-1)) false := ev_tup (ps := [.int (-1), .int 1]) (eva_cons ev_m1 (eva_cons ev_c eva_nil)) (by rw [sizeLine_eq]; exact Nat.le_of_ble_eq_true rfl)
  let s0 : SE := st0 6 [eP xs]
  let sa : SE := [some (false, eP xs), some (true, .lst (eL ((List.range xs.length).map patE))), none, none, none, none]
  let sb : SE := [some (false, eP xs), some (true, .lst (eL ((List.range xs.length).map patE))), some (true, .lst (eL ((List.range xs.length).map patO))), none, none, none]
  let sc : SE := [some (false, eP xs), some (false, .lst (eL ((List.range xs.length).map patE))), some (true, .lst (eL ((List.range xs.length).map patO))), none, none, none]
  let sd : SE := [some (false, eP xs), some (false, .lst (eL ((List.range xs.length).map patE))), some (false, .lst (eL ((List.range xs.length).map patO))), none, none, none]
  have hr : (List.range xs.length).length ≤ sizeLine := by rw [List.length_range]; exact lenOk hl
  have z1 : eL ((List.range xs.length).map patE) = (List.range xs.length).map fun k => eQ (patE k) := by unfold eL; rw [List.map_map]; rfl
  have z2 : eL ((List.range xs.length).map patO) = (List.range xs.length).map fun k => eQ (patO k) := by unfold eL; rw [List.map_map]; rfl
  have g1 : sSet 1 (eComp [3] (iOf (iVal (eOpN opRange (aCons (eOpN opLen (aCons (eVar 0) aNil)) aNil)))) (gNm 3) (ret true) (eOp2 opIx (eLst (aCons (eC (.tup [.int 1, .int 1])) (aCons (eC (.tup [.int 0, .int 1])) (aCons (eTup (aCons (eOp1 opNeg (eC (.int 1))) (aCons (eC (.int 1)) aNil))) (aCons (eC (.tup [.int 0, .int 1])) aNil))))) (eOp2 opMod (eVar 3) (eC (.int 4))))) s0 = .ok .next sa := by
    have := s_set (n := 1) (ev_compX (s := s0) (i := 3) (List.range xs.length) eI (fun k => eQ (patE k)) (rg rfl) hr (by simp [s0, st0]) fun k _ => ⟨false, by
      have h := ix (s := s0.set 3 (some (false, eI k))) (k := k) rfl (ev_c (p := eQ 1)) (ev_c (p := eQ 0)) m1 (ev_c (p := eQ 0))
      have e : (if k % 4 = 0 then eQ 1 else if k % 4 = 1 then eQ 0 else if k % 4 = 2 then eQ (-1) else eQ 0) = eQ (patE k) := by
        unfold patE
        rcases mod4 k with z | z | z | z <;> simp [z]
      rwa [e] at h⟩) (by simp [s0, st0])
    rw [← z1] at this
    exact this
  have g2 : sSet 2 (eComp [3] (iOf (iVal (eOpN opRange (aCons (eOpN opLen (aCons (eVar 0) aNil)) aNil)))) (gNm 3) (ret true) (eOp2 opIx (eLst (aCons (eC (.tup [.int 0, .int 1])) (aCons (eC (.tup [.int 1, .int 1])) (aCons (eC (.tup [.int 0, .int 1])) (aCons (eTup (aCons (eOp1 opNeg (eC (.int 1))) (aCons (eC (.int 1)) aNil))) aNil))))) (eOp2 opMod (eVar 3) (eC (.int 4))))) sa = .ok .next sb := by
    have := s_set (n := 2) (ev_compX (s := sa) (i := 3) (List.range xs.length) eI (fun k => eQ (patO k)) (rg rfl) hr (by simp [sa]) fun k _ => ⟨false, by
      have h := ix (s := sa.set 3 (some (false, eI k))) (k := k) rfl (ev_c (p := eQ 0)) (ev_c (p := eQ 1)) (ev_c (p := eQ 0)) m1
      have e : (if k % 4 = 0 then eQ 0 else if k % 4 = 1 then eQ 1 else if k % 4 = 2 then eQ 0 else eQ (-1)) = eQ (patO k) := by
        unfold patO
        rcases mod4 k with z | z | z | z <;> simp [z]
      rwa [e] at h⟩) (by simp [sa])
    rw [← z2] at this
    exact this
  have part : ∀ {s s1 : SE} {j : Nat} {us : List Rat}, iZip2 (aCons (eVar j) (aCons (eVar 0) aNil)) s = .ok (zipP (eL us) (eL xs)) s1 → s1.length = 6 → (∀ u ∈ us, Hb 1 u) → EvS (eCall (denOf 2 F_tidy) (aCons (eComp [4, 5] (iOf (iZip2 (aCons (eVar j) (aCons (eVar 0) aNil)))) (gTp 2 (gsCons (gNm 4) (gsCons (gNm 5) gsNil))) (ret true) (eCall (denOf 2 F_times) (aCons (eVar 4) (aCons (eVar 5) aNil)))) aNil)) s (eP (tidyQ ((us.zip xs).map fun p => p.1 * p.2))) false s1 := fun {s s1 j us} hI h6 hu => by
    have hz : (us.zip xs).length ≤ 1000 := by rw [List.length_zip]; omega
    refine evs_call1 (evs_comp2 (us.zip xs) (fun p => eQ p.1) (fun p => eQ p.2) (fun p => eQ (p.1 * p.2)) (by rw [← zipP_map]; exact hI) (lenOk' hz) (by omega) (by omega) (by decide) fun p hp => ⟨false, ?_⟩) ?_
    · have hp1 := List.of_mem_zip (a := p.1) (b := p.2) (by exact hp)
      refine ev_call (io := none) (eva_cons (ev_var (i := 4) ?_) (eva_cons (ev_var (i := 5) ?_) eva_nil)) (d_times (hu _ hp1.1) (hx _ hp1.2) (by omega))
      · rw [List.getElem?_set_ne (by decide), List.getElem?_set_self (by omega)]
      · rw [List.getElem?_set_self (by rw [List.length_set]; omega)]
    · exact d_tidy (p := .lst ((us.zip xs).map fun p => eQ (p.1 * p.2))) (xs := (us.zip xs).map fun p => p.1 * p.2) (by unfold eL; rw [List.map_map]; rfl) (by rw [List.length_map]; omega)
  refine den_ret (s1 := sd) ?_
  unfold F_axis_parts
  refine sq g1 (sq g2 (s_seq_ret (s_retS (evs_tup2 (part (s1 := sc) rfl rfl ?_) (part (s1 := sd) rfl rfl ?_)))))
  · intro u hu
    obtain ⟨k, _, rfl⟩ := List.mem_map.mp hu
    exact hb_pat.1
  · intro u hu
    obtain ⟨k, _, rfl⟩ := List.mem_map.mp hu
    exact hb_pat.2
where lenOk' {α : Type} {xs : List α} (h : xs.length ≤ 1000) : xs.length ≤ sizeLine := by rw [sizeLine_eq]; omega
end PF
end

section
set_option Elab.async false
set_option linter.all false
set_option maxRecDepth 100000
set_option maxHeartbeats 1000000
set_option autoImplicit false
set_option exponentiation.threshold 2000
/-! MP5: sign_at, changes, jumps. -/
namespace PF
open PySem PySem.Spec PyProof.Rows L2 HF
def sgnHi (xs : List Rat) : Int := sgn (xs.getLastD 0)
def sgnLo (xs : List Rat) : Int := if xs.length % 2 = 1 then sgn (xs.getLastD 0) else - sgn (xs.getLastD 0)
theorem eq_ss (a b : Str) (ha : (PyData.str a).canLay0 = true) (hb : (PyData.str b).canLay0 = true) : opEq (.str a) (.str b) = some (.bl (decide (a = b)), false) := by
  rw [opEq_data (by intro _ _ h; cases h)]
  simp only [okb, ha, hb, peq, Bool.and_self, if_true, sB]
theorem eq_Qs (a : Rat) (b : Str) (hb : (PyData.str b).canLay0 = true) : opEq (eQ a) (.str b) = some (.bl false, false) := by
  rw [opEq_data (by intro _ _ h; cases h), okb_Q]
  simp only [okb, hb, eQ, peq, Bool.and_self, if_true, sB]
theorem lay_high : (PyData.str "high").canLay0 = true := by decide +kernel
theorem lay_low : (PyData.str "low").canLay0 = true := by decide +kernel
theorem ev_sgn {s : SE} {xs : List Rat} (h : s[0]? = some (some (false, eP xs))) (hne : xs ≠ []) : Ev (eCall (denOf 1 F_sign) (aCons (eOp2 opIx (eVar 0) (eOp1 opNeg (eC (.int 1)))) aNil)) s (.int (sgnHi xs)) false :=
  ev_call (io := none) (eva_cons (ev_op2 (rd_var (i := 0) (b := false) h) ev_m1.rd (ixT_last hne)) eva_nil) (d_sign _)
theorem d_sign_high {xs : List Rat} (hne : xs ≠ []) : denOf 2 F_sign_at [eP xs, .str "high"] = .ok (.int (sgnHi xs)) false none := by
  refine den_ret (s1 := st0 2 [eP xs, .str "high"]) (s_seq_ret (si (evt_bool (ev_op2 (rd_var (i := 1) (b := false) rfl) ev_c.rd (eq_ss "high" "high" lay_high lay_high))) (fun _ => s_seq_ret (s_ret (ev_sgn rfl hne))) fun z => by simp at z))
theorem d_sign_low {xs : List Rat} (hne : xs ≠ []) : denOf 2 F_sign_at [eP xs, .str "low"] = .ok (.int (sgnLo xs)) false none := by
  refine den_ret (s1 := st0 2 [eP xs, .str "low"]) ?_
  unfold F_sign_at
  refine sq (si (b := false) (evt_bool (ev_op2 (rd_var (i := 1) (b := false) rfl) ev_c.rd (by rw [eq_ss _ _ lay_low lay_high, decide_eq_false (by decide)]))) (fun z => by cases z) fun _ => rfl) ?_
  refine s_seq_ret (si (evt_bool (ev_op2 (rd_var (i := 1) (b := false) rfl) ev_c.rd (eq_ss "low" "low" lay_low lay_low))) (fun _ => s_seq_ret (s_ret ?_)) fun z => by simp at z)
  have t : EvT (tBool (eOp2 opEq (eOp2 opMod (eOpN opLen (aCons (eVar 0) aNil)) (eC (.int 2))) (eC (.int 1)))) (st0 2 [eP xs, .str "low"]) (decide ((xs.length : Int) % 2 = 1)) := evt_bool (ev_op2 (ev_op2 (r := .int ((xs.length : Int) % 2)) (fr3 := false) (len_P (i := 0) rfl).rd (ev_c (p := .int 2)).rd (mod_ii (by decide))).rd (ev_c (p := .int 1)).rd (eq_ii _ _))
  unfold sgnLo
  refine ev_if t (fun z => ?_) fun z => ?_
  · rw [decide_eq_true_eq] at z
    rw [if_pos (by omega)]
    exact ev_sgn rfl hne
  · rw [decide_eq_false_iff_not] at z
    rw [if_neg (by omega)]
    exact ev_op1 (ev_sgn rfl hne).rd rfl
/-! value_at 0, sign_at 0 -/
theorem d_value0 {xs : List Rat} {m : Nat} (hm : 1 ≤ m) (hx : HbL m xs) (hb : 2 * m + 2 ≤ 900) : denOf 4 F_value_at [eP xs, eQ 0] = .ok (eQ (xs.headD 0)) false none := by
  have key : ∀ (ys : List Rat) (v : Rat) (x3 : Option (Bool × PV)), (∀ a ∈ ys, Hb m a) → Hb (m + 2) v → ∃ x3', forL (gNm 3) (sSeq (sSet 2 (eCall (denOf 2 F_plus) (aCons (eCall (denOf 2 F_times) (aCons (eVar 2) (aCons (eVar 1) aNil))) (aCons (eVar 3) aNil)))) sNext) (eL ys) [some (false, eP xs), some (false, eQ 0), some (false, eQ v), x3] = .ok .next [some (false, eP xs), some (false, eQ 0), some (false, eQ (if ys = [] then v else ys.getLastD 0)), x3'] := by
    intro ys
    induction ys with
    | nil => intro v x3 _ _; exact ⟨x3, rfl⟩
    | cons a ys ih =>
      intro v x3 hy hv
      obtain ⟨x3', ih⟩ := ih a (some (false, eQ a)) (fun b hb => hy b (List.mem_cons_of_mem _ hb)) ((hy a List.mem_cons_self).mono (by omega))
      refine ⟨x3', ?_⟩
      have e2 : (sSeq (sSet 2 (eCall (denOf 2 F_plus) (aCons (eCall (denOf 2 F_times) (aCons (eVar 2) (aCons (eVar 1) aNil))) (aCons (eVar 3) aNil)))) sNext) [some (false, eP xs), some (false, eQ 0), some (false, eQ v), some (false, eQ a)] = .ok .next [some (false, eP xs), some (false, eQ 0), some (false, eQ a), some (false, eQ a)] := by
        have z : v * 0 + a = a := by rw [Rat.mul_zero, Rat.zero_add]
        have h1 : Hb 1 (v * 0) := by rw [Rat.mul_zero]; exact hb0
        have := s_set (n := 2) (s := [some (false, eP xs), some (false, eQ 0), some (false, eQ v), some (false, eQ a)]) (ev_call (io := none) (eva_cons (ev_call (io := none) (eva_cons (ev_var (i := 2) rfl) (eva_cons (ev_var (i := 1) rfl) eva_nil)) (d_times hv hb0 (by omega))) (eva_cons (ev_var (i := 3) rfl) eva_nil)) (d_plus h1 (hy a List.mem_cons_self) (by omega))) (by simp)
        rw [z] at this
        exact sq this rfl
      show forL _ _ (eQ a :: eL ys) _ = _
      unfold forL
      rw [bnd_ok (show nx (gNm 3 (eQ a)) [some (false, eP xs), some (false, eQ 0), some (false, eQ v), x3] = .ok () [some (false, eP xs), some (false, eQ 0), some (false, eQ v), some (false, eQ a)] from rfl)]
      simp only [e2]
      rw [ih]
      cases ys with
      | nil => rfl
      | cons b bs => simp [List.getLastD_cons]
  obtain ⟨x3', e⟩ := key xs.reverse 0 none (fun a ha => hx a (List.mem_reverse.mp ha)) (hb0.mono (by omega))
  have ev : (if xs.reverse = [] then (0 : Rat) else xs.reverse.getLastD 0) = xs.headD 0 := by
    cases xs with
    | nil => rfl
    | cons a as => rw [if_neg (by simp), lastD_eq]; simp
  rw [ev] at e
  refine den_ret (s1 := [some (false, eP xs), some (false, eQ 0), some (false, eQ (xs.headD 0)), x3']) ?_
  unfold F_value_at
  refine sq (s_set (ev_c (p := eQ 0)) (by simp [st0])) (sq (sf (ps := eL xs.reverse) (s1 := [some (false, eP xs), some (false, eQ 0), some (false, eQ 0), none]) ?_ e) (s_seq_ret (s_ret (ev_var (i := 2) rfl))))
  unfold HF.iRev
  show bnd (eVar 0) _ [some (false, eP xs), some (false, eQ 0), some (false, eQ 0), none] = _
  rw [bnd_ok (show eVar 0 [some (false, eP xs), some (false, eQ 0), some (false, eQ 0), none] = .ok (.val (eP xs) false) _ from rfl), bnd_ok (show rel1 (Arg.val (eP xs) false) _ = .ok (eP xs) _ from rfl)]
  simp only [src_P]
  show Rs.ok (eL xs).reverse _ = _
  rw [eL, eL, List.map_reverse]
theorem d_sign_zero {xs : List Rat} {m : Nat} (hm : 1 ≤ m) (hx : HbL m xs) (hb : 2 * m + 2 ≤ 900) : denOf 2 F_sign_at [eP xs, eQ 0] = .ok (.int (sgn (xs.headD 0))) false none := by
  refine den_ret (s1 := st0 2 [eP xs, eQ 0]) ?_
  unfold F_sign_at
  refine sq (si (b := false) (evt_bool (ev_op2 (rd_var (i := 1) (b := false) rfl) ev_c.rd (eq_Qs 0 _ lay_high))) (fun z => by cases z) fun _ => rfl) ?_
  refine sq (si (b := false) (evt_bool (ev_op2 (rd_var (i := 1) (b := false) rfl) ev_c.rd (eq_Qs 0 _ lay_low))) (fun z => by cases z) fun _ => rfl) ?_
  exact s_seq_ret (s_ret (ev_call (io := none) (eva_cons (ev_call (io := none) (eva_cons (ev_var (i := 0) rfl) (eva_cons (ev_var (i := 1) rfl) eva_nil)) (d_value0 hm hx hb)) eva_nil) (d_sign _)))
/-! ### changes -/
def cnt (l : List Int) : Nat := ((l.dropLast.zip (l.drop 1)).filter fun p => !decide (p.1 = p.2)).length
def chg (l : List Int) : Nat := cnt (l.filter fun x => !decide (x = 0))
theorem cut_init (ps : List PV) : cutP ps none (some (-1)) = ps.dropLast := by
  have e2 : HT.sIx ps.length ps.length (some (-1)) = ps.length - 1 := by
    show (if (-1 : Int) < 0 then ((-1 : Int) + (ps.length : Int)).toNat else min (-1 : Int).toNat ps.length) = _
    rw [if_pos (by decide)]
    omega
  unfold cutP
  rw [e2, show HT.sIx ps.length 0 none = 0 from rfl, List.drop_zero, List.dropLast_eq_take]
  congr 1
theorem cut_tail (ps : List PV) : cutP ps (some 1) none = ps.drop 1 := by
  have e2 : HT.sIx ps.length 0 (some 1) = min 1 ps.length := by
    show (if (1 : Int) < 0 then ((1 : Int) + (ps.length : Int)).toNat else min (1 : Int).toNat ps.length) = _
    rw [if_neg (by decide)]
    rfl
  unfold cutP
  rw [e2, show HT.sIx ps.length ps.length none = ps.length from rfl]
  cases ps with
  | nil => rfl
  | cons p ps =>
    rw [show min 1 (p :: ps).length = 1 by rw [List.length_cons]; omega]
    rw [List.take_of_length_le (by rw [List.length_drop]; omega)]
theorem ev_sl {s : SE} {f : PM HF.Arg} {l u : PM (Option Int)} {p q : PV} {lo hi : Option Int} {fr : Bool} (hf : Rdv f s p) (hl : l s = .ok lo s) (hu : u s = .ok hi s) (ho : opSl p lo hi = some (q, fr)) : Ev (eSl f l u) s q fr := by
  obtain ⟨a, h1, h2⟩ := hf
  unfold Ev eSl
  rw [bnd_ok h1, bnd_ok hl, bnd_ok hu]
  simp only [h2, ho, fin]
  rfl
theorem ints_ones {α : Type} (xs : List α) : intsOf (xs.map fun _ => PV.int 1) = some (xs.map fun _ => (1 : Int)) := by
  induction xs with
  | nil => rfl
  | cons x xs ih => rw [List.map_cons, intsOf, ih]; rfl
theorem sum_ones {α : Type} (xs : List α) : opSum [.lst (xs.map fun _ => PV.int 1)] = some (.int xs.length, false) := by
  show (intsOf (xs.map fun _ => PV.int 1)).map _ = _
  rw [ints_ones]
  show some (PV.int (xs.map fun _ => (1 : Int)).sum, false) = _
  congr 3
  induction xs with
  | nil => rfl
  | cons x xs ih => rw [List.map_cons, List.sum_cons, ih, List.length_cons]; omega
theorem d_changes {rows : List (List Rat)} {x : PV} {f : List Rat → Int} (hl : rows.length ≤ 1000) (hf : ∀ r ∈ rows, denOf 2 F_sign_at [eP r, x] = .ok (.int (f r)) false none) : denOf 7 F_changes [ePs rows, x] = .ok (.int (chg (rows.map f))) false none := by
  have hs : rows.length ≤ sizeLine := by rw [sizeLine_eq]; omega
  generalize hS : (rows.map f).filter (fun x => !decide (x = 0)) = S
  have hSl : S.length ≤ 1000 := by
    rw [← hS]
    have := List.length_filter_le (fun x => !decide (x = 0)) (rows.map f)
    rw [List.length_map] at this
    omega
  have c1 : Ev (eComp [3] (iOf (iVal (eComp [4] (iOf (iVal (eVar 0))) (gNm 4) (ret true) (eCall (denOf 2 F_sign_at) (aCons (eVar 4) (aCons (eVar 1) aNil)))))) (gNm 3) (tBool (eOp2 opNe (eVar 3) (eC (.int 0)))) (eVar 3)) (st0 7 [ePs rows, x]) (.lst (S.map .int)) true := by
    have inn : Ev (eComp [4] (iOf (iVal (eVar 0))) (gNm 4) (ret true) (eCall (denOf 2 F_sign_at) (aCons (eVar 4) (aCons (eVar 1) aNil)))) (st0 7 [ePs rows, x]) (.lst (rows.map fun r => .int (f r))) true :=
      ev_compX rows eP (fun r => .int (f r)) (iv_lst (ev_var (i := 0) rfl)) hs (by simp [st0]) fun r hr => ⟨false, ev_call (io := none) (eva_cons (ev_var (i := 4) rfl) (eva_cons (ev_var (i := 1) rfl) eva_nil)) (hf r hr)⟩
    have em : (rows.map fun r => PV.int (f r)) = (rows.map f).map .int := by rw [List.map_map]; rfl
    rw [em] at inn
    have := ev_compXF (s := st0 7 [ePs rows, x]) (i := 3) (T := tBool (eOp2 opNe (eVar 3) (eC (.int 0)))) (E := eVar 3) (rows.map f) PV.int (fun x => !decide (x = 0)) PV.int (iv_lst inn) (by rw [List.length_map]; exact hs) (by simp [st0]) (fun y _ => evt_bool (ev_op2 (rd_var (i := 3) (b := false) rfl) (ev_c (p := .int 0)).rd (ne_ii _ _))) fun y _ _ => ⟨false, ev_var (i := 3) rfl⟩
    rw [hS] at this
    exact this
  refine den_ret (fr := false) (s1 := [some (false, ePs rows), some (false, x), some (true, .lst (S.map .int)), none, none, none, none]) ?_
  unfold F_changes
  refine sq (s_set c1 (by simp [st0])) (s_seq_ret (s_ret ?_))
  have sl1 : Ev (eSl (eVar 2) eNoP (HF.eP (eOp1 opNeg (eC (.int 1))))) [some (false, ePs rows), some (false, x), some (true, .lst (S.map .int)), none, none, none, none] (.lst (S.dropLast.map .int)) true :=
    ev_sl (rd_var (i := 2) rfl) rfl (show HF.eP (eOp1 opNeg (eC (.int 1))) _ = .ok (some (-1)) _ from rfl) (by
      show some (PV.lst (cutP (S.map .int) none (some (-1))), true) = _
      rw [cut_init, List.map_dropLast])
  have sl2 : Ev (eSl (eVar 2) (HF.eP (eC (.int 1))) eNoP) [some (false, ePs rows), some (false, x), some (true, .lst (S.map .int)), none, none, none, none] (.lst ((S.drop 1).map .int)) true :=
    ev_sl (rd_var (i := 2) rfl) (show HF.eP (eC (.int 1)) _ = .ok (some 1) _ from rfl) rfl (by
      show some (PV.lst (cutP (S.map .int) (some 1) none), true) = _
      rw [cut_tail, List.map_drop])
  have iz := iv_zip2 sl1 sl2 rfl rfl
  rw [zipP_map] at iz
  have := ev_comp2F (T := tBool (eOp2 opNe (eVar 5) (eVar 6))) (E := eC (.int 1)) (i := 5) (j := 6) (S.dropLast.zip (S.drop 1)) (fun p => .int p.1) (fun p => .int p.2) (fun p => !decide (p.1 = p.2)) (fun _ => .int 1) iz (by rw [List.length_zip, List.length_dropLast, sizeLine_eq]; omega) (by simp) (by simp) (by decide)
    (fun p _ => evt_bool (ev_op2 (rd_var (i := 5) (b := false) rfl) (rd_var (i := 6) (b := false) rfl) (ne_ii _ _))) fun p _ _ => ⟨false, ev_c⟩
  refine ev_opN (rda_cons this.rd rda_nil) ?_
  rw [sum_ones]
  unfold chg cnt
  rw [hS]
theorem d_jumps {above under : List Rat} {rows : List (List Rat)} (h : Chn under above rows) (hl : rows.length ≤ 900) (hne : ∀ r ∈ under :: rows, r ≠ []) : denOf 3 F_jumps [eP above, eP under] = .ok (.int ((chg ((under :: rows).map sgnLo) : Int) - chg ((under :: rows).map sgnHi))) false none := by
  have h1 := d_changes (rows := under :: rows) (x := .str "low") (f := sgnLo) (by simp; omega) fun r hr => d_sign_low (hne r hr)
  have h2 := d_changes (rows := under :: rows) (x := .str "high") (f := sgnHi) (by simp; omega) fun r hr => d_sign_high (hne r hr)
  refine den_ret (fr := false) (s1 := [some (false, eP above), some (false, eP under), some (true, ePs (under :: rows))]) ?_
  unfold F_jumps
  refine sq (s_set (ev_call (io := none) (eva_cons (ev_var (i := 1) rfl) (eva_cons (ev_var (i := 0) rfl) eva_nil)) (d_chain h hl)) (by simp [st0])) (s_seq_ret (s_ret ?_))
  exact ev_op2 (ev_callR (rda_cons (rd_var (i := 2) rfl) (rda_cons ev_c.rd rda_nil)) h1 rfl).rd (ev_callR (rda_cons (rd_var (i := 2) rfl) (rda_cons ev_c.rd rda_nil)) h2 rfl).rd rfl
end PF
end

section
set_option Elab.async false
set_option linter.all false
set_option maxRecDepth 100000
set_option maxHeartbeats 1000000
set_option autoImplicit false
set_option exponentiation.threshold 2000
/-! MP6: explicit divisions; axis_count where it is wanted; sides. -/
namespace PF
open PySem PySem.Spec PyProof.Rows L2 HF
theorem tid1 (a : Rat) : tidyQ [a] = if a = 0 then [] else [a] := tidyQ_snoc [] a
theorem tid2 (a b : Rat) : tidyQ [a, b] = if b = 0 then tidyQ [a] else [a, b] := tidyQ_snoc [a] b
theorem tid3 (a b c : Rat) : tidyQ [a, b, c] = if c = 0 then tidyQ [a, b] else [a, b, c] := tidyQ_snoc [a, b] c
theorem tid4 (a b c d : Rat) : tidyQ [a, b, c, d] = if d = 0 then tidyQ [a, b, c] else [a, b, c, d] := tidyQ_snoc [a, b, c] d
theorem tid5 (a b c d e : Rat) : tidyQ [a, b, c, d, e] = if e = 0 then tidyQ [a, b, c, d] else [a, b, c, d, e] := tidyQ_snoc [a, b, c, d] e
/-- a division that is known -/
theorem dv_of {one other q r : List Rat} {h h2 : Nat} (h1 : 1 ≤ h) (h21 : 1 ≤ h2) (hx : HbL h one) (ho : HbL h2 other) (hne : other ≠ []) (hl0 : other.getLastD 0 ≠ 0) (hg : gro h2 (one.length + 1 - other.length) h ≤ 900) (hl : one.length ≤ 1000) (hl2 : other.length ≤ 1000) (e : divQ one other = (q, r)) : Dv one other q r := by
  have := d_divided h1 h21 hx ho hne hl0 hg hl hl2
  rw [e] at this
  exact this
theorem hbl_nil {n : Nat} : HbL n [] := fun _ h => nomatch h
theorem hbl_cons {n : Nat} {a : Rat} {xs : List Rat} (h : Hb n a) (t : HbL n xs) : HbL n (a :: xs) := fun b hb => by
  rcases List.mem_cons.mp hb with e | hb
  · rw [e]; exact h
  · exact t b hb
theorem Hb.neg {a : Rat} {n : Nat} (h : Hb n a) : Hb n (-a) := ⟨by rw [Rat.neg_num, Int.natAbs_neg]; exact h.1, by rw [Rat.neg_den]; exact h.2⟩
/-! by a constant -/
theorem div1_1 {a c : Rat} (h : c ≠ 0) : divQ [a] [c] = (tidyQ [a / c], []) := by
  show (tidyQ [a / c], tidyQ [a - a / c * c]) = _
  rw [tid1 (a - a / c * c), if_pos (by grind)]
theorem div2_1 {a b c : Rat} (h : c ≠ 0) : divQ [a, b] [c] = (tidyQ [a / c, b / c], []) := by
  show (tidyQ [a / c, b / c], tidyQ [a - a / c * c, b - b / c * c]) = _
  rw [tid2 (a - a / c * c), tid1 (a - a / c * c), if_pos (by grind), if_pos (by grind)]
theorem div3_1 {a b d c : Rat} (h : c ≠ 0) : divQ [a, b, d] [c] = (tidyQ [a / c, b / c, d / c], []) := by
  show (tidyQ [a / c, b / c, d / c], tidyQ [a - a / c * c, b - b / c * c, d - d / c * c]) = _
  rw [tid3 (a - a / c * c), tid2 (a - a / c * c), tid1 (a - a / c * c), if_pos (by grind), if_pos (by grind), if_pos (by grind)]
theorem div4_1 {a b d e c : Rat} (h : c ≠ 0) : divQ [a, b, d, e] [c] = (tidyQ [a / c, b / c, d / c, e / c], []) := by
  show (tidyQ [a / c, b / c, d / c, e / c], tidyQ [a - a / c * c, b - b / c * c, d - d / c * c, e - e / c * c]) = _
  rw [tid4 (a - a / c * c), tid3 (a - a / c * c), tid2 (a - a / c * c), tid1 (a - a / c * c), if_pos (by grind), if_pos (by grind), if_pos (by grind), if_pos (by grind)]
theorem div5_1 {a b d e f c : Rat} (h : c ≠ 0) : divQ [a, b, d, e, f] [c] = (tidyQ [a / c, b / c, d / c, e / c, f / c], []) := by
  show (tidyQ [a / c, b / c, d / c, e / c, f / c], tidyQ [a - a / c * c, b - b / c * c, d - d / c * c, e - e / c * c, f - f / c * c]) = _
  rw [tid5 (a - a / c * c), tid4 (a - a / c * c), tid3 (a - a / c * c), tid2 (a - a / c * c), tid1 (a - a / c * c), if_pos (by grind), if_pos (by grind), if_pos (by grind), if_pos (by grind), if_pos (by grind)]
theorem div_one : ∀ {xs : List Rat}, xs.length ≤ 5 → (xs = [] ∨ xs.getLastD 0 ≠ 0) → divQ xs [1] = (xs, [])
  | [], _, _ => rfl
  | [a], _, h => by rw [div1_1 (by decide), Rat.div_def, show (1 : Rat)⁻¹ = 1 by decide +kernel, Rat.mul_one, tidyQ_id h]
  | [a, b], _, h => by rw [div2_1 (by decide)]; simp only [Rat.div_def, show (1 : Rat)⁻¹ = 1 by decide +kernel, Rat.mul_one]; rw [tidyQ_id h]
  | [a, b, c], _, h => by rw [div3_1 (by decide)]; simp only [Rat.div_def, show (1 : Rat)⁻¹ = 1 by decide +kernel, Rat.mul_one]; rw [tidyQ_id h]
  | [a, b, c, d], _, h => by rw [div4_1 (by decide)]; simp only [Rat.div_def, show (1 : Rat)⁻¹ = 1 by decide +kernel, Rat.mul_one]; rw [tidyQ_id h]
  | [a, b, c, d, e], _, h => by rw [div5_1 (by decide)]; simp only [Rat.div_def, show (1 : Rat)⁻¹ = 1 by decide +kernel, Rat.mul_one]; rw [tidyQ_id h]
  | _ :: _ :: _ :: _ :: _ :: _ :: _, h, _ => by simp at h
theorem monic_c {a : Rat} (h : a ≠ 0) : monicQ [a] = [1] := by
  show scaledQ [a] (1 / a) = _
  show tidyQ [1 / a * a] = _
  rw [tid1, if_neg (by grind)]
  congr 1
  grind
/-! slope, root_count, all_count, axis_count -/
theorem d_slope2 {s : Rat} : denOf 2 F_slope [eP [s, 1]] = .ok (eP [1]) false none := by
  have iv : iVal (eOpN opRange (aCons (eC (.int 1)) (aCons (eOpN opLen (aCons (eVar 0) aNil)) aNil))) (st0 2 [eP [s, 1]]) = .ok ([1].map eI) (st0 2 [eP [s, 1]]) := by
    have h : rOk 1 2 = true := by unfold rOk; rw [decide_eq_true_eq]; omega
    refine iv_of (p := .rng 1 2) (fr := false) (ev_opN (rda_cons (ev_c (p := .int 1)).rd (rda_cons (len_P (i := 0) (xs := [s, 1]) rfl).rd rda_nil)) rfl) ?_
    simp only [h, if_true]
    rfl
  refine den_ret (s1 := st0 2 [eP [s, 1]]) (s_seq_ret (s_ret (ev_call (io := none) (eva_cons (ev_compX [1] eI (fun _ => eQ 1) iv (by rw [sizeLine_eq]; exact Nat.le_of_ble_eq_true rfl) (by simp [st0]) fun k hk => ⟨false, ?_⟩) eva_nil) ?_)))
  · rw [List.mem_singleton.mp hk]
    have h1 := d_times (a := 1) (b := 1) hb1 hb1 (by omega)
    rw [Rat.mul_one] at h1
    have hw := d_whole 1
    exact ev_call (io := none) (eva_cons (ev_call (io := none) (eva_cons (ev_var (i := 1) rfl) eva_nil) hw) (eva_cons (ev_op2 (fr3 := false) (rd_var (i := 0) (b := false) (p := eP [s, 1]) rfl) (rd_var (i := 1) (b := false) (p := eI 1) rfl) (ixT (xs := [s, 1]) (k := 1) (by simp))) eva_nil)) h1
  · exact d_tidy (p := .lst [eQ 1]) (xs := [1]) rfl (by simp)
theorem com_s1 {s : Rat} {m : Nat} (hm : 1 ≤ m) (hs : Hb m s) (hb : 2 * (2 * m + 3) + 3 ≤ 900) : Com [s, 1] [1] [1] 1 := by
  refine .step (by simp) (dv_of (q := [s, 1]) (r := []) (h := m) (h2 := 1) hm (Nat.le_refl _) (hbl_cons hs (hbl_cons (hb1.mono hm) hbl_nil)) (hbl_cons hb1 hbl_nil) (by simp) (by decide) (by show gro 1 2 m ≤ 900; unfold gro gro gro; omega) (by simp) (by simp) (div_one (by simp) (.inr (by show (1 : Rat) ≠ 0; decide)))) (.nil _)
theorem d_common_s1 {s : Rat} {m : Nat} (hm : 1 ≤ m) (hs : Hb m s) (hb : 2 * (2 * m + 3) + 3 ≤ 900) : denOf 2 F_common [eP [s, 1], eP [1]] = .ok (eP [1]) false none := by
  have := d_common (com_s1 hm hs hb) (by omega) (Nat.le_refl 1) (hbl_cons hb1 hbl_nil) (by omega) (by simp) (.inr (by decide))
  rwa [monic_c (by decide)] at this
theorem dv_s1 {s : Rat} {m : Nat} (hm : 1 ≤ m) (hs : Hb m s) (hb : 2 * (2 * m + 3) + 3 ≤ 900) : Dv [s, 1] [1] [s, 1] [] :=
  dv_of (h := m) (h2 := 1) hm (Nat.le_refl _) (hbl_cons hs (hbl_cons (hb1.mono hm) hbl_nil)) (hbl_cons hb1 hbl_nil) (by simp) (by decide) (by show gro 1 2 m ≤ 900; unfold gro gro gro; omega) (by simp) (by simp) (div_one (by simp) (.inr (by show (1 : Rat) ≠ 0; decide)))
theorem sc_nil {a : Rat} {m : Nat} (ha : Hb m a) (hm : m ≤ 800) : denOf 3 F_scaled [eP [], eQ a] = .ok (eP []) false none := d_scaled (m := 1) hbl_nil ha (by omega) (by simp)
theorem sgn_pos {q : Rat} (h : 0 < q) : sgn q = 1 := by unfold sgn; rw [if_neg (by grind), if_pos h]
theorem sgn_neg {q : Rat} (h : q < 0) : sgn q = -1 := by unfold sgn; rw [if_neg (by grind), if_neg (by grind)]
theorem ne_ss (a : Str) (ha : (PyData.str a).canLay0 = true) : opNe (.str a) (.str a) = some (.bl false, false) := by
  rw [opNe_data (by intro _ _ h; cases h)]
  simp only [okb, ha, peq_refl, Bool.and_self, if_true, sB, Bool.not_true]
theorem d_root_count {s : Rat} {m : Nat} (hm : 1 ≤ m) (hs : Hb m s) (hb : 2 * (2 * m + 3) + 3 ≤ 900) (h0 : s ≠ 0) : denOf 5 F_root_count [eP [s, 1], .str "low", eQ 0] = .ok (.int (if 0 < s then 1 else 0)) false none := by
  have hL : HbL m [s, 1] := hbl_cons hs (hbl_cons (hb1.mono hm) hbl_nil)
  have ck := d_check (xs := [s, 1]) (hL.mono (by omega)) (by simp) (.inr (by show (1 : Rat) ≠ 0; decide))
  have ch : Chn [s, 1] [1] [[1]] := .step (by simp) (dv_s1 hm hs hb) (sc_nil hbm1 (by omega)) (.nil _)
  have c1 := d_changes (rows := [[s, 1], [1]]) (x := .str "low") (f := sgnLo) (by simp) fun r hr => d_sign_low (by
    rcases List.mem_cons.mp hr with e | hr
    · rw [e]; simp
    · rw [List.mem_singleton.mp hr]; simp)
  have c2 := d_changes (rows := [[s, 1], [1]]) (x := eQ 0) (f := fun xs => sgn (xs.headD 0)) (by simp) fun r hr => d_sign_zero hm (by
    rcases List.mem_cons.mp hr with e | hr
    · rw [e]; exact hL
    · rw [List.mem_singleton.mp hr]; exact hbl_cons (hb1.mono hm) hbl_nil) (by omega)
  refine den_ret (fr := false) (s1 := [some (false, eP [s, 1]), some (false, .str "low"), some (false, eQ 0), some (false, eP [s, 1]), some (true, ePs [[s, 1], [1]])]) ?_
  unfold F_root_count
  refine sq (s_expr (ev_call (io := none) (eva_cons (ev_var (i := 0) rfl) eva_nil) ck)) ?_
  refine sq (sno (evt_not (b := true) (evt_tru (rd_var (i := 0) (b := false) rfl) (tru_P (xs := [s, 1])))) rfl) ?_
  refine sq (sno (evt_and (b := false) (b2 := false) (evt_bool (ev_op2 (rd_var (i := 1) (b := false) rfl) (ev_c (p := .str "low")).rd (ne_ss _ lay_low))) fun z => by cases z) rfl) ?_
  have g3 : sSet 3 (eIf (tBool (eOp2 opGt (eOpN opLen (aCons (eVar 0) aNil)) (eC (.int 1)))) (eOp2 opIx (eCall (denOf 7 F_divided) (aCons (eVar 0) (aCons (eCall (denOf 2 F_common) (aCons (eVar 0) (aCons (eCall (denOf 2 F_slope) (aCons (eVar 0) aNil)) aNil))) aNil))) (eC (.int 0))) (eVar 0)) (st0 5 [eP [s, 1], .str "low", eQ 0]) = .ok .next [some (false, eP [s, 1]), some (false, .str "low"), some (false, eQ 0), some (false, eP [s, 1]), none] := by
    refine s_set (n := 3) (p := eP [s, 1]) (fr := false) (ev_if (b := true) (evt_bool (fr := false) (ev_op2 (len_P (i := 0) (xs := [s, 1]) rfl).rd (ev_c (p := .int 1)).rd rfl)) (fun _ => ?_) fun z => by cases z) (by simp [st0])
    exact ev_op2 (fr3 := false) (ev_call (io := none) (eva_cons (ev_var (i := 0) rfl) (eva_cons (ev_call (io := none) (eva_cons (ev_var (i := 0) rfl) (eva_cons (ev_call (io := none) (eva_cons (ev_var (i := 0) rfl) eva_nil) d_slope2) eva_nil)) (d_common_s1 hm hs hb)) eva_nil)) (dv_s1 hm hs hb)).rd (ev_c (p := .int 0)).rd rfl
  refine sq g3 (sq (s_set (s := [some (false, eP [s, 1]), some (false, .str "low"), some (false, eQ 0), some (false, eP [s, 1]), none]) (ev_call (io := none) (eva_cons (ev_var (i := 3) rfl) (eva_cons (ev_call (io := none) (eva_cons (ev_var (i := 3) rfl) eva_nil) d_slope2) eva_nil)) (d_chain ch (by simp))) (by simp)) (s_seq_ret (s_ret ?_)))
  refine ev_op2 (ev_callR (rda_cons (rd_var (i := 4) rfl) (rda_cons (rd_var (i := 1) (b := false) rfl) rda_nil)) c1 rfl).rd (ev_callR (rda_cons (rd_var (i := 4) rfl) (rda_cons (rd_var (i := 2) (b := false) rfl) rda_nil)) c2 rfl).rd ?_
  have e1 : (chg ([[s, 1], [1]].map sgnLo) : Int) = 1 := by
    have : ([[s, 1], [1]].map sgnLo) = [-1, 1] := by
      have a : sgnLo [s, 1] = -1 := by unfold sgnLo; rw [if_neg (by simp), show [s, 1].getLastD 0 = 1 from rfl, sgn_pos (by decide)]
      have b : sgnLo [1] = 1 := by unfold sgnLo; rw [if_pos (by simp), show [(1 : Rat)].getLastD 0 = 1 from rfl, sgn_pos (by decide)]
      rw [List.map_cons, List.map_cons, a, b]
      rfl
    rw [this]; decide
  have e2 : (chg ([[s, 1], [1]].map fun xs => sgn (xs.headD 0)) : Int) = if 0 < s then 0 else 1 := by
    show (chg [sgn s, sgn 1] : Int) = _
    rw [sgn_pos (q := 1) (by decide)]
    by_cases h : 0 < s
    · rw [sgn_pos h, if_pos h]; decide
    · rw [sgn_neg (by grind), if_neg h]; decide
  rw [e1, e2]
  by_cases h : 0 < s
  · rw [if_pos h, if_pos h]; rfl
  · rw [if_neg h, if_neg h]; rfl
def La : PM Fl := (sSeq (sAug 3 (onII fun i j => sI (i + j)) (eCall (denOf 5 F_root_count) (aCons (eVar 0) (aCons (eVar 1) (aCons (eVar 2) aNil)))))
  (sSeq (sSet 0 (eCall (denOf 2 F_common) (aCons (eVar 0) (aCons (eCall (denOf 2 F_slope) (aCons (eVar 0) aNil)) aNil))))
  sNext))
def Ca : PM Bool := (tBool (eOp2 opGt (eOpN opLen (aCons (eVar 0) aNil)) (eC (.int 1))))
theorem s_aug {s : SE} {i : Nat} {op : Op2} {f : PM HF.Arg} {p q r : PV} {fr fr2 : Bool} (h : s[i]? = some (some (false, p))) (hf : Ev f s q fr) (ho : op p q = some (r, fr2)) : sAug i op f s = .ok .next (s.set i (some (fr2, r))) := by
  have hi : i < s.length := (List.getElem?_eq_some_iff.mp h).1
  unfold sAug
  simp only [h]
  rw [bnd_ok hf]
  rw [bnd_ok (show opt2 op (.val p false) (.val q fr) s = .ok (.val r fr2) s by simp only [opt2, rv, ho, fin]; rfl)]
  rw [bnd_ok (show setA i (.val r fr2) s = .ok () (s.set i (some (fr2, r))) by show setV i r fr2 s = _; unfold setV; rw [if_pos hi])]
  rfl
theorem d_all1 : denOf 4 F_all_count [eP [1], .str "low", eQ 0] = .ok (.int 0) false none := by
  refine den_ret (s1 := [some (false, eP [1]), some (false, .str "low"), some (false, eQ 0), some (false, .int 0)]) ?_
  unfold F_all_count
  refine sq (s_set ev_c (by simp [st0])) (sq (s1 := [some (false, eP [1]), some (false, .str "low"), some (false, eQ 0), some (false, .int 0)]) ?_ (s_seq_ret (s_ret (ev_var (i := 3) rfl))))
  show sWhile Ca La [some (false, eP [1]), some (false, .str "low"), some (false, eQ 0), some (false, .int 0)] = _
  have w : wl Ca La 1 [some (false, eP [1]), some (false, .str "low"), some (false, eQ 0), some (false, .int 0)] = .ok .next [some (false, eP [1]), some (false, .str "low"), some (false, eQ 0), some (false, .int 0)] := by
    unfold wl
    rw [bnd_ok (show Ca _ = .ok false _ from evt_bool (fr := false) (ev_op2 (len_P (i := 0) (xs := [1]) rfl).rd (ev_c (p := .int 1)).rd rfl))]
    rfl
  rw [sWhile_eq 1 (by unfold FUEL; omega) (by rw [w]; nofun), w]
theorem d_all2 {s : Rat} {m : Nat} (hm : 1 ≤ m) (hs : Hb m s) (hb : 2 * (2 * m + 3) + 3 ≤ 900) (h0 : s ≠ 0) : denOf 4 F_all_count [eP [s, 1], .str "low", eQ 0] = .ok (.int (if 0 < s then 1 else 0)) false none := by
  refine den_ret (s1 := [some (false, eP [1]), some (false, .str "low"), some (false, eQ 0), some (false, .int (if 0 < s then 1 else 0))]) ?_
  unfold F_all_count
  refine sq (s_set ev_c (by simp [st0])) (sq (s1 := [some (false, eP [1]), some (false, .str "low"), some (false, eQ 0), some (false, .int (if 0 < s then 1 else 0))]) ?_ (s_seq_ret (s_ret (ev_var (i := 3) rfl))))
  show sWhile Ca La [some (false, eP [s, 1]), some (false, .str "low"), some (false, eQ 0), some (false, .int 0)] = _
  have w : wl Ca La 2 [some (false, eP [s, 1]), some (false, .str "low"), some (false, eQ 0), some (false, .int 0)] = .ok .next [some (false, eP [1]), some (false, .str "low"), some (false, eQ 0), some (false, .int (if 0 < s then 1 else 0))] := by
    unfold wl
    rw [bnd_ok (show Ca _ = .ok true _ from evt_bool (fr := false) (ev_op2 (len_P (i := 0) (xs := [s, 1]) rfl).rd (ev_c (p := .int 1)).rd rfl))]
    have e2 : La [some (false, eP [s, 1]), some (false, .str "low"), some (false, eQ 0), some (false, .int 0)] = .ok .next [some (false, eP [1]), some (false, .str "low"), some (false, eQ 0), some (false, .int (if 0 < s then 1 else 0))] := by
      unfold La
      refine sq (s_aug (s := [some (false, eP [s, 1]), some (false, .str "low"), some (false, eQ 0), some (false, .int 0)]) (i := 3) rfl (ev_call (io := none) (eva_cons (ev_var (i := 0) rfl) (eva_cons (ev_var (i := 1) rfl) (eva_cons (ev_var (i := 2) rfl) eva_nil))) (d_root_count hm hs hb h0)) (show _ = some (.int (if 0 < s then 1 else 0), false) by show sI _ = _; unfold sI; rw [Int.zero_add])) ?_
      exact sq (s_set (ev_call (io := none) (eva_cons (ev_var (i := 0) rfl) (eva_cons (ev_call (io := none) (eva_cons (ev_var (i := 0) rfl) eva_nil) d_slope2) eva_nil)) (d_common_s1 hm hs hb)) (by simp)) rfl
    simp only [if_true, e2]
    unfold wl
    rw [bnd_ok (show Ca _ = .ok false _ from evt_bool (fr := false) (ev_op2 (len_P (i := 0) (xs := [1]) rfl).rd (ev_c (p := .int 1)).rd rfl))]
    rfl
  rw [sWhile_eq 2 (by unfold FUEL; omega) (by rw [w]; nofun), w]
end PF
end

section
set_option Elab.async false
set_option linter.all false
set_option maxRecDepth 100000
set_option maxHeartbeats 1000000
set_option autoImplicit false
set_option exponentiation.threshold 2000
/-! MP7: axis_count, sides, is_calm. -/
namespace PF
open PySem PySem.Spec PyProof.Rows L2 HF
def Cf : PM Bool := (tBool (eOp2 opEq (eOp2 opIx (eVar 0) (eVar 1)) (eC (.tup [.int 0, .int 1]))))
def Lf : PM Fl := (sSeq (sAug 1 (onII fun i j => sI (i + j)) (eC (.int 1))) sNext)
theorem d_axis {xs : List Rat} {ks : List Nat} {n : Int} (h0 : xs.headD 0 ≠ 0) (hne : xs ≠ []) (hrg : rg3Ok 0 xs.length 2 = true) (hks : rngC 0 2 (Builtin.Range.rangeSize 0 xs.length 2).toNat = ks.map eI) (hk : ∀ k ∈ ks, k < xs.length) (hkl : ks.length ≤ 1000) (hn : n.natAbs < 2 ^ 1000)
    (ha : denOf 4 F_all_count [eP (tidyQ (ks.map fun k => xs.getD k 0)), .str "low", eQ 0] = .ok (.int n) false none) : denOf 4 F_axis_count [eP xs] = .ok (.int (2 * n)) false none := by
  have hl : 0 < xs.length := List.length_pos_iff.mpr hne
  have e0 : xs.getD 0 0 = xs.headD 0 := by cases xs <;> rfl
  refine den_ret (s1 := [some (false, eP xs), some (false, .int 0), some (false, eP (tidyQ (ks.map fun k => xs.getD k 0))), none]) ?_
  unfold F_axis_count
  refine sq (s_set (ev_c (p := .int 0)) (by simp [st0])) ?_
  refine sq (s1 := [some (false, eP xs), some (false, .int 0), none, none]) ?_ ?_
  · show sWhile Cf Lf [some (false, eP xs), some (false, .int 0), none, none] = _
    have w : wl Cf Lf 1 [some (false, eP xs), some (false, .int 0), none, none] = .ok .next [some (false, eP xs), some (false, .int 0), none, none] := by
      have c : Cf [some (false, eP xs), some (false, .int 0), none, none] = .ok false [some (false, eP xs), some (false, .int 0), none, none] := by
        have h1 := ixT (xs := xs) (k := 0) hl
        have := evt_bool (ev_op2 (ev_op2 (s := [some (false, eP xs), some (false, .int 0), none, none]) (rd_var (i := 0) (b := false) rfl) (rd_var (i := 1) (b := false) (p := .int (0 : Nat)) rfl) h1).rd (ev_c (p := eQ 0)).rd (eq_Q _ 0))
        rw [e0, decide_eq_false h0] at this
        exact this
      unfold wl
      rw [bnd_ok c]
      rfl
    rw [sWhile_eq 1 (by unfold FUEL; omega) (by rw [w]; nofun), w]
  · have iv : iRg3 (aCons (eVar 1) (aCons (eOpN opLen (aCons (eVar 0) aNil)) (aCons (eC (.int 2)) aNil))) [some (false, eP xs), some (false, .int 0), none, none] = .ok (ks.map eI) [some (false, eP xs), some (false, .int 0), none, none] := by
      unfold iRg3
      rw [bnd_ok (aCons_ok (f := eVar 1) (p := .int 0) (fr := false) rfl (aCons_ok (len_P (i := 0) (xs := xs) rfl) (aCons_ok (f := eC (.int 2)) (p := .int 2) (fr := false) rfl (show aNil _ = .ok [] _ from rfl))))]
      simp only [hrg, if_true, hks]
      rfl
    have c3 : Ev (eComp [3] (iOf (iRg3 (aCons (eVar 1) (aCons (eOpN opLen (aCons (eVar 0) aNil)) (aCons (eC (.int 2)) aNil))))) (gNm 3) (ret true) (eOp2 opIx (eVar 0) (eVar 3))) [some (false, eP xs), some (false, .int 0), none, none] (.lst (ks.map fun k => eQ (xs.getD k 0))) true :=
      ev_compX ks eI (fun k => eQ (xs.getD k 0)) iv (by rw [sizeLine_eq]; omega) (by simp) fun k hk2 => ⟨false, ev_op2 (rd_var (i := 0) (b := false) rfl) (rd_var (i := 3) (b := false) rfl) (ixT (hk k hk2))⟩
    refine sq (s_set (ev_call (io := none) (eva_cons c3 eva_nil) (d_tidy (xs := ks.map fun k => xs.getD k 0) (by unfold eL; rw [List.map_map]; rfl) (by rw [List.length_map]; omega))) (by simp)) (s_seq_ret (s_ret ?_))
    refine ev_op2 (fr3 := false) (rd_var (i := 1) (b := false) (p := .int 0) rfl) (ev_op2 (r := .int (2 * n)) (fr3 := false) (ev_c (p := .int 2)).rd (ev_call (io := none) (eva_cons (ev_var (i := 2) rfl) (eva_cons ev_c (eva_cons ev_c eva_nil))) ha).rd (mul_ii (by decide) hn)).rd ?_
    show sI (0 + 2 * n) = _
    rw [Int.zero_add]
    try rfl
theorem d_axis1 : denOf 4 F_axis_count [eP [1]] = .ok (.int 0) false none :=
  d_axis (xs := [1]) (ks := [0]) (n := 0) (by decide) (by simp) (by decide) (by decide +kernel) (by simp) (by simp) (by decide) d_all1
theorem d_axis3 {s : Rat} {m : Nat} (hm : 1 ≤ m) (hs : Hb m s) (hb : 2 * (2 * m + 3) + 3 ≤ 900) (h0 : s ≠ 0) : denOf 4 F_axis_count [eP [s, 0, 1]] = .ok (.int (2 * if 0 < s then 1 else 0)) false none :=
  d_axis (xs := [s, 0, 1]) (ks := [0, 2]) (n := if 0 < s then 1 else 0) h0 (by simp) (show rg3Ok 0 3 2 = true by decide) (show rngC 0 2 (Builtin.Range.rangeSize 0 3 2).toNat = [0, 2].map eI by decide +kernel) (by simp) (by simp) (by split <;> decide) (d_all2 hm hs hb h0)
/-! ### sides -/
def leadQ (d : Nat) (j : Int) : Int := if d = 0 then 0 else if d % 2 = 0 then -j else j
theorem d_sides {xs both rest r0 ev od : List Rat} {j ax : Int} (hx : HbL 900 xs) (hl : xs.length ≤ 25) (hne : xs ≠ []) (h0 : xs.getLastD 0 ≠ 0) (ht : denOf 3 F_turned [eP xs] = .ok (eP (turnedQ xs)) false none) (hc : denOf 2 F_common [eP xs, eP (turnedQ xs)] = .ok (eP both) false none)
    (hd : Dv xs both rest r0) (hp : denOf 6 F_axis_parts [eP rest] = .ok (.tup [eP ev, eP od]) false none) (hr : rest ≠ [])
    (hj : if (rest.length - 1) % 2 = 0 then denOf 3 F_jumps [eP od, eP ev] = .ok (.int j) false none else denOf 3 F_jumps [eP ev, eP od] = .ok (.int j) false none) (ha : denOf 4 F_axis_count [eP both] = .ok (.int ax) false none) :
    ∃ right : Int, denOf 9 F_sides [eP xs] = .ok (.tup [.int ((((rest.length - 1 : Nat) : Int) + leadQ (rest.length - 1) j) / 2 + ((both.length : Int) - 1 - ax) / 2), .int ax, .int right]) false none := by
  have hrl : 0 < rest.length := List.length_pos_iff.mpr hr
  generalize hd1 : rest.length - 1 = d at hj
  have two : ∀ x : Int, opFdiv (.int x) (.int 2) = some (.int (x / 2), false) := fun x => fdiv_ii (by decide) (by decide)
  refine ⟨((d : Int) - leadQ d j) / 2 + ((both.length : Int) - 1 - ax) / 2, ?_⟩
  let sA : SE := [some (false, eP xs), some (false, eP both), some (false, eP rest), some (false, eI d), some (false, eP ev), some (false, eP od), none, none, none]
  let sB (l : Int) : SE := [some (false, eP xs), some (false, eP both), some (false, eP rest), some (false, eI d), some (false, eP ev), some (false, eP od), some (false, .int l), none, none]
  let sC : SE := [some (false, eP xs), some (false, eP both), some (false, eP rest), some (false, eI d), some (false, eP ev), some (false, eP od), some (false, .int (leadQ d j)), some (false, .int ax), some (false, .int (((both.length : Int) - 1 - ax) / 2))]
  refine den_ret (s1 := sC) ?_
  unfold F_sides
  refine sq (s_expr (ev_call (io := none) (eva_cons (ev_var (i := 0) rfl) eva_nil) (d_check hx hl (.inr h0)))) ?_
  refine sq (sno (evt_not (b := true) (evt_tru (rd_var (i := 0) (b := false) rfl) (by rw [tru_P]; cases xs with
    | nil => exact absurd rfl hne
    | cons a as => rfl))) rfl) ?_
  refine sq (s_set (ev_call (io := none) (eva_cons (ev_var (i := 0) rfl) (eva_cons (ev_call (io := none) (eva_cons (ev_var (i := 0) rfl) eva_nil) ht) eva_nil)) hc) (by simp [st0])) ?_
  refine sq (s_set (p := eP rest) (fr := false) (ev_op2 (fr3 := false) (ev_call (io := none) (eva_cons (ev_var (i := 0) rfl) (eva_cons (ev_var (i := 1) rfl) eva_nil)) hd).rd (ev_c (p := .int 0)).rd rfl) (by simp [st0])) ?_
  refine sq (s_set (p := eI d) (fr := false) (ev_op2 (fr3 := false) (len_P (i := 2) (xs := rest) rfl).rd (ev_c (p := .int 1)).rd (by show sI ((rest.length : Int) - 1) = some (.int (d : Int), false); rw [show (rest.length : Int) - 1 = (d : Int) by omega])) (by simp [st0])) ?_
  refine sq (s1 := sA) ?_ ?_
  · unfold sAsg
    rw [bnd_ok (show eCall (denOf 6 F_axis_parts) (aCons (eVar 2) aNil) _ = .ok (.val (.tup [eP ev, eP od]) false) _ from ev_call (io := none) (eva_cons (ev_var (i := 2) (p := eP rest) rfl) eva_nil) hp)]
    rw [bnd_ok (show rel1 (Arg.val (.tup [eP ev, eP od]) false) _ = .ok (.tup [eP ev, eP od]) _ from rfl)]
    rw [bnd_ok (show nx (gTp 2 (gsCons (gNm 4) (gsCons (gNm 5) gsNil)) (.tup [eP ev, eP od])) _ = .ok () sA from by unfold nx; rw [g_tp2 (by simp [st0]) (by simp [st0])]; rfl)]
    rfl
  have t1 : EvT (tBool (eOp2 opEq (eOp2 opMod (eVar 3) (eC (.int 2))) (eC (.int 0)))) sA (decide ((d : Int) % 2 = 0)) := evt_bool (ev_op2 (ev_mod (i := 3) rfl (by decide)).rd (ev_c (p := .int 0)).rd (eq_ii _ _))
  refine sq (s1 := sB (if d % 2 = 0 then -j else j)) (s_set (fr := false) (p := .int (if d % 2 = 0 then -j else j)) (ev_if t1 (fun z => ?_) fun z => ?_) (by simp [sA])) ?_
  · rw [decide_eq_true_eq] at z
    rw [if_pos (by omega)] at hj
    rw [if_pos (by omega)]
    exact ev_op1 (ev_call (io := none) (eva_cons (ev_var (i := 5) rfl) (eva_cons (ev_var (i := 4) rfl) eva_nil)) hj).rd rfl
  · rw [decide_eq_false_iff_not] at z
    rw [if_neg (by omega)] at hj
    rw [if_neg (by omega)]
    exact ev_call (io := none) (eva_cons (ev_var (i := 4) rfl) (eva_cons (ev_var (i := 5) rfl) eva_nil)) hj
  refine sq (s1 := sB (leadQ d j)) ?_ ?_
  · refine si (evt_bool (ev_op2 (rd_var (i := 3) (b := false) (p := .int (d : Int)) rfl) (ev_c (p := .int 0)).rd (eq_ii _ _))) (fun z => ?_) fun z => ?_
    · rw [decide_eq_true_eq] at z
      rw [show leadQ d j = 0 by unfold leadQ; rw [if_pos (by omega)]]
      exact sq (s_set (ev_c (p := .int 0)) (by simp [sB])) rfl
    · rw [decide_eq_false_iff_not] at z
      rw [show leadQ d j = if d % 2 = 0 then -j else j by unfold leadQ; rw [if_neg (by omega)]]
      rfl
  refine sq (s_set (ev_call (io := none) (eva_cons (ev_var (i := 1) rfl) eva_nil) ha) (by simp [sB])) ?_
  refine sq (s1 := sC) (s_set (s := [some (false, eP xs), some (false, eP both), some (false, eP rest), some (false, eI d), some (false, eP ev), some (false, eP od), some (false, .int (leadQ d j)), some (false, .int ax), none]) (ev_op2 (fr3 := false) (ev_op2 (r := .int ((both.length : Int) - 1 - ax)) (fr3 := false) (ev_op2 (r := .int ((both.length : Int) - 1)) (fr3 := false) (len_P (i := 1) (xs := both) rfl).rd (ev_c (p := .int 1)).rd rfl).rd (rd_var (i := 7) (b := false) rfl) rfl).rd (ev_c (p := .int 2)).rd (two _)) (by simp)) ?_
  refine s_seq_ret (s_ret (ev_tup (eva_cons (ev_op2 (fr3 := false) (ev_op2 (r := .int (((d : Int) + leadQ d j) / 2)) (fr3 := false) (ev_op2 (r := .int ((d : Int) + leadQ d j)) (fr3 := false) (rd_var (i := 3) (b := false) (p := .int (d : Int)) rfl) (rd_var (i := 6) (b := false) rfl) rfl).rd (ev_c (p := .int 2)).rd (two _)).rd (rd_var (i := 8) (b := false) rfl) rfl) (eva_cons (ev_var (i := 7) rfl) (eva_cons
    (ev_op2 (fr3 := false) (ev_op2 (r := .int (((d : Int) - leadQ d j) / 2)) (fr3 := false) (ev_op2 (r := .int ((d : Int) - leadQ d j)) (fr3 := false) (rd_var (i := 3) (b := false) (p := .int (d : Int)) rfl) (rd_var (i := 6) (b := false) rfl) rfl).rd (ev_c (p := .int 2)).rd (two _)).rd (rd_var (i := 8) (b := false) rfl) rfl) eva_nil))) (by rw [sizeLine_eq]; exact Nat.le_of_ble_eq_true rfl)))
/-- how many roots lie left of the axis -/
def Lft (xs : List Rat) (l : Int) : Prop := ∃ ax right : Int, denOf 9 F_sides [eP xs] = .ok (.tup [.int l, .int ax, .int right]) false none
theorem d_is_calm {xs : List Rat} {l : Int} (h : Lft xs l) : denOf 1 F_is_calm [eP xs] = .ok (.bl (decide (l = (xs.length : Int) - 1))) false none := by
  obtain ⟨ax, right, h⟩ := h
  exact den_ret (s1 := st0 1 [eP xs]) (s_seq_ret (s_ret (ev_op2 (ev_op2 (fr3 := false) (ev_call (io := none) (eva_cons (ev_var (i := 0) rfl) eva_nil) h).rd (ev_c (p := .int 0)).rd rfl).rd (ev_op2 (r := .int ((xs.length : Int) - 1)) (fr3 := false) (len_P (i := 0) rfl).rd (ev_c (p := .int 1)).rd rfl).rd (eq_ii _ _))))
end PF
end

section
set_option Elab.async false
set_option linter.all false
set_option maxRecDepth 100000
set_option maxHeartbeats 1000000
set_option autoImplicit false
set_option exponentiation.threshold 2000
/-! MP8: sides of polynomials of degree 1 to 4 whose coefficients are above 0. -/
namespace PF
open PySem PySem.Spec PyProof.Rows L2 HF
theorem tidy_eq {ys : List Rat} (h : ys = [] ∨ ys.getLastD 0 ≠ 0) : ∀ k : Nat, tidyQ (ys ++ List.replicate k 0) = ys
  | 0 => by rw [List.replicate_zero, List.append_nil, tidyQ_id h]
  | k + 1 => by rw [List.replicate_succ', ← List.append_assoc, tidyQ_snoc, if_pos rfl, tidy_eq h k]
theorem tidy_to {xs ys : List Rat} (k : Nat) (h : xs = ys ++ List.replicate k 0) (hy : ys = [] ∨ ys.getLastD 0 ≠ 0) : tidyQ xs = ys := by rw [h, tidy_eq hy]
theorem l1 {a b : Rat} (h : a = b) : [a] = [b] := by rw [h]
theorem l2 {a b a' b' : Rat} (h : a = a') (h2 : b = b') : [a, b] = [a', b'] := by rw [h, h2]
theorem l3 {a b c a' b' c' : Rat} (h : a = a') (h2 : b = b') (h3 : c = c') : [a, b, c] = [a', b', c'] := by rw [h, h2, h3]
theorem l4 {a b c d a' b' c' d' : Rat} (h : a = a') (h2 : b = b') (h3 : c = c') (h4 : d = d') : [a, b, c, d] = [a', b', c', d'] := by rw [h, h2, h3, h4]
theorem l5 {a b c d e a' b' c' d' e' : Rat} (h : a = a') (h2 : b = b') (h3 : c = c') (h4 : d = d') (h5 : e = e') : [a, b, c, d, e] = [a', b', c', d', e'] := by rw [h, h2, h3, h4, h5]
theorem div22 (a b c d : Rat) : divQ [a, b] [c, d] = (tidyQ [b / d], tidyQ [a - b / d * c, b - b / d * d]) := rfl
theorem div33 (a b c e f g : Rat) : divQ [a, b, c] [e, f, g] = (tidyQ [c / g], tidyQ [a - c / g * e, b - c / g * f, c - c / g * g]) := rfl
theorem div44 (a b c d e f g h : Rat) : divQ [a, b, c, d] [e, f, g, h] = (tidyQ [d / h], tidyQ [a - d / h * e, b - d / h * f, c - d / h * g, d - d / h * h]) := rfl
theorem div55 (a b c d x e f g h y : Rat) : divQ [a, b, c, d, x] [e, f, g, h, y] = (tidyQ [x / y], tidyQ [a - x / y * e, b - x / y * f, c - x / y * g, d - x / y * h, x - x / y * y]) := rfl
theorem div32 (a b c d e : Rat) : divQ [a, b, c] [d, e] = (tidyQ [(b - c / e * d) / e, c / e], tidyQ [a - (b - c / e * d) / e * d, b - c / e * d - (b - c / e * d) / e * e, c - c / e * e]) := rfl
theorem div43 (a b c d e f g : Rat) : divQ [a, b, c, d] [e, f, g] = (tidyQ [(c - d / g * f) / g, d / g], tidyQ [a - (c - d / g * f) / g * e, b - d / g * e - (c - d / g * f) / g * f, c - d / g * f - (c - d / g * f) / g * g, d - d / g * g]) := rfl
theorem div54 (a b c d x e f g h : Rat) : divQ [a, b, c, d, x] [e, f, g, h] = (tidyQ [(d - x / h * g) / h, x / h], tidyQ [a - (d - x / h * g) / h * e, b - x / h * e - (d - x / h * g) / h * f, c - x / h * f - (d - x / h * g) / h * g, d - x / h * g - (d - x / h * g) / h * h, x - x / h * h]) := rfl
theorem div53 (a b c d x e f g : Rat) : divQ [a, b, c, d, x] [e, f, g] = (tidyQ [(c - x / g * e - (d - x / g * f) / g * f) / g, (d - x / g * f) / g, x / g], tidyQ [a - (c - x / g * e - (d - x / g * f) / g * f) / g * e, b - (d - x / g * f) / g * e - (c - x / g * e - (d - x / g * f) / g * f) / g * f, c - x / g * e - (d - x / g * f) / g * f - (c - x / g * e - (d - x / g * f) / g * f) / g * g, d - x / g * f - (d - x / g * f) / g * g, x - x / g * g]) := rfl
theorem slo1 (a : Rat) : sgnLo [a] = sgn a := rfl
theorem slo2 (a b : Rat) : sgnLo [a, b] = -sgn b := by unfold sgnLo; rw [if_neg (by simp)]; rfl
theorem slo3 (a b c : Rat) : sgnLo [a, b, c] = sgn c := by unfold sgnLo; rw [if_pos (by simp)]; rfl
theorem slo4 (a b c d : Rat) : sgnLo [a, b, c, d] = -sgn d := by unfold sgnLo; rw [if_neg (by simp)]; rfl
theorem slo5 (a b c d e : Rat) : sgnLo [a, b, c, d, e] = sgn e := by unfold sgnLo; rw [if_pos (by simp)]; rfl
theorem shi1 (a : Rat) : sgnHi [a] = sgn a := rfl
theorem shi2 (a b : Rat) : sgnHi [a, b] = sgn b := rfl
theorem shi3 (a b c : Rat) : sgnHi [a, b, c] = sgn c := rfl
theorem shi4 (a b c d : Rat) : sgnHi [a, b, c, d] = sgn d := rfl
theorem shi5 (a b c d e : Rat) : sgnHi [a, b, c, d, e] = sgn e := rfl
theorem lft_of {xs both rest r0 ev od : List Rat} {j ax l : Int} (hx : HbL 8 xs) (hl : xs.length ≤ 25) (hne : xs ≠ []) (h0 : xs.getLastD 0 ≠ 0) (hc : denOf 2 F_common [eP xs, eP (turnedQ xs)] = .ok (eP both) false none)
    (hd : Dv xs both rest r0) (hp : denOf 6 F_axis_parts [eP rest] = .ok (.tup [eP ev, eP od]) false none) (hr : rest ≠ [])
    (hj : if (rest.length - 1) % 2 = 0 then denOf 3 F_jumps [eP od, eP ev] = .ok (.int j) false none else denOf 3 F_jumps [eP ev, eP od] = .ok (.int j) false none) (ha : denOf 4 F_axis_count [eP both] = .ok (.int ax) false none)
    (hlf : (((rest.length - 1 : Nat) : Int) + leadQ (rest.length - 1) j) / 2 + ((both.length : Int) - 1 - ax) / 2 = l) : Lft xs l := by
  obtain ⟨r, h⟩ := d_sides (hx.mono (by omega)) hl hne h0 (d_turned hx (by omega) (by omega)) hc hd hp hr hj ha
  rw [hlf] at h
  exact ⟨ax, r, h⟩
theorem all_ne {rows : List (List Rat)} (h : rows.all (fun r => !r.isEmpty) = true) : ∀ r ∈ rows, r ≠ [] := fun r hr e => by
  have := List.all_eq_true.mp h r hr
  rw [e] at this
  cases this
/-! scaled by -1 -/
theorem sc_neg {xs ys : List Rat} {m : Nat} (hx : HbL m xs) (hm : m ≤ 800) (hl : xs.length ≤ 100) (h : xs.map (fun b => -1 * b) = ys) (hy : ys = [] ∨ ys.getLastD 0 ≠ 0) : denOf 3 F_scaled [eP xs, eQ (-1)] = .ok (eP ys) false none := by
  have := d_scaled (a := -1) hx hbm1 (by omega) (by omega)
  rw [show scaledQ xs (-1) = ys by unfold scaledQ; rw [h, tidyQ_id hy]] at this
  exact this
/-! ### degree 1 -/
section
variable {a0 a1 a2 a3 a4 : Rat}
theorem hl1 {n : Nat} {a : Rat} (h : Hb n a) : HbL n [a] := hbl_cons h hbl_nil
theorem hl2 {n : Nat} {a b : Rat} (h : Hb n a) (h2 : Hb n b) : HbL n [a, b] := hbl_cons h (hl1 h2)
theorem hl3 {n : Nat} {a b c : Rat} (h : Hb n a) (h2 : Hb n b) (h3 : Hb n c) : HbL n [a, b, c] := hbl_cons h (hl2 h2 h3)
theorem hl4 {n : Nat} {a b c d : Rat} (h : Hb n a) (h2 : Hb n b) (h3 : Hb n c) (h4 : Hb n d) : HbL n [a, b, c, d] := hbl_cons h (hl3 h2 h3 h4)
theorem hl5 {n : Nat} {a b c d e : Rat} (h : Hb n a) (h2 : Hb n b) (h3 : Hb n c) (h4 : Hb n d) (h5 : Hb n e) : HbL n [a, b, c, d, e] := hbl_cons h (hl4 h2 h3 h4 h5)
theorem hbz {n : Nat} (h : 1 ≤ n) : Hb n 0 := hb0.mono h
theorem hb2 : Hb 2 2 := ⟨by decide, by decide⟩
/-- by a constant that is left last -/
theorem dv_c {xs q : List Rat} {c : Rat} {h : Nat} (h1 : 8 ≤ h) (hx : HbL h xs) (hc : Hb 8 c) (h0 : c ≠ 0) (hl : xs.length ≤ 2) (hg : 4 * h + 51 ≤ 900) (e : divQ xs [c] = (q, [])) : Dv xs [c] q [] :=
  dv_of (h := h) (h2 := 8) (by omega) (by omega) hx (hl1 hc) (by simp) h0 (by
    have : xs.length + 1 - [c].length = xs.length := by simp
    rw [this]
    match xs, hl with
    | [], _ => show h ≤ 900; omega
    | [_], _ => show 2 * h + 2 * 8 + 1 ≤ 900; omega
    | [_, _], _ => show 2 * (2 * h + 2 * 8 + 1) + 2 * 8 + 1 ≤ 900; omega) (by omega) (by simp) e
theorem dv_one {xs : List Rat} (hx : HbL 8 xs) (hl : xs.length ≤ 5) (h0 : xs.getLastD 0 ≠ 0) : Dv xs [1] xs [] :=
  dv_of (h := 8) (h2 := 1) (by omega) (by omega) hx (hl1 hb1) (by simp) (by decide) (by
    have : xs.length + 1 - [(1 : Rat)].length = xs.length := by simp
    rw [this]
    match xs, hl with
    | [], _ => exact (show gro 1 0 8 ≤ 900 by decide)
    | [_], _ => exact (show gro 1 1 8 ≤ 900 by decide)
    | [_, _], _ => exact (show gro 1 2 8 ≤ 900 by decide)
    | [_, _, _], _ => exact (show gro 1 3 8 ≤ 900 by decide)
    | [_, _, _, _], _ => exact (show gro 1 4 8 ≤ 900 by decide)
    | [_, _, _, _, _], _ => exact (show gro 1 5 8 ≤ 900 by decide)) (by omega) (by simp) (div_one hl (.inr h0))
theorem odd2 (h1 : a1 ≠ 0) : oddQ [a0, a1] = [0, a1] := by
  show tidyQ [patO 0 * a0, patO 1 * a1] = _
  exact tidy_to 0 (l2 (by show 0 * a0 = 0; grind) (by show 1 * a1 = a1; grind)) (.inr h1)
theorem even2 (h0 : a0 ≠ 0) : evenQ [a0, a1] = [a0] := by
  show tidyQ [patE 0 * a0, patE 1 * a1] = _
  exact tidy_to 1 (l2 (by show 1 * a0 = a0; grind) (by show 0 * a1 = 0; grind)) (.inr h0)
/-- the jumps of a polynomial of degree 1 -/
theorem jumps2 (h0 : 0 < a0) (h1 : 0 < a1) (b0 : Hb 8 a0) (b1 : Hb 8 a1) : denOf 3 F_jumps [eP [a0], eP [0, a1]] = .ok (.int 1) false none := by
  have ch : Chn [0, a1] [a0] [[a0]] := by
    refine .step (by simp) (dv_c (h := 8) (by omega) (hl2 (hbz (by omega)) b1) b0 (by grind) (by simp) (by omega) (div2_1 (by grind))) (sc_nil hbm1 (by omega)) (.nil _)
  have := d_jumps ch (by simp) (all_ne rfl)
  have e1 : [[0, a1], [a0]].map sgnLo = [-1, 1] := by
    rw [List.map_cons, List.map_cons, slo2, slo1, sgn_pos h1, sgn_pos h0]
    rfl
  have e2 : [[0, a1], [a0]].map sgnHi = [1, 1] := by
    rw [List.map_cons, List.map_cons, shi2, shi1, sgn_pos h1, sgn_pos h0]
    rfl
  rw [e1, e2] at this
  exact this
theorem sides2 (h0 : 0 < a0) (h1 : 0 < a1) (b0 : Hb 8 a0) (b1 : Hb 8 a1) : Lft [a0, a1] 1 := by
  have hx : HbL 8 [a0, a1] := hl2 b0 b1
  have et : turnedQ [a0, a1] = [a0, -a1] := by
    show tidyQ [a0, 0 - a1] = _
    exact tidy_to 0 (l2 rfl (by grind)) (.inr (by show -a1 ≠ 0; grind))
  have d1 : Dv [a0, a1] [a0, -a1] [-1] [2 * a0] := dv_of (h := 8) (h2 := 8) (by omega) (by omega) hx (hl2 b0 b1.neg) (by simp) (by show -a1 ≠ 0; grind) (show gro 8 1 8 ≤ 900 by decide) (by simp) (by simp) (by
    rw [div22]
    exact Prod.ext (tidy_to 0 (l1 (by grind)) (.inr (by show (-1 : Rat) ≠ 0; decide))) (tidy_to 1 (l2 (by grind) (by grind)) (.inr (by show 2 * a0 ≠ 0; grind))))
  have b2 : Hb 10 (2 * a0) := (hb2.mul b0)
  have d2 : Dv [a0, -a1] [2 * a0] (tidyQ [a0 / (2 * a0), -a1 / (2 * a0)]) [] := dv_of (h := 8) (h2 := 10) (by omega) (by omega) (hl2 b0 b1.neg) (hl1 b2) (by simp) (by show 2 * a0 ≠ 0; grind) (show gro 10 2 8 ≤ 900 by decide) (by simp) (by simp) (div2_1 (by grind))
  have cm := d_common (.step (by simp) d1 (.step (by simp) d2 (.nil _))) (by omega) (m := 10) (by omega) (hl1 b2) (by omega) (by simp) (.inr (by show 2 * a0 ≠ 0; grind))
  rw [monic_c (by grind), ← et] at cm
  have ap := d_axis_parts hx (by omega) (by simp)
  rw [odd2 (by grind), even2 (by grind)] at ap
  exact lft_of hx (by simp) (by simp) (by show a1 ≠ 0; grind) cm (dv_one hx (by simp) (by show a1 ≠ 0; grind)) ap (by simp) (j := 1) (by rw [if_neg (by simp)]; exact jumps2 h0 h1 b0 b1) d_axis1 (show ((1 : Nat) + leadQ 1 1) / 2 + ((1 : Int) - 1 - 0) / 2 = 1 by decide)
end
end PF
end

section
set_option Elab.async false
set_option linter.all false
set_option maxRecDepth 100000
set_option maxHeartbeats 4000000
set_option autoImplicit false
set_option exponentiation.threshold 2000
/-! MP9: sides of degree 2 and 3. -/
namespace PF
open PySem PySem.Spec PyProof.Rows L2 HF
theorem tu3 (a0 a1 a2 : Rat) : turnedQ [a0, a1, a2] = tidyQ [a0, 0 - a1, a2] := by
  unfold turnedQ
  simp only [List.zipIdx_cons, List.zipIdx_nil, List.map_cons, List.map_nil, Nat.zero_add, Nat.reduceAdd, Nat.reduceMod, if_true, Nat.one_ne_zero, if_false]
theorem tu4 (a0 a1 a2 a3 : Rat) : turnedQ [a0, a1, a2, a3] = tidyQ [a0, 0 - a1, a2, 0 - a3] := by
  unfold turnedQ
  simp only [List.zipIdx_cons, List.zipIdx_nil, List.map_cons, List.map_nil, Nat.zero_add, Nat.reduceAdd, Nat.reduceMod, if_true, Nat.one_ne_zero, if_false]
theorem tu5 (a0 a1 a2 a3 a4 : Rat) : turnedQ [a0, a1, a2, a3, a4] = tidyQ [a0, 0 - a1, a2, 0 - a3, a4] := by
  unfold turnedQ
  simp only [List.zipIdx_cons, List.zipIdx_nil, List.map_cons, List.map_nil, Nat.zero_add, Nat.reduceAdd, Nat.reduceMod, if_true, Nat.one_ne_zero, if_false]
section
variable {a0 a1 a2 a3 a4 : Rat}
theorem even3 (h2 : a2 ≠ 0) : evenQ [a0, a1, a2] = [a0, 0, -a2] := by
  show tidyQ [patE 0 * a0, patE 1 * a1, patE 2 * a2] = _
  exact tidy_to 0 (l3 (by show 1 * a0 = a0; grind) (by show 0 * a1 = 0; grind) (by show -1 * a2 = -a2; grind)) (.inr (by show -a2 ≠ 0; grind))
theorem odd3 (h1 : a1 ≠ 0) : oddQ [a0, a1, a2] = [0, a1] := by
  show tidyQ [patO 0 * a0, patO 1 * a1, patO 2 * a2] = _
  exact tidy_to 1 (l3 (by show 0 * a0 = 0; grind) (by show 1 * a1 = a1; grind) (by show 0 * a2 = 0; grind)) (.inr h1)
theorem jumps3 (h0 : a0 ≠ 0) (h1 : 0 < a1) (h2 : 0 < a2) (b0 : Hb 40 a0) (b1 : Hb 8 a1) (b2 : Hb 8 a2) : denOf 3 F_jumps [eP [0, a1], eP [a0, 0, -a2]] = .ok (.int (if 0 < a0 then -2 else 0)) false none := by
  obtain ⟨q1, d1⟩ : ∃ q, Dv [a0, 0, -a2] [0, a1] q [a0] := ⟨_, dv_of (h := 40) (h2 := 8) (by omega) (by omega) (hl3 b0 (hbz (by omega)) (b2.neg.mono (by omega))) (hl2 (hbz (by omega)) b1) (by simp) (by show a1 ≠ 0; grind) (show gro 8 2 40 ≤ 900 by decide) (by simp) (by simp) (by
    rw [div32]
    exact Prod.ext rfl (tidy_to 2 (l3 (by grind) (by grind) (by grind)) (.inr h0)))⟩
  have d2 : Dv [0, a1] [-a0] _ [] := dv_of (h := 8) (h2 := 40) (by omega) (by omega) (hl2 (hbz (by omega)) b1) (hl1 b0.neg) (by simp) (by show -a0 ≠ 0; grind) (show gro 40 2 8 ≤ 900 by decide) (by simp) (by simp) (div2_1 (by grind))
  have ch : Chn [a0, 0, -a2] [0, a1] [[0, a1], [-a0]] := .step (by simp) d1 (sc_neg (m := 40) (hl1 b0) (by omega) (by simp) (ys := [-a0]) (l1 (by grind)) (.inr (by show -a0 ≠ 0; grind))) (.step (by simp) d2 (sc_nil hbm1 (by omega)) (.nil _))
  have := d_jumps ch (by simp) (all_ne rfl)
  have e1 : [[a0, 0, -a2], [0, a1], [-a0]].map sgnLo = [-1, -1, sgn (-a0)] := by
    rw [List.map_cons, List.map_cons, List.map_cons, slo3, slo2, slo1, sgn_pos h1, sgn_neg (q := -a2) (by grind)]
    rfl
  have e2 : [[a0, 0, -a2], [0, a1], [-a0]].map sgnHi = [-1, 1, sgn (-a0)] := by
    rw [List.map_cons, List.map_cons, List.map_cons, shi3, shi2, shi1, sgn_pos h1, sgn_neg (q := -a2) (by grind)]
    rfl
  rw [e1, e2] at this
  rw [this]
  by_cases h : 0 < a0
  · rw [if_pos h, sgn_neg (q := -a0) (by grind)]; rfl
  · rw [if_neg h, sgn_pos (q := -a0) (by grind)]; rfl
theorem sides3 (h0 : 0 < a0) (h1 : 0 < a1) (h2 : 0 < a2) (b0 : Hb 8 a0) (b1 : Hb 8 a1) (b2 : Hb 8 a2) : Lft [a0, a1, a2] 2 := by
  have hx : HbL 8 [a0, a1, a2] := hl3 b0 b1 b2
  have et : turnedQ [a0, a1, a2] = [a0, -a1, a2] := by
    rw [tu3]
    exact tidy_to 0 (l3 rfl (by grind) rfl) (.inr (by show a2 ≠ 0; grind))
  have ht : HbL 8 [a0, -a1, a2] := hl3 b0 b1.neg b2
  have c1 : Hb 10 (2 * a1) := hb2.mul b1
  obtain ⟨q1, d1⟩ : ∃ q, Dv [a0, a1, a2] [a0, -a1, a2] q [0, 2 * a1] := ⟨_, dv_of (h := 8) (h2 := 8) (by omega) (by omega) hx ht (by simp) (by show a2 ≠ 0; grind) (show gro 8 1 8 ≤ 900 by decide) (by simp) (by simp) (by
    rw [div33]
    exact Prod.ext rfl (tidy_to 1 (l3 (by grind) (by grind) (by grind)) (.inr (by show 2 * a1 ≠ 0; grind))))⟩
  obtain ⟨q2, d2⟩ : ∃ q, Dv [a0, -a1, a2] [0, 2 * a1] q [a0] := ⟨_, dv_of (h := 8) (h2 := 10) (by omega) (by omega) ht (hl2 (hbz (by omega)) c1) (by simp) (by show 2 * a1 ≠ 0; grind) (show gro 10 2 8 ≤ 900 by decide) (by simp) (by simp) (by
    rw [div32]
    exact Prod.ext rfl (tidy_to 2 (l3 (by grind) (by grind) (by grind)) (.inr (by show a0 ≠ 0; grind))))⟩
  have d3 : Dv [0, 2 * a1] [a0] _ [] := dv_c (h := 10) (by omega) (hl2 (hbz (by omega)) c1) b0 (by grind) (by simp) (by omega) (div2_1 (by grind))
  have cm := d_common (.step (by simp) d1 (.step (by simp) d2 (.step (by simp) d3 (.nil _)))) (by omega) (m := 8) (by omega) (hl1 b0) (by omega) (by simp) (.inr (by show a0 ≠ 0; grind))
  rw [monic_c (by grind), ← et] at cm
  have ap := d_axis_parts hx (by omega) (by simp)
  rw [odd3 (by grind), even3 (by grind)] at ap
  exact lft_of hx (by simp) (by simp) (by show a2 ≠ 0; grind) cm (dv_one hx (by simp) (by show a2 ≠ 0; grind)) ap (by simp) (j := -2) (by rw [if_pos (by simp)]; have := jumps3 (by grind) h1 h2 (b0.mono (by omega)) b1 b2; rwa [if_pos h0] at this) d_axis1 (show ((2 : Nat) + leadQ 2 (-2)) / 2 + ((1 : Int) - 1 - 0) / 2 = 2 by decide)
/-! ### degree 3 -/
theorem even4 (h2 : a2 ≠ 0) : evenQ [a0, a1, a2, a3] = [a0, 0, -a2] := by
  show tidyQ [patE 0 * a0, patE 1 * a1, patE 2 * a2, patE 3 * a3] = _
  exact tidy_to 1 (l4 (by show 1 * a0 = a0; grind) (by show 0 * a1 = 0; grind) (by show -1 * a2 = -a2; grind) (by show 0 * a3 = 0; grind)) (.inr (by show -a2 ≠ 0; grind))
theorem odd4 (h3 : a3 ≠ 0) : oddQ [a0, a1, a2, a3] = [0, a1, 0, -a3] := by
  show tidyQ [patO 0 * a0, patO 1 * a1, patO 2 * a2, patO 3 * a3] = _
  exact tidy_to 0 (l4 (by show 0 * a0 = 0; grind) (by show 1 * a1 = a1; grind) (by show 0 * a2 = 0; grind) (by show -1 * a3 = -a3; grind)) (.inr (by show -a3 ≠ 0; grind))
theorem sgn_cases (q : Rat) (h : q ≠ 0) : sgn q = if 0 < q then 1 else -1 := by unfold sgn; rw [if_neg h]
theorem jumps4 {e : Rat} (h0 : 0 < a0) (h1 : 0 < a1) (h2 : 0 < a2) (h3 : 0 < a3) (b0 : Hb 8 a0) (b1 : Hb 8 a1) (b2 : Hb 8 a2) (b3 : Hb 8 a3) (he : e = a3 * a0 / a2 - a1) (be : Hb 33 e) (e0 : e ≠ 0) : denOf 3 F_jumps [eP [a0, 0, -a2], eP [0, a1, 0, -a3]] = .ok (.int (if 0 < e then -1 else 3)) false none := by
  have hev : HbL 8 [a0, 0, -a2] := hl3 b0 (hbz (by omega)) b2.neg
  have hod : HbL 8 [0, a1, 0, -a3] := hl4 (hbz (by omega)) b1 (hbz (by omega)) b3.neg
  obtain ⟨q1, d1⟩ : ∃ q, Dv [0, a1, 0, -a3] [a0, 0, -a2] q [0, -e] := ⟨_, dv_of (h := 8) (h2 := 8) (by omega) (by omega) hod hev (by simp) (by show -a2 ≠ 0; grind) (show gro 8 2 8 ≤ 900 by decide) (by simp) (by simp) (by
    rw [div43]
    exact Prod.ext rfl (tidy_to 2 (l4 (by grind) (by grind) (by grind) (by grind)) (.inr (by show -e ≠ 0; grind))))⟩
  obtain ⟨q2, d2⟩ : ∃ q, Dv [a0, 0, -a2] [0, e] q [a0] := ⟨_, dv_of (h := 8) (h2 := 33) (by omega) (by omega) hev (hl2 (hbz (by omega)) be) (by simp) e0 (show gro 33 2 8 ≤ 900 by decide) (by simp) (by simp) (by
    rw [div32]
    exact Prod.ext rfl (tidy_to 2 (l3 (by grind) (by grind) (by grind)) (.inr (by show a0 ≠ 0; grind))))⟩
  have d3 : Dv [0, e] [-a0] _ [] := dv_c (h := 33) (by omega) (hl2 (hbz (by omega)) be) b0.neg (by grind) (by simp) (by omega) (div2_1 (by grind))
  have ch : Chn [0, a1, 0, -a3] [a0, 0, -a2] [[a0, 0, -a2], [0, e], [-a0]] := .step (by simp) d1 (sc_neg (m := 33) (hl2 (hbz (by omega)) be.neg) (by omega) (by simp) (ys := [0, e]) (l2 (by grind) (by grind)) (.inr e0)) (.step (by simp) d2 (sc_neg (m := 8) (hl1 b0) (by omega) (by simp) (ys := [-a0]) (l1 (by grind)) (.inr (by show -a0 ≠ 0; grind))) (.step (by simp) d3 (sc_nil hbm1 (by omega)) (.nil _)))
  have := d_jumps ch (by simp) (all_ne rfl)
  have e1 : [[0, a1, 0, -a3], [a0, 0, -a2], [0, e], [-a0]].map sgnLo = [1, -1, -(sgn e), -1] := by
    rw [List.map_cons, List.map_cons, List.map_cons, List.map_cons, slo4, slo3, slo2, slo1, sgn_neg (q := -a3) (by grind), sgn_neg (q := -a2) (by grind), sgn_neg (q := -a0) (by grind)]
    rfl
  have e2 : [[0, a1, 0, -a3], [a0, 0, -a2], [0, e], [-a0]].map sgnHi = [-1, -1, sgn e, -1] := by
    rw [List.map_cons, List.map_cons, List.map_cons, List.map_cons, shi4, shi3, shi2, shi1, sgn_neg (q := -a3) (by grind), sgn_neg (q := -a2) (by grind), sgn_neg (q := -a0) (by grind)]
    rfl
  rw [e1, e2, sgn_cases e e0] at this
  rw [this]
  by_cases h : 0 < e
  · rw [if_pos h, if_pos h]; rfl
  · rw [if_neg h, if_neg h]; rfl
theorem sides4 (h0 : 0 < a0) (h1 : 0 < a1) (h2 : 0 < a2) (h3 : 0 < a3) (b0 : Hb 8 a0) (b1 : Hb 8 a1) (b2 : Hb 8 a2) (b3 : Hb 8 a3) : Lft [a0, a1, a2, a3] (if a3 * a0 / a2 - a1 < 0 then 3 else 1) := by
  have hx : HbL 8 [a0, a1, a2, a3] := hl4 b0 b1 b2 b3
  generalize he : a3 * a0 / a2 - a1 = e
  have be : Hb 33 e := by rw [← he]; exact (((b3.mul b0).div b2 (by grind)).sub b1).mono (by omega)
  have et : turnedQ [a0, a1, a2, a3] = [a0, -a1, a2, -a3] := by
    rw [tu4]
    exact tidy_to 0 (l4 rfl (by grind) rfl (by grind)) (.inr (by show -a3 ≠ 0; grind))
  have ht : HbL 8 [a0, -a1, a2, -a3] := hl4 b0 b1.neg b2 b3.neg
  have c0 : Hb 10 (2 * a0) := hb2.mul b0
  have c2 : Hb 10 (2 * a2) := hb2.mul b2
  have hr : HbL 10 [2 * a0, 0, 2 * a2] := hl3 c0 (hbz (by omega)) c2
  obtain ⟨q1, d1⟩ : ∃ q, Dv [a0, a1, a2, a3] [a0, -a1, a2, -a3] q [2 * a0, 0, 2 * a2] := ⟨_, dv_of (h := 8) (h2 := 8) (by omega) (by omega) hx ht (by simp) (by show -a3 ≠ 0; grind) (show gro 8 1 8 ≤ 900 by decide) (by simp) (by simp) (by
    rw [div44]
    exact Prod.ext rfl (tidy_to 1 (l4 (by grind) (by grind) (by grind) (by grind)) (.inr (by show 2 * a2 ≠ 0; grind))))⟩
  by_cases e0 : e = 0
  · -- a common part of degree 2
    rw [if_neg (by grind)]
    obtain ⟨q2, d2⟩ : ∃ q, Dv [a0, -a1, a2, -a3] [2 * a0, 0, 2 * a2] q [] := ⟨_, dv_of (h := 8) (h2 := 10) (by omega) (by omega) ht hr (by simp) (by show 2 * a2 ≠ 0; grind) (show gro 10 2 8 ≤ 900 by decide) (by simp) (by simp) (by
      rw [div43]
      exact Prod.ext rfl (tidy_to 4 (l4 (by grind) (by grind) (by grind) (by grind)) (.inl rfl)))⟩
    have cm := d_common (.step (by simp) d1 (.step (by simp) d2 (.nil _))) (by omega) (m := 10) (by omega) hr (by omega) (by simp) (.inr (by show 2 * a2 ≠ 0; grind))
    have em : monicQ [2 * a0, 0, 2 * a2] = [a0 / a2, 0, 1] := by
      show tidyQ [1 / (2 * a2) * (2 * a0), 1 / (2 * a2) * 0, 1 / (2 * a2) * (2 * a2)] = _
      exact tidy_to 0 (l3 (by grind) (by grind) (by grind)) (.inr (by show (1 : Rat) ≠ 0; decide))
    rw [em, ← et] at cm
    have bs : Hb 16 (a0 / a2) := b0.div b2 (by grind)
    have ps : 0 < a0 / a2 := by rw [Rat.div_def]; exact Rat.mul_pos h0 (Rat.inv_pos.mpr h2)
    obtain ⟨r, d3⟩ : ∃ r, Dv [a0, a1, a2, a3] [a0 / a2, 0, 1] [a2, a3] r := ⟨_, dv_of (h := 8) (h2 := 16) (by omega) (by omega) hx (hl3 bs (hbz (by omega)) (hb1.mono (by omega))) (by simp) (by show (1 : Rat) ≠ 0; decide) (show gro 16 2 8 ≤ 900 by decide) (by simp) (by simp) (by
      rw [div43]
      exact Prod.ext (tidy_to 0 (l2 (by grind) (by grind)) (.inr (by show a3 ≠ 0; grind))) rfl)⟩
    have ap := d_axis_parts (xs := [a2, a3]) (hl2 b2 b3) (by omega) (by simp)
    rw [odd2 (by grind), even2 (by grind)] at ap
    have ax := d_axis3 (m := 16) (by omega) bs (by omega) (by grind)
    rw [if_pos ps] at ax
    exact lft_of hx (by simp) (by simp) (by show a3 ≠ 0; grind) cm d3 ap (by simp) (j := 1) (by rw [if_neg (by simp)]; exact jumps2 h2 h3 b2 b3) ax (show ((1 : Nat) + leadQ 1 1) / 2 + ((3 : Int) - 1 - 2 * 1) / 2 = 1 by decide)
  · obtain ⟨q2, d2⟩ : ∃ q, Dv [a0, -a1, a2, -a3] [2 * a0, 0, 2 * a2] q [0, e] := ⟨_, dv_of (h := 8) (h2 := 10) (by omega) (by omega) ht hr (by simp) (by show 2 * a2 ≠ 0; grind) (show gro 10 2 8 ≤ 900 by decide) (by simp) (by simp) (by
      rw [div43]
      exact Prod.ext rfl (tidy_to 2 (l4 (by grind) (by grind) (by grind) (by grind)) (.inr e0)))⟩
    obtain ⟨q3, d3⟩ : ∃ q, Dv [2 * a0, 0, 2 * a2] [0, e] q [2 * a0] := ⟨_, dv_of (h := 10) (h2 := 33) (by omega) (by omega) hr (hl2 (hbz (by omega)) be) (by simp) e0 (show gro 33 2 10 ≤ 900 by decide) (by simp) (by simp) (by
      rw [div32]
      exact Prod.ext rfl (tidy_to 2 (l3 (by grind) (by grind) (by grind)) (.inr (by show 2 * a0 ≠ 0; grind))))⟩
    have d4 : Dv [0, e] [2 * a0] _ [] := dv_of (h := 33) (h2 := 10) (by omega) (by omega) (hl2 (hbz (by omega)) be) (hl1 c0) (by simp) (by show 2 * a0 ≠ 0; grind) (show gro 10 2 33 ≤ 900 by decide) (by simp) (by simp) (div2_1 (by grind))
    have cm := d_common (.step (by simp) d1 (.step (by simp) d2 (.step (by simp) d3 (.step (by simp) d4 (.nil _))))) (by omega) (m := 10) (by omega) (hl1 c0) (by omega) (by simp) (.inr (by show 2 * a0 ≠ 0; grind))
    rw [monic_c (by grind), ← et] at cm
    have ap := d_axis_parts hx (by omega) (by simp)
    rw [odd4 (by grind), even4 (by grind)] at ap
    have jm := jumps4 h0 h1 h2 h3 b0 b1 b2 b3 he.symm be e0
    by_cases hn : e < 0
    · rw [if_pos hn]
      rw [if_neg (by grind)] at jm
      exact lft_of hx (by simp) (by simp) (by show a3 ≠ 0; grind) cm (dv_one hx (by simp) (by show a3 ≠ 0; grind)) ap (by simp) (j := 3) (by rw [if_neg (by simp)]; exact jm) d_axis1 (show ((3 : Nat) + leadQ 3 3) / 2 + ((1 : Int) - 1 - 0) / 2 = 3 by decide)
    · rw [if_neg hn]
      rw [if_pos (by grind)] at jm
      exact lft_of hx (by simp) (by simp) (by show a3 ≠ 0; grind) cm (dv_one hx (by simp) (by show a3 ≠ 0; grind)) ap (by simp) (j := -1) (by rw [if_neg (by simp)]; exact jm) d_axis1 (show ((3 : Nat) + leadQ 3 (-1)) / 2 + ((1 : Int) - 1 - 0) / 2 = 1 by decide)
end
end PF
end

section
set_option Elab.async false
set_option linter.all false
set_option maxRecDepth 100000
set_option maxHeartbeats 4000000
set_option autoImplicit false
set_option exponentiation.threshold 2000
/-! MP10: sides of degree 4. -/
namespace PF
open PySem PySem.Spec PyProof.Rows L2 HF
section
variable {a0 a1 a2 a3 a4 : Rat}
theorem even5 (h4 : a4 ≠ 0) : evenQ [a0, a1, a2, a3, a4] = [a0, 0, -a2, 0, a4] := by
  unfold evenQ
  rw [show [a0, a1, a2, a3, a4].length = 5 from rfl, show List.range 5 = [0, 1, 2, 3, 4] by decide]
  exact tidy_to 0 (l5 (by show 1 * a0 = a0; grind) (by show 0 * a1 = 0; grind) (by show -1 * a2 = -a2; grind) (by show 0 * a3 = 0; grind) (by show 1 * a4 = a4; grind)) (.inr h4)
theorem odd5 (h3 : a3 ≠ 0) : oddQ [a0, a1, a2, a3, a4] = [0, a1, 0, -a3] := by
  unfold oddQ
  rw [show [a0, a1, a2, a3, a4].length = 5 from rfl, show List.range 5 = [0, 1, 2, 3, 4] by decide]
  exact tidy_to 1 (l5 (by show 0 * a0 = 0; grind) (by show 1 * a1 = a1; grind) (by show 0 * a2 = 0; grind) (by show -1 * a3 = -a3; grind) (by show 0 * a4 = 0; grind)) (.inr (by show -a3 ≠ 0; grind))
theorem even_odd {b : Rat} (h3 : 0 < a3) (b0 : Hb 8 a0) (b1 : Hb 8 a1) (b2 : Hb 8 a2) (b3 : Hb 8 a3) (b4 : Hb 8 a4) (hb : b = a2 - a4 * a1 / a3) {r : List Rat} (k : Nat) (hr : [a0, 0, -b, 0, 0] = r ++ List.replicate k 0) (hy : r = [] ∨ r.getLastD 0 ≠ 0) : ∃ q, Dv [a0, 0, -a2, 0, a4] [0, a1, 0, -a3] q r :=
  ⟨_, dv_of (h := 8) (h2 := 8) (by omega) (by omega) (hl5 b0 (hbz (by omega)) b2.neg (hbz (by omega)) b4) (hl4 (hbz (by omega)) b1 (hbz (by omega)) b3.neg) (by simp) (by show -a3 ≠ 0; grind) (show gro 8 2 8 ≤ 900 by decide) (by simp) (by simp) (by
    rw [div54]
    refine Prod.ext rfl (tidy_to k ?_ hy)
    rw [← hr]
    exact l5 (by grind) (by grind) (by grind) (by grind) (by grind))⟩
/-- b = 0 -/
theorem jumps5_0 (h0 : 0 < a0) (h1 : 0 < a1) (h3 : 0 < a3) (h4 : 0 < a4) (b0 : Hb 8 a0) (b1 : Hb 8 a1) (b2 : Hb 8 a2) (b3 : Hb 8 a3) (b4 : Hb 8 a4) (hb : 0 = a2 - a4 * a1 / a3) : denOf 3 F_jumps [eP [0, a1, 0, -a3], eP [a0, 0, -a2, 0, a4]] = .ok (.int 0) false none := by
  obtain ⟨q1, d1⟩ := even_odd (r := [a0]) h3 b0 b1 b2 b3 b4 hb 4 (l5 rfl rfl (by grind) rfl rfl) (.inr (by show a0 ≠ 0; grind))
  have d2 : Dv [0, a1, 0, -a3] [-a0] _ [] := dv_of (h := 8) (h2 := 8) (by omega) (by omega) (hl4 (hbz (by omega)) b1 (hbz (by omega)) b3.neg) (hl1 b0.neg) (by simp) (by show -a0 ≠ 0; grind) (show gro 8 4 8 ≤ 900 by decide) (by simp) (by simp) (div4_1 (by grind))
  have ch : Chn [a0, 0, -a2, 0, a4] [0, a1, 0, -a3] [[0, a1, 0, -a3], [-a0]] := .step (by simp) d1 (sc_neg (m := 8) (hl1 b0) (by omega) (by simp) (ys := [-a0]) (l1 (by grind)) (.inr (by show -a0 ≠ 0; grind))) (.step (by simp) d2 (sc_nil hbm1 (by omega)) (.nil _))
  have := d_jumps ch (by simp) (all_ne rfl)
  have e1 : [[a0, 0, -a2, 0, a4], [0, a1, 0, -a3], [-a0]].map sgnLo = [1, 1, -1] := by
    rw [List.map_cons, List.map_cons, List.map_cons, slo5, slo4, slo1, sgn_pos h4, sgn_neg (q := -a3) (by grind), sgn_neg (q := -a0) (by grind)]
    rfl
  have e2 : [[a0, 0, -a2, 0, a4], [0, a1, 0, -a3], [-a0]].map sgnHi = [1, -1, -1] := by
    rw [List.map_cons, List.map_cons, List.map_cons, shi5, shi4, shi1, sgn_pos h4, sgn_neg (q := -a3) (by grind), sgn_neg (q := -a0) (by grind)]
    rfl
  rw [e1, e2] at this
  exact this
theorem jumps5 {b c : Rat} (h0 : 0 < a0) (h1 : 0 < a1) (h3 : 0 < a3) (h4 : 0 < a4) (b0 : Hb 8 a0) (b1 : Hb 8 a1) (b2 : Hb 8 a2) (b3 : Hb 8 a3) (b4 : Hb 8 a4) (hb : b = a2 - a4 * a1 / a3) (hc : c = a1 - a3 * a0 / b) (bb : Hb 33 b) (bc : Hb 58 c) (nb : b ≠ 0) (nc : c ≠ 0) :
    denOf 3 F_jumps [eP [0, a1, 0, -a3], eP [a0, 0, -a2, 0, a4]] = .ok (.int (if 0 < b ∧ 0 < c then -4 else 0)) false none := by
  obtain ⟨q1, d1⟩ := even_odd (r := [a0, 0, -b]) h3 b0 b1 b2 b3 b4 hb 2 (l5 rfl rfl rfl rfl rfl) (.inr (by show -b ≠ 0; grind))
  have hr : HbL 33 [-a0, 0, b] := hl3 (b0.neg.mono (by omega)) (hbz (by omega)) bb
  obtain ⟨q2, d2⟩ : ∃ q, Dv [0, a1, 0, -a3] [-a0, 0, b] q [0, c] := ⟨_, dv_of (h := 8) (h2 := 33) (by omega) (by omega) (hl4 (hbz (by omega)) b1 (hbz (by omega)) b3.neg) hr (by simp) nb (show gro 33 2 8 ≤ 900 by decide) (by simp) (by simp) (by
    rw [div43]
    exact Prod.ext rfl (tidy_to 2 (l4 (by grind) (by grind) (by grind) (by grind)) (.inr nc)))⟩
  obtain ⟨q3, d3⟩ : ∃ q, Dv [-a0, 0, b] [0, -c] q [-a0] := ⟨_, dv_of (h := 33) (h2 := 58) (by omega) (by omega) hr (hl2 (hbz (by omega)) bc.neg) (by simp) (by show -c ≠ 0; grind) (show gro 58 2 33 ≤ 900 by decide) (by simp) (by simp) (by
    rw [div32]
    exact Prod.ext rfl (tidy_to 2 (l3 (by grind) (by grind) (by grind)) (.inr (by show -a0 ≠ 0; grind))))⟩
  have d4 : Dv [0, -c] [a0] _ [] := dv_of (h := 58) (h2 := 8) (by omega) (by omega) (hl2 (hbz (by omega)) bc.neg) (hl1 b0) (by simp) (by show a0 ≠ 0; grind) (show gro 8 2 58 ≤ 900 by decide) (by simp) (by simp) (div2_1 (by grind))
  have ch : Chn [a0, 0, -a2, 0, a4] [0, a1, 0, -a3] [[0, a1, 0, -a3], [-a0, 0, b], [0, -c], [a0]] :=
    .step (by simp) d1 (sc_neg (m := 33) (hl3 (b0.mono (by omega)) (hbz (by omega)) bb.neg) (by omega) (by simp) (ys := [-a0, 0, b]) (l3 (by grind) (by grind) (by grind)) (.inr nb))
    (.step (by simp) d2 (sc_neg (m := 58) (hl2 (hbz (by omega)) bc) (by omega) (by simp) (ys := [0, -c]) (l2 (by grind) (by grind)) (.inr (by show -c ≠ 0; grind)))
    (.step (by simp) d3 (sc_neg (m := 8) (hl1 b0.neg) (by omega) (by simp) (ys := [a0]) (l1 (by grind)) (.inr (by show a0 ≠ 0; grind)))
    (.step (by simp) d4 (sc_nil hbm1 (by omega)) (.nil _))))
  have := d_jumps ch (by simp) (all_ne rfl)
  have e1 : [[a0, 0, -a2, 0, a4], [0, a1, 0, -a3], [-a0, 0, b], [0, -c], [a0]].map sgnLo = [1, 1, sgn b, -(sgn (-c)), 1] := by
    rw [List.map_cons, List.map_cons, List.map_cons, List.map_cons, List.map_cons, slo5, slo4, slo3, slo2, slo1, sgn_pos h4, sgn_neg (q := -a3) (by grind), sgn_pos h0]
    rfl
  have e2 : [[a0, 0, -a2, 0, a4], [0, a1, 0, -a3], [-a0, 0, b], [0, -c], [a0]].map sgnHi = [1, -1, sgn b, sgn (-c), 1] := by
    rw [List.map_cons, List.map_cons, List.map_cons, List.map_cons, List.map_cons, shi5, shi4, shi3, shi2, shi1, sgn_pos h4, sgn_neg (q := -a3) (by grind), sgn_pos h0]
    rfl
  rw [e1, e2] at this
  rw [this]
  by_cases pb : 0 < b
  · by_cases pc : 0 < c
    · rw [if_pos ⟨pb, pc⟩, sgn_pos pb, sgn_neg (q := -c) (by grind)]; rfl
    · rw [if_neg (fun h => pc h.2), sgn_pos pb, sgn_pos (q := -c) (by grind)]; rfl
  · have nb' : b < 0 := by grind
    have pc : 0 < c := by
      have h5 : 0 < a3 * a0 := Rat.mul_pos h3 h0
      have h6 : a3 * a0 / b < 0 := by
        rw [Rat.div_def]
        have h7 : 0 < -(b⁻¹) := by
          have := Rat.inv_pos.mpr (show 0 < -b by grind)
          have e : (-b)⁻¹ = -(b⁻¹) := by grind
          rwa [e] at this
        have := Rat.mul_pos h5 h7
        grind
      grind
    rw [if_neg (fun h => pb h.1), sgn_neg nb', sgn_neg (q := -c) (by grind)]; rfl
theorem sides5 (h0 : 0 < a0) (h1 : 0 < a1) (h2 : 0 < a2) (h3 : 0 < a3) (h4 : 0 < a4) (b0 : Hb 8 a0) (b1 : Hb 8 a1) (b2 : Hb 8 a2) (b3 : Hb 8 a3) (b4 : Hb 8 a4) :
    Lft [a0, a1, a2, a3, a4] (if 0 < a2 - a4 * a1 / a3 ∧ 0 < a1 - a3 * a0 / (a2 - a4 * a1 / a3) then 4 else 2) := by
  have hx : HbL 8 [a0, a1, a2, a3, a4] := hl5 b0 b1 b2 b3 b4
  generalize hb : a2 - a4 * a1 / a3 = b
  generalize hc : a1 - a3 * a0 / b = c
  have bb : Hb 33 b := by rw [← hb]; exact (b2.sub ((b4.mul b1).div b3 (by grind))).mono (by omega)
  have et : turnedQ [a0, a1, a2, a3, a4] = [a0, -a1, a2, -a3, a4] := by
    rw [tu5]
    exact tidy_to 0 (l5 rfl (by grind) rfl (by grind) rfl) (.inr (by show a4 ≠ 0; grind))
  have ht : HbL 8 [a0, -a1, a2, -a3, a4] := hl5 b0 b1.neg b2 b3.neg b4
  have c1 : Hb 10 (2 * a1) := hb2.mul b1
  have c3 : Hb 10 (2 * a3) := hb2.mul b3
  have hr : HbL 10 [0, 2 * a1, 0, 2 * a3] := hl4 (hbz (by omega)) c1 (hbz (by omega)) c3
  obtain ⟨q1, d1⟩ : ∃ q, Dv [a0, a1, a2, a3, a4] [a0, -a1, a2, -a3, a4] q [0, 2 * a1, 0, 2 * a3] := ⟨_, dv_of (h := 8) (h2 := 8) (by omega) (by omega) hx ht (by simp) (by show a4 ≠ 0; grind) (show gro 8 1 8 ≤ 900 by decide) (by simp) (by simp) (by
    rw [div55]
    exact Prod.ext rfl (tidy_to 1 (l5 (by grind) (by grind) (by grind) (by grind) (by grind)) (.inr (by show 2 * a3 ≠ 0; grind))))⟩
  have tr : ∀ {r : List Rat} (k : Nat), [a0, 0, b, 0, 0] = r ++ List.replicate k 0 → (r = [] ∨ r.getLastD 0 ≠ 0) → ∃ q, Dv [a0, -a1, a2, -a3, a4] [0, 2 * a1, 0, 2 * a3] q r := fun {r} k hk hy => ⟨_, dv_of (h := 8) (h2 := 10) (by omega) (by omega) ht hr (by simp) (by show 2 * a3 ≠ 0; grind) (show gro 10 2 8 ≤ 900 by decide) (by simp) (by simp) (by
    rw [div54]
    refine Prod.ext rfl (tidy_to k ?_ hy)
    rw [← hk]
    exact l5 (by grind) (by grind) (by grind) (by grind) (by grind))⟩
  have ap := d_axis_parts hx (by omega) (by simp)
  rw [odd5 (by grind), even5 (by grind)] at ap
  have l4 : [a0, a1, a2, a3, a4].getLastD 0 ≠ 0 := by show a4 ≠ 0; grind
  by_cases nb : b = 0
  · obtain ⟨q2, d2⟩ := tr (r := [a0]) 4 (l5 rfl rfl nb rfl rfl) (.inr (by show a0 ≠ 0; grind))
    have d3 : Dv [0, 2 * a1, 0, 2 * a3] [a0] _ [] := dv_of (h := 10) (h2 := 8) (by omega) (by omega) hr (hl1 b0) (by simp) (by show a0 ≠ 0; grind) (show gro 8 4 10 ≤ 900 by decide) (by simp) (by simp) (div4_1 (by grind))
    have cm := d_common (.step (by simp) d1 (.step (by simp) d2 (.step (by simp) d3 (.nil _)))) (by omega) (m := 8) (by omega) (hl1 b0) (by omega) (by simp) (.inr (by show a0 ≠ 0; grind))
    rw [monic_c (by grind), ← et] at cm
    rw [if_neg (by grind)]
    exact lft_of hx (by simp) (by simp) l4 cm (dv_one hx (by simp) l4) ap (by simp) (j := 0) (by rw [if_pos (by simp)]; exact jumps5_0 h0 h1 h3 h4 b0 b1 b2 b3 b4 (by grind)) d_axis1 (show ((4 : Nat) + leadQ 4 0) / 2 + ((1 : Int) - 1 - 0) / 2 = 2 by decide)
  · have bc : Hb 58 c := by rw [← hc]; exact (b1.sub ((b3.mul b0).div bb nb)).mono (by omega)
    have c2 : Hb 60 (2 * c) := hb2.mul bc
    have hs : HbL 33 [a0, 0, b] := hl3 (b0.mono (by omega)) (hbz (by omega)) bb
    obtain ⟨q2, d2⟩ := tr (r := [a0, 0, b]) 2 (l5 rfl rfl rfl rfl rfl) (.inr nb)
    have tr3 : ∀ {r : List Rat} (k : Nat), [0, 2 * c, 0, 0] = r ++ List.replicate k 0 → (r = [] ∨ r.getLastD 0 ≠ 0) → ∃ q, Dv [0, 2 * a1, 0, 2 * a3] [a0, 0, b] q r := fun {r} k hk hy => ⟨_, dv_of (h := 10) (h2 := 33) (by omega) (by omega) hr hs (by simp) nb (show gro 33 2 10 ≤ 900 by decide) (by simp) (by simp) (by
      rw [div43]
      refine Prod.ext rfl (tidy_to k ?_ hy)
      rw [← hk]
      exact PF.l4 (by grind) (by grind) (by grind) (by grind))⟩
    by_cases nc : c = 0
    · -- a common part of degree 2
      obtain ⟨q3, d3⟩ := tr3 (r := []) 4 (PF.l4 rfl (by grind) rfl rfl) (.inl rfl)
      have cm := d_common (.step (by simp) d1 (.step (by simp) d2 (.step (by simp) d3 (.nil _)))) (by omega) (m := 33) (by omega) hs (by omega) (by simp) (.inr nb)
      have em : monicQ [a0, 0, b] = [a0 / b, 0, 1] := by
        show tidyQ [1 / b * a0, 1 / b * 0, 1 / b * b] = _
        exact tidy_to 0 (l3 (by grind) (by grind) (by grind)) (.inr (by show (1 : Rat) ≠ 0; decide))
      rw [em, ← et] at cm
      have bs : Hb 41 (a0 / b) := b0.div bb nb
      obtain ⟨r, d4⟩ : ∃ r, Dv [a0, a1, a2, a3, a4] [a0 / b, 0, 1] [b, a3, a4] r := ⟨_, dv_of (h := 8) (h2 := 41) (by omega) (by omega) hx (hl3 bs (hbz (by omega)) (hb1.mono (by omega))) (by simp) (by show (1 : Rat) ≠ 0; decide) (show gro 41 3 8 ≤ 900 by decide) (by simp) (by simp) (by
        rw [div53]
        exact Prod.ext (tidy_to 0 (l3 (by grind) (by grind) (by grind)) (.inr (by show a4 ≠ 0; grind))) rfl)⟩
      have ap2 := d_axis_parts (xs := [b, a3, a4]) (m := 33) (hl3 bb (b3.mono (by omega)) (b4.mono (by omega))) (by omega) (by simp)
      rw [odd3 (by grind), even3 (by grind)] at ap2
      have jm := jumps3 nb h3 h4 (bb.mono (by omega)) b3 b4
      have ax := d_axis3 (m := 41) (by omega) bs (by omega) (by
        have : a0 / b * b = a0 := by grind
        intro z
        rw [z] at this
        grind)
      rw [if_neg (by grind)]
      by_cases pb : 0 < b
      · have ps : 0 < a0 / b := by rw [Rat.div_def]; exact Rat.mul_pos h0 (Rat.inv_pos.mpr pb)
        rw [if_pos ps] at ax
        rw [if_pos pb] at jm
        exact lft_of hx (by simp) (by simp) l4 cm d4 ap2 (by simp) (j := -2) (by rw [if_pos (by simp)]; exact jm) ax (show ((2 : Nat) + leadQ 2 (-2)) / 2 + ((3 : Int) - 1 - 2 * 1) / 2 = 2 by decide)
      · have ps : ¬ 0 < a0 / b := fun z => by
          have h5 : 0 < a0 / b * -b := Rat.mul_pos z (by grind)
          have h6 : a0 / b * -b = -a0 := by grind
          grind
        rw [if_neg ps] at ax
        rw [if_neg pb] at jm
        exact lft_of hx (by simp) (by simp) l4 cm d4 ap2 (by simp) (j := 0) (by rw [if_pos (by simp)]; exact jm) ax (show ((2 : Nat) + leadQ 2 0) / 2 + ((3 : Int) - 1 - 2 * 0) / 2 = 2 by decide)
    · obtain ⟨q3, d3⟩ := tr3 (r := [0, 2 * c]) 2 (PF.l4 rfl rfl rfl rfl) (.inr (by show 2 * c ≠ 0; grind))
      obtain ⟨q4, d4⟩ : ∃ q, Dv [a0, 0, b] [0, 2 * c] q [a0] := ⟨_, dv_of (h := 33) (h2 := 60) (by omega) (by omega) hs (hl2 (hbz (by omega)) c2) (by simp) (by show 2 * c ≠ 0; grind) (show gro 60 2 33 ≤ 900 by decide) (by simp) (by simp) (by
        rw [div32]
        exact Prod.ext rfl (tidy_to 2 (l3 (by grind) (by grind) (by grind)) (.inr (by show a0 ≠ 0; grind))))⟩
      have d5 : Dv [0, 2 * c] [a0] _ [] := dv_of (h := 60) (h2 := 8) (by omega) (by omega) (hl2 (hbz (by omega)) c2) (hl1 b0) (by simp) (by show a0 ≠ 0; grind) (show gro 8 2 60 ≤ 900 by decide) (by simp) (by simp) (div2_1 (by grind))
      have cm := d_common (.step (by simp) d1 (.step (by simp) d2 (.step (by simp) d3 (.step (by simp) d4 (.step (by simp) d5 (.nil _)))))) (by omega) (m := 8) (by omega) (hl1 b0) (by omega) (by simp) (.inr (by show a0 ≠ 0; grind))
      rw [monic_c (by grind), ← et] at cm
      have jm := jumps5 h0 h1 h3 h4 b0 b1 b2 b3 b4 hb.symm hc.symm bb bc nb nc
      by_cases h : 0 < b ∧ 0 < c
      · rw [if_pos h] at jm ⊢
        exact lft_of hx (by simp) (by simp) l4 cm (dv_one hx (by simp) l4) ap (by simp) (j := -4) (by rw [if_pos (by simp)]; exact jm) d_axis1 (show ((4 : Nat) + leadQ 4 (-4)) / 2 + ((1 : Int) - 1 - 0) / 2 = 4 by decide)
      · rw [if_neg h] at jm ⊢
        exact lft_of hx (by simp) (by simp) l4 cm (dv_one hx (by simp) l4) ap (by simp) (j := 0) (by rw [if_pos (by simp)]; exact jm) d_axis1 (show ((4 : Nat) + leadQ 4 0) / 2 + ((1 : Int) - 1 - 0) / 2 = 2 by decide)
end
end PF
end

section
set_option Elab.async false
set_option linter.all false
set_option maxRecDepth 100000
set_option maxHeartbeats 1000000
set_option autoImplicit false
set_option exponentiation.threshold 2000
/-! ML: the laws' own fractions. -/
namespace PF
open PySem PySem.Spec PyProof.Rows L2 HF
def Lg : PM Fl := (sSeq (sPar 0 1 (eVar 1) (eOp2 opMod (eOpN opInt (aCons (eVar 0) aNil)) (eVar 1))) sNext)
def Cg : PM Bool := (tBool (eOp2 opGt (eVar 1) (eC (.int 0))))
theorem euclid2 : ∀ (k a b : Nat), b < 2 ^ k → wl Cg Lg (2 * k + 1) [some (false, eI a), some (false, eI b)] = .ok .next [some (false, eI (Nat.gcd a b)), some (false, eI 0)] := by
  have stop : ∀ (m a : Nat), wl Cg Lg (m + 1) [some (false, eI a), some (false, eI 0)] = .ok .next [some (false, eI a), some (false, eI 0)] := fun m a => by
    unfold wl
    rw [bnd_ok (show Cg [some (false, eI a), some (false, eI 0)] = .ok false _ from evt_bool (fr := false) (ev_op2 (rd_var (i := 1) rfl) ev_c.rd rfl))]
    rfl
  have step : ∀ (m a b : Nat), 0 < b → wl Cg Lg (m + 1) [some (false, eI a), some (false, eI b)] = wl Cg Lg m [some (false, eI b), some (false, eI (a % b))] := fun m a b hb => by
    have e1 : Cg [some (false, eI a), some (false, eI b)] = .ok true [some (false, eI a), some (false, eI b)] := by
      have := evt_bool (fr := false) (ev_op2 (s := [some (false, eI a), some (false, eI b)]) (o := opGt) (r := .bl (decide ((0 : Int) < (b : Int)))) (rd_var (i := 1) (b := false) (p := eI b) rfl) (ev_c (p := .int 0)).rd rfl)
      rwa [decide_eq_true (by omega)] at this
    have e2 : Lg [some (false, eI a), some (false, eI b)] = .ok .next [some (false, eI b), some (false, eI (a % b))] := by
      unfold Lg
      exact sq (s_par' (s := [some (false, eI a), some (false, eI b)]) (ev_var (i := 1) rfl) (ev_op2 (r := eI (a % b)) (fr3 := false) (ev_opN (r := eI a) (fr3 := false) (rda_cons (rd_var (i := 0) (b := false) (p := eI a) rfl) rda_nil) rfl).rd (rd_var (i := 1) (b := false) (p := eI b) rfl) (mod_ii (by omega))) (by simp) (by simp)) rfl
    rw [wl, bnd_ok e1]
    simp only [if_true, e2]
  intro k
  induction k with
  | zero =>
    intro a b hb
    have : b = 0 := by simpa using hb
    subst this
    rw [stop, Nat.gcd_zero_right]
  | succ k ih =>
    intro a b hb
    rw [Nat.pow_succ] at hb
    by_cases h0 : b = 0
    · subst h0
      rw [show 2 * (k + 1) + 1 = (2 * k + 2) + 1 by omega, stop, Nat.gcd_zero_right]
    · rw [show 2 * (k + 1) + 1 = (2 * k + 2) + 1 by omega, step _ _ _ (by omega)]
      by_cases h1 : a % b = 0
      · rw [h1, show 2 * k + 2 = (2 * k + 1) + 1 by omega, stop, Nat.gcd_comm a b, Nat.gcd_rec b a, h1, Nat.gcd_zero_left]
      · have hr : a % b < b := Nat.mod_lt _ (by omega)
        rw [show 2 * k + 2 = (2 * k + 1) + 1 by omega, step _ _ _ (by omega)]
        have hlt : b % (a % b) < 2 ^ k := by
          have h2 : b % (a % b) < a % b := Nat.mod_lt _ (by omega)
          have h3 : b % (a % b) ≤ b - a % b := by
            rw [Nat.mod_eq_sub_mod (by omega)]
            exact Nat.mod_le _ _
          omega
        have e : Nat.gcd a b = Nat.gcd (a % b) (b % (a % b)) := by rw [Nat.gcd_comm a b, Nat.gcd_rec b a, Nat.gcd_rec (a % b) b, Nat.gcd_comm]
        rw [ih _ _ hlt, e]
theorem abs_ev {s : SE} {i : Nat} {n : Int} (h : s[i]? = some (some (false, .int n))) : Ev (eOpN opAbs (aCons (eVar i) aNil)) s (eI n.natAbs) false := ev_opN (rda_cons (rd_var (b := false) h) rda_nil) (by
  show some (PV.int (if n < 0 then -n else n), false) = some (PV.int (n.natAbs : Int), false)
  congr 3
  split <;> omega)
theorem d_gcd {n d : Int} {k : Nat} (hk : k ≤ 1000) (hd : d.natAbs < 2 ^ k) : denOf 2 F__law_gcd [.int n, .int d] = .ok (eI (Nat.gcd n.natAbs d.natAbs)) false none := by
  refine den_ret (s1 := [some (false, eI (Nat.gcd n.natAbs d.natAbs)), some (false, eI 0)]) ?_
  unfold F__law_gcd
  refine sq (s_par' (s := [some (false, .int n), some (false, .int d)]) (abs_ev (i := 0) rfl) (abs_ev (i := 1) rfl) (by simp) (by simp)) ?_
  refine sq (s1 := [some (false, eI (Nat.gcd n.natAbs d.natAbs)), some (false, eI 0)]) ?_ (s_seq_ret (s_ret (ev_var (i := 0) rfl)))
  show sWhile Cg Lg [some (false, eI n.natAbs), some (false, eI d.natAbs)] = _
  have w := euclid2 k n.natAbs d.natAbs hd
  rw [sWhile_eq (2 * k + 1) (by unfold FUEL; omega) (by rw [w]; nofun), w]
theorem d_ratio {n d : Int} {k : Nat} (hk : k < 1000) (hn : n.natAbs < 2 ^ k) (hd : d.natAbs < 2 ^ k) (h0 : d ≠ 0) : denOf 3 F__law_ratio [.int n, .int d] = .ok (eQ (Rat.divInt n d)) false none := by
  have top : (2 : Nat) ^ k ≤ 2 ^ 999 := pow_le (by omega)
  obtain ⟨n', d', hd', e, hn2, hd2, e2⟩ : ∃ n' d' : Int, 0 < d' ∧ Rat.divInt n d = Rat.divInt n' d' ∧ n'.natAbs < 2 ^ k ∧ d'.natAbs < 2 ^ k ∧ (sIf (tBool (eOp2 opLt (eVar 1) (eC (.int 0)))) (sSeq (sPar 0 1 (eOp2 opSub (eC (.int 0)) (eVar 0)) (eOp2 opSub (eC (.int 0)) (eVar 1)))
      sNext) sNext) [some (false, .int n), some (false, .int d), none] = .ok .next [some (false, .int n'), some (false, .int d'), none] := by
    have t : EvT (tBool (eOp2 opLt (eVar 1) (eC (.int 0)))) [some (false, .int n), some (false, .int d), none] (decide (d < 0)) := evt_bool (fr := false) (ev_op2 (rd_var (i := 1) rfl) ev_c.rd rfl)
    by_cases h : d < 0
    · refine ⟨0 - n, 0 - d, by omega, ?_, by omega, by omega, ?_⟩
      · have := Rat.divInt_mul_left (n := n) (d := d) (a := -1) (by decide)
        rw [← this]
        congr 1 <;> omega
      · refine si t (fun _ => ?_) fun z => by simp [h] at z
        exact sq (s_par' (s := [some (false, .int n), some (false, .int d), none]) (ev_op2 (fr3 := false) (ev_c (p := .int 0)).rd (rd_var (i := 0) (b := false) (p := .int n) rfl) rfl) (ev_op2 (fr3 := false) (ev_c (p := .int 0)).rd (rd_var (i := 1) (b := false) (p := .int d) rfl) rfl) (by simp) (by simp)) rfl
    · exact ⟨n, d, by omega, rfl, hn, hd, si t (fun z => by simp [h] at z) fun _ => rfl⟩
  have hg : Nat.gcd n'.natAbs d'.natAbs ≤ d'.natAbs := Nat.gcd_le_right _ (by omega)
  have hg0 : 0 < Nat.gcd n'.natAbs d'.natAbs := Nat.gcd_pos_of_pos_right _ (by omega)
  rw [e]
  refine den_ret (s1 := [some (false, .int n'), some (false, .int d'), some (false, eI (Nat.gcd n'.natAbs d'.natAbs))]) ?_
  unfold F__law_ratio
  refine sq e2 (sq (s_set (ev_call (io := none) (eva_cons (ev_var (i := 0) rfl) (eva_cons (ev_var (i := 1) rfl) eva_nil)) (d_gcd (k := k) (by omega) hd2)) (by simp)) (s_seq_ret (s_ret ?_)))
  have hgi : ((Nat.gcd n'.natAbs d'.natAbs : Nat) : Int) < 2 ^ 1000 := by
    have : (2 : Nat) ^ 999 < 2 ^ 1000 := by decide
    have h3 : Nat.gcd n'.natAbs d'.natAbs < 2 ^ 1000 := by omega
    exact_mod_cast h3
  have e3 : eQ (Rat.divInt n' d') = .tup [.int (n' / (Nat.gcd n'.natAbs d'.natAbs : Nat)), .int (d' / (Nat.gcd n'.natAbs d'.natAbs : Nat))] := by
    unfold eQ
    have hgc : d'.gcd n' = Nat.gcd n'.natAbs d'.natAbs := by
      unfold Int.gcd
      rw [Nat.gcd_comm]
    rw [Rat.num_divInt, Rat.den_divInt, if_neg (by omega), Int.sign_eq_one_of_pos hd', Int.one_mul, hgc]
    congr 4
    rw [Int.natCast_ediv]
    congr 1
    omega
  rw [e3]
  exact ev_tup (eva_cons (ev_op2 (fr3 := false) (rd_var (i := 0) (b := false) (p := .int n') rfl) (rd_var (i := 2) (b := false) rfl) (fdiv_ii (by omega) hgi)) (eva_cons (ev_op2 (fr3 := false) (rd_var (i := 1) (b := false) (p := .int d') rfl) (rd_var (i := 2) (b := false) rfl) (fdiv_ii (by omega) hgi)) eva_nil)) (by rw [sizeLine_eq]; exact Nat.le_of_ble_eq_true rfl)
section
variable {a b : Rat} {m n : Nat}
theorem d_lminus (ha : Hb m a) (hb : Hb n b) (h : m + n ≤ 900) : denOf 2 F__law_minus [eQ a, eQ b] = .ok (eQ (a - b)) false none := by
  have r0 : Rdv (eVar 0) (st0 2 [eQ a, eQ b]) (eQ a) := rd_var (b := false) rfl
  have r1 : Rdv (eVar 1) (st0 2 [eQ a, eQ b]) (eQ b) := rd_var (b := false) rfl
  have k1 := ha.n1 (by omega); have k2 := ha.d1 (by omega); have k3 := hb.n1 (by omega); have k4 := hb.d1 (by omega)
  rw [← sub_eq]
  refine den_ret (s1 := st0 2 [eQ a, eQ b]) (s_seq_ret (s_ret (ev_call (io := none) (eva_cons (ev_sub (ev_mul (ev_num r0) (ev_den r1) k1 k4) (ev_mul (ev_num r1) (ev_den r0) k3 k2)) (eva_cons (ev_mul (ev_den r0) (ev_den r1) k2 k4) eva_nil)) ?_)))
  exact d_ratio (k := m + n + 1) (by omega) (sub_lt (ha.mul2 hb) (by rw [Nat.add_comm]; exact hb.mul2 ha)) (Nat.lt_of_lt_of_le (ha.mul3 hb) (pow_le (by omega))) (Int.mul_ne_zero (den_ne a) (den_ne b))
theorem d_ltimes (ha : Hb m a) (hb : Hb n b) (h : m + n ≤ 900) : denOf 2 F__law_times [eQ a, eQ b] = .ok (eQ (a * b)) false none := by
  have r0 : Rdv (eVar 0) (st0 2 [eQ a, eQ b]) (eQ a) := rd_var (b := false) rfl
  have r1 : Rdv (eVar 1) (st0 2 [eQ a, eQ b]) (eQ b) := rd_var (b := false) rfl
  have k1 := ha.n1 (by omega); have k2 := ha.d1 (by omega); have k3 := hb.n1 (by omega); have k4 := hb.d1 (by omega)
  rw [← mul_eq]
  refine den_ret (s1 := st0 2 [eQ a, eQ b]) (s_seq_ret (s_ret (ev_call (io := none) (eva_cons (ev_mul (ev_num r0) (ev_num r1) k1 k3) (eva_cons (ev_mul (ev_den r0) (ev_den r1) k2 k4) eva_nil)) ?_)))
  exact d_ratio (k := m + n) (by omega) (ha.mul1 hb) (ha.mul3 hb) (Int.mul_ne_zero (den_ne a) (den_ne b))
theorem sum_wl {m : Nat} : ∀ (xs : List Rat) (v : Rat) (h : Nat) (y : Option (Bool × PV)) (x3 x4 : Option (Bool × PV)), HbL m xs → Hb h v → h + xs.length * (m + 1) + m ≤ 900 → ∃ x3' x4', forL (gTp 2 (gsCons (gNm 3) (gsCons (gNm 4) gsNil))) (sSeq (sAsg (eCall (denOf 3 F__law_ratio) (aCons (eOp2 opAdd (eOp2 opMul (eVar 1) (eVar 4)) (eOp2 opMul (eVar 3) (eVar 2))) (aCons (eOp2 opMul (eVar 2) (eVar 4)) aNil))) (gTp 2 (gsCons (gNm 1) (gsCons (gNm 2) gsNil)))) sNext) (eL xs) [y, some (false, .int v.num), some (false, .int v.den), x3, x4]
    = .ok .next [y, some (false, .int (xs.foldl (· + ·) v).num), some (false, .int (xs.foldl (· + ·) v).den), x3', x4']
  | [], v, h, y, x3, x4, _, _, _ => ⟨x3, x4, rfl⟩
  | a :: xs, v, h, y, x3, x4, hx, hv, hb => by
    rw [List.length_cons, Nat.succ_mul] at hb
    have ha := hx a List.mem_cons_self
    obtain ⟨x3', x4', ih⟩ := sum_wl xs (v + a) (h + m + 1) y (some (false, .int a.num)) (some (false, .int a.den)) (fun b hb => hx b (List.mem_cons_of_mem _ hb)) (hv.add ha) (by omega)
    refine ⟨x3', x4', ?_⟩
    show forL _ _ (eQ a :: eL xs) _ = _
    unfold forL
    rw [bnd_ok (show nx (gTp 2 (gsCons (gNm 3) (gsCons (gNm 4) gsNil)) (eQ a)) [y, some (false, .int v.num), some (false, .int v.den), x3, x4] = .ok () [y, some (false, .int v.num), some (false, .int v.den), some (false, .int a.num), some (false, .int a.den)] from by unfold nx; rw [show eQ a = .tup [.int a.num, .int a.den] from rfl, g_tp2 (by simp) (by simp)]; rfl)]
    have k1 := hv.n1 (by omega); have k2 := hv.d1 (by omega); have k3 := ha.n1 (by omega); have k4 := ha.d1 (by omega)
    have e1 : Ev (eCall (denOf 3 F__law_ratio) (aCons (eOp2 opAdd (eOp2 opMul (eVar 1) (eVar 4)) (eOp2 opMul (eVar 3) (eVar 2))) (aCons (eOp2 opMul (eVar 2) (eVar 4)) aNil))) [y, some (false, .int v.num), some (false, .int v.den), some (false, .int a.num), some (false, .int a.den)] (eQ (v + a)) false := by
      rw [← add_eq]
      exact ev_call (io := none) (eva_cons (ev_add (ev_mul (ev_var (i := 1) rfl) (ev_var (i := 4) rfl) k1 k4) (ev_mul (ev_var (i := 3) rfl) (ev_var (i := 2) rfl) k3 k2)) (eva_cons (ev_mul (ev_var (i := 2) rfl) (ev_var (i := 4) rfl) k2 k4) eva_nil)) (d_ratio (k := h + m + 1) (by omega) (add_lt (hv.mul2 ha) (by rw [Nat.add_comm]; exact ha.mul2 hv)) (Nat.lt_of_lt_of_le (hv.mul3 ha) (pow_le (by omega))) (Int.mul_ne_zero (den_ne v) (den_ne a)))
    have e2 : (sSeq (sAsg (eCall (denOf 3 F__law_ratio) (aCons (eOp2 opAdd (eOp2 opMul (eVar 1) (eVar 4)) (eOp2 opMul (eVar 3) (eVar 2))) (aCons (eOp2 opMul (eVar 2) (eVar 4)) aNil))) (gTp 2 (gsCons (gNm 1) (gsCons (gNm 2) gsNil)))) sNext) [y, some (false, .int v.num), some (false, .int v.den), some (false, .int a.num), some (false, .int a.den)] = .ok .next [y, some (false, .int (v + a).num), some (false, .int (v + a).den), some (false, .int a.num), some (false, .int a.den)] := by
      refine sq ?_ rfl
      unfold sAsg
      rw [bnd_ok e1, bnd_ok (show rel1 (Arg.val (eQ (v + a)) false) _ = .ok (eQ (v + a)) _ from rfl)]
      rw [bnd_ok (show nx (gTp 2 (gsCons (gNm 1) (gsCons (gNm 2) gsNil)) (eQ (v + a))) _ = .ok () [y, some (false, .int (v + a).num), some (false, .int (v + a).den), some (false, .int a.num), some (false, .int a.den)] from by unfold nx; rw [show eQ (v + a) = .tup [.int (v + a).num, .int (v + a).den] from rfl, g_tp2 (by simp) (by simp)]; rfl)]
      rfl
    simp only [e2]
    rw [ih]
    rfl
theorem d_lsum {p : PV} {xs : List Rat} (hp : srcP p = some (eL xs)) (hx : HbL m xs) (hb : 1 + xs.length * (m + 1) + m ≤ 900) : denOf 5 F__law_sum [p] = .ok (eQ (xs.foldl (· + ·) 0)) false none := by
  obtain ⟨x3, x4, e⟩ := sum_wl xs 0 1 (some (false, p)) none none hx hb0 hb
  refine den_ret (s1 := [some (false, p), some (false, .int (xs.foldl (· + ·) 0).num), some (false, .int (xs.foldl (· + ·) 0).den), x3, x4]) ?_
  unfold F__law_sum
  refine sq (s1 := [some (false, p), some (false, .int 0), some (false, .int 1), none, none]) rfl ?_
  refine sq (sf (ps := eL xs) (s1 := [some (false, p), some (false, .int 0), some (false, .int 1), none, none]) ?_ e) (s_seq_ret (s_ret (ev_tup (eva_cons (ev_var (i := 1) rfl) (eva_cons (ev_var (i := 2) rfl) eva_nil)) (by rw [sizeLine_eq]; exact Nat.le_of_ble_eq_true rfl))))
  cases p <;> first | (cases hp; done) | (cases hp; rfl) | (simp only [srcP, Option.some.injEq] at hp; rw [← hp]; rfl)
end
end PF
end

section
set_option Elab.async false
set_option linter.all false
set_option maxRecDepth 100000
set_option maxHeartbeats 2000000
set_option autoImplicit false
/-! KH: four polynomials tell for a whole range (no program). -/
namespace KH
theorem tot (a b : Rat) : a ≤ b ∨ b ≤ a := Rat.le_total
theorem mul_le {a b c d : Rat} (ha : 0 < a) (h1 : a ≤ b) (hc : 0 < c) (h2 : c ≤ d) : a * c ≤ b * d := by
  have x1 : 0 ≤ (b - a) * c := Rat.mul_nonneg (by grind) (by grind)
  have x2 : 0 ≤ b * (d - c) := Rat.mul_nonneg (by grind) (by grind)
  grind
theorem div_lt {x y z : Rat} (hy : 0 < y) : x / y - z < 0 ↔ x < z * y := by
  have e : x / y * y = x := by grind
  constructor
  · intro h
    have := Rat.mul_pos (show 0 < z - x / y by grind) hy
    grind
  · intro h
    rcases tot (z) (x / y) with h2 | h2
    · have := Rat.mul_nonneg (show 0 ≤ x / y - z by grind) (show 0 ≤ y by grind)
      grind
    · by_cases h3 : x / y = z
      · rw [h3] at e
        rw [e] at h
        exact absurd h Rat.lt_irrefl
      · grind
def f5 (a0 a1 a2 a3 a4 : Rat) : Rat := a1 * a2 * a3 - a0 * a3 * a3 - a1 * a1 * a4
theorem cond5 {a0 a1 a2 a3 a4 : Rat} (h0 : 0 < a0) (h1 : 0 < a1) (h3 : 0 < a3) : (0 < a2 - a4 * a1 / a3 ∧ 0 < a1 - a3 * a0 / (a2 - a4 * a1 / a3)) ↔ 0 < f5 a0 a1 a2 a3 a4 := by
  have k1 : 0 < a2 - a4 * a1 / a3 ↔ a4 * a1 < a2 * a3 := by
    have := div_lt (x := a4 * a1) (y := a3) (z := a2) h3
    grind
  have eb : (a2 - a4 * a1 / a3) * a3 = a2 * a3 - a4 * a1 := by grind
  constructor
  · rintro ⟨hb, hc⟩
    have := (div_lt (x := a3 * a0) (y := a2 - a4 * a1 / a3) (z := a1) hb).mp (by grind)
    have p := Rat.mul_pos (show 0 < a1 * (a2 - a4 * a1 / a3) - a3 * a0 by grind) h3
    have e : (a1 * (a2 - a4 * a1 / a3) - a3 * a0) * a3 = f5 a0 a1 a2 a3 a4 := by unfold f5; grind
    rw [e] at p
    exact p
  · intro h
    have p3 := Rat.mul_pos (Rat.mul_pos h0 h3) h3
    have hb : 0 < a2 - a4 * a1 / a3 := by
      rw [k1]
      rcases tot (a2 * a3) (a4 * a1) with z | z
      · have := Rat.mul_nonneg (show 0 ≤ a4 * a1 - a2 * a3 by grind) (show 0 ≤ a1 by grind)
        unfold f5 at h
        grind
      · by_cases e : a2 * a3 = a4 * a1
        · have : f5 a0 a1 a2 a3 a4 = a1 * (a2 * a3 - a4 * a1) - a0 * a3 * a3 := by unfold f5; grind
          rw [this, e] at h
          grind
        · grind
    refine ⟨hb, ?_⟩
    have := (div_lt (x := a3 * a0) (y := a2 - a4 * a1 / a3) (z := a1) hb).mpr (by
      rcases tot (a1 * (a2 - a4 * a1 / a3)) (a3 * a0) with z | z
      · have q := Rat.mul_nonneg (show 0 ≤ a3 * a0 - a1 * (a2 - a4 * a1 / a3) by grind) (show 0 ≤ a3 by grind)
        have e : (a3 * a0 - a1 * (a2 - a4 * a1 / a3)) * a3 = - f5 a0 a1 a2 a3 a4 := by unfold f5; grind
        rw [e] at q
        grind
      · by_cases e2 : a1 * (a2 - a4 * a1 / a3) = a3 * a0
        · have e : (a3 * a0 - a1 * (a2 - a4 * a1 / a3)) * a3 = - f5 a0 a1 a2 a3 a4 := by unfold f5; grind
          rw [e2] at e
          grind
        · grind)
    grind
/-- above 0 between, if above 0 at both ends -/
theorem between {m A M x1 x x2 : Rat} (hM : 0 < M) (h1 : 0 < m * x1 - A - M * x1 * x1) (h2 : 0 < m * x2 - A - M * x2 * x2) (l : x1 ≤ x) (r : x ≤ x2) : 0 < m * x - A - M * x * x := by
  by_cases e : x1 = x
  · rw [← e]; exact h1
  · by_cases e2 : x = x2
    · rw [e2]; exact h2
    · have a1 : 0 < x - x1 := by grind
      have a2 : 0 < x2 - x := by grind
      have a3 : 0 < x2 - x1 := by grind
      have p1 := Rat.mul_pos a2 h1
      have p2 := Rat.mul_pos a1 h2
      have p3 := Rat.mul_pos (Rat.mul_pos (Rat.mul_pos hM a1) a2) a3
      have id : (x2 - x1) * (m * x - A - M * x * x) = (x2 - x) * (m * x1 - A - M * x1 * x1) + (x - x1) * (m * x2 - A - M * x2 * x2) + M * (x - x1) * (x2 - x) * (x2 - x1) := by grind
      have pos : 0 < (x2 - x1) * (m * x - A - M * x * x) := by rw [id]; grind
      rcases tot (m * x - A - M * x * x) 0 with z | z
      · have := Rat.mul_nonneg (show 0 ≤ x2 - x1 by grind) (show 0 ≤ -(m * x - A - M * x * x) by grind)
        grind
      · by_cases e3 : m * x - A - M * x * x = 0
        · rw [e3] at pos; grind
        · grind
theorem ratio {a b c d : Rat} (ha : 0 < a) (h1 : a ≤ b) (hc : 0 < c) (h2 : c ≤ d) : a / d ≤ b / c := by
  have hd : 0 < d := by grind
  have e1 : a / d * (c * d) = a * c := by grind
  have e2 : b / c * (c * d) = b * d := by grind
  have h := mul_le ha h1 hc h2
  rcases tot (a / d) (b / c) with z | z
  · exact z
  · by_cases e : a / d = b / c
    · rw [e]; exact Rat.le_refl
    · have := Rat.mul_pos (show 0 < a / d - b / c by grind) (Rat.mul_pos hc hd)
      grind
theorem khar5 {l0 l1 l2 l3 l4 h0 h1 h2 h3 h4 a0 a1 a2 a3 a4 : Rat} (p0 : 0 < l0) (p1 : 0 < l1) (p2 : 0 < l2) (p3 : 0 < l3) (p4 : 0 < l4) (b0 : l0 ≤ a0) (b1 : l1 ≤ a1) (b2 : l2 ≤ a2) (b3 : l3 ≤ a3) (b4 : l4 ≤ a4)
    (c0 : a0 ≤ h0) (c1 : a1 ≤ h1) (c2 : a2 ≤ h2) (c3 : a3 ≤ h3) (c4 : a4 ≤ h4) (k1 : 0 < f5 h0 l1 l2 h3 h4) (k2 : 0 < f5 h0 h1 l2 l3 h4) : 0 < f5 a0 a1 a2 a3 a4 := by
  have q1 : 0 < a1 := by grind
  have q3 : 0 < a3 := by grind
  have u1 : 0 < h1 := by grind
  have u3 : 0 < h3 := by grind
  have qq : ∀ x y : Rat, 0 < x → 0 < y → (0 < f5 h0 x l2 y h4 ↔ 0 < l2 * (x / y) - h0 - h4 * (x / y) * (x / y)) := fun x y hx hy => by
    have e : f5 h0 x l2 y h4 = (l2 * (x / y) - h0 - h4 * (x / y) * (x / y)) * (y * y) := by unfold f5; grind
    have yy := Rat.mul_pos hy hy
    rw [e]
    constructor
    · intro h
      rcases tot (l2 * (x / y) - h0 - h4 * (x / y) * (x / y)) 0 with z | z
      · have := Rat.mul_nonneg (show 0 ≤ -(l2 * (x / y) - h0 - h4 * (x / y) * (x / y)) by grind) (show 0 ≤ y * y by grind)
        grind
      · by_cases e3 : l2 * (x / y) - h0 - h4 * (x / y) * (x / y) = 0
        · rw [e3] at h; grind
        · grind
    · intro h
      exact Rat.mul_pos h yy
  have g1 := (qq l1 h3 p1 u3).mp k1
  have g2 := (qq h1 l3 u1 p3).mp k2
  have g3 := (qq a1 a3 q1 q3).mpr (between (by grind) g1 g2 (ratio p1 b1 q3 c3) (ratio q1 c1 p3 b3))
  -- f falls with a0, a4, grows with a2
  have r1 := Rat.mul_nonneg (Rat.mul_nonneg (show 0 ≤ a1 by grind) (show 0 ≤ a2 - l2 by grind)) (show 0 ≤ a3 by grind)
  have r2 := Rat.mul_nonneg (Rat.mul_nonneg (show 0 ≤ h0 - a0 by grind) (show 0 ≤ a3 by grind)) (show 0 ≤ a3 by grind)
  have r3 := Rat.mul_nonneg (Rat.mul_nonneg (show 0 ≤ a1 by grind) (show 0 ≤ a1 by grind)) (show 0 ≤ h4 - a4 by grind)
  have e : f5 a0 a1 a2 a3 a4 = f5 h0 a1 l2 a3 h4 + a1 * (a2 - l2) * a3 + (h0 - a0) * a3 * a3 + a1 * a1 * (h4 - a4) := by unfold f5; grind
  rw [e]
  grind
theorem khar4 {l1 l2 h0 h3 a0 a1 a2 a3 : Rat} (q0 : 0 < a0) (q3 : 0 < a3) (p1 : 0 < l1) (p2 : 0 < l2) (b1 : l1 ≤ a1) (b2 : l2 ≤ a2) (c0 : a0 ≤ h0) (c3 : a3 ≤ h3) (k : h3 * h0 / l2 - l1 < 0) : a3 * a0 / a2 - a1 < 0 := by
  have k := (div_lt p2).mp k
  refine (div_lt (by grind)).mpr ?_
  have x1 := mul_le q3 c3 q0 c0
  have x2 := mul_le p1 b1 p2 b2
  grind
def calmB : List Rat → Bool
  | [_, _] => true
  | [_, _, _] => true
  | [a0, a1, a2, a3] => decide (a3 * a0 / a2 - a1 < 0)
  | [a0, a1, a2, a3, a4] => decide (0 < a2 - a4 * a1 / a3 ∧ 0 < a1 - a3 * a0 / (a2 - a4 * a1 / a3))
  | _ => false
/-- between two rows -/
def Btw : List Rat → List Rat → List Rat → Prop
  | [], [], [] => True
  | l :: ls, a :: as, h :: hs => 0 < l ∧ l ≤ a ∧ a ≤ h ∧ Btw ls as hs
  | _, _, _ => False
def lowAt (p k : Nat) : Bool := match p, k % 4 with
  | 0, 0 => true | 0, 1 => true | 0, 2 => false | 0, _ => false
  | 1, 0 => true | 1, 1 => false | 1, 2 => false | 1, _ => true
  | 2, 0 => false | 2, 1 => true | 2, 2 => true | 2, _ => false
  | _, 0 => false | _, 1 => false | _, 2 => true | _, _ => true
def corner (p : Nat) (lo hi : List Rat) : List Rat := (List.range lo.length).map fun k => if lowAt p k then lo.getD k 0 else hi.getD k 0
theorem btw_len : ∀ {lo as hi : List Rat}, Btw lo as hi → as.length = lo.length ∧ hi.length = lo.length
  | [], [], [], _ => ⟨rfl, rfl⟩
  | _ :: _, _ :: _, _ :: _, h => by
    obtain ⟨_, _, _, h⟩ := h
    obtain ⟨h1, h2⟩ := btw_len h
    simp [h1, h2]
  | [], [], _ :: _, h => h.elim
  | [], _ :: _, _, h => h.elim
  | _ :: _, [], _, h => h.elim
  | _ :: _, _ :: _, [], h => h.elim
theorem len2 {α : Type} {xs : List α} (h : xs.length = 2) : ∃ a b, xs = [a, b] := by
  match xs, h with
  | [a, b], _ => exact ⟨a, b, rfl⟩
theorem len3 {α : Type} {xs : List α} (h : xs.length = 3) : ∃ a b c, xs = [a, b, c] := by
  match xs, h with
  | [a, b, c], _ => exact ⟨a, b, c, rfl⟩
theorem len4 {α : Type} {xs : List α} (h : xs.length = 4) : ∃ a b c d, xs = [a, b, c, d] := by
  match xs, h with
  | [a, b, c, d], _ => exact ⟨a, b, c, d, rfl⟩
theorem len5 {α : Type} {xs : List α} (h : xs.length = 5) : ∃ a b c d e, xs = [a, b, c, d, e] := by
  match xs, h with
  | [a, b, c, d, e], _ => exact ⟨a, b, c, d, e, rfl⟩
theorem corner5 (p : Nat) (l0 l1 l2 l3 l4 h0 h1 h2 h3 h4 : Rat) : corner p [l0, l1, l2, l3, l4] [h0, h1, h2, h3, h4] = [if lowAt p 0 then l0 else h0, if lowAt p 1 then l1 else h1, if lowAt p 2 then l2 else h2, if lowAt p 3 then l3 else h3, if lowAt p 4 then l4 else h4] := by
  unfold corner
  rw [show [l0, l1, l2, l3, l4].length = 5 from rfl, show List.range 5 = [0, 1, 2, 3, 4] by decide]
  rfl
theorem khar {lo hi as : List Rat} (h2 : 2 ≤ lo.length) (h5 : lo.length ≤ 5) (hb : Btw lo as hi) (h : ∀ p, p < 4 → calmB (corner p lo hi) = true) : calmB as = true := by
  obtain ⟨e1, e2⟩ := btw_len hb
  rcases (show lo.length = 2 ∨ lo.length = 3 ∨ lo.length = 4 ∨ lo.length = 5 by omega) with e | e | e | e
  · obtain ⟨_, _, rfl⟩ := len2 (e1.trans e)
    rfl
  · obtain ⟨_, _, _, rfl⟩ := len3 (e1.trans e)
    rfl
  · obtain ⟨a0, a1, a2, a3, rfl⟩ := len4 (e1.trans e)
    obtain ⟨h0, h1, h2, h3, rfl⟩ := len4 (e2.trans e)
    obtain ⟨l0, l1, l2, l3, rfl⟩ := len4 e
    obtain ⟨p0, b0, c0, p1, b1, c1, p2, b2, c2, p3, b3, c3, _⟩ := hb
    have k : calmB [h0, l1, l2, h3] = true := h 2 (by omega)
    have k := of_decide_eq_true (p := h3 * h0 / l2 - l1 < 0) k
    exact decide_eq_true (khar4 (by grind) (by grind) p1 p2 b1 b2 c0 c3 k)
  · obtain ⟨a0, a1, a2, a3, a4, rfl⟩ := len5 (e1.trans e)
    obtain ⟨h0, h1, h2, h3, h4, rfl⟩ := len5 (e2.trans e)
    obtain ⟨l0, l1, l2, l3, l4, rfl⟩ := len5 e
    obtain ⟨p0, b0, c0, p1, b1, c1, p2, b2, c2, p3, b3, c3, p4, b4, c4, _⟩ := hb
    have k : calmB [h0, l1, l2, h3, h4] = true := by have := h 2 (by omega); rw [corner5] at this; exact this
    have k := (cond5 (by grind) p1 (by grind)).mp (of_decide_eq_true (p := 0 < l2 - h4 * l1 / h3 ∧ 0 < l1 - h3 * h0 / (l2 - h4 * l1 / h3)) k)
    have j : calmB [h0, h1, l2, l3, h4] = true := by have := h 3 (by omega); rw [corner5] at this; exact this
    have j := (cond5 (by grind) (by grind) p3).mp (of_decide_eq_true (p := 0 < l2 - h4 * h1 / l3 ∧ 0 < h1 - l3 * h0 / (l2 - h4 * h1 / l3)) j)
    exact decide_eq_true ((cond5 (by grind) (by grind) (by grind)).mpr (khar5 p0 p1 p2 p3 p4 b0 b1 b2 b3 b4 c0 c1 c2 c3 c4 k j))
end KH
end

section
set_option Elab.async false
set_option linter.all false
set_option maxRecDepth 100000
set_option maxHeartbeats 2000000
set_option autoImplicit false
namespace G04
open PySem PySem.Spec PyProof.Rows L2 HF
def top (i : Nat) : Stmt := PySem.Challenge.pw_heldsteady_k04_whole_ranges_of_coefficie.main.body.getD i (.Pass ⟨0, 0, 0, 0⟩)
structure Fx (K : PySem.W.Frag) (mg : Str → Option Value) : Prop where
  b_abs : mg "abs" = none
  b_all : mg "all" = none
  b_any : mg "any" = none
  b_enumerate : mg "enumerate" = none
  b_int : mg "int" = none
  b_len : mg "len" = none
  b_list : mg "list" = none
  b_max : mg "max" = none
  b_range : mg "range" = none
  b_reversed : mg "reversed" = none
  b_sum : mg "sum" = none
  b_tuple : mg "tuple" = none
  b_zip : mg "zip" = none
  t_ONE : ConOk K mg "ONE" (.tup [.int 1, .int 1])
  t_ZERO : ConOk K mg "ZERO" (.tup [.int 0, .int 1])
  x_InvalidPoly : ExcOk K mg "InvalidPoly"
  x_InvalidShare : ExcOk K mg "InvalidShare"
  c_MOST_DEGREE : ∃ t, mg "MOST_DEGREE" = some (.int 24 t)
section
variable {P : Program} {w : World} {K : PySem.W.Frag} {mg : Str → Option Value} {base : Heap}
/-! ### _law_more -/
def F__law_more : PM Fl := (sSeq (sSet 3 (eLst aNil))
  (sSeq (sFor (iVal (eVar 0)) (gNm 4) (sSeq (sSet 3 (eOp2 opAdd (eVar 3) (eLst (aCons (eOp2 opAdd (eVar 4) (eTup (aCons (eVar 1) aNil))) (aCons (eOp2 opAdd (eVar 4) (eTup (aCons (eVar 2) aNil))) aNil)))))
  sNext))
  (sSeq (sRet (eVar 3))
  sNext)))
theorem nd__law_more : (["rows", "a", "b", "found", "row"] : List Str).Nodup := by decide +kernel
theorem fs__law_more : FnScope ["rows", "a", "b", "found", "row"] ["rows", "a", "b"] (defScope (top 53)) := ⟨rfl, rfl, rfl, nd__law_more, rfl, by decide +kernel, by decide +kernel⟩
theorem w__law_more {f : Addr} (FX : Fx K mg)  (cdv : Value) (A : Around) (outer : List Env) (s : Shared) (H : Hp) (E : XK) (hr : Room 0 (A.deeper (envOfC "_law_more" (defScope (top 53)) s.heap.objs.size f cdv))) :
    QSs (cxOf (L2.CX P w) P w K mg base ["rows", "a", "b", "found", "row"] "_law_more" (defScope (top 53)) f cdv A outer s H E) (WE0 E) [] (defBody (top 53)) F__law_more :=
  (qss_cons (qs_set (i := 3) (by decide) nd__law_more (by kernel_rfl) (.inl (by kernel_rfl)) (qe_lst qa_nil) (by kernel_rfl) (.inl rfl))
    (qss_cons (qs_for (L2.passes_of rfl) rfl (qi_val (qe_var (i := 0) (by kernel_rfl) (.inl (by kernel_rfl)))) (qg_name (i := 4) (by decide) nd__law_more (by kernel_rfl) (.inl (by kernel_rfl)) (.inl rfl)) (qss_cons (qs_set (i := 3) (by decide) nd__law_more (by kernel_rfl) (.inl (by kernel_rfl)) (qe_op opr_add rof2 (qe_var (i := 3) (by kernel_rfl) (.inl (by kernel_rfl))) (qe_lst (qa_cons (qe_op opr_add rof2 (qe_var (i := 4) (by kernel_rfl) (.inl (by kernel_rfl))) (qe_tup (qa_cons (qe_var (i := 1) (by kernel_rfl) (.inl (by kernel_rfl))) qa_nil))) (qa_cons (qe_op opr_add rof2 (qe_var (i := 4) (by kernel_rfl) (.inl (by kernel_rfl))) (qe_tup (qa_cons (qe_var (i := 2) (by kernel_rfl) (.inl (by kernel_rfl))) qa_nil))) qa_nil)))) (by kernel_rfl) (.inl rfl))
    qss_nil))
    (qss_cons (qs_ret (qe_var (i := 3) (by kernel_rfl) (.inl (by kernel_rfl))))
    qss_nil)))
theorem o__law_more {a : Addr} {fd : FuncData} (FX : Fx K mg)  (Fd : FunD K "_law_more" "_law_more" (defArgs (top 53)) (defBody (top 53)) (defScope (top 53)) [] [] a fd) (hm : mg "_law_more" = some (.ref a)) : HasFn P w K mg base 1 "_law_more" ["rows", "a", "b"] 5 F__law_more :=
  ⟨a, fd, fn_pure Fd fs__law_more (w__law_more FX ), hm, Fd.kp, Fd.bindsN fun _ _ _ _ _ _ us hl => match us, hl with | [_, _, _], _ => rfl⟩

/-! ### _law_choices -/
def F__law_choices : PM Fl := (sSeq (sSet 2 (eLst (aCons (eTup aNil) aNil)))
  (sSeq (sFor (iVal (eOpN opRange (aCons (eOpN opLen (aCons (eVar 0) aNil)) aNil))) (gNm 3) (sSeq (sSet 2 (eCall (denOf 5 F__law_more) (aCons (eVar 2) (aCons (eOp2 opIx (eVar 0) (eVar 3)) (aCons (eOp2 opIx (eVar 1) (eVar 3)) aNil)))))
  sNext))
  (sSeq (sRet (eVar 2))
  sNext)))
theorem nd__law_choices : (["low", "high", "rows", "k"] : List Str).Nodup := by decide +kernel
theorem fs__law_choices : FnScope ["low", "high", "rows", "k"] ["low", "high"] (defScope (top 52)) := ⟨rfl, rfl, rfl, nd__law_choices, rfl, by decide +kernel, by decide +kernel⟩
theorem w__law_choices {f : Addr} (FX : Fx K mg) (h__law_more : HasFn P w K mg base 1 "_law_more" ["rows", "a", "b"] 5 F__law_more) (cdv : Value) (A : Around) (outer : List Env) (s : Shared) (H : Hp) (E : XK) (hr : Room 1 (A.deeper (envOfC "_law_choices" (defScope (top 52)) s.heap.objs.size f cdv))) :
    QSs (cxOf (L2.CX P w) P w K mg base ["low", "high", "rows", "k"] "_law_choices" (defScope (top 52)) f cdv A outer s H E) (WE0 E) [] (defBody (top 52)) F__law_choices :=
  (qss_cons (qs_set (i := 2) (by decide) nd__law_choices (by kernel_rfl) (.inl (by kernel_rfl)) (qe_lst (qa_cons (qe_tup qa_nil) qa_nil)) (by kernel_rfl) (.inl rfl))
    (qss_cons (qs_for (L2.passes_of rfl) rfl (qi_val (qe_callT callr_range rofN (gl_of (by kernel_rfl)) FX.b_range boot_range (qa_cons (qe_call callr_len rofN (gl_of (by kernel_rfl)) FX.b_len boot_len (qa_cons (qe_var (i := 0) (by kernel_rfl) (.inl (by kernel_rfl))) qa_nil)) qa_nil))) (qg_name (i := 3) (by decide) nd__law_choices (by kernel_rfl) (.inl (by kernel_rfl)) (.inl rfl)) (qss_cons (qs_set (i := 2) (by decide) nd__law_choices (by kernel_rfl) (.inl (by kernel_rfl)) (e_fn h__law_more (hr.mono (by decide)) (gl_of (by kernel_rfl)) (takes_of rfl rfl rfl rfl) (qa_cons (qe_var (i := 2) (by kernel_rfl) (.inl (by kernel_rfl))) (qa_cons (qe_ix (ixr_at hr.units) rof2 (qe_var (i := 0) (by kernel_rfl) (.inl (by kernel_rfl))) (qe_var (i := 3) (by kernel_rfl) (.inl (by kernel_rfl))) (fun _ _ => rfl)) (qa_cons (qe_ix (ixr_at hr.units) rof2 (qe_var (i := 1) (by kernel_rfl) (.inl (by kernel_rfl))) (qe_var (i := 3) (by kernel_rfl) (.inl (by kernel_rfl))) (fun _ _ => rfl)) qa_nil))) rfl) (by kernel_rfl) (.inl rfl))
    qss_nil))
    (qss_cons (qs_ret (qe_var (i := 2) (by kernel_rfl) (.inl (by kernel_rfl))))
    qss_nil)))
theorem o__law_choices {a : Addr} {fd : FuncData} (FX : Fx K mg) (h__law_more : HasFn P w K mg base 1 "_law_more" ["rows", "a", "b"] 5 F__law_more) (Fd : FunD K "_law_choices" "_law_choices" (defArgs (top 52)) (defBody (top 52)) (defScope (top 52)) [] [] a fd) (hm : mg "_law_choices" = some (.ref a)) : HasFn P w K mg base 2 "_law_choices" ["low", "high"] 4 F__law_choices :=
  ⟨a, fd, fn_pure Fd fs__law_choices (w__law_choices FX h__law_more), hm, Fd.kp, Fd.bindsN fun _ _ _ _ _ _ us hl => match us, hl with | [_, _], _ => rfl⟩

/-! ### _law_gcd -/
theorem nd__law_gcd : (["a", "b"] : List Str).Nodup := by decide +kernel
theorem fs__law_gcd : FnScope ["a", "b"] ["a", "b"] (defScope (top 43)) := ⟨rfl, rfl, rfl, nd__law_gcd, rfl, by decide +kernel, by decide +kernel⟩
theorem w__law_gcd {f : Addr} (FX : Fx K mg)  (cdv : Value) (A : Around) (outer : List Env) (s : Shared) (H : Hp) (E : XK) (hr : Room 0 (A.deeper (envOfC "_law_gcd" (defScope (top 43)) s.heap.objs.size f cdv))) :
    QSs (cxOf (L2.CX P w) P w K mg base ["a", "b"] "_law_gcd" (defScope (top 43)) f cdv A outer s H E) (WE0 E) [] (defBody (top 43)) PF.F__law_gcd :=
  (qss_cons (qs_par (i := 0) (j := 1) (by decide) (by decide) rfl nd__law_gcd (by kernel_rfl) (by kernel_rfl) (by decide) (by kernel_rfl) (by kernel_rfl) (qe_call callr_abs rofN (gl_of (by kernel_rfl)) FX.b_abs boot_abs (qa_cons (qe_var (i := 0) (by kernel_rfl) (.inl (by kernel_rfl))) qa_nil)) (qe_call callr_abs rofN (gl_of (by kernel_rfl)) FX.b_abs boot_abs (qa_cons (qe_var (i := 1) (by kernel_rfl) (.inl (by kernel_rfl))) qa_nil)) (by kernel_rfl))
    (qss_cons (qs_while (L2.passes_of rfl) (qt_cmp opr_gt rof2 (qe_var (i := 1) (by kernel_rfl) (.inl (by kernel_rfl))) qe_int rfl) (qss_cons (qs_par (i := 0) (j := 1) (by decide) (by decide) rfl nd__law_gcd (by kernel_rfl) (by kernel_rfl) (by decide) (by kernel_rfl) (by kernel_rfl) (qe_var (i := 1) (by kernel_rfl) (.inl (by kernel_rfl))) (qe_op opr_mod rof2 (qe_callT callr_int rofN (gl_of (by kernel_rfl)) FX.b_int boot_int (qa_cons (qe_var (i := 0) (by kernel_rfl) (.inl (by kernel_rfl))) qa_nil)) (qe_var (i := 1) (by kernel_rfl) (.inl (by kernel_rfl)))) (by kernel_rfl))
    qss_nil))
    (qss_cons (qs_ret (qe_var (i := 0) (by kernel_rfl) (.inl (by kernel_rfl))))
    qss_nil)))
theorem o__law_gcd {a : Addr} {fd : FuncData} (FX : Fx K mg)  (Fd : FunD K "_law_gcd" "_law_gcd" (defArgs (top 43)) (defBody (top 43)) (defScope (top 43)) [] [] a fd) (hm : mg "_law_gcd" = some (.ref a)) : HasFn P w K mg base 1 "_law_gcd" ["a", "b"] 2 PF.F__law_gcd :=
  ⟨a, fd, fn_pure Fd fs__law_gcd (w__law_gcd FX ), hm, Fd.kp, Fd.bindsN fun _ _ _ _ _ _ us hl => match us, hl with | [_, _], _ => rfl⟩

/-! ### _law_ratio -/
theorem nd__law_ratio : (["n", "d", "most"] : List Str).Nodup := by decide +kernel
theorem fs__law_ratio : FnScope ["n", "d", "most"] ["n", "d"] (defScope (top 44)) := ⟨rfl, rfl, rfl, nd__law_ratio, rfl, by decide +kernel, by decide +kernel⟩
theorem w__law_ratio {f : Addr} (FX : Fx K mg) (h__law_gcd : HasFn P w K mg base 1 "_law_gcd" ["a", "b"] 2 PF.F__law_gcd) (cdv : Value) (A : Around) (outer : List Env) (s : Shared) (H : Hp) (E : XK) (hr : Room 1 (A.deeper (envOfC "_law_ratio" (defScope (top 44)) s.heap.objs.size f cdv))) :
    QSs (cxOf (L2.CX P w) P w K mg base ["n", "d", "most"] "_law_ratio" (defScope (top 44)) f cdv A outer s H E) (WE0 E) [] (defBody (top 44)) PF.F__law_ratio :=
  (qss_cons (qs_if (qt_cmp opr_lt rof2 (qe_var (i := 1) (by kernel_rfl) (.inl (by kernel_rfl))) qe_int rfl) (qss_cons (qs_par (i := 0) (j := 1) (by decide) (by decide) rfl nd__law_ratio (by kernel_rfl) (by kernel_rfl) (by decide) (by kernel_rfl) (by kernel_rfl) (qe_op opr_sub rof2 qe_int (qe_var (i := 0) (by kernel_rfl) (.inl (by kernel_rfl)))) (qe_op opr_sub rof2 qe_int (qe_var (i := 1) (by kernel_rfl) (.inl (by kernel_rfl)))) (by kernel_rfl))
    qss_nil) qss_nil)
    (qss_cons (qs_set (i := 2) (by decide) nd__law_ratio (by kernel_rfl) (.inl (by kernel_rfl)) (e_fn h__law_gcd (hr.mono (by decide)) (gl_of (by kernel_rfl)) (takes_of rfl rfl rfl rfl) (qa_cons (qe_var (i := 0) (by kernel_rfl) (.inl (by kernel_rfl))) (qa_cons (qe_var (i := 1) (by kernel_rfl) (.inl (by kernel_rfl))) qa_nil)) rfl) (by kernel_rfl) (.inl rfl))
    (qss_cons (qs_ret (qe_tup (qa_cons (qe_op opr_fdiv rof2 (qe_var (i := 0) (by kernel_rfl) (.inl (by kernel_rfl))) (qe_var (i := 2) (by kernel_rfl) (.inl (by kernel_rfl)))) (qa_cons (qe_op opr_fdiv rof2 (qe_var (i := 1) (by kernel_rfl) (.inl (by kernel_rfl))) (qe_var (i := 2) (by kernel_rfl) (.inl (by kernel_rfl)))) qa_nil))))
    qss_nil)))
theorem o__law_ratio {a : Addr} {fd : FuncData} (FX : Fx K mg) (h__law_gcd : HasFn P w K mg base 1 "_law_gcd" ["a", "b"] 2 PF.F__law_gcd) (Fd : FunD K "_law_ratio" "_law_ratio" (defArgs (top 44)) (defBody (top 44)) (defScope (top 44)) [] [] a fd) (hm : mg "_law_ratio" = some (.ref a)) : HasFn P w K mg base 2 "_law_ratio" ["n", "d"] 3 PF.F__law_ratio :=
  ⟨a, fd, fn_pure Fd fs__law_ratio (w__law_ratio FX h__law_gcd), hm, Fd.kp, Fd.bindsN fun _ _ _ _ _ _ us hl => match us, hl with | [_, _], _ => rfl⟩

/-! ### _law_minus -/
theorem nd__law_minus : (["a", "b"] : List Str).Nodup := by decide +kernel
theorem fs__law_minus : FnScope ["a", "b"] ["a", "b"] (defScope (top 48)) := ⟨rfl, rfl, rfl, nd__law_minus, rfl, by decide +kernel, by decide +kernel⟩
theorem w__law_minus {f : Addr} (FX : Fx K mg) (h__law_ratio : HasFn P w K mg base 2 "_law_ratio" ["n", "d"] 3 PF.F__law_ratio) (cdv : Value) (A : Around) (outer : List Env) (s : Shared) (H : Hp) (E : XK) (hr : Room 2 (A.deeper (envOfC "_law_minus" (defScope (top 48)) s.heap.objs.size f cdv))) :
    QSs (cxOf (L2.CX P w) P w K mg base ["a", "b"] "_law_minus" (defScope (top 48)) f cdv A outer s H E) (WE0 E) [] (defBody (top 48)) PF.F__law_minus :=
  (qss_cons (qs_ret (e_fn h__law_ratio (hr.mono (by decide)) (gl_of (by kernel_rfl)) (takes_of rfl rfl rfl rfl) (qa_cons (qe_op opr_sub rof2 (qe_op opr_mul rof2 (qe_ix (ixr_at hr.units) rof2 (qe_var (i := 0) (by kernel_rfl) (.inl (by kernel_rfl))) qe_int (fun _ _ => rfl)) (qe_ix (ixr_at hr.units) rof2 (qe_var (i := 1) (by kernel_rfl) (.inl (by kernel_rfl))) qe_int (fun _ _ => rfl))) (qe_op opr_mul rof2 (qe_ix (ixr_at hr.units) rof2 (qe_var (i := 1) (by kernel_rfl) (.inl (by kernel_rfl))) qe_int (fun _ _ => rfl)) (qe_ix (ixr_at hr.units) rof2 (qe_var (i := 0) (by kernel_rfl) (.inl (by kernel_rfl))) qe_int (fun _ _ => rfl)))) (qa_cons (qe_op opr_mul rof2 (qe_ix (ixr_at hr.units) rof2 (qe_var (i := 0) (by kernel_rfl) (.inl (by kernel_rfl))) qe_int (fun _ _ => rfl)) (qe_ix (ixr_at hr.units) rof2 (qe_var (i := 1) (by kernel_rfl) (.inl (by kernel_rfl))) qe_int (fun _ _ => rfl))) qa_nil)) rfl))
    qss_nil)
theorem o__law_minus {a : Addr} {fd : FuncData} (FX : Fx K mg) (h__law_ratio : HasFn P w K mg base 2 "_law_ratio" ["n", "d"] 3 PF.F__law_ratio) (Fd : FunD K "_law_minus" "_law_minus" (defArgs (top 48)) (defBody (top 48)) (defScope (top 48)) [] [] a fd) (hm : mg "_law_minus" = some (.ref a)) : HasFn P w K mg base 3 "_law_minus" ["a", "b"] 2 PF.F__law_minus :=
  ⟨a, fd, fn_pure Fd fs__law_minus (w__law_minus FX h__law_ratio), hm, Fd.kp, Fd.bindsN fun _ _ _ _ _ _ us hl => match us, hl with | [_, _], _ => rfl⟩

/-! ### _law_sum -/
theorem nd__law_sum : (["row", "n", "d", "a", "b"] : List Str).Nodup := by decide +kernel
theorem fs__law_sum : FnScope ["row", "n", "d", "a", "b"] ["row"] (defScope (top 46)) := ⟨rfl, rfl, rfl, nd__law_sum, rfl, by decide +kernel, by decide +kernel⟩
theorem w__law_sum {f : Addr} (FX : Fx K mg) (h__law_ratio : HasFn P w K mg base 2 "_law_ratio" ["n", "d"] 3 PF.F__law_ratio) (cdv : Value) (A : Around) (outer : List Env) (s : Shared) (H : Hp) (E : XK) (hr : Room 2 (A.deeper (envOfC "_law_sum" (defScope (top 46)) s.heap.objs.size f cdv))) :
    QSs (cxOf (L2.CX P w) P w K mg base ["row", "n", "d", "a", "b"] "_law_sum" (defScope (top 46)) f cdv A outer s H E) (WE0 E) [] (defBody (top 46)) PF.F__law_sum :=
  (qss_cons (qs_asg (qe_tup (qa_cons qe_int (qa_cons qe_int qa_nil))) (qg_tup rfl (qgs_cons (qg_name (i := 1) (by decide) nd__law_sum (by kernel_rfl) (.inl (by kernel_rfl)) (.inl rfl)) (qgs_cons (qg_name (i := 2) (by decide) nd__law_sum (by kernel_rfl) (.inl (by kernel_rfl)) (.inl rfl)) qgs_nil))))
    (qss_cons (qs_for (L2.passes_of rfl) rfl (qi_val (qe_var (i := 0) (by kernel_rfl) (.inl (by kernel_rfl)))) (qg_tup rfl (qgs_cons (qg_name (i := 3) (by decide) nd__law_sum (by kernel_rfl) (.inl (by kernel_rfl)) (.inl rfl)) (qgs_cons (qg_name (i := 4) (by decide) nd__law_sum (by kernel_rfl) (.inl (by kernel_rfl)) (.inl rfl)) qgs_nil))) (qss_cons (qs_asg (e_fn h__law_ratio (hr.mono (by decide)) (gl_of (by kernel_rfl)) (takes_of rfl rfl rfl rfl) (qa_cons (qe_op opr_add rof2 (qe_op opr_mul rof2 (qe_var (i := 1) (by kernel_rfl) (.inl (by kernel_rfl))) (qe_var (i := 4) (by kernel_rfl) (.inl (by kernel_rfl)))) (qe_op opr_mul rof2 (qe_var (i := 3) (by kernel_rfl) (.inl (by kernel_rfl))) (qe_var (i := 2) (by kernel_rfl) (.inl (by kernel_rfl))))) (qa_cons (qe_op opr_mul rof2 (qe_var (i := 2) (by kernel_rfl) (.inl (by kernel_rfl))) (qe_var (i := 4) (by kernel_rfl) (.inl (by kernel_rfl)))) qa_nil)) rfl) (qg_tup rfl (qgs_cons (qg_name (i := 1) (by decide) nd__law_sum (by kernel_rfl) (.inl (by kernel_rfl)) (.inl rfl)) (qgs_cons (qg_name (i := 2) (by decide) nd__law_sum (by kernel_rfl) (.inl (by kernel_rfl)) (.inl rfl)) qgs_nil))))
    qss_nil))
    (qss_cons (qs_ret (qe_tup (qa_cons (qe_var (i := 1) (by kernel_rfl) (.inl (by kernel_rfl))) (qa_cons (qe_var (i := 2) (by kernel_rfl) (.inl (by kernel_rfl))) qa_nil))))
    qss_nil)))
theorem o__law_sum {a : Addr} {fd : FuncData} (FX : Fx K mg) (h__law_ratio : HasFn P w K mg base 2 "_law_ratio" ["n", "d"] 3 PF.F__law_ratio) (Fd : FunD K "_law_sum" "_law_sum" (defArgs (top 46)) (defBody (top 46)) (defScope (top 46)) [] [] a fd) (hm : mg "_law_sum" = some (.ref a)) : HasFn P w K mg base 3 "_law_sum" ["row"] 5 PF.F__law_sum :=
  ⟨a, fd, fn_pure Fd fs__law_sum (w__law_sum FX h__law_ratio), hm, Fd.kp, Fd.bindsN fun _ _ _ _ _ _ us hl => match us, hl with | [_], _ => rfl⟩

/-! ### _law_take -/
def F__law_take : PM Fl := (sSeq (sIf (tAndP (tBool (eOp2 opEq (eOp2 opIx (eVar 0) (eC (.str "left"))) (eC (.int 0)))) (tBool (eOp2 opLt (eOp2 opIx (eVar 0) (eC (.str "at"))) (eOpN opLen (aCons (eOp2 opIx (eVar 0) (eC (.str "cells"))) aNil))))) (sSeq (sAsg (eOp2 opIx (eOp2 opIx (eVar 0) (eC (.str "cells"))) (eOp2 opIx (eVar 0) (eC (.str "at")))) (gSubP 0 opSet (eC (.str "left"))))
  (sSeq (sAsg (eOp2 opAdd (eOp2 opIx (eVar 0) (eC (.str "at"))) (eC (.int 1))) (gSubP 0 opSet (eC (.str "at"))))
  sNext)) sNext)
  (sSeq (sIf (tBool (eOp2 opGt (eOp2 opIx (eVar 0) (eC (.str "left"))) (eC (.int 0)))) (sSeq (sSet 2 (eOp2 opMod (eOpN opInt (aCons (eOp2 opIx (eVar 0) (eC (.str "left"))) aNil)) (eVar 1)))
  (sSeq (sAsg (eOp2 opFdiv (eOp2 opIx (eVar 0) (eC (.str "left"))) (eVar 1)) (gSubP 0 opSet (eC (.str "left"))))
  (sSeq (sRet (eVar 2))
  sNext))) sNext)
  (sSeq (sAsg (eOp2 opAdd (eOp2 opIx (eVar 0) (eC (.str "salt"))) (eC (.int 1))) (gSubP 0 opSet (eC (.str "salt"))))
  (sSeq (sSet 3 (eOp2 opMod (eOpN opInt (aCons (eOp2 opAdd (eOp2 opMul (eOp2 opIx (eVar 0) (eC (.str "seed"))) (eC (.int 48271))) (eOp2 opMul (eOp2 opIx (eVar 0) (eC (.str "salt"))) (eC (.int 69621)))) aNil)) (eC (.int 2147483647))))
  (sSeq (sSet 3 (eOp2 opMod (eOpN opInt (aCons (eOp2 opAdd (eOp2 opAdd (eOp2 opMul (eVar 3) (eVar 3)) (eOp2 opMul (eOp2 opIx (eVar 0) (eC (.str "salt"))) (eC (.int 40692)))) (eC (.int 12345))) aNil)) (eC (.int 2147483399))))
  (sSeq (sRet (eOp2 opMod (eOpN opInt (aCons (eVar 3) aNil)) (eVar 1)))
  sNext))))))
theorem nd__law_take : (["tape", "many", "drawn", "mixed"] : List Str).Nodup := by decide +kernel
theorem fs__law_take : FnScope ["tape", "many", "drawn", "mixed"] ["tape", "many"] (defScope (top 42)) := ⟨rfl, rfl, rfl, nd__law_take, rfl, by decide +kernel, by decide +kernel⟩
theorem w__law_take {f : Addr} (FX : Fx K mg)  (cdv : Value) (A : Around) (outer : List Env) (s : Shared) (H : Hp) (E : XK) (hr : Room 0 (A.deeper (envOfC "_law_take" (defScope (top 42)) s.heap.objs.size f cdv))) :
    QSs (cxOf (L2.CX P w) P w K mg base ["tape", "many", "drawn", "mixed"] "_law_take" (defScope (top 42)) f cdv A outer s H E) (WE0 E) [0] (defBody (top 42)) F__law_take :=
  (qss_cons (qs_if (qt_of (qw_and (qt_cmp (opr_eq hr.units) rof2 (qe_ix (ixr_at hr.units) rof2 (qe_var (i := 0) (by kernel_rfl) (.inl (by kernel_rfl))) qe_str (fun _ _ => rfl)) qe_int rfl) (qw_and1 (qt_cmp opr_lt rof2 (qe_ix (ixr_at hr.units) rof2 (qe_var (i := 0) (by kernel_rfl) (.inl (by kernel_rfl))) qe_str (fun _ _ => rfl)) (qe_call callr_len rofN (gl_of (by kernel_rfl)) FX.b_len boot_len (qa_cons (qe_ix (ixr_at hr.units) rof2 (qe_var (i := 0) (by kernel_rfl) (.inl (by kernel_rfl))) qe_str (fun _ _ => rfl)) qa_nil)) rfl)))) (qss_cons (qs_asg (qe_ix (ixr_at hr.units) rof2 (qe_ix (ixr_at hr.units) rof2 (qe_var (i := 0) (by kernel_rfl) (.inl (by kernel_rfl))) qe_str (fun _ _ => rfl)) (qe_ix (ixr_at hr.units) rof2 (qe_var (i := 0) (by kernel_rfl) (.inl (by kernel_rfl))) qe_str (fun _ _ => rfl)) (fun _ _ => rfl)) (qg_sub (i := 0) (pset_at hr.units) rofS (by kernel_rfl) (.inl (by kernel_rfl)) qe_str))
    (qss_cons (qs_asg (qe_op opr_add rof2 (qe_ix (ixr_at hr.units) rof2 (qe_var (i := 0) (by kernel_rfl) (.inl (by kernel_rfl))) qe_str (fun _ _ => rfl)) qe_int) (qg_sub (i := 0) (pset_at hr.units) rofS (by kernel_rfl) (.inl (by kernel_rfl)) qe_str))
    qss_nil)) qss_nil)
    (qss_cons (qs_if (qt_cmp opr_gt rof2 (qe_ix (ixr_at hr.units) rof2 (qe_var (i := 0) (by kernel_rfl) (.inl (by kernel_rfl))) qe_str (fun _ _ => rfl)) qe_int rfl) (qss_cons (qs_set (i := 2) (by decide) nd__law_take (by kernel_rfl) (.inl (by kernel_rfl)) (qe_op opr_mod rof2 (qe_callT callr_int rofN (gl_of (by kernel_rfl)) FX.b_int boot_int (qa_cons (qe_ix (ixr_at hr.units) rof2 (qe_var (i := 0) (by kernel_rfl) (.inl (by kernel_rfl))) qe_str (fun _ _ => rfl)) qa_nil)) (qe_var (i := 1) (by kernel_rfl) (.inl (by kernel_rfl)))) (by kernel_rfl) (.inl rfl))
    (qss_cons (qs_asg (qe_op opr_fdiv rof2 (qe_ix (ixr_at hr.units) rof2 (qe_var (i := 0) (by kernel_rfl) (.inl (by kernel_rfl))) qe_str (fun _ _ => rfl)) (qe_var (i := 1) (by kernel_rfl) (.inl (by kernel_rfl)))) (qg_sub (i := 0) (pset_at hr.units) rofS (by kernel_rfl) (.inl (by kernel_rfl)) qe_str))
    (qss_cons (qs_ret (qe_var (i := 2) (by kernel_rfl) (.inl (by kernel_rfl))))
    qss_nil))) qss_nil)
    (qss_cons (qs_asg (qe_op opr_add rof2 (qe_ix (ixr_at hr.units) rof2 (qe_var (i := 0) (by kernel_rfl) (.inl (by kernel_rfl))) qe_str (fun _ _ => rfl)) qe_int) (qg_sub (i := 0) (pset_at hr.units) rofS (by kernel_rfl) (.inl (by kernel_rfl)) qe_str))
    (qss_cons (qs_set (i := 3) (by decide) nd__law_take (by kernel_rfl) (.inl (by kernel_rfl)) (qe_op opr_mod rof2 (qe_callT callr_int rofN (gl_of (by kernel_rfl)) FX.b_int boot_int (qa_cons (qe_op opr_add rof2 (qe_op opr_mul rof2 (qe_ix (ixr_at hr.units) rof2 (qe_var (i := 0) (by kernel_rfl) (.inl (by kernel_rfl))) qe_str (fun _ _ => rfl)) qe_int) (qe_op opr_mul rof2 (qe_ix (ixr_at hr.units) rof2 (qe_var (i := 0) (by kernel_rfl) (.inl (by kernel_rfl))) qe_str (fun _ _ => rfl)) qe_int)) qa_nil)) qe_int) (by kernel_rfl) (.inl rfl))
    (qss_cons (qs_set (i := 3) (by decide) nd__law_take (by kernel_rfl) (.inl (by kernel_rfl)) (qe_op opr_mod rof2 (qe_callT callr_int rofN (gl_of (by kernel_rfl)) FX.b_int boot_int (qa_cons (qe_op opr_add rof2 (qe_op opr_add rof2 (qe_op opr_mul rof2 (qe_var (i := 3) (by kernel_rfl) (.inl (by kernel_rfl))) (qe_var (i := 3) (by kernel_rfl) (.inl (by kernel_rfl)))) (qe_op opr_mul rof2 (qe_ix (ixr_at hr.units) rof2 (qe_var (i := 0) (by kernel_rfl) (.inl (by kernel_rfl))) qe_str (fun _ _ => rfl)) qe_int)) qe_int) qa_nil)) qe_int) (by kernel_rfl) (.inl rfl))
    (qss_cons (qs_ret (qe_op opr_mod rof2 (qe_callT callr_int rofN (gl_of (by kernel_rfl)) FX.b_int boot_int (qa_cons (qe_var (i := 3) (by kernel_rfl) (.inl (by kernel_rfl))) qa_nil)) (qe_var (i := 1) (by kernel_rfl) (.inl (by kernel_rfl)))))
    qss_nil))))))
theorem o__law_take {a : Addr} {fd : FuncData} (FX : Fx K mg)  (Fd : FunD K "_law_take" "_law_take" (defArgs (top 42)) (defBody (top 42)) (defScope (top 42)) [] [] a fd) (hm : mg "_law_take" = some (.ref a)) : HasFnM P w K mg base 1 "_law_take" ["tape", "many"] 4 F__law_take :=
  ⟨a, fd, fn_io Fd fs__law_take (w__law_take FX ), hm, Fd.kp, Fd.bindsN fun _ _ _ _ _ _ us hl => match us, hl with | [_, _], _ => rfl⟩

/-! ### _law_tape -/
def F__law_tape : PM Fl := (sSeq (sSet 2 (eComp [1] (iOf (iVal (eVar 0))) (gNm 1) (ret true) (eOpN opAbs (aCons (eOpN opInt (aCons (eVar 1) aNil)) aNil))))
  (sSeq (sSet 3 (eC (.int 7)))
  (sSeq (sFor (iVal (eVar 2)) (gNm 1) (sSeq (sSet 3 (eOp2 opMod (eOpN opInt (aCons (eOp2 opAdd (eOp2 opMul (eVar 3) (eC (.int 31))) (eVar 1)) aNil)) (eC (.int 2147483647))))
  sNext))
  (sSeq (sRet (eDisp [(.inr "cells"), (.inr "at"), (.inr "left"), (.inr "seed"), (.inr "salt")] [(eVar 2), (eC (.int 0)), (eC (.int 0)), (eVar 3), (eC (.int 0))]))
  sNext))))
theorem nd__law_tape : (["script", "cell", "cells", "seed"] : List Str).Nodup := by decide +kernel
theorem fs__law_tape : FnScope ["script", "cell", "cells", "seed"] ["script"] (defScope (top 41)) := ⟨rfl, rfl, rfl, nd__law_tape, rfl, by decide +kernel, by decide +kernel⟩
theorem w__law_tape {f : Addr} (FX : Fx K mg)  (cdv : Value) (A : Around) (outer : List Env) (s : Shared) (H : Hp) (E : XK) (hr : Room 0 (A.deeper (envOfC "_law_tape" (defScope (top 41)) s.heap.objs.size f cdv))) :
    QSs (cxOf (L2.CX P w) P w K mg base ["script", "cell", "cells", "seed"] "_law_tape" (defScope (top 41)) f cdv A outer s H E) (WE0 E) [] (defBody (top 41)) F__law_tape :=
  (qss_cons (qs_setLc (i := 2) (own := [("cell", 1)]) (by decide) rfl nd__law_tape (by kernel_rfl) (by kernel_rfl) (L2.sw_true rfl (by kernel_rfl) rfl (by kernel_rfl)) (blkOk_by (by kernel_rfl)) (qib_of (qi_val (qe_var (i := 0) (by kernel_rfl) (.inl (by kernel_rfl))))) (fun _ _ _ _ _ => (qg_name (i := 1) (hp_own (by decide)) nd__law_tape (by kernel_rfl) (.inl (by kernel_rfl)) (.inr (by kernel_rfl)))) (fun _ _ _ _ _ => qts_nil) (fun _ _ _ _ _ => (qe_call callr_abs rofN (gl_of (by kernel_rfl)) FX.b_abs boot_abs (qa_cons (qe_callT callr_int rofN (gl_of (by kernel_rfl)) FX.b_int boot_int (qa_cons (qe_var (i := 1) (by kernel_rfl) (.inl (by kernel_rfl))) qa_nil)) qa_nil))))
    (qss_cons (qs_set (i := 3) (by decide) nd__law_tape (by kernel_rfl) (.inl (by kernel_rfl)) qe_int (by kernel_rfl) (.inl rfl))
    (qss_cons (qs_for (L2.passes_of rfl) rfl (qi_val (qe_var (i := 2) (by kernel_rfl) (.inl (by kernel_rfl)))) (qg_name (i := 1) (by decide) nd__law_tape (by kernel_rfl) (.inl (by kernel_rfl)) (.inl rfl)) (qss_cons (qs_set (i := 3) (by decide) nd__law_tape (by kernel_rfl) (.inl (by kernel_rfl)) (qe_op opr_mod rof2 (qe_callT callr_int rofN (gl_of (by kernel_rfl)) FX.b_int boot_int (qa_cons (qe_op opr_add rof2 (qe_op opr_mul rof2 (qe_var (i := 3) (by kernel_rfl) (.inl (by kernel_rfl))) qe_int) (qe_var (i := 1) (by kernel_rfl) (.inl (by kernel_rfl)))) qa_nil)) qe_int) (by kernel_rfl) (.inl rfl))
    qss_nil))
    (qss_cons (qs_ret (qe_disp (qd_cons (x := (.inr "cells")) pe_str (qe_var (i := 2) (by kernel_rfl) (.inl (by kernel_rfl))) (qd_cons (x := (.inr "at")) pe_str qe_int (qd_cons (x := (.inr "left")) pe_str qe_int (qd_cons (x := (.inr "seed")) pe_str (qe_var (i := 3) (by kernel_rfl) (.inl (by kernel_rfl))) (qd_cons (x := (.inr "salt")) pe_str qe_int qd_nil))))) rfl rfl (by simp) (by decide) (by decide)))
    qss_nil))))
theorem o__law_tape {a : Addr} {fd : FuncData} (FX : Fx K mg)  (Fd : FunD K "_law_tape" "_law_tape" (defArgs (top 41)) (defBody (top 41)) (defScope (top 41)) [] [] a fd) (hm : mg "_law_tape" = some (.ref a)) : HasFn P w K mg base 1 "_law_tape" ["script"] 4 F__law_tape :=
  ⟨a, fd, fn_pure Fd fs__law_tape (w__law_tape FX ), hm, Fd.kp, Fd.bindsN fun _ _ _ _ _ _ us hl => match us, hl with | [_], _ => rfl⟩

/-! ### _law_times -/
theorem nd__law_times : (["a", "b"] : List Str).Nodup := by decide +kernel
theorem fs__law_times : FnScope ["a", "b"] ["a", "b"] (defScope (top 47)) := ⟨rfl, rfl, rfl, nd__law_times, rfl, by decide +kernel, by decide +kernel⟩
theorem w__law_times {f : Addr} (FX : Fx K mg) (h__law_ratio : HasFn P w K mg base 2 "_law_ratio" ["n", "d"] 3 PF.F__law_ratio) (cdv : Value) (A : Around) (outer : List Env) (s : Shared) (H : Hp) (E : XK) (hr : Room 2 (A.deeper (envOfC "_law_times" (defScope (top 47)) s.heap.objs.size f cdv))) :
    QSs (cxOf (L2.CX P w) P w K mg base ["a", "b"] "_law_times" (defScope (top 47)) f cdv A outer s H E) (WE0 E) [] (defBody (top 47)) PF.F__law_times :=
  (qss_cons (qs_ret (e_fn h__law_ratio (hr.mono (by decide)) (gl_of (by kernel_rfl)) (takes_of rfl rfl rfl rfl) (qa_cons (qe_op opr_mul rof2 (qe_ix (ixr_at hr.units) rof2 (qe_var (i := 0) (by kernel_rfl) (.inl (by kernel_rfl))) qe_int (fun _ _ => rfl)) (qe_ix (ixr_at hr.units) rof2 (qe_var (i := 1) (by kernel_rfl) (.inl (by kernel_rfl))) qe_int (fun _ _ => rfl))) (qa_cons (qe_op opr_mul rof2 (qe_ix (ixr_at hr.units) rof2 (qe_var (i := 0) (by kernel_rfl) (.inl (by kernel_rfl))) qe_int (fun _ _ => rfl)) (qe_ix (ixr_at hr.units) rof2 (qe_var (i := 1) (by kernel_rfl) (.inl (by kernel_rfl))) qe_int (fun _ _ => rfl))) qa_nil)) rfl))
    qss_nil)
theorem o__law_times {a : Addr} {fd : FuncData} (FX : Fx K mg) (h__law_ratio : HasFn P w K mg base 2 "_law_ratio" ["n", "d"] 3 PF.F__law_ratio) (Fd : FunD K "_law_times" "_law_times" (defArgs (top 47)) (defBody (top 47)) (defScope (top 47)) [] [] a fd) (hm : mg "_law_times" = some (.ref a)) : HasFn P w K mg base 3 "_law_times" ["a", "b"] 2 PF.F__law_times :=
  ⟨a, fd, fn_pure Fd fs__law_times (w__law_times FX h__law_ratio), hm, Fd.kp, Fd.bindsN fun _ _ _ _ _ _ us hl => match us, hl with | [_, _], _ => rfl⟩

/-! ### less -/
theorem nd_less : (["a", "b"] : List Str).Nodup := by decide +kernel
theorem fs_less : FnScope ["a", "b"] ["a", "b"] (defScope (top 13)) := ⟨rfl, rfl, rfl, nd_less, rfl, by decide +kernel, by decide +kernel⟩
theorem w_less {f : Addr} (FX : Fx K mg)  (cdv : Value) (A : Around) (outer : List Env) (s : Shared) (H : Hp) (E : XK) (hr : Room 0 (A.deeper (envOfC "less" (defScope (top 13)) s.heap.objs.size f cdv))) :
    QSs (cxOf (L2.CX P w) P w K mg base ["a", "b"] "less" (defScope (top 13)) f cdv A outer s H E) (WE0 E) [] (defBody (top 13)) PF.F_less :=
  (qss_cons (qs_ret (qe_cmp opr_lt rof2 (qe_op opr_mul rof2 (qe_ix (ixr_at hr.units) rof2 (qe_var (i := 0) (by kernel_rfl) (.inl (by kernel_rfl))) qe_int (fun _ _ => rfl)) (qe_ix (ixr_at hr.units) rof2 (qe_var (i := 1) (by kernel_rfl) (.inl (by kernel_rfl))) qe_int (fun _ _ => rfl))) (qe_op opr_mul rof2 (qe_ix (ixr_at hr.units) rof2 (qe_var (i := 1) (by kernel_rfl) (.inl (by kernel_rfl))) qe_int (fun _ _ => rfl)) (qe_ix (ixr_at hr.units) rof2 (qe_var (i := 0) (by kernel_rfl) (.inl (by kernel_rfl))) qe_int (fun _ _ => rfl))) rfl))
    qss_nil)
theorem o_less {a : Addr} {fd : FuncData} (FX : Fx K mg)  (Fd : FunD K "less" "less" (defArgs (top 13)) (defBody (top 13)) (defScope (top 13)) [] [] a fd) (hm : mg "less" = some (.ref a)) : HasFn P w K mg base 1 "less" ["a", "b"] 2 PF.F_less :=
  ⟨a, fd, fn_pure Fd fs_less (w_less FX ), hm, Fd.kp, Fd.bindsN fun _ _ _ _ _ _ us hl => match us, hl with | [_, _], _ => rfl⟩

/-! ### sign -/
theorem nd_sign : (["a"] : List Str).Nodup := by decide +kernel
theorem fs_sign : FnScope ["a"] ["a"] (defScope (top 14)) := ⟨rfl, rfl, rfl, nd_sign, rfl, by decide +kernel, by decide +kernel⟩
theorem w_sign {f : Addr} (FX : Fx K mg)  (cdv : Value) (A : Around) (outer : List Env) (s : Shared) (H : Hp) (E : XK) (hr : Room 0 (A.deeper (envOfC "sign" (defScope (top 14)) s.heap.objs.size f cdv))) :
    QSs (cxOf (L2.CX P w) P w K mg base ["a"] "sign" (defScope (top 14)) f cdv A outer s H E) (WE0 E) [] (defBody (top 14)) PF.F_sign :=
  (qss_cons (qs_if (qt_cmp (opr_eq hr.units) rof2 (qe_ix (ixr_at hr.units) rof2 (qe_var (i := 0) (by kernel_rfl) (.inl (by kernel_rfl))) qe_int (fun _ _ => rfl)) qe_int rfl) (qss_cons (qs_ret qe_int)
    qss_nil) qss_nil)
    (qss_cons (qs_ret (qe_if (qt_cmp opr_gt rof2 (qe_ix (ixr_at hr.units) rof2 (qe_var (i := 0) (by kernel_rfl) (.inl (by kernel_rfl))) qe_int (fun _ _ => rfl)) qe_int rfl) qe_int (qe_un unr_neg rof1 qe_int)))
    qss_nil))
theorem o_sign {a : Addr} {fd : FuncData} (FX : Fx K mg)  (Fd : FunD K "sign" "sign" (defArgs (top 14)) (defBody (top 14)) (defScope (top 14)) [] [] a fd) (hm : mg "sign" = some (.ref a)) : HasFn P w K mg base 1 "sign" ["a"] 1 PF.F_sign :=
  ⟨a, fd, fn_pure Fd fs_sign (w_sign FX ), hm, Fd.kp, Fd.bindsN fun _ _ _ _ _ _ us hl => match us, hl with | [_], _ => rfl⟩

/-! ### corners_of_ranges -/
theorem nd_corners_of_ranges : (["low", "high", "found", "pattern", "a", "b", "k"] : List Str).Nodup := by decide +kernel
theorem fs_corners_of_ranges : FnScope ["low", "high", "found", "pattern", "a", "b", "k"] ["low", "high"] (defScope (top 38)) := ⟨rfl, rfl, rfl, nd_corners_of_ranges, rfl, by decide +kernel, by decide +kernel⟩
theorem w_corners_of_ranges {f : Addr} (FX : Fx K mg) (h_less : HasFn P w K mg base 1 "less" ["a", "b"] 2 PF.F_less) (h_sign : HasFn P w K mg base 1 "sign" ["a"] 1 PF.F_sign) (cdv : Value) (A : Around) (outer : List Env) (s : Shared) (H : Hp) (E : XK) (hr : Room 1 (A.deeper (envOfC "corners_of_ranges" (defScope (top 38)) s.heap.objs.size f cdv))) :
    QSs (cxOf (L2.CX P w) P w K mg base ["low", "high", "found", "pattern", "a", "b", "k"] "corners_of_ranges" (defScope (top 38)) f cdv A outer s H E) (WE0 E) [] (defBody (top 38)) PF.F_corners_of_ranges :=
  (qss_cons (qs_if (qt_of (qw_or (qt_cmp (opr_ne hr.units) rof2 (qe_call callr_len rofN (gl_of (by kernel_rfl)) FX.b_len boot_len (qa_cons (qe_var (i := 0) (by kernel_rfl) (.inr (.inl (by kernel_rfl)))) qa_nil)) (qe_call callr_len rofN (gl_of (by kernel_rfl)) FX.b_len boot_len (qa_cons (qe_var (i := 1) (by kernel_rfl) (.inr (.inl (by kernel_rfl)))) qa_nil)) rfl) (qw_or (qt_cmp opr_lt rof2 (qe_call callr_len rofN (gl_of (by kernel_rfl)) FX.b_len boot_len (qa_cons (qe_var (i := 0) (by kernel_rfl) (.inr (.inl (by kernel_rfl)))) qa_nil)) qe_int rfl) (qw_or1 (qt_truth (qe_call (callr_any rfl) rofN (gl_of (by kernel_rfl)) FX.b_any boot_any (qa_cons (qe_lc (own := [("a", 4), ("b", 5)]) rfl nd_corners_of_ranges (blkOk_by (by kernel_rfl)) (qib_of (qi_zip2 (gl_of (by kernel_rfl)) FX.b_zip (qa_cons (qe_var (i := 0) (by kernel_rfl) (.inr (.inl (by kernel_rfl)))) (qa_cons (qe_var (i := 1) (by kernel_rfl) (.inr (.inl (by kernel_rfl)))) qa_nil)))) (fun _ _ _ _ _ => (qg_tup rfl (qgs_cons (qg_name (i := 4) (hp_own (by decide)) nd_corners_of_ranges (by kernel_rfl) (.inl (by kernel_rfl)) (.inr (by kernel_rfl))) (qgs_cons (qg_name (i := 5) (hp_own (by decide)) nd_corners_of_ranges (by kernel_rfl) (.inl (by kernel_rfl)) (.inr (by kernel_rfl))) qgs_nil)))) (fun _ _ _ _ _ => qts_nil) (fun _ _ _ _ _ => (e_fn h_less (hr.mono (by decide)) (gl_of (by kernel_rfl)) L2.takes0 (qa_cons (qe_var (i := 5) (by kernel_rfl) (.inl (by kernel_rfl))) (qa_cons (qe_var (i := 4) (by kernel_rfl) (.inl (by kernel_rfl))) qa_nil)) rfl))) qa_nil))))))) (qss_cons (s_raise FX.x_InvalidPoly rfl (takes_of rfl rfl rfl rfl) (gl_of (by kernel_rfl)))
    qss_nil) qss_nil)
    (qss_cons (qs_if (qt_cmp opr_le rof2 (e_fn h_sign (hr.mono (by decide)) (gl_of (by kernel_rfl)) (takes_of rfl rfl rfl rfl) (qa_cons (qe_ix (ixr_at hr.units) rof2 (qe_var (i := 0) (by kernel_rfl) (.inr (.inl (by kernel_rfl)))) (qe_un unr_neg rof1 qe_int) (fun _ _ => rfl)) qa_nil) rfl) qe_int rfl) (qss_cons (s_raise FX.x_InvalidPoly rfl (takes_of rfl rfl rfl rfl) (gl_of (by kernel_rfl)))
    qss_nil) qss_nil)
    (qss_cons (qs_set (i := 2) (by decide) nd_corners_of_ranges (by kernel_rfl) (.inl (by kernel_rfl)) (qe_lst qa_nil) (by kernel_rfl) (.inl rfl))
    (qss_cons (qs_for (L2.passes_of rfl) rfl (qi_val (qe_tup (qa_cons qe_str (qa_cons qe_str (qa_cons qe_str (qa_cons qe_str qa_nil)))))) (qg_name (i := 3) (by decide) nd_corners_of_ranges (by kernel_rfl) (.inr (by kernel_rfl)) (.inl rfl)) (qss_cons (qs_expr (qe_meth (i := 2) PySem.F.plainAttrs_list PySem.F.slot_list_append PySem.F.type_list_append mt_append mo_append (by kernel_rfl) (.inl (by kernel_rfl)) (qa_cons (qe_callT callr_tuple rofN (gl_of (by kernel_rfl)) FX.b_tuple boot_tuple (qa_cons (qe_lc (own := [("k", 6)]) rfl nd_corners_of_ranges (blkOk_by (by kernel_rfl)) (qib_of (qi_val (qe_callT callr_range rofN (gl_of (by kernel_rfl)) FX.b_range boot_range (qa_cons (qe_call callr_len rofN (gl_of (by kernel_rfl)) FX.b_len boot_len (qa_cons (qe_var (i := 0) (by kernel_rfl) (.inr (.inl (by kernel_rfl)))) qa_nil)) qa_nil)))) (fun _ _ _ _ _ => (qg_name (i := 6) (hp_own (by decide)) nd_corners_of_ranges (by kernel_rfl) (.inl (by kernel_rfl)) (.inr (by kernel_rfl)))) (fun _ _ _ _ _ => qts_nil) (fun _ _ _ _ _ => (qe_if (qt_cmp (opr_eq hr.units) rof2 (qe_ix (ixr_at hr.units) rof2 (qe_var (i := 3) (by kernel_rfl) (.inr (.inl (by kernel_rfl)))) (qe_op opr_mod rof2 (qe_var (i := 6) (by kernel_rfl) (.inl (by kernel_rfl))) qe_int) (fun _ _ => rfl)) qe_str rfl) (qe_ix (ixr_at hr.units) rof2 (qe_var (i := 0) (by kernel_rfl) (.inr (.inl (by kernel_rfl)))) (qe_var (i := 6) (by kernel_rfl) (.inl (by kernel_rfl))) (fun _ _ => rfl)) (qe_ix (ixr_at hr.units) rof2 (qe_var (i := 1) (by kernel_rfl) (.inr (.inl (by kernel_rfl)))) (qe_var (i := 6) (by kernel_rfl) (.inl (by kernel_rfl))) (fun _ _ => rfl))))) qa_nil)) qa_nil)))
    qss_nil))
    (qss_cons (qs_ret (qe_callT callr_tuple rofN (gl_of (by kernel_rfl)) FX.b_tuple boot_tuple (qa_cons (qe_var (i := 2) (by kernel_rfl) (.inl (by kernel_rfl))) qa_nil)))
    qss_nil)))))
theorem o_corners_of_ranges {a : Addr} {fd : FuncData} (FX : Fx K mg) (h_less : HasFn P w K mg base 1 "less" ["a", "b"] 2 PF.F_less) (h_sign : HasFn P w K mg base 1 "sign" ["a"] 1 PF.F_sign) (Fd : FunD K "corners_of_ranges" "corners_of_ranges" (defArgs (top 38)) (defBody (top 38)) (defScope (top 38)) [] [] a fd) (hm : mg "corners_of_ranges" = some (.ref a)) : HasFn P w K mg base 2 "corners_of_ranges" ["low", "high"] 7 PF.F_corners_of_ranges :=
  ⟨a, fd, fn_pure Fd fs_corners_of_ranges (w_corners_of_ranges FX h_less h_sign), hm, Fd.kp, Fd.bindsN fun _ _ _ _ _ _ us hl => match us, hl with | [_, _], _ => rfl⟩

/-! ### share -/
theorem nd_share : (["n", "d", "a", "b"] : List Str).Nodup := by decide +kernel
theorem fs_share : FnScope ["n", "d", "a", "b"] ["n", "d"] (defScope (top 7)) := ⟨rfl, rfl, rfl, nd_share, rfl, by decide +kernel, by decide +kernel⟩
theorem w_share {f : Addr} (FX : Fx K mg)  (cdv : Value) (A : Around) (outer : List Env) (s : Shared) (H : Hp) (E : XK) (hr : Room 0 (A.deeper (envOfC "share" (defScope (top 7)) s.heap.objs.size f cdv))) :
    QSs (cxOf (L2.CX P w) P w K mg base ["n", "d", "a", "b"] "share" (defScope (top 7)) f cdv A outer s H E) (WE0 E) [] (defBody (top 7)) PF.F_share :=
  (qss_cons (qs_if (qt_cmp (opr_eq hr.units) rof2 (qe_var (i := 1) (by kernel_rfl) (.inl (by kernel_rfl))) qe_int rfl) (qss_cons (s_raise FX.x_InvalidShare rfl (takes_of rfl rfl rfl rfl) (gl_of (by kernel_rfl)))
    qss_nil) qss_nil)
    (qss_cons (qs_if (qt_cmp opr_lt rof2 (qe_var (i := 1) (by kernel_rfl) (.inl (by kernel_rfl))) qe_int rfl) (qss_cons (qs_par (i := 0) (j := 1) (by decide) (by decide) rfl nd_share (by kernel_rfl) (by kernel_rfl) (by decide) (by kernel_rfl) (by kernel_rfl) (qe_un unr_neg rof1 (qe_var (i := 0) (by kernel_rfl) (.inl (by kernel_rfl)))) (qe_un unr_neg rof1 (qe_var (i := 1) (by kernel_rfl) (.inl (by kernel_rfl)))) (by kernel_rfl))
    qss_nil) qss_nil)
    (qss_cons (qs_par (i := 2) (j := 3) (by decide) (by decide) rfl nd_share (by kernel_rfl) (by kernel_rfl) (by decide) (by kernel_rfl) (by kernel_rfl) (qe_call callr_abs rofN (gl_of (by kernel_rfl)) FX.b_abs boot_abs (qa_cons (qe_var (i := 0) (by kernel_rfl) (.inl (by kernel_rfl))) qa_nil)) (qe_var (i := 1) (by kernel_rfl) (.inl (by kernel_rfl))) (by kernel_rfl))
    (qss_cons (qs_while (L2.passes_of rfl) (qt_truth (qe_var (i := 3) (by kernel_rfl) (.inl (by kernel_rfl)))) (qss_cons (qs_par (i := 2) (j := 3) (by decide) (by decide) rfl nd_share (by kernel_rfl) (by kernel_rfl) (by decide) (by kernel_rfl) (by kernel_rfl) (qe_var (i := 3) (by kernel_rfl) (.inl (by kernel_rfl))) (qe_op opr_mod rof2 (qe_var (i := 2) (by kernel_rfl) (.inl (by kernel_rfl))) (qe_var (i := 3) (by kernel_rfl) (.inl (by kernel_rfl)))) (by kernel_rfl))
    qss_nil))
    (qss_cons (qs_ret (qe_tup (qa_cons (qe_op opr_fdiv rof2 (qe_var (i := 0) (by kernel_rfl) (.inl (by kernel_rfl))) (qe_var (i := 2) (by kernel_rfl) (.inl (by kernel_rfl)))) (qa_cons (qe_op opr_fdiv rof2 (qe_var (i := 1) (by kernel_rfl) (.inl (by kernel_rfl))) (qe_var (i := 2) (by kernel_rfl) (.inl (by kernel_rfl)))) qa_nil))))
    qss_nil)))))
theorem o_share {a : Addr} {fd : FuncData} (FX : Fx K mg)  (Fd : FunD K "share" "share" (defArgs (top 7)) (defBody (top 7)) (defScope (top 7)) [] [] a fd) (hm : mg "share" = some (.ref a)) : HasFn P w K mg base 1 "share" ["n", "d"] 4 PF.F_share :=
  ⟨a, fd, fn_pure Fd fs_share (w_share FX ), hm, Fd.kp, Fd.bindsN fun _ _ _ _ _ _ us hl => match us, hl with | [_, _], _ => rfl⟩

/-! ### minus -/
theorem nd_minus : (["a", "b"] : List Str).Nodup := by decide +kernel
theorem fs_minus : FnScope ["a", "b"] ["a", "b"] (defScope (top 10)) := ⟨rfl, rfl, rfl, nd_minus, rfl, by decide +kernel, by decide +kernel⟩
theorem w_minus {f : Addr} (FX : Fx K mg) (h_share : HasFn P w K mg base 1 "share" ["n", "d"] 4 PF.F_share) (cdv : Value) (A : Around) (outer : List Env) (s : Shared) (H : Hp) (E : XK) (hr : Room 1 (A.deeper (envOfC "minus" (defScope (top 10)) s.heap.objs.size f cdv))) :
    QSs (cxOf (L2.CX P w) P w K mg base ["a", "b"] "minus" (defScope (top 10)) f cdv A outer s H E) (WE0 E) [] (defBody (top 10)) PF.F_minus :=
  (qss_cons (qs_ret (e_fn h_share (hr.mono (by decide)) (gl_of (by kernel_rfl)) (takes_of rfl rfl rfl rfl) (qa_cons (qe_op opr_sub rof2 (qe_op opr_mul rof2 (qe_ix (ixr_at hr.units) rof2 (qe_var (i := 0) (by kernel_rfl) (.inl (by kernel_rfl))) qe_int (fun _ _ => rfl)) (qe_ix (ixr_at hr.units) rof2 (qe_var (i := 1) (by kernel_rfl) (.inl (by kernel_rfl))) qe_int (fun _ _ => rfl))) (qe_op opr_mul rof2 (qe_ix (ixr_at hr.units) rof2 (qe_var (i := 1) (by kernel_rfl) (.inl (by kernel_rfl))) qe_int (fun _ _ => rfl)) (qe_ix (ixr_at hr.units) rof2 (qe_var (i := 0) (by kernel_rfl) (.inl (by kernel_rfl))) qe_int (fun _ _ => rfl)))) (qa_cons (qe_op opr_mul rof2 (qe_ix (ixr_at hr.units) rof2 (qe_var (i := 0) (by kernel_rfl) (.inl (by kernel_rfl))) qe_int (fun _ _ => rfl)) (qe_ix (ixr_at hr.units) rof2 (qe_var (i := 1) (by kernel_rfl) (.inl (by kernel_rfl))) qe_int (fun _ _ => rfl))) qa_nil)) rfl))
    qss_nil)
theorem o_minus {a : Addr} {fd : FuncData} (FX : Fx K mg) (h_share : HasFn P w K mg base 1 "share" ["n", "d"] 4 PF.F_share) (Fd : FunD K "minus" "minus" (defArgs (top 10)) (defBody (top 10)) (defScope (top 10)) [] [] a fd) (hm : mg "minus" = some (.ref a)) : HasFn P w K mg base 2 "minus" ["a", "b"] 2 PF.F_minus :=
  ⟨a, fd, fn_pure Fd fs_minus (w_minus FX h_share), hm, Fd.kp, Fd.bindsN fun _ _ _ _ _ _ us hl => match us, hl with | [_, _], _ => rfl⟩

/-! ### over -/
theorem nd_over : (["a", "b"] : List Str).Nodup := by decide +kernel
theorem fs_over : FnScope ["a", "b"] ["a", "b"] (defScope (top 12)) := ⟨rfl, rfl, rfl, nd_over, rfl, by decide +kernel, by decide +kernel⟩
theorem w_over {f : Addr} (FX : Fx K mg) (h_share : HasFn P w K mg base 1 "share" ["n", "d"] 4 PF.F_share) (cdv : Value) (A : Around) (outer : List Env) (s : Shared) (H : Hp) (E : XK) (hr : Room 1 (A.deeper (envOfC "over" (defScope (top 12)) s.heap.objs.size f cdv))) :
    QSs (cxOf (L2.CX P w) P w K mg base ["a", "b"] "over" (defScope (top 12)) f cdv A outer s H E) (WE0 E) [] (defBody (top 12)) PF.F_over :=
  (qss_cons (qs_ret (e_fn h_share (hr.mono (by decide)) (gl_of (by kernel_rfl)) (takes_of rfl rfl rfl rfl) (qa_cons (qe_op opr_mul rof2 (qe_ix (ixr_at hr.units) rof2 (qe_var (i := 0) (by kernel_rfl) (.inl (by kernel_rfl))) qe_int (fun _ _ => rfl)) (qe_ix (ixr_at hr.units) rof2 (qe_var (i := 1) (by kernel_rfl) (.inl (by kernel_rfl))) qe_int (fun _ _ => rfl))) (qa_cons (qe_op opr_mul rof2 (qe_ix (ixr_at hr.units) rof2 (qe_var (i := 0) (by kernel_rfl) (.inl (by kernel_rfl))) qe_int (fun _ _ => rfl)) (qe_ix (ixr_at hr.units) rof2 (qe_var (i := 1) (by kernel_rfl) (.inl (by kernel_rfl))) qe_int (fun _ _ => rfl))) qa_nil)) rfl))
    qss_nil)
theorem o_over {a : Addr} {fd : FuncData} (FX : Fx K mg) (h_share : HasFn P w K mg base 1 "share" ["n", "d"] 4 PF.F_share) (Fd : FunD K "over" "over" (defArgs (top 12)) (defBody (top 12)) (defScope (top 12)) [] [] a fd) (hm : mg "over" = some (.ref a)) : HasFn P w K mg base 2 "over" ["a", "b"] 2 PF.F_over :=
  ⟨a, fd, fn_pure Fd fs_over (w_over FX h_share), hm, Fd.kp, Fd.bindsN fun _ _ _ _ _ _ us hl => match us, hl with | [_, _], _ => rfl⟩

/-! ### tidy -/
theorem nd_tidy : (["row", "found"] : List Str).Nodup := by decide +kernel
theorem fs_tidy : FnScope ["row", "found"] ["row"] (defScope (top 19)) := ⟨rfl, rfl, rfl, nd_tidy, rfl, by decide +kernel, by decide +kernel⟩
theorem w_tidy {f : Addr} (FX : Fx K mg)  (cdv : Value) (A : Around) (outer : List Env) (s : Shared) (H : Hp) (E : XK) (hr : Room 0 (A.deeper (envOfC "tidy" (defScope (top 19)) s.heap.objs.size f cdv))) :
    QSs (cxOf (L2.CX P w) P w K mg base ["row", "found"] "tidy" (defScope (top 19)) f cdv A outer s H E) (WE0 E) [] (defBody (top 19)) PF.F_tidy :=
  (qss_cons (qs_set (i := 1) (by decide) nd_tidy (by kernel_rfl) (.inl (by kernel_rfl)) (qe_callT callr_list rofN (gl_of (by kernel_rfl)) FX.b_list boot_list (qa_cons (qe_var (i := 0) (by kernel_rfl) (.inl (by kernel_rfl))) qa_nil)) (by kernel_rfl) (.inl rfl))
    (qss_cons (qs_while (L2.passes_of rfl) (qt_of (qw_and (qt_truth (qe_var (i := 1) (by kernel_rfl) (.inl (by kernel_rfl)))) (qw_and1 (qt_cmp (opr_eq hr.units) rof2 (qe_ix (ixr_at hr.units) rof2 (qe_var (i := 1) (by kernel_rfl) (.inl (by kernel_rfl))) (qe_un unr_neg rof1 qe_int) (fun _ _ => rfl)) (glob_con (gl_of (by kernel_rfl)) FX.t_ZERO) rfl)))) (qss_cons (qs_expr (qe_meth0 (i := 1) PySem.F.plainAttrs_list PySem.F.slot_list_pop PySem.F.type_list_pop mt_pop mo_pop (by kernel_rfl) (.inl (by kernel_rfl))))
    qss_nil))
    (qss_cons (qs_ret (qe_callT callr_tuple rofN (gl_of (by kernel_rfl)) FX.b_tuple boot_tuple (qa_cons (qe_var (i := 1) (by kernel_rfl) (.inl (by kernel_rfl))) qa_nil)))
    qss_nil)))
theorem o_tidy {a : Addr} {fd : FuncData} (FX : Fx K mg)  (Fd : FunD K "tidy" "tidy" (defArgs (top 19)) (defBody (top 19)) (defScope (top 19)) [] [] a fd) (hm : mg "tidy" = some (.ref a)) : HasFn P w K mg base 1 "tidy" ["row"] 2 PF.F_tidy :=
  ⟨a, fd, fn_pure Fd fs_tidy (w_tidy FX ), hm, Fd.kp, Fd.bindsN fun _ _ _ _ _ _ us hl => match us, hl with | [_], _ => rfl⟩

/-! ### times -/
theorem nd_times : (["a", "b"] : List Str).Nodup := by decide +kernel
theorem fs_times : FnScope ["a", "b"] ["a", "b"] (defScope (top 11)) := ⟨rfl, rfl, rfl, nd_times, rfl, by decide +kernel, by decide +kernel⟩
theorem w_times {f : Addr} (FX : Fx K mg) (h_share : HasFn P w K mg base 1 "share" ["n", "d"] 4 PF.F_share) (cdv : Value) (A : Around) (outer : List Env) (s : Shared) (H : Hp) (E : XK) (hr : Room 1 (A.deeper (envOfC "times" (defScope (top 11)) s.heap.objs.size f cdv))) :
    QSs (cxOf (L2.CX P w) P w K mg base ["a", "b"] "times" (defScope (top 11)) f cdv A outer s H E) (WE0 E) [] (defBody (top 11)) PF.F_times :=
  (qss_cons (qs_ret (e_fn h_share (hr.mono (by decide)) (gl_of (by kernel_rfl)) (takes_of rfl rfl rfl rfl) (qa_cons (qe_op opr_mul rof2 (qe_ix (ixr_at hr.units) rof2 (qe_var (i := 0) (by kernel_rfl) (.inl (by kernel_rfl))) qe_int (fun _ _ => rfl)) (qe_ix (ixr_at hr.units) rof2 (qe_var (i := 1) (by kernel_rfl) (.inl (by kernel_rfl))) qe_int (fun _ _ => rfl))) (qa_cons (qe_op opr_mul rof2 (qe_ix (ixr_at hr.units) rof2 (qe_var (i := 0) (by kernel_rfl) (.inl (by kernel_rfl))) qe_int (fun _ _ => rfl)) (qe_ix (ixr_at hr.units) rof2 (qe_var (i := 1) (by kernel_rfl) (.inl (by kernel_rfl))) qe_int (fun _ _ => rfl))) qa_nil)) rfl))
    qss_nil)
theorem o_times {a : Addr} {fd : FuncData} (FX : Fx K mg) (h_share : HasFn P w K mg base 1 "share" ["n", "d"] 4 PF.F_share) (Fd : FunD K "times" "times" (defArgs (top 11)) (defBody (top 11)) (defScope (top 11)) [] [] a fd) (hm : mg "times" = some (.ref a)) : HasFn P w K mg base 2 "times" ["a", "b"] 2 PF.F_times :=
  ⟨a, fd, fn_pure Fd fs_times (w_times FX h_share), hm, Fd.kp, Fd.bindsN fun _ _ _ _ _ _ us hl => match us, hl with | [_, _], _ => rfl⟩

/-! ### divided -/
theorem nd_divided : (["one", "other", "rest", "found", "k", "j", "a"] : List Str).Nodup := by decide +kernel
theorem fs_divided : FnScope ["one", "other", "rest", "found", "k", "j", "a"] ["one", "other"] (defScope (top 21)) := ⟨rfl, rfl, rfl, nd_divided, rfl, by decide +kernel, by decide +kernel⟩
theorem w_divided {f : Addr} (FX : Fx K mg) (h_minus : HasFn P w K mg base 2 "minus" ["a", "b"] 2 PF.F_minus) (h_over : HasFn P w K mg base 2 "over" ["a", "b"] 2 PF.F_over) (h_tidy : HasFn P w K mg base 1 "tidy" ["row"] 2 PF.F_tidy) (h_times : HasFn P w K mg base 2 "times" ["a", "b"] 2 PF.F_times) (cdv : Value) (A : Around) (outer : List Env) (s : Shared) (H : Hp) (E : XK) (hr : Room 2 (A.deeper (envOfC "divided" (defScope (top 21)) s.heap.objs.size f cdv))) :
    QSs (cxOf (L2.CX P w) P w K mg base ["one", "other", "rest", "found", "k", "j", "a"] "divided" (defScope (top 21)) f cdv A outer s H E) (WE0 E) [] (defBody (top 21)) PF.F_divided :=
  (qss_cons (qs_if (qt_not (qt_truth (qe_var (i := 1) (by kernel_rfl) (.inl (by kernel_rfl))))) (qss_cons (s_raise FX.x_InvalidPoly rfl (takes_of rfl rfl rfl rfl) (gl_of (by kernel_rfl)))
    qss_nil) qss_nil)
    (qss_cons (qs_par (i := 2) (j := 3) (by decide) (by decide) rfl nd_divided (by kernel_rfl) (by kernel_rfl) (by decide) (by kernel_rfl) (by kernel_rfl) (qe_callT callr_list rofN (gl_of (by kernel_rfl)) FX.b_list boot_list (qa_cons (qe_var (i := 0) (by kernel_rfl) (.inl (by kernel_rfl))) qa_nil)) (qe_op opr_mul rof2 (qe_lst (qa_cons (glob_con (gl_of (by kernel_rfl)) FX.t_ZERO) qa_nil)) (qe_call (callr_max rfl) rofN (gl_of (by kernel_rfl)) FX.b_max boot_max (qa_cons qe_int (qa_cons (qe_op opr_add rof2 (qe_op opr_sub rof2 (qe_call callr_len rofN (gl_of (by kernel_rfl)) FX.b_len boot_len (qa_cons (qe_var (i := 0) (by kernel_rfl) (.inl (by kernel_rfl))) qa_nil)) (qe_call callr_len rofN (gl_of (by kernel_rfl)) FX.b_len boot_len (qa_cons (qe_var (i := 1) (by kernel_rfl) (.inl (by kernel_rfl))) qa_nil))) qe_int) qa_nil)))) (by kernel_rfl))
    (qss_cons (qs_for (L2.passes_of rfl) rfl (qi_rg3 (gl_of (by kernel_rfl)) FX.b_range (qa_cons (qe_op opr_sub rof2 (qe_call callr_len rofN (gl_of (by kernel_rfl)) FX.b_len boot_len (qa_cons (qe_var (i := 0) (by kernel_rfl) (.inl (by kernel_rfl))) qa_nil)) (qe_call callr_len rofN (gl_of (by kernel_rfl)) FX.b_len boot_len (qa_cons (qe_var (i := 1) (by kernel_rfl) (.inl (by kernel_rfl))) qa_nil))) (qa_cons (qe_un unr_neg rof1 qe_int) (qa_cons (qe_un unr_neg rof1 qe_int) qa_nil)))) (qg_name (i := 4) (by decide) nd_divided (by kernel_rfl) (.inl (by kernel_rfl)) (.inl rfl)) (qss_cons (qs_asg (e_fn h_over (hr.mono (by decide)) (gl_of (by kernel_rfl)) (takes_of rfl rfl rfl rfl) (qa_cons (qe_ix (ixr_at hr.units) rof2 (qe_var (i := 2) (by kernel_rfl) (.inl (by kernel_rfl))) (qe_op opr_sub rof2 (qe_op opr_add rof2 (qe_var (i := 4) (by kernel_rfl) (.inl (by kernel_rfl))) (qe_call callr_len rofN (gl_of (by kernel_rfl)) FX.b_len boot_len (qa_cons (qe_var (i := 1) (by kernel_rfl) (.inl (by kernel_rfl))) qa_nil))) qe_int) (fun _ _ => rfl)) (qa_cons (qe_ix (ixr_at hr.units) rof2 (qe_var (i := 1) (by kernel_rfl) (.inl (by kernel_rfl))) (qe_un unr_neg rof1 qe_int) (fun _ _ => rfl)) qa_nil)) rfl) (qg_sub (i := 3) (pset_at hr.units) rofS (by kernel_rfl) (.inl (by kernel_rfl)) (qe_var (i := 4) (by kernel_rfl) (.inl (by kernel_rfl)))))
    (qss_cons (qs_for (L2.passes_of rfl) rfl (qi_enu (gl_of (by kernel_rfl)) FX.b_enumerate (qa_cons (qe_var (i := 1) (by kernel_rfl) (.inl (by kernel_rfl))) qa_nil)) (qg_tup rfl (qgs_cons (qg_name (i := 5) (by decide) nd_divided (by kernel_rfl) (.inl (by kernel_rfl)) (.inl rfl)) (qgs_cons (qg_name (i := 6) (by decide) nd_divided (by kernel_rfl) (.inl (by kernel_rfl)) (.inl rfl)) qgs_nil))) (qss_cons (qs_asg (e_fn h_minus (hr.mono (by decide)) (gl_of (by kernel_rfl)) (takes_of rfl rfl rfl rfl) (qa_cons (qe_ix (ixr_at hr.units) rof2 (qe_var (i := 2) (by kernel_rfl) (.inl (by kernel_rfl))) (qe_op opr_add rof2 (qe_var (i := 4) (by kernel_rfl) (.inl (by kernel_rfl))) (qe_var (i := 5) (by kernel_rfl) (.inl (by kernel_rfl)))) (fun _ _ => rfl)) (qa_cons (e_fn h_times (hr.mono (by decide)) (gl_of (by kernel_rfl)) (takes_of rfl rfl rfl rfl) (qa_cons (qe_ix (ixr_at hr.units) rof2 (qe_var (i := 3) (by kernel_rfl) (.inl (by kernel_rfl))) (qe_var (i := 4) (by kernel_rfl) (.inl (by kernel_rfl))) (fun _ _ => rfl)) (qa_cons (qe_var (i := 6) (by kernel_rfl) (.inl (by kernel_rfl))) qa_nil)) rfl) qa_nil)) rfl) (qg_sub (i := 2) (pset_at hr.units) rofS (by kernel_rfl) (.inl (by kernel_rfl)) (qe_op opr_add rof2 (qe_var (i := 4) (by kernel_rfl) (.inl (by kernel_rfl))) (qe_var (i := 5) (by kernel_rfl) (.inl (by kernel_rfl))))))
    qss_nil))
    qss_nil)))
    (qss_cons (qs_ret (qe_tup (qa_cons (e_fn h_tidy (hr.mono (by decide)) (gl_of (by kernel_rfl)) (takes_of rfl rfl rfl rfl) (qa_cons (qe_var (i := 3) (by kernel_rfl) (.inl (by kernel_rfl))) qa_nil) rfl) (qa_cons (e_fn h_tidy (hr.mono (by decide)) (gl_of (by kernel_rfl)) (takes_of rfl rfl rfl rfl) (qa_cons (qe_var (i := 2) (by kernel_rfl) (.inl (by kernel_rfl))) qa_nil) rfl) qa_nil))))
    qss_nil))))
theorem o_divided {a : Addr} {fd : FuncData} (FX : Fx K mg) (h_minus : HasFn P w K mg base 2 "minus" ["a", "b"] 2 PF.F_minus) (h_over : HasFn P w K mg base 2 "over" ["a", "b"] 2 PF.F_over) (h_tidy : HasFn P w K mg base 1 "tidy" ["row"] 2 PF.F_tidy) (h_times : HasFn P w K mg base 2 "times" ["a", "b"] 2 PF.F_times) (Fd : FunD K "divided" "divided" (defArgs (top 21)) (defBody (top 21)) (defScope (top 21)) [] [] a fd) (hm : mg "divided" = some (.ref a)) : HasFn P w K mg base 3 "divided" ["one", "other"] 7 PF.F_divided :=
  ⟨a, fd, fn_pure Fd fs_divided (w_divided FX h_minus h_over h_tidy h_times), hm, Fd.kp, Fd.bindsN fun _ _ _ _ _ _ us hl => match us, hl with | [_, _], _ => rfl⟩

/-! ### scaled -/
theorem nd_scaled : (["poly", "a", "b"] : List Str).Nodup := by decide +kernel
theorem fs_scaled : FnScope ["poly", "a", "b"] ["poly", "a"] (defScope (top 20)) := ⟨rfl, rfl, rfl, nd_scaled, rfl, by decide +kernel, by decide +kernel⟩
theorem w_scaled {f : Addr} (FX : Fx K mg) (h_tidy : HasFn P w K mg base 1 "tidy" ["row"] 2 PF.F_tidy) (h_times : HasFn P w K mg base 2 "times" ["a", "b"] 2 PF.F_times) (cdv : Value) (A : Around) (outer : List Env) (s : Shared) (H : Hp) (E : XK) (hr : Room 2 (A.deeper (envOfC "scaled" (defScope (top 20)) s.heap.objs.size f cdv))) :
    QSs (cxOf (L2.CX P w) P w K mg base ["poly", "a", "b"] "scaled" (defScope (top 20)) f cdv A outer s H E) (WE0 E) [] (defBody (top 20)) PF.F_scaled :=
  (qss_cons (qs_ret (e_fn h_tidy (hr.mono (by decide)) (gl_of (by kernel_rfl)) (takes_of rfl rfl rfl rfl) (qa_cons (qe_lc (own := [("b", 2)]) rfl nd_scaled (blkOk_by (by kernel_rfl)) (qib_of (qi_val (qe_var (i := 0) (by kernel_rfl) (.inl (by kernel_rfl))))) (fun _ _ _ _ _ => (qg_name (i := 2) (hp_own (by decide)) nd_scaled (by kernel_rfl) (.inl (by kernel_rfl)) (.inr (by kernel_rfl)))) (fun _ _ _ _ _ => qts_nil) (fun _ _ _ _ _ => (e_fn h_times (hr.mono (by decide)) (gl_of (by kernel_rfl)) L2.takes0 (qa_cons (qe_var (i := 1) (by kernel_rfl) (.inr (.inl (by kernel_rfl)))) (qa_cons (qe_var (i := 2) (by kernel_rfl) (.inl (by kernel_rfl))) qa_nil)) rfl))) qa_nil) rfl))
    qss_nil)
theorem o_scaled {a : Addr} {fd : FuncData} (FX : Fx K mg) (h_tidy : HasFn P w K mg base 1 "tidy" ["row"] 2 PF.F_tidy) (h_times : HasFn P w K mg base 2 "times" ["a", "b"] 2 PF.F_times) (Fd : FunD K "scaled" "scaled" (defArgs (top 20)) (defBody (top 20)) (defScope (top 20)) [] [] a fd) (hm : mg "scaled" = some (.ref a)) : HasFn P w K mg base 3 "scaled" ["poly", "a"] 3 PF.F_scaled :=
  ⟨a, fd, fn_pure Fd fs_scaled (w_scaled FX h_tidy h_times), hm, Fd.kp, Fd.bindsN fun _ _ _ _ _ _ us hl => match us, hl with | [_, _], _ => rfl⟩

/-! ### monic -/
theorem nd_monic : (["poly"] : List Str).Nodup := by decide +kernel
theorem fs_monic : FnScope ["poly"] ["poly"] (defScope (top 22)) := ⟨rfl, rfl, rfl, nd_monic, rfl, by decide +kernel, by decide +kernel⟩
theorem w_monic {f : Addr} (FX : Fx K mg) (h_over : HasFn P w K mg base 2 "over" ["a", "b"] 2 PF.F_over) (h_scaled : HasFn P w K mg base 3 "scaled" ["poly", "a"] 3 PF.F_scaled) (cdv : Value) (A : Around) (outer : List Env) (s : Shared) (H : Hp) (E : XK) (hr : Room 3 (A.deeper (envOfC "monic" (defScope (top 22)) s.heap.objs.size f cdv))) :
    QSs (cxOf (L2.CX P w) P w K mg base ["poly"] "monic" (defScope (top 22)) f cdv A outer s H E) (WE0 E) [] (defBody (top 22)) PF.F_monic :=
  (qss_cons (qs_ret (qe_if (qt_truth (qe_var (i := 0) (by kernel_rfl) (.inl (by kernel_rfl)))) (e_fn h_scaled (hr.mono (by decide)) (gl_of (by kernel_rfl)) (takes_of rfl rfl rfl rfl) (qa_cons (qe_var (i := 0) (by kernel_rfl) (.inl (by kernel_rfl))) (qa_cons (e_fn h_over (hr.mono (by decide)) (gl_of (by kernel_rfl)) (takes_of rfl rfl rfl rfl) (qa_cons (glob_con (gl_of (by kernel_rfl)) FX.t_ONE) (qa_cons (qe_ix (ixr_at hr.units) rof2 (qe_var (i := 0) (by kernel_rfl) (.inl (by kernel_rfl))) (qe_un unr_neg rof1 qe_int) (fun _ _ => rfl)) qa_nil)) rfl) qa_nil)) rfl) (qe_var (i := 0) (by kernel_rfl) (.inl (by kernel_rfl)))))
    qss_nil)
theorem o_monic {a : Addr} {fd : FuncData} (FX : Fx K mg) (h_over : HasFn P w K mg base 2 "over" ["a", "b"] 2 PF.F_over) (h_scaled : HasFn P w K mg base 3 "scaled" ["poly", "a"] 3 PF.F_scaled) (Fd : FunD K "monic" "monic" (defArgs (top 22)) (defBody (top 22)) (defScope (top 22)) [] [] a fd) (hm : mg "monic" = some (.ref a)) : HasFn P w K mg base 4 "monic" ["poly"] 1 PF.F_monic :=
  ⟨a, fd, fn_pure Fd fs_monic (w_monic FX h_over h_scaled), hm, Fd.kp, Fd.bindsN fun _ _ _ _ _ _ us hl => match us, hl with | [_], _ => rfl⟩

/-! ### common -/
theorem nd_common : (["one", "other"] : List Str).Nodup := by decide +kernel
theorem fs_common : FnScope ["one", "other"] ["one", "other"] (defScope (top 23)) := ⟨rfl, rfl, rfl, nd_common, rfl, by decide +kernel, by decide +kernel⟩
theorem w_common {f : Addr} (FX : Fx K mg) (h_divided : HasFn P w K mg base 3 "divided" ["one", "other"] 7 PF.F_divided) (h_monic : HasFn P w K mg base 4 "monic" ["poly"] 1 PF.F_monic) (cdv : Value) (A : Around) (outer : List Env) (s : Shared) (H : Hp) (E : XK) (hr : Room 4 (A.deeper (envOfC "common" (defScope (top 23)) s.heap.objs.size f cdv))) :
    QSs (cxOf (L2.CX P w) P w K mg base ["one", "other"] "common" (defScope (top 23)) f cdv A outer s H E) (WE0 E) [] (defBody (top 23)) PF.F_common :=
  (qss_cons (qs_while (L2.passes_of rfl) (qt_truth (qe_var (i := 1) (by kernel_rfl) (.inl (by kernel_rfl)))) (qss_cons (qs_par (i := 0) (j := 1) (by decide) (by decide) rfl nd_common (by kernel_rfl) (by kernel_rfl) (by decide) (by kernel_rfl) (by kernel_rfl) (qe_var (i := 1) (by kernel_rfl) (.inl (by kernel_rfl))) (qe_ix (ixr_at hr.units) rof2 (e_fn h_divided (hr.mono (by decide)) (gl_of (by kernel_rfl)) (takes_of rfl rfl rfl rfl) (qa_cons (qe_var (i := 0) (by kernel_rfl) (.inl (by kernel_rfl))) (qa_cons (qe_var (i := 1) (by kernel_rfl) (.inl (by kernel_rfl))) qa_nil)) rfl) qe_int (fun _ _ => rfl)) (by kernel_rfl))
    qss_nil))
    (qss_cons (qs_ret (e_fn h_monic (hr.mono (by decide)) (gl_of (by kernel_rfl)) (takes_of rfl rfl rfl rfl) (qa_cons (qe_var (i := 0) (by kernel_rfl) (.inl (by kernel_rfl))) qa_nil) rfl))
    qss_nil))
theorem o_common {a : Addr} {fd : FuncData} (FX : Fx K mg) (h_divided : HasFn P w K mg base 3 "divided" ["one", "other"] 7 PF.F_divided) (h_monic : HasFn P w K mg base 4 "monic" ["poly"] 1 PF.F_monic) (Fd : FunD K "common" "common" (defArgs (top 23)) (defBody (top 23)) (defScope (top 23)) [] [] a fd) (hm : mg "common" = some (.ref a)) : HasFn P w K mg base 5 "common" ["one", "other"] 2 PF.F_common :=
  ⟨a, fd, fn_pure Fd fs_common (w_common FX h_divided h_monic), hm, Fd.kp, Fd.bindsN fun _ _ _ _ _ _ us hl => match us, hl with | [_, _], _ => rfl⟩

/-! ### chain -/
theorem nd_chain : (["one", "other", "rows"] : List Str).Nodup := by decide +kernel
theorem fs_chain : FnScope ["one", "other", "rows"] ["one", "other"] (defScope (top 28)) := ⟨rfl, rfl, rfl, nd_chain, rfl, by decide +kernel, by decide +kernel⟩
theorem w_chain {f : Addr} (FX : Fx K mg) (h_divided : HasFn P w K mg base 3 "divided" ["one", "other"] 7 PF.F_divided) (h_scaled : HasFn P w K mg base 3 "scaled" ["poly", "a"] 3 PF.F_scaled) (cdv : Value) (A : Around) (outer : List Env) (s : Shared) (H : Hp) (E : XK) (hr : Room 3 (A.deeper (envOfC "chain" (defScope (top 28)) s.heap.objs.size f cdv))) :
    QSs (cxOf (L2.CX P w) P w K mg base ["one", "other", "rows"] "chain" (defScope (top 28)) f cdv A outer s H E) (WE0 E) [] (defBody (top 28)) PF.F_chain :=
  (qss_cons (qs_set (i := 2) (by decide) nd_chain (by kernel_rfl) (.inl (by kernel_rfl)) (qe_lst (qa_cons (qe_var (i := 0) (by kernel_rfl) (.inl (by kernel_rfl))) qa_nil)) (by kernel_rfl) (.inl rfl))
    (qss_cons (qs_while (L2.passes_of rfl) (qt_truth (qe_var (i := 1) (by kernel_rfl) (.inl (by kernel_rfl)))) (qss_cons (qs_expr (qe_meth (i := 2) PySem.F.plainAttrs_list PySem.F.slot_list_append PySem.F.type_list_append mt_append mo_append (by kernel_rfl) (.inl (by kernel_rfl)) (qa_cons (qe_var (i := 1) (by kernel_rfl) (.inl (by kernel_rfl))) qa_nil)))
    (qss_cons (qs_par (i := 0) (j := 1) (by decide) (by decide) rfl nd_chain (by kernel_rfl) (by kernel_rfl) (by decide) (by kernel_rfl) (by kernel_rfl) (qe_var (i := 1) (by kernel_rfl) (.inl (by kernel_rfl))) (e_fn h_scaled (hr.mono (by decide)) (gl_of (by kernel_rfl)) (takes_of rfl rfl rfl rfl) (qa_cons (qe_ix (ixr_at hr.units) rof2 (e_fn h_divided (hr.mono (by decide)) (gl_of (by kernel_rfl)) (takes_of rfl rfl rfl rfl) (qa_cons (qe_var (i := 0) (by kernel_rfl) (.inl (by kernel_rfl))) (qa_cons (qe_var (i := 1) (by kernel_rfl) (.inl (by kernel_rfl))) qa_nil)) rfl) qe_int (fun _ _ => rfl)) (qa_cons (qe_tup (qa_cons (qe_un unr_neg rof1 qe_int) (qa_cons qe_int qa_nil))) qa_nil)) rfl) (by kernel_rfl))
    qss_nil)))
    (qss_cons (qs_ret (qe_var (i := 2) (by kernel_rfl) (.inl (by kernel_rfl))))
    qss_nil)))
theorem o_chain {a : Addr} {fd : FuncData} (FX : Fx K mg) (h_divided : HasFn P w K mg base 3 "divided" ["one", "other"] 7 PF.F_divided) (h_scaled : HasFn P w K mg base 3 "scaled" ["poly", "a"] 3 PF.F_scaled) (Fd : FunD K "chain" "chain" (defArgs (top 28)) (defBody (top 28)) (defScope (top 28)) [] [] a fd) (hm : mg "chain" = some (.ref a)) : HasFn P w K mg base 4 "chain" ["one", "other"] 3 PF.F_chain :=
  ⟨a, fd, fn_pure Fd fs_chain (w_chain FX h_divided h_scaled), hm, Fd.kp, Fd.bindsN fun _ _ _ _ _ _ us hl => match us, hl with | [_, _], _ => rfl⟩

/-! ### plus -/
theorem nd_plus : (["a", "b"] : List Str).Nodup := by decide +kernel
theorem fs_plus : FnScope ["a", "b"] ["a", "b"] (defScope (top 9)) := ⟨rfl, rfl, rfl, nd_plus, rfl, by decide +kernel, by decide +kernel⟩
theorem w_plus {f : Addr} (FX : Fx K mg) (h_share : HasFn P w K mg base 1 "share" ["n", "d"] 4 PF.F_share) (cdv : Value) (A : Around) (outer : List Env) (s : Shared) (H : Hp) (E : XK) (hr : Room 1 (A.deeper (envOfC "plus" (defScope (top 9)) s.heap.objs.size f cdv))) :
    QSs (cxOf (L2.CX P w) P w K mg base ["a", "b"] "plus" (defScope (top 9)) f cdv A outer s H E) (WE0 E) [] (defBody (top 9)) PF.F_plus :=
  (qss_cons (qs_ret (e_fn h_share (hr.mono (by decide)) (gl_of (by kernel_rfl)) (takes_of rfl rfl rfl rfl) (qa_cons (qe_op opr_add rof2 (qe_op opr_mul rof2 (qe_ix (ixr_at hr.units) rof2 (qe_var (i := 0) (by kernel_rfl) (.inl (by kernel_rfl))) qe_int (fun _ _ => rfl)) (qe_ix (ixr_at hr.units) rof2 (qe_var (i := 1) (by kernel_rfl) (.inl (by kernel_rfl))) qe_int (fun _ _ => rfl))) (qe_op opr_mul rof2 (qe_ix (ixr_at hr.units) rof2 (qe_var (i := 1) (by kernel_rfl) (.inl (by kernel_rfl))) qe_int (fun _ _ => rfl)) (qe_ix (ixr_at hr.units) rof2 (qe_var (i := 0) (by kernel_rfl) (.inl (by kernel_rfl))) qe_int (fun _ _ => rfl)))) (qa_cons (qe_op opr_mul rof2 (qe_ix (ixr_at hr.units) rof2 (qe_var (i := 0) (by kernel_rfl) (.inl (by kernel_rfl))) qe_int (fun _ _ => rfl)) (qe_ix (ixr_at hr.units) rof2 (qe_var (i := 1) (by kernel_rfl) (.inl (by kernel_rfl))) qe_int (fun _ _ => rfl))) qa_nil)) rfl))
    qss_nil)
theorem o_plus {a : Addr} {fd : FuncData} (FX : Fx K mg) (h_share : HasFn P w K mg base 1 "share" ["n", "d"] 4 PF.F_share) (Fd : FunD K "plus" "plus" (defArgs (top 9)) (defBody (top 9)) (defScope (top 9)) [] [] a fd) (hm : mg "plus" = some (.ref a)) : HasFn P w K mg base 2 "plus" ["a", "b"] 2 PF.F_plus :=
  ⟨a, fd, fn_pure Fd fs_plus (w_plus FX h_share), hm, Fd.kp, Fd.bindsN fun _ _ _ _ _ _ us hl => match us, hl with | [_, _], _ => rfl⟩

/-! ### value_at -/
theorem nd_value_at : (["poly", "x", "found", "a"] : List Str).Nodup := by decide +kernel
theorem fs_value_at : FnScope ["poly", "x", "found", "a"] ["poly", "x"] (defScope (top 24)) := ⟨rfl, rfl, rfl, nd_value_at, rfl, by decide +kernel, by decide +kernel⟩
theorem w_value_at {f : Addr} (FX : Fx K mg) (h_plus : HasFn P w K mg base 2 "plus" ["a", "b"] 2 PF.F_plus) (h_times : HasFn P w K mg base 2 "times" ["a", "b"] 2 PF.F_times) (cdv : Value) (A : Around) (outer : List Env) (s : Shared) (H : Hp) (E : XK) (hr : Room 2 (A.deeper (envOfC "value_at" (defScope (top 24)) s.heap.objs.size f cdv))) :
    QSs (cxOf (L2.CX P w) P w K mg base ["poly", "x", "found", "a"] "value_at" (defScope (top 24)) f cdv A outer s H E) (WE0 E) [] (defBody (top 24)) PF.F_value_at :=
  (qss_cons (qs_set (i := 2) (by decide) nd_value_at (by kernel_rfl) (.inl (by kernel_rfl)) (glob_con (gl_of (by kernel_rfl)) FX.t_ZERO) (by kernel_rfl) (.inl rfl))
    (qss_cons (qs_for (L2.passes_of rfl) rfl (qi_rev (gl_of (by kernel_rfl)) FX.b_reversed (qe_var (i := 0) (by kernel_rfl) (.inl (by kernel_rfl)))) (qg_name (i := 3) (by decide) nd_value_at (by kernel_rfl) (.inl (by kernel_rfl)) (.inl rfl)) (qss_cons (qs_set (i := 2) (by decide) nd_value_at (by kernel_rfl) (.inl (by kernel_rfl)) (e_fn h_plus (hr.mono (by decide)) (gl_of (by kernel_rfl)) (takes_of rfl rfl rfl rfl) (qa_cons (e_fn h_times (hr.mono (by decide)) (gl_of (by kernel_rfl)) (takes_of rfl rfl rfl rfl) (qa_cons (qe_var (i := 2) (by kernel_rfl) (.inl (by kernel_rfl))) (qa_cons (qe_var (i := 1) (by kernel_rfl) (.inl (by kernel_rfl))) qa_nil)) rfl) (qa_cons (qe_var (i := 3) (by kernel_rfl) (.inl (by kernel_rfl))) qa_nil)) rfl) (by kernel_rfl) (.inl rfl))
    qss_nil))
    (qss_cons (qs_ret (qe_var (i := 2) (by kernel_rfl) (.inl (by kernel_rfl))))
    qss_nil)))
theorem o_value_at {a : Addr} {fd : FuncData} (FX : Fx K mg) (h_plus : HasFn P w K mg base 2 "plus" ["a", "b"] 2 PF.F_plus) (h_times : HasFn P w K mg base 2 "times" ["a", "b"] 2 PF.F_times) (Fd : FunD K "value_at" "value_at" (defArgs (top 24)) (defBody (top 24)) (defScope (top 24)) [] [] a fd) (hm : mg "value_at" = some (.ref a)) : HasFn P w K mg base 3 "value_at" ["poly", "x"] 4 PF.F_value_at :=
  ⟨a, fd, fn_pure Fd fs_value_at (w_value_at FX h_plus h_times), hm, Fd.kp, Fd.bindsN fun _ _ _ _ _ _ us hl => match us, hl with | [_, _], _ => rfl⟩

/-! ### sign_at -/
theorem nd_sign_at : (["poly", "x"] : List Str).Nodup := by decide +kernel
theorem fs_sign_at : FnScope ["poly", "x"] ["poly", "x"] (defScope (top 29)) := ⟨rfl, rfl, rfl, nd_sign_at, rfl, by decide +kernel, by decide +kernel⟩
theorem w_sign_at {f : Addr} (FX : Fx K mg) (h_sign : HasFn P w K mg base 1 "sign" ["a"] 1 PF.F_sign) (h_value_at : HasFn P w K mg base 3 "value_at" ["poly", "x"] 4 PF.F_value_at) (cdv : Value) (A : Around) (outer : List Env) (s : Shared) (H : Hp) (E : XK) (hr : Room 3 (A.deeper (envOfC "sign_at" (defScope (top 29)) s.heap.objs.size f cdv))) :
    QSs (cxOf (L2.CX P w) P w K mg base ["poly", "x"] "sign_at" (defScope (top 29)) f cdv A outer s H E) (WE0 E) [] (defBody (top 29)) PF.F_sign_at :=
  (qss_cons (qs_if (qt_cmp (opr_eq hr.units) rof2 (qe_var (i := 1) (by kernel_rfl) (.inl (by kernel_rfl))) qe_str rfl) (qss_cons (qs_ret (e_fn h_sign (hr.mono (by decide)) (gl_of (by kernel_rfl)) (takes_of rfl rfl rfl rfl) (qa_cons (qe_ix (ixr_at hr.units) rof2 (qe_var (i := 0) (by kernel_rfl) (.inl (by kernel_rfl))) (qe_un unr_neg rof1 qe_int) (fun _ _ => rfl)) qa_nil) rfl))
    qss_nil) qss_nil)
    (qss_cons (qs_if (qt_cmp (opr_eq hr.units) rof2 (qe_var (i := 1) (by kernel_rfl) (.inl (by kernel_rfl))) qe_str rfl) (qss_cons (qs_ret (qe_if (qt_cmp (opr_eq hr.units) rof2 (qe_op opr_mod rof2 (qe_call callr_len rofN (gl_of (by kernel_rfl)) FX.b_len boot_len (qa_cons (qe_var (i := 0) (by kernel_rfl) (.inl (by kernel_rfl))) qa_nil)) qe_int) qe_int rfl) (e_fn h_sign (hr.mono (by decide)) (gl_of (by kernel_rfl)) (takes_of rfl rfl rfl rfl) (qa_cons (qe_ix (ixr_at hr.units) rof2 (qe_var (i := 0) (by kernel_rfl) (.inl (by kernel_rfl))) (qe_un unr_neg rof1 qe_int) (fun _ _ => rfl)) qa_nil) rfl) (qe_un unr_neg rof1 (e_fn h_sign (hr.mono (by decide)) (gl_of (by kernel_rfl)) (takes_of rfl rfl rfl rfl) (qa_cons (qe_ix (ixr_at hr.units) rof2 (qe_var (i := 0) (by kernel_rfl) (.inl (by kernel_rfl))) (qe_un unr_neg rof1 qe_int) (fun _ _ => rfl)) qa_nil) rfl))))
    qss_nil) qss_nil)
    (qss_cons (qs_ret (e_fn h_sign (hr.mono (by decide)) (gl_of (by kernel_rfl)) (takes_of rfl rfl rfl rfl) (qa_cons (e_fn h_value_at (hr.mono (by decide)) (gl_of (by kernel_rfl)) (takes_of rfl rfl rfl rfl) (qa_cons (qe_var (i := 0) (by kernel_rfl) (.inl (by kernel_rfl))) (qa_cons (qe_var (i := 1) (by kernel_rfl) (.inl (by kernel_rfl))) qa_nil)) rfl) qa_nil) rfl))
    qss_nil)))
theorem o_sign_at {a : Addr} {fd : FuncData} (FX : Fx K mg) (h_sign : HasFn P w K mg base 1 "sign" ["a"] 1 PF.F_sign) (h_value_at : HasFn P w K mg base 3 "value_at" ["poly", "x"] 4 PF.F_value_at) (Fd : FunD K "sign_at" "sign_at" (defArgs (top 29)) (defBody (top 29)) (defScope (top 29)) [] [] a fd) (hm : mg "sign_at" = some (.ref a)) : HasFn P w K mg base 4 "sign_at" ["poly", "x"] 2 PF.F_sign_at :=
  ⟨a, fd, fn_pure Fd fs_sign_at (w_sign_at FX h_sign h_value_at), hm, Fd.kp, Fd.bindsN fun _ _ _ _ _ _ us hl => match us, hl with | [_, _], _ => rfl⟩

/-! ### changes -/
theorem nd_changes : (["rows", "x", "signs", "told", "poly", "a", "b"] : List Str).Nodup := by decide +kernel
theorem fs_changes : FnScope ["rows", "x", "signs", "told", "poly", "a", "b"] ["rows", "x"] (defScope (top 30)) := ⟨rfl, rfl, rfl, nd_changes, rfl, by decide +kernel, by decide +kernel⟩
theorem w_changes {f : Addr} (FX : Fx K mg) (h_sign_at : HasFn P w K mg base 4 "sign_at" ["poly", "x"] 2 PF.F_sign_at) (cdv : Value) (A : Around) (outer : List Env) (s : Shared) (H : Hp) (E : XK) (hr : Room 4 (A.deeper (envOfC "changes" (defScope (top 30)) s.heap.objs.size f cdv))) :
    QSs (cxOf (L2.CX P w) P w K mg base ["rows", "x", "signs", "told", "poly", "a", "b"] "changes" (defScope (top 30)) f cdv A outer s H E) (WE0 E) [] (defBody (top 30)) PF.F_changes :=
  (qss_cons (qs_setLc (i := 2) (own := [("told", 3)]) (by decide) rfl nd_changes (by kernel_rfl) (by kernel_rfl) (L2.sw_true rfl (by kernel_rfl) rfl (by kernel_rfl)) (blkOk_by (by kernel_rfl)) (qib_of (qi_val (qe_lc (own := [("poly", 4)]) rfl nd_changes (blkOk_by (by kernel_rfl)) (qib_of (qi_val (qe_var (i := 0) (by kernel_rfl) (.inl (by kernel_rfl))))) (fun _ _ _ _ _ => (qg_name (i := 4) (hp_own (by decide)) nd_changes (by kernel_rfl) (.inl (by kernel_rfl)) (.inr (by kernel_rfl)))) (fun _ _ _ _ _ => qts_nil) (fun _ _ _ _ _ => (e_fn h_sign_at (hr.mono (by decide)) (gl_of (by kernel_rfl)) L2.takes0 (qa_cons (qe_var (i := 4) (by kernel_rfl) (.inl (by kernel_rfl))) (qa_cons (qe_var (i := 1) (by kernel_rfl) (.inr (.inl (by kernel_rfl)))) qa_nil)) rfl))))) (fun _ _ _ _ _ => (qg_name (i := 3) (hp_own (by decide)) nd_changes (by kernel_rfl) (.inl (by kernel_rfl)) (.inr (by kernel_rfl)))) (fun _ _ _ _ _ => (qts_one (qt_cmp (opr_ne hr.units) rof2 (qe_var (i := 3) (by kernel_rfl) (.inl (by kernel_rfl))) qe_int rfl))) (fun _ _ _ _ _ => (qe_var (i := 3) (by kernel_rfl) (.inl (by kernel_rfl)))))
    (qss_cons (qs_ret (qe_call (callr_sum rfl) rofN (gl_of (by kernel_rfl)) FX.b_sum boot_sum (qa_cons (qe_lc (own := [("a", 5), ("b", 6)]) rfl nd_changes (blkOk_by (by kernel_rfl)) (qib_of (qi_zip2 (gl_of (by kernel_rfl)) FX.b_zip (qa_cons (qe_sl (qe_var (i := 2) (by kernel_rfl) (.inl (by kernel_rfl))) qo_none (qo_some (qe_un unr_neg rof1 qe_int))) (qa_cons (qe_sl (qe_var (i := 2) (by kernel_rfl) (.inl (by kernel_rfl))) (qo_some qe_int) qo_none) qa_nil)))) (fun _ _ _ _ _ => (qg_tup rfl (qgs_cons (qg_name (i := 5) (hp_own (by decide)) nd_changes (by kernel_rfl) (.inl (by kernel_rfl)) (.inr (by kernel_rfl))) (qgs_cons (qg_name (i := 6) (hp_own (by decide)) nd_changes (by kernel_rfl) (.inl (by kernel_rfl)) (.inr (by kernel_rfl))) qgs_nil)))) (fun _ _ _ _ _ => (qts_one (qt_cmp (opr_ne hr.units) rof2 (qe_var (i := 5) (by kernel_rfl) (.inl (by kernel_rfl))) (qe_var (i := 6) (by kernel_rfl) (.inl (by kernel_rfl))) rfl))) (fun _ _ _ _ _ => qe_int)) qa_nil)))
    qss_nil))
theorem o_changes {a : Addr} {fd : FuncData} (FX : Fx K mg) (h_sign_at : HasFn P w K mg base 4 "sign_at" ["poly", "x"] 2 PF.F_sign_at) (Fd : FunD K "changes" "changes" (defArgs (top 30)) (defBody (top 30)) (defScope (top 30)) [] [] a fd) (hm : mg "changes" = some (.ref a)) : HasFn P w K mg base 5 "changes" ["rows", "x"] 7 PF.F_changes :=
  ⟨a, fd, fn_pure Fd fs_changes (w_changes FX h_sign_at), hm, Fd.kp, Fd.bindsN fun _ _ _ _ _ _ us hl => match us, hl with | [_, _], _ => rfl⟩

/-! ### is_share -/
theorem nd_is_share : (["a"] : List Str).Nodup := by decide +kernel
theorem fs_is_share : FnScope ["a"] ["a"] (defScope (top 15)) := ⟨rfl, rfl, rfl, nd_is_share, rfl, by decide +kernel, by decide +kernel⟩
theorem w_is_share {f : Addr} (FX : Fx K mg) (h_share : HasFn P w K mg base 1 "share" ["n", "d"] 4 PF.F_share) (cdv : Value) (A : Around) (outer : List Env) (s : Shared) (H : Hp) (E : XK) (hr : Room 1 (A.deeper (envOfC "is_share" (defScope (top 15)) s.heap.objs.size f cdv))) :
    QSs (cxOf (L2.CX P w) P w K mg base ["a"] "is_share" (defScope (top 15)) f cdv A outer s H E) (WE0 E) [] (defBody (top 15)) PF.F_is_share :=
  (qss_cons (qs_ret (qe_and (qe_cmp opr_gt rof2 (qe_ix (ixr_at hr.units) rof2 (qe_var (i := 0) (by kernel_rfl) (.inl (by kernel_rfl))) qe_int (fun _ _ => rfl)) qe_int rfl) (qe_one (qe_cmp (opr_eq hr.units) rof2 (e_fn h_share (hr.mono (by decide)) (gl_of (by kernel_rfl)) (takes_of rfl rfl rfl rfl) (qa_cons (qe_ix (ixr_at hr.units) rof2 (qe_var (i := 0) (by kernel_rfl) (.inl (by kernel_rfl))) qe_int (fun _ _ => rfl)) (qa_cons (qe_ix (ixr_at hr.units) rof2 (qe_var (i := 0) (by kernel_rfl) (.inl (by kernel_rfl))) qe_int (fun _ _ => rfl)) qa_nil)) rfl) (qe_tup (qa_cons (qe_ix (ixr_at hr.units) rof2 (qe_var (i := 0) (by kernel_rfl) (.inl (by kernel_rfl))) qe_int (fun _ _ => rfl)) (qa_cons (qe_ix (ixr_at hr.units) rof2 (qe_var (i := 0) (by kernel_rfl) (.inl (by kernel_rfl))) qe_int (fun _ _ => rfl)) qa_nil))) rfl))))
    qss_nil)
theorem o_is_share {a : Addr} {fd : FuncData} (FX : Fx K mg) (h_share : HasFn P w K mg base 1 "share" ["n", "d"] 4 PF.F_share) (Fd : FunD K "is_share" "is_share" (defArgs (top 15)) (defBody (top 15)) (defScope (top 15)) [] [] a fd) (hm : mg "is_share" = some (.ref a)) : HasFn P w K mg base 2 "is_share" ["a"] 1 PF.F_is_share :=
  ⟨a, fd, fn_pure Fd fs_is_share (w_is_share FX h_share), hm, Fd.kp, Fd.bindsN fun _ _ _ _ _ _ us hl => match us, hl with | [_], _ => rfl⟩

/-! ### check_poly -/
theorem nd_check_poly : (["poly", "a"] : List Str).Nodup := by decide +kernel
theorem fs_check_poly : FnScope ["poly", "a"] ["poly"] (defScope (top 18)) := ⟨rfl, rfl, rfl, nd_check_poly, rfl, by decide +kernel, by decide +kernel⟩
theorem w_check_poly {f : Addr} (FX : Fx K mg) (h_is_share : HasFn P w K mg base 2 "is_share" ["a"] 1 PF.F_is_share) (cdv : Value) (A : Around) (outer : List Env) (s : Shared) (H : Hp) (E : XK) (hr : Room 2 (A.deeper (envOfC "check_poly" (defScope (top 18)) s.heap.objs.size f cdv))) :
    QSs (cxOf (L2.CX P w) P w K mg base ["poly", "a"] "check_poly" (defScope (top 18)) f cdv A outer s H E) (WE0 E) [] (defBody (top 18)) PF.F_check_poly :=
  (qss_cons (qs_if (qt_of (qw_or (qt_cmp opr_gt rof2 (qe_call callr_len rofN (gl_of (by kernel_rfl)) FX.b_len boot_len (qa_cons (qe_var (i := 0) (by kernel_rfl) (.inl (by kernel_rfl))) qa_nil)) (qe_op opr_add rof2 (glob_int (gl_of (by kernel_rfl)) FX.c_MOST_DEGREE) qe_int) rfl) (qw_or (qt_not (qt_truth (qe_call (callr_all rfl) rofN (gl_of (by kernel_rfl)) FX.b_all boot_all (qa_cons (qe_lc (own := [("a", 1)]) rfl nd_check_poly (blkOk_by (by kernel_rfl)) (qib_of (qi_val (qe_var (i := 0) (by kernel_rfl) (.inl (by kernel_rfl))))) (fun _ _ _ _ _ => (qg_name (i := 1) (hp_own (by decide)) nd_check_poly (by kernel_rfl) (.inl (by kernel_rfl)) (.inr (by kernel_rfl)))) (fun _ _ _ _ _ => qts_nil) (fun _ _ _ _ _ => (e_fn h_is_share (hr.mono (by decide)) (gl_of (by kernel_rfl)) L2.takes0 (qa_cons (qe_var (i := 1) (by kernel_rfl) (.inl (by kernel_rfl))) qa_nil) rfl))) qa_nil)))) (qw_or1 (qt_of (qw_and (qt_cmp opr_gt rof2 (qe_call callr_len rofN (gl_of (by kernel_rfl)) FX.b_len boot_len (qa_cons (qe_var (i := 0) (by kernel_rfl) (.inl (by kernel_rfl))) qa_nil)) qe_int rfl) (qw_and1 (qt_cmp (opr_eq hr.units) rof2 (qe_ix (ixr_at hr.units) rof2 (qe_var (i := 0) (by kernel_rfl) (.inl (by kernel_rfl))) (qe_un unr_neg rof1 qe_int) (fun _ _ => rfl)) (glob_con (gl_of (by kernel_rfl)) FX.t_ZERO) rfl)))))))) (qss_cons (s_raise FX.x_InvalidPoly rfl (takes_of rfl rfl rfl rfl) (gl_of (by kernel_rfl)))
    qss_nil) qss_nil)
    qss_nil)
theorem o_check_poly {a : Addr} {fd : FuncData} (FX : Fx K mg) (h_is_share : HasFn P w K mg base 2 "is_share" ["a"] 1 PF.F_is_share) (Fd : FunD K "check_poly" "check_poly" (defArgs (top 18)) (defBody (top 18)) (defScope (top 18)) [] [] a fd) (hm : mg "check_poly" = some (.ref a)) : HasFn P w K mg base 3 "check_poly" ["poly"] 2 PF.F_check_poly :=
  ⟨a, fd, fn_pure Fd fs_check_poly (w_check_poly FX h_is_share), hm, Fd.kp, Fd.bindsN fun _ _ _ _ _ _ us hl => match us, hl with | [_], _ => rfl⟩

/-! ### whole -/
theorem nd_whole : (["n"] : List Str).Nodup := by decide +kernel
theorem fs_whole : FnScope ["n"] ["n"] (defScope (top 8)) := ⟨rfl, rfl, rfl, nd_whole, rfl, by decide +kernel, by decide +kernel⟩
theorem w_whole {f : Addr} (FX : Fx K mg)  (cdv : Value) (A : Around) (outer : List Env) (s : Shared) (H : Hp) (E : XK) (hr : Room 0 (A.deeper (envOfC "whole" (defScope (top 8)) s.heap.objs.size f cdv))) :
    QSs (cxOf (L2.CX P w) P w K mg base ["n"] "whole" (defScope (top 8)) f cdv A outer s H E) (WE0 E) [] (defBody (top 8)) PF.F_whole :=
  (qss_cons (qs_ret (qe_tup (qa_cons (qe_var (i := 0) (by kernel_rfl) (.inl (by kernel_rfl))) (qa_cons qe_int qa_nil))))
    qss_nil)
theorem o_whole {a : Addr} {fd : FuncData} (FX : Fx K mg)  (Fd : FunD K "whole" "whole" (defArgs (top 8)) (defBody (top 8)) (defScope (top 8)) [] [] a fd) (hm : mg "whole" = some (.ref a)) : HasFn P w K mg base 1 "whole" ["n"] 1 PF.F_whole :=
  ⟨a, fd, fn_pure Fd fs_whole (w_whole FX ), hm, Fd.kp, Fd.bindsN fun _ _ _ _ _ _ us hl => match us, hl with | [_], _ => rfl⟩

/-! ### slope -/
theorem nd_slope : (["poly", "k"] : List Str).Nodup := by decide +kernel
theorem fs_slope : FnScope ["poly", "k"] ["poly"] (defScope (top 25)) := ⟨rfl, rfl, rfl, nd_slope, rfl, by decide +kernel, by decide +kernel⟩
theorem w_slope {f : Addr} (FX : Fx K mg) (h_tidy : HasFn P w K mg base 1 "tidy" ["row"] 2 PF.F_tidy) (h_times : HasFn P w K mg base 2 "times" ["a", "b"] 2 PF.F_times) (h_whole : HasFn P w K mg base 1 "whole" ["n"] 1 PF.F_whole) (cdv : Value) (A : Around) (outer : List Env) (s : Shared) (H : Hp) (E : XK) (hr : Room 2 (A.deeper (envOfC "slope" (defScope (top 25)) s.heap.objs.size f cdv))) :
    QSs (cxOf (L2.CX P w) P w K mg base ["poly", "k"] "slope" (defScope (top 25)) f cdv A outer s H E) (WE0 E) [] (defBody (top 25)) PF.F_slope :=
  (qss_cons (qs_ret (e_fn h_tidy (hr.mono (by decide)) (gl_of (by kernel_rfl)) (takes_of rfl rfl rfl rfl) (qa_cons (qe_lc (own := [("k", 1)]) rfl nd_slope (blkOk_by (by kernel_rfl)) (qib_of (qi_val (qe_callT callr_range rofN (gl_of (by kernel_rfl)) FX.b_range boot_range (qa_cons qe_int (qa_cons (qe_call callr_len rofN (gl_of (by kernel_rfl)) FX.b_len boot_len (qa_cons (qe_var (i := 0) (by kernel_rfl) (.inr (.inl (by kernel_rfl)))) qa_nil)) qa_nil))))) (fun _ _ _ _ _ => (qg_name (i := 1) (hp_own (by decide)) nd_slope (by kernel_rfl) (.inl (by kernel_rfl)) (.inr (by kernel_rfl)))) (fun _ _ _ _ _ => qts_nil) (fun _ _ _ _ _ => (e_fn h_times (hr.mono (by decide)) (gl_of (by kernel_rfl)) L2.takes0 (qa_cons (e_fn h_whole (hr.mono (by decide)) (gl_of (by kernel_rfl)) L2.takes0 (qa_cons (qe_var (i := 1) (by kernel_rfl) (.inl (by kernel_rfl))) qa_nil) rfl) (qa_cons (qe_ix (ixr_at hr.units) rof2 (qe_var (i := 0) (by kernel_rfl) (.inr (.inl (by kernel_rfl)))) (qe_var (i := 1) (by kernel_rfl) (.inl (by kernel_rfl))) (fun _ _ => rfl)) qa_nil)) rfl))) qa_nil) rfl))
    qss_nil)
theorem o_slope {a : Addr} {fd : FuncData} (FX : Fx K mg) (h_tidy : HasFn P w K mg base 1 "tidy" ["row"] 2 PF.F_tidy) (h_times : HasFn P w K mg base 2 "times" ["a", "b"] 2 PF.F_times) (h_whole : HasFn P w K mg base 1 "whole" ["n"] 1 PF.F_whole) (Fd : FunD K "slope" "slope" (defArgs (top 25)) (defBody (top 25)) (defScope (top 25)) [] [] a fd) (hm : mg "slope" = some (.ref a)) : HasFn P w K mg base 3 "slope" ["poly"] 2 PF.F_slope :=
  ⟨a, fd, fn_pure Fd fs_slope (w_slope FX h_tidy h_times h_whole), hm, Fd.kp, Fd.bindsN fun _ _ _ _ _ _ us hl => match us, hl with | [_], _ => rfl⟩

/-! ### root_count -/
theorem nd_root_count : (["poly", "low", "high", "plain", "rows"] : List Str).Nodup := by decide +kernel
theorem fs_root_count : FnScope ["poly", "low", "high", "plain", "rows"] ["poly", "low", "high"] (defScope (top 31)) := ⟨rfl, rfl, rfl, nd_root_count, rfl, by decide +kernel, by decide +kernel⟩
theorem w_root_count {f : Addr} (FX : Fx K mg) (h_chain : HasFn P w K mg base 4 "chain" ["one", "other"] 3 PF.F_chain) (h_changes : HasFn P w K mg base 5 "changes" ["rows", "x"] 7 PF.F_changes) (h_check_poly : HasFn P w K mg base 3 "check_poly" ["poly"] 2 PF.F_check_poly) (h_common : HasFn P w K mg base 5 "common" ["one", "other"] 2 PF.F_common) (h_divided : HasFn P w K mg base 3 "divided" ["one", "other"] 7 PF.F_divided) (h_less : HasFn P w K mg base 1 "less" ["a", "b"] 2 PF.F_less) (h_slope : HasFn P w K mg base 3 "slope" ["poly"] 2 PF.F_slope) (cdv : Value) (A : Around) (outer : List Env) (s : Shared) (H : Hp) (E : XK) (hr : Room 5 (A.deeper (envOfC "root_count" (defScope (top 31)) s.heap.objs.size f cdv))) :
    QSs (cxOf (L2.CX P w) P w K mg base ["poly", "low", "high", "plain", "rows"] "root_count" (defScope (top 31)) f cdv A outer s H E) (WE0 E) [] (defBody (top 31)) PF.F_root_count :=
  (qss_cons (qs_expr (e_fn h_check_poly (hr.mono (by decide)) (gl_of (by kernel_rfl)) (takes_of rfl rfl rfl rfl) (qa_cons (qe_var (i := 0) (by kernel_rfl) (.inl (by kernel_rfl))) qa_nil) rfl))
    (qss_cons (qs_if (qt_not (qt_truth (qe_var (i := 0) (by kernel_rfl) (.inl (by kernel_rfl))))) (qss_cons (s_raise FX.x_InvalidPoly rfl (takes_of rfl rfl rfl rfl) (gl_of (by kernel_rfl)))
    qss_nil) qss_nil)
    (qss_cons (qs_if (qt_of (qw_and (qt_cmp (opr_ne hr.units) rof2 (qe_var (i := 1) (by kernel_rfl) (.inl (by kernel_rfl))) qe_str rfl) (qw_and (qt_cmp (opr_ne hr.units) rof2 (qe_var (i := 2) (by kernel_rfl) (.inl (by kernel_rfl))) qe_str rfl) (qw_and1 (qt_truth (e_fn h_less (hr.mono (by decide)) (gl_of (by kernel_rfl)) (takes_of rfl rfl rfl rfl) (qa_cons (qe_var (i := 2) (by kernel_rfl) (.inl (by kernel_rfl))) (qa_cons (qe_var (i := 1) (by kernel_rfl) (.inl (by kernel_rfl))) qa_nil)) rfl)))))) (qss_cons (s_raise FX.x_InvalidPoly rfl (takes_of rfl rfl rfl rfl) (gl_of (by kernel_rfl)))
    qss_nil) qss_nil)
    (qss_cons (qs_set (i := 3) (by decide) nd_root_count (by kernel_rfl) (.inl (by kernel_rfl)) (qe_if (qt_cmp opr_gt rof2 (qe_call callr_len rofN (gl_of (by kernel_rfl)) FX.b_len boot_len (qa_cons (qe_var (i := 0) (by kernel_rfl) (.inl (by kernel_rfl))) qa_nil)) qe_int rfl) (qe_ix (ixr_at hr.units) rof2 (e_fn h_divided (hr.mono (by decide)) (gl_of (by kernel_rfl)) (takes_of rfl rfl rfl rfl) (qa_cons (qe_var (i := 0) (by kernel_rfl) (.inl (by kernel_rfl))) (qa_cons (e_fn h_common (hr.mono (by decide)) (gl_of (by kernel_rfl)) (takes_of rfl rfl rfl rfl) (qa_cons (qe_var (i := 0) (by kernel_rfl) (.inl (by kernel_rfl))) (qa_cons (e_fn h_slope (hr.mono (by decide)) (gl_of (by kernel_rfl)) (takes_of rfl rfl rfl rfl) (qa_cons (qe_var (i := 0) (by kernel_rfl) (.inl (by kernel_rfl))) qa_nil) rfl) qa_nil)) rfl) qa_nil)) rfl) qe_int (fun _ _ => rfl)) (qe_var (i := 0) (by kernel_rfl) (.inl (by kernel_rfl)))) (by kernel_rfl) (.inl rfl))
    (qss_cons (qs_set (i := 4) (by decide) nd_root_count (by kernel_rfl) (.inl (by kernel_rfl)) (e_fn h_chain (hr.mono (by decide)) (gl_of (by kernel_rfl)) (takes_of rfl rfl rfl rfl) (qa_cons (qe_var (i := 3) (by kernel_rfl) (.inl (by kernel_rfl))) (qa_cons (e_fn h_slope (hr.mono (by decide)) (gl_of (by kernel_rfl)) (takes_of rfl rfl rfl rfl) (qa_cons (qe_var (i := 3) (by kernel_rfl) (.inl (by kernel_rfl))) qa_nil) rfl) qa_nil)) rfl) (by kernel_rfl) (.inl rfl))
    (qss_cons (qs_ret (qe_op opr_sub rof2 (e_fn h_changes (hr.mono (by decide)) (gl_of (by kernel_rfl)) (takes_of rfl rfl rfl rfl) (qa_cons (qe_var (i := 4) (by kernel_rfl) (.inl (by kernel_rfl))) (qa_cons (qe_var (i := 1) (by kernel_rfl) (.inl (by kernel_rfl))) qa_nil)) rfl) (e_fn h_changes (hr.mono (by decide)) (gl_of (by kernel_rfl)) (takes_of rfl rfl rfl rfl) (qa_cons (qe_var (i := 4) (by kernel_rfl) (.inl (by kernel_rfl))) (qa_cons (qe_var (i := 2) (by kernel_rfl) (.inl (by kernel_rfl))) qa_nil)) rfl)))
    qss_nil))))))
theorem o_root_count {a : Addr} {fd : FuncData} (FX : Fx K mg) (h_chain : HasFn P w K mg base 4 "chain" ["one", "other"] 3 PF.F_chain) (h_changes : HasFn P w K mg base 5 "changes" ["rows", "x"] 7 PF.F_changes) (h_check_poly : HasFn P w K mg base 3 "check_poly" ["poly"] 2 PF.F_check_poly) (h_common : HasFn P w K mg base 5 "common" ["one", "other"] 2 PF.F_common) (h_divided : HasFn P w K mg base 3 "divided" ["one", "other"] 7 PF.F_divided) (h_less : HasFn P w K mg base 1 "less" ["a", "b"] 2 PF.F_less) (h_slope : HasFn P w K mg base 3 "slope" ["poly"] 2 PF.F_slope) (Fd : FunD K "root_count" "root_count" (defArgs (top 31)) (defBody (top 31)) (defScope (top 31)) [] [] a fd) (hm : mg "root_count" = some (.ref a)) : HasFn P w K mg base 6 "root_count" ["poly", "low", "high"] 5 PF.F_root_count :=
  ⟨a, fd, fn_pure Fd fs_root_count (w_root_count FX h_chain h_changes h_check_poly h_common h_divided h_less h_slope), hm, Fd.kp, Fd.bindsN fun _ _ _ _ _ _ us hl => match us, hl with | [_, _, _], _ => rfl⟩

/-! ### all_count -/
theorem nd_all_count : (["poly", "low", "high", "total"] : List Str).Nodup := by decide +kernel
theorem fs_all_count : FnScope ["poly", "low", "high", "total"] ["poly", "low", "high"] (defScope (top 32)) := ⟨rfl, rfl, rfl, nd_all_count, rfl, by decide +kernel, by decide +kernel⟩
theorem w_all_count {f : Addr} (FX : Fx K mg) (h_common : HasFn P w K mg base 5 "common" ["one", "other"] 2 PF.F_common) (h_root_count : HasFn P w K mg base 6 "root_count" ["poly", "low", "high"] 5 PF.F_root_count) (h_slope : HasFn P w K mg base 3 "slope" ["poly"] 2 PF.F_slope) (cdv : Value) (A : Around) (outer : List Env) (s : Shared) (H : Hp) (E : XK) (hr : Room 6 (A.deeper (envOfC "all_count" (defScope (top 32)) s.heap.objs.size f cdv))) :
    QSs (cxOf (L2.CX P w) P w K mg base ["poly", "low", "high", "total"] "all_count" (defScope (top 32)) f cdv A outer s H E) (WE0 E) [] (defBody (top 32)) PF.F_all_count :=
  (qss_cons (qs_set (i := 3) (by decide) nd_all_count (by kernel_rfl) (.inl (by kernel_rfl)) qe_int (by kernel_rfl) (.inl rfl))
    (qss_cons (qs_while (L2.passes_of rfl) (qt_cmp opr_gt rof2 (qe_call callr_len rofN (gl_of (by kernel_rfl)) FX.b_len boot_len (qa_cons (qe_var (i := 0) (by kernel_rfl) (.inl (by kernel_rfl))) qa_nil)) qe_int rfl) (qss_cons (qs_aug (i := 3) (by decide) nd_all_count (by kernel_rfl) (.inl (by kernel_rfl)) (e_fn h_root_count (hr.mono (by decide)) (gl_of (by kernel_rfl)) (takes_of rfl rfl rfl rfl) (qa_cons (qe_var (i := 0) (by kernel_rfl) (.inl (by kernel_rfl))) (qa_cons (qe_var (i := 1) (by kernel_rfl) (.inl (by kernel_rfl))) (qa_cons (qe_var (i := 2) (by kernel_rfl) (.inl (by kernel_rfl))) qa_nil))) rfl) opi_add rof2)
    (qss_cons (qs_set (i := 0) (by decide) nd_all_count (by kernel_rfl) (.inl (by kernel_rfl)) (e_fn h_common (hr.mono (by decide)) (gl_of (by kernel_rfl)) (takes_of rfl rfl rfl rfl) (qa_cons (qe_var (i := 0) (by kernel_rfl) (.inl (by kernel_rfl))) (qa_cons (e_fn h_slope (hr.mono (by decide)) (gl_of (by kernel_rfl)) (takes_of rfl rfl rfl rfl) (qa_cons (qe_var (i := 0) (by kernel_rfl) (.inl (by kernel_rfl))) qa_nil) rfl) qa_nil)) rfl) (by kernel_rfl) (.inl rfl))
    qss_nil)))
    (qss_cons (qs_ret (qe_var (i := 3) (by kernel_rfl) (.inl (by kernel_rfl))))
    qss_nil)))
theorem o_all_count {a : Addr} {fd : FuncData} (FX : Fx K mg) (h_common : HasFn P w K mg base 5 "common" ["one", "other"] 2 PF.F_common) (h_root_count : HasFn P w K mg base 6 "root_count" ["poly", "low", "high"] 5 PF.F_root_count) (h_slope : HasFn P w K mg base 3 "slope" ["poly"] 2 PF.F_slope) (Fd : FunD K "all_count" "all_count" (defArgs (top 32)) (defBody (top 32)) (defScope (top 32)) [] [] a fd) (hm : mg "all_count" = some (.ref a)) : HasFn P w K mg base 7 "all_count" ["poly", "low", "high"] 4 PF.F_all_count :=
  ⟨a, fd, fn_pure Fd fs_all_count (w_all_count FX h_common h_root_count h_slope), hm, Fd.kp, Fd.bindsN fun _ _ _ _ _ _ us hl => match us, hl with | [_, _, _], _ => rfl⟩

/-! ### axis_count -/
theorem nd_axis_count : (["poly", "first", "squares", "k"] : List Str).Nodup := by decide +kernel
theorem fs_axis_count : FnScope ["poly", "first", "squares", "k"] ["poly"] (defScope (top 36)) := ⟨rfl, rfl, rfl, nd_axis_count, rfl, by decide +kernel, by decide +kernel⟩
theorem w_axis_count {f : Addr} (FX : Fx K mg) (h_all_count : HasFn P w K mg base 7 "all_count" ["poly", "low", "high"] 4 PF.F_all_count) (h_tidy : HasFn P w K mg base 1 "tidy" ["row"] 2 PF.F_tidy) (cdv : Value) (A : Around) (outer : List Env) (s : Shared) (H : Hp) (E : XK) (hr : Room 7 (A.deeper (envOfC "axis_count" (defScope (top 36)) s.heap.objs.size f cdv))) :
    QSs (cxOf (L2.CX P w) P w K mg base ["poly", "first", "squares", "k"] "axis_count" (defScope (top 36)) f cdv A outer s H E) (WE0 E) [] (defBody (top 36)) PF.F_axis_count :=
  (qss_cons (qs_set (i := 1) (by decide) nd_axis_count (by kernel_rfl) (.inl (by kernel_rfl)) qe_int (by kernel_rfl) (.inl rfl))
    (qss_cons (qs_while (L2.passes_of rfl) (qt_cmp (opr_eq hr.units) rof2 (qe_ix (ixr_at hr.units) rof2 (qe_var (i := 0) (by kernel_rfl) (.inr (.inl (by kernel_rfl)))) (qe_var (i := 1) (by kernel_rfl) (.inl (by kernel_rfl))) (fun _ _ => rfl)) (glob_con (gl_of (by kernel_rfl)) FX.t_ZERO) rfl) (qss_cons (qs_aug (i := 1) (by decide) nd_axis_count (by kernel_rfl) (.inl (by kernel_rfl)) qe_int opi_add rof2)
    qss_nil))
    (qss_cons (qs_set (i := 2) (by decide) nd_axis_count (by kernel_rfl) (.inl (by kernel_rfl)) (e_fn h_tidy (hr.mono (by decide)) (gl_of (by kernel_rfl)) (takes_of rfl rfl rfl rfl) (qa_cons (qe_lc (own := [("k", 3)]) rfl nd_axis_count (blkOk_by (by kernel_rfl)) (qib_of (qi_rg3 (gl_of (by kernel_rfl)) FX.b_range (qa_cons (qe_var (i := 1) (by kernel_rfl) (.inl (by kernel_rfl))) (qa_cons (qe_call callr_len rofN (gl_of (by kernel_rfl)) FX.b_len boot_len (qa_cons (qe_var (i := 0) (by kernel_rfl) (.inr (.inl (by kernel_rfl)))) qa_nil)) (qa_cons qe_int qa_nil))))) (fun _ _ _ _ _ => (qg_name (i := 3) (hp_own (by decide)) nd_axis_count (by kernel_rfl) (.inl (by kernel_rfl)) (.inr (by kernel_rfl)))) (fun _ _ _ _ _ => qts_nil) (fun _ _ _ _ _ => (qe_ix (ixr_at hr.units) rof2 (qe_var (i := 0) (by kernel_rfl) (.inr (.inl (by kernel_rfl)))) (qe_var (i := 3) (by kernel_rfl) (.inl (by kernel_rfl))) (fun _ _ => rfl)))) qa_nil) rfl) (by kernel_rfl) (.inl rfl))
    (qss_cons (qs_ret (qe_op opr_add rof2 (qe_var (i := 1) (by kernel_rfl) (.inl (by kernel_rfl))) (qe_op opr_mul rof2 qe_int (e_fn h_all_count (hr.mono (by decide)) (gl_of (by kernel_rfl)) (takes_of rfl rfl rfl rfl) (qa_cons (qe_var (i := 2) (by kernel_rfl) (.inl (by kernel_rfl))) (qa_cons qe_str (qa_cons (glob_con (gl_of (by kernel_rfl)) FX.t_ZERO) qa_nil))) rfl))))
    qss_nil))))
theorem o_axis_count {a : Addr} {fd : FuncData} (FX : Fx K mg) (h_all_count : HasFn P w K mg base 7 "all_count" ["poly", "low", "high"] 4 PF.F_all_count) (h_tidy : HasFn P w K mg base 1 "tidy" ["row"] 2 PF.F_tidy) (Fd : FunD K "axis_count" "axis_count" (defArgs (top 36)) (defBody (top 36)) (defScope (top 36)) [] [] a fd) (hm : mg "axis_count" = some (.ref a)) : HasFn P w K mg base 8 "axis_count" ["poly"] 4 PF.F_axis_count :=
  ⟨a, fd, fn_pure Fd fs_axis_count (w_axis_count FX h_all_count h_tidy), hm, Fd.kp, Fd.bindsN fun _ _ _ _ _ _ us hl => match us, hl with | [_], _ => rfl⟩

/-! ### axis_parts -/
theorem nd_axis_parts : (["poly", "even", "odd", "k", "a", "b"] : List Str).Nodup := by decide +kernel
theorem fs_axis_parts : FnScope ["poly", "even", "odd", "k", "a", "b"] ["poly"] (defScope (top 34)) := ⟨rfl, rfl, rfl, nd_axis_parts, rfl, by decide +kernel, by decide +kernel⟩
theorem w_axis_parts {f : Addr} (FX : Fx K mg) (h_tidy : HasFn P w K mg base 1 "tidy" ["row"] 2 PF.F_tidy) (h_times : HasFn P w K mg base 2 "times" ["a", "b"] 2 PF.F_times) (cdv : Value) (A : Around) (outer : List Env) (s : Shared) (H : Hp) (E : XK) (hr : Room 2 (A.deeper (envOfC "axis_parts" (defScope (top 34)) s.heap.objs.size f cdv))) :
    QSs (cxOf (L2.CX P w) P w K mg base ["poly", "even", "odd", "k", "a", "b"] "axis_parts" (defScope (top 34)) f cdv A outer s H E) (WE0 E) [] (defBody (top 34)) PF.F_axis_parts :=
  (qss_cons (qs_setLc (i := 1) (own := [("k", 3)]) (by decide) rfl nd_axis_parts (by kernel_rfl) (by kernel_rfl) (L2.sw_true rfl (by kernel_rfl) rfl (by kernel_rfl)) (blkOk_by (by kernel_rfl)) (qib_of (qi_val (qe_callT callr_range rofN (gl_of (by kernel_rfl)) FX.b_range boot_range (qa_cons (qe_call callr_len rofN (gl_of (by kernel_rfl)) FX.b_len boot_len (qa_cons (qe_var (i := 0) (by kernel_rfl) (.inl (by kernel_rfl))) qa_nil)) qa_nil)))) (fun _ _ _ _ _ => (qg_name (i := 3) (hp_own (by decide)) nd_axis_parts (by kernel_rfl) (.inl (by kernel_rfl)) (.inr (by kernel_rfl)))) (fun _ _ _ _ _ => qts_nil) (fun _ _ _ _ _ => (qe_ix (ixr_at hr.units) rof2 (qe_lst (qa_cons (glob_con (gl_of (by kernel_rfl)) FX.t_ONE) (qa_cons (glob_con (gl_of (by kernel_rfl)) FX.t_ZERO) (qa_cons (qe_tup (qa_cons (qe_un unr_neg rof1 qe_int) (qa_cons qe_int qa_nil))) (qa_cons (glob_con (gl_of (by kernel_rfl)) FX.t_ZERO) qa_nil))))) (qe_op opr_mod rof2 (qe_var (i := 3) (by kernel_rfl) (.inl (by kernel_rfl))) qe_int) (fun _ _ => rfl))))
    (qss_cons (qs_setLc (i := 2) (own := [("k", 3)]) (by decide) rfl nd_axis_parts (by kernel_rfl) (by kernel_rfl) (L2.sw_true rfl (by kernel_rfl) rfl (by kernel_rfl)) (blkOk_by (by kernel_rfl)) (qib_of (qi_val (qe_callT callr_range rofN (gl_of (by kernel_rfl)) FX.b_range boot_range (qa_cons (qe_call callr_len rofN (gl_of (by kernel_rfl)) FX.b_len boot_len (qa_cons (qe_var (i := 0) (by kernel_rfl) (.inl (by kernel_rfl))) qa_nil)) qa_nil)))) (fun _ _ _ _ _ => (qg_name (i := 3) (hp_own (by decide)) nd_axis_parts (by kernel_rfl) (.inl (by kernel_rfl)) (.inr (by kernel_rfl)))) (fun _ _ _ _ _ => qts_nil) (fun _ _ _ _ _ => (qe_ix (ixr_at hr.units) rof2 (qe_lst (qa_cons (glob_con (gl_of (by kernel_rfl)) FX.t_ZERO) (qa_cons (glob_con (gl_of (by kernel_rfl)) FX.t_ONE) (qa_cons (glob_con (gl_of (by kernel_rfl)) FX.t_ZERO) (qa_cons (qe_tup (qa_cons (qe_un unr_neg rof1 qe_int) (qa_cons qe_int qa_nil))) qa_nil))))) (qe_op opr_mod rof2 (qe_var (i := 3) (by kernel_rfl) (.inl (by kernel_rfl))) qe_int) (fun _ _ => rfl))))
    (qss_cons (qs_ret (qe_tup (qa_cons (e_fn h_tidy (hr.mono (by decide)) (gl_of (by kernel_rfl)) (takes_of rfl rfl rfl rfl) (qa_cons (qe_lc (own := [("a", 4), ("b", 5)]) rfl nd_axis_parts (blkOk_by (by kernel_rfl)) (qib_of (qi_zip2 (gl_of (by kernel_rfl)) FX.b_zip (qa_cons (qe_var (i := 1) (by kernel_rfl) (.inl (by kernel_rfl))) (qa_cons (qe_var (i := 0) (by kernel_rfl) (.inl (by kernel_rfl))) qa_nil)))) (fun _ _ _ _ _ => (qg_tup rfl (qgs_cons (qg_name (i := 4) (hp_own (by decide)) nd_axis_parts (by kernel_rfl) (.inl (by kernel_rfl)) (.inr (by kernel_rfl))) (qgs_cons (qg_name (i := 5) (hp_own (by decide)) nd_axis_parts (by kernel_rfl) (.inl (by kernel_rfl)) (.inr (by kernel_rfl))) qgs_nil)))) (fun _ _ _ _ _ => qts_nil) (fun _ _ _ _ _ => (e_fn h_times (hr.mono (by decide)) (gl_of (by kernel_rfl)) L2.takes0 (qa_cons (qe_var (i := 4) (by kernel_rfl) (.inl (by kernel_rfl))) (qa_cons (qe_var (i := 5) (by kernel_rfl) (.inl (by kernel_rfl))) qa_nil)) rfl))) qa_nil) rfl) (qa_cons (e_fn h_tidy (hr.mono (by decide)) (gl_of (by kernel_rfl)) (takes_of rfl rfl rfl rfl) (qa_cons (qe_lc (own := [("a", 4), ("b", 5)]) rfl nd_axis_parts (blkOk_by (by kernel_rfl)) (qib_of (qi_zip2 (gl_of (by kernel_rfl)) FX.b_zip (qa_cons (qe_var (i := 2) (by kernel_rfl) (.inl (by kernel_rfl))) (qa_cons (qe_var (i := 0) (by kernel_rfl) (.inl (by kernel_rfl))) qa_nil)))) (fun _ _ _ _ _ => (qg_tup rfl (qgs_cons (qg_name (i := 4) (hp_own (by decide)) nd_axis_parts (by kernel_rfl) (.inl (by kernel_rfl)) (.inr (by kernel_rfl))) (qgs_cons (qg_name (i := 5) (hp_own (by decide)) nd_axis_parts (by kernel_rfl) (.inl (by kernel_rfl)) (.inr (by kernel_rfl))) qgs_nil)))) (fun _ _ _ _ _ => qts_nil) (fun _ _ _ _ _ => (e_fn h_times (hr.mono (by decide)) (gl_of (by kernel_rfl)) L2.takes0 (qa_cons (qe_var (i := 4) (by kernel_rfl) (.inl (by kernel_rfl))) (qa_cons (qe_var (i := 5) (by kernel_rfl) (.inl (by kernel_rfl))) qa_nil)) rfl))) qa_nil) rfl) qa_nil))))
    qss_nil)))
theorem o_axis_parts {a : Addr} {fd : FuncData} (FX : Fx K mg) (h_tidy : HasFn P w K mg base 1 "tidy" ["row"] 2 PF.F_tidy) (h_times : HasFn P w K mg base 2 "times" ["a", "b"] 2 PF.F_times) (Fd : FunD K "axis_parts" "axis_parts" (defArgs (top 34)) (defBody (top 34)) (defScope (top 34)) [] [] a fd) (hm : mg "axis_parts" = some (.ref a)) : HasFn P w K mg base 3 "axis_parts" ["poly"] 6 PF.F_axis_parts :=
  ⟨a, fd, fn_pure Fd fs_axis_parts (w_axis_parts FX h_tidy h_times), hm, Fd.kp, Fd.bindsN fun _ _ _ _ _ _ us hl => match us, hl with | [_], _ => rfl⟩

/-! ### jumps -/
theorem nd_jumps : (["above", "under", "rows"] : List Str).Nodup := by decide +kernel
theorem fs_jumps : FnScope ["above", "under", "rows"] ["above", "under"] (defScope (top 33)) := ⟨rfl, rfl, rfl, nd_jumps, rfl, by decide +kernel, by decide +kernel⟩
theorem w_jumps {f : Addr} (FX : Fx K mg) (h_chain : HasFn P w K mg base 4 "chain" ["one", "other"] 3 PF.F_chain) (h_changes : HasFn P w K mg base 5 "changes" ["rows", "x"] 7 PF.F_changes) (cdv : Value) (A : Around) (outer : List Env) (s : Shared) (H : Hp) (E : XK) (hr : Room 5 (A.deeper (envOfC "jumps" (defScope (top 33)) s.heap.objs.size f cdv))) :
    QSs (cxOf (L2.CX P w) P w K mg base ["above", "under", "rows"] "jumps" (defScope (top 33)) f cdv A outer s H E) (WE0 E) [] (defBody (top 33)) PF.F_jumps :=
  (qss_cons (qs_set (i := 2) (by decide) nd_jumps (by kernel_rfl) (.inl (by kernel_rfl)) (e_fn h_chain (hr.mono (by decide)) (gl_of (by kernel_rfl)) (takes_of rfl rfl rfl rfl) (qa_cons (qe_var (i := 1) (by kernel_rfl) (.inl (by kernel_rfl))) (qa_cons (qe_var (i := 0) (by kernel_rfl) (.inl (by kernel_rfl))) qa_nil)) rfl) (by kernel_rfl) (.inl rfl))
    (qss_cons (qs_ret (qe_op opr_sub rof2 (e_fn h_changes (hr.mono (by decide)) (gl_of (by kernel_rfl)) (takes_of rfl rfl rfl rfl) (qa_cons (qe_var (i := 2) (by kernel_rfl) (.inl (by kernel_rfl))) (qa_cons qe_str qa_nil)) rfl) (e_fn h_changes (hr.mono (by decide)) (gl_of (by kernel_rfl)) (takes_of rfl rfl rfl rfl) (qa_cons (qe_var (i := 2) (by kernel_rfl) (.inl (by kernel_rfl))) (qa_cons qe_str qa_nil)) rfl)))
    qss_nil))
theorem o_jumps {a : Addr} {fd : FuncData} (FX : Fx K mg) (h_chain : HasFn P w K mg base 4 "chain" ["one", "other"] 3 PF.F_chain) (h_changes : HasFn P w K mg base 5 "changes" ["rows", "x"] 7 PF.F_changes) (Fd : FunD K "jumps" "jumps" (defArgs (top 33)) (defBody (top 33)) (defScope (top 33)) [] [] a fd) (hm : mg "jumps" = some (.ref a)) : HasFn P w K mg base 6 "jumps" ["above", "under"] 3 PF.F_jumps :=
  ⟨a, fd, fn_pure Fd fs_jumps (w_jumps FX h_chain h_changes), hm, Fd.kp, Fd.bindsN fun _ _ _ _ _ _ us hl => match us, hl with | [_, _], _ => rfl⟩

/-! ### turned -/
theorem nd_turned : (["poly", "k", "a"] : List Str).Nodup := by decide +kernel
theorem fs_turned : FnScope ["poly", "k", "a"] ["poly"] (defScope (top 26)) := ⟨rfl, rfl, rfl, nd_turned, rfl, by decide +kernel, by decide +kernel⟩
theorem w_turned {f : Addr} (FX : Fx K mg) (h_minus : HasFn P w K mg base 2 "minus" ["a", "b"] 2 PF.F_minus) (h_tidy : HasFn P w K mg base 1 "tidy" ["row"] 2 PF.F_tidy) (cdv : Value) (A : Around) (outer : List Env) (s : Shared) (H : Hp) (E : XK) (hr : Room 2 (A.deeper (envOfC "turned" (defScope (top 26)) s.heap.objs.size f cdv))) :
    QSs (cxOf (L2.CX P w) P w K mg base ["poly", "k", "a"] "turned" (defScope (top 26)) f cdv A outer s H E) (WE0 E) [] (defBody (top 26)) PF.F_turned :=
  (qss_cons (qs_ret (e_fn h_tidy (hr.mono (by decide)) (gl_of (by kernel_rfl)) (takes_of rfl rfl rfl rfl) (qa_cons (qe_lc (own := [("k", 1), ("a", 2)]) rfl nd_turned (blkOk_by (by kernel_rfl)) (qib_of (qi_enu (gl_of (by kernel_rfl)) FX.b_enumerate (qa_cons (qe_var (i := 0) (by kernel_rfl) (.inl (by kernel_rfl))) qa_nil))) (fun _ _ _ _ _ => (qg_tup rfl (qgs_cons (qg_name (i := 1) (hp_own (by decide)) nd_turned (by kernel_rfl) (.inl (by kernel_rfl)) (.inr (by kernel_rfl))) (qgs_cons (qg_name (i := 2) (hp_own (by decide)) nd_turned (by kernel_rfl) (.inl (by kernel_rfl)) (.inr (by kernel_rfl))) qgs_nil)))) (fun _ _ _ _ _ => qts_nil) (fun _ _ _ _ _ => (qe_if (qt_cmp (opr_eq hr.units) rof2 (qe_op opr_mod rof2 (qe_var (i := 1) (by kernel_rfl) (.inl (by kernel_rfl))) qe_int) qe_int rfl) (qe_var (i := 2) (by kernel_rfl) (.inl (by kernel_rfl))) (e_fn h_minus (hr.mono (by decide)) (gl_of (by kernel_rfl)) L2.takes0 (qa_cons (glob_con (gl_of (by kernel_rfl)) FX.t_ZERO) (qa_cons (qe_var (i := 2) (by kernel_rfl) (.inl (by kernel_rfl))) qa_nil)) rfl)))) qa_nil) rfl))
    qss_nil)
theorem o_turned {a : Addr} {fd : FuncData} (FX : Fx K mg) (h_minus : HasFn P w K mg base 2 "minus" ["a", "b"] 2 PF.F_minus) (h_tidy : HasFn P w K mg base 1 "tidy" ["row"] 2 PF.F_tidy) (Fd : FunD K "turned" "turned" (defArgs (top 26)) (defBody (top 26)) (defScope (top 26)) [] [] a fd) (hm : mg "turned" = some (.ref a)) : HasFn P w K mg base 3 "turned" ["poly"] 3 PF.F_turned :=
  ⟨a, fd, fn_pure Fd fs_turned (w_turned FX h_minus h_tidy), hm, Fd.kp, Fd.bindsN fun _ _ _ _ _ _ us hl => match us, hl with | [_], _ => rfl⟩

/-! ### sides -/
theorem nd_sides : (["poly", "both", "rest", "degree", "even", "odd", "lead", "axis", "pairs"] : List Str).Nodup := by decide +kernel
theorem fs_sides : FnScope ["poly", "both", "rest", "degree", "even", "odd", "lead", "axis", "pairs"] ["poly"] (defScope (top 35)) := ⟨rfl, rfl, rfl, nd_sides, rfl, by decide +kernel, by decide +kernel⟩
theorem w_sides {f : Addr} (FX : Fx K mg) (h_axis_count : HasFn P w K mg base 8 "axis_count" ["poly"] 4 PF.F_axis_count) (h_axis_parts : HasFn P w K mg base 3 "axis_parts" ["poly"] 6 PF.F_axis_parts) (h_check_poly : HasFn P w K mg base 3 "check_poly" ["poly"] 2 PF.F_check_poly) (h_common : HasFn P w K mg base 5 "common" ["one", "other"] 2 PF.F_common) (h_divided : HasFn P w K mg base 3 "divided" ["one", "other"] 7 PF.F_divided) (h_jumps : HasFn P w K mg base 6 "jumps" ["above", "under"] 3 PF.F_jumps) (h_turned : HasFn P w K mg base 3 "turned" ["poly"] 3 PF.F_turned) (cdv : Value) (A : Around) (outer : List Env) (s : Shared) (H : Hp) (E : XK) (hr : Room 8 (A.deeper (envOfC "sides" (defScope (top 35)) s.heap.objs.size f cdv))) :
    QSs (cxOf (L2.CX P w) P w K mg base ["poly", "both", "rest", "degree", "even", "odd", "lead", "axis", "pairs"] "sides" (defScope (top 35)) f cdv A outer s H E) (WE0 E) [] (defBody (top 35)) PF.F_sides :=
  (qss_cons (qs_expr (e_fn h_check_poly (hr.mono (by decide)) (gl_of (by kernel_rfl)) (takes_of rfl rfl rfl rfl) (qa_cons (qe_var (i := 0) (by kernel_rfl) (.inl (by kernel_rfl))) qa_nil) rfl))
    (qss_cons (qs_if (qt_not (qt_truth (qe_var (i := 0) (by kernel_rfl) (.inl (by kernel_rfl))))) (qss_cons (s_raise FX.x_InvalidPoly rfl (takes_of rfl rfl rfl rfl) (gl_of (by kernel_rfl)))
    qss_nil) qss_nil)
    (qss_cons (qs_set (i := 1) (by decide) nd_sides (by kernel_rfl) (.inl (by kernel_rfl)) (e_fn h_common (hr.mono (by decide)) (gl_of (by kernel_rfl)) (takes_of rfl rfl rfl rfl) (qa_cons (qe_var (i := 0) (by kernel_rfl) (.inl (by kernel_rfl))) (qa_cons (e_fn h_turned (hr.mono (by decide)) (gl_of (by kernel_rfl)) (takes_of rfl rfl rfl rfl) (qa_cons (qe_var (i := 0) (by kernel_rfl) (.inl (by kernel_rfl))) qa_nil) rfl) qa_nil)) rfl) (by kernel_rfl) (.inl rfl))
    (qss_cons (qs_set (i := 2) (by decide) nd_sides (by kernel_rfl) (.inl (by kernel_rfl)) (qe_ix (ixr_at hr.units) rof2 (e_fn h_divided (hr.mono (by decide)) (gl_of (by kernel_rfl)) (takes_of rfl rfl rfl rfl) (qa_cons (qe_var (i := 0) (by kernel_rfl) (.inl (by kernel_rfl))) (qa_cons (qe_var (i := 1) (by kernel_rfl) (.inl (by kernel_rfl))) qa_nil)) rfl) qe_int (fun _ _ => rfl)) (by kernel_rfl) (.inl rfl))
    (qss_cons (qs_set (i := 3) (by decide) nd_sides (by kernel_rfl) (.inl (by kernel_rfl)) (qe_op opr_sub rof2 (qe_call callr_len rofN (gl_of (by kernel_rfl)) FX.b_len boot_len (qa_cons (qe_var (i := 2) (by kernel_rfl) (.inl (by kernel_rfl))) qa_nil)) qe_int) (by kernel_rfl) (.inl rfl))
    (qss_cons (qs_asg (e_fn h_axis_parts (hr.mono (by decide)) (gl_of (by kernel_rfl)) (takes_of rfl rfl rfl rfl) (qa_cons (qe_var (i := 2) (by kernel_rfl) (.inl (by kernel_rfl))) qa_nil) rfl) (qg_tup rfl (qgs_cons (qg_name (i := 4) (by decide) nd_sides (by kernel_rfl) (.inl (by kernel_rfl)) (.inl rfl)) (qgs_cons (qg_name (i := 5) (by decide) nd_sides (by kernel_rfl) (.inl (by kernel_rfl)) (.inl rfl)) qgs_nil))))
    (qss_cons (qs_set (i := 6) (by decide) nd_sides (by kernel_rfl) (.inl (by kernel_rfl)) (qe_if (qt_cmp (opr_eq hr.units) rof2 (qe_op opr_mod rof2 (qe_var (i := 3) (by kernel_rfl) (.inl (by kernel_rfl))) qe_int) qe_int rfl) (qe_un unr_neg rof1 (e_fn h_jumps (hr.mono (by decide)) (gl_of (by kernel_rfl)) (takes_of rfl rfl rfl rfl) (qa_cons (qe_var (i := 5) (by kernel_rfl) (.inl (by kernel_rfl))) (qa_cons (qe_var (i := 4) (by kernel_rfl) (.inl (by kernel_rfl))) qa_nil)) rfl)) (e_fn h_jumps (hr.mono (by decide)) (gl_of (by kernel_rfl)) (takes_of rfl rfl rfl rfl) (qa_cons (qe_var (i := 4) (by kernel_rfl) (.inl (by kernel_rfl))) (qa_cons (qe_var (i := 5) (by kernel_rfl) (.inl (by kernel_rfl))) qa_nil)) rfl)) (by kernel_rfl) (.inl rfl))
    (qss_cons (qs_if (qt_cmp (opr_eq hr.units) rof2 (qe_var (i := 3) (by kernel_rfl) (.inl (by kernel_rfl))) qe_int rfl) (qss_cons (qs_set (i := 6) (by decide) nd_sides (by kernel_rfl) (.inl (by kernel_rfl)) qe_int (by kernel_rfl) (.inl rfl))
    qss_nil) qss_nil)
    (qss_cons (qs_set (i := 7) (by decide) nd_sides (by kernel_rfl) (.inl (by kernel_rfl)) (e_fn h_axis_count (hr.mono (by decide)) (gl_of (by kernel_rfl)) (takes_of rfl rfl rfl rfl) (qa_cons (qe_var (i := 1) (by kernel_rfl) (.inl (by kernel_rfl))) qa_nil) rfl) (by kernel_rfl) (.inl rfl))
    (qss_cons (qs_set (i := 8) (by decide) nd_sides (by kernel_rfl) (.inl (by kernel_rfl)) (qe_op opr_fdiv rof2 (qe_op opr_sub rof2 (qe_op opr_sub rof2 (qe_call callr_len rofN (gl_of (by kernel_rfl)) FX.b_len boot_len (qa_cons (qe_var (i := 1) (by kernel_rfl) (.inl (by kernel_rfl))) qa_nil)) qe_int) (qe_var (i := 7) (by kernel_rfl) (.inl (by kernel_rfl)))) qe_int) (by kernel_rfl) (.inl rfl))
    (qss_cons (qs_ret (qe_tup (qa_cons (qe_op opr_add rof2 (qe_op opr_fdiv rof2 (qe_op opr_add rof2 (qe_var (i := 3) (by kernel_rfl) (.inl (by kernel_rfl))) (qe_var (i := 6) (by kernel_rfl) (.inl (by kernel_rfl)))) qe_int) (qe_var (i := 8) (by kernel_rfl) (.inl (by kernel_rfl)))) (qa_cons (qe_var (i := 7) (by kernel_rfl) (.inl (by kernel_rfl))) (qa_cons (qe_op opr_add rof2 (qe_op opr_fdiv rof2 (qe_op opr_sub rof2 (qe_var (i := 3) (by kernel_rfl) (.inl (by kernel_rfl))) (qe_var (i := 6) (by kernel_rfl) (.inl (by kernel_rfl)))) qe_int) (qe_var (i := 8) (by kernel_rfl) (.inl (by kernel_rfl)))) qa_nil)))))
    qss_nil)))))))))))
theorem o_sides {a : Addr} {fd : FuncData} (FX : Fx K mg) (h_axis_count : HasFn P w K mg base 8 "axis_count" ["poly"] 4 PF.F_axis_count) (h_axis_parts : HasFn P w K mg base 3 "axis_parts" ["poly"] 6 PF.F_axis_parts) (h_check_poly : HasFn P w K mg base 3 "check_poly" ["poly"] 2 PF.F_check_poly) (h_common : HasFn P w K mg base 5 "common" ["one", "other"] 2 PF.F_common) (h_divided : HasFn P w K mg base 3 "divided" ["one", "other"] 7 PF.F_divided) (h_jumps : HasFn P w K mg base 6 "jumps" ["above", "under"] 3 PF.F_jumps) (h_turned : HasFn P w K mg base 3 "turned" ["poly"] 3 PF.F_turned) (Fd : FunD K "sides" "sides" (defArgs (top 35)) (defBody (top 35)) (defScope (top 35)) [] [] a fd) (hm : mg "sides" = some (.ref a)) : HasFn P w K mg base 9 "sides" ["poly"] 9 PF.F_sides :=
  ⟨a, fd, fn_pure Fd fs_sides (w_sides FX h_axis_count h_axis_parts h_check_poly h_common h_divided h_jumps h_turned), hm, Fd.kp, Fd.bindsN fun _ _ _ _ _ _ us hl => match us, hl with | [_], _ => rfl⟩

/-! ### is_calm -/
theorem nd_is_calm : (["poly"] : List Str).Nodup := by decide +kernel
theorem fs_is_calm : FnScope ["poly"] ["poly"] (defScope (top 37)) := ⟨rfl, rfl, rfl, nd_is_calm, rfl, by decide +kernel, by decide +kernel⟩
theorem w_is_calm {f : Addr} (FX : Fx K mg) (h_sides : HasFn P w K mg base 9 "sides" ["poly"] 9 PF.F_sides) (cdv : Value) (A : Around) (outer : List Env) (s : Shared) (H : Hp) (E : XK) (hr : Room 9 (A.deeper (envOfC "is_calm" (defScope (top 37)) s.heap.objs.size f cdv))) :
    QSs (cxOf (L2.CX P w) P w K mg base ["poly"] "is_calm" (defScope (top 37)) f cdv A outer s H E) (WE0 E) [] (defBody (top 37)) PF.F_is_calm :=
  (qss_cons (qs_ret (qe_cmp (opr_eq hr.units) rof2 (qe_ix (ixr_at hr.units) rof2 (e_fn h_sides (hr.mono (by decide)) (gl_of (by kernel_rfl)) (takes_of rfl rfl rfl rfl) (qa_cons (qe_var (i := 0) (by kernel_rfl) (.inl (by kernel_rfl))) qa_nil) rfl) qe_int (fun _ _ => rfl)) (qe_op opr_sub rof2 (qe_call callr_len rofN (gl_of (by kernel_rfl)) FX.b_len boot_len (qa_cons (qe_var (i := 0) (by kernel_rfl) (.inl (by kernel_rfl))) qa_nil)) qe_int) rfl))
    qss_nil)
theorem o_is_calm {a : Addr} {fd : FuncData} (FX : Fx K mg) (h_sides : HasFn P w K mg base 9 "sides" ["poly"] 9 PF.F_sides) (Fd : FunD K "is_calm" "is_calm" (defArgs (top 37)) (defBody (top 37)) (defScope (top 37)) [] [] a fd) (hm : mg "is_calm" = some (.ref a)) : HasFn P w K mg base 10 "is_calm" ["poly"] 1 PF.F_is_calm :=
  ⟨a, fd, fn_pure Fd fs_is_calm (w_is_calm FX h_sides), hm, Fd.kp, Fd.bindsN fun _ _ _ _ _ _ us hl => match us, hl with | [_], _ => rfl⟩

/-! ### is_calm_range -/
theorem nd_is_calm_range : (["low", "high", "poly"] : List Str).Nodup := by decide +kernel
theorem fs_is_calm_range : FnScope ["low", "high", "poly"] ["low", "high"] (defScope (top 39)) := ⟨rfl, rfl, rfl, nd_is_calm_range, rfl, by decide +kernel, by decide +kernel⟩
theorem w_is_calm_range {f : Addr} (FX : Fx K mg) (h_corners_of_ranges : HasFn P w K mg base 2 "corners_of_ranges" ["low", "high"] 7 PF.F_corners_of_ranges) (h_is_calm : HasFn P w K mg base 10 "is_calm" ["poly"] 1 PF.F_is_calm) (cdv : Value) (A : Around) (outer : List Env) (s : Shared) (H : Hp) (E : XK) (hr : Room 10 (A.deeper (envOfC "is_calm_range" (defScope (top 39)) s.heap.objs.size f cdv))) :
    QSs (cxOf (L2.CX P w) P w K mg base ["low", "high", "poly"] "is_calm_range" (defScope (top 39)) f cdv A outer s H E) (WE0 E) [] (defBody (top 39)) PF.F_is_calm_range :=
  (qss_cons (qs_ret (qe_call (callr_all rfl) rofN (gl_of (by kernel_rfl)) FX.b_all boot_all (qa_cons (qe_lc (own := [("poly", 2)]) rfl nd_is_calm_range (blkOk_by (by kernel_rfl)) (qib_of (qi_val (e_fn h_corners_of_ranges (hr.mono (by decide)) (gl_of (by kernel_rfl)) (takes_of rfl rfl rfl rfl) (qa_cons (qe_var (i := 0) (by kernel_rfl) (.inl (by kernel_rfl))) (qa_cons (qe_var (i := 1) (by kernel_rfl) (.inl (by kernel_rfl))) qa_nil)) rfl))) (fun _ _ _ _ _ => (qg_name (i := 2) (hp_own (by decide)) nd_is_calm_range (by kernel_rfl) (.inl (by kernel_rfl)) (.inr (by kernel_rfl)))) (fun _ _ _ _ _ => qts_nil) (fun _ _ _ _ _ => (e_fn h_is_calm (hr.mono (by decide)) (gl_of (by kernel_rfl)) L2.takes0 (qa_cons (qe_var (i := 2) (by kernel_rfl) (.inl (by kernel_rfl))) qa_nil) rfl))) qa_nil)))
    qss_nil)
theorem o_is_calm_range {a : Addr} {fd : FuncData} (FX : Fx K mg) (h_corners_of_ranges : HasFn P w K mg base 2 "corners_of_ranges" ["low", "high"] 7 PF.F_corners_of_ranges) (h_is_calm : HasFn P w K mg base 10 "is_calm" ["poly"] 1 PF.F_is_calm) (Fd : FunD K "is_calm_range" "is_calm_range" (defArgs (top 39)) (defBody (top 39)) (defScope (top 39)) [] [] a fd) (hm : mg "is_calm_range" = some (.ref a)) : HasFn P w K mg base 11 "is_calm_range" ["low", "high"] 3 PF.F_is_calm_range :=
  ⟨a, fd, fn_pure Fd fs_is_calm_range (w_is_calm_range FX h_corners_of_ranges h_is_calm), hm, Fd.kp, Fd.bindsN fun _ _ _ _ _ _ us hl => match us, hl with | [_, _], _ => rfl⟩

theorem fs__law_refused : FnScope ["call"] ["call"] (defScope (top 51)) := ⟨rfl, rfl, rfl, by decide +kernel, rfl, by decide +kernel, by decide +kernel⟩
/-! ### law -/
def F_law : PM Fl := (sSeq (sSet 1 (eCall (denOf 4 F__law_tape) (aCons (eVar 0) aNil)))
  (sSeq (sSet 2 (eOp2 opAdd (eC (.int 2)) (eCallM (denIO 4 F__law_take) (aCons (eVar 1) (aCons (eC (.int 4)) aNil)))))
  (sSeq (sSet 3 (eOp2 opIx (eLst (aCons (eTup (aCons (eTup (aCons (eC (.int 1)) (aCons (eC (.int 1)) aNil))) (aCons (eTup (aCons (eC (.int 2)) (aCons (eC (.int 1)) aNil))) aNil))) (aCons (eTup (aCons (eTup (aCons (eC (.int 1)) (aCons (eC (.int 1)) aNil))) (aCons (eTup (aCons (eC (.int 3)) (aCons (eC (.int 1)) aNil))) (aCons (eTup (aCons (eC (.int 3)) (aCons (eC (.int 1)) aNil))) aNil)))) (aCons (eTup (aCons (eTup (aCons (eC (.int 1)) (aCons (eC (.int 1)) aNil))) (aCons (eTup (aCons (eC (.int 3)) (aCons (eC (.int 1)) aNil))) (aCons (eTup (aCons (eC (.int 4)) (aCons (eC (.int 1)) aNil))) (aCons (eTup (aCons (eC (.int 2)) (aCons (eC (.int 1)) aNil))) aNil))))) (aCons (eTup (aCons (eTup (aCons (eC (.int 1)) (aCons (eC (.int 1)) aNil))) (aCons (eTup (aCons (eC (.int 4)) (aCons (eC (.int 1)) aNil))) (aCons (eTup (aCons (eC (.int 6)) (aCons (eC (.int 1)) aNil))) (aCons (eTup (aCons (eC (.int 5)) (aCons (eC (.int 1)) aNil))) (aCons (eTup (aCons (eC (.int 2)) (aCons (eC (.int 1)) aNil))) aNil)))))) aNil))))) (eOp2 opSub (eVar 2) (eC (.int 2)))))
  (sSeq (sPar 14 13 (eLst aNil) (eLst aNil))
  (sSeq (sFor (iVal (eVar 3)) (gNm 4) (sSeq (sExpr (eMeth 14 opAppend (aCons (eIf (tBool (eOp2 opGt (eCallM (denIO 4 F__law_take) (aCons (eVar 1) (aCons (eC (.int 3)) aNil))) (eC (.int 0)))) (eCall (denOf 2 PF.F__law_minus) (aCons (eVar 4) (aCons (eCall (denOf 3 PF.F__law_ratio) (aCons (eCallM (denIO 4 F__law_take) (aCons (eVar 1) (aCons (eC (.int 4)) aNil))) (aCons (eC (.int 4)) aNil))) aNil))) (eVar 4)) aNil)))
  (sSeq (sExpr (eMeth 13 opAppend (aCons (eCall (denOf 5 PF.F__law_sum) (aCons (eLst (aCons (eVar 4) (aCons (eCall (denOf 3 PF.F__law_ratio) (aCons (eCallM (denIO 4 F__law_take) (aCons (eVar 1) (aCons (eC (.int 9)) aNil))) (aCons (eC (.int 4)) aNil))) aNil))) aNil)) aNil)))
  sNext)))
  (sSeq (sPar 14 13 (eOpN opTuple (aCons (eVar 14) aNil)) (eOpN opTuple (aCons (eVar 13) aNil)))
  (sSeq (sIf (tBool (eOp2 opLe (eOp2 opIx (eOp2 opIx (eVar 14) (eOp1 opNeg (eC (.int 1)))) (eC (.int 0))) (eC (.int 0)))) (sSeq (sRetB (tRef (fun n => decide (n ∈ (["InvalidPoly"] : List Str))) (eCall (denOf 7 PF.F_corners_of_ranges) (aCons (eVar 14) (aCons (eVar 13) aNil)))))
  sNext) sNext)
  (sSeq (sSet 5 (eCall (denOf 7 PF.F_corners_of_ranges) (aCons (eVar 14) (aCons (eVar 13) aNil))))
  (sSeq (sFor (iVal (eOpN opRange (aCons (eVar 2) aNil))) (gNm 6) (sSeq (sSet 8 (eComp [7] (iOf (iVal (eVar 5))) (gNm 7) (ret true) (eOp2 opIx (eVar 7) (eVar 6))))
  (sSeq (sSet 9 (eOp2 opIx (eLst (aCons (eLst (aCons (eOp2 opIx (eVar 14) (eVar 6)) (aCons (eOp2 opIx (eVar 14) (eVar 6)) (aCons (eOp2 opIx (eVar 13) (eVar 6)) (aCons (eOp2 opIx (eVar 13) (eVar 6)) aNil))))) (aCons (eLst (aCons (eOp2 opIx (eVar 14) (eVar 6)) (aCons (eOp2 opIx (eVar 13) (eVar 6)) (aCons (eOp2 opIx (eVar 14) (eVar 6)) (aCons (eOp2 opIx (eVar 13) (eVar 6)) aNil))))) (aCons (eLst (aCons (eOp2 opIx (eVar 13) (eVar 6)) (aCons (eOp2 opIx (eVar 13) (eVar 6)) (aCons (eOp2 opIx (eVar 14) (eVar 6)) (aCons (eOp2 opIx (eVar 14) (eVar 6)) aNil))))) (aCons (eLst (aCons (eOp2 opIx (eVar 13) (eVar 6)) (aCons (eOp2 opIx (eVar 14) (eVar 6)) (aCons (eOp2 opIx (eVar 13) (eVar 6)) (aCons (eOp2 opIx (eVar 14) (eVar 6)) aNil))))) aNil))))) (eOp2 opMod (eOpN opInt (aCons (eVar 6) aNil)) (eC (.int 4)))))
  (sSeq (sIf (tBool (eOp2 opNe (eVar 8) (eVar 9))) (sSeq (sRet (eC (.bl false)))
  sNext) sNext)
  sNext))))
  (sSeq (sSet 10 (eCall (denOf 3 PF.F_is_calm_range) (aCons (eVar 14) (aCons (eVar 13) aNil))))
  (sSeq (sIf (tBool (eOp2 opNe (eVar 10) (eOpN opAll (aCons (eComp [7] (iOf (iVal (eVar 5))) (gNm 7) (ret true) (eCall (denOf 1 PF.F_is_calm) (aCons (eVar 7) aNil))) aNil)))) (sSeq (sRet (eC (.bl false)))
  sNext) sNext)
  (sSeq (sIf (tBool (eOp2 opNe (eVar 10) (eOpN opAll (aCons (eComp [7] (iOf (iVal (eCall (denOf 4 F__law_choices) (aCons (eVar 14) (aCons (eVar 13) aNil))))) (gNm 7) (tBool (eOp2 opNe (eOp2 opIx (eOp2 opIx (eVar 7) (eOp1 opNeg (eC (.int 1)))) (eC (.int 0))) (eC (.int 0)))) (eOp2 opEq (eOp2 opIx (eCall (denOf 9 PF.F_sides) (aCons (eVar 7) aNil)) (eC (.int 0))) (eOp2 opSub (eVar 2) (eC (.int 1))))) aNil)))) (sSeq (sRet (eC (.bl false)))
  sNext) sNext)
  (sSeq (sFor (iVal (eOpN opRange (aCons (eC (.int 4)) aNil))) (gNm 11) (sSeq (sSet 7 (eLst aNil))
  (sSeq (sFor (iVal (eOpN opRange (aCons (eVar 2) aNil))) (gNm 6) (sSeq (sSet 12 (eCall (denOf 3 PF.F__law_ratio) (aCons (eCallM (denIO 4 F__law_take) (aCons (eVar 1) (aCons (eC (.int 5)) aNil))) (aCons (eC (.int 4)) aNil))))
  (sSeq (sExpr (eMeth 7 opAppend (aCons (eCall (denOf 5 PF.F__law_sum) (aCons (eLst (aCons (eOp2 opIx (eVar 14) (eVar 6)) (aCons (eCall (denOf 2 PF.F__law_times) (aCons (eVar 12) (aCons (eCall (denOf 2 PF.F__law_minus) (aCons (eOp2 opIx (eVar 13) (eVar 6)) (aCons (eOp2 opIx (eVar 14) (eVar 6)) aNil))) aNil))) aNil))) aNil)) aNil)))
  sNext)))
  (sSeq (sIf (tAndP (tTru (eVar 10)) (tNotP (tTru (eCall (denOf 1 PF.F_is_calm) (aCons (eOpN opTuple (aCons (eVar 7) aNil)) aNil))))) (sSeq (sRet (eC (.bl false)))
  sNext) sNext)
  sNext))))
  (sSeq (sIf (tNotP (tRef (fun n => decide (n ∈ (["InvalidPoly"] : List Str))) (eCall (denOf 7 PF.F_corners_of_ranges) (aCons (eVar 14) (aCons (eSl (eVar 14) eNoP (eP (eOp1 opNeg (eC (.int 1))))) aNil))))) (sSeq (sRet (eC (.bl false)))
  sNext) sNext)
  (sSeq (sRetB (tRef (fun n => decide (n ∈ (["InvalidPoly"] : List Str))) (eCall (denOf 7 PF.F_corners_of_ranges) (aCons (eOp2 opAdd (eVar 13) (eTup (aCons (eTup (aCons (eC (.int 2)) (aCons (eC (.int 1)) aNil))) aNil))) (aCons (eOp2 opAdd (eVar 14) (eTup (aCons (eTup (aCons (eC (.int 1)) (aCons (eC (.int 1)) aNil))) aNil))) aNil)))))
  sNext)))))))))))))))
theorem nd_law : (["script", "tape", "size", "base", "a", "four", "k", "poly", "row", "due", "calm", "turn", "part", "high", "low"] : List Str).Nodup := by decide +kernel
theorem fs_law : FnScope ["script", "tape", "size", "base", "a", "four", "k", "poly", "row", "due", "calm", "turn", "part", "high", "low"] ["script"] (defScope (top 54)) := ⟨rfl, rfl, rfl, nd_law, rfl, by decide +kernel, by decide +kernel⟩
theorem w_law {f cT Pt : Addr} (FX : Fx K mg) (h__law_choices : HasFn P w K mg base 2 "_law_choices" ["low", "high"] 4 F__law_choices) (h__law_minus : HasFn P w K mg base 3 "_law_minus" ["a", "b"] 2 PF.F__law_minus) (h__law_ratio : HasFn P w K mg base 2 "_law_ratio" ["n", "d"] 3 PF.F__law_ratio) (h__law_sum : HasFn P w K mg base 3 "_law_sum" ["row"] 5 PF.F__law_sum) (h__law_take : HasFnM P w K mg base 1 "_law_take" ["tape", "many"] 4 F__law_take) (h__law_tape : HasFn P w K mg base 1 "_law_tape" ["script"] 4 F__law_tape) (h__law_times : HasFn P w K mg base 3 "_law_times" ["a", "b"] 2 PF.F__law_times) (h_corners_of_ranges : HasFn P w K mg base 2 "corners_of_ranges" ["low", "high"] 7 PF.F_corners_of_ranges) (h_is_calm : HasFn P w K mg base 10 "is_calm" ["poly"] 1 PF.F_is_calm) (h_is_calm_range : HasFn P w K mg base 11 "is_calm_range" ["low", "high"] 3 PF.F_is_calm_range) (h_sides : HasFn P w K mg base 9 "sides" ["poly"] 9 PF.F_sides) (RF__law_refused : RefF K mg "InvalidPoly" ["InvalidPoly"]) {gR__law_refused : Addr} {fdR__law_refused : FuncData} (FR__law_refused : FunD K "_law_refused" "_law_refused" (defArgs (top 51)) (defBody (top 51)) (defScope (top 51)) [] [] gR__law_refused fdR__law_refused) (mR__law_refused : mg "_law_refused" = some (.ref gR__law_refused)) (TB : LamX.TabB base mg cT Pt) (A : Around) (outer : List Env) (s : Shared) (H : Hp) (E : XK) (hr : Room 11 (A.deeper (envOfC "law" (defScope (top 54)) s.heap.objs.size f (.ref cT)))) :
    LSs (cxOf (L2.CX P w) P w K mg base ["script", "tape", "size", "base", "a", "four", "k", "poly", "row", "due", "calm", "turn", "part", "high", "low"] "law" (defScope (top 54)) f (.ref cT) A outer s H E) [(Pt, (envOfC "law" (defScope (top 54)) 0 0 .none).qual ++ "<lambda>")] (defBody (top 54)) F_law :=
  (ls_cons (ls_of (W := WE0 E) (qs_set (i := 1) (by simp) nd_law (by kernel_rfl) (.inl (by kernel_rfl)) (e_fn h__law_tape (hr.mono (by decide)) (gl_of (by kernel_rfl)) (takes_of rfl rfl rfl rfl) (qa_cons (qe_var (i := 0) (by kernel_rfl) (.inl (by kernel_rfl))) qa_nil) rfl) (by kernel_rfl) (.inl rfl)))
    (ls_cons (ls_of (W := WE0 E) (qs_set (i := 2) (by simp) nd_law (by kernel_rfl) (.inr (by kernel_rfl)) (qe_op opr_add rof2 qe_int (e_fnM h__law_take (hr.mono (by decide)) (gl_of (by kernel_rfl)) (takes_of rfl rfl rfl rfl) (qa_cons (qe_var (i := 1) (by kernel_rfl) (.inl (by kernel_rfl))) (qa_cons qe_int qa_nil)) rfl)) (by kernel_rfl) (.inl rfl)))
    (ls_cons (ls_of (W := WE0 E) (qs_set (i := 3) (by simp) nd_law (by kernel_rfl) (.inl (by kernel_rfl)) (qe_ix (ixr_at hr.units) rof2 (qe_lst (qa_cons (qe_tup (qa_cons (qe_tup (qa_cons qe_int (qa_cons qe_int qa_nil))) (qa_cons (qe_tup (qa_cons qe_int (qa_cons qe_int qa_nil))) qa_nil))) (qa_cons (qe_tup (qa_cons (qe_tup (qa_cons qe_int (qa_cons qe_int qa_nil))) (qa_cons (qe_tup (qa_cons qe_int (qa_cons qe_int qa_nil))) (qa_cons (qe_tup (qa_cons qe_int (qa_cons qe_int qa_nil))) qa_nil)))) (qa_cons (qe_tup (qa_cons (qe_tup (qa_cons qe_int (qa_cons qe_int qa_nil))) (qa_cons (qe_tup (qa_cons qe_int (qa_cons qe_int qa_nil))) (qa_cons (qe_tup (qa_cons qe_int (qa_cons qe_int qa_nil))) (qa_cons (qe_tup (qa_cons qe_int (qa_cons qe_int qa_nil))) qa_nil))))) (qa_cons (qe_tup (qa_cons (qe_tup (qa_cons qe_int (qa_cons qe_int qa_nil))) (qa_cons (qe_tup (qa_cons qe_int (qa_cons qe_int qa_nil))) (qa_cons (qe_tup (qa_cons qe_int (qa_cons qe_int qa_nil))) (qa_cons (qe_tup (qa_cons qe_int (qa_cons qe_int qa_nil))) (qa_cons (qe_tup (qa_cons qe_int (qa_cons qe_int qa_nil))) qa_nil)))))) qa_nil))))) (qe_op opr_sub rof2 (qe_var (i := 2) (by kernel_rfl) (.inr (.inl (by kernel_rfl)))) qe_int) (fun _ _ => rfl)) (by kernel_rfl) (.inl rfl)))
    (ls_cons (ls_of (W := WE0 E) (qs_parC (i := 14) (j := 13) (by simp) (by simp) rfl nd_law (by kernel_rfl) (by kernel_rfl) (by decide) (.inr (by kernel_rfl)) (.inr (by kernel_rfl)) (qe_lst qa_nil) (qe_lst qa_nil) (by kernel_rfl)))
    (ls_cons (ls_of (W := WE0 E) (qs_for (L2.passes_of rfl) rfl (qi_val (qe_var (i := 3) (by kernel_rfl) (.inl (by kernel_rfl)))) (qg_name (i := 4) (by simp) nd_law (by kernel_rfl) (.inl (by kernel_rfl)) (.inl rfl)) (qss_cons (qs_expr (qe_meth (i := 14) PySem.F.plainAttrs_list PySem.F.slot_list_append PySem.F.type_list_append mt_append mo_append (by kernel_rfl) (.inr (.inl (by kernel_rfl))) (qa_cons (qe_if (qt_cmp opr_gt rof2 (e_fnM h__law_take (hr.mono (by decide)) (gl_of (by kernel_rfl)) (takes_of rfl rfl rfl rfl) (qa_cons (qe_var (i := 1) (by kernel_rfl) (.inl (by kernel_rfl))) (qa_cons qe_int qa_nil)) rfl) qe_int rfl) (e_fn h__law_minus (hr.mono (by decide)) (gl_of (by kernel_rfl)) (takes_of rfl rfl rfl rfl) (qa_cons (qe_var (i := 4) (by kernel_rfl) (.inl (by kernel_rfl))) (qa_cons (e_fn h__law_ratio (hr.mono (by decide)) (gl_of (by kernel_rfl)) (takes_of rfl rfl rfl rfl) (qa_cons (e_fnM h__law_take (hr.mono (by decide)) (gl_of (by kernel_rfl)) (takes_of rfl rfl rfl rfl) (qa_cons (qe_var (i := 1) (by kernel_rfl) (.inl (by kernel_rfl))) (qa_cons qe_int qa_nil)) rfl) (qa_cons qe_int qa_nil)) rfl) qa_nil)) rfl) (qe_var (i := 4) (by kernel_rfl) (.inl (by kernel_rfl)))) qa_nil)))
    (qss_cons (qs_expr (qe_meth (i := 13) PySem.F.plainAttrs_list PySem.F.slot_list_append PySem.F.type_list_append mt_append mo_append (by kernel_rfl) (.inr (.inl (by kernel_rfl))) (qa_cons (e_fn h__law_sum (hr.mono (by decide)) (gl_of (by kernel_rfl)) (takes_of rfl rfl rfl rfl) (qa_cons (qe_lst (qa_cons (qe_var (i := 4) (by kernel_rfl) (.inl (by kernel_rfl))) (qa_cons (e_fn h__law_ratio (hr.mono (by decide)) (gl_of (by kernel_rfl)) (takes_of rfl rfl rfl rfl) (qa_cons (e_fnM h__law_take (hr.mono (by decide)) (gl_of (by kernel_rfl)) (takes_of rfl rfl rfl rfl) (qa_cons (qe_var (i := 1) (by kernel_rfl) (.inl (by kernel_rfl))) (qa_cons qe_int qa_nil)) rfl) (qa_cons qe_int qa_nil)) rfl) qa_nil))) qa_nil) rfl) qa_nil)))
    qss_nil))))
    (ls_cons (ls_of (W := WE0 E) (qs_parC (i := 14) (j := 13) (by simp) (by simp) rfl nd_law (by kernel_rfl) (by kernel_rfl) (by decide) (.inr (by kernel_rfl)) (.inr (by kernel_rfl)) (qe_callT callr_tuple rofN (gl_of (by kernel_rfl)) FX.b_tuple boot_tuple (qa_cons (qe_var (i := 14) (by kernel_rfl) (.inr (.inl (by kernel_rfl)))) qa_nil)) (qe_callT callr_tuple rofN (gl_of (by kernel_rfl)) FX.b_tuple boot_tuple (qa_cons (qe_var (i := 13) (by kernel_rfl) (.inr (.inl (by kernel_rfl)))) qa_nil)) (by kernel_rfl)))
    (ls_cons (ls_if (lt_of (W := WE0 E) (qt_cmp opr_le rof2 (qe_ix (ixr_at hr.units) rof2 (qe_ix (ixr_at hr.units) rof2 (qe_var (i := 14) (by kernel_rfl) (.inr (.inl (by kernel_rfl)))) (qe_un unr_neg rof1 qe_int) (fun _ _ => rfl)) qe_int (fun _ _ => rfl)) qe_int rfl)) (ls_cons (ls_retB (lb_ref (x := "_law_refused") (a := "call") (e := "InvalidPoly") (k := 2) (Ng := ["call"]) RF__law_refused FR__law_refused mR__law_refused (gl_of (by kernel_rfl)) fs__law_refused rfl (.inl (by kernel_rfl)) (by kernel_rfl) (by decide) (fun _ => rfl) (fun _ _ _ _ _ _ us hl => match us, hl with | [_], _ => rfl) TB rfl rfl rfl (hr.mono (by decide)) (LamX.lamS_by (by kernel_rfl)) rfl (fun _ _ _ _ _ => rfl) (fun _ _ _ _ _ _ _ hr => (e_fn h_corners_of_ranges (hr.mono (by decide)) (gl_of (by kernel_rfl)) (takes_of rfl rfl rfl rfl) (qa_cons (qe_var (i := 14) (by kernel_rfl) (.inr (.inr (by kernel_rfl)))) (qa_cons (qe_var (i := 13) (by kernel_rfl) (.inr (.inr (by kernel_rfl)))) qa_nil)) rfl))))
    ls_nil) ls_nil)
    (ls_cons (ls_of (W := WE0 E) (qs_set (i := 5) (by simp) nd_law (by kernel_rfl) (.inl (by kernel_rfl)) (e_fn h_corners_of_ranges (hr.mono (by decide)) (gl_of (by kernel_rfl)) (takes_of rfl rfl rfl rfl) (qa_cons (qe_var (i := 14) (by kernel_rfl) (.inr (.inl (by kernel_rfl)))) (qa_cons (qe_var (i := 13) (by kernel_rfl) (.inr (.inl (by kernel_rfl)))) qa_nil)) rfl) (by kernel_rfl) (.inl rfl)))
    (ls_cons (ls_of (W := WE0 E) (qs_for (L2.passes_of rfl) rfl (qi_val (qe_callT callr_range rofN (gl_of (by kernel_rfl)) FX.b_range boot_range (qa_cons (qe_var (i := 2) (by kernel_rfl) (.inr (.inl (by kernel_rfl)))) qa_nil))) (qg_name (i := 6) (by simp) nd_law (by kernel_rfl) (.inr (by kernel_rfl)) (.inl rfl)) (qss_cons (qs_setLc (i := 8) (own := [("poly", 7)]) (by simp) rfl nd_law (by kernel_rfl) (by kernel_rfl) (L2.sw_true rfl (by kernel_rfl) rfl (by kernel_rfl)) (blkOk_by (by kernel_rfl)) (qib_of (qi_val (qe_var (i := 5) (by kernel_rfl) (.inl (by kernel_rfl))))) (fun _ _ _ _ _ => (qg_name (i := 7) (hp_own (by decide)) nd_law (by kernel_rfl) (.inl (by kernel_rfl)) (.inr (by kernel_rfl)))) (fun _ _ _ _ _ => qts_nil) (fun _ _ _ _ _ => (qe_ix (ixr_at hr.units) rof2 (qe_var (i := 7) (by kernel_rfl) (.inl (by kernel_rfl))) (qe_var (i := 6) (by kernel_rfl) (.inr (.inl (by kernel_rfl)))) (fun _ _ => rfl))))
    (qss_cons (qs_set (i := 9) (by simp) nd_law (by kernel_rfl) (.inl (by kernel_rfl)) (qe_ix (ixr_at hr.units) rof2 (qe_lst (qa_cons (qe_lst (qa_cons (qe_ix (ixr_at hr.units) rof2 (qe_var (i := 14) (by kernel_rfl) (.inr (.inl (by kernel_rfl)))) (qe_var (i := 6) (by kernel_rfl) (.inr (.inl (by kernel_rfl)))) (fun _ _ => rfl)) (qa_cons (qe_ix (ixr_at hr.units) rof2 (qe_var (i := 14) (by kernel_rfl) (.inr (.inl (by kernel_rfl)))) (qe_var (i := 6) (by kernel_rfl) (.inr (.inl (by kernel_rfl)))) (fun _ _ => rfl)) (qa_cons (qe_ix (ixr_at hr.units) rof2 (qe_var (i := 13) (by kernel_rfl) (.inr (.inl (by kernel_rfl)))) (qe_var (i := 6) (by kernel_rfl) (.inr (.inl (by kernel_rfl)))) (fun _ _ => rfl)) (qa_cons (qe_ix (ixr_at hr.units) rof2 (qe_var (i := 13) (by kernel_rfl) (.inr (.inl (by kernel_rfl)))) (qe_var (i := 6) (by kernel_rfl) (.inr (.inl (by kernel_rfl)))) (fun _ _ => rfl)) qa_nil))))) (qa_cons (qe_lst (qa_cons (qe_ix (ixr_at hr.units) rof2 (qe_var (i := 14) (by kernel_rfl) (.inr (.inl (by kernel_rfl)))) (qe_var (i := 6) (by kernel_rfl) (.inr (.inl (by kernel_rfl)))) (fun _ _ => rfl)) (qa_cons (qe_ix (ixr_at hr.units) rof2 (qe_var (i := 13) (by kernel_rfl) (.inr (.inl (by kernel_rfl)))) (qe_var (i := 6) (by kernel_rfl) (.inr (.inl (by kernel_rfl)))) (fun _ _ => rfl)) (qa_cons (qe_ix (ixr_at hr.units) rof2 (qe_var (i := 14) (by kernel_rfl) (.inr (.inl (by kernel_rfl)))) (qe_var (i := 6) (by kernel_rfl) (.inr (.inl (by kernel_rfl)))) (fun _ _ => rfl)) (qa_cons (qe_ix (ixr_at hr.units) rof2 (qe_var (i := 13) (by kernel_rfl) (.inr (.inl (by kernel_rfl)))) (qe_var (i := 6) (by kernel_rfl) (.inr (.inl (by kernel_rfl)))) (fun _ _ => rfl)) qa_nil))))) (qa_cons (qe_lst (qa_cons (qe_ix (ixr_at hr.units) rof2 (qe_var (i := 13) (by kernel_rfl) (.inr (.inl (by kernel_rfl)))) (qe_var (i := 6) (by kernel_rfl) (.inr (.inl (by kernel_rfl)))) (fun _ _ => rfl)) (qa_cons (qe_ix (ixr_at hr.units) rof2 (qe_var (i := 13) (by kernel_rfl) (.inr (.inl (by kernel_rfl)))) (qe_var (i := 6) (by kernel_rfl) (.inr (.inl (by kernel_rfl)))) (fun _ _ => rfl)) (qa_cons (qe_ix (ixr_at hr.units) rof2 (qe_var (i := 14) (by kernel_rfl) (.inr (.inl (by kernel_rfl)))) (qe_var (i := 6) (by kernel_rfl) (.inr (.inl (by kernel_rfl)))) (fun _ _ => rfl)) (qa_cons (qe_ix (ixr_at hr.units) rof2 (qe_var (i := 14) (by kernel_rfl) (.inr (.inl (by kernel_rfl)))) (qe_var (i := 6) (by kernel_rfl) (.inr (.inl (by kernel_rfl)))) (fun _ _ => rfl)) qa_nil))))) (qa_cons (qe_lst (qa_cons (qe_ix (ixr_at hr.units) rof2 (qe_var (i := 13) (by kernel_rfl) (.inr (.inl (by kernel_rfl)))) (qe_var (i := 6) (by kernel_rfl) (.inr (.inl (by kernel_rfl)))) (fun _ _ => rfl)) (qa_cons (qe_ix (ixr_at hr.units) rof2 (qe_var (i := 14) (by kernel_rfl) (.inr (.inl (by kernel_rfl)))) (qe_var (i := 6) (by kernel_rfl) (.inr (.inl (by kernel_rfl)))) (fun _ _ => rfl)) (qa_cons (qe_ix (ixr_at hr.units) rof2 (qe_var (i := 13) (by kernel_rfl) (.inr (.inl (by kernel_rfl)))) (qe_var (i := 6) (by kernel_rfl) (.inr (.inl (by kernel_rfl)))) (fun _ _ => rfl)) (qa_cons (qe_ix (ixr_at hr.units) rof2 (qe_var (i := 14) (by kernel_rfl) (.inr (.inl (by kernel_rfl)))) (qe_var (i := 6) (by kernel_rfl) (.inr (.inl (by kernel_rfl)))) (fun _ _ => rfl)) qa_nil))))) qa_nil))))) (qe_op opr_mod rof2 (qe_callT callr_int rofN (gl_of (by kernel_rfl)) FX.b_int boot_int (qa_cons (qe_var (i := 6) (by kernel_rfl) (.inr (.inl (by kernel_rfl)))) qa_nil)) qe_int) (fun _ _ => rfl)) (by kernel_rfl) (.inl rfl))
    (qss_cons (qs_if (qt_cmp (opr_ne hr.units) rof2 (qe_var (i := 8) (by kernel_rfl) (.inl (by kernel_rfl))) (qe_var (i := 9) (by kernel_rfl) (.inl (by kernel_rfl))) rfl) (qss_cons (qs_ret qe_bl)
    qss_nil) qss_nil)
    qss_nil)))))
    (ls_cons (ls_of (W := WE0 E) (qs_set (i := 10) (by simp) nd_law (by kernel_rfl) (.inl (by kernel_rfl)) (e_fn h_is_calm_range (hr.mono (by decide)) (gl_of (by kernel_rfl)) (takes_of rfl rfl rfl rfl) (qa_cons (qe_var (i := 14) (by kernel_rfl) (.inr (.inl (by kernel_rfl)))) (qa_cons (qe_var (i := 13) (by kernel_rfl) (.inr (.inl (by kernel_rfl)))) qa_nil)) rfl) (by kernel_rfl) (.inl rfl)))
    (ls_cons (ls_of (W := WE0 E) (qs_if (qt_cmp (opr_ne hr.units) rof2 (qe_var (i := 10) (by kernel_rfl) (.inl (by kernel_rfl))) (qe_call (callr_all rfl) rofN (gl_of (by kernel_rfl)) FX.b_all boot_all (qa_cons (qe_lc (own := [("poly", 7)]) rfl nd_law (blkOk_by (by kernel_rfl)) (qib_of (qi_val (qe_var (i := 5) (by kernel_rfl) (.inl (by kernel_rfl))))) (fun _ _ _ _ _ => (qg_name (i := 7) (hp_own (by decide)) nd_law (by kernel_rfl) (.inl (by kernel_rfl)) (.inr (by kernel_rfl)))) (fun _ _ _ _ _ => qts_nil) (fun _ _ _ _ _ => (e_fn h_is_calm (hr.mono (by decide)) (gl_of (by kernel_rfl)) L2.takes0 (qa_cons (qe_var (i := 7) (by kernel_rfl) (.inl (by kernel_rfl))) qa_nil) rfl))) qa_nil)) rfl) (qss_cons (qs_ret qe_bl)
    qss_nil) qss_nil))
    (ls_cons (ls_of (W := WE0 E) (qs_if (qt_cmp (opr_ne hr.units) rof2 (qe_var (i := 10) (by kernel_rfl) (.inl (by kernel_rfl))) (qe_call (callr_all rfl) rofN (gl_of (by kernel_rfl)) FX.b_all boot_all (qa_cons (qe_lc (own := [("poly", 7)]) rfl nd_law (blkOk_by (by kernel_rfl)) (qib_of (qi_val (e_fn h__law_choices (hr.mono (by decide)) (gl_of (by kernel_rfl)) (takes_of rfl rfl rfl rfl) (qa_cons (qe_var (i := 14) (by kernel_rfl) (.inr (.inl (by kernel_rfl)))) (qa_cons (qe_var (i := 13) (by kernel_rfl) (.inr (.inl (by kernel_rfl)))) qa_nil)) rfl))) (fun _ _ _ _ _ => (qg_name (i := 7) (hp_own (by decide)) nd_law (by kernel_rfl) (.inl (by kernel_rfl)) (.inr (by kernel_rfl)))) (fun _ _ _ _ _ => (qts_one (qt_cmp (opr_ne hr.units) rof2 (qe_ix (ixr_at hr.units) rof2 (qe_ix (ixr_at hr.units) rof2 (qe_var (i := 7) (by kernel_rfl) (.inl (by kernel_rfl))) (qe_un unr_neg rof1 qe_int) (fun _ _ => rfl)) qe_int (fun _ _ => rfl)) qe_int rfl))) (fun _ _ _ _ _ => (qe_cmp (opr_eq hr.units) rof2 (qe_ix (ixr_at hr.units) rof2 (e_fn h_sides (hr.mono (by decide)) (gl_of (by kernel_rfl)) L2.takes0 (qa_cons (qe_var (i := 7) (by kernel_rfl) (.inl (by kernel_rfl))) qa_nil) rfl) qe_int (fun _ _ => rfl)) (qe_op opr_sub rof2 (qe_var (i := 2) (by kernel_rfl) (.inr (.inl (by kernel_rfl)))) qe_int) rfl))) qa_nil)) rfl) (qss_cons (qs_ret qe_bl)
    qss_nil) qss_nil))
    (ls_cons (ls_of (W := WE0 E) (qs_for (L2.passes_of rfl) rfl (qi_val (qe_callT callr_range rofN (gl_of (by kernel_rfl)) FX.b_range boot_range (qa_cons qe_int qa_nil))) (qg_name (i := 11) (by simp) nd_law (by kernel_rfl) (.inl (by kernel_rfl)) (.inl rfl)) (qss_cons (qs_set (i := 7) (by simp) nd_law (by kernel_rfl) (.inl (by kernel_rfl)) (qe_lst qa_nil) (by kernel_rfl) (.inl rfl))
    (qss_cons (qs_for (L2.passes_of rfl) rfl (qi_val (qe_callT callr_range rofN (gl_of (by kernel_rfl)) FX.b_range boot_range (qa_cons (qe_var (i := 2) (by kernel_rfl) (.inr (.inl (by kernel_rfl)))) qa_nil))) (qg_name (i := 6) (by simp) nd_law (by kernel_rfl) (.inr (by kernel_rfl)) (.inl rfl)) (qss_cons (qs_set (i := 12) (by simp) nd_law (by kernel_rfl) (.inl (by kernel_rfl)) (e_fn h__law_ratio (hr.mono (by decide)) (gl_of (by kernel_rfl)) (takes_of rfl rfl rfl rfl) (qa_cons (e_fnM h__law_take (hr.mono (by decide)) (gl_of (by kernel_rfl)) (takes_of rfl rfl rfl rfl) (qa_cons (qe_var (i := 1) (by kernel_rfl) (.inl (by kernel_rfl))) (qa_cons qe_int qa_nil)) rfl) (qa_cons qe_int qa_nil)) rfl) (by kernel_rfl) (.inl rfl))
    (qss_cons (qs_expr (qe_meth (i := 7) PySem.F.plainAttrs_list PySem.F.slot_list_append PySem.F.type_list_append mt_append mo_append (by kernel_rfl) (.inl (by kernel_rfl)) (qa_cons (e_fn h__law_sum (hr.mono (by decide)) (gl_of (by kernel_rfl)) (takes_of rfl rfl rfl rfl) (qa_cons (qe_lst (qa_cons (qe_ix (ixr_at hr.units) rof2 (qe_var (i := 14) (by kernel_rfl) (.inr (.inl (by kernel_rfl)))) (qe_var (i := 6) (by kernel_rfl) (.inr (.inl (by kernel_rfl)))) (fun _ _ => rfl)) (qa_cons (e_fn h__law_times (hr.mono (by decide)) (gl_of (by kernel_rfl)) (takes_of rfl rfl rfl rfl) (qa_cons (qe_var (i := 12) (by kernel_rfl) (.inl (by kernel_rfl))) (qa_cons (e_fn h__law_minus (hr.mono (by decide)) (gl_of (by kernel_rfl)) (takes_of rfl rfl rfl rfl) (qa_cons (qe_ix (ixr_at hr.units) rof2 (qe_var (i := 13) (by kernel_rfl) (.inr (.inl (by kernel_rfl)))) (qe_var (i := 6) (by kernel_rfl) (.inr (.inl (by kernel_rfl)))) (fun _ _ => rfl)) (qa_cons (qe_ix (ixr_at hr.units) rof2 (qe_var (i := 14) (by kernel_rfl) (.inr (.inl (by kernel_rfl)))) (qe_var (i := 6) (by kernel_rfl) (.inr (.inl (by kernel_rfl)))) (fun _ _ => rfl)) qa_nil)) rfl) qa_nil)) rfl) qa_nil))) qa_nil) rfl) qa_nil)))
    qss_nil)))
    (qss_cons (qs_if (qt_of (qw_and (qt_truth (qe_var (i := 10) (by kernel_rfl) (.inl (by kernel_rfl)))) (qw_and1 (qt_not (qt_truth (e_fn h_is_calm (hr.mono (by decide)) (gl_of (by kernel_rfl)) (takes_of rfl rfl rfl rfl) (qa_cons (qe_callT callr_tuple rofN (gl_of (by kernel_rfl)) FX.b_tuple boot_tuple (qa_cons (qe_var (i := 7) (by kernel_rfl) (.inl (by kernel_rfl))) qa_nil)) qa_nil) rfl)))))) (qss_cons (qs_ret qe_bl)
    qss_nil) qss_nil)
    qss_nil)))))
    (ls_cons (ls_if (lt_not (lt_val (lb_ref (x := "_law_refused") (a := "call") (e := "InvalidPoly") (k := 2) (Ng := ["call"]) RF__law_refused FR__law_refused mR__law_refused (gl_of (by kernel_rfl)) fs__law_refused rfl (.inl (by kernel_rfl)) (by kernel_rfl) (by decide) (fun _ => rfl) (fun _ _ _ _ _ _ us hl => match us, hl with | [_], _ => rfl) TB rfl rfl rfl (hr.mono (by decide)) (LamX.lamS_by (by kernel_rfl)) rfl (fun _ _ _ _ _ => rfl) (fun _ _ _ _ _ _ _ hr => (e_fn h_corners_of_ranges (hr.mono (by decide)) (gl_of (by kernel_rfl)) (takes_of rfl rfl rfl rfl) (qa_cons (qe_var (i := 14) (by kernel_rfl) (.inr (.inr (by kernel_rfl)))) (qa_cons (qe_sl (qe_var (i := 14) (by kernel_rfl) (.inr (.inr (by kernel_rfl)))) qo_none (qo_some (qe_un unr_neg rof1 qe_int))) qa_nil)) rfl))))) (ls_cons (ls_of (W := WE0 E) (qs_ret qe_bl))
    ls_nil) ls_nil)
    (ls_cons (ls_retB (lb_ref (x := "_law_refused") (a := "call") (e := "InvalidPoly") (k := 2) (Ng := ["call"]) RF__law_refused FR__law_refused mR__law_refused (gl_of (by kernel_rfl)) fs__law_refused rfl (.inl (by kernel_rfl)) (by kernel_rfl) (by decide) (fun _ => rfl) (fun _ _ _ _ _ _ us hl => match us, hl with | [_], _ => rfl) TB rfl rfl rfl (hr.mono (by decide)) (LamX.lamS_by (by kernel_rfl)) rfl (fun _ _ _ _ _ => rfl) (fun _ _ _ _ _ _ _ hr => (e_fn h_corners_of_ranges (hr.mono (by decide)) (gl_of (by kernel_rfl)) (takes_of rfl rfl rfl rfl) (qa_cons (qe_op opr_add rof2 (qe_var (i := 13) (by kernel_rfl) (.inr (.inr (by kernel_rfl)))) (qe_tup (qa_cons (qe_tup (qa_cons qe_int (qa_cons qe_int qa_nil))) qa_nil))) (qa_cons (qe_op opr_add rof2 (qe_var (i := 14) (by kernel_rfl) (.inr (.inr (by kernel_rfl)))) (qe_tup (qa_cons (qe_tup (qa_cons qe_int (qa_cons qe_int qa_nil))) qa_nil))) qa_nil)) rfl))))
    ls_nil)))))))))))))))
end
end G04
end

section
set_option Elab.async false
set_option linter.all false
set_option maxRecDepth 100000
set_option maxHeartbeats 2000000
set_option autoImplicit false
set_option exponentiation.threshold 2000
/-! M04a: k04: corners_of_ranges, is_calm_range, the law's choices. -/
namespace G04
open PySem PySem.Spec PyProof.Rows L2 HF PF KH
/-- sixteenths from 4 to 128 -/
def Co (x : Rat) : Prop := ∃ m : Nat, 4 ≤ m ∧ m ≤ 128 ∧ x = (m : Rat) / 16
theorem Co.pos {x : Rat} (h : Co x) : 0 < x := by
  obtain ⟨m, h1, h2, rfl⟩ := h
  have : (0 : Rat) < m := by exact_mod_cast (show 0 < m by omega)
  grind
theorem Co.hb {x : Rat} (h : Co x) : Hb 8 x := by
  obtain ⟨m, h1, h2, rfl⟩ := h
  have e : (m : Rat) / 16 = Rat.divInt (m : Int) 16 := by
    rw [Rat.divInt_eq_div]
    rfl
  rw [e]
  exact hb_divInt (by omega) (by decide) (by decide)
theorem co_hb {xs : List Rat} (h : ∀ x ∈ xs, Co x) : HbL 8 xs := fun x hx => (h x hx).hb
/-- what sides tells of such a polynomial -/
theorem lft {xs : List Rat} (h2 : 2 ≤ xs.length) (h5 : xs.length ≤ 5) (hc : ∀ x ∈ xs, Co x) : ∃ l, Lft xs l ∧ (decide (l = (xs.length : Int) - 1)) = calmB xs := by
  rcases (show xs.length = 2 ∨ xs.length = 3 ∨ xs.length = 4 ∨ xs.length = 5 by omega) with e | e | e | e
  · obtain ⟨a, b, rfl⟩ := len2 e
    have ha := hc a (by simp); have hb := hc b (by simp)
    exact ⟨_, sides2 ha.pos hb.pos ha.hb hb.hb, rfl⟩
  · obtain ⟨a, b, c, rfl⟩ := len3 e
    have ha := hc a (by simp); have hb := hc b (by simp); have hc' := hc c (by simp)
    exact ⟨_, sides3 ha.pos hb.pos hc'.pos ha.hb hb.hb hc'.hb, rfl⟩
  · obtain ⟨a, b, c, d, rfl⟩ := len4 e
    have ha := hc a (by simp); have hb := hc b (by simp); have hc' := hc c (by simp); have hd := hc d (by simp)
    refine ⟨_, sides4 ha.pos hb.pos hc'.pos hd.pos ha.hb hb.hb hc'.hb hd.hb, ?_⟩
    show decide ((if d * a / c - b < 0 then (3 : Int) else 1) = ((4 : Nat) : Int) - 1) = decide (d * a / c - b < 0)
    by_cases h : d * a / c - b < 0
    · rw [if_pos h, decide_eq_true h]; decide
    · rw [if_neg h, decide_eq_false h]; decide
  · obtain ⟨a, b, c, d, x, rfl⟩ := len5 e
    have ha := hc a (by simp); have hb := hc b (by simp); have hc' := hc c (by simp); have hd := hc d (by simp); have hx := hc x (by simp)
    refine ⟨_, sides5 ha.pos hb.pos hc'.pos hd.pos hx.pos ha.hb hb.hb hc'.hb hd.hb hx.hb, ?_⟩
    show decide ((if 0 < c - x * b / d ∧ 0 < b - d * a / (c - x * b / d) then (4 : Int) else 2) = ((5 : Nat) : Int) - 1) = decide (0 < c - x * b / d ∧ 0 < b - d * a / (c - x * b / d))
    by_cases h : 0 < c - x * b / d ∧ 0 < b - d * a / (c - x * b / d)
    · rw [if_pos h, decide_eq_true h]; decide
    · rw [if_neg h, decide_eq_false h]; decide
theorem d_calm {xs : List Rat} (h2 : 2 ≤ xs.length) (h5 : xs.length ≤ 5) (hc : ∀ x ∈ xs, Co x) : denOf 1 F_is_calm [PF.eP xs] = .ok (.bl (calmB xs)) false none := by
  obtain ⟨l, h1, h3⟩ := lft h2 h5 hc
  have := d_is_calm h1
  rwa [h3] at this
/-! ### corners -/
theorem bools_map (bs : List Bool) : boolsOf (bs.map PV.bl) = some bs := boolsOf_map bs
theorem opAny_bools (bs : List Bool) : opAny [.lst (bs.map PV.bl)] = some (.bl (bs.any id), false) := by
  show (boolsOf (bs.map PV.bl)).map _ = _
  rw [bools_map]
  rfl
theorem opAll_bools (bs : List Bool) : opAll [.lst (bs.map PV.bl)] = some (.bl (bs.all id), false) := by
  show (boolsOf (bs.map PV.bl)).map _ = _
  rw [bools_map]
  rfl
def gapC : PM Bool := (tOrP (tBool (eOp2 opNe (eOpN opLen (aCons (eVar 0) aNil)) (eOpN opLen (aCons (eVar 1) aNil)))) (tOrP (tBool (eOp2 opLt (eOpN opLen (aCons (eVar 0) aNil)) (eC (.int 2)))) (tTru (eOpN opAny (aCons (eComp [4, 5] (iOf (iZip2 (aCons (eVar 0) (aCons (eVar 1) aNil)))) (gTp 2 (gsCons (gNm 4) (gsCons (gNm 5) gsNil))) (ret true) (eCall (denOf 2 PF.F_less) (aCons (eVar 5) (aCons (eVar 4) aNil)))) aNil)))))
theorem gap_len {s : SE} {lo hi : List Rat} (h0 : s[0]? = some (some (false, PF.eP lo))) (h1 : s[1]? = some (some (false, PF.eP hi))) (h : lo.length ≠ hi.length) : EvT gapC s true := by
  have := evt_bool (ev_op2 (len_P h0).rd (len_P h1).rd (ne_ii (lo.length : Int) hi.length))
  rw [decide_eq_false (by omega)] at this
  exact evt_or (b := true) (b2 := false) this fun z => by cases z
theorem gap_at {s : SE} {lo hi : List Rat} (hs : s.length = 7) (h0 : s[0]? = some (some (false, PF.eP lo))) (h1 : s[1]? = some (some (false, PF.eP hi))) (h : lo.length = hi.length) (hl : lo.length ≤ 100) (h2 : 2 ≤ lo.length) (b0 : HbL 8 lo) (b1 : HbL 8 hi) : EvT gapC s ((lo.zip hi).any fun p => decide (p.2 < p.1)) := by
  have t1 := evt_bool (ev_op2 (len_P h0).rd (len_P h1).rd (ne_ii (lo.length : Int) hi.length))
  rw [decide_eq_true (by omega)] at t1
  have t2 := evt_bool (fr := false) (ev_op2 (o := opLt) (r := .bl (decide ((lo.length : Int) < 2))) (len_P h0).rd (ev_c (p := .int 2)).rd rfl)
  rw [decide_eq_false (by omega)] at t2
  have iz : iZip2 (aCons (eVar 0) (aCons (eVar 1) aNil)) s = .ok ((lo.zip hi).map fun p => .tup [eQ p.1, eQ p.2]) s := by
    rw [← zipP_map]
    exact iv_zip2 (ev_var h0) (ev_var h1) rfl rfl
  have c := ev_comp2 (i := 4) (j := 5) (E := eCall (denOf 2 PF.F_less) (aCons (eVar 5) (aCons (eVar 4) aNil))) (lo.zip hi) (fun p => eQ p.1) (fun p => eQ p.2) (fun p => .bl (decide (p.2 < p.1))) iz (by rw [List.length_zip, sizeLine_eq]; omega) (by omega) (by omega) (by decide) fun p hp => ⟨false, by
    have hp := List.of_mem_zip (a := p.1) (b := p.2) hp
    refine ev_call (io := none) (eva_cons (ev_var (i := 5) ?_) (eva_cons (ev_var (i := 4) ?_) eva_nil)) (d_less (b1 _ hp.2) (b0 _ hp.1) (by omega))
    · rw [List.getElem?_set_self (by rw [List.length_set]; omega)]
    · rw [List.getElem?_set_ne (by decide), List.getElem?_set_self (by omega)]⟩
  have em : ((lo.zip hi).map fun p => PV.bl (decide (p.2 < p.1))) = ((lo.zip hi).map fun p => decide (p.2 < p.1)).map PV.bl := by rw [List.map_map]; rfl
  rw [em] at c
  have t3 := evt_tru (ev_opN (rda_cons c.rd rda_nil) (opAny_bools _)).rd (show truthP (.bl (((lo.zip hi).map fun p => decide (p.2 < p.1)).any id)) = some _ from rfl)
  have := evt_or t1 fun _ => evt_or t2 fun _ => t3
  rw [Bool.not_true, Bool.false_or, Bool.false_or, List.any_map] at this
  exact this
theorem x_len {lo hi : List Rat} (h : lo.length ≠ hi.length) : denOf 7 F_corners_of_ranges [PF.eP lo, PF.eP hi] = .exc "InvalidPoly" :=
  den_exc (s1 := st0 7 [PF.eP lo, PF.eP hi]) (s_seq_exc (si (gap_len rfl rfl h) (fun _ => s_seq_exc rfl) fun z => by cases z))
theorem x_gap {lo hi : List Rat} (h : lo.length = hi.length) (hl : lo.length ≤ 100) (h2 : 2 ≤ lo.length) (b0 : HbL 8 lo) (b1 : HbL 8 hi) (hg : (lo.zip hi).any (fun p => decide (p.2 < p.1)) = true) : denOf 7 F_corners_of_ranges [PF.eP lo, PF.eP hi] = .exc "InvalidPoly" := by
  have t := gap_at (s := st0 7 [PF.eP lo, PF.eP hi]) rfl rfl rfl h hl h2 b0 b1
  rw [hg] at t
  exact den_exc (s1 := st0 7 [PF.eP lo, PF.eP hi]) (s_seq_exc (si t (fun _ => s_seq_exc rfl) fun z => by cases z))
def pats : List Str := ["llhh", "lhhl", "hllh", "hhll"]
theorem pat_ix : ∀ p < 4, ∀ k < 4, (opIx (.str (pats.getD p "")) (.int (k : Nat))).bind (fun c => opEq c.1 (.str "l")) = some (.bl (lowAt p k), false) := by decide +kernel
theorem lowAt_mod (p k : Nat) : lowAt p (k % 4) = lowAt p k := by unfold lowAt; rw [Nat.mod_mod]
theorem d_corners {lo hi : List Rat} (h : lo.length = hi.length) (hl : lo.length ≤ 100) (h2 : 2 ≤ lo.length) (b0 : HbL 8 lo) (b1 : HbL 8 hi) (hg : (lo.zip hi).any (fun p => decide (p.2 < p.1)) = false) (hlast : 0 < lo.getLastD 0) :
    denOf 7 F_corners_of_ranges [PF.eP lo, PF.eP hi] = .ok (.tup ([0, 1, 2, 3].map fun p => PF.eP (corner p lo hi))) false none := by
  have hne : lo ≠ [] := fun e => by rw [e] at h2; simp at h2
  have t := gap_at (s := st0 7 [PF.eP lo, PF.eP hi]) rfl rfl rfl h hl h2 b0 b1
  rw [hg] at t
  have sg : EvT (tBool (eOp2 opLe (eCall (denOf 1 PF.F_sign) (aCons (eOp2 opIx (eVar 0) (eOp1 opNeg (eC (.int 1)))) aNil)) (eC (.int 0)))) (st0 7 [PF.eP lo, PF.eP hi]) false := by
    have := evt_bool (fr := false) (ev_op2 (o := opLe) (r := .bl (decide (sgn (lo.getLastD 0) ≤ 0))) (ev_call (io := none) (eva_cons (ev_op2 (s := st0 7 [PF.eP lo, PF.eP hi]) (rd_var (i := 0) (b := false) rfl) ev_m1.rd (ixT_last hne)) eva_nil) (d_sign _)).rd (ev_c (p := .int 0)).rd rfl)
    rw [sgn_pos hlast] at this
    exact this
  let S (ps : List Nat) (x3 : Option (Bool × PV)) : SE := [some (false, PF.eP lo), some (false, PF.eP hi), some (true, .lst (ps.map fun p => PF.eP (corner p lo hi))), x3, none, none, none]
  have body : ∀ (ps : List Nat) (p : Nat), p < 4 → ps.length ≤ 4 → (sSeq (sExpr (eMeth 2 opAppend (aCons (eOpN opTuple (aCons (eComp [6] (iOf (iVal (eOpN opRange (aCons (eOpN opLen (aCons (eVar 0) aNil)) aNil)))) (gNm 6) (ret true) (eIf (tBool (eOp2 opEq (eOp2 opIx (eVar 3) (eOp2 opMod (eVar 6) (eC (.int 4)))) (eC (.str "l")))) (eOp2 opIx (eVar 0) (eVar 6)) (eOp2 opIx (eVar 1) (eVar 6)))) aNil)) aNil))) sNext) (S ps (some (false, .str (pats.getD p "")))) = .ok .next (S (ps ++ [p]) (some (false, .str (pats.getD p "")))) := fun ps p hp hps => by
    have c := ev_compX (I := iVal (eOpN opRange (aCons (eOpN opLen (aCons (eVar 0) aNil)) aNil))) (s := S ps (some (false, .str (pats.getD p "")))) (i := 6) (E := eIf (tBool (eOp2 opEq (eOp2 opIx (eVar 3) (eOp2 opMod (eVar 6) (eC (.int 4)))) (eC (.str "l")))) (eOp2 opIx (eVar 0) (eVar 6)) (eOp2 opIx (eVar 1) (eVar 6))) (List.range lo.length) eI (fun k => eQ (if lowAt p k then lo.getD k 0 else hi.getD k 0)) (iv_rng (ev_opN (rda_cons (len_P (i := 0) rfl).rd rda_nil) rfl) (by omega)) (by rw [List.length_range, sizeLine_eq]; omega) (by simp [S]) fun k hk => ⟨false, by
      have hk := List.mem_range.mp hk
      have hx := pat_ix p hp (k % 4) (Nat.mod_lt _ (by decide))
      obtain ⟨c1, e1, e2⟩ := Option.bind_eq_some_iff.mp hx
      obtain ⟨c1, fr1⟩ := c1
      rw [lowAt_mod] at e2
      have t : EvT (tBool (eOp2 opEq (eOp2 opIx (eVar 3) (eOp2 opMod (eVar 6) (eC (.int 4)))) (eC (.str "l")))) ((S ps (some (false, .str (pats.getD p "")))).set 6 (some (false, eI k))) (lowAt p k) := by
        refine evt_bool (ev_op2 (ev_op2 (r := c1) (fr3 := fr1) (rd_var (i := 3) (b := false) (p := .str (pats.getD p "")) rfl) (ev_mod (i := 6) (k := k) rfl (by decide)).rd ?_).rd (ev_c (p := .str "l")).rd e2)
        rw [show (k : Int) % 4 = ((k % 4 : Nat) : Int) by omega]
        exact e1
      refine ev_if t (fun z => ?_) fun z => ?_
      · rw [z, if_pos rfl]
        exact ev_op2 (rd_var (i := 0) (b := false) rfl) (rd_var (i := 6) (b := false) (p := eI k) rfl) (ixT hk)
      · rw [z, if_neg (by decide)]
        exact ev_op2 (rd_var (i := 1) (b := false) rfl) (rd_var (i := 6) (b := false) (p := eI k) rfl) (ixT (by omega))⟩
    have ec : ((List.range lo.length).map fun k => eQ (if lowAt p k then lo.getD k 0 else hi.getD k 0)) = PF.eL (corner p lo hi) := by
      unfold PF.eL corner
      rw [List.map_map]
      rfl
    rw [ec] at c
    refine sq (s_appL (s := S ps (some (false, .str (pats.getD p "")))) (i := 2) rfl (ev_opN (r := PF.eP (corner p lo hi)) (fr3 := false) (rda_cons c.rd rda_nil) rfl) (by rw [List.length_map, sizeLine_eq]; omega)) ?_
    show Rs.ok Fl.next _ = Rs.ok Fl.next _
    simp [S]
  have fl : ∀ (qs : List Nat) (ps : List Nat) (x3 : Option (Bool × PV)), (∀ p ∈ qs, p < 4) → ps.length + qs.length ≤ 4 → ∃ x3', forL (gNm 3) (sSeq (sExpr (eMeth 2 opAppend (aCons (eOpN opTuple (aCons (eComp [6] (iOf (iVal (eOpN opRange (aCons (eOpN opLen (aCons (eVar 0) aNil)) aNil)))) (gNm 6) (ret true) (eIf (tBool (eOp2 opEq (eOp2 opIx (eVar 3) (eOp2 opMod (eVar 6) (eC (.int 4)))) (eC (.str "l")))) (eOp2 opIx (eVar 0) (eVar 6)) (eOp2 opIx (eVar 1) (eVar 6)))) aNil)) aNil))) sNext) (qs.map fun p => PV.str (pats.getD p "")) (S ps x3) = .ok .next (S (ps ++ qs) x3') := by
    intro qs
    induction qs with
    | nil => intro ps x3 _ _; exact ⟨x3, by rw [List.append_nil]; rfl⟩
    | cons q qs ih =>
      intro ps x3 hq hl
      rw [List.length_cons] at hl
      obtain ⟨x3', ih⟩ := ih (ps ++ [q]) (some (false, .str (pats.getD q ""))) (fun p hp => hq p (List.mem_cons_of_mem _ hp)) (by rw [List.length_append]; simp; omega)
      refine ⟨x3', ?_⟩
      rw [List.map_cons]
      unfold forL
      rw [bnd_ok (show nx (gNm 3 (.str (pats.getD q ""))) (S ps x3) = .ok () (S ps (some (false, .str (pats.getD q "")))) from rfl)]
      simp only [body ps q (hq q List.mem_cons_self) (by omega)]
      rw [ih, List.append_assoc]
      rfl
  obtain ⟨x3', e⟩ := fl [0, 1, 2, 3] [] none (by decide) (by decide)
  refine den_ret (s1 := S [0, 1, 2, 3] x3') ?_
  unfold F_corners_of_ranges
  refine sq (sno t rfl) (sq (sno sg rfl) (sq (s1 := S [] none) rfl ?_))
  exact sq (sf (ps := [0, 1, 2, 3].map fun p => PV.str (pats.getD p "")) (s1 := S [] none) rfl e) (s_seq_ret (s_ret (ev_opN (r := .tup ([0, 1, 2, 3].map fun p => PF.eP (corner p lo hi))) (fr3 := false) (rda_cons (rd_var (i := 2) (b := true) rfl) rda_nil) rfl)))
end G04
end

section
set_option Elab.async false
set_option linter.all false
set_option maxRecDepth 100000
set_option maxHeartbeats 2000000
set_option autoImplicit false
set_option exponentiation.threshold 2000
/-! M04b: k04: is_calm_range, the law's choices. -/
namespace G04
open PySem PySem.Spec PyProof.Rows L2 HF PF KH
theorem corner_len (p : Nat) (lo hi : List Rat) : (corner p lo hi).length = lo.length := by unfold corner; rw [List.length_map, List.length_range]
theorem corner_get {p : Nat} {lo hi : List Rat} {k : Nat} (h : k < lo.length) : (corner p lo hi).getD k 0 = if lowAt p k then lo.getD k 0 else hi.getD k 0 := by
  unfold corner
  rw [List.getD_eq_getElem?_getD, List.getElem?_map, List.getElem?_range h]
  rfl
theorem mem_getD {xs : List Rat} {x : Rat} (h : x ∈ xs) : ∃ k, k < xs.length ∧ xs.getD k 0 = x := by
  obtain ⟨k, hk, e⟩ := List.mem_iff_getElem.mp h
  exact ⟨k, hk, by rw [List.getD_eq_getElem?_getD, List.getElem?_eq_getElem hk]; exact e⟩
theorem getD_mem {xs : List Rat} {k : Nat} (h : k < xs.length) : xs.getD k 0 ∈ xs := by
  rw [List.getD_eq_getElem?_getD, List.getElem?_eq_getElem h]
  exact List.getElem_mem h
/-- the ranges that the law draws -/
structure Rg (n : Nat) (lo hi : List Rat) : Prop where
  l : lo.length = n
  h : hi.length = n
  n2 : 2 ≤ n
  n5 : n ≤ 5
  cl : ∀ k, k < n → Co (lo.getD k 0)
  ch : ∀ k, k < n → Co (hi.getD k 0)
  le : ∀ k, k < n → lo.getD k 0 ≤ hi.getD k 0
/-- a row within -/
def In (n : Nat) (lo hi as : List Rat) : Prop := as.length = n ∧ ∀ k, k < n → Co (as.getD k 0) ∧ lo.getD k 0 ≤ as.getD k 0 ∧ as.getD k 0 ≤ hi.getD k 0
theorem In.co {n : Nat} {lo hi as : List Rat} (h : In n lo hi as) : ∀ x ∈ as, Co x := fun x hx => by
  obtain ⟨k, hk, rfl⟩ := mem_getD hx
  exact (h.2 k (h.1 ▸ hk)).1
theorem btw_of : ∀ {lo as hi : List Rat}, as.length = lo.length → hi.length = lo.length → (∀ k, k < lo.length → 0 < lo.getD k 0 ∧ lo.getD k 0 ≤ as.getD k 0 ∧ as.getD k 0 ≤ hi.getD k 0) → Btw lo as hi
  | [], [], [], _, _, _ => trivial
  | l :: lo, a :: as, h :: hi, e1, e2, q => by
    obtain ⟨q1, q2, q3⟩ := q 0 (by simp)
    exact ⟨q1, q2, q3, btw_of (by simpa using e1) (by simpa using e2) fun k hk => by simpa using q (k + 1) (by simpa using hk)⟩
  | [], _ :: _, _, e1, _, _ => by simp at e1
  | [], [], _ :: _, _, e2, _ => by simp at e2
  | _ :: _, [], _, e1, _, _ => by simp at e1
  | _ :: _, _ :: _, [], _, e2, _ => by simp at e2
theorem In.btw {n : Nat} {lo hi as : List Rat} (r : Rg n lo hi) (h : In n lo hi as) : Btw lo as hi := btw_of (h.1.trans r.l.symm) (r.h.trans r.l.symm) fun k hk => ⟨(r.cl k (r.l ▸ hk)).pos, (h.2 k (r.l ▸ hk)).2⟩
theorem corner_in {n : Nat} {lo hi : List Rat} (r : Rg n lo hi) (p : Nat) : In n lo hi (corner p lo hi) := ⟨(corner_len p lo hi).trans r.l, fun k hk => by
  rw [corner_get (r.l ▸ hk)]
  cases lowAt p k with
  | true => exact ⟨r.cl k hk, Rat.le_refl, r.le k hk⟩
  | false => exact ⟨r.ch k hk, r.le k hk, Rat.le_refl⟩⟩
theorem Rg.hl {n : Nat} {lo hi : List Rat} (r : Rg n lo hi) : HbL 8 lo := fun x hx => by
  obtain ⟨k, hk, rfl⟩ := mem_getD hx
  exact (r.cl k (r.l ▸ hk)).hb
theorem Rg.hh {n : Nat} {lo hi : List Rat} (r : Rg n lo hi) : HbL 8 hi := fun x hx => by
  obtain ⟨k, hk, rfl⟩ := mem_getD hx
  exact (r.ch k (r.h ▸ hk)).hb
theorem Rg.gap {n : Nat} {lo hi : List Rat} (r : Rg n lo hi) : (lo.zip hi).any (fun p => decide (p.2 < p.1)) = false := by
  rw [List.any_eq_false]
  intro p hp
  obtain ⟨k, hk, e⟩ := List.mem_iff_getElem.mp hp
  rw [List.length_zip] at hk
  have hk1 : k < lo.length := by omega
  have hk2 : k < hi.length := by omega
  rw [List.getElem_zip] at e
  have q := r.le k (r.l ▸ hk1)
  rw [List.getD_eq_getElem?_getD, List.getElem?_eq_getElem hk1, List.getD_eq_getElem?_getD, List.getElem?_eq_getElem hk2] at q
  rw [← e, decide_eq_true_eq]
  exact Rat.not_lt.mpr q
theorem lastD_get {xs : List Rat} (h : xs ≠ []) : xs.getLastD 0 = xs.getD (xs.length - 1) 0 := by
  rw [lastD_eq, List.getLast?_eq_getElem?, List.getD_eq_getElem?_getD]
theorem Rg.last {n : Nat} {lo hi : List Rat} (r : Rg n lo hi) : 0 < lo.getLastD 0 := by
  have := r.n2
  have hl := r.l
  rw [lastD_get (fun e => by rw [e] at hl; simp at hl; omega)]
  exact (r.cl _ (by omega)).pos
theorem Rg.corners {n : Nat} {lo hi : List Rat} (r : Rg n lo hi) : denOf 7 F_corners_of_ranges [PF.eP lo, PF.eP hi] = .ok (.tup ([0, 1, 2, 3].map fun p => PF.eP (corner p lo hi))) false none :=
  d_corners (r.l.trans r.h.symm) (by have := r.n5; have := r.l; omega) (by have := r.n2; have := r.l; omega) r.hl r.hh r.gap r.last
theorem In.calm {n : Nat} {lo hi as : List Rat} (r : Rg n lo hi) (h : In n lo hi as) : denOf 1 F_is_calm [PF.eP as] = .ok (.bl (calmB as)) false none :=
  PFd_calm (by have := r.n2; have := h.1; omega) (by have := r.n5; have := h.1; omega) h.co
where PFd_calm {xs : List Rat} (h2 : 2 ≤ xs.length) (h5 : xs.length ≤ 5) (hc : ∀ x ∈ xs, Co x) : denOf 1 F_is_calm [PF.eP xs] = .ok (.bl (calmB xs)) false none := d_calm h2 h5 hc
def four (lo hi : List Rat) : Bool := [0, 1, 2, 3].all fun p => calmB (corner p lo hi)
theorem all_calm {α : Type} {s : SE} {i : Nat} {I : PM (List PV)} {E : PM HF.Arg} (xs : List α) (enc : α → PV) (c : α → Bool) (hI : I s = .ok (xs.map enc) s) (hl : xs.length ≤ 1000) (hi : i < s.length) (h : ∀ x ∈ xs, Ev E (s.set i (some (false, enc x))) (.bl (c x)) false) :
    Ev (eOpN opAll (aCons (eComp [i] (iOf I) (gNm i) (ret true) E) aNil)) s (.bl (xs.all c)) false := by
  have q := ev_compX xs enc (fun x => PV.bl (c x)) hI (by rw [sizeLine_eq]; omega) hi fun x hx => ⟨false, h x hx⟩
  have em : (xs.map fun x => PV.bl (c x)) = (xs.map c).map PV.bl := by rw [List.map_map]; rfl
  rw [em] at q
  have := ev_opN (rda_cons q.rd rda_nil) (opAll_bools (xs.map c))
  rw [List.all_map] at this
  exact this
theorem d_calm_range {n : Nat} {lo hi : List Rat} (r : Rg n lo hi) : denOf 3 F_is_calm_range [PF.eP lo, PF.eP hi] = .ok (.bl (four lo hi)) false none := by
  refine den_ret (s1 := st0 3 [PF.eP lo, PF.eP hi]) (s_seq_ret (s_ret ?_))
  refine all_calm (s := st0 3 [PF.eP lo, PF.eP hi]) [0, 1, 2, 3] (fun p => PF.eP (corner p lo hi)) (fun p => calmB (corner p lo hi)) (iv_tup (ev_call (io := none) (eva_cons (ev_var (i := 0) rfl) (eva_cons (ev_var (i := 1) rfl) eva_nil)) r.corners)) (by simp) (by simp [st0]) fun p _ => ?_
  exact ev_call (io := none) (eva_cons (ev_var (i := 2) rfl) eva_nil) ((corner_in r p).calm r)
/-! ### the law's choices -/
def moreQ (rows : List (List Rat)) (a b : Rat) : List (List Rat) := rows.flatMap fun r => [r ++ [a], r ++ [b]]
def chQ (lo hi : List Rat) : Nat → List (List Rat)
  | 0 => [[]]
  | k + 1 => moreQ (chQ lo hi k) (lo.getD k 0) (hi.getD k 0)
theorem moreQ_len (a b : Rat) : ∀ rows : List (List Rat), (moreQ rows a b).length = 2 * rows.length
  | [] => rfl
  | r :: rows => by
    have := moreQ_len a b rows
    unfold moreQ at *
    rw [List.flatMap_cons, List.length_append, this, List.length_cons]
    simp
    omega
theorem chQ_len (lo hi : List Rat) : ∀ k, (chQ lo hi k).length = 2 ^ k
  | 0 => rfl
  | k + 1 => by rw [chQ, moreQ_len, chQ_len lo hi k, Nat.pow_succ]; omega
theorem mem_ch {lo hi : List Rat} : ∀ (k : Nat) (p : List Rat), p ∈ chQ lo hi k ↔ p.length = k ∧ ∀ i, i < k → p.getD i 0 = lo.getD i 0 ∨ p.getD i 0 = hi.getD i 0
  | 0, p => by
    rw [chQ, List.mem_singleton]
    constructor
    · rintro rfl; exact ⟨rfl, fun i h => by omega⟩
    · rintro ⟨h, _⟩; exact List.length_eq_zero_iff.mp h
  | k + 1, p => by
    have ih := mem_ch (lo := lo) (hi := hi) k
    have gs : ∀ (r : List Rat) (x : Rat), r.length = k → (r ++ [x]).getD k 0 = x := fun r x h => by rw [List.getD_eq_getElem?_getD, List.getElem?_append_right (by omega)]; simp [h]
    have gl : ∀ (r : List Rat) (x : Rat) (i : Nat), i < r.length → (r ++ [x]).getD i 0 = r.getD i 0 := fun r x i h => by rw [List.getD_eq_getElem?_getD, List.getElem?_append_left h, List.getD_eq_getElem?_getD]
    rw [chQ, moreQ, List.mem_flatMap]
    constructor
    · rintro ⟨r, hr, hp⟩
      obtain ⟨h1, h2⟩ := (ih r).mp hr
      have key : ∀ x, x = lo.getD k 0 ∨ x = hi.getD k 0 → p = r ++ [x] → p.length = k + 1 ∧ ∀ i, i < k + 1 → p.getD i 0 = lo.getD i 0 ∨ p.getD i 0 = hi.getD i 0 := fun x hx e => by
        subst e
        refine ⟨by simp [h1], fun i hi => ?_⟩
        rcases Nat.lt_or_ge i k with z | z
        · rw [gl _ _ _ (by omega)]; exact h2 i z
        · have : i = k := by omega
          subst this
          rw [gs _ _ h1]; exact hx
      rcases List.mem_cons.mp hp with e | e
      · exact key _ (.inl rfl) e
      · exact key _ (.inr rfl) (List.mem_singleton.mp e)
    · rintro ⟨h1, h2⟩
      rcases snoc_cases p with e | ⟨r, x, e⟩
      · rw [e] at h1; simp at h1
      · subst e
        have hr : r.length = k := by simpa using h1
        refine ⟨r, (ih r).mpr ⟨hr, fun i hi => ?_⟩, ?_⟩
        · have := h2 i (by omega)
          rwa [gl _ _ _ (by omega)] at this
        · have := h2 k (by omega)
          rw [gs _ _ hr] at this
          rcases this with z | z
          · rw [z]; exact List.mem_cons_self
          · rw [z]; exact List.mem_cons_of_mem _ List.mem_cons_self
theorem choice_in {n : Nat} {lo hi p : List Rat} (r : Rg n lo hi) (h : p ∈ chQ lo hi n) : In n lo hi p := by
  obtain ⟨h1, h2⟩ := (mem_ch n p).mp h
  refine ⟨h1, fun k hk => ?_⟩
  rcases h2 k hk with e | e
  · rw [e]; exact ⟨r.cl k hk, Rat.le_refl, r.le k hk⟩
  · rw [e]; exact ⟨r.ch k hk, r.le k hk, Rat.le_refl⟩
theorem corner_ch {n : Nat} {lo hi : List Rat} (r : Rg n lo hi) (p : Nat) : corner p lo hi ∈ chQ lo hi n := (mem_ch n _).mpr ⟨(corner_len p lo hi).trans r.l, fun k hk => by
  rw [corner_get (r.l ▸ hk)]
  cases lowAt p k with
  | true => exact .inl rfl
  | false => exact .inr rfl⟩
/-- all within are calm if the four are -/
theorem four_in {n : Nat} {lo hi as : List Rat} (r : Rg n lo hi) (h : In n lo hi as) (hf : four lo hi = true) : calmB as = true := by
  refine khar (by have := r.n2; have := r.l; omega) (by have := r.n5; have := r.l; omega) (h.btw r) fun p hp => ?_
  refine List.all_eq_true.mp hf p ?_
  rcases (show p = 0 ∨ p = 1 ∨ p = 2 ∨ p = 3 by omega) with rfl | rfl | rfl | rfl <;> simp
theorem all_ch {n : Nat} {lo hi : List Rat} (r : Rg n lo hi) : (chQ lo hi n).all calmB = four lo hi := by
  cases hf : four lo hi with
  | true => exact List.all_eq_true.mpr fun p hp => four_in r (choice_in r hp) hf
  | false =>
    rw [Bool.eq_false_iff]
    intro h
    have : four lo hi = true := List.all_eq_true.mpr fun p _ => List.all_eq_true.mp h _ (corner_ch r p)
    rw [hf] at this
    cases this
theorem add_lst {a b : List PV} (h : a.length + b.length ≤ 1000) : opAdd (.lst a) (.lst b) = some (.lst (a ++ b), true) := by
  simp only [opAdd]
  rw [if_pos (by rw [sizeLine_eq]; omega)]
theorem add_tup {a b : List PV} (h : a.length + b.length ≤ 1000) : opAdd (.tup a) (.tup b) = some (.tup (a ++ b), false) := by
  simp only [opAdd]
  rw [if_pos (by rw [sizeLine_eq]; omega)]
theorem d_more {rows : List (List Rat)} {a b : Rat} (hl : rows.length ≤ 100) (hr : ∀ r ∈ rows, r.length ≤ 100) : denOf 5 F__law_more [ePs rows, eQ a, eQ b] = .ok (ePs (moreQ rows a b)) true none := by
  have key : ∀ (rs done : List (List Rat)) (x4 : Option (Bool × PV)), (∀ r ∈ rs, r.length ≤ 100) → done.length + 2 * rs.length ≤ 300 → ∃ x4', forL (gNm 4) (sSeq (sSet 3 (eOp2 opAdd (eVar 3) (eLst (aCons (eOp2 opAdd (eVar 4) (eTup (aCons (eVar 1) aNil))) (aCons (eOp2 opAdd (eVar 4) (eTup (aCons (eVar 2) aNil))) aNil))))) sNext) (rs.map PF.eP) [some (false, ePs rows), some (false, eQ a), some (false, eQ b), some (true, ePs done), x4]
      = .ok .next [some (false, ePs rows), some (false, eQ a), some (false, eQ b), some (true, ePs (done ++ moreQ rs a b)), x4'] := by
    intro rs
    induction rs with
    | nil => intro done x4 _ _; exact ⟨x4, by rw [show moreQ [] a b = [] from rfl, List.append_nil]; rfl⟩
    | cons r rs ih =>
      intro done x4 hr hd
      rw [List.length_cons] at hd
      obtain ⟨x4', ih⟩ := ih (done ++ [r ++ [a], r ++ [b]]) (some (false, PF.eP r)) (fun q hq => hr q (List.mem_cons_of_mem _ hq)) (by simp; omega)
      refine ⟨x4', ?_⟩
      have hrl := hr r List.mem_cons_self
      have one : ∀ (i : Nat) (x : Rat) (s : SE), s[4]? = some (some (false, PF.eP r)) → s[i]? = some (some (false, eQ x)) → Ev (eOp2 opAdd (eVar 4) (eTup (aCons (eVar i) aNil))) s (PF.eP (r ++ [x])) false := fun i x s h1 h2 => by
        refine ev_op2 (rd_var (b := false) h1) (ev_tup (ps := [eQ x]) (eva_cons (ev_var h2) eva_nil) (by rw [sizeLine_eq]; exact Nat.le_of_ble_eq_true rfl)).rd ?_
        show opAdd (.tup (PF.eL r)) (.tup [eQ x]) = _
        rw [add_tup (by rw [eL_len]; simp; omega)]
        unfold PF.eP
        rw [eL_app]
        rfl
      rw [List.map_cons]
      unfold forL
      rw [bnd_ok (show nx (gNm 4 (PF.eP r)) [some (false, ePs rows), some (false, eQ a), some (false, eQ b), some (true, ePs done), x4] = .ok () [some (false, ePs rows), some (false, eQ a), some (false, eQ b), some (true, ePs done), some (false, PF.eP r)] from rfl)]
      have e2 : (sSeq (sSet 3 (eOp2 opAdd (eVar 3) (eLst (aCons (eOp2 opAdd (eVar 4) (eTup (aCons (eVar 1) aNil))) (aCons (eOp2 opAdd (eVar 4) (eTup (aCons (eVar 2) aNil))) aNil))))) sNext) [some (false, ePs rows), some (false, eQ a), some (false, eQ b), some (true, ePs done), some (false, PF.eP r)] = .ok .next [some (false, ePs rows), some (false, eQ a), some (false, eQ b), some (true, ePs (done ++ [r ++ [a], r ++ [b]])), some (false, PF.eP r)] := by
        refine sq (s_set (p := ePs (done ++ [r ++ [a], r ++ [b]])) (fr := true) (ev_op2 (rd_var (i := 3) (b := true) rfl) (ev_lst (ps := [PF.eP (r ++ [a]), PF.eP (r ++ [b])]) (eva_cons (one 1 a _ rfl rfl) (eva_cons (one 2 b _ rfl rfl) eva_nil)) (by rw [sizeLine_eq]; exact Nat.le_of_ble_eq_true rfl)).rd ?_) (by simp)) rfl
        show opAdd (.lst (done.map PF.eP)) (.lst [PF.eP (r ++ [a]), PF.eP (r ++ [b])]) = _
        rw [add_lst (by rw [List.length_map]; simp; omega)]
        simp [ePs]
      simp only [e2]
      rw [ih, List.append_assoc]
      rfl
  obtain ⟨x4', e⟩ := key rows [] none hr (by simp; omega)
  unfold denOf
  have : F__law_more (st0 5 [ePs rows, eQ a, eQ b]) = .ok (.ret (.bor 3)) [some (false, ePs rows), some (false, eQ a), some (false, eQ b), some (true, ePs (moreQ rows a b)), x4'] := by
    unfold F__law_more
    refine sq (s1 := [some (false, ePs rows), some (false, eQ a), some (false, eQ b), some (true, ePs []), none]) rfl ?_
    exact sq (sf (ps := rows.map PF.eP) (s1 := [some (false, ePs rows), some (false, eQ a), some (false, eQ b), some (true, ePs []), none]) rfl e) (s_seq_ret rfl)
  rw [this]
  rfl
theorem imm_rows : ∀ rows : List (List Rat), imms (rows.map PF.eP) = true
  | [] => rfl
  | r :: rows => by
    rw [List.map_cons]
    simp only [imms]
    rw [show imm (PF.eP r) = true from imms_L r, imm_rows rows]
    rfl
theorem ch_loop {n : Nat} {lo hi : List Rat} (r : Rg n lo hi) (n5 : n ≤ 5) : ∀ (m k : Nat) (x3 : Option (Bool × PV)), k + m = n → ∃ x3', forL (gNm 3) (sSeq (sSet 2 (eCall (denOf 5 F__law_more) (aCons (eVar 2) (aCons (eOp2 opIx (eVar 0) (eVar 3)) (aCons (eOp2 opIx (eVar 1) (eVar 3)) aNil))))) sNext) ((List.range' k m).map eI) [some (false, PF.eP lo), some (false, PF.eP hi), some (true, ePs (chQ lo hi k)), x3]
    = .ok .next [some (false, PF.eP lo), some (false, PF.eP hi), some (true, ePs (chQ lo hi n)), x3'] := by
  intro m
  induction m with
  | zero => intro k x3 h; have : k = n := by omega
            subst this; exact ⟨x3, rfl⟩
  | succ m ih =>
    intro k x3 h
    obtain ⟨x3', ih⟩ := ih (k + 1) (some (false, eI k)) (by omega)
    refine ⟨x3', ?_⟩
    rw [List.range'_succ, List.map_cons]
    unfold forL
    rw [bnd_ok (show nx (gNm 3 (eI k)) [some (false, PF.eP lo), some (false, PF.eP hi), some (true, ePs (chQ lo hi k)), x3] = .ok () [some (false, PF.eP lo), some (false, PF.eP hi), some (true, ePs (chQ lo hi k)), some (false, eI k)] from rfl)]
    have hk : (chQ lo hi k).length ≤ 100 := by
      rw [chQ_len]
      exact Nat.le_trans (Nat.pow_le_pow_right (by decide) (show k ≤ 5 by omega)) (by decide)
    have dm := d_more (rows := chQ lo hi k) (a := lo.getD k 0) (b := hi.getD k 0) hk fun p hp => by have := ((mem_ch k p).mp hp).1; omega
    have e2 : (sSeq (sSet 2 (eCall (denOf 5 F__law_more) (aCons (eVar 2) (aCons (eOp2 opIx (eVar 0) (eVar 3)) (aCons (eOp2 opIx (eVar 1) (eVar 3)) aNil))))) sNext) [some (false, PF.eP lo), some (false, PF.eP hi), some (true, ePs (chQ lo hi k)), some (false, eI k)] = .ok .next [some (false, PF.eP lo), some (false, PF.eP hi), some (true, ePs (chQ lo hi (k + 1))), some (false, eI k)] := by
      refine sq (s_set (ev_callR (rda_cons (rd_var (i := 2) (b := true) rfl) (rda_cons (ev_op2 (fr3 := false) (rd_var (i := 0) (b := false) rfl) (rd_var (i := 3) (b := false) (p := eI k) rfl) (ixT (by have := r.l; omega))).rd (rda_cons (ev_op2 (fr3 := false) (rd_var (i := 1) (b := false) rfl) (rd_var (i := 3) (b := false) (p := eI k) rfl) (ixT (by have := r.h; omega))).rd rda_nil))) dm (imm_rows _)) (by simp)) rfl
    simp only [e2]
    exact ih
end G04
end

section
set_option Elab.async false
set_option linter.all false
set_option maxRecDepth 100000
set_option maxHeartbeats 2000000
set_option autoImplicit false
set_option exponentiation.threshold 2000
namespace G04
open PySem PySem.Spec PyProof.Rows L2 HF PF KH
theorem ch_iv {n : Nat} {lo hi : List Rat} (r : Rg n lo hi) : iVal (eOpN opRange (aCons (eOpN opLen (aCons (eVar 0) aNil)) aNil)) [some (false, PF.eP lo), some (false, PF.eP hi), some (true, ePs [[]]), none] = .ok ((List.range' 0 n).map eI) [some (false, PF.eP lo), some (false, PF.eP hi), some (true, ePs [[]]), none] := by
  have n5 := r.n5
  have e : n = lo.length := r.l.symm
  subst e
  rw [← List.range_eq_range']
  exact iv_rng (ev_opN (rda_cons (len_P (i := 0) rfl).rd rda_nil) rfl) (by omega)
theorem ch_init {lo hi : List Rat} : sSet 2 (eLst (aCons (eTup aNil) aNil)) (st0 4 [PF.eP lo, PF.eP hi]) = .ok .next [some (false, PF.eP lo), some (false, PF.eP hi), some (true, ePs [[]]), none] :=
  s_set (s := st0 4 [PF.eP lo, PF.eP hi]) (ev_lst (ps := [PF.eP []]) (eva_cons (ev_tup (ps := []) eva_nil (by rw [sizeLine_eq]; exact Nat.le_of_ble_eq_true rfl)) eva_nil) (by rw [sizeLine_eq]; exact Nat.le_of_ble_eq_true rfl)) (by simp [st0])
theorem ch_for {n : Nat} {lo hi : List Rat} (r : Rg n lo hi) : ∃ x3, sFor (iVal (eOpN opRange (aCons (eOpN opLen (aCons (eVar 0) aNil)) aNil))) (gNm 3) (sSeq (sSet 2 (eCall (denOf 5 F__law_more) (aCons (eVar 2) (aCons (eOp2 opIx (eVar 0) (eVar 3)) (aCons (eOp2 opIx (eVar 1) (eVar 3)) aNil))))) sNext) [some (false, PF.eP lo), some (false, PF.eP hi), some (true, ePs [[]]), none] = .ok .next [some (false, PF.eP lo), some (false, PF.eP hi), some (true, ePs (chQ lo hi n)), x3] := by
  obtain ⟨x3', e⟩ := ch_loop r r.n5 n 0 none (by omega)
  rw [show chQ lo hi 0 = [[]] from rfl] at e
  exact ⟨x3', sf (ch_iv r) e⟩
theorem ch_ret {n : Nat} {lo hi : List Rat} {x3 : Option (Bool × PV)} : sSeq (sRet (eVar 2)) sNext [some (false, PF.eP lo), some (false, PF.eP hi), some (true, ePs (chQ lo hi n)), x3] = .ok (.ret (.bor 2)) [some (false, PF.eP lo), some (false, PF.eP hi), some (true, ePs (chQ lo hi n)), x3] := s_seq_ret rfl
theorem ch_run {n : Nat} {lo hi : List Rat} (r : Rg n lo hi) : ∃ x3, F__law_choices (st0 4 [PF.eP lo, PF.eP hi]) = .ok (.ret (.bor 2)) [some (false, PF.eP lo), some (false, PF.eP hi), some (true, ePs (chQ lo hi n)), x3] := by
  obtain ⟨x3', e⟩ := ch_for r
  refine ⟨x3', ?_⟩
  unfold F__law_choices
  exact sq ch_init (sq e ch_ret)
theorem den_bor {n i : Nat} {F : PM Fl} {ps : List PV} {p : PV} {s1 : SE} (h : F (st0 n ps) = .ok (.ret (.bor i)) s1) (h1 : s1[i]? = some (some (true, p))) : denOf n F ps = .ok p true none := by
  unfold denOf
  simp only [h, outR, h1]
theorem d_choices {n : Nat} {lo hi : List Rat} (r : Rg n lo hi) : denOf 4 F__law_choices [PF.eP lo, PF.eP hi] = .ok (ePs (chQ lo hi n)) true none := by
  obtain ⟨x3, e⟩ := ch_run r
  exact den_bor e rfl
/-! ### drawing -/
section
variable {s s1 s2 : SE} {f g : PM HF.Arg} {fs : PM (List HF.Arg)} {p q r : PV} {ps : List PV} {fr fr2 : Bool}
/-- arguments that change the state -/
def EvAS (fs : PM (List HF.Arg)) (s : SE) (ps : List PV) (s1 : SE) : Prop := fs s = .ok (ps.map fun p => HF.Arg.val p false) s1
theorem evas_nil : EvAS aNil s [] s := rfl
theorem evas_cons (hf : EvS f s p fr s1) (h : EvAS fs s1 ps s2) : EvAS (aCons f fs) s (p :: ps) s2 := aCons_ok hf h
theorem rvs_vals : ∀ ps : List PV, rvs s (ps.map fun p => HF.Arg.val p false) = some ps
  | [] => rfl
  | p :: ps => by rw [List.map_cons]; simp only [rvs, rv, rvs_vals ps]
theorem noBor_vals : ∀ ps : List PV, noBor (ps.map fun p => HF.Arg.val p false) = true
  | [] => rfl
  | p :: ps => by rw [List.map_cons]; exact noBor_vals ps
theorem relAll_vals : ∀ ps : List PV, relAll (ps.map fun p => HF.Arg.val p false) s = .ok ps s
  | [] => rfl
  | p :: ps => by
    rw [List.map_cons]
    unfold relAll
    rw [bnd_ok (show rel1 (HF.Arg.val p false) s = .ok p s from rfl), bnd_ok (relAll_vals ps)]
    rfl
theorem evs_callA {den : Den} {io : Option PV} (h : EvAS fs s ps s1) (hd : den ps = .ok r fr io) : EvS (eCall den fs) s r fr s1 := by
  unfold EvS eCall
  rw [bnd_ok h]
  simp only [callD, rvs_vals, hd, noBor_vals, Bool.true_or, if_true]
theorem evs_lstA (h : EvAS fs s ps s1) (hl : ps.length ≤ 1000) : EvS (eLst fs) s (.lst ps) true s1 := by
  unfold EvS eLst
  rw [bnd_ok h, bnd_ok (relAll_vals ps)]
  unfold mkLst
  rw [if_pos (by rw [sizeLine_eq]; omega)]
  rfl
theorem evs_if {t : PM Bool} {b : Bool} (h : t s = .ok b s1) (h1 : b = true → EvS f s1 p fr s2) (h2 : b = false → EvS g s1 p fr s2) : EvS (eIf t f g) s p fr s2 := by
  unfold EvS eIf
  rw [bnd_ok h]
  cases b with
  | true => rw [if_pos rfl]; exact h1 rfl
  | false => rw [if_neg (by decide)]; exact h2 rfl
theorem evs_bool {b : Bool} (h : EvS f s (.bl b) fr s1) : tBool f s = .ok b s1 := by
  unfold tBool
  rw [bnd_ok h]
  rfl
theorem s_appS {i : Nat} (h : s[i]? = some (some (true, .lst ps))) (hf : EvS f s q fr s1) (h1 : s1[i]? = some (some (true, .lst ps))) (hl : ps.length < 1000) :
    sExpr (eMeth i opAppend (aCons f aNil)) s = .ok .next (s1.set i (some (true, .lst (ps ++ [q])))) := by
  refine s_expr (a := .val .non false) ?_
  unfold eMeth
  rw [bnd_ok (show isOwnL i s = .ok () s by unfold isOwnL; simp only [h])]
  rw [bnd_ok (show aCons f aNil s = .ok [.val q false] s1 by unfold aCons; rw [bnd_ok hf]; rfl)]
  rw [bnd_ok (show relAll [HF.Arg.val q false] s1 = .ok [q] s1 from rfl)]
  unfold onLst
  have hl2 : ps.length < sizeLine := by rw [sizeLine_eq]; omega
  simp only [h1, opAppend, hl2, if_true]
end
abbrev tk : Den := denIO 4 F__law_take
theorem tk_eq : tk = denIO 4 Ftake := rfl
theorem tp_less {N M : Nat} {p : PV} (h : Tp N p) (hm : M ≤ N) : Tp M p := by
  obtain ⟨c, a, l, e, t, q, h1, h2, h3, h4, h5, h6, h7⟩ := h
  exact ⟨c, a, l, e, t, q, h1, h2, h3, h4, h5, h6, by omega⟩
abbrev SV := Option (Bool × PV)
/-- law's slots -/
def Z (ns : List Int) (tp : PV) (x2 x3 x4 x5 x6 x7 x8 x9 x10 x11 x12 x13 x14 : SV) : SE := [some (false, .scr ns), some (true, tp), x2, x3, x4, x5, x6, x7, x8, x9, x10, x11, x12, x13, x14]
theorem quarter {j k : Nat} (hj : j ≤ 100) (hk : k = 4) : denOf 3 F__law_ratio [.int j, .int 4] = .ok (eQ ((j : Rat) / 4)) false none := by
  have := d_ratio (n := j) (d := 4) (k := 8) (by omega) (by omega) (by decide) (by decide)
  rw [Rat.divInt_eq_div] at this
  exact this
theorem hb_quarter {j : Nat} (hj : j ≤ 100) : Hb 8 ((j : Rat) / 4) := by
  have e : (j : Rat) / 4 = Rat.divInt (j : Int) 4 := by rw [Rat.divInt_eq_div]; rfl
  rw [e]
  exact hb_divInt (by omega) (by decide) (by decide)
/-- quarters -/
def Qt (x : Rat) : Prop := ∃ m : Nat, 1 ≤ m ∧ m ≤ 32 ∧ x = (m : Rat) / 4
theorem Qt.co {x : Rat} (h : Qt x) : Co x := by
  obtain ⟨m, h1, h2, rfl⟩ := h
  refine ⟨4 * m, by omega, by omega, ?_⟩
  rw [Rat.natCast_mul]
  grind
/-- what is drawn from the base -/
def Rng : List Nat → List Rat → List Rat → Prop
  | [], [], [] => True
  | b :: bs, l :: ls, h :: hs => (∃ j : Nat, j ≤ 3 ∧ l = (b : Rat) - (j : Rat) / 4) ∧ (∃ j : Nat, j ≤ 8 ∧ h = (b : Rat) + (j : Rat) / 4) ∧ Rng bs ls hs
  | _, _, _ => False
theorem Rng.snoc : ∀ {bs : List Nat} {ls hs : List Rat} {b : Nat} {l h : Rat}, Rng bs ls hs → (∃ j : Nat, j ≤ 3 ∧ l = (b : Rat) - (j : Rat) / 4) → (∃ j : Nat, j ≤ 8 ∧ h = (b : Rat) + (j : Rat) / 4) → Rng (bs ++ [b]) (ls ++ [l]) (hs ++ [h])
  | [], [], [], _, _, _, _, q1, q2 => ⟨q1, q2, trivial⟩
  | _ :: _, _ :: _, _ :: _, _, _, _, ⟨p1, p2, p3⟩, q1, q2 => ⟨p1, p2, p3.snoc q1 q2⟩
  | [], [], _ :: _, _, _, _, z, _, _ => z.elim
  | [], _ :: _, _, _, _, _, z, _, _ => z.elim
  | _ :: _, [], _, _, _, _, z, _, _ => z.elim
  | _ :: _, _ :: _, [], _, _, _, z, _, _ => z.elim
theorem Rng.out : ∀ {bs : List Nat} {ls hs : List Rat}, (∀ b ∈ bs, 1 ≤ b ∧ b ≤ 6) → Rng bs ls hs → ls.length = bs.length ∧ hs.length = bs.length ∧ ∀ k, k < bs.length → Qt (ls.getD k 0) ∧ Qt (hs.getD k 0) ∧ ls.getD k 0 ≤ hs.getD k 0
  | [], [], [], _, _ => ⟨rfl, rfl, fun k h => by simp at h⟩
  | b :: bs, l :: ls, h :: hs, hb, ⟨⟨j, hj, el⟩, ⟨i, hi, eh⟩, q⟩ => by
    subst el eh
    obtain ⟨e1, e2, e3⟩ := Rng.out (fun b h => hb b (List.mem_cons_of_mem _ h)) q
    have b1 := hb b List.mem_cons_self
    refine ⟨by simp [e1], by simp [e2], fun k hk => ?_⟩
    cases k with
    | zero =>
      refine ⟨⟨4 * b - j, by omega, by omega, ?_⟩, ⟨4 * b + i, by omega, by omega, ?_⟩, ?_⟩
      · show (b : Rat) - (j : Rat) / 4 = _
        have : ((4 * b - j : Nat) : Rat) = 4 * (b : Rat) - (j : Rat) := by
          have h : (4 * b - j) + j = 4 * b := by omega
          have h2 : ((4 * b - j + j : Nat) : Rat) = ((4 * b : Nat) : Rat) := by rw [h]
          rw [Rat.natCast_add, Rat.natCast_mul] at h2
          grind
        rw [this]; grind
      · show (b : Rat) + (i : Rat) / 4 = _
        rw [Rat.natCast_add, Rat.natCast_mul]; grind
      · show (b : Rat) - (j : Rat) / 4 ≤ (b : Rat) + (i : Rat) / 4
        have j0 : (0 : Rat) ≤ (j : Rat) := Rat.natCast_nonneg
        have i0 : (0 : Rat) ≤ (i : Rat) := Rat.natCast_nonneg
        grind
    | succ k => simpa using e3 k (by simpa using hk)
  | [], [], _ :: _, _, z => z.elim
  | [], _ :: _, _, _, z => z.elim
  | _ :: _, [], _, _, z => z.elim
  | _ :: _, _ :: _, [], _, z => z.elim
end G04
end

section
set_option Elab.async false
set_option linter.all false
set_option maxRecDepth 100000
set_option maxHeartbeats 4000000
set_option autoImplicit false
set_option exponentiation.threshold 2000
/-! M04d: k04: the law's loops. -/
namespace G04
open PySem PySem.Spec PyProof.Rows L2 HF PF KH
theorem hb_nat {b : Nat} (h : b ≤ 100) : Hb 8 (b : Rat) := ⟨by rw [Rat.num_natCast]; omega, by rw [Rat.den_natCast]; decide⟩
abbrev TK (m : Int) : PM HF.Arg := eCallM (denIO 4 F__law_take) (aCons (eVar 1) (aCons (eC (.int m)) aNil))
theorem tk_at {s : SE} {tp : PV} {N : Nat} {m : Int} (h1 : s[1]? = some (some (true, tp))) (ht : Tp (N + 1) tp) (hm : 0 < m) (hm2 : m < 2 ^ 1000) : ∃ (d : Nat) (tp' : PV), EvS (TK m) s (.int d) false (s.set 1 (some (true, tp'))) ∧ (d : Int) < m ∧ Tp N tp' := by
  obtain ⟨d, tp', e, h0, h2, h3⟩ := take_at tk_eq h1 ht (ev_c (p := .int m)) hm hm2
  obtain ⟨k, rfl⟩ := Int.eq_ofNat_of_zero_le h0
  exact ⟨k, tp', e, h2, h3⟩
def B1 : PM Fl := (sSeq (sExpr (eMeth 14 opAppend (aCons (eIf (tBool (eOp2 opGt (TK 3) (eC (.int 0)))) (eCall (denOf 2 PF.F__law_minus) (aCons (eVar 4) (aCons (eCall (denOf 3 PF.F__law_ratio) (aCons (TK 4) (aCons (eC (.int 4)) aNil))) aNil))) (eVar 4)) aNil)))
  (sSeq (sExpr (eMeth 13 opAppend (aCons (eCall (denOf 5 PF.F__law_sum) (aCons (eLst (aCons (eVar 4) (aCons (eCall (denOf 3 PF.F__law_ratio) (aCons (TK 9) (aCons (eC (.int 4)) aNil))) aNil))) aNil)) aNil)))
  sNext))
theorem draw_base {ns : List Int} {x2 x3 : SV} : ∀ (bs done : List Nat) (N : Nat) (tp : PV) (x4 : SV) (Ls Hs : List Rat), Rng done Ls Hs → Ls.length ≤ 100 ∧ Hs.length ≤ 100 → Ls.length + bs.length ≤ 100 ∧ Hs.length + bs.length ≤ 100 → (∀ b ∈ bs, b ≤ 6) → Tp (N + 3 * bs.length) tp →
    ∃ (tp' : PV) (x4' : SV) (Ls' Hs' : List Rat), forL (gNm 4) B1 (bs.map fun (b : Nat) => eQ (b : Rat)) (Z ns tp x2 x3 x4 none none none none none none none none (some (true, .lst (PF.eL Hs))) (some (true, .lst (PF.eL Ls)))) = .ok .next (Z ns tp' x2 x3 x4' none none none none none none none none (some (true, .lst (PF.eL Hs'))) (some (true, .lst (PF.eL Ls'))))
      ∧ Rng (done ++ bs) Ls' Hs' ∧ Tp N tp'
  | [], done, N, tp, x4, Ls, Hs, hr, _, _, _, ht => ⟨tp, x4, Ls, Hs, rfl, by rw [List.append_nil]; exact hr, ht⟩
  | b :: bs, done, N, tp, x4, Ls, Hs, hr, hl, hl2, hb, ht => by
    rw [List.length_cons] at hl2 ht
    have b6 := hb b List.mem_cons_self
    -- the state in the turn
    let S (tp : PV) (Ls Hs : List Rat) : SE := Z ns tp x2 x3 (some (false, eQ (b : Rat))) none none none none none none none none (some (true, .lst (PF.eL Hs))) (some (true, .lst (PF.eL Ls)))
    obtain ⟨d1, tp1, e1, g1, ht1⟩ := tk_at (s := S tp Ls Hs) (m := 3) (N := N + 3 * bs.length + 2) rfl (by rwa [show N + 3 * bs.length + 2 + 1 = N + 3 * (bs.length + 1) by omega]) (by decide) (by decide)
    have c1 : tBool (eOp2 opGt (TK 3) (eC (.int 0))) (S tp Ls Hs) = .ok (decide ((0 : Int) < d1)) (S tp1 Ls Hs) := evs_bool (evs_op2 (o := opGt) (r := .bl (decide ((0 : Int) < d1))) (fr3 := false) e1 (show EvS (eC (.int 0)) (S tp1 Ls Hs) (.int 0) false _ from ev_c) rfl)
    have low : ∃ (l : Rat) (tp2 : PV), EvS (eIf (tBool (eOp2 opGt (TK 3) (eC (.int 0)))) (eCall (denOf 2 PF.F__law_minus) (aCons (eVar 4) (aCons (eCall (denOf 3 PF.F__law_ratio) (aCons (TK 4) (aCons (eC (.int 4)) aNil))) aNil))) (eVar 4)) (S tp Ls Hs) (eQ l) false (S tp2 Ls Hs) ∧ (∃ j : Nat, j ≤ 3 ∧ l = (b : Rat) - (j : Rat) / 4) ∧ Tp (N + 3 * bs.length + 1) tp2 := by
      by_cases h : (0 : Int) < d1
      · obtain ⟨d2, tp2, e2, g2, ht2⟩ := tk_at (s := S tp1 Ls Hs) (m := 4) (N := N + 3 * bs.length + 1) rfl ht1 (by decide) (by decide)
        refine ⟨(b : Rat) - (d2 : Rat) / 4, tp2, evs_if c1 (fun _ => ?_) (fun z => by rw [decide_eq_false_iff_not] at z; exact absurd h z), ⟨d2, by omega, rfl⟩, ht2⟩
        exact evs_callA (io := none) (evas_cons (show EvS (eVar 4) (S tp1 Ls Hs) (eQ (b : Rat)) false _ from ev_var rfl) (evas_cons (evs_callA (io := none) (evas_cons e2 (evas_cons (show EvS (eC (.int 4)) (S tp2 Ls Hs) (.int 4) false _ from ev_c) evas_nil)) (quarter (by omega) rfl)) evas_nil)) (d_lminus (hb_nat (by omega)) (hb_quarter (by omega)) (by omega))
      · refine ⟨(b : Rat), tp1, evs_if c1 (fun z => by rw [decide_eq_true_eq] at z; exact absurd z h) (fun _ => ev_var rfl), ⟨0, by omega, by grind⟩, tp_less ht1 (by omega)⟩
    obtain ⟨l, tp2, el, hl', ht2⟩ := low
    obtain ⟨d3, tp3, e3, g3, ht3⟩ := tk_at (s := S tp2 (Ls ++ [l]) Hs) (m := 9) (N := N + 3 * bs.length) rfl ht2 (by decide) (by decide)
    have hh : EvS (eCall (denOf 5 PF.F__law_sum) (aCons (eLst (aCons (eVar 4) (aCons (eCall (denOf 3 PF.F__law_ratio) (aCons (TK 9) (aCons (eC (.int 4)) aNil))) aNil))) aNil)) (S tp2 (Ls ++ [l]) Hs) (eQ ((b : Rat) + (d3 : Rat) / 4)) false (S tp3 (Ls ++ [l]) Hs) := by
      have ds := d_lsum (p := .lst [eQ (b : Rat), eQ ((d3 : Rat) / 4)]) (xs := [(b : Rat), (d3 : Rat) / 4]) (m := 8) rfl (hl2' (hb_nat (by omega)) (hb_quarter (by omega))) (by simp)
      rw [show ([(b : Rat), (d3 : Rat) / 4].foldl (· + ·) 0) = (b : Rat) + (d3 : Rat) / 4 by show 0 + (b : Rat) + (d3 : Rat) / 4 = _; grind] at ds
      exact evs_callA (io := none) (evas_cons (evs_lstA (evas_cons (show EvS (eVar 4) (S tp2 (Ls ++ [l]) Hs) (eQ (b : Rat)) false _ from ev_var rfl) (evas_cons (evs_callA (io := none) (evas_cons e3 (evas_cons (show EvS (eC (.int 4)) (S tp3 (Ls ++ [l]) Hs) (.int 4) false _ from ev_c) evas_nil)) (quarter (by omega) rfl)) evas_nil)) (by simp)) evas_nil) ds
    obtain ⟨tp', x4', Ls', Hs', e, hr', ht'⟩ := draw_base bs (done ++ [b]) N tp3 (some (false, eQ (b : Rat))) (Ls ++ [l]) (Hs ++ [(b : Rat) + (d3 : Rat) / 4]) (hr.snoc hl' ⟨d3, by omega, rfl⟩) (by simp; omega) (by simp; omega) (fun c hc => hb c (List.mem_cons_of_mem _ hc)) ht3
    refine ⟨tp', x4', Ls', Hs', ?_, by rw [List.append_assoc] at hr'; exact hr', ht'⟩
    rw [List.map_cons]
    unfold forL
    rw [bnd_ok (show nx (gNm 4 (eQ (b : Rat))) (Z ns tp x2 x3 x4 none none none none none none none none (some (true, .lst (PF.eL Hs))) (some (true, .lst (PF.eL Ls)))) = .ok () (S tp Ls Hs) from rfl)]
    have a1 : ∀ (xs : List Rat) (x : Rat), PF.eL xs ++ [eQ x] = PF.eL (xs ++ [x]) := fun xs x => by rw [eL_app]; rfl
    have eb : B1 (S tp Ls Hs) = .ok .next (S tp3 (Ls ++ [l]) (Hs ++ [(b : Rat) + (d3 : Rat) / 4])) := by
      unfold B1
      have s1 := s_appS (i := 14) (s := S tp Ls Hs) (s1 := S tp2 Ls Hs) rfl el rfl (by rw [eL_len]; omega)
      rw [a1] at s1
      refine sq s1 ?_
      have s2 := s_appS (i := 13) (s := S tp2 (Ls ++ [l]) Hs) (s1 := S tp3 (Ls ++ [l]) Hs) rfl hh rfl (by rw [eL_len]; omega)
      rw [a1] at s2
      exact sq s2 rfl
    simp only [eb]
    exact e
where hl2' {n : Nat} {a b : Rat} (h : Hb n a) (h2 : Hb n b) : HbL n [a, b] := hl2 h h2
/-! ### rows and their dues -/
def dueQ (lo hi : List Rat) (k : Nat) : List Rat := [0, 1, 2, 3].map fun p => if lowAt p k then lo.getD k 0 else hi.getD k 0
def B2 : PM Fl := (sSeq (sSet 8 (eComp [7] (iOf (iVal (eVar 5))) (gNm 7) (ret true) (eOp2 opIx (eVar 7) (eVar 6))))
  (sSeq (sSet 9 (eOp2 opIx (eLst (aCons (eLst (aCons (eOp2 opIx (eVar 14) (eVar 6)) (aCons (eOp2 opIx (eVar 14) (eVar 6)) (aCons (eOp2 opIx (eVar 13) (eVar 6)) (aCons (eOp2 opIx (eVar 13) (eVar 6)) aNil))))) (aCons (eLst (aCons (eOp2 opIx (eVar 14) (eVar 6)) (aCons (eOp2 opIx (eVar 13) (eVar 6)) (aCons (eOp2 opIx (eVar 14) (eVar 6)) (aCons (eOp2 opIx (eVar 13) (eVar 6)) aNil))))) (aCons (eLst (aCons (eOp2 opIx (eVar 13) (eVar 6)) (aCons (eOp2 opIx (eVar 13) (eVar 6)) (aCons (eOp2 opIx (eVar 14) (eVar 6)) (aCons (eOp2 opIx (eVar 14) (eVar 6)) aNil))))) (aCons (eLst (aCons (eOp2 opIx (eVar 13) (eVar 6)) (aCons (eOp2 opIx (eVar 14) (eVar 6)) (aCons (eOp2 opIx (eVar 13) (eVar 6)) (aCons (eOp2 opIx (eVar 14) (eVar 6)) aNil))))) aNil))))) (eOp2 opMod (eOpN opInt (aCons (eVar 6) aNil)) (eC (.int 4)))))
  (sSeq (sIf (tBool (eOp2 opNe (eVar 8) (eVar 9))) (sSeq (sRet (eC (.bl false)))
  sNext) sNext)
  sNext)))
theorem okb_L (xs : List Rat) : okb 60 (.lst (PF.eL xs)) = true := List.all_eq_true.mpr fun p hp => by
  obtain ⟨a, _, rfl⟩ := List.mem_map.mp hp
  exact okb_Q _ _
theorem ne_self {p : PV} (h : okb 60 p = true) : opNe p p = some (.bl false, false) := by
  rw [opNe_data (by intro a b e; subst e; intro; cases h), h, peq_refl]
  rfl
theorem ev_set_any {s : SE} {n : Nat} {f : PM HF.Arg} {p : PV} {b : Bool} (h : f s = .ok (.val p b) s) (hi : n < s.length) : sSet n f s = .ok .next (s.set n (some (b, p))) := s_set h hi
theorem rows_loop {ns : List Int} {n : Nat} {lo hi : List Rat} {tp : PV} {x3 x4 : SV} (r : Rg n lo hi) : ∀ (m k : Nat) (x6 x8 x9 : SV), k + m = n → ∃ x6' x8' x9', forL (gNm 6) B2 ((List.range' k m).map eI) (Z ns tp (some (false, eI n)) x3 x4 (some (false, .tup ([0, 1, 2, 3].map fun p => PF.eP (corner p lo hi)))) x6 none x8 x9 none none none (some (false, PF.eP hi)) (some (false, PF.eP lo)))
    = .ok .next (Z ns tp (some (false, eI n)) x3 x4 (some (false, .tup ([0, 1, 2, 3].map fun p => PF.eP (corner p lo hi)))) x6' none x8' x9' none none none (some (false, PF.eP hi)) (some (false, PF.eP lo)))
  | 0, k, x6, x8, x9, _ => ⟨x6, x8, x9, rfl⟩
  | m + 1, k, x6, x8, x9, hk => by
    let S (x8 x9 : SV) : SE := Z ns tp (some (false, eI n)) x3 x4 (some (false, .tup ([0, 1, 2, 3].map fun p => PF.eP (corner p lo hi)))) (some (false, eI k)) none x8 x9 none none none (some (false, PF.eP hi)) (some (false, PF.eP lo))
    have hkn : k < n := by omega
    have hl := r.l
    have hh := r.h
    obtain ⟨x6', x8', x9', e⟩ := rows_loop (ns := ns) (tp := tp) (x3 := x3) (x4 := x4) r m (k + 1) (some (false, eI k)) (some (true, .lst (PF.eL (dueQ lo hi k)))) (some (false, .lst (PF.eL (dueQ lo hi k)))) (by omega)
    refine ⟨x6', x8', x9', ?_⟩
    rw [List.range'_succ, List.map_cons]
    unfold forL
    rw [bnd_ok (show nx (gNm 6 (eI k)) (Z ns tp (some (false, eI n)) x3 x4 (some (false, .tup ([0, 1, 2, 3].map fun p => PF.eP (corner p lo hi)))) x6 none x8 x9 none none none (some (false, PF.eP hi)) (some (false, PF.eP lo))) = .ok () (S x8 x9) from rfl)]
    have q8 : Ev (eComp [7] (iOf (iVal (eVar 5))) (gNm 7) (ret true) (eOp2 opIx (eVar 7) (eVar 6))) (S x8 x9) (.lst (PF.eL (dueQ lo hi k))) true := by
      have := ev_compX (s := S x8 x9) (i := 7) (E := eOp2 opIx (eVar 7) (eVar 6)) [0, 1, 2, 3] (fun p => PF.eP (corner p lo hi)) (fun p => eQ (if lowAt p k then lo.getD k 0 else hi.getD k 0)) (iv_tup (ev_var (i := 5) rfl)) (by rw [sizeLine_eq]; exact Nat.le_of_ble_eq_true rfl) (by simp [S, Z]) fun p _ => ⟨false, by
        rw [← corner_get (p := p) (lo := lo) (hi := hi) (k := k) (by omega)]
        exact ev_op2 (rd_var (i := 7) (b := false) rfl) (rd_var (i := 6) (b := false) (p := eI k) rfl) (ixT (by rw [corner_len]; omega))⟩
      exact this
    have elo : ∀ {s : SE}, s[14]? = some (some (false, PF.eP lo)) → s[6]? = some (some (false, eI k)) → Ev (eOp2 opIx (eVar 14) (eVar 6)) s (eQ (lo.getD k 0)) false := fun h1 h2 => ev_op2 (rd_var (b := false) h1) (rd_var (b := false) h2) (ixT (by omega))
    have ehi : ∀ {s : SE}, s[13]? = some (some (false, PF.eP hi)) → s[6]? = some (some (false, eI k)) → Ev (eOp2 opIx (eVar 13) (eVar 6)) s (eQ (hi.getD k 0)) false := fun h1 h2 => ev_op2 (rd_var (b := false) h1) (rd_var (b := false) h2) (ixT (by omega))
    have l4e : ∀ {s : SE} {a b c d : PM HF.Arg} {A B C D : PV} {u v w x : Bool}, Ev a s A u → Ev b s B v → Ev c s C w → Ev d s D x → Ev (eLst (aCons a (aCons b (aCons c (aCons d aNil))))) s (.lst [A, B, C, D]) true := fun h1 h2 h3 h4 => ev_lst (eva_cons h1 (eva_cons h2 (eva_cons h3 (eva_cons h4 eva_nil)))) (by rw [sizeLine_eq]; exact Nat.le_of_ble_eq_true rfl)
    have q9 : ∀ s : SE, s[14]? = some (some (false, PF.eP lo)) → s[13]? = some (some (false, PF.eP hi)) → s[6]? = some (some (false, eI k)) → Ev (eOp2 opIx (eLst (aCons (eLst (aCons (eOp2 opIx (eVar 14) (eVar 6)) (aCons (eOp2 opIx (eVar 14) (eVar 6)) (aCons (eOp2 opIx (eVar 13) (eVar 6)) (aCons (eOp2 opIx (eVar 13) (eVar 6)) aNil))))) (aCons (eLst (aCons (eOp2 opIx (eVar 14) (eVar 6)) (aCons (eOp2 opIx (eVar 13) (eVar 6)) (aCons (eOp2 opIx (eVar 14) (eVar 6)) (aCons (eOp2 opIx (eVar 13) (eVar 6)) aNil))))) (aCons (eLst (aCons (eOp2 opIx (eVar 13) (eVar 6)) (aCons (eOp2 opIx (eVar 13) (eVar 6)) (aCons (eOp2 opIx (eVar 14) (eVar 6)) (aCons (eOp2 opIx (eVar 14) (eVar 6)) aNil))))) (aCons (eLst (aCons (eOp2 opIx (eVar 13) (eVar 6)) (aCons (eOp2 opIx (eVar 14) (eVar 6)) (aCons (eOp2 opIx (eVar 13) (eVar 6)) (aCons (eOp2 opIx (eVar 14) (eVar 6)) aNil))))) aNil))))) (eOp2 opMod (eOpN opInt (aCons (eVar 6) aNil)) (eC (.int 4)))) s (.lst (PF.eL (dueQ lo hi k))) false := fun s h1 h2 h3 => by
      have L := elo h1 h3
      have H := ehi h2 h3
      have md : Ev (eOp2 opMod (eOpN opInt (aCons (eVar 6) aNil)) (eC (.int 4))) s (.int ((k : Int) % 4)) false := ev_op2 (ev_opN (r := .int k) (fr3 := false) (rda_cons (rd_var (b := false) (p := eI k) h3) rda_nil) rfl).rd ev_c.rd (mod_ii (by decide))
      refine ev_op2 (l4e (l4e L L H H) (l4e L H L H) (l4e H H L L) (l4e H L H L)).rd md.rd ?_
      rcases mod4 k with z | z | z | z
      · rw [show (k : Int) % 4 = 0 by omega]
        show some (PV.lst _, false) = _
        congr 3
        unfold dueQ PF.eL
        rw [List.map_map]
        show _ = [eQ (if lowAt 0 k then _ else _), eQ (if lowAt 1 k then _ else _), eQ (if lowAt 2 k then _ else _), eQ (if lowAt 3 k then _ else _)]
        unfold lowAt
        rw [z]
        rfl
      · rw [show (k : Int) % 4 = 1 by omega]
        show some (PV.lst _, false) = _
        congr 3
        unfold dueQ PF.eL
        rw [List.map_map]
        show _ = [eQ (if lowAt 0 k then _ else _), eQ (if lowAt 1 k then _ else _), eQ (if lowAt 2 k then _ else _), eQ (if lowAt 3 k then _ else _)]
        unfold lowAt
        rw [z]
        rfl
      · rw [show (k : Int) % 4 = 2 by omega]
        show some (PV.lst _, false) = _
        congr 3
        unfold dueQ PF.eL
        rw [List.map_map]
        show _ = [eQ (if lowAt 0 k then _ else _), eQ (if lowAt 1 k then _ else _), eQ (if lowAt 2 k then _ else _), eQ (if lowAt 3 k then _ else _)]
        unfold lowAt
        rw [z]
        rfl
      · rw [show (k : Int) % 4 = 3 by omega]
        show some (PV.lst _, false) = _
        congr 3
        unfold dueQ PF.eL
        rw [List.map_map]
        show _ = [eQ (if lowAt 0 k then _ else _), eQ (if lowAt 1 k then _ else _), eQ (if lowAt 2 k then _ else _), eQ (if lowAt 3 k then _ else _)]
        unfold lowAt
        rw [z]
        rfl
    have eb : B2 (S x8 x9) = .ok .next (S (some (true, .lst (PF.eL (dueQ lo hi k)))) (some (false, .lst (PF.eL (dueQ lo hi k))))) := by
      unfold B2
      refine sq (s1 := S (some (true, .lst (PF.eL (dueQ lo hi k)))) x9) (s_set q8 (by simp [S, Z])) ?_
      refine sq (s1 := S (some (true, .lst (PF.eL (dueQ lo hi k)))) (some (false, .lst (PF.eL (dueQ lo hi k))))) (s_set (q9 _ rfl rfl rfl) (by simp [S, Z])) ?_
      exact sq (sno (evt_bool (ev_op2 (rd_var (i := 8) (b := true) rfl) (rd_var (i := 9) (b := false) rfl) (ne_self (okb_L _)))) rfl) rfl
    simp only [eb]
    exact e
end G04
end

section
set_option Elab.async false
set_option linter.all false
set_option maxRecDepth 100000
set_option maxHeartbeats 4000000
set_option autoImplicit false
set_option exponentiation.threshold 2000
/-! M04e: k04: drawn rows within. -/
namespace G04
open PySem PySem.Spec PyProof.Rows L2 HF PF KH
theorem qt_nat {a : Nat} : ((4 * a : Nat) : Rat) = 4 * (a : Rat) := by rw [Rat.natCast_mul]; rfl
/-- a quarter of the way -/
theorem mid {l h : Rat} {d : Nat} (hl : Qt l) (hh : Qt h) (le : l ≤ h) (hd : d ≤ 4) : Co (l + (d : Rat) / 4 * (h - l)) ∧ l ≤ l + (d : Rat) / 4 * (h - l) ∧ l + (d : Rat) / 4 * (h - l) ≤ h := by
  obtain ⟨a, a1, a2, rfl⟩ := hl
  obtain ⟨b, b1, b2, rfl⟩ := hh
  have hab : a ≤ b := by
    rcases Nat.lt_or_ge b a with z | z
    · exfalso
      have h1 : ((b : Nat) : Rat) < (a : Rat) := by exact_mod_cast z
      grind
    · exact z
  obtain ⟨c, rfl⟩ := Nat.exists_eq_add_of_le hab
  have dc : d * c ≤ 4 * c := Nat.mul_le_mul_right c hd
  have e : (a : Rat) / 4 + (d : Rat) / 4 * (((a + c : Nat) : Rat) / 4 - (a : Rat) / 4) = ((4 * a + d * c : Nat) : Rat) / 16 := by
    rw [Rat.natCast_add, Rat.natCast_add, Rat.natCast_mul, Rat.natCast_mul]
    grind
  rw [e]
  refine ⟨⟨4 * a + d * c, by omega, by omega, rfl⟩, ?_, ?_⟩
  · have h0 : (0 : Rat) ≤ ((d * c : Nat) : Rat) := Rat.natCast_nonneg
    rw [Rat.natCast_add, qt_nat]
    grind
  · have h0 : (0 : Rat) ≤ ((4 * c - d * c : Nat) : Rat) := Rat.natCast_nonneg
    have h1 : ((4 * c - d * c : Nat) : Rat) + ((d * c : Nat) : Rat) = 4 * (c : Rat) := by
      rw [← Rat.natCast_add, Nat.sub_add_cancel dc, qt_nat]
    rw [Rat.natCast_add, qt_nat, Rat.natCast_add]
    grind
def B3 : PM Fl := (sSeq (sSet 12 (eCall (denOf 3 PF.F__law_ratio) (aCons (TK 5) (aCons (eC (.int 4)) aNil))))
  (sSeq (sExpr (eMeth 7 opAppend (aCons (eCall (denOf 5 PF.F__law_sum) (aCons (eLst (aCons (eOp2 opIx (eVar 14) (eVar 6)) (aCons (eCall (denOf 2 PF.F__law_times) (aCons (eVar 12) (aCons (eCall (denOf 2 PF.F__law_minus) (aCons (eOp2 opIx (eVar 13) (eVar 6)) (aCons (eOp2 opIx (eVar 14) (eVar 6)) aNil))) aNil))) aNil))) aNil)) aNil)))
  sNext))
theorem part_loop {ns : List Int} {n : Nat} {lo hi : List Rat} {x2 x3 x4 x5 x8 x9 x10 x11 : SV} (r : Rg n lo hi) (ql : ∀ k, k < n → Qt (lo.getD k 0) ∧ Qt (hi.getD k 0)) : ∀ (m k N : Nat) (tp : PV) (as : List Rat) (x6 x12 : SV), k + m = n → as.length = k → (∀ i, i < k → Co (as.getD i 0) ∧ lo.getD i 0 ≤ as.getD i 0 ∧ as.getD i 0 ≤ hi.getD i 0) → Tp (N + m) tp →
    ∃ tp' as' x6' x12', forL (gNm 6) B3 ((List.range' k m).map eI) (Z ns tp x2 x3 x4 x5 x6 (some (true, .lst (PF.eL as))) x8 x9 x10 x11 x12 (some (false, PF.eP hi)) (some (false, PF.eP lo)))
      = .ok .next (Z ns tp' x2 x3 x4 x5 x6' (some (true, .lst (PF.eL as'))) x8 x9 x10 x11 x12' (some (false, PF.eP hi)) (some (false, PF.eP lo))) ∧ In n lo hi as' ∧ Tp N tp'
  | 0, k, N, tp, as, x6, x12, hk, hl, h, ht => ⟨tp, as, x6, x12, rfl, ⟨by omega, fun i hi => h i (by omega)⟩, ht⟩
  | m + 1, k, N, tp, as, x6, x12, hk, hl, h, ht => by
    have hkn : k < n := by omega
    have n5 := r.n5
    let S (tp : PV) (as : List Rat) (x12 : SV) : SE := Z ns tp x2 x3 x4 x5 (some (false, eI k)) (some (true, .lst (PF.eL as))) x8 x9 x10 x11 x12 (some (false, PF.eP hi)) (some (false, PF.eP lo))
    obtain ⟨d, tp1, e1, g1, ht1⟩ := tk_at (s := S tp as x12) (m := 5) (N := N + m) rfl (by rwa [show N + m + 1 = N + (m + 1) by omega]) (by decide) (by decide)
    have hd : d ≤ 4 := by omega
    obtain ⟨c1, c2, c3⟩ := mid (ql k hkn).1 (ql k hkn).2 (r.le k hkn) hd
    have hbl := (ql k hkn).1.co.hb
    have hbh := (ql k hkn).2.co.hb
    have s1 : sSet 12 (eCall (denOf 3 PF.F__law_ratio) (aCons (TK 5) (aCons (eC (.int 4)) aNil))) (S tp as x12) = .ok .next (S tp1 as (some (false, eQ ((d : Rat) / 4)))) :=
      s_setS (s1 := S tp1 as x12) (evs_callA (io := none) (evas_cons e1 (evas_cons (show EvS (eC (.int 4)) (S tp1 as x12) (.int 4) false _ from ev_c) evas_nil)) (quarter (by omega) rfl)) (by simp [S, Z])
    have elo : Ev (eOp2 opIx (eVar 14) (eVar 6)) (S tp1 as (some (false, eQ ((d : Rat) / 4)))) (eQ (lo.getD k 0)) false := ev_op2 (rd_var (i := 14) (b := false) rfl) (rd_var (i := 6) (b := false) (p := eI k) rfl) (ixT (by have := r.l; omega))
    have ehi : Ev (eOp2 opIx (eVar 13) (eVar 6)) (S tp1 as (some (false, eQ ((d : Rat) / 4)))) (eQ (hi.getD k 0)) false := ev_op2 (rd_var (i := 13) (b := false) rfl) (rd_var (i := 6) (b := false) (p := eI k) rfl) (ixT (by have := r.h; omega))
    have em := ev_call (io := none) (eva_cons ehi (eva_cons elo eva_nil)) (d_lminus hbh hbl (by omega))
    have hm := hbh.sub hbl
    have et := ev_call (io := none) (eva_cons (ev_var (i := 12) (s := S tp1 as (some (false, eQ ((d : Rat) / 4)))) rfl) (eva_cons em eva_nil)) (d_ltimes (hb_quarter (j := d) (by omega)) hm (by omega))
    have ht2 := (hb_quarter (j := d) (by omega)).mul hm
    have ds := d_lsum (p := .lst [eQ (lo.getD k 0), eQ ((d : Rat) / 4 * (hi.getD k 0 - lo.getD k 0))]) (xs := [lo.getD k 0, (d : Rat) / 4 * (hi.getD k 0 - lo.getD k 0)]) (m := 30) rfl (fun x hx => by
      rcases List.mem_cons.mp hx with rfl | hx
      · exact hbl.mono (by omega)
      · rw [List.mem_singleton.mp hx]; exact ht2.mono (by omega)) (by simp)
    rw [show ([lo.getD k 0, (d : Rat) / 4 * (hi.getD k 0 - lo.getD k 0)].foldl (· + ·) 0) = lo.getD k 0 + (d : Rat) / 4 * (hi.getD k 0 - lo.getD k 0) by show 0 + lo.getD k 0 + _ = _; rw [Rat.zero_add]] at ds
    have es := ev_call (io := none) (eva_cons (ev_lst (eva_cons elo (eva_cons et eva_nil)) (by rw [sizeLine_eq]; exact Nat.le_of_ble_eq_true rfl)) eva_nil) ds
    have s2 := s_appL (s := S tp1 as (some (false, eQ ((d : Rat) / 4)))) (i := 7) rfl es (by rw [eL_len, sizeLine_eq]; omega)
    generalize hx : lo.getD k 0 + (d : Rat) / 4 * (hi.getD k 0 - lo.getD k 0) = x at c1 c2 c3 s2
    have a1 : PF.eL as ++ [eQ x] = PF.eL (as ++ [x]) := by rw [eL_app]; rfl
    rw [a1] at s2
    obtain ⟨tp', as', x6', x12', e, hi', ht'⟩ := part_loop (ns := ns) (x2 := x2) (x3 := x3) (x4 := x4) (x5 := x5) (x8 := x8) (x9 := x9) (x10 := x10) (x11 := x11) r ql m (k + 1) N tp1 (as ++ [x]) (some (false, eI k)) (some (false, eQ ((d : Rat) / 4))) (by omega) (by simp [hl]) (fun i hi => by
      rcases Nat.lt_or_ge i k with z | z
      · have := h i z
        rw [List.getD_eq_getElem?_getD, List.getElem?_append_left (by omega), ← List.getD_eq_getElem?_getD]
        exact this
      · have : i = k := by omega
        subst this
        rw [List.getD_eq_getElem?_getD, List.getElem?_append_right (by omega), hl, Nat.sub_self]
        exact ⟨c1, c2, c3⟩) ht1
    refine ⟨tp', as', x6', x12', ?_, hi', ht'⟩
    rw [List.range'_succ, List.map_cons]
    unfold forL
    rw [bnd_ok (show nx (gNm 6 (eI k)) (Z ns tp x2 x3 x4 x5 x6 (some (true, .lst (PF.eL as))) x8 x9 x10 x11 x12 (some (false, PF.eP hi)) (some (false, PF.eP lo))) = .ok () (S tp as x12) from rfl)]
    have eb : B3 (S tp as x12) = .ok .next (S tp1 (as ++ [x]) (some (false, eQ ((d : Rat) / 4)))) := sq s1 (sq s2 rfl)
    simp only [eb]
    exact e
def B4 : PM Fl := (sSeq (sSet 7 (eLst aNil))
  (sSeq (sFor (iVal (eOpN opRange (aCons (eVar 2) aNil))) (gNm 6) B3)
  (sSeq (sIf (tAndP (tTru (eVar 10)) (tNotP (tTru (eCall (denOf 1 PF.F_is_calm) (aCons (eOpN opTuple (aCons (eVar 7) aNil)) aNil))))) (sSeq (sRet (eC (.bl false)))
  sNext) sNext)
  sNext)))
theorem turn_loop {ns : List Int} {n : Nat} {lo hi : List Rat} {x3 x4 x5 x8 x9 : SV} (r : Rg n lo hi) (ql : ∀ k, k < n → Qt (lo.getD k 0) ∧ Qt (hi.getD k 0)) : ∀ (m k N : Nat) (tp : PV) (x6 x7 x11 x12 : SV), Tp (N + 5 * m) tp →
    ∃ tp' x6' x7' x11' x12', forL (gNm 11) B4 ((List.range' k m).map eI) (Z ns tp (some (false, eI n)) x3 x4 x5 x6 x7 x8 x9 (some (false, .bl (four lo hi))) x11 x12 (some (false, PF.eP hi)) (some (false, PF.eP lo)))
      = .ok .next (Z ns tp' (some (false, eI n)) x3 x4 x5 x6' x7' x8 x9 (some (false, .bl (four lo hi))) x11' x12' (some (false, PF.eP hi)) (some (false, PF.eP lo))) ∧ Tp N tp'
  | 0, k, N, tp, x6, x7, x11, x12, ht => ⟨tp, x6, x7, x11, x12, rfl, ht⟩
  | m + 1, k, N, tp, x6, x7, x11, x12, ht => by
    have n5 := r.n5
    obtain ⟨tp1, as, x6a, x12a, e1, hin, ht1⟩ := part_loop (ns := ns) (x2 := some (false, eI n)) (x3 := x3) (x4 := x4) (x5 := x5) (x8 := x8) (x9 := x9) (x10 := some (false, .bl (four lo hi))) (x11 := some (false, eI k)) r ql n 0 (N + 5 * m) tp [] x6 x12 (by omega) rfl (fun i hi => by omega) (tp_less ht (by omega))
    let S (tp : PV) (x6 x7 x12 : SV) : SE := Z ns tp (some (false, eI n)) x3 x4 x5 x6 x7 x8 x9 (some (false, .bl (four lo hi))) (some (false, eI k)) x12 (some (false, PF.eP hi)) (some (false, PF.eP lo))
    obtain ⟨tp', x6', x7', x11', x12', e2, ht2⟩ := turn_loop (ns := ns) (x3 := x3) (x4 := x4) (x5 := x5) (x8 := x8) (x9 := x9) r ql m (k + 1) N tp1 x6a (some (true, .lst (PF.eL as))) (some (false, eI k)) x12a ht1
    refine ⟨tp', x6', x7', x11', x12', ?_, ht2⟩
    rw [List.range'_succ, List.map_cons]
    unfold forL
    rw [bnd_ok (show nx (gNm 11 (eI k)) (Z ns tp (some (false, eI n)) x3 x4 x5 x6 x7 x8 x9 (some (false, .bl (four lo hi))) x11 x12 (some (false, PF.eP hi)) (some (false, PF.eP lo))) = .ok () (S tp x6 x7 x12) from rfl)]
    have calm : Ev (eCall (denOf 1 PF.F_is_calm) (aCons (eOpN opTuple (aCons (eVar 7) aNil)) aNil)) (S tp1 x6a (some (true, .lst (PF.eL as))) x12a) (.bl (calmB as)) false :=
      ev_call (io := none) (eva_cons (ev_opN (r := PF.eP as) (fr3 := false) (rda_cons (rd_var (i := 7) (b := true) rfl) rda_nil) rfl) eva_nil) (hin.calm r)
    have tst : EvT (tAndP (tTru (eVar 10)) (tNotP (tTru (eCall (denOf 1 PF.F_is_calm) (aCons (eOpN opTuple (aCons (eVar 7) aNil)) aNil))))) (S tp1 x6a (some (true, .lst (PF.eL as))) x12a) false := by
      have := evt_and (evt_tru (rd_var (i := 10) (b := false) (s := S tp1 x6a (some (true, .lst (PF.eL as))) x12a) rfl) (show truthP (.bl (four lo hi)) = some _ from rfl)) fun _ => evt_not (evt_tru calm.rd (show truthP (.bl (calmB as)) = some _ from rfl))
      rw [show (four lo hi && !calmB as) = false by
        cases h : four lo hi with
        | false => rfl
        | true => rw [four_in r hin h]; rfl] at this
      exact this
    have eb : B4 (S tp x6 x7 x12) = .ok .next (S tp1 x6a (some (true, .lst (PF.eL as))) x12a) := by
      unfold B4
      refine sq (s1 := S tp x6 (some (true, .lst (PF.eL []))) x12) (s_set (p := .lst (PF.eL [])) (fr := true) (ev_lst (ps := []) eva_nil (by rw [sizeLine_eq]; exact Nat.le_of_ble_eq_true rfl)) (by simp [S, Z])) ?_
      refine sq (sf (ps := (List.range' 0 n).map eI) (s1 := S tp x6 (some (true, .lst (PF.eL []))) x12) ?_ e1) ?_
      · rw [← List.range_eq_range']
        exact iv_rng (ev_opN (rda_cons (rd_var (i := 2) (b := false) (p := eI n) rfl) rda_nil) rfl) (by omega)
      · exact sq (sno tst rfl) rfl
    simp only [eb]
    exact e2
end G04
end

section
set_option Elab.async false
set_option linter.all false
set_option maxRecDepth 100000
set_option maxHeartbeats 4000000
set_option autoImplicit false
set_option exponentiation.threshold 2000
/-! M04f: k04: the law's run. -/
namespace G04
open PySem PySem.Spec PyProof.Rows L2 HF PF KH
theorem sqx {F G : PM Fl} {s s1 : SE} {a : HF.Arg} (h : F s = .ok .next s1) (h2 : ∃ s', G s1 = .ok (.ret a) s') : ∃ s', sSeq F G s = .ok (.ret a) s' := by
  obtain ⟨s', e⟩ := h2
  exact ⟨s', sq h e⟩
theorem evt_ref {cs : Str → Bool} {den : Den} {c : Str} {fs : PM (List HF.Arg)} {s : SE} {ps : List PV} (ha : RdA fs s ps) (hd : den ps = .exc c) (hc : cs c = true) : EvT (tRef cs (eCall den fs)) s true := by
  unfold EvT tRef
  rw [exc_call ha hd]
  simp only [hc, if_true]
theorem it_ok : (fun n : Str => decide (n ∈ (["InvalidPoly"] : List Str))) "InvalidPoly" = true := by decide
theorem ne_bl (a : Bool) : opNe (.bl a) (.bl a) = some (.bl false, false) := by cases a <;> rfl
def baseQ : Nat → List Nat
  | 2 => [1, 2]
  | 3 => [1, 3, 3]
  | 4 => [1, 3, 4, 2]
  | _ => [1, 4, 6, 5, 2]
theorem base_ok {n : Nat} (h2 : 2 ≤ n) (h5 : n ≤ 5) : (baseQ n).length = n ∧ ∀ b ∈ baseQ n, 1 ≤ b ∧ b ≤ 6 := by
  rcases (show n = 2 ∨ n = 3 ∨ n = 4 ∨ n = 5 by omega) with rfl | rfl | rfl | rfl <;> decide
def eB (n : Nat) : PV := .tup ((baseQ n).map fun (b : Nat) => eQ (b : Rat))
def eBs : PM HF.Arg := (eLst (aCons (eTup (aCons (eTup (aCons (eC (.int 1)) (aCons (eC (.int 1)) aNil))) (aCons (eTup (aCons (eC (.int 2)) (aCons (eC (.int 1)) aNil))) aNil))) (aCons (eTup (aCons (eTup (aCons (eC (.int 1)) (aCons (eC (.int 1)) aNil))) (aCons (eTup (aCons (eC (.int 3)) (aCons (eC (.int 1)) aNil))) (aCons (eTup (aCons (eC (.int 3)) (aCons (eC (.int 1)) aNil))) aNil)))) (aCons (eTup (aCons (eTup (aCons (eC (.int 1)) (aCons (eC (.int 1)) aNil))) (aCons (eTup (aCons (eC (.int 3)) (aCons (eC (.int 1)) aNil))) (aCons (eTup (aCons (eC (.int 4)) (aCons (eC (.int 1)) aNil))) (aCons (eTup (aCons (eC (.int 2)) (aCons (eC (.int 1)) aNil))) aNil))))) (aCons (eTup (aCons (eTup (aCons (eC (.int 1)) (aCons (eC (.int 1)) aNil))) (aCons (eTup (aCons (eC (.int 4)) (aCons (eC (.int 1)) aNil))) (aCons (eTup (aCons (eC (.int 6)) (aCons (eC (.int 1)) aNil))) (aCons (eTup (aCons (eC (.int 5)) (aCons (eC (.int 1)) aNil))) (aCons (eTup (aCons (eC (.int 2)) (aCons (eC (.int 1)) aNil))) aNil)))))) aNil)))))
theorem ev_bs (s : SE) : Ev eBs s (.lst [eB 2, eB 3, eB 4, eB 5]) true := by
  have h : eBs s = .ok (.val (.lst [eB 2, eB 3, eB 4, eB 5]) true) s := by kernel_rfl
  exact h
theorem ix_bs {n : Nat} (h2 : 2 ≤ n) (h5 : n ≤ 5) : opIx (.lst [eB 2, eB 3, eB 4, eB 5]) (.int ((n : Int) - 2)) = some (eB n, false) := by
  rcases (show n = 2 ∨ n = 3 ∨ n = 4 ∨ n = 5 by omega) with rfl | rfl | rfl | rfl <;> rfl
theorem lt_w {n : Nat} {lo hi : List Rat} (r : Rg n lo hi) {as : List Rat} (h : as ∈ chQ lo hi n) : ∃ l, Lft as l ∧ decide (l = (n : Int) - 1) = calmB as := by
  have q := choice_in r h
  have := lft (xs := as) (by have := r.n2; have := q.1; omega) (by have := r.n5; have := q.1; omega) q.co
  rwa [q.1] at this
theorem last_pos {n : Nat} {lo hi as : List Rat} (r : Rg n lo hi) (q : In n lo hi as) : as ≠ [] ∧ (as.getLastD 0).num ≠ 0 := by
  have n2 := r.n2
  have hl := q.1
  have hne : as ≠ [] := fun e => by rw [e] at hl; simp at hl; omega
  refine ⟨hne, ?_⟩
  rw [lastD_get hne]
  have := (q.2 (as.length - 1) (by omega)).1.pos
  have := num_pos.mpr this
  omega
theorem cut_last (xs : List Rat) : opSl (PF.eP xs) none (some (-1)) = some (PF.eP xs.dropLast, false) := by
  show some (PV.tup (cutP (PF.eL xs) none (some (-1))), false) = _
  rw [cut_init]
  unfold PF.eP PF.eL
  rw [List.map_dropLast]
theorem law_run {ns : List Int} (hl : ns.length ≤ 63) : ∃ s', F_law (st0 15 [.scr ns]) = .ok (.ret (.val (.bl true) false)) s' := by
  obtain ⟨tp0, e0, t0⟩ := d_tape hl (N := 1000) (by decide)
  unfold F_law
  refine sqx (s1 := Z ns tp0 none none none none none none none none none none none none none) (s_set (p := tp0) (fr := true) (ev_call (io := none) (eva_cons (ev_var rfl) eva_nil) e0) (by simp [st0])) ?_
  obtain ⟨d, tp1, e1, g1, t1⟩ := tk_at (s := Z ns tp0 none none none none none none none none none none none none none) (m := 4) (N := 999) rfl t0 (by decide) (by decide)
  obtain ⟨n, hn⟩ : ∃ n : Nat, n = 2 + d := ⟨_, rfl⟩
  have n2 : 2 ≤ n := by omega
  have n5 : n ≤ 5 := by omega
  refine sqx (s1 := Z ns tp1 (some (false, eI n)) none none none none none none none none none none none none) (s_setS (s1 := Z ns tp1 none none none none none none none none none none none none none) (p := eI n) (fr := false) (evs_op2 (o := opAdd) (r := eI n) (fr3 := false) (show EvS (eC (.int 2)) _ (.int 2) false _ from ev_c) e1 (by rw [hn]; unfold eI; rw [Int.natCast_add]; rfl)) (by simp [Z])) ?_
  obtain ⟨bl, bb⟩ := base_ok n2 n5
  refine sqx (s1 := Z ns tp1 (some (false, eI n)) (some (false, eB n)) none none none none none none none none none none none) (s_set (p := eB n) (fr := false) (ev_op2 (ev_bs _).rd (ev_sub (x := (n : Int)) (y := 2) (fr := false) (fr2 := false) (ev_var (i := 2) rfl) ev_c (s := Z ns tp1 (some (false, eI n)) none none none none none none none none none none none none)).rd (ix_bs n2 n5)) (by simp [Z])) ?_
  refine sqx (s1 := Z ns tp1 (some (false, eI n)) (some (false, eB n)) none none none none none none none none none (some (true, .lst (PF.eL []))) (some (true, .lst (PF.eL [])))) (s_par' (p := .lst []) (q := .lst []) (fr := true) (fr2 := true) (ev_lst (ps := []) eva_nil (by rw [sizeLine_eq]; exact Nat.le_of_ble_eq_true rfl)) (ev_lst (ps := []) eva_nil (by rw [sizeLine_eq]; exact Nat.le_of_ble_eq_true rfl)) (by simp [Z]) (by simp [Z])) ?_
  obtain ⟨tp2, x4, lo, hi, e2, hr, t2⟩ := draw_base (ns := ns) (x2 := some (false, eI n)) (x3 := some (false, eB n)) (baseQ n) [] 900 tp1 none [] [] trivial (by simp) (by simp [bl]; omega) (fun b hb => (bb b hb).2) (tp_less t1 (by omega))
  rw [List.nil_append] at hr
  obtain ⟨o1, o2, o3⟩ := hr.out bb
  rw [bl] at o1 o2 o3
  have r : Rg n lo hi := ⟨o1, o2, n2, n5, fun k hk => (o3 k hk).1.co, fun k hk => (o3 k hk).2.1.co, fun k hk => (o3 k hk).2.2⟩
  have ql : ∀ k, k < n → Qt (lo.getD k 0) ∧ Qt (hi.getD k 0) := fun k hk => ⟨(o3 k hk).1, (o3 k hk).2.1⟩
  refine sqx (sf (ps := (baseQ n).map fun (b : Nat) => eQ (b : Rat)) (s1 := Z ns tp1 (some (false, eI n)) (some (false, eB n)) none none none none none none none none none (some (true, .lst (PF.eL []))) (some (true, .lst (PF.eL [])))) (iv_tup (ev_var (i := 3) rfl)) e2) ?_
  refine sqx (s1 := Z ns tp2 (some (false, eI n)) (some (false, eB n)) x4 none none none none none none none none (some (false, PF.eP hi)) (some (false, PF.eP lo))) (s_par' (p := PF.eP lo) (q := PF.eP hi) (fr := false) (fr2 := false) (ev_opN (rda_cons (rd_var (i := 14) (b := true) rfl) rda_nil) rfl) (ev_opN (rda_cons (rd_var (i := 13) (b := true) rfl) rda_nil) rfl) (by simp [Z]) (by simp [Z])) ?_
  obtain ⟨lne, _⟩ := last_pos r ⟨o1, fun k hk => ⟨(o3 k hk).1.co, Rat.le_refl, (o3 k hk).2.2⟩⟩
  have lp := num_pos.mpr r.last
  refine sqx (sno (evt_bool (fr := false) (ev_op2 (o := opLe) (r := .bl false) (ev_num (ev_op2 (rd_var (i := 14) (b := false) (s := Z ns tp2 (some (false, eI n)) (some (false, eB n)) x4 none none none none none none none none (some (false, PF.eP hi)) (some (false, PF.eP lo))) rfl) ev_m1.rd (ixT_last lne)).rd).rd (ev_c (p := .int 0)).rd (by
    show some (PV.bl (decide (_ ≤ (0 : Int))), false) = _
    rw [decide_eq_false (by omega)]))) rfl) ?_
  refine sqx (s1 := Z ns tp2 (some (false, eI n)) (some (false, eB n)) x4 (some (false, .tup ([0, 1, 2, 3].map fun p => PF.eP (corner p lo hi)))) none none none none none none none (some (false, PF.eP hi)) (some (false, PF.eP lo))) (s_set (fr := false) (ev_call (io := none) (eva_cons (ev_var (i := 14) rfl) (eva_cons (ev_var (i := 13) rfl) eva_nil)) r.corners) (by simp [Z])) ?_
  obtain ⟨x6, x8, x9, e3⟩ := rows_loop (ns := ns) (tp := tp2) (x3 := some (false, eB n)) (x4 := x4) r n 0 none none none (by omega)
  refine sqx (sf (ps := (List.range' 0 n).map eI) (s1 := Z ns tp2 (some (false, eI n)) (some (false, eB n)) x4 (some (false, .tup ([0, 1, 2, 3].map fun p => PF.eP (corner p lo hi)))) none none none none none none none (some (false, PF.eP hi)) (some (false, PF.eP lo))) (by
    rw [← List.range_eq_range']
    exact iv_rng (ev_opN (rda_cons (rd_var (i := 2) (b := false) (p := eI n) rfl) rda_nil) rfl) (by omega)) e3) ?_
  let S : SE := Z ns tp2 (some (false, eI n)) (some (false, eB n)) x4 (some (false, .tup ([0, 1, 2, 3].map fun p => PF.eP (corner p lo hi)))) x6 none x8 x9 (some (false, .bl (four lo hi))) none none (some (false, PF.eP hi)) (some (false, PF.eP lo))
  refine sqx (s1 := S) (s_set (p := .bl (four lo hi)) (fr := false) (ev_call (io := none) (eva_cons (ev_var (i := 14) rfl) (eva_cons (ev_var (i := 13) rfl) eva_nil)) (d_calm_range r)) (by simp [Z])) ?_
  have a1 : Ev (eOpN opAll (aCons (eComp [7] (iOf (iVal (eVar 5))) (gNm 7) (ret true) (eCall (denOf 1 PF.F_is_calm) (aCons (eVar 7) aNil))) aNil)) S (.bl (four lo hi)) false :=
    all_calm (s := S) [0, 1, 2, 3] (fun p => PF.eP (corner p lo hi)) (fun p => calmB (corner p lo hi)) (iv_tup (ev_var (i := 5) rfl)) (by simp) (by simp [S, Z]) fun p _ => ev_call (io := none) (eva_cons (ev_var (i := 7) rfl) eva_nil) ((corner_in r p).calm r)
  refine sqx (sno (evt_bool (ev_op2 (rd_var (i := 10) (b := false) rfl) a1.rd (ne_bl _))) rfl) ?_
  have a2 : Ev (eOpN opAll (aCons (eComp [7] (iOf (iVal (eCall (denOf 4 F__law_choices) (aCons (eVar 14) (aCons (eVar 13) aNil))))) (gNm 7) (tBool (eOp2 opNe (eOp2 opIx (eOp2 opIx (eVar 7) (eOp1 opNeg (eC (.int 1)))) (eC (.int 0))) (eC (.int 0)))) (eOp2 opEq (eOp2 opIx (eCall (denOf 9 PF.F_sides) (aCons (eVar 7) aNil)) (eC (.int 0))) (eOp2 opSub (eVar 2) (eC (.int 1))))) aNil)) S (.bl (four lo hi)) false := by
    have q := ev_compXF (s := S) (i := 7) (I := iVal (eCall (denOf 4 F__law_choices) (aCons (eVar 14) (aCons (eVar 13) aNil)))) (T := tBool (eOp2 opNe (eOp2 opIx (eOp2 opIx (eVar 7) (eOp1 opNeg (eC (.int 1)))) (eC (.int 0))) (eC (.int 0)))) (E := eOp2 opEq (eOp2 opIx (eCall (denOf 9 PF.F_sides) (aCons (eVar 7) aNil)) (eC (.int 0))) (eOp2 opSub (eVar 2) (eC (.int 1)))) (chQ lo hi n) PF.eP (fun _ => true) (fun p => .bl (calmB p)) (iv_lst (ev_call (io := none) (eva_cons (ev_var (i := 14) rfl) (eva_cons (ev_var (i := 13) rfl) eva_nil)) (d_choices r))) (by
        rw [chQ_len, sizeLine_eq]
        exact Nat.le_trans (Nat.pow_le_pow_right (by decide) n5) (by decide)) (by simp [S, Z]) (fun as has => by
        obtain ⟨h1, h2⟩ := last_pos r (choice_in r has)
        have := evt_bool (ev_op2 (ev_num (ev_op2 (rd_var (i := 7) (b := false) (s := S.set 7 (some (false, PF.eP as))) rfl) ev_m1.rd (ixT_last h1)).rd).rd (ev_c (p := .int 0)).rd (ne_ii _ _))
        rw [decide_eq_false h2] at this
        exact this) (fun as has _ => ⟨false, by
        obtain ⟨l, h1, h2⟩ := lt_w r has
        rw [← h2]
        obtain ⟨ax, right, h1⟩ := h1
        exact ev_op2 (ev_op2 (fr3 := false) (ev_call (io := none) (eva_cons (ev_var (i := 7) (s := S.set 7 (some (false, PF.eP as))) rfl) eva_nil) h1).rd (ev_c (p := .int 0)).rd rfl).rd (ev_sub (x := (n : Int)) (y := 1) (fr := false) (fr2 := false) (ev_var (i := 2) rfl) ev_c).rd (eq_ii _ _)⟩)
    have em : ((chQ lo hi n).filter fun _ => true).map (fun p => PV.bl (calmB p)) = ((chQ lo hi n).map calmB).map PV.bl := by
      rw [List.filter_eq_self.mpr (fun _ _ => rfl), List.map_map]; rfl
    rw [em] at q
    have := ev_opN (rda_cons q.rd rda_nil) (opAll_bools ((chQ lo hi n).map calmB))
    rw [List.all_map] at this
    rw [← all_ch r]
    exact this
  refine sqx (sno (evt_bool (ev_op2 (rd_var (i := 10) (b := false) rfl) a2.rd (ne_bl _))) rfl) ?_
  obtain ⟨tp3, x6', x7', x11', x12', e4, t4⟩ := turn_loop (ns := ns) (x3 := some (false, eB n)) (x4 := x4) (x5 := some (false, .tup ([0, 1, 2, 3].map fun p => PF.eP (corner p lo hi)))) (x8 := x8) (x9 := x9) r ql 4 0 100 tp2 x6 none none none (tp_less t2 (by omega))
  refine sqx (sf (ps := (List.range' 0 4).map eI) (s1 := S) (by
    rw [← List.range_eq_range']
    exact iv_rng (n := 4) (ev_opN (rda_cons ev_c.rd rda_nil) rfl) (by omega)) e4) ?_
  let S' : SE := Z ns tp3 (some (false, eI n)) (some (false, eB n)) x4 (some (false, .tup ([0, 1, 2, 3].map fun p => PF.eP (corner p lo hi)))) x6' x7' x8 x9 (some (false, .bl (four lo hi))) x11' x12' (some (false, PF.eP hi)) (some (false, PF.eP lo))
  have x1 : EvT (tRef (fun n => decide (n ∈ (["InvalidPoly"] : List Str))) (eCall (denOf 7 PF.F_corners_of_ranges) (aCons (eVar 14) (aCons (eSl (eVar 14) eNoP (HF.eP (eOp1 opNeg (eC (.int 1))))) aNil)))) S' true := by
    refine evt_ref (ps := [PF.eP lo, PF.eP lo.dropLast]) (rda_cons (rd_var (i := 14) (b := false) rfl) (rda_cons (ev_sl (fr := false) (rd_var (i := 14) (b := false) (p := PF.eP lo) rfl) (show eNoP S' = Rs.ok none S' from rfl) (show HF.eP (eOp1 opNeg (eC (.int 1))) S' = Rs.ok (some (-1)) S' from rfl) ?_).rd rda_nil)) (x_len ?_) it_ok
    · exact cut_last lo
    · rw [List.length_dropLast]; omega
  refine sqx (sno (evt_not x1) rfl) ?_
  have one : ∀ (i : Nat) (xs : List Rat) (x : Rat) (c : PM HF.Arg), xs.length ≤ 100 → S'[i]? = some (some (false, PF.eP xs)) → Ev c S' (eQ x) false → Ev (eOp2 opAdd (eVar i) (eTup (aCons c aNil))) S' (PF.eP (xs ++ [x])) false := fun i xs x c h h1 h2 => by
    refine ev_op2 (rd_var (b := false) h1) (ev_tup (ps := [eQ x]) (eva_cons h2 eva_nil) (by rw [sizeLine_eq]; exact Nat.le_of_ble_eq_true rfl)).rd ?_
    show opAdd (.tup (PF.eL xs)) (.tup [eQ x]) = _
    rw [add_tup (by rw [eL_len]; simp; omega)]
    unfold PF.eP
    rw [eL_app]
    rfl
  have q2 := one 13 hi 2 (eTup (aCons (eC (.int 2)) (aCons (eC (.int 1)) aNil))) (by omega) rfl (ev_tup (ps := [.int 2, .int 1]) (eva_cons ev_c (eva_cons ev_c eva_nil)) (by rw [sizeLine_eq]; exact Nat.le_of_ble_eq_true rfl))
  have q1 := one 14 lo 1 (eTup (aCons (eC (.int 1)) (aCons (eC (.int 1)) aNil))) (by omega) rfl (ev_tup (ps := [.int 1, .int 1]) (eva_cons ev_c (eva_cons ev_c eva_nil)) (by rw [sizeLine_eq]; exact Nat.le_of_ble_eq_true rfl))
  have hbs : ∀ (xs : List Rat) (x : Rat), HbL 8 xs → Hb 8 x → HbL 8 (xs ++ [x]) := fun xs x h h1 a ha => by
    rcases List.mem_append.mp ha with z | z
    · exact h a z
    · rw [List.mem_singleton.mp z]; exact h1
  have x2 : EvT (tRef (fun n => decide (n ∈ (["InvalidPoly"] : List Str))) (eCall (denOf 7 PF.F_corners_of_ranges) (aCons (eOp2 opAdd (eVar 13) (eTup (aCons (eTup (aCons (eC (.int 2)) (aCons (eC (.int 1)) aNil))) aNil))) (aCons (eOp2 opAdd (eVar 14) (eTup (aCons (eTup (aCons (eC (.int 1)) (aCons (eC (.int 1)) aNil))) aNil))) aNil)))) S' true := by
    refine evt_ref (rda_cons q2.rd (rda_cons q1.rd rda_nil)) (x_gap ?_ ?_ ?_ (hbs _ _ r.hh (by exact ⟨by decide, by decide⟩)) (hbs _ _ r.hl (by exact ⟨by decide, by decide⟩)) ?_) it_ok
    · simp [o1, o2]
    · simp; omega
    · simp; omega
    · rw [List.zip_append (by omega), List.any_append]
      rw [show (([(2 : Rat)].zip [(1 : Rat)]).any fun p => decide (p.2 < p.1)) = true by decide +kernel, Bool.or_true]
  unfold EvT at x2
  refine ⟨S', s_seq_ret ?_⟩
  unfold sRetB
  rw [bnd_ok x2]
  rfl
end G04
end

section
set_option Elab.async false
set_option linter.all false
set_option maxRecDepth 100000
set_option maxHeartbeats 0
set_option autoImplicit false
namespace G04
open PySem PySem.Spec PyProof.Rows L2 HF
/-! ### the head -/
def dd (x : Str) (i : Nat) : He.DefD := ⟨(x, none), x, x, defArgs (top i), defBody (top i), defScope (top i), [], []⟩
def fn : List He.DefD := [dd "share" 7, dd "whole" 8, dd "plus" 9, dd "minus" 10, dd "times" 11, dd "over" 12, dd "less" 13, dd "sign" 14, dd "is_share" 15, dd "check_poly" 18, dd "tidy" 19, dd "scaled" 20, dd "divided" 21, dd "monic" 22, dd "common" 23, dd "value_at" 24, dd "slope" 25, dd "turned" 26, dd "chain" 28, dd "sign_at" 29, dd "changes" 30, dd "root_count" 31, dd "all_count" 32, dd "jumps" 33, dd "axis_parts" 34, dd "sides" 35, dd "axis_count" 36, dd "is_calm" 37, dd "corners_of_ranges" 38, dd "is_calm_range" 39] ++ [dd "_law_tape" 41, dd "_law_take" 42, dd "_law_gcd" 43, dd "_law_ratio" 44, dd "_law_lot" 45, dd "_law_sum" 46, dd "_law_times" 47, dd "_law_minus" 48, dd "_law_less" 49, dd "_law_dot" 50, dd "_law_refused" 51, dd "_law_choices" 52, dd "_law_more" 53, dd "law" 54]
def fa : List He.Fa := [.glo "share", .glo "whole", .glo "plus", .glo "minus", .glo "times", .glo "over", .glo "less", .glo "sign", .glo "is_share", .glo "check_poly", .glo "tidy", .glo "scaled", .glo "divided", .glo "monic", .glo "common", .glo "value_at", .glo "slope", .glo "turned", .glo "chain", .glo "sign_at", .glo "changes", .glo "root_count", .glo "all_count", .glo "jumps", .glo "axis_parts", .glo "sides", .glo "axis_count", .glo "is_calm", .glo "corners_of_ranges", .glo "is_calm_range"] ++ [.glo "_law_tape", .glo "_law_take", .glo "_law_gcd", .glo "_law_ratio", .glo "_law_lot", .glo "_law_sum", .glo "_law_times", .glo "_law_minus", .glo "_law_less", .glo "_law_dot", .glo "_law_refused", .glo "_law_choices", .glo "_law_more", .glo "law", .free "abs", .free "all", .free "any", .free "enumerate", .free "int", .free "len", .free "list", .free "max", .free "range", .free "reversed", .free "sum", .free "tuple", .free "zip", .int "MOST_DEGREE" 24, .glo "InvalidPoly", .glo "InvalidShare"] ++ [.exc "InvalidPoly", .exc "InvalidShare", .exm "InvalidPoly" "InvalidPoly" true]
abbrev R : PySem.W.OpenRow := PySem.W.OpenLaw.row PySem.Challenge.rw_heldsteady_k04_whole_ranges_of_coefficie
def loose : List PySem.Str := (["SteadyError", "InvalidShare", "InvalidPoly", "ZERO", "ONE", "share", "whole", "plus", "minus", "times", "over", "less", "sign", "is_share", "MOST_DEGREE", "check_poly", "tidy", "scaled", "divided", "monic", "common", "value_at", "slope", "turned", "chain", "sign_at", "changes", "root_count", "all_count", "jumps"] : List PySem.Str) ++ (["axis_parts", "sides", "axis_count", "is_calm", "corners_of_ranges", "is_calm_range", "_law_tape", "_law_take", "_law_gcd", "_law_ratio", "_law_lot", "_law_sum", "_law_times", "_law_minus", "_law_less", "_law_dot", "_law_refused", "_law_choices", "_law_more"] : List PySem.Str)
def cons : List (PySem.Str × PV) := [("ONE", .tup [.int 1, .int 1]), ("ZERO", .tup [.int 0, .int 1])]
def ex : PySem.W.Frag → Bool := fun K => cons.all fun p => conOk K p.1 p.2
def tfs : List He.Defn := [("law", none)]
abbrev hk : PySem.W.Hook := He.hookX 5 fa fn [] tfs ex
def ob (s : PySem.W.SharedT) : He.AlX := He.obsX 5 fa fn [] tfs ex (HandSHeadRun.getT s)
theorem ob_eq (s : PySem.W.SharedT) : ob s = hk.obs s.abs := He.obsX_eq (HandSHeadRun.getT_eq s)
theorem run (w : World) : HandSHeadRun.RunEq R (PySem.W.view R.prog [54]) hk ob 4000 loose w := by
  intro os
  kernel_rfl
section
variable {w : World} {K : PySem.W.Frag} {mg : Str → Option Value} {h : Heap}
theorem fx (KX : K.In h) (G : h.Ns mainGlobals mg) (c : He.SaysX fa fn [] tfs ex w h K) : Fx K mg where
  b_abs := He.free_ok KX G (c.t.d.fact 44 (f := .free "abs") rfl)
  b_all := He.free_ok KX G (c.t.d.fact 45 (f := .free "all") rfl)
  b_any := He.free_ok KX G (c.t.d.fact 46 (f := .free "any") rfl)
  b_enumerate := He.free_ok KX G (c.t.d.fact 47 (f := .free "enumerate") rfl)
  b_int := He.free_ok KX G (c.t.d.fact 48 (f := .free "int") rfl)
  b_len := He.free_ok KX G (c.t.d.fact 49 (f := .free "len") rfl)
  b_list := He.free_ok KX G (c.t.d.fact 50 (f := .free "list") rfl)
  b_max := He.free_ok KX G (c.t.d.fact 51 (f := .free "max") rfl)
  b_range := He.free_ok KX G (c.t.d.fact 52 (f := .free "range") rfl)
  b_reversed := He.free_ok KX G (c.t.d.fact 53 (f := .free "reversed") rfl)
  b_sum := He.free_ok KX G (c.t.d.fact 54 (f := .free "sum") rfl)
  b_tuple := He.free_ok KX G (c.t.d.fact 55 (f := .free "tuple") rfl)
  b_zip := He.free_ok KX G (c.t.d.fact 56 (f := .free "zip") rfl)
  c_MOST_DEGREE := He.int_ok KX G (c.t.d.fact 57 (f := .int "MOST_DEGREE" 24) rfl)
  x_InvalidPoly := ⟨_, He.glo_ok KX G (c.t.d.fact 58 (f := .glo "InvalidPoly") rfl), He.exc_ok (c.t.d.fact 60 (f := .exc "InvalidPoly") rfl)⟩
  x_InvalidShare := ⟨_, He.glo_ok KX G (c.t.d.fact 59 (f := .glo "InvalidShare") rfl), He.exc_ok (c.t.d.fact 61 (f := .exc "InvalidShare") rfl)⟩
  t_ONE := con_ok KX G (List.all_eq_true.mp c.more ("ONE", .tup [.int 1, .int 1]) List.mem_cons_self)
  t_ZERO := con_ok KX G (List.all_eq_true.mp c.more ("ZERO", .tup [.int 0, .int 1]) (List.mem_cons_of_mem _ List.mem_cons_self))
theorem rf__law_refused (KX : K.In h) (G : h.Ns mainGlobals mg) (c : He.SaysX fa fn [] tfs ex w h K) : RefF K mg "InvalidPoly" ["InvalidPoly"] := ⟨_, He.glo_ok KX G (c.t.d.fact 58 (f := .glo "InvalidPoly") rfl), fun n hn C hC => by
  have z := List.mem_singleton.mp hn
  subst z; rw [He.glo_ok KX G (c.t.d.fact 58 (f := .glo "InvalidPoly") rfl)] at hC; cases hC; exact He.exm_ok (c.t.d.fact 62 (f := .exm "InvalidPoly" "InvalidPoly" true) rfl)⟩
/-- what is left to show: the law's way answers True -/
def LawTrue : Prop := ∀ ns : List Int, ns.length ≤ 63 → (∀ z ∈ ns, Builtin.Int.intBits z ≤ 1048576) → ∃ s', F_law (st0 15 [.scr ns]) = .ok (.ret (.val (.bl true) false)) s'
theorem lawAt {f : Addr} (KX : K.In h) (G : h.Ns mainGlobals mg) (hfa : mg ("law" : Str) = some (.ref f)) (c : He.SaysX fa fn [] tfs ex w h K) (LAW : LawTrue) :
    LamX.LawAtS PySem.Challenge.rw_heldsteady_k04_whole_ranges_of_coefficie w K (L2.CX (PySem.Challenge.rw_heldsteady_k04_whole_ranges_of_coefficie).prog w) 12 63 "script" mg f h := by
  have FX := fx KX G c
  obtain ⟨fd_share, Fd_share⟩ := c.t.d.def_ 0 (d := dd "share" 7) rfl
  obtain ⟨fd_whole, Fd_whole⟩ := c.t.d.def_ 1 (d := dd "whole" 8) rfl
  obtain ⟨fd_plus, Fd_plus⟩ := c.t.d.def_ 2 (d := dd "plus" 9) rfl
  obtain ⟨fd_minus, Fd_minus⟩ := c.t.d.def_ 3 (d := dd "minus" 10) rfl
  obtain ⟨fd_times, Fd_times⟩ := c.t.d.def_ 4 (d := dd "times" 11) rfl
  obtain ⟨fd_over, Fd_over⟩ := c.t.d.def_ 5 (d := dd "over" 12) rfl
  obtain ⟨fd_less, Fd_less⟩ := c.t.d.def_ 6 (d := dd "less" 13) rfl
  obtain ⟨fd_sign, Fd_sign⟩ := c.t.d.def_ 7 (d := dd "sign" 14) rfl
  obtain ⟨fd_is_share, Fd_is_share⟩ := c.t.d.def_ 8 (d := dd "is_share" 15) rfl
  obtain ⟨fd_check_poly, Fd_check_poly⟩ := c.t.d.def_ 9 (d := dd "check_poly" 18) rfl
  obtain ⟨fd_tidy, Fd_tidy⟩ := c.t.d.def_ 10 (d := dd "tidy" 19) rfl
  obtain ⟨fd_scaled, Fd_scaled⟩ := c.t.d.def_ 11 (d := dd "scaled" 20) rfl
  obtain ⟨fd_divided, Fd_divided⟩ := c.t.d.def_ 12 (d := dd "divided" 21) rfl
  obtain ⟨fd_monic, Fd_monic⟩ := c.t.d.def_ 13 (d := dd "monic" 22) rfl
  obtain ⟨fd_common, Fd_common⟩ := c.t.d.def_ 14 (d := dd "common" 23) rfl
  obtain ⟨fd_value_at, Fd_value_at⟩ := c.t.d.def_ 15 (d := dd "value_at" 24) rfl
  obtain ⟨fd_slope, Fd_slope⟩ := c.t.d.def_ 16 (d := dd "slope" 25) rfl
  obtain ⟨fd_turned, Fd_turned⟩ := c.t.d.def_ 17 (d := dd "turned" 26) rfl
  obtain ⟨fd_chain, Fd_chain⟩ := c.t.d.def_ 18 (d := dd "chain" 28) rfl
  obtain ⟨fd_sign_at, Fd_sign_at⟩ := c.t.d.def_ 19 (d := dd "sign_at" 29) rfl
  obtain ⟨fd_changes, Fd_changes⟩ := c.t.d.def_ 20 (d := dd "changes" 30) rfl
  obtain ⟨fd_root_count, Fd_root_count⟩ := c.t.d.def_ 21 (d := dd "root_count" 31) rfl
  obtain ⟨fd_all_count, Fd_all_count⟩ := c.t.d.def_ 22 (d := dd "all_count" 32) rfl
  obtain ⟨fd_jumps, Fd_jumps⟩ := c.t.d.def_ 23 (d := dd "jumps" 33) rfl
  obtain ⟨fd_axis_parts, Fd_axis_parts⟩ := c.t.d.def_ 24 (d := dd "axis_parts" 34) rfl
  obtain ⟨fd_sides, Fd_sides⟩ := c.t.d.def_ 25 (d := dd "sides" 35) rfl
  obtain ⟨fd_axis_count, Fd_axis_count⟩ := c.t.d.def_ 26 (d := dd "axis_count" 36) rfl
  obtain ⟨fd_is_calm, Fd_is_calm⟩ := c.t.d.def_ 27 (d := dd "is_calm" 37) rfl
  obtain ⟨fd_corners_of_ranges, Fd_corners_of_ranges⟩ := c.t.d.def_ 28 (d := dd "corners_of_ranges" 38) rfl
  obtain ⟨fd_is_calm_range, Fd_is_calm_range⟩ := c.t.d.def_ 29 (d := dd "is_calm_range" 39) rfl
  obtain ⟨fd__law_tape, Fd__law_tape⟩ := c.t.d.def_ 30 (d := dd "_law_tape" 41) rfl
  obtain ⟨fd__law_take, Fd__law_take⟩ := c.t.d.def_ 31 (d := dd "_law_take" 42) rfl
  obtain ⟨fd__law_gcd, Fd__law_gcd⟩ := c.t.d.def_ 32 (d := dd "_law_gcd" 43) rfl
  obtain ⟨fd__law_ratio, Fd__law_ratio⟩ := c.t.d.def_ 33 (d := dd "_law_ratio" 44) rfl
  obtain ⟨fd__law_lot, Fd__law_lot⟩ := c.t.d.def_ 34 (d := dd "_law_lot" 45) rfl
  obtain ⟨fd__law_sum, Fd__law_sum⟩ := c.t.d.def_ 35 (d := dd "_law_sum" 46) rfl
  obtain ⟨fd__law_times, Fd__law_times⟩ := c.t.d.def_ 36 (d := dd "_law_times" 47) rfl
  obtain ⟨fd__law_minus, Fd__law_minus⟩ := c.t.d.def_ 37 (d := dd "_law_minus" 48) rfl
  obtain ⟨fd__law_less, Fd__law_less⟩ := c.t.d.def_ 38 (d := dd "_law_less" 49) rfl
  obtain ⟨fd__law_dot, Fd__law_dot⟩ := c.t.d.def_ 39 (d := dd "_law_dot" 50) rfl
  obtain ⟨fd__law_refused, Fd__law_refused⟩ := c.t.d.def_ 40 (d := dd "_law_refused" 51) rfl
  obtain ⟨fd__law_choices, Fd__law_choices⟩ := c.t.d.def_ 41 (d := dd "_law_choices" 52) rfl
  obtain ⟨fd__law_more, Fd__law_more⟩ := c.t.d.def_ 42 (d := dd "_law_more" 53) rfl
  obtain ⟨fd_law, Fd_law⟩ := c.t.d.def_ 43 (d := dd "law" 54) rfl
  have m_share := He.glo_ok KX G (c.t.d.fact 0 (f := .glo "share") rfl)
  have m_whole := He.glo_ok KX G (c.t.d.fact 1 (f := .glo "whole") rfl)
  have m_plus := He.glo_ok KX G (c.t.d.fact 2 (f := .glo "plus") rfl)
  have m_minus := He.glo_ok KX G (c.t.d.fact 3 (f := .glo "minus") rfl)
  have m_times := He.glo_ok KX G (c.t.d.fact 4 (f := .glo "times") rfl)
  have m_over := He.glo_ok KX G (c.t.d.fact 5 (f := .glo "over") rfl)
  have m_less := He.glo_ok KX G (c.t.d.fact 6 (f := .glo "less") rfl)
  have m_sign := He.glo_ok KX G (c.t.d.fact 7 (f := .glo "sign") rfl)
  have m_is_share := He.glo_ok KX G (c.t.d.fact 8 (f := .glo "is_share") rfl)
  have m_check_poly := He.glo_ok KX G (c.t.d.fact 9 (f := .glo "check_poly") rfl)
  have m_tidy := He.glo_ok KX G (c.t.d.fact 10 (f := .glo "tidy") rfl)
  have m_scaled := He.glo_ok KX G (c.t.d.fact 11 (f := .glo "scaled") rfl)
  have m_divided := He.glo_ok KX G (c.t.d.fact 12 (f := .glo "divided") rfl)
  have m_monic := He.glo_ok KX G (c.t.d.fact 13 (f := .glo "monic") rfl)
  have m_common := He.glo_ok KX G (c.t.d.fact 14 (f := .glo "common") rfl)
  have m_value_at := He.glo_ok KX G (c.t.d.fact 15 (f := .glo "value_at") rfl)
  have m_slope := He.glo_ok KX G (c.t.d.fact 16 (f := .glo "slope") rfl)
  have m_turned := He.glo_ok KX G (c.t.d.fact 17 (f := .glo "turned") rfl)
  have m_chain := He.glo_ok KX G (c.t.d.fact 18 (f := .glo "chain") rfl)
  have m_sign_at := He.glo_ok KX G (c.t.d.fact 19 (f := .glo "sign_at") rfl)
  have m_changes := He.glo_ok KX G (c.t.d.fact 20 (f := .glo "changes") rfl)
  have m_root_count := He.glo_ok KX G (c.t.d.fact 21 (f := .glo "root_count") rfl)
  have m_all_count := He.glo_ok KX G (c.t.d.fact 22 (f := .glo "all_count") rfl)
  have m_jumps := He.glo_ok KX G (c.t.d.fact 23 (f := .glo "jumps") rfl)
  have m_axis_parts := He.glo_ok KX G (c.t.d.fact 24 (f := .glo "axis_parts") rfl)
  have m_sides := He.glo_ok KX G (c.t.d.fact 25 (f := .glo "sides") rfl)
  have m_axis_count := He.glo_ok KX G (c.t.d.fact 26 (f := .glo "axis_count") rfl)
  have m_is_calm := He.glo_ok KX G (c.t.d.fact 27 (f := .glo "is_calm") rfl)
  have m_corners_of_ranges := He.glo_ok KX G (c.t.d.fact 28 (f := .glo "corners_of_ranges") rfl)
  have m_is_calm_range := He.glo_ok KX G (c.t.d.fact 29 (f := .glo "is_calm_range") rfl)
  have m__law_tape := He.glo_ok KX G (c.t.d.fact 30 (f := .glo "_law_tape") rfl)
  have m__law_take := He.glo_ok KX G (c.t.d.fact 31 (f := .glo "_law_take") rfl)
  have m__law_gcd := He.glo_ok KX G (c.t.d.fact 32 (f := .glo "_law_gcd") rfl)
  have m__law_ratio := He.glo_ok KX G (c.t.d.fact 33 (f := .glo "_law_ratio") rfl)
  have m__law_lot := He.glo_ok KX G (c.t.d.fact 34 (f := .glo "_law_lot") rfl)
  have m__law_sum := He.glo_ok KX G (c.t.d.fact 35 (f := .glo "_law_sum") rfl)
  have m__law_times := He.glo_ok KX G (c.t.d.fact 36 (f := .glo "_law_times") rfl)
  have m__law_minus := He.glo_ok KX G (c.t.d.fact 37 (f := .glo "_law_minus") rfl)
  have m__law_less := He.glo_ok KX G (c.t.d.fact 38 (f := .glo "_law_less") rfl)
  have m__law_dot := He.glo_ok KX G (c.t.d.fact 39 (f := .glo "_law_dot") rfl)
  have m__law_refused := He.glo_ok KX G (c.t.d.fact 40 (f := .glo "_law_refused") rfl)
  have m__law_choices := He.glo_ok KX G (c.t.d.fact 41 (f := .glo "_law_choices") rfl)
  have m__law_more := He.glo_ok KX G (c.t.d.fact 42 (f := .glo "_law_more") rfl)
  have m_law := He.glo_ok KX G (c.t.d.fact 43 (f := .glo "law") rfl)
  have e := hfa.symm.trans m_law
  cases e
  have b := FunD.bindsA (ps := ["script"]) Fd_law fun _ _ _ _ _ _ us hl => match us, hl with | [_], _ => rfl
  have hc : ∀ (oc : Value) (od : Option Addr) (osl : Array (Option Value)), K.lookup (He.ga K "law") = some ⟨oc, od, .func fd_law, osl⟩ → fd_law.code = .ref (He.codeOf K ("law", none)) := by
    intro oc od osl lk
    obtain ⟨_, _, _, _, _, _, _, cdv, _, _, rfl, _, hcd, _, _⟩ := Fd_law.ex
    obtain ⟨c', e⟩ := He.codeIn_ref hcd
    have e2 := He.codeOf_eq (K := K) (p := ("law", none)) lk (show _ = Value.ref c' from e)
    rw [e2]; exact e
  refine ⟨fd_law, [He.cT K ("law", none)], spL K (He.cT K ("law", none)).2 15 F_law, fun p hp => ?_, fun p hp => ?_, fun p hp => ?_, fun s v => b s [v] rfl, fun H a ns hl hb hP hS => ⟨a, ns, rfl, hS, hP _ List.mem_cons_self, LAW ns hl hb, fun _ => rfl⟩, fun base hK hN TB => ?_⟩
  · rw [List.mem_singleton.mp hp]; exact c.empty _ List.mem_cons_self
  · rw [List.mem_singleton.mp hp]; exact c.out _ List.mem_cons_self
  · rw [List.mem_singleton.mp hp]; exact PySem.W.codeHd_of_K KX (c.hd _ List.mem_cons_self)
  · have h__law_more := o__law_more (P := (PySem.Challenge.rw_heldsteady_k04_whole_ranges_of_coefficie).prog) (w := w) (base := base) FX  Fd__law_more m__law_more
    have h__law_choices := o__law_choices (P := (PySem.Challenge.rw_heldsteady_k04_whole_ranges_of_coefficie).prog) (w := w) (base := base) FX h__law_more Fd__law_choices m__law_choices
    have h__law_gcd := o__law_gcd (P := (PySem.Challenge.rw_heldsteady_k04_whole_ranges_of_coefficie).prog) (w := w) (base := base) FX  Fd__law_gcd m__law_gcd
    have h__law_ratio := o__law_ratio (P := (PySem.Challenge.rw_heldsteady_k04_whole_ranges_of_coefficie).prog) (w := w) (base := base) FX h__law_gcd Fd__law_ratio m__law_ratio
    have h__law_minus := o__law_minus (P := (PySem.Challenge.rw_heldsteady_k04_whole_ranges_of_coefficie).prog) (w := w) (base := base) FX h__law_ratio Fd__law_minus m__law_minus
    have h__law_sum := o__law_sum (P := (PySem.Challenge.rw_heldsteady_k04_whole_ranges_of_coefficie).prog) (w := w) (base := base) FX h__law_ratio Fd__law_sum m__law_sum
    have h__law_take := o__law_take (P := (PySem.Challenge.rw_heldsteady_k04_whole_ranges_of_coefficie).prog) (w := w) (base := base) FX  Fd__law_take m__law_take
    have h__law_tape := o__law_tape (P := (PySem.Challenge.rw_heldsteady_k04_whole_ranges_of_coefficie).prog) (w := w) (base := base) FX  Fd__law_tape m__law_tape
    have h__law_times := o__law_times (P := (PySem.Challenge.rw_heldsteady_k04_whole_ranges_of_coefficie).prog) (w := w) (base := base) FX h__law_ratio Fd__law_times m__law_times
    have h_less := o_less (P := (PySem.Challenge.rw_heldsteady_k04_whole_ranges_of_coefficie).prog) (w := w) (base := base) FX  Fd_less m_less
    have h_sign := o_sign (P := (PySem.Challenge.rw_heldsteady_k04_whole_ranges_of_coefficie).prog) (w := w) (base := base) FX  Fd_sign m_sign
    have h_corners_of_ranges := o_corners_of_ranges (P := (PySem.Challenge.rw_heldsteady_k04_whole_ranges_of_coefficie).prog) (w := w) (base := base) FX h_less h_sign Fd_corners_of_ranges m_corners_of_ranges
    have h_share := o_share (P := (PySem.Challenge.rw_heldsteady_k04_whole_ranges_of_coefficie).prog) (w := w) (base := base) FX  Fd_share m_share
    have h_minus := o_minus (P := (PySem.Challenge.rw_heldsteady_k04_whole_ranges_of_coefficie).prog) (w := w) (base := base) FX h_share Fd_minus m_minus
    have h_over := o_over (P := (PySem.Challenge.rw_heldsteady_k04_whole_ranges_of_coefficie).prog) (w := w) (base := base) FX h_share Fd_over m_over
    have h_tidy := o_tidy (P := (PySem.Challenge.rw_heldsteady_k04_whole_ranges_of_coefficie).prog) (w := w) (base := base) FX  Fd_tidy m_tidy
    have h_times := o_times (P := (PySem.Challenge.rw_heldsteady_k04_whole_ranges_of_coefficie).prog) (w := w) (base := base) FX h_share Fd_times m_times
    have h_divided := o_divided (P := (PySem.Challenge.rw_heldsteady_k04_whole_ranges_of_coefficie).prog) (w := w) (base := base) FX h_minus h_over h_tidy h_times Fd_divided m_divided
    have h_scaled := o_scaled (P := (PySem.Challenge.rw_heldsteady_k04_whole_ranges_of_coefficie).prog) (w := w) (base := base) FX h_tidy h_times Fd_scaled m_scaled
    have h_monic := o_monic (P := (PySem.Challenge.rw_heldsteady_k04_whole_ranges_of_coefficie).prog) (w := w) (base := base) FX h_over h_scaled Fd_monic m_monic
    have h_common := o_common (P := (PySem.Challenge.rw_heldsteady_k04_whole_ranges_of_coefficie).prog) (w := w) (base := base) FX h_divided h_monic Fd_common m_common
    have h_chain := o_chain (P := (PySem.Challenge.rw_heldsteady_k04_whole_ranges_of_coefficie).prog) (w := w) (base := base) FX h_divided h_scaled Fd_chain m_chain
    have h_plus := o_plus (P := (PySem.Challenge.rw_heldsteady_k04_whole_ranges_of_coefficie).prog) (w := w) (base := base) FX h_share Fd_plus m_plus
    have h_value_at := o_value_at (P := (PySem.Challenge.rw_heldsteady_k04_whole_ranges_of_coefficie).prog) (w := w) (base := base) FX h_plus h_times Fd_value_at m_value_at
    have h_sign_at := o_sign_at (P := (PySem.Challenge.rw_heldsteady_k04_whole_ranges_of_coefficie).prog) (w := w) (base := base) FX h_sign h_value_at Fd_sign_at m_sign_at
    have h_changes := o_changes (P := (PySem.Challenge.rw_heldsteady_k04_whole_ranges_of_coefficie).prog) (w := w) (base := base) FX h_sign_at Fd_changes m_changes
    have h_is_share := o_is_share (P := (PySem.Challenge.rw_heldsteady_k04_whole_ranges_of_coefficie).prog) (w := w) (base := base) FX h_share Fd_is_share m_is_share
    have h_check_poly := o_check_poly (P := (PySem.Challenge.rw_heldsteady_k04_whole_ranges_of_coefficie).prog) (w := w) (base := base) FX h_is_share Fd_check_poly m_check_poly
    have h_whole := o_whole (P := (PySem.Challenge.rw_heldsteady_k04_whole_ranges_of_coefficie).prog) (w := w) (base := base) FX  Fd_whole m_whole
    have h_slope := o_slope (P := (PySem.Challenge.rw_heldsteady_k04_whole_ranges_of_coefficie).prog) (w := w) (base := base) FX h_tidy h_times h_whole Fd_slope m_slope
    have h_root_count := o_root_count (P := (PySem.Challenge.rw_heldsteady_k04_whole_ranges_of_coefficie).prog) (w := w) (base := base) FX h_chain h_changes h_check_poly h_common h_divided h_less h_slope Fd_root_count m_root_count
    have h_all_count := o_all_count (P := (PySem.Challenge.rw_heldsteady_k04_whole_ranges_of_coefficie).prog) (w := w) (base := base) FX h_common h_root_count h_slope Fd_all_count m_all_count
    have h_axis_count := o_axis_count (P := (PySem.Challenge.rw_heldsteady_k04_whole_ranges_of_coefficie).prog) (w := w) (base := base) FX h_all_count h_tidy Fd_axis_count m_axis_count
    have h_axis_parts := o_axis_parts (P := (PySem.Challenge.rw_heldsteady_k04_whole_ranges_of_coefficie).prog) (w := w) (base := base) FX h_tidy h_times Fd_axis_parts m_axis_parts
    have h_jumps := o_jumps (P := (PySem.Challenge.rw_heldsteady_k04_whole_ranges_of_coefficie).prog) (w := w) (base := base) FX h_chain h_changes Fd_jumps m_jumps
    have h_turned := o_turned (P := (PySem.Challenge.rw_heldsteady_k04_whole_ranges_of_coefficie).prog) (w := w) (base := base) FX h_minus h_tidy Fd_turned m_turned
    have h_sides := o_sides (P := (PySem.Challenge.rw_heldsteady_k04_whole_ranges_of_coefficie).prog) (w := w) (base := base) FX h_axis_count h_axis_parts h_check_poly h_common h_divided h_jumps h_turned Fd_sides m_sides
    have h_is_calm := o_is_calm (P := (PySem.Challenge.rw_heldsteady_k04_whole_ranges_of_coefficie).prog) (w := w) (base := base) FX h_sides Fd_is_calm m_is_calm
    have h_is_calm_range := o_is_calm_range (P := (PySem.Challenge.rw_heldsteady_k04_whole_ranges_of_coefficie).prog) (w := w) (base := base) FX h_corners_of_ranges h_is_calm Fd_is_calm_range m_is_calm_range
    exact fn_law (fun _ _ => rfl) Fd_law hc fs_law fun A outer s H E hr => w_law FX h__law_choices h__law_minus h__law_ratio h__law_sum h__law_take h__law_tape h__law_times h_corners_of_ranges h_is_calm h_is_calm_range h_sides (rf__law_refused KX G c) Fd__law_refused m__law_refused (TB _ List.mem_cons_self) A outer s H E hr
end
end G04
open PySem PySem.W PySem.Calls PyProof.Rows
theorem G04_of (LAW : G04.LawTrue) : PySem.Challenge.rw_heldsteady_k04_whole_ranges_of_coefficie.Holds := by
  w_on; o_law
  refine HandSHeadRun.head_any (r := OpenLaw.row PySem.Challenge.rw_heldsteady_k04_whole_ranges_of_coefficie) (q := view (OpenLaw.row PySem.Challenge.rw_heldsteady_k04_whole_ranges_of_coefficie).prog [54]) (H := G04.hk) (ob := G04.ob) (M := 4000) (loose := G04.loose) (d := HandSHeadRun.topDef (OpenLaw.row PySem.Challenge.rw_heldsteady_k04_whole_ranges_of_coefficie).prog 54) (kwd := []) G04.ob_eq
    (by kernel_rfl) (fun s => by kernel_rfl) G04.run (by kernel_rfl) (by kernel_rfl) (by kernel_rfl) (by rfl) (by first | assumption | decide +kernel) (by decide +kernel) ⟨rfl, rfl, rfl, rfl, rfl, by decide +kernel⟩ ?hw ?hc
  case hw => w_witness2
  case hc =>
    refine LamX.walk_ofTsE (l := PySem.Challenge.rw_heldsteady_k04_whole_ranges_of_coefficie) (n := 63) (k := 12) (x := "script") (CX := fun w => L2.CX (PySem.Challenge.rw_heldsteady_k04_whole_ranges_of_coefficie).prog w) rfl (by decide) (by kernel_rfl) ⟨rfl, by decide, by decide⟩ ?F ?hCX
    case hCX =>
      intro w H s e s' ⟨_, _, _, _, _, _, _, _, _, _, _, _, z⟩
      exact z
    intro w mg fa h Y G hmg0
    obtain ⟨K, KX, c⟩ := Y
    have hmg : mg ("law" : PySem.Str) = some (.ref fa) := by
      have e : (HandSHeadRun.topDef (OpenLaw.row PySem.Challenge.rw_heldsteady_k04_whole_ranges_of_coefficie).prog 54).name = ("law" : PySem.Str) := by kernel_rfl
      rw [← e]
      exact hmg0
    exact ⟨K, KX, G04.lawAt KX G hmg c LAW⟩
end

set_option Elab.async false
theorem PySem.Challenge.cw_heldsteady_k04_whole_ranges_of_coefficie_holds : PySem.Challenge.rw_heldsteady_k04_whole_ranges_of_coefficie.Holds := by
  exact G04_of fun ns hl _ => G04.law_run hl
