import PyProof.Rows.All
import Wide.All
import OpenK.AllK
import Wide.FinOn
import KE.KStateDown
import HandS.ForMost
import HandS.ForExc
import HandS.Wide
import HandS.IsInst
import HandS.Deep
import HandS.Conv
import HandS.Flow
import HandS.Defaults
import HandS.Rev
import HandS.Small
import HandS.Head0
import HandS.Head1
import HandS.Head2
import HandS.HeadEnd
import HandS.HeadHook1
import HandS.HeadHook2
import KE.KDictKeyed
import KE.KeyNested
import HandS.Style
import HandS.TupLe
import HandS.TupSets
import PyProof.ReprRoads
import HandS.Exc
import HandS.ExcOwn
import HandS.ExcIs
import HandS.ExcValue
import HandS.SetFor
import KE.KExcStr
import PyProof.Draws
import PyProof.EnumMake
import HandS.SortInts
import PySem.Challenge.RW_spotlook_k17_what_comes_behind_a_face
set_option Elab.async false
set_option linter.all false
set_option maxRecDepth 100000
/-! A layer of trees over the hand layer: tuples and lists that nobody changes any more are plain data (D), the lists that may change stand in a store (Sto). -/
namespace ML
open PySem PySem.Spec L2
open PyProof.Rows hiding St

/-- data: a value with all tuples (and all lists that stay as they are) opened -/
inductive D where
  | non | bl (b : Bool) | int (i : Int) | str (x : Str) | tup (ds : List D) | lst (ds : List D) | scr (ds : List D) | ref (a : Addr)
/-- what may change -/
inductive MO where
  | lst (ds : List D)
  | dK (kvs : List (Key × D))
  | ins (C : Addr) (fs : List (Str × D))
  | exc (C : Str) (fs : Option (List (Str × D)))
  | dT (kvs : List (List Key × D))
  | dS (kvs : List (((Int × Int) × (Int × Int)) × D))
abbrev Sto := Addr → Option MO
def put (S : Sto) (a : Addr) (o : MO) : Sto := fun b => if b = a then some o else S b
theorem put_same {S : Sto} {a : Addr} {o : MO} : put S a o a = some o := if_pos rfl
theorem put_ne {S : Sto} {a b : Addr} {o : MO} (h : b ≠ a) : put S a o b = S b := if_neg h
theorem put_put {S : Sto} {a : Addr} {o u : MO} : put (put S a o) a u = put S a u := by
  funext b; unfold put; split <;> rfl
theorem sne {S : Sto} {a b : Addr} {o : MO} (h : S a = some o) (h' : S b = none) : a ≠ b := by
  intro e; subst e; rw [h] at h'; cases h'
theorem put_back {S : Sto} {a : Addr} {o : MO} (h : S a = some o) : put S a o = S := by
  funext b; unfold put; split
  · next e => rw [e, h]
  · rfl
theorem put_comm {S : Sto} {a b : Addr} {o u : MO} (h : a ≠ b) : put (put S a o) b u = put (put S b u) a o := by
  funext c; unfold put
  by_cases h1 : c = b
  · subst h1; rw [if_pos rfl, if_neg (Ne.symm h), if_pos rfl]
  · rw [if_neg h1, if_neg h1]

mutual
inductive RD (K : PySem.W.Frag) (H : Hp) (S : Sto) : V → D → Prop
  | non : RD K H S .non .non
  | bl (b : Bool) : RD K H S (.bl b) (.bl b)
  | int (i : Int) : RD K H S (.int i) (.int i)
  | str (x : Str) : RD K H S (.str x) (.str x)
  | ref (a : Addr) : RD K H S (.ref a) (.ref a)
  | tup {a : Addr} {vs : List V} {ds : List D} : Rd H a (.tup vs) → S a = none → RDs K H S vs ds → RD K H S (.ref a) (.tup ds)
  | lst {a : Addr} {vs : List V} {ds : List D} : H a = some (.lst vs) → S a = none → RDs K H S vs ds → RD K H S (.ref a) (.lst ds)
  | scr {a : Addr} {o : Obj} {vs : List V} {ds : List D} : H a = some (.frz o (.lst vs)) → S a = none → RDs K H S vs ds → RD K H S (.ref a) (.scr ds)
  | ktup {a : Addr} {o : Obj} {its : Array Value} {n : Nat} {vs : List V} {ds : List D} : K.lookup a = some o → o.cls = .type "tuple" → o.data = .seq its n → its.size ≤ sizeLine → Vals vs its.toList → RDs K H S vs ds → RD K H S (.ref a) (.tup ds)
  | klst {a : Addr} {o : Obj} {its : Array Value} {n : Nat} {vs : List V} {ds : List D} : K.lookup a = some o → o.cls = .type "list" → o.dict = none → o.data = .seq its n → its.size ≤ sizeLine → Vals vs its.toList → RDs K H S vs ds → RD K H S (.ref a) (.scr ds)
inductive RDs (K : PySem.W.Frag) (H : Hp) (S : Sto) : List V → List D → Prop
  | nil : RDs K H S [] []
  | cons {v : V} {d : D} {vs : List V} {ds : List D} : RD K H S v d → RDs K H S vs ds → RDs K H S (v :: vs) (d :: ds)
end

/-- all that does not change stays -/
def Ext (H : Hp) (S : Sto) (H' : Hp) (S' : Sto) : Prop := ∀ a o, H a = some o → S a = none → H' a = some o ∧ S' a = none
theorem Ext.refl {H : Hp} {S : Sto} : Ext H S H S := fun _ _ h n => ⟨h, n⟩
theorem Ext.trans {H H1 H2 : Hp} {S S1 S2 : Sto} (a : Ext H S H1 S1) (b : Ext H1 S1 H2 S2) : Ext H S H2 S2 := fun c o h n =>
  let ⟨h1, n1⟩ := a c o h n
  b c o h1 n1
section
variable {K : PySem.W.Frag} {H H' : Hp} {S S' : Sto}
theorem Ext.rd (e : Ext H S H' S') {a : Addr} {u : HO} (h : Rd H a u) (n : S a = none) : Rd H' a u ∧ S' a = none := by
  rcases h with h | ⟨o, h⟩
  · exact ⟨.inl (e _ _ h n).1, (e _ _ h n).2⟩
  · exact ⟨.inr ⟨o, (e _ _ h n).1⟩, (e _ _ h n).2⟩
mutual
theorem RD.ext (e : Ext H S H' S') : ∀ {v : V} {d : D}, RD K H S v d → RD K H' S' v d
  | _, _, .non => .non
  | _, _, .bl b => .bl b
  | _, _, .int i => .int i
  | _, _, .str x => .str x
  | _, _, .ref a => .ref a
  | _, _, .tup h n r => .tup (e.rd h n).1 (e.rd h n).2 (RDs.ext e r)
  | _, _, .lst h n r => .lst (e _ _ h n).1 (e _ _ h n).2 (RDs.ext e r)
  | _, _, .scr h n r => .scr (e _ _ h n).1 (e _ _ h n).2 (RDs.ext e r)
  | _, _, .ktup a b c d f r => .ktup a b c d f (RDs.ext e r)
  | _, _, .klst a b b' c d f r => .klst a b b' c d f (RDs.ext e r)
theorem RDs.ext (e : Ext H S H' S') : ∀ {vs : List V} {ds : List D}, RDs K H S vs ds → RDs K H' S' vs ds
  | _, _, .nil => .nil
  | _, _, .cons h r => .cons (RD.ext e h) (RDs.ext e r)
end
theorem RDs.length : ∀ {vs : List V} {ds : List D}, RDs K H S vs ds → vs.length = ds.length
  | _, _, .nil => rfl
  | _, _, .cons _ r => congrArg (· + 1) (RDs.length r)
theorem RDs.get : ∀ {vs : List V} {ds : List D} {i : Nat} {d : D}, RDs K H S vs ds → ds[i]? = some d → ∃ v, vs[i]? = some v ∧ RD K H S v d
  | _, _, _, _, .nil, e => by simp at e
  | _, _, 0, _, .cons r _, e => by simp at e; subst e; exact ⟨_, rfl, r⟩
  | _, _, i + 1, d, .cons _ r, e => by
    obtain ⟨v, h1, h2⟩ := RDs.get (i := i) (d := d) r (by simpa using e)
    exact ⟨v, by simpa using h1, h2⟩
theorem RDs.getV : ∀ {vs : List V} {ds : List D} {i : Nat} {v : V}, RDs K H S vs ds → vs[i]? = some v → ∃ d, ds[i]? = some d ∧ RD K H S v d
  | _, _, _, _, .nil, e => by simp at e
  | _, _, 0, _, .cons r _, e => by simp at e; subst e; exact ⟨_, rfl, r⟩
  | _, _, i + 1, d, .cons _ r, e => by
    obtain ⟨v, h1, h2⟩ := RDs.getV (i := i) (v := d) r (by simpa using e)
    exact ⟨v, by simpa using h1, h2⟩
theorem RDs.append : ∀ {vs ws : List V} {ds es : List D}, RDs K H S vs ds → RDs K H S ws es → RDs K H S (vs ++ ws) (ds ++ es)
  | _, _, _, _, .nil, s => s
  | _, _, _, _, .cons h r, s => .cons h (RDs.append r s)
theorem RDs.take : ∀ {vs : List V} {ds : List D} (n : Nat), RDs K H S vs ds → RDs K H S (vs.take n) (ds.take n)
  | _, _, 0, _ => by simp only [List.take_zero]; exact .nil
  | _, _, _ + 1, .nil => by simp only [List.take_nil]; exact .nil
  | _, _, n + 1, .cons h r => by simp only [List.take_succ_cons]; exact .cons h (RDs.take n r)
theorem RDs.drop : ∀ {vs : List V} {ds : List D} (n : Nat), RDs K H S vs ds → RDs K H S (vs.drop n) (ds.drop n)
  | _, _, 0, r => by simpa only [List.drop_zero] using r
  | _, _, _ + 1, .nil => by simp only [List.drop_nil]; exact .nil
  | _, _, n + 1, .cons _ r => by simp only [List.drop_succ_cons]; exact RDs.drop n r
theorem RDs.set {v : V} {d : D} (h : RD K H S v d) : ∀ {vs : List V} {ds : List D} (i : Nat), RDs K H S vs ds → RDs K H S (vs.set i v) (ds.set i d)
  | _, _, _, .nil => .nil
  | _, _, 0, .cons _ r => .cons h r
  | _, _, i + 1, .cons q r => .cons q (RDs.set h i r)
theorem RDs.reverse : ∀ {vs : List V} {ds : List D}, RDs K H S vs ds → RDs K H S vs.reverse ds.reverse
  | _, _, .nil => .nil
  | _, _, .cons h r => by simp only [List.reverse_cons]; exact RDs.append (RDs.reverse r) (.cons h .nil)
theorem RDs.eraseIdx : ∀ {vs : List V} {ds : List D} (i : Nat), RDs K H S vs ds → RDs K H S (vs.eraseIdx i) (ds.eraseIdx i)
  | _, _, _, .nil => by simp only [List.eraseIdx_nil]; exact .nil
  | _, _, 0, .cons _ r => by simp only [List.eraseIdx_zero, List.tail_cons]; exact r
  | _, _, i + 1, .cons h r => by simp only [List.eraseIdx_cons_succ]; exact .cons h (RDs.eraseIdx i r)
theorem RDs.insertIdx {v : V} {d : D} (h : RD K H S v d) : ∀ {vs : List V} {ds : List D} (i : Nat), RDs K H S vs ds → RDs K H S (vs.insertIdx i v) (ds.insertIdx i d)
  | _, _, 0, r => by simp only [List.insertIdx_zero]; exact .cons h r
  | _, _, i + 1, .nil => by simp only [List.insertIdx_succ_nil]; exact .nil
  | _, _, i + 1, .cons q r => by simp only [List.insertIdx_succ_cons]; exact .cons q (RDs.insertIdx h i r)
theorem RDs.dropLast : ∀ {vs : List V} {ds : List D}, RDs K H S vs ds → RDs K H S vs.dropLast ds.dropLast
  | _, _, .nil => .nil
  | _, _, .cons _ .nil => .nil
  | _, _, .cons h (.cons h2 r) => by simp only [List.dropLast_cons₂]; exact .cons h (RDs.dropLast (.cons h2 r))
theorem RDs.ints : ∀ {vs : List V} {ns : List Int}, RDs K H S vs (ns.map .int) → vs = ns.map V.int
  | _, [], .nil => rfl
  | _, _ :: _, .cons h r => by cases h; rw [RDs.ints r]; rfl
theorem RDs.of_ints : ∀ {ns : List Int}, RDs K H S (ns.map V.int) (ns.map .int)
  | [] => .nil
  | n :: _ => .cons (.int n) RDs.of_ints
theorem RDs.bls : ∀ {vs : List V} {ns : List Bool}, RDs K H S vs (ns.map .bl) → vs = ns.map V.bl
  | _, [], .nil => rfl
  | _, _ :: _, .cons h r => by cases h; rw [RDs.bls r]; rfl
theorem RDs.strs : ∀ {vs : List V} {ns : List Str}, RDs K H S vs (ns.map .str) → vs = ns.map V.str
  | _, [], .nil => rfl
  | _, _ :: _, .cons h r => by cases h; rw [RDs.strs r]; rfl
end

/-- pairs of a dict, attributes of an instance -/
inductive RKs {κ : Type} (K : PySem.W.Frag) (H : Hp) (S : Sto) : List (κ × V) → List (κ × D) → Prop
  | nil : RKs K H S [] []
  | cons {k : κ} {v : V} {d : D} {vs : List (κ × V)} {ds : List (κ × D)} : RD K H S v d → RKs K H S vs ds → RKs K H S ((k, v) :: vs) ((k, d) :: ds)
theorem RKs.ext {κ : Type} {K : PySem.W.Frag} {H H' : Hp} {S S' : Sto} (e : Ext H S H' S') : ∀ {vs : List (κ × V)} {ds : List (κ × D)}, RKs K H S vs ds → RKs K H' S' vs ds
  | _, _, .nil => .nil
  | _, _, .cons h r => .cons (h.ext e) (RKs.ext e r)
theorem RKs.length {κ : Type} {K : PySem.W.Frag} {H : Hp} {S : Sto} : ∀ {vs : List (κ × V)} {ds : List (κ × D)}, RKs K H S vs ds → vs.length = ds.length
  | _, _, .nil => rfl
  | _, _, .cons _ r => congrArg (· + 1) (RKs.length r)

/-! ### exceptions -/
/-- an own exception: its class, its fields (none: it has no dict) -/
structure MX where
  C : Str
  fs : Option (List (Str × D))
def RX (K : PySem.W.Frag) (H : Hp) (S : Sto) (x : MX) (cls : Value) (d : Option Addr) : Prop :=
  cls = .ref (He.ga K x.C) ∧ match x.fs with
    | none => d = none
    | some fs => ∃ dd vs, d = some dd ∧ H dd = some (.xd vs) ∧ S dd = none ∧ RKs K H S vs fs
theorem RX.ext {K : PySem.W.Frag} {H H' : Hp} {S S' : Sto} {x : MX} {cls : Value} {d : Option Addr} (e : Ext H S H' S') (r : RX K H S x cls d) : RX K H' S' x cls d := by
  obtain ⟨C, fs⟩ := x
  cases fs with
  | none => exact r
  | some fs =>
    obtain ⟨h1, dd, vs, h2, h3, h4, h5⟩ := r
    exact ⟨h1, dd, vs, h2, (e _ _ h3 h4).1, (e _ _ h3 h4).2, h5.ext e⟩

/-- an exception object, kept: its class, its dict -/
def ExS (cls : Value) (d : Option Addr) (a : Addr) : HO := .ext fun h => ∃ (oe : Obj) (vs : Array Value), h.get? a = some oe ∧ Zc cls d oe ∧ oe.data = .fields vs

/-! ### dicts whose keys are spots: pairs of pairs of whole numbers -/
abbrev K4 := (Int × Int) × (Int × Int)
def nkey (k : K4) : NestedKey := .tup [.tup [.num k.1.1, .num k.1.2], .tup [.num k.2.1, .num k.2.2]]
def hash4 (k : K4) : Int := reduceHash (Builtin.Tuple.tupleHashOf [reduceHash (Builtin.Tuple.tupleHashOf [hashInt k.1.1, hashInt k.1.2]), reduceHash (Builtin.Tuple.tupleHashOf [hashInt k.2.1, hashInt k.2.2])])
def entry4 (x : K4 × Addr × Value) : DictEntry := ⟨hash4 x.1, .ref x.2.1, x.2.2⟩
def DicS (xs : List (K4 × Addr × Value)) (a : Addr) : HO := .ext fun h => ∃ o es ep, h.get? a = some o ∧ o.ExactDict ∧ o.data = .dict es ep ∧ es.toList = xs.map entry4 ∧ (xs.map (·.1)).Nodup
def k4D (k : K4) : D := .tup [.tup [.int k.1.1, .int k.1.2], .tup [.int k.2.1, .int k.2.2]]
/-- what stands in such a dict -/
def R4 (K : PySem.W.Frag) (H : Hp) (S : Sto) : List (K4 × D) → List (K4 × Addr × Value) → Prop :=
  Paired fun p q => p.1 = q.1 ∧ RD K H S (.ref q.2.1) (k4D p.1) ∧ ∃ v, RelV v q.2.2 ∧ RD K H S v p.2
theorem R4.ext {K : PySem.W.Frag} {H H' : Hp} {S S' : Sto} (e : Ext H S H' S') {kvs : List (K4 × D)} {xs : List (K4 × Addr × Value)} (r : R4 K H S kvs xs) : R4 K H' S' kvs xs :=
  Paired.mapP r fun _ _ ⟨h1, h2, v, h3, h4⟩ => ⟨h1, h2.ext e, v, h3, h4.ext e⟩

def RO (K : PySem.W.Frag) (H : Hp) (S : Sto) (a : Addr) : MO → Prop
  | .lst ds => ∃ vs, H a = some (.lst vs) ∧ RDs K H S vs ds
  | .dK kvs => ∃ vs, H a = some (.dK vs) ∧ RKs K H S vs kvs
  | .ins C fs => ∃ dx vs, H a = some (.ins C dx vs) ∧ RKs K H S vs fs
  | .dT kvs => ∃ vs, H a = some (.dT vs) ∧ RKs K H S vs kvs
  | .dS kvs => ∃ xs, H a = some (DicS xs a) ∧ (a == sysModules) = false ∧ R4 K H S kvs xs
  | .exc C fs => ∃ d, H a = some (ExS (.ref (He.ga K C)) d a) ∧ RX K H S ⟨C, fs⟩ (.ref (He.ga K C)) d
/-- the store is held -/
def RSto (K : PySem.W.Frag) (H : Hp) (S : Sto) : Prop := ∀ a o, S a = some o → RO K H S a o
section
variable {K : PySem.W.Frag} {H H' : Hp} {S S' : Sto}
theorem RSto.there (s : RSto K H S) {a : Addr} {o : MO} (h : S a = some o) : ∃ u, H a = some u := by
  have q := s a o h
  cases o with
  | lst ds => obtain ⟨vs, e, _⟩ := q; exact ⟨_, e⟩
  | dK kvs => obtain ⟨vs, e, _⟩ := q; exact ⟨_, e⟩
  | ins C fs => obtain ⟨dx, vs, e, _⟩ := q; exact ⟨_, e⟩
  | exc C fs => obtain ⟨d, e, _⟩ := q; exact ⟨_, e⟩
  | dT kvs => obtain ⟨vs, e, _⟩ := q; exact ⟨_, e⟩
  | dS kvs => obtain ⟨xs, e, _⟩ := q; exact ⟨_, e⟩
theorem RSto.fresh (s : RSto K H S) {a : Addr} (h : H a = none) : S a = none := by
  cases q : S a with
  | none => rfl
  | some o =>
    obtain ⟨u, e⟩ := s.there q
    rw [h] at e; cases e
theorem RO.ext (e : Ext H S H' S') {a : Addr} {o : MO} (h : RO K H S a o) (k : H' a = H a) : RO K H' S' a o := by
  cases o with
  | lst ds => obtain ⟨vs, e1, r⟩ := h; exact ⟨vs, k.trans e1, r.ext e⟩
  | dK kvs => obtain ⟨vs, e1, r⟩ := h; exact ⟨vs, k.trans e1, r.ext e⟩
  | ins C fs => obtain ⟨dx, vs, e1, r⟩ := h; exact ⟨dx, vs, k.trans e1, r.ext e⟩
  | exc C fs => obtain ⟨d, e1, r⟩ := h; exact ⟨d, k.trans e1, r.ext e⟩
  | dT kvs => obtain ⟨vs, e1, r⟩ := h; exact ⟨vs, k.trans e1, r.ext e⟩
  | dS kvs => obtain ⟨xs, e1, e2, r⟩ := h; exact ⟨xs, k.trans e1, e2, r.ext e⟩
/-- a new object, not tracked in the store -/
theorem Ext.new (s : RSto K H S) {p : Addr} {u : HO} (h : H p = none) : Ext H S (upd H p u) S := fun a o e n => ⟨by rw [upd_ne (ne_of_none e h)]; exact e, n⟩
theorem RSto.new (s : RSto K H S) {p : Addr} {u : HO} (h : H p = none) : RSto K (upd H p u) S := fun a o e => by
  have ne : a ≠ p := fun z => by rw [z, s.fresh h] at e; cases e
  exact (s a o e).ext (Ext.new s h) (upd_ne ne)
/-- a new object, tracked -/
theorem Ext.newS (s : RSto K H S) {p : Addr} {u : HO} {o : MO} (h : H p = none) : Ext H S (upd H p u) (put S p o) := fun a o e n => by
  have ne := ne_of_none e h
  exact ⟨by rw [upd_ne ne]; exact e, by rw [put_ne ne]; exact n⟩
theorem RSto.newS (s : RSto K H S) {p : Addr} {u : HO} {o : MO} (h : H p = none) (r : RO K (upd H p u) (put S p o) p o) : RSto K (upd H p u) (put S p o) := fun a o' e => by
  by_cases ne : a = p
  · subst ne; rw [put_same] at e; cases e; exact r
  · rw [put_ne ne] at e
    exact (s a o' e).ext (Ext.newS s h) (upd_ne ne)
/-- an object of the store is changed -/
theorem Ext.chg {p : Addr} {u : HO} {o o' : MO} (h : S p = some o') : Ext H S (upd H p u) (put S p o) := fun a o e n => by
  have ne : a ≠ p := fun z => by rw [z, h] at n; cases n
  exact ⟨by rw [upd_ne ne]; exact e, by rw [put_ne ne]; exact n⟩
theorem RSto.chg (s : RSto K H S) {p : Addr} {u : HO} {o o' : MO} (h : S p = some o') (r : RO K (upd H p u) (put S p o) p o) : RSto K (upd H p u) (put S p o) := fun a o' e => by
  by_cases ne : a = p
  · subst ne; rw [put_same] at e; cases e; exact r
  · rw [put_ne ne] at e
    exact (s a o' e).ext (Ext.chg h) (upd_ne ne)
/-- the items of a list that may be read: of the store, or one that stays -/
def lstOf (S : Sto) : D → Option (List D)
  | .lst ds => some ds
  | .scr ds => some ds
  | .ref p => match S p with
    | some (.lst ds) => some ds
    | _ => none
  | _ => none
/-- the same of a list that the program made -/
def ownOf (S : Sto) : D → Option (List D)
  | .lst ds => some ds
  | .ref p => match S p with
    | some (.lst ds) => some ds
    | _ => none
  | _ => none
theorem lst_store {S : Sto} {p : Addr} {ds : List D} (h : (match S p with
    | some (.lst ds) => some ds
    | _ => none) = some ds) : S p = some (.lst ds) := by
  cases e : S p with
  | none => rw [e] at h; cases h
  | some o =>
    rw [e] at h
    cases o with
    | lst xs => cases h; rfl
    | _ => cases h
theorem own_sq (s : RSto K H S) {v : V} {d : D} {ds : List D} (r : RD K H S v d) (h : ownOf S d = some ds) : ∃ a vs, v = .ref a ∧ H a = some (.lst vs) ∧ RDs K H S vs ds := by
  cases d with
  | lst xs => cases h; cases r with | lst h n r => exact ⟨_, _, rfl, h, r⟩
  | ref p =>
    cases r
    obtain ⟨vs, e1, r⟩ := s p _ (lst_store h)
    exact ⟨p, vs, rfl, e1, r⟩
  | _ => cases h
theorem lst_sq (s : RSto K H S) {v : V} {d : D} {ds : List D} (r : RD K H S v d) (h : lstOf S d = some ds) : ∃ a vs, v = .ref a ∧ SqL K H a vs ∧ RDs K H S vs ds := by
  cases d with
  | lst xs => cases h; cases r with | lst h n r => exact ⟨_, _, rfl, .inl (.inl h), r⟩
  | scr xs =>
    cases h
    cases r with
    | scr h n r => exact ⟨_, _, rfl, .inl (.inr ⟨_, h⟩), r⟩
    | klst h1 h2 h3 h4 h5 h6 r => exact ⟨_, _, rfl, .inr ⟨_, _, _, h1, h2, h3, h4, h5, h6⟩, r⟩
  | ref p =>
    cases r
    obtain ⟨vs, e1, r⟩ := s p _ (lst_store h)
    exact ⟨p, vs, rfl, .inl (.inl e1), r⟩
  | _ => cases h
theorem RD.tupSq {v : V} {ds : List D} (r : RD K H S v (.tup ds)) : ∃ a vs, v = .ref a ∧ SqT K H a vs ∧ RDs K H S vs ds := by
  cases r with
  | tup h n r => exact ⟨_, _, rfl, .inl h, r⟩
  | ktup h1 h2 h3 h4 h5 r => exact ⟨_, _, rfl, .inr ⟨_, _, _, h1, h2, h3, h4, h5⟩, r⟩
end

/-! ### slots -/
abbrev MSt := List (Option D)
inductive RSt (K : PySem.W.Frag) (H : Hp) (S : Sto) : St → MSt → Prop
  | nil : RSt K H S [] []
  | vac {o : Option V} {σ : St} {m : MSt} : RSt K H S σ m → RSt K H S (o :: σ) (Option.none :: m)
  | val {v : V} {d : D} {σ : St} {m : MSt} : RD K H S v d → RSt K H S σ m → RSt K H S (Option.some v :: σ) (Option.some d :: m)
section
variable {K : PySem.W.Frag} {H H' : Hp} {S S' : Sto}
theorem RSt.ext (e : Ext H S H' S') : ∀ {σ : St} {m : MSt}, RSt K H S σ m → RSt K H' S' σ m
  | _, _, .nil => .nil
  | _, _, .vac r => .vac (RSt.ext e r)
  | _, _, .val h r => .val (h.ext e) (RSt.ext e r)
theorem RSt.get : ∀ {σ : St} {m : MSt} {i : Nat} {d : D}, RSt K H S σ m → m[i]? = some (some d) → ∃ v, σ[i]? = some (some v) ∧ RD K H S v d
  | _, _, _, _, .nil, e => by simp at e
  | _, _, 0, _, .vac _, e => by simp at e
  | _, _, 0, _, .val h _, e => by simp at e; subst e; exact ⟨_, rfl, h⟩
  | _, _, i + 1, d, .vac r, e => by
    obtain ⟨v, h1, h2⟩ := RSt.get (i := i) (d := d) r (by simpa using e)
    exact ⟨v, by simpa using h1, h2⟩
  | _, _, i + 1, d, .val _ r, e => by
    obtain ⟨v, h1, h2⟩ := RSt.get (i := i) (d := d) r (by simpa using e)
    exact ⟨v, by simpa using h1, h2⟩
theorem RSt.set {v : V} {d : D} (h : RD K H S v d) : ∀ {σ : St} {m : MSt} (i : Nat), RSt K H S σ m → RSt K H S (σ.set i (some v)) (m.set i (some d))
  | _, _, _, .nil => .nil
  | _, _, 0, .vac r => .val h r
  | _, _, 0, .val _ r => .val h r
  | _, _, i + 1, .vac r => .vac (RSt.set h i r)
  | _, _, i + 1, .val q r => .val q (RSt.set h i r)
theorem RSt.unset : ∀ {σ : St} {m : MSt} (i : Nat) (o : Option V), RSt K H S σ m → RSt K H S (σ.set i o) (m.set i none)
  | _, _, _, _, .nil => .nil
  | _, _, 0, _, .vac r => .vac r
  | _, _, 0, _, .val _ r => .vac r
  | _, _, i + 1, o, .vac r => .vac (RSt.unset i o r)
  | _, _, i + 1, o, .val q r => .val q (RSt.unset i o r)
theorem RSt.nones : ∀ n : Nat, RSt K H S (List.replicate n Option.none) (List.replicate n Option.none)
  | 0 => .nil
  | n + 1 => .vac (RSt.nones n)
theorem RSt.start {vs : List V} {ds : List D} (n : Nat) (r : RDs K H S vs ds) : RSt K H S (vs.map Option.some ++ List.replicate n Option.none) (ds.map Option.some ++ List.replicate n Option.none) := by
  induction vs generalizing ds with
  | nil => cases r; exact RSt.nones n
  | cons v vs ih =>
    cases r with
    | cons h r => exact .val h (ih r)
end

/-! ### readings over the store, and what they are below -/
abbrev MQ := D → Sto → Prop
abbrev MXQ := MX → Sto → Prop
abbrev ME := MSt → Sto → MQ → MXQ → Prop
abbrev MT := MSt → Sto → (Bool → Sto → Prop) → MXQ → Prop
abbrev MA := MSt → Sto → (List D → Sto → Prop) → MXQ → Prop
structure MEnds where
  nx : MSt → Sto → Prop
  rt : MQ
  bk : MSt → Sto → Prop := fun _ _ => False
  ct : MSt → Sto → Prop := fun _ _ => False
  ex : MX → MSt → Sto → Prop := fun _ _ _ => False
abbrev MS := MEnds → MSt → Sto → Prop
/-- a def's promise -/
abbrev MSp := List D → Sto → MQ → MXQ → Prop

section
variable (K : PySem.W.Frag) (H : Hp) (S : Sto)
def Ref (Qm : MQ) (Q : V → Hp → Prop) : Prop := ∀ d S' v H', Qm d S' → Ext H S H' S' → RSto K H' S' → RD K H' S' v d → Q v H'
def RefA (Qm : List D → Sto → Prop) (Q : List V → Hp → Prop) : Prop := ∀ ds S' vs H', Qm ds S' → Ext H S H' S' → RSto K H' S' → RDs K H' S' vs ds → Q vs H'
def RefT (Qm : Bool → Sto → Prop) (Q : Bool → Hp → Prop) : Prop := ∀ b S' H', Qm b S' → Ext H S H' S' → RSto K H' S' → Q b H'
def RefN (Qm : MSt → Sto → Prop) (Q : St → Hp → Prop) : Prop := ∀ m S' σ H', Qm m S' → Ext H S H' S' → RSto K H' S' → RSt K H' S' σ m → Q σ H'
def RefX (Em : MXQ) (E : XK) : Prop := ∀ x S' cls d H', Em x S' → Ext H S H' S' → RSto K H' S' → RX K H' S' x cls d → E cls d H'
def RefW (Em : MX → MSt → Sto → Prop) (W : WX) : Prop := ∀ x m S' cls d σ H', Em x m S' → Ext H S H' S' → RSto K H' S' → RSt K H' S' σ m → RX K H' S' x cls d → W cls d σ H'
structure RefE (Dm : MEnds) (D : Ends) (W : WX) : Prop where
  nx : RefN K H S Dm.nx D.nx
  rt : Ref K H S Dm.rt D.rt
  bk : RefN K H S Dm.bk D.bk
  ct : RefN K H S Dm.ct D.ct
  ex : RefW K H S Dm.ex W
end
section
variable {K : PySem.W.Frag} {H H' : Hp} {S S' : Sto}
theorem Ref.ext {Qm : MQ} {Q : V → Hp → Prop} (r : Ref K H S Qm Q) (e : Ext H S H' S') : Ref K H' S' Qm Q := fun d S1 v H1 q e1 s h => r d S1 v H1 q (e.trans e1) s h
theorem RefA.ext {Qm : List D → Sto → Prop} {Q : List V → Hp → Prop} (r : RefA K H S Qm Q) (e : Ext H S H' S') : RefA K H' S' Qm Q := fun d S1 v H1 q e1 s h => r d S1 v H1 q (e.trans e1) s h
theorem RefT.ext {Qm : Bool → Sto → Prop} {Q : Bool → Hp → Prop} (r : RefT K H S Qm Q) (e : Ext H S H' S') : RefT K H' S' Qm Q := fun d S1 H1 q e1 s => r d S1 H1 q (e.trans e1) s
theorem RefN.ext {Qm : MSt → Sto → Prop} {Q : St → Hp → Prop} (r : RefN K H S Qm Q) (e : Ext H S H' S') : RefN K H' S' Qm Q := fun d S1 v H1 q e1 s h => r d S1 v H1 q (e.trans e1) s h
theorem RefX.ext {Em : MXQ} {E : XK} (r : RefX K H S Em E) (e : Ext H S H' S') : RefX K H' S' Em E := fun x S1 c d H1 q e1 s h => r x S1 c d H1 q (e.trans e1) s h
theorem RefW.ext {Em : MX → MSt → Sto → Prop} {W : WX} (r : RefW K H S Em W) (e : Ext H S H' S') : RefW K H' S' Em W := fun x m S1 c d σ H1 q e1 s h1 h => r x m S1 c d σ H1 q (e.trans e1) s h1 h
theorem RefE.ext {Dm : MEnds} {D : Ends} {W : WX} (r : RefE K H S Dm D W) (e : Ext H S H' S') : RefE K H' S' Dm D W := ⟨r.nx.ext e, r.rt.ext e, r.bk.ext e, r.ct.ext e, r.ex.ext e⟩
end

section
variable (K : PySem.W.Frag) (W : WX)
def upE (m : ME) : TE := fun σ H Q => ∃ mσ S Qm Em, RSt K H S σ mσ ∧ RSto K H S ∧ m mσ S Qm Em ∧ Ref K H S Qm Q ∧ RefX K H S Em (fun c d H' => W c d σ H')
def upT (m : MT) : TT := fun σ H Q => ∃ mσ S Qm Em, RSt K H S σ mσ ∧ RSto K H S ∧ m mσ S Qm Em ∧ RefT K H S Qm Q ∧ RefX K H S Em (fun c d H' => W c d σ H')
def upA (m : MA) : TA := fun σ H Q => ∃ mσ S Qm Em, RSt K H S σ mσ ∧ RSto K H S ∧ m mσ S Qm Em ∧ RefA K H S Qm Q ∧ RefX K H S Em (fun c d H' => W c d σ H')
def upS (m : MS) : TS := fun D σ H => ∃ mσ S Dm, RSt K H S σ mσ ∧ RSto K H S ∧ m Dm mσ S ∧ RefE K H S Dm D W
end
def upSp (K : PySem.W.Frag) (sp : MSp) : Sp := fun vs H Q E => ∃ ds S Qm Em, RDs K H S vs ds ∧ RSto K H S ∧ sp ds S Qm Em ∧ Ref K H S Qm Q ∧ RefX K H S Em E

end ML
namespace L2
open PySem PySem.Spec
section
variable {X : Cx}
theorem PE.to {e : Expr} {t t' : TE} (h : PE X e t) (i : ∀ σ H Q, t' σ H Q → t σ H Q) : PE X e t' := ⟨fun pins s σ H Q I q => h.run pins s σ H Q I (i σ H Q q)⟩
theorem PT.to {e : Expr} {t t' : TT} (h : PT X e t) (i : ∀ σ H Q, t' σ H Q → t σ H Q) : PT X e t' := ⟨fun pins s σ H Q I q => h.run pins s σ H Q I (i σ H Q q)⟩
theorem PW.to {e : Expr} {t t' : TT} (h : PW X e t) (i : ∀ σ H Q, t' σ H Q → t σ H Q) : PW X e t' := ⟨fun w pins s σ H Q I q => h.run w pins s σ H Q I (i σ H Q q)⟩
theorem PA.to {e : List Expr} {t t' : TA} (h : PA X e t) (i : ∀ σ H Q, t' σ H Q → t σ H Q) : PA X e t' := ⟨fun pos pins s σ H Q I q => h.run pos pins s σ H Q I (i σ H Q q)⟩
theorem PS.to {st : Stmt} {t t' : TS} (h : PS X st t) (i : ∀ D σ H, t' D σ H → t D σ H) : PS X st t' := ⟨fun pins s σ H D I q => h.run pins s σ H D I (i D σ H q)⟩
theorem PSs.to {st : List Stmt} {t t' : TS} (h : PSs X st t) (i : ∀ D σ H, t' D σ H → t D σ H) : PSs X st t' := ⟨fun pins s σ H D I q => h.run pins s σ H D I (i D σ H q)⟩
end
end L2

set_option maxRecDepth 100000
namespace ML
open PySem PySem.Spec L2
open PyProof.Rows hiding St
section
variable {X : Cx} {W : WX} {a b c e : Expr} {ma mb mc m : ME} {pos : Pos}

/-! ### names, constants -/
def mVar (i : Nat) : ME := fun σ S Q _ => match σ[i]? with
  | some (some d) => Q d S
  | _ => False
theorem mVar_at {i : Nat} {σ : MSt} {S : Sto} {Q : MQ} {E : MXQ} (h : mVar i σ S Q E) : ∃ d, σ[i]? = some (some d) ∧ Q d S := by
  unfold mVar at h
  split at h
  · next d e => exact ⟨d, e, h⟩
  · exact h.elim
theorem ev (i : Nat) {x : Str} {pos : Pos} (hN : X.N[i]? = some x := by rfl) (hv : Vis X.env.scope x := by first | exact Or.inl rfl | exact Or.inr (Or.inl rfl) | exact Or.inr (Or.inr rfl)) (hd : (x == ("__debug__" : Str)) = false := by decide)
    (hcd : (x == ("__classdict__" : Str)) = false := by decide) : PE X (.Name x pos) (upE X.K W (mVar i)) := (pv i hN hv hd hcd).to fun σ H Q ⟨m, S, Qm, Em, h1, h2, h3, h4, _⟩ => by
  obtain ⟨d, e, q⟩ := mVar_at h3
  obtain ⟨v, e1, r⟩ := h1.get e
  exact ⟨v, e1, h4 d S v H q Ext.refl h2 r⟩
def mC (d : D) : ME := fun _ S Q _ => Q d S
theorem mC_to {v : V} {d : D} (r : ∀ K H S, RD K H S v d) : ∀ σ H Q, upE X.K W (mC d) σ H Q → tC v σ H Q := fun σ H Q ⟨m, S, Qm, Em, h1, h2, h3, h4, _⟩ => h4 d S v H h3 Ext.refl h2 (r _ _ _)
theorem eint {i j pos} : PE X (.Constant (.int i) j pos) (upE X.K W (mC (.int i))) := pe_int.to (mC_to fun _ _ _ => .int i)
theorem ebl {i j pos} : PE X (.Constant (.bool i) j pos) (upE X.K W (mC (.bl i))) := pe_bl.to (mC_to fun _ _ _ => .bl i)
theorem enon {j pos} : PE X (.Constant .none j pos) (upE X.K W (mC .non)) := pe_non.to (mC_to fun _ _ _ => .non)
theorem estr {i j pos} : PE X (.Constant (.str i) j pos) (upE X.K W (mC (.str i))) := pe_str.to (mC_to fun _ _ _ => .str i)
/-- a module's own int or text -/
theorem eglob {x : Str} {v : V} {d : D} {u : Value} {pos : Pos} (r : ∀ K H S, RD K H S v d) (rv : RelV v u) (hm : X.mg x = some u) (hg : Gl X x := by rfl) (hd : (x == ("__debug__" : Str)) = false := by decide) : PE X (.Name x pos) (upE X.K W (mC d)) :=
  (pe_glob hg hm rv hd).to (mC_to r)
/-- a module's own tuple -/
theorem eglobT {x : Str} {f : Addr} {d : D} {pos : Pos} (r : ∀ H S, RD X.K H S (.ref f) d) (hm : X.mg x = some (.ref f)) (hg : Gl X x := by rfl) (hd : (x == ("__debug__" : Str)) = false := by decide) : PE X (.Name x pos) (upE X.K W (mC d)) :=
  (pe_glob (v := .ref f) hg hm rfl hd).to fun σ H Q ⟨m, S, Qm, Em, h1, h2, h3, h4, _⟩ => h4 d S (.ref f) H h3 Ext.refl h2 (r _ _)

/-! ### two values -/
abbrev R2m := D → D → Sto → MQ → Prop
def OpL (K : PySem.W.Frag) (r : R2) (rm : R2m) : Prop := ∀ (H : Hp) (S : Sto) (x y : V) (d e : D) (Qm : MQ) (Q : VK), RSto K H S → RD K H S x d → RD K H S y e → rm d e S Qm → Ref K H S Qm Q → r x y H Q
def mOp (rm : R2m) (ma mb : ME) : ME := fun σ S Q E => ma σ S (fun d S1 => mb σ S1 (fun e S2 => rm d e S2 Q) E) E
theorem op_to {r : R2} {rm : R2m} (hl : OpL X.K r rm) (σ : L2.St) (H : Hp) (Q : VK) (h : upE X.K W (mOp rm ma mb) σ H Q) : tOp r (upE X.K W ma) (upE X.K W mb) σ H Q := by
  obtain ⟨m, S, Qm, Em, h1, h2, h3, h4, h5⟩ := h
  refine ⟨m, S, _, Em, h1, h2, h3, fun d S1 x H1 q1 e1 s1 r1 => ⟨m, S1, _, Em, h1.ext e1, s1, q1, fun e S2 y H2 q2 e2 s2 r2 => ?_, h5.ext e1⟩, h5⟩
  exact hl H2 S2 x y d e Qm Q s2 (r1.ext e2) r2 q2 (h4.ext (e1.trans e2))
theorem eop {op : Operator} {r : R2} {rm : R2m} (ho : OpR X (binaryOp op) r) (hl : OpL X.K r rm) (ha : PE X a (upE X.K W ma)) (hb : PE X b (upE X.K W mb)) : PE X (.BinOp a op b pos) (upE X.K W (mOp rm ma mb)) := (pe_op ho ha hb).to (op_to hl)

/-- two ints to a value -/
def rInt (C : Int → Int → Prop) (g : Int → Int → D) : R2m := fun d e S Q => match d, e with
  | .int i, .int j => C i j ∧ Q (g i j) S
  | _, _ => False
def rInt0 (g : Int → Int → D) : R2m := fun d e S Q => match d, e with
  | .int i, .int j => Q (g i j) S
  | _, _ => False
theorem rInt_at {C : Int → Int → Prop} {g : Int → Int → D} {d e : D} {S : Sto} {Q : MQ} (h : rInt C g d e S Q) : ∃ i j, d = .int i ∧ e = .int j ∧ C i j ∧ Q (g i j) S := by
  unfold rInt at h
  split at h
  · exact ⟨_, _, rfl, rfl, h⟩
  · exact h.elim
theorem rInt0_at {g : Int → Int → D} {d e : D} {S : Sto} {Q : MQ} (h : rInt0 g d e S Q) : ∃ i j, d = .int i ∧ e = .int j ∧ Q (g i j) S := by
  unfold rInt0 at h
  split at h
  · exact ⟨_, _, rfl, rfl, h⟩
  · exact h.elim
theorem opl_int {K : PySem.W.Frag} {C : Int → Int → Prop} {g : Int → Int → V} {gm : Int → Int → D} (r : ∀ i j H S, RD K H S (g i j) (gm i j)) : OpL K (rI C g) (rInt C gm) := fun H S x y d e Qm Q s rx ry h k => by
  obtain ⟨i, j, rfl, rfl, hc, q⟩ := rInt_at h
  cases rx; cases ry
  exact ⟨i, j, rfl, rfl, hc, k _ S _ H q Ext.refl s (r ..)⟩
theorem opl_int0 {K : PySem.W.Frag} {g : Int → Int → V} {gm : Int → Int → D} (r : ∀ i j H S, RD K H S (g i j) (gm i j)) : OpL K (rI0 g) (rInt0 gm) := fun H S x y d e Qm Q s rx ry h k => by
  obtain ⟨i, j, rfl, rfl, q⟩ := rInt0_at h
  cases rx; cases ry
  exact ⟨i, j, rfl, rfl, k _ S _ H q Ext.refl s (r ..)⟩
abbrev rSub : R2m := rInt0 fun i j => .int (i - j)
abbrev rMul : R2m := rInt IntMulOk fun i j => .int (i * j)
def DivOk (i j : Int) : Prop := j ≠ 0 ∧ Builtin.divisionGoesByPylong i j = false
abbrev rDiv : R2m := rInt DivOk fun i j => .int (i.fdiv j)
abbrev rMod : R2m := rInt (fun _ j => j ≠ 0) fun i j => .int (i.fmod j)
abbrev rPow : R2m := rInt CPow fun i j => .int (i ^ j.toNat)
theorem esub (ha : PE X a (upE X.K W ma)) (hb : PE X b (upE X.K W mb)) : PE X (.BinOp a .Sub b pos) (upE X.K W (mOp rSub ma mb)) := eop op_sub (opl_int0 fun _ _ _ _ => .int _) ha hb
theorem emul (ha : PE X a (upE X.K W ma)) (hb : PE X b (upE X.K W mb)) : PE X (.BinOp a .Mult b pos) (upE X.K W (mOp rMul ma mb)) :=
  eop (opI (C := IntMulOk) fun _ _ _ _ _ _ _ hc q => mul_int q hc) (opl_int fun _ _ _ _ => .int _) ha hb
theorem ediv (ha : PE X a (upE X.K W ma)) (hb : PE X b (upE X.K W mb)) : PE X (.BinOp a .FloorDiv b pos) (upE X.K W (mOp rDiv ma mb)) :=
  eop (opI (C := DivOk) fun _ _ _ _ _ _ _ hc q => floordiv_int hc.1 q (.inl hc.2)) (opl_int fun _ _ _ _ => .int _) ha hb
theorem emod (ha : PE X a (upE X.K W ma)) (hb : PE X b (upE X.K W mb)) : PE X (.BinOp a .Mod b pos) (upE X.K W (mOp rMod ma mb)) := eop op_modN (opl_int fun _ _ _ _ => .int _) ha hb
theorem epow (ha : PE X a (upE X.K W ma)) (hb : PE X b (upE X.K W mb)) : PE X (.BinOp a .Pow b pos) (upE X.K W (mOp rPow ma mb)) := eop op_pow (opl_int fun _ _ _ _ => .int _) ha hb
/-- +: ints, texts, lists that the program made (a new one that stays), tuples -/
def rAdd : R2m := fun d e S Q => match d, e with
  | .int i, .int j => Q (.int (i + j)) S
  | .str x, .str y => x.length + y.length ≤ sizeLine ∧ Q (.str (x ++ y)) S
  | .tup xs, .tup ys => (xs ≠ [] ∧ xs.length + ys.length ≤ sizeLine) ∧ Q (.tup (xs ++ ys)) S
  | d, e => match ownOf S d, ownOf S e with
    | some xs, some ys => xs.length + ys.length ≤ sizeLine ∧ Q (.lst (xs ++ ys)) S
    | _, _ => False
theorem op_addAll : OpR X (binaryOp .Add) (fun x y H Q => rI0 (fun i j => .int (i + j)) x y H Q ∨ ((∃ i j, x = .str i ∧ y = .str j ∧ i.length + j.length ≤ sizeLine ∧ Q (.str (i ++ j)) H) ∨ (rCatT X.K x y H Q ∨ rCat x y H Q))) := op_add.or (op_add_str.or (op_catT.or op_cat))
theorem rAdd_at {d e : D} {S : Sto} {Q : MQ} (h : rAdd d e S Q) : (∃ i j, d = .int i ∧ e = .int j ∧ Q (.int (i + j)) S) ∨ (∃ x y, d = .str x ∧ e = .str y ∧ x.length + y.length ≤ sizeLine ∧ Q (.str (x ++ y)) S) ∨
    (∃ xs ys, d = .tup xs ∧ e = .tup ys ∧ (xs ≠ [] ∧ xs.length + ys.length ≤ sizeLine) ∧ Q (.tup (xs ++ ys)) S) ∨ ∃ xs ys, ownOf S d = some xs ∧ ownOf S e = some ys ∧ xs.length + ys.length ≤ sizeLine ∧ Q (.lst (xs ++ ys)) S := by
  unfold rAdd at h
  split at h
  · exact .inl ⟨_, _, rfl, rfl, h⟩
  · exact .inr (.inl ⟨_, _, rfl, rfl, h⟩)
  · exact .inr (.inr (.inl ⟨_, _, rfl, rfl, h⟩))
  · split at h
    · next e1 e2 => exact .inr (.inr (.inr ⟨_, _, e1, e2, h⟩))
    · exact h.elim
theorem eadd (ha : PE X a (upE X.K W ma)) (hb : PE X b (upE X.K W mb)) : PE X (.BinOp a .Add b pos) (upE X.K W (mOp rAdd ma mb)) := by
  refine eop op_addAll (fun H S x y d e Qm Q s rx ry h k => ?_) ha hb
  rcases rAdd_at h with ⟨i, j, rfl, rfl, q⟩ | ⟨i, j, rfl, rfl, hz, q⟩ | ⟨xs, ys, rfl, rfl, ⟨hne, hz⟩, q⟩ | ⟨xs, ys, e1, e2, hz, q⟩
  · cases rx; cases ry
    exact .inl ⟨i, j, rfl, rfl, k _ S _ H q Ext.refl s (.int _)⟩
  · cases rx; cases ry
    exact .inr (.inl ⟨i, j, rfl, rfl, hz, k _ S _ H q Ext.refl s (.str _)⟩)
  · obtain ⟨p, vs, rfl, h1, r1⟩ := rx.tupSq
    obtain ⟨p2, ws, rfl, h2, r2⟩ := ry.tupSq
    have l1 := r1.length
    have l2 := r2.length
    refine .inr (.inr (.inl ⟨p, p2, vs, ws, rfl, rfl, h1, h2, fun z => hne (List.length_eq_zero_iff.mp (by rw [← l1, z]; rfl)), by omega, ?_⟩))
    refine ⟨fun z => ?_, fun _ q' hq => k _ S _ _ q (Ext.new s hq) (s.new hq) (.tup (.inl upd_same) (s.fresh hq) ((r1.append r2).ext (Ext.new s hq)))⟩
    subst z
    cases r2
    rw [List.append_nil] at q
    exact k _ S _ H q Ext.refl s rx
  · obtain ⟨p, vs, rfl, h1, r1⟩ := own_sq s rx e1
    obtain ⟨p2, ws, rfl, h2, r2⟩ := own_sq s ry e2
    have l1 := r1.length
    have l2 := r2.length
    refine .inr (.inr (.inr ⟨p, p2, vs, ws, rfl, rfl, h1, h2, by omega, fun q' hq => ?_⟩))
    exact k _ S _ _ q (Ext.new s hq) (s.new hq) (.lst upd_same (s.fresh hq) ((r1.append r2).ext (Ext.new s hq)))

/-! ### one value -/
def UnL (K : PySem.W.Frag) (r : V → Hp → VK → Prop) (rm : D → Sto → MQ → Prop) : Prop := ∀ (H : Hp) (S : Sto) (x : V) (d : D) (Qm : MQ) (Q : VK), RSto K H S → RD K H S x d → rm d S Qm → Ref K H S Qm Q → r x H Q
def mUn (rm : D → Sto → MQ → Prop) (ma : ME) : ME := fun σ S Q E => ma σ S (fun d S1 => rm d S1 Q) E
theorem eun {op : UnaryOp} {r : V → Hp → VK → Prop} {rm : D → Sto → MQ → Prop} (ho : UnR X (unaryOp op) r) (hl : UnL X.K r rm) (ha : PE X a (upE X.K W ma)) : PE X (.UnaryOp op a pos) (upE X.K W (mUn rm ma)) :=
  (pe_un ho ha).to fun σ H Q ⟨m, S, Qm, Em, h1, h2, h3, h4, h5⟩ => ⟨m, S, _, Em, h1, h2, h3, fun d S1 x H1 q1 e1 s1 r1 => hl H1 S1 x d Qm Q s1 r1 q1 (h4.ext e1), h5⟩
def rNeg : D → Sto → MQ → Prop := fun d S Q => match d with
  | .int i => Q (.int (-i)) S
  | _ => False
theorem eneg (ha : PE X a (upE X.K W ma)) : PE X (.UnaryOp .USub a pos) (upE X.K W (mUn rNeg ma)) := eun un_neg (fun H S x d Qm Q s r h k => by
  unfold rNeg at h
  split at h
  · cases r; exact ⟨_, rfl, k _ S _ H h Ext.refl s (.int _)⟩
  · exact h.elim) ha

/-! ### comparisons -/
abbrev rLt : R2m := rInt0 fun i j => .bl (decide (i < j))
abbrev rLe : R2m := rInt0 fun i j => .bl (decide (i ≤ j))
abbrev rGt : R2m := rInt0 fun i j => .bl (decide (j < i))
abbrev rGe : R2m := rInt0 fun i j => .bl (decide (j ≤ i))
theorem ol_lt : OpL X.K (rI0 fun i j => .bl (decide (i < j))) rLt := opl_int0 fun _ _ _ _ => .bl _
theorem ol_le : OpL X.K (rI0 fun i j => .bl (decide (i ≤ j))) rLe := opl_int0 fun _ _ _ _ => .bl _
theorem ol_gt : OpL X.K (rI0 fun i j => .bl (decide (j < i))) rGt := opl_int0 fun _ _ _ _ => .bl _
theorem ol_ge : OpL X.K (rI0 fun i j => .bl (decide (j ≤ i))) rGe := opl_int0 fun _ _ _ _ => .bl _
theorem ecmp {op : CmpOp} {r : R2} {rm : R2m} (ho : OpR X (compareOp op) r) (hl : OpL X.K r rm) (ha : PE X a (upE X.K W ma)) (hb : PE X b (upE X.K W mb)) (hm : behindInMarks op b = false := by first | exact nomark _ | with_unfolding_all rfl) :
    PE X (.Compare a [op] [b] pos) (upE X.K W (mOp rm ma mb)) := (pe_cmpR ho ha hb hm).to (op_to hl)
/-- a value that is a truth, as a test -/
def mTst (m : ME) : MT := fun σ S Q E => m σ S (fun d S1 => match d with
  | .bl k => Q k S1
  | _ => False) E
theorem tst_to {t : TE} (i : ∀ σ H Q, upE X.K W m σ H Q → t σ H Q) (σ : L2.St) (H : Hp) (Q : Bool → Hp → Prop) (h : upT X.K W (mTst m) σ H Q) : tTest t σ H Q := by
  obtain ⟨mσ, S, Qm, Em, h1, h2, h3, h4, h5⟩ := h
  refine i σ H _ ⟨mσ, S, _, Em, h1, h2, h3, fun d S1 x H1 q1 e1 s1 r1 => ?_, h5⟩
  cases d with
  | bl k => cases r1; exact ⟨k, rfl, h4 k S1 H1 q1 e1 s1⟩
  | _ => exact q1.elim
theorem tcmp {op : CmpOp} {r : R2} {rm : R2m} (ho : OpR X (compareOp op) r) (hl : OpL X.K r rm) (ha : PE X a (upE X.K W ma)) (hb : PE X b (upE X.K W mb)) (hm : behindInMarks op b = false := by first | exact nomark _ | with_unfolding_all rfl) :
    PT X (.Compare a [op] [b] pos) (upT X.K W (mTst (mOp rm ma mb))) := (pt_cmpR ho ha hb hm).to (tst_to (op_to hl))
/-- a op b op2 c -/
def mChain (r r' : R2m) (ma mb mc : ME) : ME := fun σ S Q E => ma σ S (fun x S1 => mb σ S1 (fun y S2 => r x y S2 fun z S3 => match z with
  | .bl k => if k = true then mc σ S3 (fun w S4 => r' y w S4 Q) E else Q (.bl false) S3
  | _ => False) E) E
theorem chain_to {r r' : R2} {rm rm' : R2m} (hl : OpL X.K r rm) (hl' : OpL X.K r' rm') (σ : L2.St) (H : Hp) (Q : VK) (h : upE X.K W (mChain rm rm' ma mb mc) σ H Q) : tChain r r' (upE X.K W ma) (upE X.K W mb) (upE X.K W mc) σ H Q := by
  obtain ⟨m, S, Qm, Em, h1, h2, h3, h4, h5⟩ := h
  refine ⟨m, S, _, Em, h1, h2, h3, fun d S1 x H1 q1 e1 s1 r1 => ⟨m, S1, _, Em, h1.ext e1, s1, q1, fun e S2 y H2 q2 e2 s2 r2 => ?_, h5.ext e1⟩, h5⟩
  refine hl H2 S2 x y d e _ _ s2 (r1.ext e2) r2 q2 fun z S3 v H3 q3 e3 s3 r3 => ?_
  cases z with
  | bl k =>
    cases r3
    refine ⟨k, rfl, ?_⟩
    have e123 := e1.trans (e2.trans e3)
    cases k with
    | true =>
      have q3' : mc m S3 (fun w S4 => rm' e w S4 Qm) Em := by simpa using q3
      rw [if_pos rfl]
      exact ⟨m, S3, _, Em, h1.ext e123, s3, q3', fun w S4 v4 H4 q4 e4 s4 r4 => hl' H4 S4 y v4 e w Qm Q s4 (r2.ext (e3.trans e4)) r4 q4 (h4.ext (e123.trans e4)), h5.ext e123⟩
    | false =>
      have q3' : Qm (.bl false) S3 := by simpa using q3
      rw [if_neg Bool.false_ne_true]
      exact h4 _ S3 _ H3 q3' e123 s3 (.bl false)
  | _ => exact q3.elim
theorem echain {op op' : CmpOp} {r r' : R2} {rm rm' : R2m} (ho : OpR X (compareOp op) r) (ho' : OpR X (compareOp op') r') (hl : OpL X.K r rm) (hl' : OpL X.K r' rm') (ha : PE X a (upE X.K W ma)) (hb : PE X b (upE X.K W mb)) (hc : PE X c (upE X.K W mc))
    (hm : lastMarks [op, op'] [b, c] = false := by with_unfolding_all rfl) : PE X (.Compare a [op, op'] [b, c] pos) (upE X.K W (mChain rm rm' ma mb mc)) := (pe_chain ho ho' ha hb hc hm).to (chain_to hl hl')
theorem tchain {op op' : CmpOp} {r r' : R2} {rm rm' : R2m} (ho : OpR X (compareOp op) r) (ho' : OpR X (compareOp op') r') (hl : OpL X.K r rm) (hl' : OpL X.K r' rm') (ha : PE X a (upE X.K W ma)) (hb : PE X b (upE X.K W mb)) (hc : PE X c (upE X.K W mc))
    (hm : lastMarks [op, op'] [b, c] = false := by with_unfolding_all rfl) : PT X (.Compare a [op, op'] [b, c] pos) (upT X.K W (mTst (mChain rm rm' ma mb mc))) := (pt_chain ho ho' ha hb hc hm).to (tst_to (chain_to hl hl'))
/-- is None -/
def isN : D → Bool
  | .non => true
  | _ => false
theorem isN_eq {K : PySem.W.Frag} {H : Hp} {S : Sto} {v : V} {d : D} (r : RD K H S v d) : decide (v = .non) = isN d := by
  cases r <;> simp [isN]
def rIsN : R2m := fun d e S Q => match e with
  | .non => Q (.bl (isN d)) S
  | _ => False
def rNotN : R2m := fun d e S Q => match e with
  | .non => Q (.bl (!isN d)) S
  | _ => False
theorem ol_isN : OpL X.K (fun x y H Q => y = .non ∧ Q (.bl (decide (x = .non))) H) rIsN := fun H S x y d e Qm Q s rx ry h k => by
  unfold rIsN at h
  split at h
  · cases ry; refine ⟨rfl, k _ S _ H h Ext.refl s ?_⟩; rw [isN_eq rx]; exact .bl _
  · exact h.elim
theorem ol_notN : OpL X.K (fun x y H Q => y = .non ∧ Q (.bl (!decide (x = .non))) H) rNotN := fun H S x y d e Qm Q s rx ry h k => by
  unfold rNotN at h
  split at h
  · cases ry; refine ⟨rfl, k _ S _ H h Ext.refl s ?_⟩; rw [isN_eq rx]; exact .bl _
  · exact h.elim

/-! ### and, or, not, if -/
variable {tA tB' tA' : MT} {rest : List Expr}
def mAnd (t u : MT) : MT := fun σ S Q E => t σ S (fun c S1 => if c = true then u σ S1 Q E else Q false S1) E
def mOr (t u : MT) : MT := fun σ S Q E => t σ S (fun c S1 => if c = true then Q true S1 else u σ S1 Q E) E
def mNot (t : MT) : MT := fun σ S Q E => t σ S (fun c S1 => Q (!c) S1) E
theorem wand1 (ha : PT X a (upT X.K W tA)) : PW X (.BoolOp .And [a] pos) (upT X.K W tA) := pw_and1 ha
theorem wor1 (ha : PT X a (upT X.K W tA)) : PW X (.BoolOp .Or [a] pos) (upT X.K W tA) := pw_or1 ha
theorem wand (ha : PT X a (upT X.K W tA)) (hb : PW X (.BoolOp .And (b :: rest) pos) (upT X.K W tB')) : PW X (.BoolOp .And (a :: b :: rest) pos) (upT X.K W (mAnd tA tB')) :=
  (pw_and ha hb).to fun σ H Q ⟨m, S, Qm, Em, h1, h2, h3, h4, h5⟩ => ⟨m, S, _, Em, h1, h2, h3, fun k S1 H1 q1 e1 s1 => by
    cases k with
    | true => rw [if_pos rfl]; exact ⟨m, S1, Qm, Em, h1.ext e1, s1, by simpa using q1, h4.ext e1, h5.ext e1⟩
    | false => rw [if_neg Bool.false_ne_true]; exact h4 false S1 H1 (by simpa using q1) e1 s1, h5⟩
theorem wor (ha : PT X a (upT X.K W tA)) (hb : PW X (.BoolOp .Or (b :: rest) pos) (upT X.K W tB')) : PW X (.BoolOp .Or (a :: b :: rest) pos) (upT X.K W (mOr tA tB')) :=
  (pw_or ha hb).to fun σ H Q ⟨m, S, Qm, Em, h1, h2, h3, h4, h5⟩ => ⟨m, S, _, Em, h1, h2, h3, fun k S1 H1 q1 e1 s1 => by
    cases k with
    | false => rw [if_neg Bool.false_ne_true]; exact ⟨m, S1, Qm, Em, h1.ext e1, s1, by simpa using q1, h4.ext e1, h5.ext e1⟩
    | true => rw [if_pos rfl]; exact h4 true S1 H1 (by simpa using q1) e1 s1, h5⟩
theorem tnot (ha : PT X a (upT X.K W tA)) : PT X (.UnaryOp .Not a pos) (upT X.K W (mNot tA)) :=
  (pt_not ha).to fun σ H Q ⟨m, S, Qm, Em, h1, h2, h3, h4, h5⟩ => ⟨m, S, _, Em, h1, h2, h3, fun k S1 H1 q1 e1 s1 => h4 (!k) S1 H1 q1 e1 s1, h5⟩
/-- as values -/
def mAndV (ma mb : ME) : ME := fun σ S Q E => ma σ S (fun d S1 => match d with
  | .bl k => if k = true then mb σ S1 Q E else Q (.bl false) S1
  | _ => False) E
def mOrV (ma mb : ME) : ME := fun σ S Q E => ma σ S (fun d S1 => match d with
  | .bl k => if k = true then Q (.bl true) S1 else mb σ S1 Q E
  | _ => False) E
def mNotV (ma : ME) : ME := fun σ S Q E => ma σ S (fun d S1 => match d with
  | .bl k => Q (.bl (!k)) S1
  | _ => False) E
theorem eone {op} (h : PE X a (upE X.K W ma)) : PE X (.BoolOp op [a] pos) (upE X.K W ma) := pe_one h
theorem eand (ha : PE X a (upE X.K W ma)) (hb : PE X (.BoolOp .And (b :: rest) pos) (upE X.K W mb)) : PE X (.BoolOp .And (a :: b :: rest) pos) (upE X.K W (mAndV ma mb)) :=
  (pe_and ha hb).to fun σ H Q ⟨m, S, Qm, Em, h1, h2, h3, h4, h5⟩ => ⟨m, S, _, Em, h1, h2, h3, fun d S1 v H1 q1 e1 s1 r1 => by
    cases d with
    | bl k =>
      cases r1
      refine ⟨k, rfl, ?_⟩
      cases k with
      | true => rw [if_pos rfl]; exact ⟨m, S1, Qm, Em, h1.ext e1, s1, by simpa using q1, h4.ext e1, h5.ext e1⟩
      | false => rw [if_neg Bool.false_ne_true]; exact h4 _ S1 _ H1 (show Qm (.bl false) S1 by simpa using q1) e1 s1 (.bl false)
    | _ => exact q1.elim, h5⟩
theorem eor (ha : PE X a (upE X.K W ma)) (hb : PE X (.BoolOp .Or (b :: rest) pos) (upE X.K W mb)) : PE X (.BoolOp .Or (a :: b :: rest) pos) (upE X.K W (mOrV ma mb)) :=
  (pe_or ha hb).to fun σ H Q ⟨m, S, Qm, Em, h1, h2, h3, h4, h5⟩ => ⟨m, S, _, Em, h1, h2, h3, fun d S1 v H1 q1 e1 s1 r1 => by
    cases d with
    | bl k =>
      cases r1
      refine ⟨k, rfl, ?_⟩
      cases k with
      | false => rw [if_neg Bool.false_ne_true]; exact ⟨m, S1, Qm, Em, h1.ext e1, s1, by simpa using q1, h4.ext e1, h5.ext e1⟩
      | true => rw [if_pos rfl]; exact h4 _ S1 _ H1 (show Qm (.bl true) S1 by simpa using q1) e1 s1 (.bl true)
    | _ => exact q1.elim, h5⟩
theorem enot (ha : PE X a (upE X.K W ma)) : PE X (.UnaryOp .Not a pos) (upE X.K W (mNotV ma)) :=
  (pe_not ha).to fun σ H Q ⟨m, S, Qm, Em, h1, h2, h3, h4, h5⟩ => ⟨m, S, _, Em, h1, h2, h3, fun d S1 v H1 q1 e1 s1 r1 => by
    cases d with
    | bl k => cases r1; exact ⟨k, rfl, h4 _ S1 _ H1 q1 e1 s1 (.bl _)⟩
    | _ => exact q1.elim, h5⟩
def mIf (t : MT) (ma mb : ME) : ME := fun σ S Q E => t σ S (fun c S1 => if c = true then ma σ S1 Q E else mb σ S1 Q E) E
theorem eif (hc : PT X c (upT X.K W tA)) (ha : PE X a (upE X.K W ma)) (hb : PE X b (upE X.K W mb)) : PE X (.IfExp c a b pos) (upE X.K W (mIf tA ma mb)) :=
  (pe_ifExp hc ha hb).to fun σ H Q ⟨m, S, Qm, Em, h1, h2, h3, h4, h5⟩ => ⟨m, S, _, Em, h1, h2, h3, fun k S1 H1 q1 e1 s1 => by
    cases k with
    | true => rw [if_pos rfl]; exact ⟨m, S1, Qm, Em, h1.ext e1, s1, by simpa using q1, h4.ext e1, h5.ext e1⟩
    | false => rw [if_neg Bool.false_ne_true]; exact ⟨m, S1, Qm, Em, h1.ext e1, s1, by simpa using q1, h4.ext e1, h5.ext e1⟩, h5⟩
/-- any value's truth -/
def truD (S : Sto) : D → Option Bool
  | .non => some false
  | .bl b => some b
  | .int i => some (i != 0)
  | .str y => if y.length ≤ sizeLine then some ((y.length : Int) != 0) else none
  | .tup ds => some (!ds.isEmpty)
  | .lst ds => some (!ds.isEmpty)
  | .scr ds => some (!ds.isEmpty)
  | .ref p => match S p with
    | some (.lst ds) => some (!ds.isEmpty)
    | some (.dK kvs) => some (!kvs.isEmpty)
    | _ => none
def mTru (m : ME) : MT := fun σ S Q E => m σ S (fun d S1 => match truD S1 d with
  | some k => Q k S1
  | none => False) E
theorem emp_rds {K : PySem.W.Frag} {H : Hp} {S : Sto} {vs : List V} {ds : List D} (r : RDs K H S vs ds) : (!vs.isEmpty) = !ds.isEmpty := by cases r <;> rfl
theorem emp_rks {κ : Type} {K : PySem.W.Frag} {H : Hp} {S : Sto} {vs : List (κ × V)} {ds : List (κ × D)} (r : RKs K H S vs ds) : (!vs.isEmpty) = !ds.isEmpty := by cases r <;> rfl
theorem truD_ok {K : PySem.W.Frag} {H : Hp} {S : Sto} {v : V} {d : D} {k : Bool} (s : RSto K H S) (r : RD K H S v d) (h : truD S d = some k) : TruV K v H k := by
  cases r with
  | non => cases h; rfl
  | bl b => cases h; rfl
  | int i => cases h; rfl
  | str x =>
    simp only [truD] at h
    split at h
    · next z => cases h; exact ⟨z, rfl⟩
    · cases h
  | tup h1 n r => cases h; exact .inr (.inl ⟨_, .inl h1, (emp_rds r).symm⟩)
  | lst h1 n r => cases h; exact .inl ⟨_, .inl (.inl h1), (emp_rds r).symm⟩
  | scr h1 n r => cases h; exact .inl ⟨_, .inl (.inr ⟨_, h1⟩), (emp_rds r).symm⟩
  | ktup h1 h2 h3 h4 h5 r => cases h; exact .inr (.inl ⟨_, .inr ⟨_, _, _, h1, h2, h3, h4, h5⟩, (emp_rds r).symm⟩)
  | klst h1 h2 h3 h4 h5 h6 r => cases h; exact .inl ⟨_, .inr ⟨_, _, _, h1, h2, h3, h4, h5, h6⟩, (emp_rds r).symm⟩
  | ref p =>
    simp only [truD] at h
    cases e : S p with
    | none => rw [e] at h; cases h
    | some o =>
      rw [e] at h
      have q := s p o e
      cases o with
      | lst ds => obtain ⟨vs, e1, r⟩ := q; cases h; exact .inl ⟨_, .inl (.inl e1), (emp_rds r).symm⟩
      | dK kvs => obtain ⟨vs, e1, r⟩ := q; cases h; exact .inr (.inr ⟨_, e1, (emp_rks r).symm⟩)
      | ins C fs => cases h
      | exc C fs => cases h
      | dT kvs => cases h
      | dS kvs => cases h
theorem ttru (ha : PE X a (upE X.K W ma)) (he : ∀ whole, isTrue a X.env whole = (do let v ← whole; standAt a.pos; holding [v] (truthy v)) := by intro _; rfl) : PT X a (upT X.K W (mTru ma)) :=
  (pt_truth ha he).to fun σ H Q ⟨m, S, Qm, Em, h1, h2, h3, h4, h5⟩ => ⟨m, S, _, Em, h1, h2, h3, fun d S1 v H1 q1 e1 s1 r1 => by
    dsimp only at q1
    cases e : truD S1 d with
    | none => rw [e] at q1; exact q1.elim
    | some k => rw [e] at q1; exact ⟨k, truD_ok s1 r1 e, h4 k S1 H1 q1 e1 s1⟩, h5⟩

/-! ### lists of arguments, displays, calls -/
variable {es : List Expr} {mas : MA}
def mNil : MA := fun _ S Q _ => Q [] S
def mCons (m : ME) (r : MA) : MA := fun σ S Q E => m σ S (fun d S1 => r σ S1 (fun ds S2 => Q (d :: ds) S2) E) E
theorem anil : PA X [] (upA X.K W mNil) := pa_nil.to fun σ H Q ⟨m, S, Qm, Em, h1, h2, h3, h4, h5⟩ => h4 [] S [] H h3 Ext.refl h2 .nil
theorem acons (ha : PE X e (upE X.K W m)) (hr : PA X es (upA X.K W mas)) (hs : starEach (e :: es) X.env = (false, eval e X.env) :: starEach es X.env := by rfl) : PA X (e :: es) (upA X.K W (mCons m mas)) :=
  (pa_cons ha hr hs).to fun σ H Q ⟨m, S, Qm, Em, h1, h2, h3, h4, h5⟩ => ⟨m, S, _, Em, h1, h2, h3, fun d S1 v H1 q1 e1 s1 r1 => ⟨m, S1, _, Em, h1.ext e1, s1, q1, fun ds S2 vs H2 q2 e2 s2 r2 =>
    h4 (d :: ds) S2 (v :: vs) H2 q2 (e1.trans e2) s2 (.cons (r1.ext e2) r2), h5.ext e1⟩, h5⟩
theorem aone (ha : PE X e (upE X.K W m)) (hs : starEach (e :: []) X.env = (false, eval e X.env) :: starEach [] X.env := by rfl) : PA X [e] (upA X.K W (mCons m mNil)) := acons ha anil hs
/-- (a, b, ..) -/
def mTup (t : MA) : ME := fun σ S Q E => t σ S (fun ds S1 => ds.length ≤ sizeLine ∧ Q (.tup ds) S1) E
theorem etup {x1} (h : PA X es (upA X.K W mas)) : PE X (.Tuple es x1 pos) (upE X.K W (mTup mas)) :=
  (pe_tup h).to fun σ H Q ⟨m, S, Qm, Em, h1, h2, h3, h4, h5⟩ => ⟨m, S, _, Em, h1, h2, h3, fun ds S1 vs H1 q1 e1 s1 r1 => ⟨by rw [r1.length]; exact q1.1, fun p hp =>
    h4 _ S1 _ _ q1.2 (e1.trans (Ext.new s1 hp)) (s1.new hp) (.tup (.inl upd_same) (s1.fresh hp) (r1.ext (Ext.new s1 hp)))⟩, h5⟩
/-- [a, b, ..], a list that stays -/
def mLstF (t : MA) : ME := fun σ S Q E => t σ S (fun ds S1 => ds.length ≤ sizeLine ∧ Q (.lst ds) S1) E
theorem elstF (h : PA X es (upA X.K W mas)) : PE X (.List es pos) (upE X.K W (mLstF mas)) :=
  (pe_lst h).to fun σ H Q ⟨m, S, Qm, Em, h1, h2, h3, h4, h5⟩ => ⟨m, S, _, Em, h1, h2, h3, fun ds S1 vs H1 q1 e1 s1 r1 => ⟨by rw [r1.length]; exact q1.1, fun p hp =>
    h4 _ S1 _ _ q1.2 (e1.trans (Ext.new s1 hp)) (s1.new hp) (.lst upd_same (s1.fresh hp) (r1.ext (Ext.new s1 hp)))⟩, h5⟩
/-- [a, b, ..], a list of the store -/
def mLst (t : MA) : ME := fun σ S Q E => t σ S (fun ds S1 => ds.length ≤ sizeLine ∧ ∀ p, S1 p = none → Q (.ref p) (put S1 p (.lst ds))) E
theorem elst (h : PA X es (upA X.K W mas)) : PE X (.List es pos) (upE X.K W (mLst mas)) :=
  (pe_lst h).to fun σ H Q ⟨m, S, Qm, Em, h1, h2, h3, h4, h5⟩ => ⟨m, S, _, Em, h1, h2, h3, fun ds S1 vs H1 q1 e1 s1 r1 => ⟨by rw [r1.length]; exact q1.1, fun p hp =>
    h4 _ (put S1 p (.lst ds)) _ _ (q1.2 p (s1.fresh hp)) (e1.trans (Ext.newS s1 hp)) (s1.newS hp ⟨vs, upd_same, r1.ext (Ext.newS s1 hp)⟩) (.ref p)⟩, h5⟩

/-- what is known of a def of the module -/
structure Has (P : Program) (w : World) (K : PySem.W.Frag) (mg : Str → Option Value) (base : Heap) (x : Str) (ps : List Str) (k : Nat) (sp : MSp) : Prop where
  ex : ∃ f fd, mg x = some (.ref f) ∧ PySem.W.keepIn K (.ref f) = true ∧ Binds K fd ps [] ∧ FnOk P w K mg base (L2.CX P w) k f fd ps (upSp K sp)
theorem Has.mono {P : Program} {w : World} {K : PySem.W.Frag} {mg : Str → Option Value} {base : Heap} {x : Str} {ps : List Str} {j k : Nat} {sp : MSp} (h : Has P w K mg base x ps j sp) (l : j ≤ k) : Has P w K mg base x ps k sp :=
  let ⟨f, fd, a, b, c, d⟩ := h.ex
  ⟨f, fd, a, b, c, d.mono l⟩
/-- a promise that asks more -/
theorem Has.imp {P : Program} {w : World} {K : PySem.W.Frag} {mg : Str → Option Value} {base : Heap} {x : Str} {ps : List Str} {k : Nat} {sp sp' : MSp} (h : Has P w K mg base x ps k sp) (i : ∀ ds S Q E, sp' ds S Q E → sp ds S Q E) : Has P w K mg base x ps k sp' :=
  let ⟨f, fd, a, b, c, d⟩ := h.ex
  ⟨f, fd, a, b, c, d.imp fun vs H Q E ⟨ds, S, Qm, Em, h1, h2, h3, h4⟩ => ⟨ds, S, Qm, Em, h1, h2, i _ _ _ _ h3, h4⟩⟩
def mCall (sp : MSp) (t : MA) : ME := fun σ S Q E => t σ S (fun ds S1 => sp ds S1 Q E) E
theorem ecall {k : Nat} {x : Str} {ps : List Str} {sp : MSp} {p : Pos} (F : Has X.prog X.w X.K X.mg X.base x ps k sp) (hr : Room k X.A) (tk : Takes X W) (ha : PA X (e :: es) (upA X.K W mas)) (hg : Gl X x := by rfl)
    (hdb : (x == ("__debug__" : Str)) = false := by decide) (he : starEach (e :: es) X.env = (false, eval e X.env) :: starEach es X.env := by rfl) (hpl : (backTo pos (starEach es X.env)).any (·.1) = false := by rfl) :
    PE X (.Call (.Name x p) (e :: es) [] pos) (upE X.K W (mCall sp mas)) := by
  obtain ⟨f, fd, hm, hk, hb, G⟩ := F.ex
  refine (pe_callS (E := WE W) G hr hg hm hk hb (fun σ => passAt tk σ) ha hdb he hpl).to fun σ H Q ⟨m, S, Qm, Em, h1, h2, h3, h4, h5⟩ => ?_
  exact ⟨m, S, _, Em, h1, h2, h3, fun ds S1 vs H1 q1 e1 s1 r1 => ⟨ds, S1, Qm, Em, r1, s1, q1, h4.ext e1, h5.ext e1⟩, h5⟩

/-! ### calls of built-ins -/
def CaL (K : PySem.W.Frag) (r : List V → Hp → VK → Prop) (rm : List D → Sto → MQ → Prop) : Prop := ∀ (H : Hp) (S : Sto) (xs : List V) (ds : List D) (Qm : MQ) (Q : VK), RSto K H S → RDs K H S xs ds → rm ds S Qm → Ref K H S Qm Q → r xs H Q
def mBlt (rm : List D → Sto → MQ → Prop) (t : MA) : ME := fun σ S Q E => t σ S (fun ds S1 => rm ds S1 Q) E
theorem eblt {id : String} {r : List V → Hp → VK → Prop} {rm : List D → Sto → MQ → Prop} {x : Str} {p : Pos} (hc : CallR X (.builtin id) r) (hl : CaL X.K r rm) (hm : X.mg x = none) (ha : PA X (e :: es) (upA X.K W mas)) (hv : bootBuiltins x = some (.builtin id) := by decide +kernel) (hg : Gl X x := by rfl)
    (hn : x ≠ "__name__" := by decide) (hdb : (x == ("__debug__" : Str)) = false := by decide)
    (he : starEach (e :: es) X.env = (false, eval e X.env) :: starEach es X.env := by rfl) (hpl : (backTo pos (starEach es X.env)).any (·.1) = false := by rfl) : PE X (.Call (.Name x p) (e :: es) [] pos) (upE X.K W (mBlt rm mas)) :=
  (pe_callB hc hg hm hv ha hn hdb he hpl).to fun σ H Q ⟨m, S, Qm, Em, h1, h2, h3, h4, h5⟩ => ⟨m, S, _, Em, h1, h2, h3, fun ds S1 xs H1 q1 e1 s1 r1 => hl H1 S1 xs ds Qm Q s1 r1 q1 (h4.ext e1), h5⟩
theorem etyp {T : String} {r : List V → Hp → VK → Prop} {rm : List D → Sto → MQ → Prop} {x : Str} {p : Pos} (hc : CallR X (.type T) r) (hl : CaL X.K r rm) (hm : X.mg x = none) (ha : PA X (e :: es) (upA X.K W mas)) (hv : bootBuiltins x = some (.type T) := by decide +kernel) (hg : Gl X x := by rfl)
    (hn : x ≠ "__name__" := by decide) (hdb : (x == ("__debug__" : Str)) = false := by decide)
    (he : starEach (e :: es) X.env = (false, eval e X.env) :: starEach es X.env := by rfl) (hpl : (backTo pos (starEach es X.env)).any (·.1) = false := by rfl) : PE X (.Call (.Name x p) (e :: es) [] pos) (upE X.K W (mBlt rm mas)) :=
  (pe_callTy hc hg hm hv ha hn hdb he hpl).to fun σ H Q ⟨m, S, Qm, Em, h1, h2, h3, h4, h5⟩ => ⟨m, S, _, Em, h1, h2, h3, fun ds S1 xs H1 q1 e1 s1 r1 => hl H1 S1 xs ds Qm Q s1 r1 q1 (h4.ext e1), h5⟩
theorem rds1 {K : PySem.W.Frag} {H : Hp} {S : Sto} {xs : List V} {d : D} (r : RDs K H S xs [d]) : ∃ v, xs = [v] ∧ RD K H S v d := by
  cases r with | cons h r => cases r; exact ⟨_, rfl, h⟩
theorem rds2 {K : PySem.W.Frag} {H : Hp} {S : Sto} {xs : List V} {d e : D} (r : RDs K H S xs [d, e]) : ∃ v w, xs = [v, w] ∧ RD K H S v d ∧ RD K H S w e := by
  cases r with | cons h r => obtain ⟨w, rfl, h2⟩ := rds1 r; exact ⟨_, _, rfl, h, h2⟩
/-- len -/
def lenD (S : Sto) : D → Option Nat
  | .tup ds => some ds.length
  | .str x => if x.length ≤ sizeLine then some x.length else none
  | d => (lstOf S d).map List.length
def bLen : List D → Sto → MQ → Prop := fun ds S Q => match ds with
  | [d] => match lenD S d with
    | some n => Q (.int n) S
    | none => False
  | _ => False
theorem lenD_ok {K : PySem.W.Frag} {H : Hp} {S : Sto} {v : V} {d : D} {n : Nat} (s : RSto K H S) (r : RD K H S v d) (h : lenD S d = some n) : LenV K v H n := by
  unfold lenD at h
  split at h
  · obtain ⟨a, vs, rfl, h1, r1⟩ := r.tupSq
    cases h
    exact .inr ⟨vs, h1, r1.length.symm⟩
  · next x =>
    cases r
    split at h
    · next z => cases h; exact ⟨z, rfl⟩
    · cases h
  · cases e : lstOf S d with
    | none => rw [e] at h; cases h
    | some ds =>
      rw [e] at h; cases h
      obtain ⟨a, vs, rfl, h1, r1⟩ := lst_sq s r e
      exact .inl ⟨vs, h1, r1.length.symm⟩
theorem cl_len : CaL X.K (fun xs H Q => ∃ x n, xs = [x] ∧ LenV X.K x H n ∧ Q (.int n) H) bLen := fun H S xs ds Qm Q s r h k => by
  unfold bLen at h
  split at h
  · next d =>
    obtain ⟨v, rfl, r1⟩ := rds1 r
    cases e : lenD S d with
    | none => rw [e] at h; exact h.elim
    | some n => rw [e] at h; exact ⟨v, n, rfl, lenD_ok s r1 e, k _ S _ H h Ext.refl s (.int _)⟩
  · exact h.elim
theorem elen {x1 : Expr} {p : Pos} (hm : X.mg "len" = none) (ha : PE X a (upE X.K W ma)) (hg : Gl X "len" := by rfl) (he : starEach (a :: []) X.env = (false, eval a X.env) :: starEach [] X.env := by rfl) (hpl : (backTo pos (starEach [] X.env)).any (·.1) = false := by rfl) : PE X (.Call (.Name "len" p) [a] [] pos) (upE X.K W (mBlt bLen (mCons ma mNil))) :=
  eblt call_len cl_len hm (acons ha anil he) PySem.boot_len hg (by decide) (by decide) he hpl
def bAbs : List D → Sto → MQ → Prop := fun ds S Q => match ds with
  | [.int i] => Q (.int (if i < 0 then -i else i)) S
  | _ => False
theorem cl_abs : CaL X.K (fun xs H Q => ∃ i, xs = [.int i] ∧ Q (.int (if i < 0 then -i else i)) H) bAbs := fun H S xs ds Qm Q s r h k => by
  unfold bAbs at h
  split at h
  · obtain ⟨v, rfl, r1⟩ := rds1 r
    cases r1
    exact ⟨_, rfl, k _ S _ H h Ext.refl s (.int _)⟩
  · exact h.elim
def bMax2 : List D → Sto → MQ → Prop := fun ds S Q => match ds with
  | [.int i, .int j] => Q (.int (if j > i then j else i)) S
  | _ => False
def bMin2 : List D → Sto → MQ → Prop := fun ds S Q => match ds with
  | [.int i, .int j] => Q (.int (if j < i then j else i)) S
  | _ => False
theorem cl_max2 : CaL X.K (fun xs H Q => ∃ i j, xs = [.int i, .int j] ∧ Q (.int (if j > i then j else i)) H) bMax2 := fun H S xs ds Qm Q s r h k => by
  unfold bMax2 at h
  split at h
  · obtain ⟨v, w, rfl, r1, r2⟩ := rds2 r
    cases r1; cases r2
    exact ⟨_, _, rfl, k _ S _ H h Ext.refl s (.int _)⟩
  · exact h.elim
theorem cl_min2 : CaL X.K (fun xs H Q => ∃ i j, xs = [.int i, .int j] ∧ Q (.int (if j < i then j else i)) H) bMin2 := fun H S xs ds Qm Q s r h k => by
  unfold bMin2 at h
  split at h
  · obtain ⟨v, w, rfl, r1, r2⟩ := rds2 r
    cases r1; cases r2
    exact ⟨_, _, rfl, k _ S _ H h Ext.refl s (.int _)⟩
  · exact h.elim
def bInt : List D → Sto → MQ → Prop := fun ds S Q => match ds with
  | [.int i] => Q (.int i) S
  | [.bl k] => Q (.int (if k then 1 else 0)) S
  | _ => False
theorem cl_int : CaL X.K (fun xs H Q => (∃ i, xs = [.int i] ∧ Q (.int i) H) ∨ ∃ k, xs = [.bl k] ∧ Q (.int (if k then 1 else 0)) H) bInt := fun H S xs ds Qm Q s r h k => by
  unfold bInt at h
  split at h
  · obtain ⟨v, rfl, r1⟩ := rds1 r
    cases r1
    exact .inl ⟨_, rfl, k _ S _ H h Ext.refl s (.int _)⟩
  · obtain ⟨v, rfl, r1⟩ := rds1 r
    cases r1
    exact .inr ⟨_, rfl, k _ S _ H h Ext.refl s (.int _)⟩
  · exact h.elim
/-- tuple(a list or a tuple); list(..): a list that stays -/
def bTuple : List D → Sto → MQ → Prop := fun ds S Q => match ds with
  | [.tup xs] => Q (.tup xs) S
  | [d] => match lstOf S d with
    | some xs => Q (.tup xs) S
    | none => False
  | _ => False
theorem cl_tuple : CaL X.K (fun xs H Q => ∃ p ys, xs = [.ref p] ∧ ((SqL X.K H p ys ∧ ∀ l, H l = none → Q (.ref l) (upd H l (.tup ys))) ∨ (SqT X.K H p ys ∧ Q (.ref p) H))) bTuple := fun H S xs ds Qm Q s r h k => by
  unfold bTuple at h
  split at h
  · obtain ⟨v, rfl, r1⟩ := rds1 r
    obtain ⟨a, vs, rfl, h1, r2⟩ := r1.tupSq
    exact ⟨a, vs, rfl, .inr ⟨h1, k _ S _ H h Ext.refl s r1⟩⟩
  · next d hd =>
    obtain ⟨v, rfl, r1⟩ := rds1 r
    cases e : lstOf S d with
    | none => rw [e] at h; exact h.elim
    | some ys =>
      rw [e] at h
      obtain ⟨a, vs, rfl, h1, r2⟩ := lst_sq s r1 e
      exact ⟨a, vs, rfl, .inl ⟨h1, fun l hl => k _ S _ _ h (Ext.new s hl) (s.new hl) (.tup (.inl upd_same) (s.fresh hl) (r2.ext (Ext.new s hl)))⟩⟩
  · exact h.elim
def seqOf (S : Sto) : D → Option (List D)
  | .tup ds => some ds
  | d => lstOf S d
theorem seq_sq {K : PySem.W.Frag} {H : Hp} {S : Sto} (s : RSto K H S) {v : V} {d : D} {ds : List D} (r : RD K H S v d) (h : seqOf S d = some ds) : ∃ a vs, v = .ref a ∧ (SqL K H a vs ∨ SqT K H a vs) ∧ RDs K H S vs ds := by
  unfold seqOf at h
  split at h
  · cases h
    obtain ⟨a, vs, rfl, h1, r2⟩ := r.tupSq
    exact ⟨a, vs, rfl, .inr h1, r2⟩
  · obtain ⟨a, vs, rfl, h1, r2⟩ := lst_sq s r h
    exact ⟨a, vs, rfl, .inl h1, r2⟩
def bListF : List D → Sto → MQ → Prop := fun ds S Q => match ds with
  | [d] => match seqOf S d with
    | some xs => Q (.lst xs) S
    | none => False
  | _ => False
theorem cl_listF : CaL X.K (fun xs H Q => ∃ p ys, xs = [.ref p] ∧ (SqL X.K H p ys ∨ SqT X.K H p ys) ∧ ∀ l, H l = none → Q (.ref l) (upd H l (.lst ys))) bListF := fun H S xs ds Qm Q s r h k => by
  unfold bListF at h
  split at h
  · next d =>
    obtain ⟨v, rfl, r1⟩ := rds1 r
    cases e : seqOf S d with
    | none => rw [e] at h; exact h.elim
    | some ys =>
      rw [e] at h
      obtain ⟨a, vs, rfl, h1, r2⟩ := seq_sq s r1 e
      exact ⟨a, vs, rfl, h1, fun l hl => k _ S _ _ h (Ext.new s hl) (s.new hl) (.lst upd_same (s.fresh hl) (r2.ext (Ext.new s hl)))⟩
  · exact h.elim
def bList : List D → Sto → MQ → Prop := fun ds S Q => match ds with
  | [d] => match seqOf S d with
    | some xs => ∀ p, S p = none → Q (.ref p) (put S p (.lst xs))
    | none => False
  | _ => False
theorem cl_list : CaL X.K (fun xs H Q => ∃ p ys, xs = [.ref p] ∧ (SqL X.K H p ys ∨ SqT X.K H p ys) ∧ ∀ l, H l = none → Q (.ref l) (upd H l (.lst ys))) bList := fun H S xs ds Qm Q s r h k => by
  unfold bList at h
  split at h
  · next d =>
    obtain ⟨v, rfl, r1⟩ := rds1 r
    cases e : seqOf S d with
    | none => rw [e] at h; exact h.elim
    | some ys =>
      rw [e] at h
      obtain ⟨a, vs, rfl, h1, r2⟩ := seq_sq s r1 e
      exact ⟨a, vs, rfl, h1, fun l hl => k _ (put S l (.lst ys)) _ _ (h l (s.fresh hl)) (Ext.newS s hl) (s.newS hl ⟨vs, upd_same, r2.ext (Ext.newS s hl)⟩) (.ref l)⟩
  · exact h.elim
/-- all, any of a list of truths -/
def blsOf : List D → Option (List Bool)
  | [] => some []
  | .bl b :: r => (blsOf r).map (b :: ·)
  | _ => none
theorem blsOf_eq : ∀ {ds : List D} {bs : List Bool}, blsOf ds = some bs → ds = bs.map .bl
  | [], bs, h => by cases h; rfl
  | .bl b :: r, bs, h => by
    cases e : blsOf r with
    | none => rw [show blsOf (.bl b :: r) = (blsOf r).map (b :: ·) from rfl, e] at h; cases h
    | some cs => rw [show blsOf (.bl b :: r) = (blsOf r).map (b :: ·) from rfl, e] at h; cases h; rw [blsOf_eq e]; rfl
  | .non :: _, _, h => by cases h
  | .int _ :: _, _, h => by cases h
  | .str _ :: _, _, h => by cases h
  | .tup _ :: _, _, h => by cases h
  | .lst _ :: _, _, h => by cases h
  | .scr _ :: _, _, h => by cases h
  | .ref _ :: _, _, h => by cases h
theorem blsOf_map (bs : List Bool) : blsOf (bs.map .bl) = some bs := by
  induction bs with
  | nil => rfl
  | cons b r ih => show (blsOf (r.map .bl)).map (b :: ·) = _; rw [ih]; rfl
def bAll : List D → Sto → MQ → Prop := fun ds S Q => match ds with
  | [d] => match (lstOf S d).bind blsOf with
    | some bs => Q (.bl (bs.all id)) S
    | none => False
  | _ => False
theorem cl_all : CaL X.K (rAll X.K) bAll := fun H S xs ds Qm Q s r h k => by
  unfold bAll at h
  split at h
  · next d =>
    obtain ⟨v, rfl, r1⟩ := rds1 r
    cases e : lstOf S d with
    | none => rw [e] at h; exact h.elim
    | some ys =>
      rw [e] at h
      cases e2 : blsOf ys with
      | none => rw [Option.bind_some, e2] at h; exact h.elim
      | some bs =>
        rw [Option.bind_some, e2] at h
        obtain ⟨a, vs, rfl, h1, r2⟩ := lst_sq s r1 e
        rw [blsOf_eq e2] at r2
        rw [RDs.bls r2] at h1
        exact ⟨a, bs, rfl, h1, k _ S _ H h Ext.refl s (.bl _)⟩
  · exact h.elim

/-! ### subscripts, slices -/
def ixL {α : Type} (xs : List α) (i : Int) : Option α := match i with
  | .ofNat n => xs[n]?
  | .negSucc n => if n < xs.length then xs[xs.length - (n + 1)]? else none
theorem ixL_at {α : Type} {xs : List α} {i : Int} {v : α} (h : ixL xs i = some v) : atI xs i = some v := by
  unfold ixL at h
  split at h
  · exact atI_nat h
  · next n =>
    split at h
    · next hl =>
      unfold atI ixN
      rw [if_neg (by omega), if_pos (by omega)]
      have e : (Int.negSucc n + (xs.length : Int)).toNat = xs.length - (n + 1) := by omega
      rw [Option.bind_some, e]; exact h
    · cases h
def rIxM : R2m := fun d e S Q => match e with
  | .int i => match seqOf S d with
    | some xs => match ixL xs i with
      | some x => Q x S
      | none => False
    | none => False
  | _ => False
theorem atI_rds {K : PySem.W.Frag} {H : Hp} {S : Sto} {vs : List V} {ds : List D} {i : Int} {d : D} (r : RDs K H S vs ds) (h : atI ds i = some d) : ∃ v, atI vs i = some v ∧ RD K H S v d := by
  unfold atI at h ⊢
  rw [r.length]
  cases e : ixN ds.length i with
  | none => rw [e] at h; cases h
  | some j => rw [e, Option.bind_some] at h; rw [Option.bind_some]; exact r.get h
theorem ol_ix : OpL X.K (fun x y H Q => rIxL X.K x y H Q ∨ rIxT X.K x y H Q) rIxM := fun H S x y d e Qm Q s rx ry h k => by
  unfold rIxM at h
  split at h
  · next i =>
    cases ry
    cases e1 : seqOf S d with
    | none => rw [e1] at h; exact h.elim
    | some xs =>
      rw [e1] at h
      cases e2 : ixL xs i with
      | none => simp only [e2] at h
      | some z =>
        simp only [e2] at h
        obtain ⟨a, vs, rfl, h1, r1⟩ := seq_sq s rx e1
        obtain ⟨v, e3, r2⟩ := atI_rds r1 (ixL_at e2)
        rcases h1 with h1 | h1
        · exact .inl ⟨a, vs, i, v, rfl, rfl, h1, e3, k _ S _ H h Ext.refl s r2⟩
        · exact .inr ⟨a, vs, i, v, rfl, rfl, h1, e3, k _ S _ H h Ext.refl s r2⟩
  · exact h.elim
theorem eix (ha : PE X a (upE X.K W ma)) (hb : PE X b (upE X.K W mb)) (hs : PlainIx b := by exact fun _ _ => rfl) : PE X (.Subscript a b pos) (upE X.K W (mOp rIxM ma mb)) := (pe_ix (ix_list.or ix_tup) ha hb hs).to (op_to ol_ix)
end
end ML

set_option maxRecDepth 100000
namespace ML
open PySem PySem.Spec L2
open PyProof.Rows hiding St

/-! ### targets -/
abbrev MG := D → MSt → Sto → (MSt → Sto → Prop) → MXQ → Prop
abbrev MGs := List D → MSt → Sto → (MSt → Sto → Prop) → MXQ → Prop
section
variable (K : PySem.W.Frag) (W : WX)
def upG (g : MG) : TG := fun v σ H Q => ∃ d mσ S Qm Em, RD K H S v d ∧ RSt K H S σ mσ ∧ RSto K H S ∧ g d mσ S Qm Em ∧ RefN K H S Qm Q ∧ RefX K H S Em (fun c d H' => W c d σ H')
def upGs (g : MGs) : TGs := fun vs σ H Q => ∃ ds mσ S Qm Em, RDs K H S vs ds ∧ RSt K H S σ mσ ∧ RSto K H S ∧ g ds mσ S Qm Em ∧ RefN K H S Qm Q ∧ RefX K H S Em (fun c d H' => W c d σ H')
end
section
variable {X : Cx} {W : WX} {a b c e tg : Expr} {ma mb mc m : ME} {pos : Pos} {g : MG} {gs : MGs}
theorem _root_.L2.PG.to {t t' : TG} (h : PG X tg t) (i : ∀ v σ H Q, t' v σ H Q → t v σ H Q) : PG X tg t' := ⟨fun pins s σ H v u Q I r q => h.run pins s σ H v u Q I r (i v σ H Q q)⟩
def gNm (i : Nat) : MG := fun d σ S Q _ => Q (σ.set i (some d)) S
theorem gnm {i : Nat} {x : Str} (hN : X.N.Nodup) (hi : X.N[i]? = some x := by rfl) (hx : Loc X.env.scope x := by first | exact Or.inl rfl | exact Or.inr rfl) (hf : X.fn x = true ∨ X.env.scope.names.lookup x = some .local := by first | exact .inl rfl | exact .inr rfl | assumption) :
    PG X (.Name x pos) (upG X.K W (gNm i)) := L2.PG.to (pg_name hN hi hx hf) fun v σ H Q ⟨d, m, S, Qm, Em, r, h1, h2, h3, h4, _⟩ => h4 _ S _ H h3 Ext.refl h2 (h1.set r i)
def gNl : MGs := fun ds σ S Q _ => match ds with
  | [] => Q σ S
  | _ => False
def gCn (g : MG) (gs : MGs) : MGs := fun ds σ S Q E => match ds with
  | d :: r => g d σ S (fun σ' S' => gs r σ' S' Q E) E
  | [] => False
theorem gnl : PGs X [] (upGs X.K W gNl) := ⟨fun pins s σ H vs us Q I r ⟨ds, m, S, Qm, Em, r1, h1, h2, h3, h4, _⟩ => by
  cases ds with
  | nil => cases r1; exact pgs_nil.run pins s σ H [] us Q I r ⟨rfl, h4 m S σ H h3 Ext.refl h2 h1⟩
  | cons _ _ => exact h3.elim⟩
/-- targets that raise nothing -/
def NoX (g : MG) : Prop := ∀ d σ S Q E E', g d σ S Q E → g d σ S Q E'
theorem gcn {es : List Expr} (h1 : PG X e (upG X.K W g)) (h2 : PGs X es (upGs X.K W gs)) (hs : (assignEach (e :: es) X.env).map (·.2) = assign e X.env :: (assignEach es X.env).map (·.2) := by rfl)
    (hx : ∀ d σ S Q E E', g d σ S Q E → g d σ S Q E' := by intro _ _ _ _ _ _ h; exact h) (hx' : ∀ d σ S Q E E', gs d σ S Q E → gs d σ S Q E' := by intro _ _ _ _ _ _ h; exact h) : PGs X (e :: es) (upGs X.K W (gCn g gs)) :=
  ⟨fun pins s σ H vs us Q I r ⟨ds, m, S, Qm, Em, r1, k1, k2, k3, k4, k5⟩ => (pgs_cons h1 h2 hs).run pins s σ H vs us Q I r (by
    cases ds with
    | nil => exact k3.elim
    | cons d ds =>
      cases r1 with
      | cons rd rds =>
        refine ⟨_, _, rfl, d, m, S, _, _, rd, k1, k2, hx _ _ _ _ _ (fun _ _ => False) k3, fun m' S' σ' H' q e s' st => ?_, fun x S' c d H' z => z.elim⟩
        exact ⟨ds, m', S', Qm, fun _ _ => False, rds.ext e, st, s', hx' _ _ _ _ _ _ q, k4.ext e, fun x S' c d H' z => z.elim⟩)⟩
def gTp (n : Nat) (gs : MGs) : MG := fun d σ S Q E => match d with
  | .tup ds => ds.length = n ∧ gs ds σ S Q E
  | _ => False
theorem gtp {es : List Expr} {k n : Nat} (hc : X.calm = true) (h : PGs X es (upGs X.K W gs)) (hn : (assignEach es X.env).length = n := by rfl) (hst : (assignEach es X.env).findIdx? (·.1) = none := by rfl) : PG X (.Tuple es k pos) (upG X.K W (gTp n gs)) :=
  L2.PG.to (pg_tup hc h hn hst) fun v σ H Q ⟨d, m, S, Qm, Em, r, h1, h2, h3, h4, h5⟩ => by
    cases d with
    | tup ds =>
      obtain ⟨a, vs, rfl, hq, rs⟩ := r.tupSq
      exact ⟨a, vs, rfl, hq, rs.length.trans h3.1, ds, m, S, Qm, Em, rs, h1, h2, h3.2, h4, h5⟩
    | _ => exact h3.elim
/-- a, b = a list -/
def gLs (n : Nat) (gs : MGs) : MG := fun d σ S Q E => match lstOf S d with
  | some ds => ds.length = n ∧ gs ds σ S Q E
  | none => False
theorem gls {es : List Expr} {k n : Nat} (hc : X.calm = true) (h : PGs X es (upGs X.K W gs)) (hn : (assignEach es X.env).length = n := by rfl) (hst : (assignEach es X.env).findIdx? (·.1) = none := by rfl) : PG X (.Tuple es k pos) (upG X.K W (gLs n gs)) :=
  L2.PG.to (pg_lst hc h hn hst) fun v σ H Q ⟨d, m, S, Qm, Em, r, h1, h2, h3, h4, h5⟩ => by
    unfold gLs at h3
    cases e : lstOf S d with
    | none => rw [e] at h3; exact h3.elim
    | some ds =>
      rw [e] at h3
      obtain ⟨a, vs, rfl, hq, rs⟩ := lst_sq h2 r e
      exact ⟨a, vs, rfl, hq, rs.length.trans h3.1, ds, m, S, Qm, Em, rs, h1, h2, h3.2, h4, h5⟩
/-- xs[i] = v, a list of the store -/
def setAt {α : Type} (xs : List α) (i : Int) (v : α) : Option (List α) := match i with
  | .ofNat n => if n < xs.length then some (xs.set n v) else none
  | .negSucc n => if n < xs.length then some (xs.set (xs.length - (n + 1)) v) else none
def rSetM (o i v : D) (S : Sto) (Q : Sto → Prop) : Prop := match o, i with
  | .ref p, .int k => match S p with
    | some (.lst xs) => match setAt xs k v with
      | some ys => Q (put S p (.lst ys))
      | none => False
    | _ => False
  | _, _ => False
theorem setAt_ix {α β : Type} {xs ys : List α} {zs : List β} {i : Int} {v : α} (hl : zs.length = xs.length) (h : setAt xs i v = some ys) : ∃ j, ixN zs.length i = some j ∧ ys = xs.set j v := by
  unfold setAt at h
  rw [hl]
  split at h
  · next n =>
    split at h
    · next hn =>
      cases h
      refine ⟨n, ?_, rfl⟩
      unfold ixN
      rw [if_pos (by show (0 : Int) ≤ (n : Int); omega), if_pos (by show (n : Int) < _; omega)]
      rfl
    · cases h
  · next n =>
    split at h
    · next hn =>
      cases h
      refine ⟨xs.length - (n + 1), ?_, rfl⟩
      unfold ixN
      rw [if_neg (by omega), if_pos (by omega)]
      congr 1; omega
    · cases h
def gSb (mo mi : ME) : MG := fun v σ S Q E => mo σ S (fun o S1 => mi σ S1 (fun i S2 => rSetM o i v S2 (fun S3 => Q σ S3)) E) E
theorem gsb {o i : Expr} {mo mi : ME} (ho : PE X o (upE X.K W mo)) (hi : PE X i (upE X.K W mi)) (ha : ∀ v, assign (.Subscript o i pos) X.env v = (do
      let ov ← holding [v] (eval o X.env)
      let iv ← holding [v, ov] (eval i X.env)
      standAt pos
      holding [v, ov, iv] (setItem ov iv v)
      release [v, ov, iv] []) := by intro _; rfl) : PG X (.Subscript o i pos) (upG X.K W (gSb mo mi)) :=
  L2.PG.to (pg_sub ho hi set_list ha) fun v σ H Q ⟨d, m, S, Qm, Em, r, h1, h2, h3, h4, h5⟩ => by
    refine ⟨m, S, _, Em, h1, h2, h3, fun o S1 ov H1 q1 e1 s1 r1 => ⟨m, S1, _, Em, h1.ext e1, s1, q1, fun i S2 iv H2 q2 e2 s2 r2 => ?_, h5.ext e1⟩, h5⟩
    have r1' := r1.ext e2
    have rv := r.ext (e1.trans e2)
    replace q2 : rSetM o i d S2 (fun S3 => Qm m S3) := q2
    unfold rSetM at q2
    split at q2
    · next p k =>
      cases e : S2 p with
      | none => rw [e] at q2; exact q2.elim
      | some mo =>
        rw [e] at q2
        cases mo with
        | lst xs =>
          dsimp only at q2
          cases e3 : setAt xs k d with
          | none => rw [e3] at q2; exact q2.elim
          | some ys =>
            rw [e3] at q2
            cases r1'; cases r2
            obtain ⟨vs, hv, rs⟩ := s2 p _ e
            obtain ⟨j, hj, ey⟩ := setAt_ix rs.length e3
            subst ey
            have ec : Ext H2 S2 (upd H2 p (.lst (vs.set j v))) (put S2 p (.lst (xs.set j d))) := Ext.chg e
            exact ⟨p, vs, k, j, rfl, rfl, hv, hj, h4 m _ σ _ q2 (e1.trans (e2.trans ec)) (s2.chg e ⟨_, upd_same, (rs.set rv j).ext ec⟩) (h1.ext (e1.trans (e2.trans ec)))⟩
        | _ => exact q2.elim
    · exact q2.elim

/-! ### statements -/
variable {st : Stmt} {rest : List Stmt} {mt mu : MS}
def xAt (D : MEnds) (σ : MSt) : MXQ := fun x S => D.ex x σ S
theorem xAt_ref {K : PySem.W.Frag} {H : Hp} {S : Sto} {σ : L2.St} {m : MSt} {Dm : MEnds} {W : WX} (h : RSt K H S σ m) (w : RefW K H S Dm.ex W) : RefX K H S (xAt Dm m) (fun c d H' => W c d σ H') :=
  fun x S' c d H' q e s r => w x m S' c d σ H' q e s (h.ext e) r
def mNext : MS := fun D σ S => D.nx σ S
def mSeq (t u : MS) : MS := fun D σ S => t { D with nx := u D } σ S
theorem snil : PSs X [] (upS X.K W mNext) := L2.PSs.to pss_nil fun D σ H ⟨m, S, Dm, h1, h2, h3, h4⟩ => h4.nx m S σ H h3 Ext.refl h2 h1
theorem scons (h1 : PS X st (upS X.K W mt)) (h2 : PSs X rest (upS X.K W mu)) : PSs X (st :: rest) (upS X.K W (mSeq mt mu)) := L2.PSs.to (pss_cons h1 h2) fun D σ H ⟨m, S, Dm, k1, k2, k3, k4⟩ =>
  ⟨m, S, { Dm with nx := mu Dm }, k1, k2, k3, ⟨fun m' S' σ' H' q e s r => ⟨m', S', Dm, r, s, q, k4.ext e⟩, k4.rt, k4.bk, k4.ct, k4.ex⟩⟩
theorem sone (h1 : PS X st (upS X.K W mt)) : PSs X [st] (upS X.K W mt) := pss_one h1
theorem spass : PS X (.Pass pos) (upS X.K W mNext) := L2.PS.to ps_pass fun D σ H ⟨m, S, Dm, h1, h2, h3, h4⟩ => h4.nx m S σ H h3 Ext.refl h2 h1
def mBreak : MS := fun D σ S => D.bk σ S
def mCont : MS := fun D σ S => D.ct σ S
theorem sbreak : PS X (.Break pos) (upS X.K W mBreak) := L2.PS.to ps_break fun D σ H ⟨m, S, Dm, h1, h2, h3, h4⟩ => h4.bk m S σ H h3 Ext.refl h2 h1
theorem scont : PS X (.Continue pos) (upS X.K W mCont) := L2.PS.to ps_continue fun D σ H ⟨m, S, Dm, h1, h2, h3, h4⟩ => h4.ct m S σ H h3 Ext.refl h2 h1
def mExpr (m : ME) : MS := fun D σ S => m σ S (fun _ S1 => D.nx σ S1) (xAt D σ)
theorem sexpr (he : PE X e (upE X.K W m)) (hs : swapsWith e none pos.line X.env = pure false := by rfl) : PS X (.Expr e pos) (upS X.K W (mExpr m)) := L2.PS.to (ps_expr he hs) fun D σ H ⟨m, S, Dm, h1, h2, h3, h4⟩ =>
  ⟨m, S, _, _, h1, h2, h3, fun d S' v H' q e s r => h4.nx m S' σ H' q e s (h1.ext e), xAt_ref h1 h4.ex⟩
theorem sdoc {x j pos pos'} : PS X (.Expr (.Constant (.str x) j pos) pos') (upS X.K W mNext) := L2.PS.to ps_doc fun D σ H ⟨m, S, Dm, h1, h2, h3, h4⟩ => h4.nx m S σ H h3 Ext.refl h2 h1
def mRet (m : ME) : MS := fun D σ S => m σ S D.rt (xAt D σ)
theorem sret (he : PE X e (upE X.K W m)) : PS X (.Return (some e) pos) (upS X.K W (mRet m)) := L2.PS.to (ps_ret he) fun D σ H ⟨m, S, Dm, h1, h2, h3, h4⟩ => ⟨m, S, _, _, h1, h2, h3, h4.rt, xAt_ref h1 h4.ex⟩
def mRetN : MS := fun D _ S => D.rt .non S
theorem sretN : PS X (.Return none pos) (upS X.K W mRetN) := L2.PS.to ps_retN fun D σ H ⟨m, S, Dm, h1, h2, h3, h4⟩ => h4.rt .non S .non H h3 Ext.refl h2 .non
def mIfS (c : MT) (t u : MS) : MS := fun D σ S => c σ S (fun b S1 => if b = true then t D σ S1 else u D σ S1) (xAt D σ)
theorem sif {tc : MT} {as bs : List Stmt} (hc : PT X c (upT X.K W tc)) (ha : PSs X as (upS X.K W mt)) (hb : PSs X bs (upS X.K W mu)) : PS X (.If c as bs pos) (upS X.K W (mIfS tc mt mu)) := L2.PS.to (ps_if hc ha hb) fun D σ H ⟨m, S, Dm, h1, h2, h3, h4⟩ =>
  ⟨m, S, _, _, h1, h2, h3, fun k S1 H1 q e s => by
    cases k with
    | true => rw [if_pos rfl]; exact ⟨m, S1, Dm, h1.ext e, s, by simpa using q, h4.ext e⟩
    | false => rw [if_neg Bool.false_ne_true]; exact ⟨m, S1, Dm, h1.ext e, s, by simpa using q, h4.ext e⟩, xAt_ref h1 h4.ex⟩
/-- never come to -/
def mNever : MS := fun _ _ _ => False
theorem snever : PS X st (upS X.K W mNever) := ⟨fun _ _ _ _ _ _ ⟨_, _, _, _, _, h, _⟩ => h.elim⟩
theorem snevers {sts : List Stmt} : PSs X sts (upS X.K W mNever) := ⟨fun _ _ _ _ _ _ ⟨_, _, _, _, _, h, _⟩ => h.elim⟩
def mAsg (m : ME) (g : MG) : MS := fun D σ S => m σ S (fun d S1 => g d σ S1 D.nx (xAt D σ)) (xAt D σ)
theorem sasg (he : PE X e (upE X.K W m)) (hg : PG X tg (upG X.K W g)) (hs : swapsWithSole [tg] e pos.line X.env = pure false := by rfl) (hw : swappedStores [tg] e X.env = pure none := by rfl)
    (h1 : (assignEach [tg] X.env).map (·.2) = [assign tg X.env] := by rfl) : PS X (.Assign [tg] e pos) (upS X.K W (mAsg m g)) := L2.PS.to (ps_asg he hg hs hw h1) fun D σ H ⟨m, S, Dm, h1, h2, h3, h4⟩ =>
  ⟨m, S, _, _, h1, h2, h3, fun d S1 v H1 q e s r => ⟨d, m, S1, _, _, r, h1.ext e, s, q, h4.nx.ext e, (xAt_ref h1 h4.ex).ext e⟩, xAt_ref h1 h4.ex⟩
def mSet (i : Nat) (m : ME) : MS := fun D σ S => m σ S (fun d S1 => D.nx (σ.set i (some d)) S1) (xAt D σ)
theorem sset {i : Nat} {x : Str} {pos' : Pos} (hN : X.N.Nodup) (he : PE X e (upE X.K W m)) (hi : X.N[i]? = some x := by rfl) (hx : Loc X.env.scope x := by first | exact Or.inl rfl | exact Or.inr rfl) (hs : swapsWith e (some (.Name x pos')) pos.line X.env = pure false := by rfl)
    (hf : X.fn x = true ∨ X.env.scope.names.lookup x = some .local := by first | exact .inl rfl | exact .inr rfl | assumption) : PS X (.Assign [.Name x pos'] e pos) (upS X.K W (mSet i m)) := L2.PS.to (ps_set hN hi hx he hs hf) fun D σ H ⟨m, S, Dm, h1, h2, h3, h4⟩ =>
  ⟨m, S, _, _, h1, h2, h3, fun d S1 v H1 q e s r => h4.nx _ S1 _ H1 q e s ((h1.ext e).set r i), xAt_ref h1 h4.ex⟩
def mPar (i j : Nat) (t : MA) : MS := fun D σ S => t σ S (fun ds S1 => match ds with
  | [d, e] => D.nx ((σ.set i (some d)).set j (some e)) S1
  | _ => False) (xAt D σ)
theorem spar {i j : Nat} {x y : Str} {mas : MA} {px py pt : Pos} {kt k2 pt2} (hc : X.calm = true) (hN : X.N.Nodup) (ha : PA X [a, b] (upA X.K W mas)) (hi : X.N[i]? = some x := by rfl) (hj : X.N[j]? = some y := by rfl) (hij : i ≠ j := by decide)
    (hx : X.env.scope.names.lookup x = some .local := by rfl) (hy : X.env.scope.names.lookup y = some .local := by rfl)
    (hw : swappedStores [.Tuple [.Name x px, .Name y py] kt pt] (.Tuple [a, b] k2 pt2) X.env = pure (some [x, y]) := by rfl)
    (hs : swapsWithSole [.Tuple [.Name x px, .Name y py] kt pt] (.Tuple [a, b] k2 pt2) pos.line X.env = pure false := by rfl) :
    PS X (.Assign [.Tuple [.Name x px, .Name y py] kt pt] (.Tuple [a, b] k2 pt2) pos) (upS X.K W (mPar i j mas)) := L2.PS.to (ps_par hc hN hi hj hij hx hy ha hw hs) fun D σ H ⟨m, S, Dm, h1, h2, h3, h4⟩ =>
  ⟨m, S, _, _, h1, h2, h3, fun ds S1 vs H1 q e s r => by
    dsimp only at q
    split at q
    · obtain ⟨v, w, rfl, r1, r2⟩ := rds2 r
      exact ⟨v, w, rfl, h4.nx _ S1 _ H1 q e s (((h1.ext e).set r1 i).set r2 j)⟩
    · exact q.elim, xAt_ref h1 h4.ex⟩

/-! ### while -/
/-- I: what holds between the turns, with a measure -/
def mWhile (c : MT) (tb : MS) : MS := fun D σ S => ∃ I : Nat → MSt → Sto → Prop, (∃ n, I n σ S) ∧ ∀ n σ S, I n σ S →
  c σ S (fun b S1 => if b = true then tb { D with nx := fun σ' S' => ∃ m, m < n ∧ I m σ' S', ct := fun σ' S' => ∃ m, m < n ∧ I m σ' S', bk := D.nx } σ S1 else D.nx σ S1) (xAt D σ)
theorem swhile {tc : MT} {tb : MS} {body : List Stmt} (hp : PassesOwn (model X.prog X.w) X.A X.env X.xe) (hc : PT X c (upT X.K W tc)) (hb : PSs X body (upS X.K W tb)) : PS X (.While c body [] pos) (upS X.K W (mWhile tc tb)) :=
  L2.PS.to (ps_while hp hc hb) fun D σ H ⟨m, S, Dm, h1, h2, ⟨I, ⟨n0, i0⟩, turn⟩, h4⟩ => by
    refine ⟨fun n σ' H' => ∃ m' S', RSt X.K H' S' σ' m' ∧ RSto X.K H' S' ∧ Ext H S H' S' ∧ I n m' S', ⟨n0, m, S, h1, h2, Ext.refl, i0⟩, ?_⟩
    rintro n σ1 H1 ⟨m1, S1, k1, k2, k3, k4⟩
    have D4 := h4.ext k3
    refine ⟨m1, S1, _, _, k1, k2, turn n m1 S1 k4, fun k S2 H2 q e s => ?_, xAt_ref k1 D4.ex⟩
    cases k with
    | true =>
      have q' : tb { Dm with nx := fun σ' S' => ∃ m, m < n ∧ I m σ' S', ct := fun σ' S' => ∃ m, m < n ∧ I m σ' S', bk := Dm.nx } m1 S2 := by simpa using q
      rw [if_pos rfl]
      have N : RefN X.K H2 S2 (fun σ' S' => ∃ m, m < n ∧ I m σ' S') (fun σ' H' => ∃ m', m' < n ∧ ∃ m'' S', RSt X.K H' S' σ' m'' ∧ RSto X.K H' S' ∧ Ext H S H' S' ∧ I m' m'' S') :=
        fun m3 S3 σ3 H3 ⟨n3, l3, i3⟩ e3 s3 r3 => ⟨n3, l3, m3, S3, r3, s3, k3.trans (e.trans e3), i3⟩
      exact ⟨fun σ' H' => ∃ m', m' < n ∧ ∃ m'' S', RSt X.K H' S' σ' m'' ∧ RSto X.K H' S' ∧ Ext H S H' S' ∧ I m' m'' S', fun σ' H' z => z, m1, S2, _, k1.ext e, s, q', ⟨N, D4.rt.ext e, D4.nx.ext e, N, D4.ex.ext e⟩⟩
    | false =>
      have q' : Dm.nx m1 S2 := by simpa using q
      rw [if_neg Bool.false_ne_true]
      exact D4.nx m1 S2 σ1 H2 q' e s (k1.ext e)

/-! ### what a loop walks -/
abbrev MI := MSt → Sto → (List D → (Sto → Prop) → Sto → Prop) → MXQ → Prop
/-- J yields the items, as long as G holds of the store -/
structure ItOk (K : PySem.W.Frag) (H0 : Hp) (S0 : Sto) (J : It) (items : List D) (G : Sto → Prop) : Prop where
  go : ∀ (i : Nat) (H : Hp) (S : Sto), Ext H0 S0 H S → RSto K H S → G S → i < items.length → J.go i H
  yld : ∀ (i : Nat) (H : Hp) (S : Sto) (v : V) (H' : Hp) (d : D), Ext H0 S0 H S → RSto K H S → G S → items[i]? = some d → J.yld i H v H' → Ext H S H' S ∧ RSto K H' S ∧ RD K H' S v d
  stop : ∀ (i : Nat) (H : Hp) (S : Sto), Ext H0 S0 H S → RSto K H S → G S → items.length ≤ i → J.stop i H
def RefI (K : PySem.W.Frag) (H : Hp) (S : Sto) (Rm : List D → (Sto → Prop) → Sto → Prop) (R : It → Hp → Prop) : Prop := ∀ items G S' J H', Rm items G S' → Ext H S H' S' → RSto K H' S' → ItOk K H' S' J items G → R J H'
theorem RefI.ext {K : PySem.W.Frag} {H H' : Hp} {S S' : Sto} {Rm : List D → (Sto → Prop) → Sto → Prop} {R : It → Hp → Prop} (r : RefI K H S Rm R) (e : Ext H S H' S') : RefI K H' S' Rm R := fun items G S1 J H1 q e1 s k => r items G S1 J H1 q (e.trans e1) s k
def upI (K : PySem.W.Frag) (W : WX) (mi : MI) : TI := fun σ H R => ∃ mσ S Rm Em, RSt K H S σ mσ ∧ RSto K H S ∧ mi mσ S Rm Em ∧ RefI K H S Rm R ∧ RefX K H S Em (fun c d H' => W c d σ H')
theorem _root_.L2.PI.to {iter : Expr} {t t' : TI} (h : PI X tg iter t) (i : ∀ σ H R, t' σ H R → t σ H R) : PI X tg iter t' := ⟨fun pins s σ H R I q => h.run pins s σ H R I (i σ H R q)⟩
/-- I: what holds ahead of each turn -/
def wfor (G : Sto → Prop) (g : MG) (mb : MS) (D : MEnds) (items : List ML.D) (σ : MSt) (S : Sto) : Prop := ∃ I : Nat → MSt → Sto → Prop, I 0 σ S ∧ ∀ i σ S, i ≤ items.length → I i σ S → G S ∧ match items[i]? with
  | some d => g d σ S (fun σ' S' => mb { D with nx := I (i + 1), ct := I (i + 1), bk := D.nx } σ' S') (xAt D σ)
  | none => D.nx σ S
def mFor (mi : MI) (g : MG) (mb : MS) : MS := fun D σ S => mi σ S (fun items G S1 => wfor G g mb D items σ S1) (xAt D σ)
theorem sfor {iter : Expr} {body : List Stmt} {mi : MI} {mb : MS} (hp : PassesOwn (model X.prog X.w) X.A X.env X.xe) (hc : X.calm = true) (hi : PI X tg iter (upI X.K W mi)) (hg : PG X tg (upG X.K W g)) (hb : PSs X body (upS X.K W mb))
    (hs : ∀ x, foldedSetIterable iter X.env x = pure x := by intro _; rfl) : PS X (.For tg iter body [] pos) (upS X.K W (mFor mi g mb)) :=
  L2.PS.to (ps_for hp hc hi hg hb hs) fun D σ H ⟨m, S, Dm, h1, h2, h3, h4⟩ => by
    refine ⟨m, S, _, _, h1, h2, h3, fun items G S1 J H1 q e1 s1 it => ?_, xAt_ref h1 h4.ex⟩
    obtain ⟨I, i0, turn⟩ := q
    refine ⟨fun i n σ' H' => n = items.length - i ∧ i ≤ items.length ∧ ∃ m' S', RSt X.K H' S' σ' m' ∧ RSto X.K H' S' ∧ Ext H1 S1 H' S' ∧ I i m' S', ⟨items.length, by simp, Nat.zero_le _, m, S1, h1.ext e1, s1, Ext.refl, i0⟩, ?_⟩
    rintro i n σ2 H2 ⟨rfl, hle, m2, S2, k1, k2, k3, k4⟩
    have D4 := h4.ext (e1.trans k3)
    obtain ⟨gS, k4⟩ := turn i m2 S2 hle k4
    by_cases hlt : i < items.length
    · rw [List.getElem?_eq_getElem hlt] at k4
      refine .inr ⟨it.go i H2 S2 k3 k2 gS hlt, fun σ' H' => ∃ m' S', RSt X.K H' S' σ' m' ∧ RSto X.K H' S' ∧ Ext H1 S1 H' S' ∧ I (i + 1) m' S', fun σ' H' z => ⟨items.length - (i + 1), by omega, rfl, hlt, z⟩, fun v H3 y => ?_⟩
      obtain ⟨e3, s3, r3⟩ := it.yld i H2 S2 v H3 _ k3 k2 gS (List.getElem?_eq_getElem hlt) y
      refine ⟨_, m2, S2, _, _, r3, k1.ext e3, s3, k4, fun m4 S4 σ4 H4 q4 e4 s4 r4 => ?_, (xAt_ref k1 D4.ex).ext e3⟩
      have e34 := e3.trans e4
      have N : RefN X.K H4 S4 (I (i + 1)) (fun σ' H' => ∃ m' S', RSt X.K H' S' σ' m' ∧ RSto X.K H' S' ∧ Ext H1 S1 H' S' ∧ I (i + 1) m' S') :=
        fun m5 S5 σ5 H5 q5 e5 s5 r5 => ⟨m5, S5, r5, s5, k3.trans (e34.trans e5), q5⟩
      exact ⟨m4, S4, _, r4, s4, q4, ⟨N, D4.rt.ext e34, D4.nx.ext e34, N, D4.ex.ext e34⟩⟩
    · rw [List.getElem?_eq_none (by omega)] at k4
      exact .inl ⟨it.stop i H2 S2 k3 k2 gS (by omega), D4.nx m2 S2 σ2 H2 k4 Ext.refl k2 k1⟩
/-- turn by turn -/
def wroll (G : Sto → Prop) (g : MG) (mb : MS) (D : MEnds) : List ML.D → MSt → Sto → Prop
  | [], σ, S => G S ∧ D.nx σ S
  | d :: ds, σ, S => G S ∧ g d σ S (fun σ' S' => mb { D with nx := wroll G g mb D ds, ct := wroll G g mb D ds, bk := D.nx } σ' S') (xAt D σ)
theorem wfor_roll {G : Sto → Prop} {mb : MS} {D : MEnds} {items : List ML.D} {σ : MSt} {S : Sto} (h : wroll G g mb D items σ S) : wfor G g mb D items σ S := by
  refine ⟨fun i => wroll G g mb D (items.drop i), by simpa using h, fun i σ S hi h => ?_⟩
  dsimp only at h ⊢
  by_cases hlt : i < items.length
  · have hd : items.drop i = items[i] :: items.drop (i + 1) := List.drop_eq_getElem_cons hlt
    rw [hd] at h
    rw [List.getElem?_eq_getElem hlt]
    exact h
  · have e : i = items.length := by omega
    subst e
    rw [List.drop_length] at h
    rw [List.getElem?_eq_none (by omega)]
    exact h
/-- a list, a tuple -/
def iL (m : ME) : MI := fun σ S R E => m σ S (fun d S1 => match lstOf S1 d with
  | some ds => R ds (fun S' => lstOf S' d = some ds) S1
  | none => False) E
def iT (m : ME) : MI := fun σ S R E => m σ S (fun d S1 => match d with
  | .tup ds => R ds (fun _ => True) S1
  | _ => False) E
theorem sqL_inj {K : PySem.W.Frag} {H : Hp} {S : Sto} {a : Addr} {xs ys : List V} (h1 : H a = some (.lst xs)) (h2 : H a = some (.lst ys)) : xs = ys := by
  rw [h1] at h2; cases h2; rfl
theorem itok_list {K : PySem.W.Frag} {H : Hp} {S : Sto} {d : D} {v : V} {ds : List D} (s : RSto K H S) (r : RD K H S v d) (h : lstOf S d = some ds) : ∃ a, v = .ref a ∧ (∃ xs, SqL K H a xs) ∧ ItOk K H S (Itl K a) ds (fun S' => lstOf S' d = some ds) := by
  obtain ⟨a, vs, rfl, hq, _⟩ := lst_sq s r h
  refine ⟨a, rfl, ⟨vs, hq⟩, fun i H' S' e s' g hi => ?_, fun i H' S' v H'' x e s' g hx y => ?_, fun i H' S' e s' g hi => ?_⟩
  · obtain ⟨a', vs', ea, hq', rs'⟩ := lst_sq s' (r.ext e) g
    cases ea
    exact ⟨vs', vs'[i]'(by rw [rs'.length]; exact hi), hq', List.getElem?_eq_getElem _⟩
  · obtain ⟨a', vs', ea, hq', rs'⟩ := lst_sq s' (r.ext e) g
    cases ea
    obtain ⟨rfl, y⟩ := y
    obtain ⟨w, hw, rw'⟩ := rs'.get hx
    have : v = w := Option.some.inj ((y _ hq').symm.trans hw)
    subst this
    exact ⟨Ext.refl, s', rw'⟩
  · obtain ⟨a', vs', ea, hq', rs'⟩ := lst_sq s' (r.ext e) g
    cases ea
    exact ⟨vs', hq', by rw [rs'.length]; exact hi⟩
theorem itok_tup {K : PySem.W.Frag} {H : Hp} {S : Sto} {v : V} {ds : List D} (s : RSto K H S) (r : RD K H S v (.tup ds)) : ∃ a, v = .ref a ∧ (∃ xs, SqT K H a xs) ∧ ItOk K H S (Itt K a) ds (fun _ => True) := by
  obtain ⟨a, vs, rfl, hq, _⟩ := r.tupSq
  refine ⟨a, rfl, ⟨vs, hq⟩, fun i H' S' e s' g hi => ?_, fun i H' S' v H'' x e s' g hx y => ?_, fun i H' S' e s' g hi => ?_⟩
  · obtain ⟨a', vs', ea, hq', rs'⟩ := (r.ext e).tupSq
    cases ea
    exact ⟨vs', vs'[i]'(by rw [rs'.length]; exact hi), hq', List.getElem?_eq_getElem _⟩
  · obtain ⟨a', vs', ea, hq', rs'⟩ := (r.ext e).tupSq
    cases ea
    obtain ⟨rfl, y⟩ := y
    obtain ⟨w, hw, rw'⟩ := rs'.get hx
    have : v = w := Option.some.inj ((y _ hq').symm.trans hw)
    subst this
    exact ⟨Ext.refl, s', rw'⟩
  · obtain ⟨a', vs', ea, hq', rs'⟩ := (r.ext e).tupSq
    cases ea
    exact ⟨vs', hq', by rw [rs'.length]; exact hi⟩
theorem il {l : Expr} (h : PE X l (upE X.K W m)) : PI X tg l (upI X.K W (iL m)) := L2.PI.to (pi_list h) fun σ H R ⟨m, S, Rm, Em, h1, h2, h3, h4, h5⟩ =>
  ⟨m, S, _, Em, h1, h2, h3, fun d S1 v H1 q e s r => by
    dsimp only at q
    cases e2 : lstOf S1 d with
    | none => rw [e2] at q; exact q.elim
    | some ds =>
      rw [e2] at q
      obtain ⟨a, rfl, hx, it⟩ := itok_list s r e2
      exact ⟨a, rfl, hx, h4 ds _ S1 _ H1 q e s it⟩, h5⟩
theorem it {l : Expr} (h : PE X l (upE X.K W m)) : PI X tg l (upI X.K W (iT m)) := L2.PI.to (pi_tup h) fun σ H R ⟨m, S, Rm, Em, h1, h2, h3, h4, h5⟩ =>
  ⟨m, S, _, Em, h1, h2, h3, fun d S1 v H1 q e s r => by
    cases d with
    | tup ds =>
      obtain ⟨a, rfl, hx, it⟩ := itok_tup s r
      exact ⟨a, rfl, hx, h4 ds _ S1 _ H1 q e s it⟩
    | _ => exact q.elim, h5⟩
/-- range -/
def rngD (lo : Int) (n : Nat) : List D := (List.range n).map fun i => .int (lo + (i : Nat))
theorem rngD_get {lo : Int} {n i : Nat} {d : D} (h : (rngD lo n)[i]? = some d) : d = .int (lo + (i : Nat)) := by
  unfold rngD at h
  rw [List.getElem?_map] at h
  by_cases hi : i < n
  · rw [List.getElem?_eq_getElem (by simpa using hi), List.getElem_range] at h; cases h; rfl
  · rw [List.getElem?_eq_none (by simpa using Nat.le_of_not_lt hi)] at h; cases h
theorem rngD_len (lo : Int) (n : Nat) : (rngD lo n).length = n := by unfold rngD; rw [List.length_map, List.length_range]
theorem itok_rng {K : PySem.W.Frag} {H : Hp} {S : Sto} (lo : Int) (n : Nat) : ItOk K H S (Itr lo n) (rngD lo n) (fun _ => True) :=
  ⟨fun i H' S' e s' g hi => by rw [rngD_len] at hi; exact hi, fun i H' S' v H'' x e s' g hx ⟨y1, y2⟩ => by subst y1 y2; rw [rngD_get hx]; exact ⟨Ext.refl, s', .int _⟩, fun i H' S' e s' g hi => by rw [rngD_len] at hi; exact hi⟩
def iR1 (t : MA) : MI := fun σ S R E => t σ S (fun ds S1 => match ds with
  | [.int j] => (-(2 ^ 62) ≤ j ∧ j < 2 ^ 62) ∧ R (rngD 0 j.toNat) (fun _ => True) S1
  | _ => False) E
def iR2 (t : MA) : MI := fun σ S R E => t σ S (fun ds S1 => match ds with
  | [.int i, .int j] => (-(2 ^ 62) ≤ i ∧ i < 2 ^ 62 ∧ -(2 ^ 62) ≤ j ∧ j < 2 ^ 62) ∧ R (rngD i (j - i).toNat) (fun _ => True) S1
  | _ => False) E
theorem ir1 {mas : MA} {p : Pos} (hm : X.mg "range" = none) (ha : PA X [a] (upA X.K W mas)) (hg : Gl X "range" := by rfl) (hs : starEach [a] X.env = [(false, eval a X.env)] := by rfl) : PI X tg (.Call (.Name "range" p) [a] [] pos) (upI X.K W (iR1 mas)) :=
  L2.PI.to (pi_range1 hg hm ha hs) fun σ H R ⟨m, S, Rm, Em, h1, h2, h3, h4, h5⟩ => ⟨m, S, _, Em, h1, h2, h3, fun ds S1 vs H1 q e s r => by
    dsimp only at q
    split at q
    · obtain ⟨v, rfl, r1⟩ := rds1 r
      cases r1
      exact ⟨_, rfl, q.1.1, q.1.2, h4 _ _ S1 _ H1 q.2 e s (itok_rng _ _)⟩
    · exact q.elim, h5⟩
theorem ir2 {mas : MA} {p : Pos} (hm : X.mg "range" = none) (ha : PA X [a, b] (upA X.K W mas)) (hg : Gl X "range" := by rfl) (hs : starEach [a, b] X.env = [(false, eval a X.env), (false, eval b X.env)] := by rfl) (hs2 : starEach [b] X.env = [(false, eval b X.env)] := by rfl) : PI X tg (.Call (.Name "range" p) [a, b] [] pos) (upI X.K W (iR2 mas)) :=
  L2.PI.to (pi_range2 hg hm ha hs hs2) fun σ H R ⟨m, S, Rm, Em, h1, h2, h3, h4, h5⟩ => ⟨m, S, _, Em, h1, h2, h3, fun ds S1 vs H1 q e s r => by
    dsimp only at q
    split at q
    · obtain ⟨v, w, rfl, r1, r2⟩ := rds2 r
      cases r1; cases r2
      exact ⟨_, _, rfl, q.1, h4 _ _ S1 _ H1 q.2 e s (itok_rng _ _)⟩
    · exact q.elim, h5⟩
/-- two values in a new pair -/
theorem pair_new {K : PySem.W.Frag} {H : Hp} {S : Sto} {T : Addr} {v w : V} {d e : D} (s : RSto K H S) (hT : H T = none) (r1 : RD K H S v d) (r2 : RD K H S w e) : Ext H S (upd H T (.tup [v, w])) S ∧ RSto K (upd H T (.tup [v, w])) S ∧ RD K (upd H T (.tup [v, w])) S (.ref T) (.tup [d, e]) := by
  have x := Ext.new (u := .tup [v, w]) s hT
  exact ⟨x, s.new hT, .tup (.inl upd_same) (s.fresh hT) (.cons (r1.ext x) (.cons (r2.ext x) .nil))⟩
/-- enumerate(a list) -/
def enumD (ds : List D) : List D := ds.zipIdx.map fun p => .tup [.int (p.2 : Nat), p.1]
theorem enumD_len (ds : List D) : (enumD ds).length = ds.length := by unfold enumD; rw [List.length_map, List.length_zipIdx]
theorem enumD_get {ds : List D} {i : Nat} {d : D} (h : (enumD ds)[i]? = some d) : ∃ x, ds[i]? = some x ∧ d = .tup [.int (i : Nat), x] := by
  unfold enumD at h
  rw [List.getElem?_map, List.getElem?_zipIdx] at h
  cases e : ds[i]? with
  | none => rw [e] at h; cases h
  | some x => rw [e] at h; cases h; exact ⟨x, rfl, by rw [Nat.zero_add]⟩
def iEn (t : MA) : MI := fun σ S R E => t σ S (fun ds S1 => match ds with
  | [d] => match lstOf S1 d with
    | some xs => R (enumD xs) (fun S' => lstOf S' d = some xs) S1
    | none => False
  | _ => False) E
theorem ien {mas : MA} {p tpos : Pos} {elts : List Expr} {kk : Nat} (hm : X.mg "enumerate" = none) (ha : PA X [e] (upA X.K W mas)) (hg : Gl X "enumerate" := by rfl) (hs : starEach [e] X.env = [(false, eval e X.env)] := by rfl) :
    PI X (.Tuple elts kk tpos) (.Call (.Name "enumerate" p) [e] [] pos) (upI X.K W (iEn mas)) :=
  L2.PI.to (pi_enum hg hm ha hs) fun σ H R ⟨m, S, Rm, Em, h1, h2, h3, h4, h5⟩ => ⟨m, S, _, Em, h1, h2, h3, fun ds S1 vs H1 q e1 s r => by
    dsimp only at q
    split at q
    · next d =>
      obtain ⟨v, rfl, r1⟩ := rds1 r
      cases e2 : lstOf S1 d with
      | none => rw [e2] at q; exact q.elim
      | some xs =>
        rw [e2] at q
        obtain ⟨a, us, rfl, hq, _⟩ := lst_sq s r1 e2
        refine ⟨a, us, rfl, hq, h4 _ _ S1 _ H1 q e1 s ⟨fun i H' S' e s' g hi => ?_, fun i H' S' v H'' x e s' g hx y => ?_, fun i H' S' e s' g hi => ?_⟩⟩
        · rw [enumD_len] at hi
          obtain ⟨a', vs', ea, hq', rs'⟩ := lst_sq s' (r1.ext e) g
          cases ea
          exact ⟨vs', vs'[i]'(by rw [rs'.length]; exact hi), hq', List.getElem?_eq_getElem _⟩
        · obtain ⟨a', vs', ea, hq', rs'⟩ := lst_sq s' (r1.ext e) g
          cases ea
          obtain ⟨T, w, rfl, hT, rfl, hy⟩ := y
          obtain ⟨z, hz, rfl⟩ := enumD_get hx
          obtain ⟨w', hw, rw'⟩ := rs'.get hz
          have : w = w' := Option.some.inj ((hy _ hq').symm.trans hw)
          subst this
          exact pair_new s' hT (.int _) rw'
        · rw [enumD_len] at hi
          obtain ⟨a', vs', ea, hq', rs'⟩ := lst_sq s' (r1.ext e) g
          cases ea
          exact ⟨vs', hq', by rw [rs'.length]; exact hi⟩
    · exact q.elim, h5⟩
/-- zip of two lists -/
def zipD (xs ys : List D) : List D := List.zipWith (fun x y => .tup [x, y]) xs ys
theorem zipD_get {xs ys : List D} {i : Nat} {d : D} (h : (zipD xs ys)[i]? = some d) : ∃ x y, xs[i]? = some x ∧ ys[i]? = some y ∧ d = .tup [x, y] := by
  unfold zipD at h
  rw [List.getElem?_zipWith] at h
  cases e1 : xs[i]? with
  | none => rw [e1] at h; cases h
  | some x =>
    cases e2 : ys[i]? with
    | none => rw [e1, e2] at h; cases h
    | some y => rw [e1, e2] at h; cases h; exact ⟨x, y, rfl, rfl, rfl⟩
def iZp (t : MA) : MI := fun σ S R E => t σ S (fun ds S1 => match ds with
  | [d, e] => match lstOf S1 d, lstOf S1 e with
    | some xs, some ys => R (zipD xs ys) (fun S' => lstOf S' d = some xs ∧ lstOf S' e = some ys) S1
    | _, _ => False
  | _ => False) E
theorem izp {mas : MA} {p tpos : Pos} {elts : List Expr} {kk : Nat} {e2 : Expr} (hm : X.mg "zip" = none) (ha : PA X [e, e2] (upA X.K W mas)) (hg : Gl X "zip" := by rfl)
    (hs : starEach [e, e2] X.env = (false, eval e X.env) :: starEach [e2] X.env := by rfl) (hs2 : (backTo pos (starEach [e2] X.env)).any (·.1) = false := by rfl) :
    PI X (.Tuple elts kk tpos) (.Call (.Name "zip" p) [e, e2] [] pos) (upI X.K W (iZp mas)) :=
  L2.PI.to (pi_zip hg hm ha hs hs2) fun σ H R ⟨m, S, Rm, Em, h1, h2, h3, h4, h5⟩ => ⟨m, S, _, Em, h1, h2, h3, fun ds S1 vs H1 q e1 s r => by
    dsimp only at q
    split at q
    · next d e =>
      obtain ⟨v, w, rfl, r1, r2⟩ := rds2 r
      split at q
      · next xs ys e3 e4 =>
        obtain ⟨a, us, rfl, hq, ru⟩ := lst_sq s r1 e3
        obtain ⟨b, ws, rfl, hq2, rw2⟩ := lst_sq s r2 e4
        refine ⟨a, b, us, ws, rfl, hq, hq2, h4 _ _ S1 _ H1 q e1 s ⟨fun i H' S' e s' g hi => ?_, fun i H' S' v H'' x e s' g hx y => ?_, fun i H' S' e s' g hi => ?_⟩⟩
        · obtain ⟨a', vs', ea, hq', rs'⟩ := lst_sq s' (r1.ext e) g.1
          cases ea
          obtain ⟨b', ws', eb, hq2', rs2'⟩ := lst_sq s' (r2.ext e) g.2
          cases eb
          have hi' : i < xs.length ∧ i < ys.length := by unfold zipD at hi; rw [List.length_zipWith] at hi; omega
          exact ⟨vs', ws', vs'[i]'(by rw [rs'.length]; exact hi'.1), ws'[i]'(by rw [rs2'.length]; exact hi'.2), hq', hq2', List.getElem?_eq_getElem _, List.getElem?_eq_getElem _⟩
        · obtain ⟨a', vs', ea, hq', rs'⟩ := lst_sq s' (r1.ext e) g.1
          cases ea
          obtain ⟨b', ws', eb, hq2', rs2'⟩ := lst_sq s' (r2.ext e) g.2
          cases eb
          obtain ⟨T, w, w2, rfl, hT, rfl, hy, hy2⟩ := y
          obtain ⟨z, z2, hz, hz2, rfl⟩ := zipD_get hx
          obtain ⟨w', hw, rw'⟩ := rs'.get hz
          obtain ⟨w2', hw2, rw2'⟩ := rs2'.get hz2
          have t1 : w = w' := Option.some.inj ((hy _ hq').symm.trans hw)
          have t2 : w2 = w2' := Option.some.inj ((hy2 _ hq2').symm.trans hw2)
          subst t1 t2
          exact pair_new s' hT rw' rw2'
        · obtain ⟨a', vs', ea, hq', rs'⟩ := lst_sq s' (r1.ext e) g.1
          cases ea
          obtain ⟨b', ws', eb, hq2', rs2'⟩ := lst_sq s' (r2.ext e) g.2
          cases eb
          refine ⟨vs', ws', hq', hq2', ?_⟩
          unfold zipD at hi
          rw [List.length_zipWith] at hi
          rw [rs'.length, rs2'.length]
          omega
      · exact q.elim
    · exact q.elim, h5⟩
end

/-! ### a def keeps its promise -/
/-- the wish of a def about exceptions -/
abbrev wM (E : XK) : WX := fun cls d _ H => E cls d H
abbrev cxM (P : Program) (w : World) (K : PySem.W.Frag) (mg : Str → Option Value) (base : Heap) (N : List Str) (qual : Str) (st : Stmt) (f : Addr) (cdv : Value) (A : Around) (outer : List Env) (s : Shared) (H : Hp) (E : XK) : Cx :=
  cxOf (L2.CX P w) P w K mg base N qual (defScope st) f cdv A outer s H E
theorem tkM {P : Program} {w : World} {K : PySem.W.Frag} {mg : Str → Option Value} {base : Heap} {N : List Str} {qual : Str} {st : Stmt} {f : Addr} {cdv : Value} {A : Around} {outer : List Env} {s : Shared} {H : Hp} {E : XK} :
    Takes (cxM P w K mg base N qual st f cdv A outer s H E) (wM E) := takes_of rfl rfl rfl rfl
theorem poM {P : Program} {w : World} {K : PySem.W.Frag} {mg : Str → Option Value} {base : Heap} {N : List Str} {qual : Str} {st : Stmt} {f : Addr} {cdv : Value} {A : Around} {outer : List Env} {s : Shared} {H : Hp} {E : XK} :
    PassesOwn (model P w) (cxM P w K mg base N qual st f cdv A outer s H E).A (cxM P w K mg base N qual st f cdv A outer s H E).env (cxM P w K mg base N qual st f cdv A outer s H E).xe := passes_of rfl
/-- the slots at a def's entry -/
def mstart (n : Nat) (ds : List D) : MSt := ds.map some ++ List.replicate n none
def mends (Q : MQ) (E : MXQ) : MEnds := { nx := fun _ S' => Q .non S', rt := Q, ex := fun x _ S' => E x S' }
/-- a def keeps its promise: its body by the rules, and the reading -/
theorem fn_mk {P : Program} {w : World} {K : PySem.W.Frag} {mg : Str → Option Value} {base : Heap} {x qual : Str} {st : Stmt} {f : Addr} {fd : FuncData} {N ps : List Str} {k n : Nat} {sp : MSp} {body : MS}
    (F : FunD K x qual (defArgs st) (defBody st) (defScope st) [] [] f fd) (S : FnScope N ps (defScope st)) (hn : N.length - ps.length = n)
    (len : ∀ ds S Q E, sp ds S Q E → ds.length = ps.length)
    (hbody : ∀ (cdv : Value) (A : Around) (outer : List Env) (s : Shared) (H : Hp) (E : XK), Room k (cxM P w K mg base N qual st f cdv A outer s H E).A → PSs (cxM P w K mg base N qual st f cdv A outer s H E) (defBody st) (upS K (wM E) body))
    (read : ∀ ds S Q E, sp ds S Q E → body (mends Q E) (mstart n ds) S) : FnOk P w K mg base (L2.CX P w) (k + 1) f fd ps (upSp K sp) := by
  refine F.ok S (fun vs H Q E ⟨ds, S, Qm, Em, h1, h2, h3, h4⟩ => by rw [h1.length]; exact len ds S Qm Em h3) fun cdv A outer s H vs Q E hr hsp => ?_
  refine ⟨_, hbody cdv A outer s H E hr, ?_⟩
  obtain ⟨ds, S, Qm, Em, h1, h2, h3, h4, h5⟩ := hsp
  have hl : vs.length = ps.length := by rw [h1.length]; exact len ds S Qm Em h3
  refine ⟨_, S, _, ?_, h2, read ds S Qm Em h3, ⟨fun m S' σ H' q e s r => h4 .non S' .non H' q e s .non, h4, fun _ _ _ _ z => z.elim, fun _ _ _ _ z => z.elim, fun x m S' c d σ H' q e s r rx => h5 x S' c d H' q e s rx⟩⟩
  unfold L2.start
  rw [hl, hn]
  exact RSt.start _ h1
/-! ### the law -/
def spLaw : MSp := fun ds _ Q _ => ∃ ns : List Int, ds = [.scr (ns.map .int)] ∧ ns.length ≤ 63 ∧ ∀ S', Q (.bl true) S'
theorem law_sp {K : PySem.W.Frag} {H : Hp} {a : Addr} {ns : List Int} (hl : ns.length ≤ 63) (hO : Only H) (hS : SqL K H a (ns.map V.int)) : upSp K spLaw [.ref a] H (fun v _ => v = .bl true) fun _ _ _ => False := by
  have r : RD K H (fun _ => none) (.ref a) (.scr (ns.map .int)) := by
    rcases hS with (h | ⟨o, h⟩) | ⟨o, its, n, h1, h2, h3, h4, h5, h6⟩
    · rcases hO a with z | ⟨o, xs, z⟩
      · rw [h] at z; cases z
      · rw [h] at z; cases z
    · exact .scr h rfl RDs.of_ints
    · exact .klst h1 h2 h3 h4 h5 h6 RDs.of_ints
  refine ⟨[.scr (ns.map .int)], fun _ => none, fun d _ => d = .bl true, fun _ _ => False, .cons r .nil, ?_, ⟨ns, rfl, hl, fun _ => rfl⟩, ?_, ?_⟩
  · intro _ _ e; cases e
  · intro d S' v H' q _ _ r
    have q' : d = .bl true := q
    rw [q'] at r
    cases r; rfl
  · intro x S' cls d H' q _ _ _; exact q
theorem law_cx {P : Program} {w : World} (H : Hp) (s : Shared) (e : Value) (s' : Shared) (h : L2.CX P w [] H s (fun _ _ _ => False) e s') : False := by
  obtain ⟨_, _, _, _, _, _, _, _, _, _, _, _, z⟩ := h
  exact z.elim
/-- the goal that the head leaves -/
theorem law_end {l : PySem.W.OpenLaw} {k : Nat} {q : Program} {loose : List Str} {XP : (Str → Option Value) → Heap → Prop} {YP : World → Heap → Prop} {d : DefRec} {x : Str} (hn : l.most = some 63) (hdf : d.params.defaults = []) (hr : Room k callerA)
    (F : ∀ (w : World) (mg : Str → Option Value) (fa : Addr) (h : Heap), YP w h → h.Ns mainGlobals mg → mg d.name = some (.ref fa) → ∃ (K : PySem.W.Frag) (fd : FuncData), K.In h ∧ (∀ (s : Shared) (u : Value), BindsTo s fd ⟨[u], []⟩ [(x, u)]) ∧
      ∀ base : Heap, K.In base → base.Ns mainGlobals mg → FnOk l.prog w K mg base (L2.CX l.prog w) k fa fd [x] (upSp K spLaw)) : PySem.W.WalkO q loose XP YP l.row.toRowW d [] (fun f vs => PySem.call f vs) := by
  apply Att.attach_call hn hdf
  intro w _ s1 mg _ fa _ _ _ _ a vs ns G Y _ _ _ hmg hobj hints hlen hg
  have ⟨K, fd, KX, hb, hF⟩ := F w mg fa _ Y G.T.g hmg
  have h63 : ns.length ≤ sizeLine := by rw [sizeLine_eq]; omega
  refine law_call KX G.T.g G.T.b G.T.builtins G.T.nolimit hg hobj hints h63 hr hF hb ?_ ?_
  · intro H hO hS; exact law_sp hlen hO hS
  · intro H e s' z; exact law_cx H s1 e s' z
end ML

set_option maxRecDepth 100000
namespace ML
open PySem PySem.Spec L2
open PyProof.Rows hiding St

/-! ### equality of data -/
mutual
def D.py : D → PyData
  | .non => .none
  | .bl b => .bool b
  | .int i => .int i
  | .str x => .str x
  | .tup ds => .tuple (D.pys ds)
  | .lst ds => .list (D.pys ds)
  | .scr ds => .list (D.pys ds)
  | .ref _ => .none
def D.pys : List D → List PyData
  | [] => []
  | d :: ds => D.py d :: D.pys ds
end
mutual
/-- no address, no truth within; texts as the model's equality wants them -/
def D.plain : D → Bool
  | .non => true
  | .bl _ => false
  | .int _ => true
  | .str x => PyData.strOk x
  | .tup ds => D.plains ds
  | .lst ds => D.plains ds
  | .scr ds => D.plains ds
  | .ref _ => false
def D.plains : List D → Bool
  | [] => true
  | d :: ds => D.plain d && D.plains ds
end
mutual
def D.deq : D → D → Bool
  | .non, .non => true
  | .bl a, .bl b => a == b
  | .int a, .int b => a == b
  | .str a, .str b => a == b
  | .tup a, .tup b => D.deqs a b
  | .lst a, .lst b => D.deqs a b
  | .lst a, .scr b => D.deqs a b
  | .scr a, .lst b => D.deqs a b
  | .scr a, .scr b => D.deqs a b
  | _, _ => false
def D.deqs : List D → List D → Bool
  | [], [] => true
  | a :: as, b :: bs => D.deq a b && D.deqs as bs
  | _, _ => false
end
mutual
def D.dep : D → Nat
  | .tup ds => D.deps ds + 1
  | .lst ds => D.deps ds + 1
  | .scr ds => D.deps ds + 1
  | _ => 0
def D.deps : List D → Nat
  | [] => 0
  | d :: ds => max (D.dep d) (D.deps ds)
end
mutual
theorem D.dep_py : ∀ d : D, (D.py d).depth = D.dep d
  | .non => rfl
  | .bl _ => rfl
  | .int _ => rfl
  | .str _ => rfl
  | .tup ds => by rw [D.py, PyData.depth, D.dep, D.deps_py ds]
  | .lst ds => by rw [D.py, PyData.depth, D.dep, D.deps_py ds]
  | .scr ds => by rw [D.py, PyData.depth, D.dep, D.deps_py ds]
  | .ref _ => rfl
theorem D.deps_py : ∀ ds : List D, PyData.depthAll (D.pys ds) = D.deps ds
  | [] => rfl
  | d :: ds => by rw [D.pys, PyData.depthAll, D.deps, D.dep_py d, D.deps_py ds]
end
mutual
theorem D.lay_py : ∀ d : D, D.plain d = true → (D.py d).canLay0 = true
  | .non, _ => by rw [D.py, PyData.canLay0]
  | .bl _, h => by cases h
  | .int _, _ => by rw [D.py, PyData.canLay0]
  | .str x, h => by rw [D.py, PyData.canLay0]; exact h
  | .tup ds, h => by rw [D.py, PyData.canLay0]; exact D.lays_py ds h
  | .lst ds, h => by rw [D.py, PyData.canLay0]; exact D.lays_py ds h
  | .scr ds, h => by rw [D.py, PyData.canLay0]; exact D.lays_py ds h
  | .ref _, h => by cases h
theorem D.lays_py : ∀ ds : List D, D.plains ds = true → PyData.canLayAll0 (D.pys ds) = true
  | [], _ => by rw [D.pys, PyData.canLayAll0]
  | d :: ds, h => by
    obtain ⟨h1, h2⟩ := Bool.and_eq_true_iff.mp (show (D.plain d && D.plains ds) = true from h)
    rw [D.pys, PyData.canLayAll0, D.lay_py d h1, D.lays_py ds h2]; rfl
end
mutual
theorem D.eqv_py : ∀ d e : D, D.plain d = true → D.plain e = true → PyData.eqv (D.py d) (D.py e) = D.deq d e
  | .bl _, _, h, _ => by cases h
  | .ref _, _, h, _ => by cases h
  | .non, e, _, h => by cases e <;> first | (cases h; done) | simp [D.py, PyData.eqv, D.deq]
  | .int _, e, _, h => by cases e <;> first | (cases h; done) | simp [D.py, PyData.eqv, D.deq]
  | .str _, e, _, h => by cases e <;> first | (cases h; done) | simp [D.py, PyData.eqv, D.deq]
  | .tup ds, e, h1, h => by
    cases e with
    | tup es => rw [D.py, D.py, PyData.eqv, D.deq]; exact D.eqvs_py ds es h1 h
    | bl _ => cases h
    | ref _ => cases h
    | _ => simp [D.py, PyData.eqv, D.deq]
  | .lst ds, e, h1, h => by
    cases e with
    | lst es => rw [D.py, D.py, PyData.eqv, D.deq]; exact D.eqvs_py ds es h1 h
    | scr es => rw [D.py, D.py, PyData.eqv, D.deq]; exact D.eqvs_py ds es h1 h
    | bl _ => cases h
    | ref _ => cases h
    | _ => simp [D.py, PyData.eqv, D.deq]
  | .scr ds, e, h1, h => by
    cases e with
    | lst es => rw [D.py, D.py, PyData.eqv, D.deq]; exact D.eqvs_py ds es h1 h
    | scr es => rw [D.py, D.py, PyData.eqv, D.deq]; exact D.eqvs_py ds es h1 h
    | bl _ => cases h
    | ref _ => cases h
    | _ => simp [D.py, PyData.eqv, D.deq]
theorem D.eqvs_py : ∀ ds es : List D, D.plains ds = true → D.plains es = true → PyData.eqvAll (D.pys ds) (D.pys es) = D.deqs ds es
  | [], [], _, _ => by rw [D.pys, PyData.eqvAll, D.deqs]
  | [], _ :: _, _, _ => by simp [D.pys, PyData.eqvAll, D.deqs]
  | _ :: _, [], _, _ => by simp [D.pys, PyData.eqvAll, D.deqs]
  | d :: ds, e :: es, h1, h2 => by
    obtain ⟨a1, a2⟩ := Bool.and_eq_true_iff.mp (show (D.plain d && D.plains ds) = true from h1)
    obtain ⟨b1, b2⟩ := Bool.and_eq_true_iff.mp (show (D.plain e && D.plains es) = true from h2)
    rw [D.pys, D.pys, PyData.eqvAll, D.deqs, D.eqv_py d e a1 b1, D.eqvs_py ds es a2 b2]
end
theorem D.shaped_py {d : D} (h : D.plain d = true) (hd : D.dep d ≤ 64) : SeqAt.shaped (D.py d) = true := by
  unfold SeqAt.shaped
  rw [D.lay_py d h, D.dep_py d, decide_eq_true hd]; rfl
mutual
theorem RD.dp {K : PySem.W.Frag} {H : Hp} {S : Sto} : ∀ {v : V} {d : D}, RD K H S v d → D.plain d = true → Dp K H v (D.py d)
  | _, _, .non, _ => by rw [D.py]; exact .non
  | _, _, .bl _, h => by cases h
  | _, _, .int i, _ => by rw [D.py]; exact .int i
  | _, _, .str x, _ => by rw [D.py]; exact .str x
  | _, _, .ref _, h => by cases h
  | _, _, .tup h n r, k => by rw [D.py]; exact .tup (.inl h) (RDs.dp r k)
  | _, _, .lst h n r, k => by rw [D.py]; exact .lst (.inl (.inl h)) (RDs.dp r k)
  | _, _, .scr h n r, k => by rw [D.py]; exact .lst (.inl (.inr ⟨_, h⟩)) (RDs.dp r k)
  | _, _, .ktup h1 h2 h3 h4 h5 r, k => by rw [D.py]; exact .tup (.inr ⟨_, _, _, h1, h2, h3, h4, h5⟩) (RDs.dp r k)
  | _, _, .klst h1 h2 h3 h4 h5 h6 r, k => by rw [D.py]; exact .lst (.inr ⟨_, _, _, h1, h2, h3, h4, h5, h6⟩) (RDs.dp r k)
theorem RDs.dp {K : PySem.W.Frag} {H : Hp} {S : Sto} : ∀ {vs : List V} {ds : List D}, RDs K H S vs ds → D.plains ds = true → DpAll K H vs (D.pys ds)
  | _, _, .nil, _ => by rw [D.pys]; exact .nil
  | _, _, .cons (d := d) (ds := ds) h r, k => by
    obtain ⟨a1, a2⟩ := Bool.and_eq_true_iff.mp (show (D.plain d && D.plains ds) = true from k)
    rw [D.pys]; exact .cons (RD.dp h a1) (RDs.dp r a2)
end
/-- a list of the store is looked at as it stands -/
def look (S : Sto) : D → D
  | .ref p => match S p with
    | some (.lst ds) => .lst ds
    | _ => .ref p
  | d => d
theorem look_dp {K : PySem.W.Frag} {H : Hp} {S : Sto} {v : V} {d : D} (s : RSto K H S) (r : RD K H S v d) (h : D.plain (look S d) = true) : Dp K H v (D.py (look S d)) := by
  cases d with
  | ref p =>
    cases r
    simp only [look] at h ⊢
    cases e : S p with
    | none => rw [e] at h; cases h
    | some o =>
      rw [e] at h
      cases o with
      | lst ds =>
        obtain ⟨vs, e1, r1⟩ := s p _ e
        simp only
        rw [D.py]
        exact .lst (.inl (.inl e1)) (r1.dp h)
      | _ => cases h
  | _ => exact r.dp h
def eqOk (d e : D) : Bool := match d, e with
  | .bl _, .bl _ => true
  | d, e => D.plain d && D.plain e && decide (D.dep d ≤ 64) && decide (D.dep e ≤ 64)
theorem eqOk_at {d e : D} (h : eqOk d e = true) : (∃ a b, d = .bl a ∧ e = .bl b) ∨ (D.plain d = true ∧ D.plain e = true ∧ D.dep d ≤ 64 ∧ D.dep e ≤ 64) := by
  unfold eqOk at h
  split at h
  · exact .inl ⟨_, _, rfl, rfl⟩
  · simp only [Bool.and_eq_true, decide_eq_true_eq] at h
    exact .inr ⟨h.1.1.1, h.1.1.2, h.1.2, h.2⟩
def rEqM : R2m := fun d e S Q => eqOk (look S d) (look S e) = true ∧ Q (.bl (D.deq (look S d) (look S e))) S
def rNeM : R2m := fun d e S Q => eqOk (look S d) (look S e) = true ∧ Q (.bl (!D.deq (look S d) (look S e))) S
section
variable {X : Cx} {W : WX} {a b c e tg : Expr} {ma mb mc m : ME} {pos : Pos}
theorem look_bl {S : Sto} {d : D} {a : Bool} (h : look S d = .bl a) : d = .bl a := by
  cases d with
  | ref p => simp only [look] at h; split at h <;> cases h
  | _ => exact h
theorem ol_eq : OpL X.K (fun x y H Q => rEq x y H Q ∨ rEqD X.K x y H Q) rEqM := fun H S x y d e Qm Q s rx ry ⟨h1, h2⟩ k => by
  rcases eqOk_at h1 with ⟨p, q, e1, e2⟩ | ⟨p1, p2, d1, d2⟩
  · rw [e1, e2] at h2
    cases look_bl e1; cases look_bl e2
    cases rx; cases ry
    refine .inl ⟨rfl, k _ S _ H h2 Ext.refl s ?_⟩
    rw [dec_bl]; rw [D.deq]; exact .bl _
  · refine .inr ⟨_, _, look_dp s rx p1, look_dp s ry p2, D.shaped_py p1 d1, D.shaped_py p2 d2, k _ S _ H h2 Ext.refl s ?_⟩
    rw [D.eqv_py _ _ p1 p2]; exact .bl _
theorem ol_ne : OpL X.K (fun x y H Q => rNe x y H Q ∨ rNeD X.K x y H Q) rNeM := fun H S x y d e Qm Q s rx ry ⟨h1, h2⟩ k => by
  rcases eqOk_at h1 with ⟨p, q, e1, e2⟩ | ⟨p1, p2, d1, d2⟩
  · rw [e1, e2] at h2
    cases look_bl e1; cases look_bl e2
    cases rx; cases ry
    refine .inl ⟨rfl, k _ S _ H h2 Ext.refl s ?_⟩
    rw [dec_bl]; rw [D.deq]; exact .bl _
  · refine .inr ⟨_, _, look_dp s rx p1, look_dp s ry p2, D.shaped_py p1 d1, D.shaped_py p2 d2, k _ S _ H h2 Ext.refl s ?_⟩
    rw [D.eqv_py _ _ p1 p2]; exact .bl _
theorem op_eqA (hu : X.A.units + 64 < cLine) : OpR X (compareOp .Eq) (fun x y H Q => rEq x y H Q ∨ rEqD X.K x y H Q) := op_eq.or (op_eqD hu)
theorem op_neA (hu : X.A.units + 64 < cLine) : OpR X (compareOp .NotEq) (fun x y H Q => rNe x y H Q ∨ rNeD X.K x y H Q) := op_ne.or (op_neD hu)

/-! ### in -/
theorem op_inDT (hu : X.A.units + 65 < cLine) : OpR X (compareOp .In) (fun x y H Q => ∃ d ds, Dp X.K H x d ∧ Dp X.K H y (.tuple ds) ∧ SeqAt.shaped d = true ∧ SeqAt.shaped (.tuple ds) = true ∧ Q (.bl (ds.any fun z => PyData.eqv z d)) H) := by
  intro pins s σ H x y v u Q I rx ry h
  have ⟨d, ds, hd, he, sd, se, q⟩ := h
  have ⟨as, r1⟩ := Dp.reads I d x v hd rx
  have ⟨bs, r2⟩ := Dp.reads I (.tuple ds) y u he ry
  have hm : min (PyData.depthAll ds) d.depth ≤ d.depth := Nat.min_le_right _ _
  have hd64 := SeqAt.depth_of_shaped sd
  exact SeqAt.in_tuple_reads r2 r1 (SeqAt.canLay_of_shaped se) (SeqAt.canLay_of_shaped sd) (by omega) ⟨.bl _, H, I, rfl, q⟩
theorem op_notInDT (hu : X.A.units + 65 < cLine) : OpR X (compareOp .NotIn) (fun x y H Q => ∃ d ds, Dp X.K H x d ∧ Dp X.K H y (.tuple ds) ∧ SeqAt.shaped d = true ∧ SeqAt.shaped (.tuple ds) = true ∧ Q (.bl (!ds.any fun z => PyData.eqv z d)) H) := by
  intro pins s σ H x y v u Q I rx ry h
  have ⟨d, ds, hd, he, sd, se, q⟩ := h
  have ⟨as, r1⟩ := Dp.reads I d x v hd rx
  have ⟨bs, r2⟩ := Dp.reads I (.tuple ds) y u he ry
  have hm : min (PyData.depthAll ds) d.depth ≤ d.depth := Nat.min_le_right _ _
  have hd64 := SeqAt.depth_of_shaped sd
  exact SeqAt.notIn_tuple_reads r2 r1 (SeqAt.canLay_of_shaped se) (SeqAt.canLay_of_shaped sd) (by omega) ⟨.bl _, H, I, rfl, q⟩
def memD (d : D) (ds : List D) : Bool := ds.any fun z => D.deq z d
theorem memD_py {d : D} {ds : List D} (h : D.plain d = true) (hs : D.plains ds = true) : ((D.pys ds).any fun z => PyData.eqv z (D.py d)) = memD d ds := by
  induction ds with
  | nil => rw [D.pys]; rfl
  | cons e es ih =>
    obtain ⟨a1, a2⟩ := Bool.and_eq_true_iff.mp (show (D.plain e && D.plains es) = true from hs)
    rw [D.pys]
    show (PyData.eqv (D.py e) (D.py d) || (D.pys es).any _) = (D.deq e d || memD d es)
    rw [D.eqv_py e d a1 h, ih a2]
/-- x in a list or a tuple -/
def rInM (neg : Bool) : R2m := fun d e S Q => match look S e with
  | .tup ds => (D.plain d = true ∧ D.plains ds = true ∧ D.dep d ≤ 64 ∧ D.deps ds ≤ 63) ∧ Q (.bl (if neg then !memD d ds else memD d ds)) S
  | .lst ds => (D.plain d = true ∧ D.plains ds = true ∧ D.dep d ≤ 64 ∧ D.deps ds ≤ 63) ∧ Q (.bl (if neg then !memD d ds else memD d ds)) S
  | .scr ds => (D.plain d = true ∧ D.plains ds = true ∧ D.dep d ≤ 64 ∧ D.deps ds ≤ 63) ∧ Q (.bl (if neg then !memD d ds else memD d ds)) S
  | _ => False
theorem rInM_at {neg : Bool} {d e : D} {S : Sto} {Q : MQ} (h : rInM neg d e S Q) : ∃ ds, (look S e = .tup ds ∨ look S e = .lst ds ∨ look S e = .scr ds) ∧ (D.plain d = true ∧ D.plains ds = true ∧ D.dep d ≤ 64 ∧ D.deps ds ≤ 63) ∧ Q (.bl (if neg then !memD d ds else memD d ds)) S := by
  unfold rInM at h
  split at h
  · next ds q => exact ⟨ds, .inl q, h⟩
  · next ds q => exact ⟨ds, .inr (.inl q), h⟩
  · next ds q => exact ⟨ds, .inr (.inr q), h⟩
  · exact h.elim
theorem ol_in : OpL X.K (fun x y H Q => rInD X.K x y H Q ∨ ∃ d ds, Dp X.K H x d ∧ Dp X.K H y (.tuple ds) ∧ SeqAt.shaped d = true ∧ SeqAt.shaped (.tuple ds) = true ∧ Q (.bl (ds.any fun z => PyData.eqv z d)) H) (rInM false) := fun H S x y d e Qm Q s rx ry h k => by
  obtain ⟨ds, hl, ⟨p1, p2, d1, d2⟩, q⟩ := rInM_at h
  have pl : D.plain (look S e) = true := by rcases hl with z | z | z <;> (rw [z]; exact p2)
  have dl : D.dep (look S e) ≤ 64 := by rcases hl with z | z | z <;> (rw [z, D.dep]; omega)
  have dp := look_dp s ry pl
  have sh := D.shaped_py pl dl
  have fin : ∀ K', RD K' H S (.bl ((D.pys ds).any fun z => PyData.eqv z (D.py d))) (.bl (memD d ds)) := fun _ => by rw [memD_py p1 p2]; exact .bl _
  rcases hl with z | z | z
  · rw [z, D.py] at dp sh
    exact .inr ⟨_, _, rx.dp p1, dp, D.shaped_py p1 d1, sh, k _ S _ H q Ext.refl s (fin _)⟩
  · rw [z, D.py] at dp sh
    exact .inl ⟨_, _, rx.dp p1, dp, D.shaped_py p1 d1, sh, k _ S _ H q Ext.refl s (fin _)⟩
  · rw [z, D.py] at dp sh
    exact .inl ⟨_, _, rx.dp p1, dp, D.shaped_py p1 d1, sh, k _ S _ H q Ext.refl s (fin _)⟩
theorem ol_notIn : OpL X.K (fun x y H Q => rNotInD X.K x y H Q ∨ ∃ d ds, Dp X.K H x d ∧ Dp X.K H y (.tuple ds) ∧ SeqAt.shaped d = true ∧ SeqAt.shaped (.tuple ds) = true ∧ Q (.bl (!ds.any fun z => PyData.eqv z d)) H) (rInM true) := fun H S x y d e Qm Q s rx ry h k => by
  obtain ⟨ds, hl, ⟨p1, p2, d1, d2⟩, q⟩ := rInM_at h
  have pl : D.plain (look S e) = true := by rcases hl with z | z | z <;> (rw [z]; exact p2)
  have dl : D.dep (look S e) ≤ 64 := by rcases hl with z | z | z <;> (rw [z, D.dep]; omega)
  have dp := look_dp s ry pl
  have sh := D.shaped_py pl dl
  have fin : ∀ K', RD K' H S (.bl (!(D.pys ds).any fun z => PyData.eqv z (D.py d))) (.bl (!memD d ds)) := fun _ => by rw [memD_py p1 p2]; exact .bl _
  rcases hl with z | z | z
  · rw [z, D.py] at dp sh
    exact .inr ⟨_, _, rx.dp p1, dp, D.shaped_py p1 d1, sh, k _ S _ H q Ext.refl s (fin _)⟩
  · rw [z, D.py] at dp sh
    exact .inl ⟨_, _, rx.dp p1, dp, D.shaped_py p1 d1, sh, k _ S _ H q Ext.refl s (fin _)⟩
  · rw [z, D.py] at dp sh
    exact .inl ⟨_, _, rx.dp p1, dp, D.shaped_py p1 d1, sh, k _ S _ H q Ext.refl s (fin _)⟩
theorem op_inA (hu : X.A.units + 65 < cLine) : OpR X (compareOp .In) (fun x y H Q => rInD X.K x y H Q ∨ ∃ d ds, Dp X.K H x d ∧ Dp X.K H y (.tuple ds) ∧ SeqAt.shaped d = true ∧ SeqAt.shaped (.tuple ds) = true ∧ Q (.bl (ds.any fun z => PyData.eqv z d)) H) := (op_inD hu).or (op_inDT hu)
theorem op_notInA (hu : X.A.units + 65 < cLine) : OpR X (compareOp .NotIn) (fun x y H Q => rNotInD X.K x y H Q ∨ ∃ d ds, Dp X.K H x d ∧ Dp X.K H y (.tuple ds) ∧ SeqAt.shaped d = true ∧ SeqAt.shaped (.tuple ds) = true ∧ Q (.bl (!ds.any fun z => PyData.eqv z d)) H) := (op_notInD hu).or (op_notInDT hu)

/-! ### is True, is False -/
def rIsBM (neg : Bool) : R2m := fun d e S Q => match d, e with
  | .bl p, .bl q => Q (.bl (if neg then !decide (p = q) else decide (p = q))) S
  | _, _ => False

/-! ### isinstance with built-in types -/
def tyD (S : Sto) : D → Option String
  | .non => some "NoneType"
  | .bl _ => some "bool"
  | .int _ => some "int"
  | .str _ => some "str"
  | .tup _ => some "tuple"
  | .lst _ => some "list"
  | .scr _ => some "list"
  | .ref p => match S p with
    | some (.lst _) => some "list"
    | some (.dK _) => some "dict"
    | _ => none
/-- isinstance of these types by these -/
def isTy (t u : String) : Bool := t == u || (t == "bool" && u == "int")
theorem tyD_ok {K : PySem.W.Frag} {H : Hp} {S : Sto} {v : V} {d : D} {t : String} (s : RSto K H S) (r : RD K H S v d) (h : tyD S d = some t) : TyX K H v (.type t) := by
  cases r with
  | non => cases h; exact .base .non
  | bl b => cases h; exact .base (.bl b)
  | int i => cases h; exact .base (.int i)
  | str x => cases h; exact .base (.str x)
  | tup h1 n r =>
    cases h
    rcases h1 with h1 | ⟨o, h1⟩
    · exact .base (.tup h1)
    · exact .fTuple h1
  | lst h1 n r => cases h; exact .base (.lst h1)
  | scr h1 n r => cases h; exact .base (.frz h1)
  | ktup h1 h2 h3 h4 h5 r => cases h; exact .kTuple h1 h2
  | klst h1 h2 h3 h4 h5 h6 r => cases h; exact .kList h1 h2
  | ref p =>
    simp only [tyD] at h
    cases e : S p with
    | none => rw [e] at h; cases h
    | some o =>
      rw [e] at h
      have q := s p o e
      cases o with
      | lst ds => obtain ⟨vs, e1, _⟩ := q; cases h; exact .base (.lst e1)
      | dK kvs => obtain ⟨vs, e1, _⟩ := q; cases h; exact .base (.dK e1)
      | ins C fs => cases h
      | exc C fs => cases h
      | dT kvs => cases h
      | dS kvs => cases h
def mIsi (u : String) (m : ME) : ME := fun σ S Q E => m σ S (fun d S1 => match tyD S1 d with
  | some t => Q (.bl (isTy t u)) S1
  | none => False) E
/-- the model's own answers on these types -/
def kitTab (K : PySem.W.Frag) (u : String) : Prop := ∀ t, t ∈ ["NoneType", "bool", "int", "str", "tuple", "list", "dict"] → PySem.W.kitOne K (.type t) (.type u) = some (isTy t u)
theorem tyD_mem {S : Sto} {d : D} {t : String} (h : tyD S d = some t) : t ∈ ["NoneType", "bool", "int", "str", "tuple", "list", "dict"] := by
  cases d with
  | ref p =>
    simp only [tyD] at h
    split at h
    · cases h; decide
    · cases h; decide
    · cases h
  | _ => cases h; decide
theorem eisi {u : String} {x : Str} {p px : Pos} (kt : kitTab X.K u) (hm : X.mg "isinstance" = none) (hmu : X.mg x = none) (ha : PE X a (upE X.K W m)) (hu : bootBuiltins x = some (.type u) := by decide +kernel) (hg : Gl X "isinstance" := by rfl) (hgu : Gl X x := by rfl)
    (hn : x ≠ "__name__" := by decide) (hdb : (x == ("__debug__" : Str)) = false := by decide)
    (hs : starEach (a :: [.Name x px]) X.env = (false, eval a X.env) :: starEach [.Name x px] X.env := by rfl) (hs2 : starEach (.Name x px :: []) X.env = (false, eval (.Name x px) X.env) :: starEach [] X.env := by rfl) (hpl : (backTo pos (starEach [.Name x px] X.env)).any (·.1) = false := by rfl) :
    PE X (.Call (.Name "isinstance" p) [a, .Name x px] [] pos) (upE X.K W (mIsi u m)) :=
  (pe_callB call_isi hg hm (by decide +kernel) (pa_cons ha (pa_cons (pe_bltn (v := .ty u) hgu hmu hu rfl hn hdb) pa_nil hs2) hs) (by decide) (by decide) hs hpl).to fun σ H Q ⟨m, S, Qm, Em, h1, h2, h3, h4, h5⟩ =>
    ⟨m, S, _, Em, h1, h2, h3, fun d S1 v H1 q e s r => by
      dsimp only at q
      cases ht : tyD S1 d with
      | none => rw [ht] at q; exact q.elim
      | some t =>
        rw [ht] at q
        exact ⟨v, .ty u, .type t, .type u, isTy t u, rfl, .ty u, tyD_ok s r ht, kt t (tyD_mem ht), h4 _ S1 _ H1 q e s (.bl _)⟩, h5⟩

/-! ### slices -/
def cutD (xs : List D) (lo hi : Option Int) : List D := (xs.drop (HT.sIx xs.length 0 lo)).take (HT.sIx xs.length xs.length hi - HT.sIx xs.length 0 lo)
theorem cut_rds {K : PySem.W.Frag} {H : Hp} {S : Sto} {vs : List V} {ds : List D} (r : RDs K H S vs ds) (lo hi : Option Int) : RDs K H S (cutV vs lo hi) (cutD ds lo hi) := by
  unfold cutV cutD
  rw [r.length]
  exact (r.drop _).take _
abbrev MO' := MSt → Sto → (Option Int → Sto → Prop) → MXQ → Prop
def upO (K : PySem.W.Frag) (W : WX) (m : MO') : TO := fun σ H Q => ∃ mσ S Qm Em, RSt K H S σ mσ ∧ RSto K H S ∧ m mσ S Qm Em ∧ (∀ o S' H', Qm o S' → Ext H S H' S' → RSto K H' S' → Q o H') ∧ RefX K H S Em (fun c d H' => W c d σ H')
def oNo : MO' := fun _ S Q _ => Q none S
def oSo (m : ME) : MO' := fun σ S Q E => m σ S (fun d S1 => match d with
  | .int i => Q (some i) S1
  | _ => False) E
theorem PO_to {oe : Option Expr} {t t' : TO} (h : PO X oe t) (i : ∀ σ H Q, t' σ H Q → t σ H Q) : PO X oe t' := by
  constructor
  intros
  apply h.run
  · assumption
  · exact i _ _ _ (by assumption)
theorem ono : PO X none (upO X.K W oNo) := PO_to po_none fun σ H Q ⟨m, S, Qm, Em, h1, h2, h3, h4, h5⟩ => h4 none S H h3 Ext.refl h2
theorem oso (h : PE X e (upE X.K W m)) : PO X (some e) (upO X.K W (oSo m)) := PO_to (po_some h) fun σ H Q ⟨m, S, Qm, Em, h1, h2, h3, h4, h5⟩ => ⟨m, S, _, Em, h1, h2, h3, fun d S1 v H1 q e s r => by
  cases d with
  | int i => cases r; exact ⟨i, rfl, h4 _ S1 H1 q e s⟩
  | _ => exact q.elim, h5⟩
/-- xs[lo:hi] of a list: a new one, which stays; of a tuple (not the whole of it) -/
def mCut (m : ME) (lo hi : MO') : ME := fun σ S Q E => m σ S (fun d S1 => lo σ S1 (fun l S2 => hi σ S2 (fun u S3 => match d with
  | .tup xs => ¬ (HT.sIx xs.length 0 l = 0 ∧ HT.sIx xs.length xs.length u = xs.length) ∧ Q (.tup (cutD xs l u)) S3
  | d => match lstOf S3 d with
    | some xs => Q (.lst (cutD xs l u)) S3
    | none => False) E) E) E
theorem ecut {lo hi : Option Expr} {ml mh : MO'} {p2 : Pos} (he : PE X e (upE X.K W m)) (hl : PO X lo (upO X.K W ml)) (hu : PO X hi (upO X.K W mh)) : PE X (.Subscript e (.Slice lo hi none p2) pos) (upE X.K W (mCut m ml mh)) :=
  (pe_slice (sl_tup.or sl_list) he hl hu).to fun σ H Q ⟨m, S, Qm, Em, h1, h2, h3, h4, h5⟩ => by
    refine ⟨m, S, _, Em, h1, h2, h3, fun d S1 v H1 q1 e1 s1 r1 => ⟨m, S1, _, Em, h1.ext e1, s1, q1, fun l S2 H2 q2 e2 s2 => ⟨m, S2, _, Em, h1.ext (e1.trans e2), s2, q2, fun u S3 H3 q3 e3 s3 => ?_, h5.ext (e1.trans e2)⟩, h5.ext e1⟩, h5⟩
    have r3 := r1.ext (e2.trans e3)
    have e123 := e1.trans (e2.trans e3)
    split at q3
    · next xs =>
      obtain ⟨a, vs, rfl, hq, rs⟩ := r3.tupSq
      refine .inl ⟨a, vs, rfl, hq, by rw [rs.length]; exact q3.1, fun p hp => ?_⟩
      exact h4 _ S3 _ _ q3.2 (e123.trans (Ext.new s3 hp)) (s3.new hp) (.tup (.inl upd_same) (s3.fresh hp) ((cut_rds rs l u).ext (Ext.new s3 hp)))
    · cases e : lstOf S3 d with
      | none => rw [e] at q3; exact q3.elim
      | some xs =>
        rw [e] at q3
        obtain ⟨a, vs, rfl, hq, rs⟩ := lst_sq s3 r3 e
        exact .inr ⟨a, vs, rfl, hq, fun p hp => h4 _ S3 _ _ q3 (e123.trans (Ext.new s3 hp)) (s3.new hp) (.lst upd_same (s3.fresh hp) ((cut_rds rs l u).ext (Ext.new s3 hp)))⟩

/-! ### methods of lists -/
/-- the receiver is a list -/
def isLst (S : Sto) (d : D) : Prop := ∃ xs, lstOf S d = some xs
abbrev RMm := D → List D → Sto → MQ → Prop
def MtL (K : PySem.W.Frag) (r : V → List V → Hp → VK → Prop) (rm : RMm) : Prop := ∀ (H : Hp) (S : Sto) (x : V) (xs : List V) (d : D) (ds : List D) (Qm : MQ) (Q : VK), RSto K H S → RD K H S x d → RDs K H S xs ds → rm d ds S Qm → Ref K H S Qm Q → r x xs H Q
def mMt (rm : RMm) (mo : ME) (t : MA) : ME := fun σ S Q E => mo σ S (fun d S1 => isLst S1 d ∧ t σ S1 (fun ds S2 => rm d ds S2 Q) E) E
def mMt0 (rm : RMm) (mo : ME) : ME := fun σ S Q E => mo σ S (fun d S1 => isLst S1 d ∧ rm d [] S1 Q) E
theorem isLst_ty {K : PySem.W.Frag} {H : Hp} {S : Sto} {v : V} {d : D} (s : RSto K H S) (r : RD K H S v d) (h : isLst S d) : tyV K "list" v H := by
  obtain ⟨xs, e⟩ := h
  obtain ⟨a, vs, rfl, hq, _⟩ := lst_sq s r e
  exact .inl ⟨rfl, vs, hq⟩
theorem emt {id : String} {name : Str} {r : V → List V → Hp → VK → Prop} {rm : RMm} {o : Expr} {mo : ME} {es : List Expr} {mas : MA} {apos cpos : Pos} (slot : Slot "list" name id) (hty : typeOf (.builtin id) = pure (.type "method_descriptor")) (hm : MtR X id r) (hl : MtL X.K r rm) (ho : PE X o (upE X.K W mo)) (ha : PA X (e :: es) (upA X.K W mas))
    (hbase : attributeBase o name X.env (eval o X.env) = eval o X.env := by rfl)
    (hfew : ((backTo cpos (starEach (e :: es) X.env)).all (fun x => !x.1) && (backToKw cpos (keywordEach [] X.env)).all (fun x => x.1.isSome)
      && decide ((e :: es).length + ([] : List Keyword).length + (if ([] : List Keyword).isEmpty then 0 else 1) < 30)) = true := by rfl)
    (hline : (apos.endLine == cpos.line) = true := by rfl) (hs : starEach (e :: es) X.env = (false, eval e X.env) :: starEach es X.env := by rfl) (hplain : (backTo cpos (starEach es X.env)).any (·.1) = false := by rfl) :
    PE X (.Call (.Attribute o name apos) (e :: es) [] cpos) (upE X.K W (mMt rm mo mas)) :=
  (pe_bm PySem.F.plainAttrs_list slot hty hm ho ha hbase hfew hline hs hplain).to fun σ H Q ⟨m, S, Qm, Em, h1, h2, h3, h4, h5⟩ =>
    ⟨m, S, _, Em, h1, h2, h3, fun d S1 v H1 q1 e1 s1 r1 => ⟨isLst_ty s1 r1 q1.1, m, S1, _, Em, h1.ext e1, s1, q1.2, fun ds S2 vs H2 q2 e2 s2 r2 => hl H2 S2 v vs d ds Qm Q s2 (r1.ext e2) r2 q2 (h4.ext (e1.trans e2)), h5.ext e1⟩, h5⟩
theorem emt0 {id : String} {name : Str} {r : V → List V → Hp → VK → Prop} {rm : RMm} {o : Expr} {mo : ME} {apos cpos : Pos} (slot : Slot "list" name id) (hty : typeOf (.builtin id) = pure (.type "method_descriptor")) (hm : MtR X id r) (hl : MtL X.K r rm) (ho : PE X o (upE X.K W mo))
    (hbase : attributeBase o name X.env (eval o X.env) = eval o X.env := by rfl) (hline : (apos.endLine == cpos.line) = true := by rfl) : PE X (.Call (.Attribute o name apos) [] [] cpos) (upE X.K W (mMt0 rm mo)) :=
  (pe_bm0 PySem.F.plainAttrs_list slot hty hm ho hbase hline).to fun σ H Q ⟨m, S, Qm, Em, h1, h2, h3, h4, h5⟩ =>
    ⟨m, S, _, Em, h1, h2, h3, fun d S1 v H1 q1 e1 s1 r1 => ⟨isLst_ty s1 r1 q1.1, hl H1 S1 v [] d [] Qm Q s1 r1 .nil q1.2 (h4.ext e1)⟩, h5⟩
/-- a list of the store becomes another one -/
theorem chg_lst {K : PySem.W.Frag} {H : Hp} {S : Sto} {p : Addr} {xs ys : List D} {vs : List V} (s : RSto K H S) (e : S p = some (.lst xs)) (r : RDs K H S vs ys) : Ext H S (upd H p (.lst vs)) (put S p (.lst ys)) ∧ RSto K (upd H p (.lst vs)) (put S p (.lst ys)) :=
  ⟨Ext.chg e, s.chg e ⟨vs, upd_same, r.ext (Ext.chg e)⟩⟩
def mtAppend : RMm := fun d ds S Q => match d, ds with
  | .ref p, [y] => match S p with
    | some (.lst xs) => xs.length < sizeLine ∧ Q .non (put S p (.lst (xs ++ [y])))
    | _ => False
  | _, _ => False
theorem ml_append : MtL X.K rAppend mtAppend := fun H S x vs d ds Qm Q s rx rs h k => by
  unfold mtAppend at h
  split at h
  · next p y =>
    cases rx
    obtain ⟨w, rfl, rw1⟩ := rds1 rs
    split at h
    · next xs e =>
      obtain ⟨us, eu, ru⟩ := s p _ e
      obtain ⟨x1, x2⟩ := chg_lst s e (ru.append (.cons rw1 .nil))
      exact ⟨p, us, w, rfl, rfl, eu, by rw [ru.length]; exact h.1, k _ _ _ _ h.2 x1 x2 .non⟩
    · exact h.elim
  · exact h.elim
def mtInsert : RMm := fun d ds S Q => match d, ds with
  | .ref p, [.int i, y] => match S p with
    | some (.lst xs) => (xs.length < sizeLine ∧ 0 ≤ i ∧ i < 2 ^ 63) ∧ Q .non (put S p (.lst (xs.take i.toNat ++ [y] ++ xs.drop i.toNat)))
    | _ => False
  | _, _ => False
theorem ml_insert : MtL X.K (fun x vs H Q => ∃ (l : Addr) (xs : List V) (i : Int) (y : V), x = .ref l ∧ vs = [.int i, y] ∧ H l = some (.lst xs) ∧ xs.length < sizeLine ∧ 0 ≤ i ∧ i < 2 ^ 63 ∧ Q .non (upd H l (.lst (xs.take i.toNat ++ [y] ++ xs.drop i.toNat)))) mtInsert := fun H S x vs d ds Qm Q s rx rs h k => by
  unfold mtInsert at h
  split at h
  · next p i y =>
    cases rx
    obtain ⟨v, w, rfl, rv, rw1⟩ := rds2 rs
    cases rv
    split at h
    · next xs e =>
      obtain ⟨us, eu, ru⟩ := s p _ e
      obtain ⟨x1, x2⟩ := chg_lst s e (((ru.take i.toNat).append (.cons rw1 .nil)).append (ru.drop i.toNat))
      exact ⟨p, us, i, w, rfl, rfl, eu, by rw [ru.length]; exact h.1.1, h.1.2.1, h.1.2.2, k _ _ _ _ h.2 x1 x2 .non⟩
    · exact h.elim
  · exact h.elim
/-- pop(): the last one; pop(i) -/
def mtPop : RMm := fun d ds S Q => match d, ds with
  | .ref p, [] => match S p with
    | some (.lst xs) => match xs[xs.length - 1]? with
      | some y => Q y (put S p (.lst xs.dropLast))
      | none => False
    | _ => False
  | _, _ => False
theorem ml_pop : MtL X.K rPop mtPop := fun H S x vs d ds Qm Q s rx rs h k => by
  unfold mtPop at h
  split at h
  · next p =>
    cases rx
    cases rs
    split at h
    · next xs e =>
      split at h
      · next y ey =>
        obtain ⟨us, eu, ru⟩ := s p _ e
        obtain ⟨w, ew, rw1⟩ := ru.get ey
        obtain ⟨x1, x2⟩ := chg_lst s e ru.dropLast
        exact ⟨p, us, w, rfl, rfl, eu, by rw [ru.length]; exact ew, k _ _ _ _ h x1 x2 (rw1.ext x1)⟩
      · exact h.elim
    · exact h.elim
  · exact h.elim
def mtPop0 : RMm := fun d ds S Q => match d, ds with
  | .ref p, [.int 0] => match S p with
    | some (.lst (y :: xs)) => Q y (put S p (.lst xs))
    | _ => False
  | _, _ => False
theorem ml_pop0 : MtL X.K rPopAt mtPop0 := fun H S x vs d ds Qm Q s rx rs h k => by
  unfold mtPop0 at h
  split at h
  · next p =>
    cases rx
    obtain ⟨v, rfl, rv⟩ := rds1 rs
    cases rv
    split at h
    · next y xs e =>
      obtain ⟨us, eu, ru⟩ := s p _ e
      cases ru with
      | cons r0 r1 =>
        obtain ⟨x1, x2⟩ := chg_lst s e r1
        refine ⟨p, _, 0, 0, _, rfl, rfl, eu, by decide, by decide, ?_, rfl, k _ _ _ _ h x1 x2 (r0.ext x1)⟩
        exact PySem.StrLaws.seqIndex_nonneg (by decide) (by simp <;> omega)
    · exact h.elim
  · exact h.elim
def mtReverse : RMm := fun d ds S Q => match d, ds with
  | .ref p, [] => match S p with
    | some (.lst xs) => Q .non (put S p (.lst xs.reverse))
    | _ => False
  | _, _ => False
theorem ml_reverse : MtL X.K rReverse mtReverse := fun H S x vs d ds Qm Q s rx rs h k => by
  unfold mtReverse at h
  split at h
  · next p =>
    cases rx; cases rs
    split at h
    · next xs e =>
      obtain ⟨us, eu, ru⟩ := s p _ e
      obtain ⟨x1, x2⟩ := chg_lst s e ru.reverse
      exact ⟨p, us, rfl, rfl, eu, k _ _ _ _ h x1 x2 .non⟩
    · exact h.elim
  · exact h.elim
def mtClear : RMm := fun d ds S Q => match d, ds with
  | .ref p, [] => match S p with
    | some (.lst xs) => Q .non (put S p (.lst []))
    | _ => False
  | _, _ => False
theorem ml_clear : MtL X.K rClear mtClear := fun H S x vs d ds Qm Q s rx rs h k => by
  unfold mtClear at h
  split at h
  · next p =>
    cases rx; cases rs
    split at h
    · next xs e =>
      obtain ⟨us, eu, ru⟩ := s p _ e
      obtain ⟨x1, x2⟩ := chg_lst s e .nil
      exact ⟨p, us, rfl, rfl, eu, k _ _ _ _ h x1 x2 .non⟩
    · exact h.elim
  · exact h.elim
def mtExtend : RMm := fun d ds S Q => match d, ds with
  | .ref p, [y] => match S p, ownOf S y with
    | some (.lst xs), some ys => xs.length + ys.length ≤ sizeLine ∧ Q .non (put S p (.lst (xs ++ ys)))
    | _, _ => False
  | _, _ => False
theorem ml_extend : MtL X.K rExtend mtExtend := fun H S x vs d ds Qm Q s rx rs h k => by
  unfold mtExtend at h
  split at h
  · next p y =>
    cases rx
    obtain ⟨w, rfl, rw1⟩ := rds1 rs
    split at h
    · next xs ys e e2 =>
      obtain ⟨us, eu, ru⟩ := s p _ e
      obtain ⟨b, ws, rfl, eb, rb⟩ := own_sq s rw1 e2
      obtain ⟨x1, x2⟩ := chg_lst s e (ru.append rb)
      exact ⟨p, b, us, ws, rfl, rfl, eu, eb, by rw [ru.length, rb.length]; exact h.1, k _ _ _ _ h.2 x1 x2 .non⟩
    · exact h.elim
  · exact h.elim
/-- index: the first place of an equal one -/
def idxD (d : D) : List D → Option Nat
  | [] => none
  | e :: es => if D.deq e d = true then some 0 else (idxD d es).map (· + 1)
theorem idxD_at {d : D} : ∀ {ds : List D} {j : Nat}, idxD d ds = some j → ∃ z, ds[j]? = some z ∧ D.deq z d = true ∧ ∀ (m : Nat) (z' : D), m < j → ds[m]? = some z' → D.deq z' d = false
  | [], j, h => by cases h
  | e :: es, j, h => by
    unfold idxD at h
    split at h
    · next he => cases h; exact ⟨e, rfl, he, fun m z' hm => absurd hm (Nat.not_lt_zero _)⟩
    · next he =>
      cases q : idxD d es with
      | none => rw [q] at h; cases h
      | some i =>
        rw [q] at h; cases h
        obtain ⟨z, h1, h2, h3⟩ := idxD_at q
        refine ⟨z, by simpa using h1, h2, fun m z' hm hz => ?_⟩
        cases m with
        | zero => simp at hz; subst hz; simpa using he
        | succ m => exact h3 m z' (Nat.lt_of_succ_lt_succ hm) (by simpa using hz)
theorem pys_get {ds : List D} {i : Nat} : (D.pys ds)[i]? = (ds[i]?).map D.py := by
  induction ds generalizing i with
  | nil => rw [D.pys]; simp
  | cons d ds ih => rw [D.pys]; cases i with
    | zero => rfl
    | succ i => simpa using ih
theorem plains_get {ds : List D} {i : Nat} {d : D} (h : D.plains ds = true) (e : ds[i]? = some d) : D.plain d = true := by
  induction ds generalizing i with
  | nil => simp at e
  | cons a ds ih =>
    obtain ⟨a1, a2⟩ := Bool.and_eq_true_iff.mp (show (D.plain a && D.plains ds) = true from h)
    cases i with
    | zero => simp at e; subst e; exact a1
    | succ i => exact ih a2 (by simpa using e)
def mtIndex : RMm := fun d ds S Q => match ds with
  | [y] => match lstOf S d with
    | some xs => (D.plain y = true ∧ D.plains xs = true ∧ D.dep y ≤ 64 ∧ D.deps xs ≤ 63) ∧ match idxD y xs with
      | some j => Q (.int (j : Nat)) S
      | none => False
    | none => False
  | _ => False
theorem lst_dp {K : PySem.W.Frag} {H : Hp} {S : Sto} {v : V} {d : D} {xs : List D} (s : RSto K H S) (r : RD K H S v d) (h : lstOf S d = some xs) (p : D.plains xs = true) : ∃ a, v = .ref a ∧ Dp K H (.ref a) (.list (D.pys xs)) := by
  obtain ⟨a, vs, rfl, hq, rs⟩ := lst_sq s r h
  exact ⟨a, rfl, .lst hq (rs.dp p)⟩
theorem ml_index : MtL X.K (rIndexD X.K) mtIndex := fun H S x vs d ds Qm Q s rx rs h k => by
  unfold mtIndex at h
  split at h
  · next y =>
    obtain ⟨w, rfl, rw1⟩ := rds1 rs
    split at h
    · next xs e =>
      obtain ⟨⟨p1, p2, d1, d2⟩, h⟩ := h
      split at h
      · next j ej =>
        obtain ⟨a, rfl, dp⟩ := lst_dp s rx e p2
        obtain ⟨z, hz, hzy, hno⟩ := idxD_at ej
        have pz := plains_get p2 hz
        refine ⟨a, w, D.py y, D.pys xs, j, D.py z, rfl, rfl, dp, rw1.dp p1, ?_, D.shaped_py p1 d1, by rw [pys_get, hz]; rfl, by rw [D.eqv_py _ _ pz p1]; exact hzy, fun m z' hm hz' => ?_, k _ S _ H h Ext.refl s (.int _)⟩
        · have := D.shaped_py (d := .lst xs) p2 (by rw [D.dep]; omega)
          rw [D.py] at this; exact this
        · rw [pys_get] at hz'
          cases q : xs[m]? with
          | none => rw [q] at hz'; cases hz'
          | some z2 =>
            rw [q] at hz'; cases hz'
            rw [D.eqv_py _ _ (plains_get p2 q) p1]; exact hno m z2 hm q
      · exact h.elim
    · exact h.elim
  · exact h.elim
theorem eappend {o : Expr} {mo ma : ME} {apos cpos : Pos} (ho : PE X o (upE X.K W mo)) (ha : PE X a (upE X.K W ma)) (hs : starEach (a :: []) X.env = (false, eval a X.env) :: starEach [] X.env := by rfl) (hbase : attributeBase o "append" X.env (eval o X.env) = eval o X.env := by rfl)
    (hfew : ((backTo cpos (starEach (a :: []) X.env)).all (fun x => !x.1) && (backToKw cpos (keywordEach [] X.env)).all (fun x => x.1.isSome)
      && decide ((a :: ([] : List Expr)).length + ([] : List Keyword).length + (if ([] : List Keyword).isEmpty then 0 else 1) < 30)) = true := by rfl)
    (hline : (apos.endLine == cpos.line) = true := by rfl) (hplain : (backTo cpos (starEach [] X.env)).any (·.1) = false := by rfl) : PE X (.Call (.Attribute o "append" apos) [a] [] cpos) (upE X.K W (mMt mtAppend mo (mCons ma mNil))) :=
  emt PySem.F.slot_list_append PySem.F.type_list_append mt_append ml_append ho (acons ha anil hs) hbase hfew hline hs hplain
end
end ML

set_option maxRecDepth 100000
namespace ML
open PySem PySem.Spec L2
open PyProof.Rows hiding St

theorem u65 {k : Nat} {A : Around} (r : Room k A) : A.units + 65 < cLine := by have := r.un; omega
section
variable {X : Cx} {W : WX} {a b c e tg : Expr} {ma mb mc m : ME} {pos : Pos} {g : MG}
theorem eglobI {x : Str} {i : Int} {pos : Pos} (hm : ∃ t, X.mg x = some (.int i t)) (hg : Gl X x := by rfl) (hd : (x == ("__debug__" : Str)) = false := by decide) : PE X (.Name x pos) (upE X.K W (mC (.int i))) := by
  obtain ⟨t, h⟩ := hm
  exact eglob (v := .int i) (fun _ _ _ => .int i) ⟨t, rfl⟩ h hg hd
theorem eglobS {x : Str} {i : Str} {pos : Pos} (hm : ∃ t, X.mg x = some (.str i t)) (hg : Gl X x := by rfl) (hd : (x == ("__debug__" : Str)) = false := by decide) : PE X (.Name x pos) (upE X.K W (mC (.str i))) := by
  obtain ⟨t, h⟩ := hm
  exact eglob (v := .str i) (fun _ _ _ => .str i) ⟨t, rfl⟩ h hg hd

/-! ### comprehensions -/
def wipeM (σ : MSt) : List Nat → MSt
  | [] => σ
  | v :: vs => (wipeM σ vs).set v none
theorem wipe_rst {K : PySem.W.Frag} {H : Hp} {S : Sto} {σ : L2.St} {m : MSt} (r : RSt K H S σ m) : ∀ vs : List Nat, RSt K H S (wipe σ vs) (wipeM m vs)
  | [] => r
  | v :: vs => (wipe_rst r vs).unset v none
theorem wipe_get {σ : L2.St} {i : Nat} : ∀ {vs : List Nat}, i < σ.length → (wipe σ vs)[i]? = if i ∈ vs then some none else σ[i]?
  | [], _ => by simp [wipe]
  | v :: vs, h => by
    unfold wipe
    by_cases hv : v = i
    · subst hv
      rw [List.getElem?_set_self (by rw [wipe_length]; exact h)]
      simp
    · rw [List.getElem?_set_ne hv, wipe_get h]
      simp [Ne.symm hv]
theorem wipe_ext {σ τ : L2.St} {vs : List Nat} (hl : σ.length = τ.length) (h : ∀ i, i ∉ vs → σ[i]? = τ[i]?) : wipe σ vs = wipe τ vs := by
  apply List.ext_getElem?
  intro i
  by_cases hi : i < σ.length
  · rw [wipe_get hi, wipe_get (by omega)]
    split
    · rfl
    · next hn => exact h i hn
  · rw [List.getElem?_eq_none (by rw [wipe_length]; omega), List.getElem?_eq_none (by rw [wipe_length]; omega)]
theorem wipe_idem {σ : L2.St} {vs : List Nat} : wipe (wipe σ vs) vs = wipe σ vs :=
  wipe_ext (wipe_length _ _) fun i hi => by
    by_cases hl : i < σ.length
    · rw [wipe_get hl, if_neg hi]
    · rw [List.getElem?_eq_none (by rw [wipe_length]; omega), List.getElem?_eq_none (by omega)]
theorem wipe_set {σ : L2.St} {vs : List Nat} {i : Nat} {o : Option V} (h : i ∈ vs) : wipe (σ.set i o) vs = wipe σ vs :=
  wipe_ext (List.length_set ..) fun j hj => List.getElem?_set_ne (fun e => by subst e; exact hj h)
/-- a target that stores the names at vs alone, and raises nothing -/
def upGo (K : PySem.W.Frag) (vs : List Nat) (g : MG) : TG := fun v σ H Q => ∃ d mσ S Qm, RD K H S v d ∧ RSt K H S σ mσ ∧ RSto K H S ∧ g d mσ S Qm (fun _ _ => False) ∧ ∀ m S' σ' H', Qm m S' → Ext H S H' S' → RSto K H' S' → RSt K H' S' σ' m → wipe σ' vs = wipe σ vs → Q σ' H'
theorem gonm {i : Nat} {x : Str} {vs : List Nat} (hN : X.N.Nodup) (hv : i ∈ vs) (hi : X.N[i]? = some x := by rfl) (hx : Loc X.env.scope x := by first | exact Or.inl rfl | exact Or.inr rfl) (hf : X.fn x = true ∨ X.env.scope.names.lookup x = some .local := by first | exact .inr rfl | exact .inl rfl | assumption) :
    PG X (.Name x pos) (upGo X.K vs (gNm i)) := (pg_name hN hi hx hf).to fun v σ H Q ⟨d, m, S, Qm, r, h1, h2, h3, h4⟩ => h4 _ S _ H h3 Ext.refl h2 (h1.set r i) (wipe_set hv)
def upGos (K : PySem.W.Frag) (vs : List Nat) (g : MGs) : TGs := fun us σ H Q => ∃ ds mσ S Qm, RDs K H S us ds ∧ RSt K H S σ mσ ∧ RSto K H S ∧ g ds mσ S Qm (fun _ _ => False) ∧ ∀ m S' σ' H', Qm m S' → Ext H S H' S' → RSto K H' S' → RSt K H' S' σ' m → wipe σ' vs = wipe σ vs → Q σ' H'
theorem gonl {vs : List Nat} : PGs X [] (upGos X.K vs gNl) := by
  constructor
  intro pins s σ H us ws Q I r ⟨ds, m, S, Qm, r1, h1, h2, h3, h4⟩
  cases ds with
  | nil => cases r1; exact pgs_nil.run pins s σ H [] ws Q I r ⟨rfl, h4 m S σ H h3 Ext.refl h2 h1 rfl⟩
  | cons _ _ => exact h3.elim
theorem gocn {vs : List Nat} {gs : MGs} {es : List Expr} (h1 : PG X e (upGo X.K vs g)) (h2 : PGs X es (upGos X.K vs gs)) (hs : (assignEach (e :: es) X.env).map (·.2) = assign e X.env :: (assignEach es X.env).map (·.2) := by rfl) : PGs X (e :: es) (upGos X.K vs (gCn g gs)) := by
  constructor
  intro pins s σ H us ws Q I r ⟨ds, m, S, Qm, r1, k1, k2, k3, k4⟩
  refine (pgs_cons h1 h2 hs).run pins s σ H us ws Q I r ?_
  cases ds with
  | nil => exact k3.elim
  | cons d ds =>
    cases r1 with
    | cons rd rds =>
      refine ⟨_, _, rfl, d, m, S, _, rd, k1, k2, k3, fun m' S' σ' H' q e s' st w1 => ?_⟩
      exact ⟨ds, m', S', Qm, rds.ext e, st, s', q, fun m2 S2 σ2 H2 q2 e2 s2 r2 w2 => k4 m2 S2 σ2 H2 q2 (e.trans e2) s2 r2 (w2.trans w1)⟩
theorem gotp {vs : List Nat} {gs : MGs} {es : List Expr} {k n : Nat} (hc : X.calm = true) (h : PGs X es (upGos X.K vs gs)) (hn : (assignEach es X.env).length = n := by rfl) (hst : (assignEach es X.env).findIdx? (·.1) = none := by rfl) : PG X (.Tuple es k pos) (upGo X.K vs (gTp n gs)) :=
  (pg_tup hc h hn hst).to fun v σ H Q ⟨d, m, S, Qm, r, h1, h2, h3, h4⟩ => by
    cases d with
    | tup ds =>
      obtain ⟨a, us, rfl, hq, rs⟩ := r.tupSq
      exact ⟨a, us, rfl, hq, rs.length.trans h3.1, ds, m, S, Qm, rs, h1, h2, h3.2, h4⟩
    | _ => exact h3.elim
abbrev W0 : WX := fun _ _ _ _ => False
def mYes : MT := fun _ S Q _ => Q true S
theorem tsNil : PTs X [] (upT X.K W0 mYes) := by
  constructor
  intro pins s σ H Q I ⟨m, S, Qm, Em, h1, h2, h3, h4, _⟩
  exact pts_nil.run pins s σ H Q I (h4 true S H h3 Ext.refl h2)
def noX : MXQ := fun _ _ => False
def wlc (G : Sto → Prop) (g : MG) (mt : MT) (me : ME) (p : Addr) (own : List Nat) (σ : MSt) (fin : List D → Sto → Prop) (items : List D) (S : Sto) : Prop := ∃ I : Nat → Sto → Prop, I 0 S ∧ ∀ i S, i ≤ items.length → I i S → G S ∧ match items[i]? with
  | some d => g d (wipeM σ own) S (fun σ2 S2 => mt σ2 S2 (fun k S3 => if k = true then me σ2 S3 (fun y S4 => ∃ acc, S4 p = some (.lst acc) ∧ acc.length < sizeLine ∧ I (i + 1) (put S4 p (.lst (acc ++ [y])))) noX else I (i + 1) S3) noX) noX
  | none => ∃ acc, S p = some (.lst acc) ∧ fin acc S
def del (S : Sto) (p : Addr) : Sto := fun b => if b = p then none else S b
theorem del_put {S : Sto} {p : Addr} {o : MO} (h : S p = none) : del (put S p o) p = S := by
  funext b; unfold del put
  by_cases e : b = p
  · subst e; rw [if_pos rfl, h]
  · rw [if_neg e, if_neg e]
/-- a new list of the store; one that stays -/
def mComp (mi : MI) (g : MG) (mt : MT) (me : ME) (own : List Nat) : ME := fun σ S Q E => mi σ S (fun items G S1 => ∀ p, S1 p = none → wlc G g mt me p own σ (fun _ S2 => Q (.ref p) S2) items (put S1 p (.lst []))) E
def mCompF (mi : MI) (g : MG) (mt : MT) (me : ME) (own : List Nat) : ME := fun σ S Q E => mi σ S (fun items G S1 => ∀ p, S1 p = none → wlc G g mt me p own σ (fun acc S2 => Q (.lst acc) (del S2 p)) items (put S1 p (.lst []))) E
/-- what the rule below wants, from the reading -/
theorem lc_to {mt : MT} {me : ME} {vs : List Nat} {K : PySem.W.Frag} {σ : L2.St} {m : MSt} {H1 : Hp} {S1 : Sto} {J : It} {items : List D} {G : Sto → Prop} {Dp : Addr} {Q : VK} {fin : List D → Sto → Prop} (h1 : RSt K H1 S1 σ m) (s1 : RSto K H1 S1) (it : ItOk K H1 S1 J items G)
    (hD : H1 Dp = none) (h : wlc G g mt me Dp vs m fin items (put S1 Dp (.lst [])))
    (hf : ∀ acc H S, fin acc S → S Dp = some (.lst acc) → Ext H1 S1 H S → RSto K H S → Q (.ref Dp) H) :
    ∃ W : Nat → Nat → Hp → Prop, (∃ n, W 0 n (upd H1 Dp (.lst []))) ∧ ∀ i n H, W i n H → (J.stop i H ∧ Q (.ref Dp) H) ∨ (J.go i H ∧ ∃ Nx : Hp → Prop, (∀ H', Nx H' → ∃ m', m' < n ∧ W (i + 1) m' H') ∧ ∀ x H', J.yld i H x H' →
      upGo K vs g x (wipe σ vs) H' fun σ2 H2 => wipe σ2 vs = wipe σ vs ∧ upT K W0 mt σ2 H2 fun b H3 => if b = true then upE K W0 me σ2 H3 fun y H4 => ∃ acc, H4 Dp = some (.lst acc) ∧ acc.length < sizeLine ∧ Nx (upd H4 Dp (.lst (acc ++ [y]))) else Nx H3) := by
  have x0 : Ext H1 S1 (upd H1 Dp (.lst [])) (put S1 Dp (.lst [])) := Ext.newS s1 hD
  obtain ⟨I, i0, turn⟩ := h
  refine ⟨fun i n H => n = items.length - i ∧ i ≤ items.length ∧ ∃ S, RSto K H S ∧ Ext H1 S1 H S ∧ I i S, ⟨items.length, by simp, Nat.zero_le _, _, s1.newS (o := .lst []) hD ⟨[], upd_same, .nil⟩, x0, i0⟩, ?_⟩
  rintro i n H ⟨rfl, hle, S, s, e, q⟩
  obtain ⟨gS, q⟩ := turn i S hle q
  by_cases hlt : i < items.length
  · rw [List.getElem?_eq_getElem hlt] at q
    refine .inr ⟨it.go i H S e s gS hlt, fun H' => ∃ S', RSto K H' S' ∧ Ext H1 S1 H' S' ∧ I (i + 1) S', fun H' z => ⟨items.length - (i + 1), by omega, rfl, hlt, z⟩, fun v H2 y => ?_⟩
    obtain ⟨e2, s2, r2⟩ := it.yld i H S v H2 _ e s gS (List.getElem?_eq_getElem hlt) y
    refine ⟨_, wipeM m vs, S, _, r2, wipe_rst (h1.ext (e.trans e2)) vs, s2, q, fun m3 S3 σ3 H3 q3 e3 s3 r3 w3 => ⟨w3.trans wipe_idem, m3, S3, _, noX, r3, s3, q3, fun k S4 H4 q4 e4 s4 => ?_, fun _ _ _ _ _ z => z.elim⟩⟩
    have e1234 := e.trans (e2.trans (e3.trans e4))
    cases k with
    | true =>
      rw [if_pos rfl] at q4
      show (if true = true then _ else _)
      rw [if_pos rfl]
      refine ⟨m3, S4, _, noX, r3.ext e4, s4, q4, fun d S5 w5 H5 q5 e5 s5 r5 => ?_, fun _ _ _ _ _ z => z.elim⟩
      obtain ⟨acc, ea, hz, q6⟩ := q5
      obtain ⟨us, eu, ru⟩ := s5 _ _ ea
      obtain ⟨x1, x2⟩ := chg_lst s5 ea (ru.append (.cons r5 .nil))
      exact ⟨us, eu, by rw [ru.length]; exact hz, _, x2, e1234.trans (e5.trans x1), q6⟩
    | false =>
      rw [if_neg Bool.false_ne_true] at q4
      show (if false = true then _ else _)
      rw [if_neg Bool.false_ne_true]
      exact ⟨S4, s4, e1234, q4⟩
  · rw [List.getElem?_eq_none (by omega)] at q
    obtain ⟨acc, ea, q⟩ := q
    exact .inl ⟨it.stop i H S e s gS (by omega), hf acc H S q ea e s⟩
/-- a comprehension whose element leaves the store as it is: no test -/
theorem wlc_map {G : Sto → Prop} {me : ME} {p : Addr} {own : List Nat} {σ : MSt} {fin : List D → Sto → Prop} {items : List D} {S : Sto} (f : D → D) (hp : S p = none) (hz : items.length ≤ 1000) (hG : ∀ acc, G (put S p (.lst acc)))
    (h : ∀ (d : D) (acc : List D) (Q : MQ), d ∈ items → Q (f d) (put S p (.lst acc)) → g d (wipeM σ own) (put S p (.lst acc)) (fun σ2 S2 => me σ2 S2 Q noX) noX) (hf : fin (items.map f) (put S p (.lst (items.map f)))) :
    wlc G g mYes me p own σ fin items (put S p (.lst [])) := by
  refine ⟨fun i S' => S' = put S p (.lst ((items.take i).map f)), by simp, fun i S' hi e => ?_⟩
  subst e
  refine ⟨hG _, ?_⟩
  by_cases hlt : i < items.length
  · rw [List.getElem?_eq_getElem hlt]
    refine h items[i] _ _ (List.getElem_mem hlt) ⟨_, put_same, ?_, ?_⟩
    · rw [List.length_map, List.length_take, sizeLine_eq]; omega
    · dsimp only
      rw [put_put, List.take_succ_eq_append_getElem hlt, List.map_append]; rfl
  · have e : i = items.length := by omega
    subst e
    rw [List.getElem?_eq_none (by omega)]
    exact ⟨_, put_same, by rw [List.take_length]; exact hf⟩
/-- with a test -/
theorem wlc_filter {G : Sto → Prop} {mt : MT} {me : ME} {p : Addr} {own : List Nat} {σ : MSt} {fin : List D → Sto → Prop} {items : List D} {S : Sto} (t : D → Bool) (f : D → D) (hp : S p = none) (hz : items.length ≤ 1000) (hG : ∀ acc, G (put S p (.lst acc)))
    (h : ∀ (d : D) (acc : List D) (Q : Bool → Sto → Prop) (Q' : MQ), d ∈ items → (t d = true → Q' (f d) (put S p (.lst acc))) → (t d = false → Q false (put S p (.lst acc))) →
      g d (wipeM σ own) (put S p (.lst acc)) (fun σ2 S2 => mt σ2 S2 (fun k S3 => if k = true then me σ2 S3 Q' noX else Q false S3) noX) noX) (hf : fin ((items.filter t).map f) (put S p (.lst ((items.filter t).map f)))) :
    wlc G g mt me p own σ fin items (put S p (.lst [])) := by
  refine ⟨fun i S' => S' = put S p (.lst (((items.take i).filter t).map f)), by simp, fun i S' hi e => ?_⟩
  subst e
  refine ⟨hG _, ?_⟩
  by_cases hlt : i < items.length
  · rw [List.getElem?_eq_getElem hlt]
    have ht : items.take (i + 1) = items.take i ++ [items[i]] := List.take_succ_eq_append_getElem hlt
    refine h items[i] _ (fun _ S3 => S3 = put S p (.lst (((items.take (i + 1)).filter t).map f))) _ (List.getElem_mem hlt) (fun k => ⟨_, put_same, ?_, ?_⟩) (fun k => ?_)
    · have : ((items.take i).filter t).length ≤ (items.take i).length := List.length_filter_le ..
      rw [List.length_take] at this
      rw [List.length_map, sizeLine_eq]; omega
    · dsimp only
      rw [put_put, ht, List.filter_append, List.map_append]
      simp [k]
    · rw [ht, List.filter_append, List.map_append]
      simp [k]
  · have e : i = items.length := by omega
    subst e
    rw [List.getElem?_eq_none (by omega)]
    exact ⟨_, put_same, by rw [List.take_length]; exact hf⟩
theorem rsto_del {K : PySem.W.Frag} {H : Hp} {S : Sto} {p : Addr} (s : RSto K H S) : Ext H S H (del S p) := fun a o h n => ⟨h, by unfold del; split <;> first | rfl | exact n⟩
theorem rsto_del' {K : PySem.W.Frag} {H : Hp} {S : Sto} {p : Addr} (s : RSto K H S) : RSto K H (del S p) := fun a o e => by
  unfold del at e
  split at e
  · cases e
  · exact (s a o e).ext (rsto_del s) rfl
theorem ecomp {elt iter : Expr} {ifs : List Expr} {scope : Scope} {own : List (Str × Nat)} {mi : MI} {mt : MT} {me : ME} (hc : X.calm = true) (hN : X.N.Nodup) (hi : PI X tg iter (upI X.K W mi)) (ok : BlkOk X.N X.env.scope scope own)
    (hg : ∀ (s : Shared) (H : Hp) (C : Addr) (cl : List (Str × Addr)) (fp : List Addr), PG (X.blk s H scope (compEnvC scope cl C X.env) fp) tg (upGo X.K (own.map (·.2)) g)) (ht : ∀ (s : Shared) (H : Hp) (C : Addr) (cl : List (Str × Addr)) (fp : List Addr), PTs (X.blk s H scope (compEnvC scope cl C X.env) fp) ifs (upT X.K W0 mt))
    (he : ∀ (s : Shared) (H : Hp) (C : Addr) (cl : List (Str × Addr)) (fp : List Addr), PE (X.blk s H scope (compEnvC scope cl C X.env) fp) elt (upE X.K W0 me)) (hs : ∀ x, foldedSetIterable iter X.env x = pure x := by intro _; rfl) :
    PE X (.ListComp elt [⟨tg, iter, ifs, 0⟩] scope pos) (upE X.K W (mComp mi g mt me (own.map (·.2)))) :=
  (pe_lc hc hN hi ok hg ht he hs).to fun σ H Q ⟨m, S, Qm, Em, h1, h2, h3, h4, h5⟩ => ⟨m, S, _, Em, h1, h2, h3, fun items G S1 J H1 q e1 s1 it Dp hD =>
    lc_to (h1.ext e1) s1 it hD (q Dp (s1.fresh hD)) fun acc H' S' f ea e' s' => h4 _ S' _ H' f (e1.trans e') s' (.ref Dp), h5⟩
theorem ecompF {elt iter : Expr} {ifs : List Expr} {scope : Scope} {own : List (Str × Nat)} {mi : MI} {mt : MT} {me : ME} (hc : X.calm = true) (hN : X.N.Nodup) (hi : PI X tg iter (upI X.K W mi)) (ok : BlkOk X.N X.env.scope scope own)
    (hg : ∀ (s : Shared) (H : Hp) (C : Addr) (cl : List (Str × Addr)) (fp : List Addr), PG (X.blk s H scope (compEnvC scope cl C X.env) fp) tg (upGo X.K (own.map (·.2)) g)) (ht : ∀ (s : Shared) (H : Hp) (C : Addr) (cl : List (Str × Addr)) (fp : List Addr), PTs (X.blk s H scope (compEnvC scope cl C X.env) fp) ifs (upT X.K W0 mt))
    (he : ∀ (s : Shared) (H : Hp) (C : Addr) (cl : List (Str × Addr)) (fp : List Addr), PE (X.blk s H scope (compEnvC scope cl C X.env) fp) elt (upE X.K W0 me)) (hs : ∀ x, foldedSetIterable iter X.env x = pure x := by intro _; rfl) :
    PE X (.ListComp elt [⟨tg, iter, ifs, 0⟩] scope pos) (upE X.K W (mCompF mi g mt me (own.map (·.2)))) :=
  (pe_lc hc hN hi ok hg ht he hs).to fun σ H Q ⟨m, S, Qm, Em, h1, h2, h3, h4, h5⟩ => ⟨m, S, _, Em, h1, h2, h3, fun items G S1 J H1 q e1 s1 it Dp hD =>
    lc_to (h1.ext e1) s1 it hD (q Dp (s1.fresh hD)) fun acc H' S' f ea e' s' => by
      obtain ⟨us, eu, ru⟩ := s' _ _ ea
      exact h4 _ (del S' Dp) _ H' f (e1.trans (e'.trans (rsto_del s'))) (rsto_del' s') (.lst eu (if_pos rfl) (ru.ext (rsto_del s'))), h5⟩
end

/-! ### the head's facts, with what isinstance answers -/
def kitB (K : PySem.W.Frag) (u : String) : Bool := (["NoneType", "bool", "int", "str", "tuple", "list", "dict"] : List String).all fun t => decide (PySem.W.kitOne K (.type t) (.type u) = some (isTy t u))
theorem kitB_ok {K : PySem.W.Frag} {u : String} (h : kitB K u = true) : kitTab K u := fun t ht => of_decide_eq_true (List.all_eq_true.mp h t ht)
abbrev AlK : Type := He.AlD × Bool
def obsK (fa : List He.Fa) (fn : List He.DefD) (ks : List String) (K : PySem.W.Frag) : AlK := (He.obsD fa fn K, ks.all (kitB K))
structure SaysK (fa : List He.Fa) (fn : List He.DefD) (ks : List String) (K : PySem.W.Frag) : Prop where
  says : He.SaysD fa fn K
  kits : ks.all (kitB K) = true
theorem SaysK.kit {fa : List He.Fa} {fn : List He.DefD} {ks : List String} {K : PySem.W.Frag} (c : SaysK fa fn ks K) (u : String) (h : u ∈ ks) : kitTab K u := kitB_ok (List.all_eq_true.mp c.kits u h)
def obsKG (n : Nat) (fa : List He.Fa) (fn : List He.DefD) (ks : List String) (g : Addr → Option Obj) : AlK := obsK fa fn ks (He.frG g (He.asD g n))
def hookK (n : Nat) (fa : List He.Fa) (fn : List He.DefD) (ks : List String) : PySem.W.Hook where
  α := AlK
  obs := fun s => obsKG n fa fn ks s.heap.get?
  val := fun _ => (He.valD fn, true)
  says := fun _ h => ∃ K : PySem.W.Frag, K.In h ∧ SaysK fa fn ks K
  of := fun _ _ e => ⟨_, He.frG_in, ⟨congrArg Prod.fst e, congrArg Prod.snd e⟩⟩
  keeps := fun _ _ _ ⟨K, hK, c⟩ k => ⟨K, PySem.W.Frag.In.keeps hK k, c⟩
theorem obsKG_eq {n : Nat} {fa : List He.Fa} {fn : List He.DefD} {ks : List String} {g : Addr → Option Obj} {s : Shared} (h : ∀ a, g a = s.heap.get? a) : obsKG n fa fn ks g = (hookK n fa fn ks).obs s := by
  have e : g = s.heap.get? := funext h
  subst e; rfl
end ML

namespace ML
open PySem PySem.Spec L2
/-! ### side conditions -/
theorem mulok_r {i j : Int} (h1 : -(2 ^ 64) < j) (h2 : j < 2 ^ 64) : IntMulOk i j := .of_right (intBits_le_64 h1 h2)
theorem mulok_l {i j : Int} (h1 : -(2 ^ 64) < i) (h2 : i < 2 ^ 64) : IntMulOk i j := .of_left (intBits_le_64 h1 h2)
theorem mulok_w {i j : Int} {a b : Nat} (ha : i.natAbs < 2 ^ a) (hb : j.natAbs < 2 ^ b) (h0 : 0 < a) (h1 : 0 < b) (h : a + b ≤ 1000000) : IntMulOk i j := (wide_mul ha hb h0 h1 h).ok
theorem divok_s {i j : Int} (h0 : j ≠ 0) (h : j.natAbs < 1073741824) : DivOk i j := ⟨h0, PyProof.noPylong_small h⟩
theorem divok_w {i j : Int} {b : Nat} (h0 : j ≠ 0) (hb : j.natAbs < 2 ^ b) (h1 : 0 < b) (h : b ≤ 9000) : DivOk i j := ⟨h0, PyProof.noPylong_of_log2 (Nat.lt_of_lt_of_le (PySem.Flt.log2_lt_of h1 hb) h)⟩
theorem fdiv_pos {i j : Int} (h : 0 ≤ j) : i.fdiv j = i / j := Int.fdiv_eq_ediv_of_nonneg i h
theorem fmod_pos {i j : Int} (h : 0 ≤ j) : i.fmod j = i % j := Int.fmod_eq_emod_of_nonneg i h
theorem line_le {n : Nat} (h : n ≤ 1000) : n ≤ sizeLine := by rw [sizeLine_eq]; omega
theorem line_lt {n : Nat} (h : n ≤ 1000) : n < sizeLine := by rw [sizeLine_eq]; omega
theorem scr_get {ns : List Int} {k : Nat} (h : k < ns.length) : (ns.map D.int)[k]? = some (.int ns[k]) := by rw [List.getElem?_map, List.getElem?_eq_getElem h]; rfl
theorem ixL_nat {α : Type} {xs : List α} {k : Nat} : ixL xs (k : Int) = xs[k]? := rfl
theorem isTy_NoneType_int : isTy "NoneType" "int" = false := by decide
theorem isTy_NoneType_bool : isTy "NoneType" "bool" = false := by decide
theorem isTy_NoneType_tuple : isTy "NoneType" "tuple" = false := by decide
theorem isTy_NoneType_list : isTy "NoneType" "list" = false := by decide
theorem isTy_NoneType_str : isTy "NoneType" "str" = false := by decide
theorem isTy_bool_int : isTy "bool" "int" = true := by decide
theorem isTy_bool_bool : isTy "bool" "bool" = true := by decide
theorem isTy_bool_tuple : isTy "bool" "tuple" = false := by decide
theorem isTy_bool_list : isTy "bool" "list" = false := by decide
theorem isTy_bool_str : isTy "bool" "str" = false := by decide
theorem isTy_int_int : isTy "int" "int" = true := by decide
theorem isTy_int_bool : isTy "int" "bool" = false := by decide
theorem isTy_int_tuple : isTy "int" "tuple" = false := by decide
theorem isTy_int_list : isTy "int" "list" = false := by decide
theorem isTy_int_str : isTy "int" "str" = false := by decide
theorem isTy_str_int : isTy "str" "int" = false := by decide
theorem isTy_str_bool : isTy "str" "bool" = false := by decide
theorem isTy_str_tuple : isTy "str" "tuple" = false := by decide
theorem isTy_str_list : isTy "str" "list" = false := by decide
theorem isTy_str_str : isTy "str" "str" = true := by decide
theorem isTy_tuple_int : isTy "tuple" "int" = false := by decide
theorem isTy_tuple_bool : isTy "tuple" "bool" = false := by decide
theorem isTy_tuple_tuple : isTy "tuple" "tuple" = true := by decide
theorem isTy_tuple_list : isTy "tuple" "list" = false := by decide
theorem isTy_tuple_str : isTy "tuple" "str" = false := by decide
theorem isTy_list_int : isTy "list" "int" = false := by decide
theorem isTy_list_bool : isTy "list" "bool" = false := by decide
theorem isTy_list_tuple : isTy "list" "tuple" = false := by decide
theorem isTy_list_list : isTy "list" "list" = true := by decide
theorem isTy_list_str : isTy "list" "str" = false := by decide
theorem isTy_dict_int : isTy "dict" "int" = false := by decide
theorem isTy_dict_bool : isTy "dict" "bool" = false := by decide
theorem isTy_dict_tuple : isTy "dict" "tuple" = false := by decide
theorem isTy_dict_list : isTy "dict" "list" = false := by decide
theorem isTy_dict_str : isTy "dict" "str" = false := by decide
theorem deq_int {a b : Int} : D.deq (.int a) (.int b) = decide (a = b) := by rw [D.deq, Bool.beq_eq_decide_eq]
theorem deq_bl {a b : Bool} : D.deq (.bl a) (.bl b) = (a == b) := by rw [D.deq]
theorem deq_str {a b : Str} : D.deq (.str a) (.str b) = decide (a = b) := by rw [D.deq, Bool.beq_eq_decide_eq]
theorem deq_non : D.deq .non .non = true := by rw [D.deq]
theorem eqOk_int {a b : Int} : eqOk (.int a) (.int b) = true := by simp [eqOk, D.plain, D.dep]
theorem eqOk_bl {a b : Bool} : eqOk (.bl a) (.bl b) = true := rfl
theorem wfor_inv {G : Sto → Prop} {g : MG} {mb : MS} {D : MEnds} {items : List ML.D} {σ : MSt} {S : Sto} (I : Nat → MSt → Sto → Prop) (h0 : I 0 σ S)
    (hs : ∀ i d σ S, items[i]? = some d → I i σ S → G S ∧ g d σ S (fun σ' S' => mb { D with nx := I (i + 1), ct := I (i + 1), bk := D.nx } σ' S') (xAt D σ)) (hd : ∀ σ S, I items.length σ S → G S ∧ D.nx σ S) : wfor G g mb D items σ S := by
  refine ⟨I, h0, fun i σ S hi h => ?_⟩
  cases e : items[i]? with
  | some d => exact hs i d σ S e h
  | none =>
    have : i = items.length := by have := List.getElem?_eq_none_iff.mp e; omega
    subst this; exact hd σ S h
theorem rng_inv {lo : Int} {n : Nat} {g : MG} {mb : MS} {D : MEnds} {σ : MSt} {S : Sto} (I : Nat → MSt → Sto → Prop) (h0 : I 0 σ S)
    (hs : ∀ i σ S, i < n → I i σ S → g (.int (lo + (i : Nat))) σ S (fun σ' S' => mb { D with nx := I (i + 1), ct := I (i + 1), bk := D.nx } σ' S') (xAt D σ)) (hd : ∀ σ S, I n σ S → D.nx σ S) : wfor (fun _ => True) g mb D (rngD lo n) σ S :=
  wfor_inv I h0 (fun i d σ S e h => by
    have hi : i < n := by
      have := (List.getElem?_eq_some_iff.mp e).1
      rwa [rngD_len] at this
    rw [rngD_get e]; exact ⟨trivial, hs i σ S hi h⟩) fun σ S h => ⟨trivial, hd σ S (by rwa [rngD_len] at h)⟩
end ML

namespace ML
open PySem PySem.Spec L2
theorem q_mSeq : type_of% @mSeq.eq_def := by intros; exact Eq.trans (mSeq.eq_def ..) (Eq.refl _)
theorem q_mSet : type_of% @mSet.eq_def := by intros; exact Eq.trans (mSet.eq_def ..) (Eq.refl _)
theorem q_mC : type_of% @mC.eq_def := by intros; exact Eq.trans (mC.eq_def ..) (Eq.refl _)
theorem q_mVar : type_of% @mVar.eq_def := by intros; exact Eq.trans (mVar.eq_def ..) (Eq.refl _)
theorem q_mOp : type_of% @mOp.eq_def := by intros; exact Eq.trans (mOp.eq_def ..) (Eq.refl _)
theorem q_mUn : type_of% @mUn.eq_def := by intros; exact Eq.trans (mUn.eq_def ..) (Eq.refl _)
theorem q_mTst : type_of% @mTst.eq_def := by intros; exact Eq.trans (mTst.eq_def ..) (Eq.refl _)
theorem q_mTru : type_of% @mTru.eq_def := by intros; exact Eq.trans (mTru.eq_def ..) (Eq.refl _)
theorem q_mIfS : type_of% @mIfS.eq_def := by intros; exact Eq.trans (mIfS.eq_def ..) (Eq.refl _)
theorem q_mIf : type_of% @mIf.eq_def := by intros; exact Eq.trans (mIf.eq_def ..) (Eq.refl _)
theorem q_mAnd : type_of% @mAnd.eq_def := by intros; exact Eq.trans (mAnd.eq_def ..) (Eq.refl _)
theorem q_mOr : type_of% @mOr.eq_def := by intros; exact Eq.trans (mOr.eq_def ..) (Eq.refl _)
theorem q_mNot : type_of% @mNot.eq_def := by intros; exact Eq.trans (mNot.eq_def ..) (Eq.refl _)
theorem q_mAndV : type_of% @mAndV.eq_def := by intros; exact Eq.trans (mAndV.eq_def ..) (Eq.refl _)
theorem q_mOrV : type_of% @mOrV.eq_def := by intros; exact Eq.trans (mOrV.eq_def ..) (Eq.refl _)
theorem q_mNotV : type_of% @mNotV.eq_def := by intros; exact Eq.trans (mNotV.eq_def ..) (Eq.refl _)
theorem q_mRet : type_of% @mRet.eq_def := by intros; exact Eq.trans (mRet.eq_def ..) (Eq.refl _)
theorem q_mRetN : type_of% @mRetN.eq_def := by intros; exact Eq.trans (mRetN.eq_def ..) (Eq.refl _)
theorem q_mExpr : type_of% @mExpr.eq_def := by intros; exact Eq.trans (mExpr.eq_def ..) (Eq.refl _)
theorem q_mNext : type_of% @mNext.eq_def := by intros; exact Eq.trans (mNext.eq_def ..) (Eq.refl _)
theorem q_mBreak : type_of% @mBreak.eq_def := by intros; exact Eq.trans (mBreak.eq_def ..) (Eq.refl _)
theorem q_mCont : type_of% @mCont.eq_def := by intros; exact Eq.trans (mCont.eq_def ..) (Eq.refl _)
theorem q_mAsg : type_of% @mAsg.eq_def := by intros; exact Eq.trans (mAsg.eq_def ..) (Eq.refl _)
theorem q_mPar : type_of% @mPar.eq_def := by intros; exact Eq.trans (mPar.eq_def ..) (Eq.refl _)
theorem q_gNm : type_of% @gNm.eq_def := by intros; exact Eq.trans (gNm.eq_def ..) (Eq.refl _)
theorem q_gTp : type_of% @gTp.eq_def := by intros; exact Eq.trans (gTp.eq_def ..) (Eq.refl _)
theorem q_gLs : type_of% @gLs.eq_def := by intros; exact Eq.trans (gLs.eq_def ..) (Eq.refl _)
theorem q_gCn : type_of% @gCn.eq_def := by intros; exact Eq.trans (gCn.eq_def ..) (Eq.refl _)
theorem q_gNl : type_of% @gNl.eq_def := by intros; exact Eq.trans (gNl.eq_def ..) (Eq.refl _)
theorem q_gSb : type_of% @gSb.eq_def := by intros; exact Eq.trans (gSb.eq_def ..) (Eq.refl _)
theorem q_mTup : type_of% @mTup.eq_def := by intros; exact Eq.trans (mTup.eq_def ..) (Eq.refl _)
theorem q_mLst : type_of% @mLst.eq_def := by intros; exact Eq.trans (mLst.eq_def ..) (Eq.refl _)
theorem q_mLstF : type_of% @mLstF.eq_def := by intros; exact Eq.trans (mLstF.eq_def ..) (Eq.refl _)
theorem q_mCons : type_of% @mCons.eq_def := by intros; exact Eq.trans (mCons.eq_def ..) (Eq.refl _)
theorem q_mNil : type_of% @mNil.eq_def := by intros; exact Eq.trans (mNil.eq_def ..) (Eq.refl _)
theorem q_mCall : type_of% @mCall.eq_def := by intros; exact Eq.trans (mCall.eq_def ..) (Eq.refl _)
theorem q_mBlt : type_of% @mBlt.eq_def := by intros; exact Eq.trans (mBlt.eq_def ..) (Eq.refl _)
theorem q_bLen : type_of% @bLen.eq_def := by intros; exact Eq.trans (bLen.eq_def ..) (Eq.refl _)
theorem q_bAbs : type_of% @bAbs.eq_def := by intros; exact Eq.trans (bAbs.eq_def ..) (Eq.refl _)
theorem q_bMax2 : type_of% @bMax2.eq_def := by intros; exact Eq.trans (bMax2.eq_def ..) (Eq.refl _)
theorem q_bMin2 : type_of% @bMin2.eq_def := by intros; exact Eq.trans (bMin2.eq_def ..) (Eq.refl _)
theorem q_bInt : type_of% @bInt.eq_def := by intros; exact Eq.trans (bInt.eq_def ..) (Eq.refl _)
theorem q_bTuple : type_of% @bTuple.eq_def := by intros; exact Eq.trans (bTuple.eq_def ..) (Eq.refl _)
theorem q_bList : type_of% @bList.eq_def := by intros; exact Eq.trans (bList.eq_def ..) (Eq.refl _)
theorem q_bListF : type_of% @bListF.eq_def := by intros; exact Eq.trans (bListF.eq_def ..) (Eq.refl _)
theorem q_bAll : type_of% @bAll.eq_def := by intros; exact Eq.trans (bAll.eq_def ..) (Eq.refl _)
theorem q_lenD : type_of% @lenD.eq_def := by intros; exact Eq.trans (lenD.eq_def ..) (Eq.refl _)
theorem q_truD : type_of% @truD.eq_def := by intros; exact Eq.trans (truD.eq_def ..) (Eq.refl _)
theorem q_lstOf : type_of% @lstOf.eq_def := by intros; exact Eq.trans (lstOf.eq_def ..) (Eq.refl _)
theorem q_ownOf : type_of% @ownOf.eq_def := by intros; exact Eq.trans (ownOf.eq_def ..) (Eq.refl _)
theorem q_seqOf : type_of% @seqOf.eq_def := by intros; exact Eq.trans (seqOf.eq_def ..) (Eq.refl _)
theorem q_look : type_of% @look.eq_def := by intros; exact Eq.trans (look.eq_def ..) (Eq.refl _)
theorem q_rInt : type_of% @rInt.eq_def := by intros; exact Eq.trans (rInt.eq_def ..) (Eq.refl _)
theorem q_rInt0 : type_of% @rInt0.eq_def := by intros; exact Eq.trans (rInt0.eq_def ..) (Eq.refl _)
theorem q_rSub : type_of% @rSub.eq_def := by intros; exact Eq.trans (rSub.eq_def ..) (Eq.refl _)
theorem q_rMul : type_of% @rMul.eq_def := by intros; exact Eq.trans (rMul.eq_def ..) (Eq.refl _)
theorem q_rDiv : type_of% @rDiv.eq_def := by intros; exact Eq.trans (rDiv.eq_def ..) (Eq.refl _)
theorem q_rMod : type_of% @rMod.eq_def := by intros; exact Eq.trans (rMod.eq_def ..) (Eq.refl _)
theorem q_rPow : type_of% @rPow.eq_def := by intros; exact Eq.trans (rPow.eq_def ..) (Eq.refl _)
theorem q_rAdd : type_of% @rAdd.eq_def := by intros; exact Eq.trans (rAdd.eq_def ..) (Eq.refl _)
theorem q_rLt : type_of% @rLt.eq_def := by intros; exact Eq.trans (rLt.eq_def ..) (Eq.refl _)
theorem q_rLe : type_of% @rLe.eq_def := by intros; exact Eq.trans (rLe.eq_def ..) (Eq.refl _)
theorem q_rGt : type_of% @rGt.eq_def := by intros; exact Eq.trans (rGt.eq_def ..) (Eq.refl _)
theorem q_rGe : type_of% @rGe.eq_def := by intros; exact Eq.trans (rGe.eq_def ..) (Eq.refl _)
theorem q_rNeg : type_of% @rNeg.eq_def := by intros; exact Eq.trans (rNeg.eq_def ..) (Eq.refl _)
theorem q_rIxM : type_of% @rIxM.eq_def := by intros; exact Eq.trans (rIxM.eq_def ..) (Eq.refl _)
theorem q_ixL : type_of% @ixL.eq_def := by intros; exact Eq.trans (ixL.eq_def ..) (Eq.refl _)
theorem q_rIsN : type_of% @rIsN.eq_def := by intros; exact Eq.trans (rIsN.eq_def ..) (Eq.refl _)
theorem q_rNotN : type_of% @rNotN.eq_def := by intros; exact Eq.trans (rNotN.eq_def ..) (Eq.refl _)
theorem q_isN : type_of% @isN.eq_def := by intros; exact Eq.trans (isN.eq_def ..) (Eq.refl _)
theorem q_rEqM : type_of% @rEqM.eq_def := by intros; exact Eq.trans (rEqM.eq_def ..) (Eq.refl _)
theorem q_rNeM : type_of% @rNeM.eq_def := by intros; exact Eq.trans (rNeM.eq_def ..) (Eq.refl _)
theorem q_rInM : type_of% @rInM.eq_def := by intros; exact Eq.trans (rInM.eq_def ..) (Eq.refl _)
theorem q_mIsi : type_of% @mIsi.eq_def := by intros; exact Eq.trans (mIsi.eq_def ..) (Eq.refl _)
theorem q_tyD : type_of% @tyD.eq_def := by intros; exact Eq.trans (tyD.eq_def ..) (Eq.refl _)
theorem q_mCut : type_of% @mCut.eq_def := by intros; exact Eq.trans (mCut.eq_def ..) (Eq.refl _)
theorem q_oNo : type_of% @oNo.eq_def := by intros; exact Eq.trans (oNo.eq_def ..) (Eq.refl _)
theorem q_oSo : type_of% @oSo.eq_def := by intros; exact Eq.trans (oSo.eq_def ..) (Eq.refl _)
theorem q_mMt : type_of% @mMt.eq_def := by intros; exact Eq.trans (mMt.eq_def ..) (Eq.refl _)
theorem q_mMt0 : type_of% @mMt0.eq_def := by intros; exact Eq.trans (mMt0.eq_def ..) (Eq.refl _)
theorem q_mtAppend : type_of% @mtAppend.eq_def := by intros; exact Eq.trans (mtAppend.eq_def ..) (Eq.refl _)
theorem q_mtInsert : type_of% @mtInsert.eq_def := by intros; exact Eq.trans (mtInsert.eq_def ..) (Eq.refl _)
theorem q_mtPop : type_of% @mtPop.eq_def := by intros; exact Eq.trans (mtPop.eq_def ..) (Eq.refl _)
theorem q_mtPop0 : type_of% @mtPop0.eq_def := by intros; exact Eq.trans (mtPop0.eq_def ..) (Eq.refl _)
theorem q_mtReverse : type_of% @mtReverse.eq_def := by intros; exact Eq.trans (mtReverse.eq_def ..) (Eq.refl _)
theorem q_mtClear : type_of% @mtClear.eq_def := by intros; exact Eq.trans (mtClear.eq_def ..) (Eq.refl _)
theorem q_mtExtend : type_of% @mtExtend.eq_def := by intros; exact Eq.trans (mtExtend.eq_def ..) (Eq.refl _)
theorem q_mtIndex : type_of% @mtIndex.eq_def := by intros; exact Eq.trans (mtIndex.eq_def ..) (Eq.refl _)
theorem q_rSetM : type_of% @rSetM.eq_def := by intros; exact Eq.trans (rSetM.eq_def ..) (Eq.refl _)
theorem q_setAt : type_of% @setAt.eq_def := by intros; exact Eq.trans (setAt.eq_def ..) (Eq.refl _)
theorem q_mends : type_of% @mends.eq_def := by intros; exact Eq.trans (mends.eq_def ..) (Eq.refl _)
theorem q_mstart : type_of% @mstart.eq_def := by intros; exact Eq.trans (mstart.eq_def ..) (Eq.refl _)
theorem q_mFor : type_of% @mFor.eq_def := by intros; exact Eq.trans (mFor.eq_def ..) (Eq.refl _)
theorem q_iL : type_of% @iL.eq_def := by intros; exact Eq.trans (iL.eq_def ..) (Eq.refl _)
theorem q_iT : type_of% @iT.eq_def := by intros; exact Eq.trans (iT.eq_def ..) (Eq.refl _)
theorem q_iR1 : type_of% @iR1.eq_def := by intros; exact Eq.trans (iR1.eq_def ..) (Eq.refl _)
theorem q_iR2 : type_of% @iR2.eq_def := by intros; exact Eq.trans (iR2.eq_def ..) (Eq.refl _)
theorem q_iEn : type_of% @iEn.eq_def := by intros; exact Eq.trans (iEn.eq_def ..) (Eq.refl _)
theorem q_iZp : type_of% @iZp.eq_def := by intros; exact Eq.trans (iZp.eq_def ..) (Eq.refl _)
theorem q_mChain : type_of% @mChain.eq_def := by intros; exact Eq.trans (mChain.eq_def ..) (Eq.refl _)
theorem q_mYes : type_of% @mYes.eq_def := by intros; exact Eq.trans (mYes.eq_def ..) (Eq.refl _)
theorem q_mCompF : type_of% @mCompF.eq_def := by intros; exact Eq.trans (mCompF.eq_def ..) (Eq.refl _)
theorem q_mComp : type_of% @mComp.eq_def := by intros; exact Eq.trans (mComp.eq_def ..) (Eq.refl _)
theorem q_wipeM : type_of% @wipeM.eq_def := by intros; exact Eq.trans (wipeM.eq_def ..) (Eq.refl _)
theorem q_rIsBM : type_of% @rIsBM.eq_def := by intros; exact Eq.trans (rIsBM.eq_def ..) (Eq.refl _)
theorem q_xAt : type_of% @xAt.eq_def := by intros; exact Eq.trans (xAt.eq_def ..) (Eq.refl _)
end ML

set_option maxRecDepth 100000
namespace ML
open PySem PySem.Spec L2
open PyProof.Rows hiding St
section
variable {X : Cx}
/-! ### is True, is False -/
theorem rIsBM_at {neg : Bool} {d e : D} {S : Sto} {Q : MQ} (h : rIsBM neg d e S Q) : ∃ a b, d = .bl a ∧ e = .bl b ∧ Q (.bl (if neg then !decide (a = b) else decide (a = b))) S := by
  unfold rIsBM at h
  split at h
  · exact ⟨_, _, rfl, rfl, h⟩
  · exact h.elim
theorem ol_isB : OpL X.K L2.rIsB (rIsBM false) := fun H S x y d e Qm Q s rx ry h k => by
  obtain ⟨a, b, rfl, rfl, q⟩ := rIsBM_at h
  cases rx; cases ry
  exact ⟨a, b, rfl, rfl, k _ S _ H q Ext.refl s (.bl _)⟩
theorem ol_notB : OpL X.K L2.rNotB (rIsBM true) := fun H S x y d e Qm Q s rx ry h k => by
  obtain ⟨a, b, rfl, rfl, q⟩ := rIsBM_at h
  cases rx; cases ry
  exact ⟨a, b, rfl, rfl, k _ S _ H q Ext.refl s (.bl _)⟩
end
end ML

set_option maxRecDepth 100000
namespace ML
open PySem PySem.Spec L2
/-! ### readings opened lazily: at a call, a branch, a loop the opening stops; what is held as an instance is left alone -/
class Hold (α : Type) where
  v : α
theorem Hold_v {α : Type} {x : α} : (Hold.mk x).v = x := Eq.trans rfl rfl
def CallP (sp : MSp) (ds : List D) (S : Sto) [Q : Hold MQ] [E : Hold MXQ] : Prop := sp ds S Q.v E.v
def IteP (c : Prop) [A : Hold Prop] [B : Hold Prop] : Prop := (c → A.v) ∧ (¬ c → B.v)
theorem IteP_true {A B : Hold Prop} : @IteP True A B = A.v := propext ⟨fun h => h.1 trivial, fun h => ⟨fun _ => h, fun z => (z trivial).elim⟩⟩
theorem IteP_false {A B : Hold Prop} : @IteP False A B = B.v := propext ⟨fun h => h.2 id, fun h => ⟨fun z => z.elim, fun _ => h⟩⟩
theorem IteP_bool {b : Bool} {A B : Prop} : (if b = true then A else B) = @IteP (b = true) ⟨A⟩ ⟨B⟩ := by
  cases b
  · rw [if_neg Bool.false_ne_true]; exact propext ⟨fun h => ⟨fun z => (Bool.false_ne_true z).elim, fun _ => h⟩, fun h => h.2 Bool.false_ne_true⟩
  · rw [if_pos rfl]; exact propext ⟨fun h => ⟨fun _ => h, fun z => (z rfl).elim⟩, fun h => h.1 rfl⟩
theorem l_mCall {sp : MSp} {t : MA} {σ : MSt} {S : Sto} {Q : MQ} {E : MXQ} : mCall sp t σ S Q E = t σ S (fun ds S1 => @CallP sp ds S1 ⟨Q⟩ ⟨E⟩) E := Eq.trans rfl rfl
theorem l_mAnd {t u : MT} {σ : MSt} {S : Sto} {Q : Bool → Sto → Prop} {E : MXQ} : mAnd t u σ S Q E = t σ S (fun c S1 => @IteP (c = true) ⟨u σ S1 Q E⟩ ⟨Q false S1⟩) E := by
  unfold mAnd; simp only [IteP_bool]
theorem l_mOr {t u : MT} {σ : MSt} {S : Sto} {Q : Bool → Sto → Prop} {E : MXQ} : mOr t u σ S Q E = t σ S (fun c S1 => @IteP (c = true) ⟨Q true S1⟩ ⟨u σ S1 Q E⟩) E := by
  unfold mOr; simp only [IteP_bool]
theorem l_mAndV {ma mb : ME} {σ : MSt} {S : Sto} {Q : MQ} {E : MXQ} : mAndV ma mb σ S Q E = ma σ S (fun d S1 => match d with
  | .bl k => @IteP (k = true) ⟨mb σ S1 Q E⟩ ⟨Q (.bl false) S1⟩
  | _ => False) E := by
  unfold mAndV
  apply congrArg (fun f => ma σ S f E)
  funext d S1
  cases d <;> first | rfl | exact IteP_bool
theorem l_mOrV {ma mb : ME} {σ : MSt} {S : Sto} {Q : MQ} {E : MXQ} : mOrV ma mb σ S Q E = ma σ S (fun d S1 => match d with
  | .bl k => @IteP (k = true) ⟨Q (.bl true) S1⟩ ⟨mb σ S1 Q E⟩
  | _ => False) E := by
  unfold mOrV
  apply congrArg (fun f => ma σ S f E)
  funext d S1
  cases d <;> first | rfl | exact IteP_bool
theorem l_mIf {t : MT} {ma mb : ME} {σ : MSt} {S : Sto} {Q : MQ} {E : MXQ} : mIf t ma mb σ S Q E = t σ S (fun c S1 => @IteP (c = true) ⟨ma σ S1 Q E⟩ ⟨mb σ S1 Q E⟩) E := by unfold mIf; simp only [IteP_bool]
theorem l_mChain {r r' : R2m} {ma mb mc : ME} {σ : MSt} {S : Sto} {Q : MQ} {E : MXQ} : mChain r r' ma mb mc σ S Q E = ma σ S (fun x S1 => mb σ S1 (fun y S2 => r x y S2 fun z S3 => match z with
  | .bl k => @IteP (k = true) ⟨mc σ S3 (fun w S4 => r' y w S4 Q) E⟩ ⟨Q (.bl false) S3⟩
  | _ => False) E) E := by
  unfold mChain
  apply congrArg (fun f => ma σ S f E)
  funext x S1
  apply congrArg (fun f => mb σ S1 f E)
  funext y S2
  apply congrArg (fun f => r x y S2 f)
  funext d S3
  cases d <;> first | rfl | exact IteP_bool
theorem l_mIfS {c : MT} {t u : MS} {D : MEnds} {σ : MSt} {S : Sto} : mIfS c t u D σ S = c σ S (fun b S1 => @IteP (b = true) ⟨t D σ S1⟩ ⟨u D σ S1⟩) (xAt D σ) := by unfold mIfS; simp only [IteP_bool]
theorem while_rule {c : MT} {tb : MS} {D : MEnds} {σ : MSt} {S : Sto} (I : Nat → MSt → Sto → Prop) (h0 : ∃ n, I n σ S)
    (hs : ∀ n σ S, I n σ S → c σ S (fun b S1 => @IteP (b = true) ⟨tb { D with nx := fun σ' S' => ∃ m, m < n ∧ I m σ' S', ct := fun σ' S' => ∃ m, m < n ∧ I m σ' S', bk := D.nx } σ S1⟩ ⟨D.nx σ S1⟩) (xAt D σ)) : mWhile c tb D σ S := by
  refine ⟨I, h0, fun n σ S h => ?_⟩
  simp only [IteP_bool]
  exact hs n σ S h
/-! ### options, names, values -/
def OptP {α : Type} (o : Option α) [k : Hold (α → Prop)] : Prop := match o with
  | some x => k.v x
  | none => False
def optP {α : Type} (o : Option α) (k : α → Prop) : Prop := @OptP α o ⟨k⟩
theorem l_optP {α : Type} {o : Option α} {k : α → Prop} : optP o k = @OptP α o ⟨k⟩ := Eq.trans rfl rfl
theorem OptP_some {α : Type} {x : α} {k : Hold (α → Prop)} : @OptP α (some x) k = k.v x := Eq.trans rfl rfl
def GoP (σ : MSt) (S : Sto) [k : Hold (MSt → Sto → Prop)] : Prop := k.v σ S
def Go (k : MSt → Sto → Prop) (σ : MSt) (S : Sto) : Prop := @GoP σ S ⟨k⟩
theorem l_Go {k : MSt → Sto → Prop} {σ : MSt} {S : Sto} : Go k σ S = @GoP σ S ⟨k⟩ := Eq.trans rfl rfl
def VarP (i : Nat) (σ : MSt) (S : Sto) [Q : Hold MQ] : Prop := match σ[i]? with
  | some (some d) => Q.v d S
  | _ => False
theorem l_mVar {i : Nat} {σ : MSt} {S : Sto} {Q : MQ} {E : MXQ} : mVar i σ S Q E = @VarP i σ S ⟨Q⟩ := Eq.trans rfl rfl
def ForP (items : List D) (σ : MSt) (S : Sto) [G : Hold (Sto → Prop)] [g : Hold MG] [mb : Hold MS] [De : Hold MEnds] : Prop := wfor G.v g.v mb.v De.v items σ S
theorem l_mFor {mi : MI} {g : MG} {mb : MS} {De : MEnds} {σ : MSt} {S : Sto} : mFor mi g mb De σ S = mi σ S (fun items G S1 => @ForP items σ S1 ⟨G⟩ ⟨g⟩ ⟨mb⟩ ⟨De⟩) (xAt De σ) := Eq.trans rfl rfl
def WhileP (σ : MSt) (S : Sto) [c : Hold MT] [mb : Hold MS] [De : Hold MEnds] : Prop := mWhile c.v mb.v De.v σ S
theorem l_mWhile {c : MT} {mb : MS} {De : MEnds} {σ : MSt} {S : Sto} : mWhile c mb De σ S = @WhileP σ S ⟨c⟩ ⟨mb⟩ ⟨De⟩ := Eq.trans rfl rfl
def CompP (items : List D) (σ : MSt) (S : Sto) (p : Addr) (own : List Nat) [G : Hold (Sto → Prop)] [g : Hold MG] [mt : Hold MT] [me : Hold ME] [fin : Hold (List D → Sto → Prop)] : Prop := wlc G.v g.v mt.v me.v p own σ fin.v items S
theorem l_mComp {mi : MI} {g : MG} {mt : MT} {me : ME} {own : List Nat} {σ : MSt} {S : Sto} {Q : MQ} {E : MXQ} : mComp mi g mt me own σ S Q E = mi σ S (fun items G S1 => ∀ p, S1 p = none → @CompP items σ (put S1 p (.lst [])) p own ⟨G⟩ ⟨g⟩ ⟨mt⟩ ⟨me⟩ ⟨fun _ S2 => Q (.ref p) S2⟩) E := Eq.trans rfl rfl
theorem l_mCompF {mi : MI} {g : MG} {mt : MT} {me : ME} {own : List Nat} {σ : MSt} {S : Sto} {Q : MQ} {E : MXQ} : mCompF mi g mt me own σ S Q E = mi σ S (fun items G S1 => ∀ p, S1 p = none → @CompP items σ (put S1 p (.lst [])) p own ⟨G⟩ ⟨g⟩ ⟨mt⟩ ⟨me⟩ ⟨fun acc S2 => Q (.lst acc) (del S2 p)⟩) E := Eq.trans rfl rfl
theorem Go_eq {k : Hold (MSt → Sto → Prop)} {σ : MSt} {S : Sto} : @GoP σ S k = k.v σ S := Eq.trans rfl rfl
theorem l_mVar_z {d : D} {σ : MSt} {S : Sto} {Q : Hold MQ} : @VarP 0 (some d :: σ) S Q = Q.v d S := Eq.trans rfl rfl
theorem l_mVar_s {i : Nat} {x : Option D} {σ : MSt} {S : Sto} {Q : Hold MQ} : @VarP (i + 1) (x :: σ) S Q = @VarP i σ S Q := Eq.trans rfl rfl
theorem l_mSet {i : Nat} {m : ME} {D : MEnds} {σ : MSt} {S : Sto} : mSet i m D σ S = m σ S (fun d S1 => Go D.nx (σ.set i (some d)) S1) (xAt D σ) := Eq.trans rfl rfl
theorem l_gNm {i : Nat} {d : D} {σ : MSt} {S : Sto} {Q : MSt → Sto → Prop} {E : MXQ} : gNm i d σ S Q E = Go Q (σ.set i (some d)) S := Eq.trans rfl rfl
theorem l_mPar {i j : Nat} {t : MA} {De : MEnds} {σ : MSt} {S : Sto} : mPar i j t De σ S = t σ S (fun ds S1 => match ds with
  | [d, e] => Go De.nx ((σ.set i (some d)).set j (some e)) S1
  | _ => False) (xAt De σ) := by
  unfold mPar
  apply congrArg (fun f => t σ S f (xAt De σ))
  funext ds S1
  rcases ds with _ | ⟨a, _ | ⟨b, _ | ⟨c, r⟩⟩⟩ <;> rfl
def olP : Option MO → Option (List D)
  | some (.lst ds) => some ds
  | _ => none
theorem olP_lst {ds : List D} : olP (some (.lst ds)) = some ds := Eq.trans rfl rfl
theorem lstOf_ref' {S : Sto} {p : Addr} : lstOf S (.ref p) = olP (S p) := by
  cases e : S p with
  | none => simp only [lstOf, olP, e]
  | some o => cases o <;> simp only [lstOf, olP, e]
theorem lstOf_lst {S : Sto} {ds : List D} : lstOf S (.lst ds) = some ds := Eq.trans rfl rfl
theorem lstOf_scr {S : Sto} {ds : List D} : lstOf S (.scr ds) = some ds := Eq.trans rfl rfl
theorem lstOf_tup {S : Sto} {ds : List D} : lstOf S (.tup ds) = none := Eq.trans rfl rfl
theorem ownOf_ref' {S : Sto} {p : Addr} : ownOf S (.ref p) = olP (S p) := by
  cases e : S p with
  | none => simp only [ownOf, olP, e]
  | some o => cases o <;> simp only [ownOf, olP, e]
theorem ownOf_lst {S : Sto} {ds : List D} : ownOf S (.lst ds) = some ds := Eq.trans rfl rfl
theorem seqOf_tup' {S : Sto} {ds : List D} : seqOf S (.tup ds) = some ds := Eq.trans rfl rfl
theorem seqOf_lst' {S : Sto} {ds : List D} : seqOf S (.lst ds) = some ds := Eq.trans rfl rfl
theorem seqOf_scr' {S : Sto} {ds : List D} : seqOf S (.scr ds) = some ds := Eq.trans rfl rfl
theorem seqOf_ref' {S : Sto} {p : Addr} : seqOf S (.ref p) = olP (S p) := by rw [← lstOf_ref']; rfl
def tupOf : D → Option (List D)
  | .tup ds => some ds
  | _ => none
theorem tupOf_tup {ds : List D} : tupOf (.tup ds) = some ds := Eq.trans rfl rfl
theorem l_rIxM {d : D} {i : Int} {S : Sto} {Q : MQ} : rIxM d (.int i) S Q = optP (seqOf S d) fun xs => optP (ixL xs i) fun x => Q x S := by
  simp only [rIxM, optP, OptP]
  cases seqOf S d with
  | none => rfl
  | some xs =>
    dsimp only
    cases ixL xs i <;> rfl
theorem ixL_lit {α : Type} {xs : List α} {n : Nat} : ixL xs (no_index (OfNat.ofNat n : Int)) = xs[(OfNat.ofNat n : Nat)]? := Eq.trans rfl rfl
theorem ixL_cast {α : Type} {xs : List α} {n : Nat} : ixL xs ((n : Nat) : Int) = xs[n]? := Eq.trans rfl rfl
theorem ixL_m1 {α : Type} {x : α} {xs : List α} : ixL (x :: xs) (-1) = (x :: xs)[xs.length]? := by
  show ixL (x :: xs) (.negSucc 0) = _
  simp [ixL]
theorem setAt_lit {α : Type} {xs : List α} {n : Nat} {v : α} : setAt xs (no_index (OfNat.ofNat n : Int)) v = if (OfNat.ofNat n : Nat) < xs.length then some (xs.set (OfNat.ofNat n : Nat) v) else none := Eq.trans rfl rfl
theorem setAt_cast {α : Type} {xs : List α} {n : Nat} {v : α} : setAt xs ((n : Nat) : Int) v = if n < xs.length then some (xs.set n v) else none := Eq.trans rfl rfl
theorem l_rSetM {p : Addr} {k : Int} {v : D} {S : Sto} {Q : Sto → Prop} : rSetM (.ref p) (.int k) v S Q = optP (olP (S p)) fun xs => optP (setAt xs k v) fun ys => Q (put S p (.lst ys)) := by
  simp only [rSetM, optP, OptP, olP]
  cases S p with
  | none => rfl
  | some o =>
    cases o with
    | lst xs => dsimp only; cases setAt xs k v <;> rfl
    | _ => rfl
theorem l_rInt {C : Int → Int → Prop} {g : Int → Int → D} {i j : Int} {S : Sto} {Q : MQ} : rInt C g (.int i) (.int j) S Q = (C i j ∧ Q (g i j) S) := Eq.trans rfl rfl
theorem l_rInt0 {g : Int → Int → D} {i j : Int} {S : Sto} {Q : MQ} : rInt0 g (.int i) (.int j) S Q = Q (g i j) S := Eq.trans rfl rfl
theorem l_rAdd_int {i j : Int} {S : Sto} {Q : MQ} : rAdd (.int i) (.int j) S Q = Q (.int (i + j)) S := Eq.trans rfl rfl
theorem l_rAdd_str {i j : Str} {S : Sto} {Q : MQ} : rAdd (.str i) (.str j) S Q = (i.length + j.length ≤ sizeLine ∧ Q (.str (i ++ j)) S) := Eq.trans rfl rfl
theorem l_rAdd_tup {i j : List D} {S : Sto} {Q : MQ} : rAdd (.tup i) (.tup j) S Q = ((i ≠ [] ∧ i.length + j.length ≤ sizeLine) ∧ Q (.tup (i ++ j)) S) := Eq.trans rfl rfl
theorem l_rNeg {i : Int} {S : Sto} {Q : MQ} : rNeg (.int i) S Q = Q (.int (-i)) S := Eq.trans rfl rfl
theorem l_rIsN {d : D} {S : Sto} {Q : MQ} : rIsN d .non S Q = Q (.bl (isN d)) S := Eq.trans rfl rfl
theorem l_rNotN {d : D} {S : Sto} {Q : MQ} : rNotN d .non S Q = Q (.bl (!isN d)) S := Eq.trans rfl rfl
theorem l_rIsBM {neg a b : Bool} {S : Sto} {Q : MQ} : rIsBM neg (.bl a) (.bl b) S Q = Q (.bl (if neg then !decide (a = b) else decide (a = b))) S := Eq.trans rfl rfl
theorem l_mTru {m : ME} {σ : MSt} {S : Sto} {Q : Bool → Sto → Prop} {E : MXQ} : mTru m σ S Q E = m σ S (fun d S1 => optP (truD S1 d) fun k => Q k S1) E := by
  unfold mTru optP OptP
  apply congrArg (fun f => m σ S f E)
  funext d S1
  cases truD S1 d <;> rfl
theorem truD_bl {S : Sto} {b : Bool} : truD S (.bl b) = some b := Eq.trans rfl rfl
theorem truD_int {S : Sto} {i : Int} : truD S (.int i) = some (i != 0) := Eq.trans rfl rfl
theorem truD_tup {S : Sto} {ds : List D} : truD S (.tup ds) = some (!ds.isEmpty) := Eq.trans rfl rfl
theorem truD_lst {S : Sto} {ds : List D} : truD S (.lst ds) = some (!ds.isEmpty) := Eq.trans rfl rfl
theorem truD_scr {S : Sto} {ds : List D} : truD S (.scr ds) = some (!ds.isEmpty) := Eq.trans rfl rfl
theorem truD_non {S : Sto} : truD S .non = some false := Eq.trans rfl rfl
theorem l_bLen {d : D} {S : Sto} {Q : MQ} : bLen [d] S Q = optP (lenD S d) fun n => Q (.int n) S := by
  simp only [bLen, optP, OptP]; cases lenD S d <;> rfl
theorem lenD_tup {S : Sto} {ds : List D} : lenD S (.tup ds) = some ds.length := Eq.trans rfl rfl
theorem lenD_lst {S : Sto} {ds : List D} : lenD S (.lst ds) = some ds.length := Eq.trans rfl rfl
theorem lenD_scr {S : Sto} {ds : List D} : lenD S (.scr ds) = some ds.length := Eq.trans rfl rfl
theorem lenD_ref {S : Sto} {p : Addr} : lenD S (.ref p) = (olP (S p)).map List.length := by rw [← lstOf_ref']; rfl
theorem l_bAbs {i : Int} {S : Sto} {Q : MQ} : bAbs [.int i] S Q = Q (.int (i.natAbs : Nat)) S := by
  have e : (if i < 0 then -i else i) = (i.natAbs : Int) := by split <;> omega
  simp only [bAbs, e]
theorem l_bMax2 {i j : Int} {S : Sto} {Q : MQ} : bMax2 [.int i, .int j] S Q = Q (.int (if j > i then j else i)) S := Eq.trans rfl rfl
theorem l_bMin2 {i j : Int} {S : Sto} {Q : MQ} : bMin2 [.int i, .int j] S Q = Q (.int (if j < i then j else i)) S := Eq.trans rfl rfl
theorem l_bInt_i {i : Int} {S : Sto} {Q : MQ} : bInt [.int i] S Q = Q (.int i) S := Eq.trans rfl rfl
theorem l_bInt_b {k : Bool} {S : Sto} {Q : MQ} : bInt [.bl k] S Q = Q (.int (if k then 1 else 0)) S := Eq.trans rfl rfl
theorem l_bTuple {d : D} {S : Sto} {Q : MQ} : bTuple [d] S Q = optP (seqOf S d) fun xs => Q (.tup xs) S := by
  cases d with
  | tup xs => rfl
  | _ =>
    simp only [bTuple, optP, OptP, seqOf]
    split <;> simp_all
theorem l_bListF {d : D} {S : Sto} {Q : MQ} : bListF [d] S Q = optP (seqOf S d) fun xs => Q (.lst xs) S := by
  simp only [bListF, optP, OptP]; cases seqOf S d <;> rfl
theorem l_bList {d : D} {S : Sto} {Q : MQ} : bList [d] S Q = optP (seqOf S d) fun xs => ∀ p, S p = none → Q (.ref p) (put S p (.lst xs)) := by
  simp only [bList, optP, OptP]; cases seqOf S d <;> rfl
theorem l_mIsi {u : String} {m : ME} {σ : MSt} {S : Sto} {Q : MQ} {E : MXQ} : mIsi u m σ S Q E = m σ S (fun d S1 => optP (tyD S1 d) fun t => Q (.bl (isTy t u)) S1) E := by
  unfold mIsi optP OptP
  apply congrArg (fun f => m σ S f E)
  funext d S1
  cases tyD S1 d <;> rfl
theorem tyD_non {S : Sto} : tyD S .non = some "NoneType" := Eq.trans rfl rfl
theorem tyD_bl {S : Sto} {b : Bool} : tyD S (.bl b) = some "bool" := Eq.trans rfl rfl
theorem tyD_int {S : Sto} {b : Int} : tyD S (.int b) = some "int" := Eq.trans rfl rfl
theorem tyD_str {S : Sto} {b : Str} : tyD S (.str b) = some "str" := Eq.trans rfl rfl
theorem tyD_tup {S : Sto} {b : List D} : tyD S (.tup b) = some "tuple" := Eq.trans rfl rfl
theorem tyD_lst {S : Sto} {b : List D} : tyD S (.lst b) = some "list" := Eq.trans rfl rfl
theorem tyD_ref {S : Sto} {p : Addr} {b : List D} (h : S p = some (.lst b)) : tyD S (.ref p) = some "list" := by simp only [tyD, h]
theorem l_iL {m : ME} {σ : MSt} {S : Sto} {R : List D → (Sto → Prop) → Sto → Prop} {E : MXQ} : iL m σ S R E = m σ S (fun d S1 => optP (lstOf S1 d) fun ds => R ds (fun S' => lstOf S' d = some ds) S1) E := by
  unfold iL optP OptP
  apply congrArg (fun f => m σ S f E)
  funext d S1
  cases lstOf S1 d <;> rfl
theorem l_iT {m : ME} {σ : MSt} {S : Sto} {R : List D → (Sto → Prop) → Sto → Prop} {E : MXQ} : iT m σ S R E = m σ S (fun d S1 => optP (tupOf d) fun ds => R ds (fun _ => True) S1) E := by
  unfold iT optP OptP tupOf
  apply congrArg (fun f => m σ S f E)
  funext d S1
  cases d <;> rfl
theorem l_gTp {n : Nat} {gs : MGs} {d : D} {σ : MSt} {S : Sto} {Q : MSt → Sto → Prop} {E : MXQ} : gTp n gs d σ S Q E = optP (tupOf d) fun ds => ds.length = n ∧ gs ds σ S Q E := by cases d <;> rfl
theorem l_gLs {n : Nat} {gs : MGs} {d : D} {σ : MSt} {S : Sto} {Q : MSt → Sto → Prop} {E : MXQ} : gLs n gs d σ S Q E = optP (lstOf S d) fun ds => ds.length = n ∧ gs ds σ S Q E := by
  unfold gLs optP OptP; cases lstOf S d <;> rfl
theorem l_gCn {g : MG} {gs : MGs} {d : D} {r : List D} {σ : MSt} {S : Sto} {Q : MSt → Sto → Prop} {E : MXQ} : gCn g gs (d :: r) σ S Q E = g d σ S (fun σ' S' => gs r σ' S' Q E) E := Eq.trans rfl rfl
theorem l_gNl {σ : MSt} {S : Sto} {Q : MSt → Sto → Prop} {E : MXQ} : gNl [] σ S Q E = Go Q σ S := Eq.trans rfl rfl
theorem l_mtAppend {p : Addr} {y : D} {S : Sto} {Q : MQ} : mtAppend (.ref p) [y] S Q = optP (olP (S p)) fun xs => xs.length < sizeLine ∧ Q .non (put S p (.lst (xs ++ [y]))) := by
  simp only [mtAppend, optP, OptP, olP]
  cases S p with
  | none => rfl
  | some o => cases o <;> rfl
theorem isLst_ref {S : Sto} {p : Addr} {ds : List D} (h : S p = some (.lst ds)) : isLst S (.ref p) = True := eq_true ⟨ds, by simp only [lstOf, h]⟩
theorem szl {n : Nat} (h : n ≤ 1000) : (n ≤ sizeLine) = True := eq_true (line_le h)
theorem szlt {n : Nat} (h : n ≤ 1000) : (n < sizeLine) = True := eq_true (line_lt h)
theorem cpow_lit {i j : Int} (h : 0 ≤ j) (h2 : j ≤ 1000000) (h3 : -1000 ≤ i) (h4 : i ≤ 1000) : CPow i j = True := eq_true ⟨h, h2, by omega⟩
theorem mulok_rl {i j : Int} (h1 : -18446744073709551616 < j) (h2 : j < 18446744073709551616) : IntMulOk i j = True := eq_true (mulok_r (by omega) (by omega))
theorem mulok_ll {i j : Int} (h1 : -18446744073709551616 < i) (h2 : i < 18446744073709551616) : IntMulOk i j = True := eq_true (mulok_l (by omega) (by omega))
theorem divok_l {i j : Int} (h1 : 0 < j) (h2 : j < 1073741824) : DivOk i j = True := eq_true (divok_s (by omega) (by omega))
end ML

set_option maxRecDepth 100000
namespace ML
open PySem PySem.Spec L2
open PyProof.Rows hiding St
section
variable {X : Cx} {W : WX} {tg : Expr} {g : MG} {pos : Pos}
/-- name = [.. for ..], stored at once -/
theorem ssetLc {i : Nat} {y : Str} {py spos : Pos} {elt iter : Expr} {ifs : List Expr} {scope : Scope} {own : List (Str × Nat)} {mi : MI} {mt : MT} {me : ME} (hc : X.calm = true) (hN : X.N.Nodup) (hi : PI X tg iter (upI X.K W mi)) (ok : BlkOk X.N X.env.scope scope own)
    (hg : ∀ (s : Shared) (H : Hp) (C : Addr) (cl : List (Str × Addr)) (fp : List Addr), PG (X.blk s H scope (compEnvC scope cl C X.env) fp) tg (upGo X.K (own.map (·.2)) g)) (ht : ∀ (s : Shared) (H : Hp) (C : Addr) (cl : List (Str × Addr)) (fp : List Addr), PTs (X.blk s H scope (compEnvC scope cl C X.env) fp) ifs (upT X.K W0 mt))
    (he : ∀ (s : Shared) (H : Hp) (C : Addr) (cl : List (Str × Addr)) (fp : List Addr), PE (X.blk s H scope (compEnvC scope cl C X.env) fp) elt (upE X.K W0 me)) (hy : X.N[i]? = some y := by rfl) (hyl : X.env.scope.names.lookup y = some .local := by rfl)
    (hsw : swapsWith (.ListComp elt [⟨tg, iter, ifs, 0⟩] scope pos) (some (.Name y py)) spos.line X.env = pure true := by exact sw_true rfl rfl rfl rfl) (hs : ∀ x, foldedSetIterable iter X.env x = pure x := by intro _; rfl) :
    PS X (.Assign [.Name y py] (.ListComp elt [⟨tg, iter, ifs, 0⟩] scope pos) spos) (upS X.K W (mSet i (mComp mi g mt me (own.map (·.2))))) :=
  L2.PS.to (ps_setLc hc hN hy hyl hsw hi ok hg ht he hs) fun D σ H ⟨m, S, Dm, h1, h2, h3, h4⟩ =>
    ⟨m, S, _, _, h1, h2, h3, fun items G S1 J H1 q e1 s1 it Dp hD =>
      lc_to (Q := fun x H1 => gName i x σ H1 D.nx) (h1.ext e1) s1 it hD (q Dp (s1.fresh hD)) fun acc H' S' f ea e' s' => h4.nx _ S' _ H' f (e1.trans e') s' ((h1.ext (e1.trans e')).set (.ref Dp) i), xAt_ref h1 h4.ex⟩
end
/-- the next turn of a comprehension -/
def CompNext (p : Addr) (J : Nat → List D → Sto → Prop) (i : Nat) (y : D) (S4 : Sto) : Prop := ∃ acc, S4 p = some (.lst acc) ∧ acc.length < sizeLine ∧ ∃ acc', put S4 p (.lst (acc ++ [y])) p = some (.lst acc') ∧ J (i + 1) acc' (put S4 p (.lst (acc ++ [y])))
theorem CompNext.mk {p : Addr} {J : Nat → List D → Sto → Prop} {i : Nat} {y : D} {S4 : Sto} {acc : List D} (h : S4 p = some (.lst acc)) (hl : acc.length < sizeLine) (hj : J (i + 1) (acc ++ [y]) (put S4 p (.lst (acc ++ [y])))) : CompNext p J i y S4 := ⟨acc, h, hl, acc ++ [y], put_same, hj⟩
theorem comp_inv {items : List D} {σ : MSt} {S : Sto} {p : Addr} {own : List Nat} {G : Sto → Prop} {g : MG} {me : ME} {fin : List D → Sto → Prop} (J : Nat → List D → Sto → Prop) (hS : S p = some (.lst [])) (h0 : J 0 [] S)
    (hs : ∀ i d acc S', items[i]? = some d → J i acc S' → S' p = some (.lst acc) → G S' ∧ g d (wipeM σ own) S' (fun σ2 S2 => me σ2 S2 (fun y S4 => CompNext p J i y S4) noX) noX)
    (hd : ∀ acc S', J items.length acc S' → S' p = some (.lst acc) → G S' ∧ fin acc S') : @CompP items σ S p own ⟨G⟩ ⟨g⟩ ⟨mYes⟩ ⟨me⟩ ⟨fin⟩ := by
  refine ⟨fun i S' => ∃ acc, S' p = some (.lst acc) ∧ J i acc S', ⟨[], hS, h0⟩, fun i S' hi ⟨acc, ha, hj⟩ => ?_⟩
  cases e : items[i]? with
  | none =>
    have : i = items.length := by have := List.getElem?_eq_none_iff.mp e; omega
    subst this
    obtain ⟨h1, h2⟩ := hd acc S' hj ha
    exact ⟨h1, acc, ha, h2⟩
  | some d =>
    obtain ⟨h1, h2⟩ := hs i d acc S' e hj ha
    refine ⟨h1, ?_⟩
    have ee : (fun (σ2 : MSt) (S2 : Sto) => mYes σ2 S2 (fun k S3 => if k = true then me σ2 S3 (fun y S4 => ∃ acc, S4 p = some (.lst acc) ∧ acc.length < sizeLine ∧ ∃ acc_1, put S4 p (.lst (acc ++ [y])) p = some (.lst acc_1) ∧ J (i + 1) acc_1 (put S4 p (.lst (acc ++ [y])))) noX
        else ∃ acc, S3 p = some (.lst acc) ∧ J (i + 1) acc S3) noX) = fun σ2 S2 => me σ2 S2 (fun y S4 => CompNext p J i y S4) noX := by
      funext σ2 S2
      simp only [mYes, if_true, CompNext]
    exact Eq.mp (congrArg (fun f => g d (wipeM σ own) S' f noX) ee.symm) h2
theorem comp_rng {lo : Int} {n : Nat} {σ : MSt} {S : Sto} {p : Addr} {own : List Nat} {g : MG} {me : ME} {fin : List D → Sto → Prop} (J : Nat → List D → Sto → Prop) (hS : S p = some (.lst [])) (h0 : J 0 [] S)
    (hs : ∀ i acc S', i < n → J i acc S' → S' p = some (.lst acc) → g (.int (lo + (i : Nat))) (wipeM σ own) S' (fun σ2 S2 => me σ2 S2 (fun y S4 => CompNext p J i y S4) noX) noX)
    (hd : ∀ acc S', J n acc S' → S' p = some (.lst acc) → fin acc S') : @CompP (rngD lo n) σ S p own ⟨fun _ => True⟩ ⟨g⟩ ⟨mYes⟩ ⟨me⟩ ⟨fin⟩ :=
  comp_inv J hS h0 (fun i d acc S' e hj ha => by
    have hi : i < n := by
      have := (List.getElem?_eq_some_iff.mp e).1
      rwa [rngD_len] at this
    rw [rngD_get e]
    exact ⟨trivial, hs i acc S' hi hj ha⟩) fun acc S' hj ha => ⟨trivial, hd acc S' (by rwa [rngD_len] at hj) ha⟩
/-- each turn only tells a value -/
theorem comp_pure {items : List D} {σ : MSt} {S : Sto} {p : Addr} {own : List Nat} {G : Sto → Prop} {g : MG} {me : ME} {fin : List D → Sto → Prop} (f : Nat → D) (hz : items.length ≤ 1000) (hG : ∀ acc, G (put S p (.lst acc)))
    (h : ∀ i d acc (Q : MQ), items[i]? = some d → Q (f i) (put S p (.lst acc)) → g d (wipeM σ own) (put S p (.lst acc)) (fun σ2 S2 => me σ2 S2 Q noX) noX)
    (hf : fin ((List.range items.length).map f) (put S p (.lst ((List.range items.length).map f)))) : @CompP items σ (put S p (.lst [])) p own ⟨G⟩ ⟨g⟩ ⟨mYes⟩ ⟨me⟩ ⟨fin⟩ := by
  refine comp_inv (fun i acc S' => acc = (List.range i).map f ∧ S' = put S p (.lst acc)) put_same ⟨rfl, rfl⟩ ?_ ?_
  · rintro i d acc S' e ⟨rfl, rfl⟩ -
    have hi : i < items.length := (List.getElem?_eq_some_iff.mp e).1
    refine ⟨hG _, h i d _ _ e ?_⟩
    refine CompNext.mk put_same (line_lt (by simp only [List.length_map, List.length_range]; omega)) ⟨?_, by rw [put_put]⟩
    rw [List.range_succ, List.map_append]; rfl
  · rintro acc S' ⟨rfl, rfl⟩ -
    exact ⟨hG _, hf⟩
theorem comp_prng {lo : Int} {n : Nat} {σ : MSt} {S : Sto} {p : Addr} {own : List Nat} {g : MG} {me : ME} {fin : List D → Sto → Prop} (f : Nat → D) (hz : n ≤ 1000)
    (h : ∀ i acc (Q : MQ), i < n → Q (f i) (put S p (.lst acc)) → g (.int (lo + (i : Nat))) (wipeM σ own) (put S p (.lst acc)) (fun σ2 S2 => me σ2 S2 Q noX) noX)
    (hf : fin ((List.range n).map f) (put S p (.lst ((List.range n).map f)))) : @CompP (rngD lo n) σ (put S p (.lst [])) p own ⟨fun _ => True⟩ ⟨g⟩ ⟨mYes⟩ ⟨me⟩ ⟨fin⟩ :=
  comp_pure f (by rwa [rngD_len]) (fun _ => trivial) (fun i d acc Q e q => by
    have hi : i < n := by
      have := (List.getElem?_eq_some_iff.mp e).1
      rwa [rngD_len] at this
    rw [rngD_get e]
    exact h i acc Q hi q) (by rwa [rngD_len])
end ML

set_option maxRecDepth 100000
namespace ML
open PySem PySem.Spec L2
open PyProof.Rows hiding St
/-! ### a loop over a list or a tuple -/
section
variable {X : Cx} {W : WX} {tg : Expr} {m : ME}
theorem pi_sq {l : Expr} {tl : TE} (hl : PE X l tl) : PI X tg l (fun σ H R => tl σ H fun x H1 => ∃ a, x = .ref a ∧ (((∃ xs, SqL X.K H1 a xs) ∧ R (Itl X.K a) H1) ∨ ((∃ xs, SqT X.K H1 a xs) ∧ R (Itt X.K a) H1))) := by
  constructor
  intro pins s σ H R I h
  apply thn (hl.run pins s σ H _ I h)
  rintro v s1 ⟨x, H1, I1, r1, a, rfl, q1⟩
  obtain rfl : v = Value.ref a := r1
  have top : ∀ b ∈ [s1.heap.objs.size], FpOk X pins H1 b := by
    intro b hb
    obtain rfl := List.mem_singleton.mp hb
    exact I1.fpOk (Nat.le_refl _) (I1.hok.fresh (Nat.le_refl _))
  rcases q1 with ⟨⟨xs, hq⟩, q⟩ | ⟨⟨xs, hq⟩, q⟩
  · have ⟨its, _, p, _⟩ := I1.list hq
    apply wpAny_pyIter_list p.isList
    exact ⟨_, [s1.heap.objs.size], _, _, H1, rfl, I1.kept (t' := s1.toks) (fun _ _ e => Heap.get?_push_of_some _ e), turn_list a _, ⟨_, Heap.get?_push_size _ rfl, rfl, rfl⟩, top, q⟩
  · have ⟨its, _, p, _⟩ := I1.tuple hq
    apply wpAny_pyIter_tuple (show s1.heap.IsTuple a its.toArray from p)
    exact ⟨_, [s1.heap.objs.size], _, _, H1, rfl, I1.kept (t' := s1.toks) (fun _ _ e => Heap.get?_push_of_some _ e), turn_tuple a _, ⟨_, Heap.get?_push_size _ rfl, rfl, rfl⟩, top, q⟩
def iS (m : ME) : MI := fun σ S R E => m σ S (fun d S1 => match d with
  | .tup ds => R ds (fun _ => True) S1
  | d => match lstOf S1 d with
    | some ds => R ds (fun S' => lstOf S' d = some ds) S1
    | none => False) E
theorem is {l : Expr} (h : PE X l (upE X.K W m)) : PI X tg l (upI X.K W (iS m)) := L2.PI.to (pi_sq h) fun σ H R ⟨m, S, Rm, Em, h1, h2, h3, h4, h5⟩ =>
  ⟨m, S, _, Em, h1, h2, h3, fun d S1 v H1 q e s r => by
    have key : ∀ ds, lstOf S1 d = some ds → Rm ds (fun S' => lstOf S' d = some ds) S1 → ∃ a, v = .ref a ∧ (((∃ xs, SqL X.K H1 a xs) ∧ R (Itl X.K a) H1) ∨ ((∃ xs, SqT X.K H1 a xs) ∧ R (Itt X.K a) H1)) := fun ds e2 q => by
      obtain ⟨a, e1, hx, it⟩ := itok_list s r e2
      exact ⟨a, e1, .inl ⟨hx, h4 ds _ S1 _ H1 q e s it⟩⟩
    cases d with
    | tup ds =>
      obtain ⟨a, rfl, hx, it⟩ := itok_tup s r
      exact ⟨a, rfl, .inr ⟨hx, h4 _ _ S1 _ H1 q e s it⟩⟩
    | lst ds => exact key ds rfl q
    | scr ds => exact key ds rfl q
    | ref p =>
      dsimp only at q
      cases e2 : lstOf S1 (.ref p) with
      | none => rw [e2] at q; exact q.elim
      | some ds => rw [e2] at q; exact key ds e2 q
    | _ => exact q.elim, h5⟩
end
def sqI (S : Sto) : D → Option (List D × (Sto → Prop))
  | .tup ds => some (ds, fun _ => True)
  | .lst ds => some (ds, fun _ => True)
  | .scr ds => some (ds, fun _ => True)
  | .ref p => (olP (S p)).map fun ds => (ds, fun S' => olP (S' p) = some ds)
  | _ => none
theorem l_iS {m : ME} {σ : MSt} {S : Sto} {R : List D → (Sto → Prop) → Sto → Prop} {E : MXQ} : iS m σ S R E = m σ S (fun d S1 => optP (sqI S1 d) fun r => R r.1 r.2 S1) E := by
  unfold iS
  apply congrArg (fun f => m σ S f E)
  funext d S1
  cases d with
  | ref p =>
    simp only [lstOf_ref', optP, OptP, sqI]
    cases e : olP (S1 p) <;> simp
  | lst ds => simp only [lstOf, optP, OptP, sqI]
  | scr ds => simp only [lstOf, optP, OptP, sqI]
  | tup ds => simp only [optP, OptP, sqI]
  | _ => simp only [lstOf, optP, OptP, sqI]
theorem sqI_tup {S : Sto} {ds : List D} : sqI S (.tup ds) = some (ds, fun _ => True) := Eq.trans rfl rfl
theorem sqI_lst {S : Sto} {ds : List D} : sqI S (.lst ds) = some (ds, fun _ => True) := Eq.trans rfl rfl
theorem sqI_scr {S : Sto} {ds : List D} : sqI S (.scr ds) = some (ds, fun _ => True) := Eq.trans rfl rfl
theorem sqI_ref {S : Sto} {p : Addr} {ds : List D} : sqI (put S p (.lst ds)) (.ref p) = some (ds, fun S' => olP (S' p) = some ds) := by
  simp only [sqI, put_same, olP, Option.map_some]
theorem sqI_at {S : Sto} {p : Addr} {ds : List D} (h : S p = some (.lst ds)) : sqI S (.ref p) = some (ds, fun S' => olP (S' p) = some ds) := by
  simp only [sqI, h, olP, Option.map_some]
/-! ### comprehensions, loops turn by turn -/
def croll (G : Sto → Prop) (g : MG) (mt : MT) (me : ME) (p : Addr) (own : List Nat) (σ : MSt) (fin : List D → Sto → Prop) : List D → Sto → Prop
  | [], S => G S ∧ ∃ acc, S p = some (.lst acc) ∧ fin acc S
  | d :: ds, S => G S ∧ g d (wipeM σ own) S (fun σ2 S2 => mt σ2 S2 (fun k S3 => if k = true then me σ2 S3 (fun y S4 => ∃ acc, S4 p = some (.lst acc) ∧ acc.length < sizeLine ∧ croll G g mt me p own σ fin ds (put S4 p (.lst (acc ++ [y])))) noX else croll G g mt me p own σ fin ds S3) noX) noX
theorem wlc_roll {G : Sto → Prop} {g : MG} {mt : MT} {me : ME} {p : Addr} {own : List Nat} {σ : MSt} {fin : List D → Sto → Prop} {items : List D} {S : Sto} (h : croll G g mt me p own σ fin items S) : wlc G g mt me p own σ fin items S := by
  refine ⟨fun i => croll G g mt me p own σ fin (items.drop i), by simpa using h, fun i S hi h => ?_⟩
  dsimp only at h ⊢
  by_cases hlt : i < items.length
  · have hd : items.drop i = items[i] :: items.drop (i + 1) := List.drop_eq_getElem_cons hlt
    rw [hd] at h
    rw [List.getElem?_eq_getElem hlt]
    exact h
  · have e : i = items.length := by omega
    subst e
    rw [List.drop_length] at h
    rw [List.getElem?_eq_none (by omega)]
    exact h
/-- the rest of a comprehension, held -/
def CrP (items : List D) (S : Sto) (p : Addr) [k : Hold (List D → Sto → Prop)] : Prop := k.v items S
def CrA (y : D) (S : Sto) (p : Addr) [k : Hold (Sto → Prop)] : Prop := ∃ acc, S p = some (.lst acc) ∧ acc.length < sizeLine ∧ k.v (put S p (.lst (acc ++ [y])))
theorem CrA_at {y : D} {S : Sto} {p : Addr} {acc : List D} {k : Hold (Sto → Prop)} : @CrA y (put S p (.lst acc)) p k = (acc.length < sizeLine ∧ k.v (put S p (.lst (acc ++ [y])))) := by
  unfold CrA
  apply propext
  constructor
  · rintro ⟨a, h1, h2, h3⟩
    rw [put_same] at h1
    cases h1
    rw [put_put] at h3
    exact ⟨h2, h3⟩
  · rintro ⟨h1, h2⟩
    exact ⟨acc, put_same, h1, by rw [put_put]; exact h2⟩
structure CrK where
  G : Sto → Prop
  g : MG
  mt : MT
  me : ME
  p : Addr
  own : List Nat
  σ : MSt
  fin : List D → Sto → Prop
def CrollP (items : List D) (S : Sto) [k : Hold CrK] : Prop := croll k.v.G k.v.g k.v.mt k.v.me k.v.p k.v.own k.v.σ k.v.fin items S
theorem CrollP_nil {S : Sto} {G : Sto → Prop} {g : MG} {mt : MT} {me : ME} {p : Addr} {own : List Nat} {σ : MSt} {fin : List D → Sto → Prop} {acc : List D} : @CrollP [] (put S p (.lst acc)) ⟨⟨G, g, mt, me, p, own, σ, fin⟩⟩ = (G (put S p (.lst acc)) ∧ fin acc (put S p (.lst acc))) := by
  apply propext
  constructor
  · rintro ⟨h, a, h1, h2⟩
    have h3 : put S p (.lst acc) p = some (.lst a) := h1
    rw [put_same] at h3; cases h3
    exact ⟨h, h2⟩
  · rintro ⟨h1, h2⟩; exact ⟨h1, acc, put_same, h2⟩
theorem CrollP_cons {d : D} {ds : List D} {S : Sto} {G : Sto → Prop} {g : MG} {mt : MT} {me : ME} {p : Addr} {own : List Nat} {σ : MSt} {fin : List D → Sto → Prop} : @CrollP (d :: ds) S ⟨⟨G, g, mt, me, p, own, σ, fin⟩⟩ =
    (G S ∧ g d (wipeM σ own) S (fun σ2 S2 => mt σ2 S2 (fun k S3 => @IteP (k = true) ⟨me σ2 S3 (fun y S4 => @CrA y S4 p ⟨fun S5 => @CrollP ds S5 ⟨⟨G, g, mt, me, p, own, σ, fin⟩⟩⟩) noX⟩ ⟨@CrollP ds S3 ⟨⟨G, g, mt, me, p, own, σ, fin⟩⟩⟩) noX) noX) := by
  simp only [CrollP, croll, IteP_bool]
  rfl
theorem comp_roll {items : List D} {σ : MSt} {S : Sto} {p : Addr} {own : List Nat} {G : Sto → Prop} {g : MG} {mt : MT} {me : ME} {fin : List D → Sto → Prop} (h : @CrollP items S ⟨⟨G, g, mt, me, p, own, σ, fin⟩⟩) : @CompP items σ S p own ⟨G⟩ ⟨g⟩ ⟨mt⟩ ⟨me⟩ ⟨fin⟩ := wlc_roll h
theorem l_mYes {σ : MSt} {S : Sto} {Q : Bool → Sto → Prop} {E : MXQ} : mYes σ S Q E = Q true S := Eq.trans rfl rfl
/-- a loop over known items, turn by turn -/
structure FoK where
  G : Sto → Prop
  g : MG
  mb : MS
  D : MEnds
def FrollP (items : List D) (σ : MSt) (S : Sto) [k : Hold FoK] : Prop := wroll k.v.G k.v.g k.v.mb k.v.D items σ S
theorem FrollP_nil {σ : MSt} {S : Sto} {G : Sto → Prop} {g : MG} {mb : MS} {De : MEnds} : @FrollP [] σ S ⟨⟨G, g, mb, De⟩⟩ = (G S ∧ Go De.nx σ S) := Eq.trans rfl rfl
theorem FrollP_cons {d : D} {ds : List D} {σ : MSt} {S : Sto} {G : Sto → Prop} {g : MG} {mb : MS} {De : MEnds} : @FrollP (d :: ds) σ S ⟨⟨G, g, mb, De⟩⟩ =
    (G S ∧ g d σ S (fun σ' S' => mb { De with nx := fun σ S => @FrollP ds σ S ⟨⟨G, g, mb, De⟩⟩, ct := fun σ S => @FrollP ds σ S ⟨⟨G, g, mb, De⟩⟩, bk := De.nx } σ' S') (xAt De σ)) := Eq.trans rfl rfl
theorem for_roll {items : List D} {σ : MSt} {S : Sto} {G : Sto → Prop} {g : MG} {mb : MS} {De : MEnds} (h : @FrollP items σ S ⟨⟨G, g, mb, De⟩⟩) : @ForP items σ S ⟨G⟩ ⟨g⟩ ⟨mb⟩ ⟨De⟩ := wfor_roll h
/-! ### if, its ways come together: what holds behind it is said -/
def mIfJ (c : MT) (t u : MS) : MS := fun De σ S => c σ S (fun b S1 => ∃ J : MSt → Sto → Prop, (if b = true then t { De with nx := J } σ S1 else u { De with nx := J } σ S1) ∧ ∀ σ' S', J σ' S' → De.nx σ' S') (xAt De σ)
section
variable {X : Cx} {W : WX} {c : Expr} {mt mu : MS} {pos : Pos}
theorem sifJ {tc : MT} {as bs : List Stmt} (hc : PT X c (upT X.K W tc)) (ha : PSs X as (upS X.K W mt)) (hb : PSs X bs (upS X.K W mu)) : PS X (.If c as bs pos) (upS X.K W (mIfJ tc mt mu)) := L2.PS.to (ps_if hc ha hb) fun D σ H ⟨m, S, Dm, h1, h2, h3, h4⟩ =>
  ⟨m, S, _, _, h1, h2, h3, fun k S1 H1 q e s => by
    obtain ⟨J, q, hJ⟩ := q
    have r : RefE X.K H1 S1 { Dm with nx := J } D W := ⟨fun m' S' σ' H' z e' s' r' => h4.nx m' S' σ' H' (hJ _ _ z) (e.trans e') s' r', (h4.ext e).rt, (h4.ext e).bk, (h4.ext e).ct, (h4.ext e).ex⟩
    cases k with
    | true => rw [if_pos rfl]; exact ⟨m, S1, _, h1.ext e, s, by simpa using q, r⟩
    | false => rw [if_neg Bool.false_ne_true]; exact ⟨m, S1, _, h1.ext e, s, by simpa using q, r⟩, xAt_ref h1 h4.ex⟩
end
def JfP (c : Prop) (σ : MSt) (S : Sto) [t : Hold MS] [u : Hold MS] [De : Hold MEnds] : Prop := ∃ J : MSt → Sto → Prop, ((c → t.v { De.v with nx := J } σ S) ∧ (¬ c → u.v { De.v with nx := J } σ S)) ∧ ∀ σ' S', J σ' S' → De.v.nx σ' S'
theorem l_mIfJ {c : MT} {t u : MS} {De : MEnds} {σ : MSt} {S : Sto} : mIfJ c t u De σ S = c σ S (fun b S1 => @JfP (b = true) σ S1 ⟨t⟩ ⟨u⟩ ⟨De⟩) (xAt De σ) := by
  unfold mIfJ
  apply congrArg (fun f => c σ S f (xAt De σ))
  funext b S1
  have e : ∀ J : MSt → Sto → Prop, (if b = true then t { De with nx := J } σ S1 else u { De with nx := J } σ S1) = ((b = true → t { De with nx := J } σ S1) ∧ (¬ b = true → u { De with nx := J } σ S1)) := fun J => IteP_bool
  simp only [e]
  rfl
theorem jf {c : Prop} {σ : MSt} {S : Sto} {t u : MS} {De : MEnds} (J : MSt → Sto → Prop) (h1 : c → t { De with nx := J } σ S) (h2 : ¬ c → u { De with nx := J } σ S) (k : ∀ σ' S', J σ' S' → Go De.nx σ' S') : @JfP c σ S ⟨t⟩ ⟨u⟩ ⟨De⟩ := ⟨J, ⟨h1, h2⟩, k⟩
/-- a row behind which what holds is said -/
def mJ (t : MS) : MS := fun De σ S => ∃ J : MSt → Sto → Prop, t { De with nx := J } σ S ∧ ∀ σ' S', J σ' S' → De.nx σ' S'
theorem sJ {X : Cx} {W : WX} {st : Stmt} {t : MS} (h : PS X st (upS X.K W t)) : PS X st (upS X.K W (mJ t)) := L2.PS.to h fun D σ H ⟨m, S, Dm, h1, h2, ⟨J, q, hJ⟩, h4⟩ =>
  ⟨m, S, _, h1, h2, q, ⟨fun m' S' σ' H' z e' s' r' => h4.nx m' S' σ' H' (hJ _ _ z) e' s' r', h4.rt, h4.bk, h4.ct, h4.ex⟩⟩
def JP (σ : MSt) (S : Sto) [t : Hold MS] [De : Hold MEnds] : Prop := ∃ J : MSt → Sto → Prop, t.v { De.v with nx := J } σ S ∧ ∀ σ' S', J σ' S' → De.v.nx σ' S'
theorem l_mJ {t : MS} {De : MEnds} {σ : MSt} {S : Sto} : mJ t De σ S = @JP σ S ⟨t⟩ ⟨De⟩ := Eq.trans rfl rfl
theorem jp {σ : MSt} {S : Sto} {t : MS} {De : MEnds} (J : MSt → Sto → Prop) (h1 : t { De with nx := J } σ S) (k : ∀ σ' S', J σ' S' → Go De.nx σ' S') : @JP σ S ⟨t⟩ ⟨De⟩ := ⟨J, h1, k⟩
theorem isN_non : isN .non = true := Eq.trans rfl rfl
theorem isN_int {i : Int} : isN (.int i) = false := Eq.trans rfl rfl
theorem isN_bl {i : Bool} : isN (.bl i) = false := Eq.trans rfl rfl
theorem isN_str {i : Str} : isN (.str i) = false := Eq.trans rfl rfl
theorem isN_tup {i : List D} : isN (.tup i) = false := Eq.trans rfl rfl
theorem isN_lst {i : List D} : isN (.lst i) = false := Eq.trans rfl rfl
theorem isN_ref {i : Addr} : isN (.ref i) = false := Eq.trans rfl rfl
theorem put_sw {p q : Addr} (h : q ≠ p) (S : Sto) (a b : MO) : put (put S q a) p b = put (put S p b) q a := put_comm h
theorem rngD_0 {lo : Int} : rngD lo 0 = [] := rfl
theorem rngD_1 {lo : Int} : rngD lo 1 = [.int lo] := by simp [rngD, List.range, List.range.loop]
theorem rngD_2 {lo : Int} : rngD lo 2 = [.int lo, .int (lo + 1)] := by simp [rngD, List.range, List.range.loop]
theorem rngD_3 {lo : Int} : rngD lo 3 = [.int lo, .int (lo + 1), .int (lo + 2)] := by simp [rngD, List.range, List.range.loop]
theorem rngD_4 {lo : Int} : rngD lo 4 = [.int lo, .int (lo + 1), .int (lo + 2), .int (lo + 3)] := by simp [rngD, List.range, List.range.loop]
theorem rngD_6 {lo : Int} : rngD lo 6 = [.int lo, .int (lo + 1), .int (lo + 2), .int (lo + 3), .int (lo + 4), .int (lo + 5)] := by simp [rngD, List.range, List.range.loop]
theorem fresh_put {S : Sto} {p q : Addr} {o : MO} (h : put S p o q = none) : q ≠ p ∧ S q = none := by
  have e : q ≠ p := fun z => by rw [z, put_same] at h; cases h
  rw [put_ne e] at h
  exact ⟨e, h⟩
theorem put3 {S : Sto} {p q : Addr} {a b c : MO} (h : q ≠ p) : put (put (put S p a) q b) p c = put (put S p c) q b := by
  rw [put_comm (Ne.symm h), put_put, put_comm h]
theorem q_wipeM_nil {σ : MSt} : wipeM σ [] = σ := rfl
theorem q_wipeM_cons {σ : MSt} {v : Nat} {vs : List Nat} : wipeM σ (v :: vs) = (wipeM σ vs).set v none := rfl
end ML

set_option maxRecDepth 100000
/-! ### max, min of two values that are compared by what stands in the heap -/
namespace PySem
/-- x op y tells b wherever what stood stands -/
def CmpAt (prog : Program) (w : World) (A : Around) (s0 : Heap) (op : CmpOp) (x y : Value) (b : Bool) : Prop :=
  ∀ (s : Shared) (Q E : Value → Shared → Prop), (∀ c o, s0.get? c = some o → s.heap.get? c = some o) → Q (.bool b) s → wpAny (model prog w) A (richCompare op x y) Q E s
section
variable {prog : Program} {w : World} {A : Around} {E : Value → Shared → Prop} {s : Shared}
theorem two_loop_max {a b : Value} {k : Bool} {I S ax : Addr} {h0 : Heap} {n0 : Nat} (hh : A.handled = none) (hne : ax ≠ I) (hSI : S ≠ I) (hSa : S ≠ ax) (hc : CmpAt prog w A.in1 h0 .Gt b a k) {R : Result → Shared → Prop} (lt : ∀ c o, h0.get? c = some o → c ≠ I ∧ c ≠ S)
    (hk0 : ∀ c o, h0.get? c = some o → s.heap.get? c = some o) (hI : s.heap.IsTupleIter I ax 0) (hT : s.heap.IsTuple ax #[a, b]) (hS : s.heap.get? S = some { cls := .type "list", dict := none, data := .seq #[] n0, slots := #[] })
    (hR : ∀ h' tk, (∀ c o, h0.get? c = some o → h'.get? c = some o) → R (.ok (.ret (if k = true then b else a))) { s with heap := h', toks := tk }) :
    codeAny (model prog w) A (.builtin "max.loop" ⟨[.ref I, .none, .ref S], []⟩) R s := by
  have W := Walks.tuple (prog := prog) (w := w) (A := A.in1) hh I ax hne #[a, b]
  have hw : S ∉ [I] := by simp [hSI]
  have hname : (toString "max" ++ toString ".loop" : String) = "max.loop" := by decide
  have ni : ∀ c o, h0.get? c = some o → c ∉ [I] := fun c o e => by simp [(lt c o e).1]
  apply codeAny_builtin F.entry_max_loop; rw [Around.under_plainId F.plain_max_loop _]; show wpAny _ A.in1 (_ >>= _) _ _ s
  refine wpAny_bind (wpAny_seqItems hS rfl ?_); show wpAny _ A.in1 (tryCatch (pyNext (.ref I)) _ >>= _) _ _ s
  refine wpAny_bind (wpAny_tryCatch (W.item 0 s _ _ (by simp) ⟨hI, hT⟩ fun v1 h1 t1 p1 st1 k1 => ?_))
  have e1 : v1 = a := by simpa using p1.symm
  have hS1 := k1 S _ hw hS
  show wpAny _ A.in1 (updateSeq S (fun _ => #[v1, v1]) >>= _) _ _ _
  apply wpAny_bind; refine wpAny_updateSeq hS1 rfl ?_; rw [hname]
  refine wpAny_pure ⟨plainId_quiet F.plain_max_loop _, ?_⟩
  have hS2 := Heap.get?_update_self (Obj.mapSeq fun _ => #[v1, v1]) hS1 rfl
  have st2 := W.frame 1 _ (h1.update S (Obj.mapSeq fun _ => #[v1, v1])) st1 fun c hc o e => (Heap.get?_update_other _ _ (fun z : S = c => by
    rw [← z] at hc; simp [hSI, hSa] at hc)).trans e
  have k2 : ∀ c o, h0.get? c = some o → (h1.update S (Obj.mapSeq fun _ => #[v1, v1])).get? c = some o := fun c o e => (Heap.get?_update_other _ _ (Ne.symm (lt c o e).2)).trans (k1 c o (ni c o e) (hk0 c o e))
  generalize h1.update S (Obj.mapSeq fun _ => #[v1, v1]) = h2 at hS2 st2 k2
  apply codeAny_builtin F.entry_max_loop; rw [Around.under_plainId F.plain_max_loop _]; show wpAny _ A.in1 (_ >>= _) _ _ _
  refine wpAny_bind (wpAny_seqItems hS2 rfl ?_); show wpAny _ A.in1 (tryCatch (pyNext (.ref I)) _ >>= _) _ _ _
  refine wpAny_bind (wpAny_tryCatch (W.item 1 _ _ _ (by simp) st2 fun v2 h3 t3 p2 st3 k3 => ?_))
  have e2 : v2 = b := by simpa using p2.symm
  have hS3 := k3 S _ hw hS2
  have k4 : ∀ c o, h0.get? c = some o → h3.get? c = some o := fun c o e => k3 c o (ni c o e) (k2 c o e)
  show wpAny _ A.in1 (tryCatch (holding [v2, v2] (richCompare .Gt v2 v1 >>= _)) _ >>= _) _ _ _
  subst e1 e2
  refine wpAny_bind (wpAny_tryCatch (wpAny_holding (wpAny_bind (hc _ _ _ k4 ?_))))
  refine wpAny_bind (wpAny_holding (wpAny_truthy_bool ?_)); refine wpAny_bind (wpAny_letGo (wpAny_pure ?_))
  have fin : ∀ (h4 : Heap) (t4 m4 : Nat) (vb : Value), h4.IsTupleIter I ax 2 ∧ h4.IsTuple ax #[v1, v2] → h4.get? S = some { cls := .type "list", dict := none, data := .seq #[vb, vb] m4, slots := #[] } → (∀ c o, h0.get? c = some o → h4.get? c = some o) →
      (∀ h' tk, (∀ c o, h0.get? c = some o → h'.get? c = some o) → R (.ok (.ret vb)) { s with heap := h', toks := tk }) → codeAny (model prog w) A (.builtin "max.loop" ⟨[.ref I, .none, .ref S], []⟩) R { s with heap := h4, toks := t4 } := fun h4 t4 m4 vb st4 hS4 k4 hR => by
    apply codeAny_builtin F.entry_max_loop; rw [Around.under_plainId F.plain_max_loop _]; show wpAny _ A.in1 (_ >>= _) _ _ _
    refine wpAny_bind (wpAny_seqItems hS4 rfl ?_); show wpAny _ A.in1 (tryCatch (pyNext (.ref I)) _ >>= _) _ _ _
    refine wpAny_bind (wpAny_tryCatch (W.done _ _ _ st4 fun h5 t5 k5 => ?_))
    have hS5 := k5 S _ hw hS4
    show wpAny _ A.in1 (updateSeq S (fun _ => #[]) >>= _) _ _ _
    apply wpAny_bind; refine wpAny_updateSeq hS5 rfl (wpAny_bind (wpAny_letGo (wpAny_pure ?_)))
    exact hR _ t5 fun c o e => (Heap.get?_update_other _ _ (Ne.symm (lt c o e).2)).trans (k5 c o (ni c o e) (k4 c o e))
  cases k with
  | true =>
    simp only [if_true] at hR ⊢
    apply wpAny_bind; refine wpAny_updateSeq hS3 rfl (wpAny_bind (wpAny_letGo ?_)); rw [hname]
    refine wpAny_pure ⟨plainId_quiet F.plain_max_loop _, fin _ _ _ v2 ?_ (Heap.get?_update_self _ hS3 rfl) (fun c o e => (Heap.get?_update_other _ _ (Ne.symm (lt c o e).2)).trans (k4 c o e)) hR⟩
    exact W.frame 2 _ _ st3 fun c hc o e => (Heap.get?_update_other _ _ (fun z : S = c => by
      rw [← z] at hc; simp [hSI, hSa] at hc)).trans e
  | false =>
    simp only [Bool.false_eq_true, if_false] at hR ⊢
    refine wpAny_bind (wpAny_letGo ?_); rw [hname]
    exact wpAny_pure ⟨plainId_quiet F.plain_max_loop _, fin _ _ _ v1 st3 hS3 k4 hR⟩
theorem call_max_at {a b : Value} {k : Bool} {Q : Value → Shared → Prop} (hh : A.handled = none) (hc : CmpAt prog w A.in1 s.heap .Gt b a k)
    (h : ∀ h' tk, (∀ c o, s.heap.get? c = some o → h'.get? c = some o) → Q (if k = true then b else a) { s with heap := h', toks := tk }) : wpAny (model prog w) A (call (.builtin "max") [a, b]) Q E s := by
  have hT : (s.heap.push { cls := .type "tuple", data := .seq #[a, b] }).IsTuple s.heap.objs.size #[a, b] := ⟨_, Heap.get?_push_size _ rfl, rfl, 0, rfl⟩
  have hname : (toString "max" ++ toString ".loop" : String) = "max.loop" := by decide
  have z1 : (s.heap.push { cls := .type "tuple", data := .seq #[a, b] }).objs.size = s.heap.objs.size + 1 := Heap.size_push ..
  apply call_function_tree F.kind_max F.plain_max F.entry_max (F.args_max2 _ _)
  show wpAny _ A.in1 (Builtin.Builtins.bindParams "max" ["key", "default"] 0 ⟨[], []⟩ >>= _) _ _ s
  apply wpAny_bind; apply wpAny_of_eq (show Builtin.Builtins.bindParams "max" ["key", "default"] 0 ⟨[], []⟩ = pure [none, none] from rfl)
  show wpAny _ A.in1 (newTuple [a, b] >>= _) _ _ s
  apply wpAny_bind; refine wpAny_newObj_type ?_; apply wpAny_bind; apply wpAny_pyIter_tuple hT
  apply wpAny_bind; refine wpAny_newObj_type ?_
  rw [hname]
  refine wpAny_pure ⟨plainId_quiet F.plain_max_loop _, two_loop_max (h0 := s.heap) (ax := s.heap.objs.size) hh ?_ ?_ ?_ hc (fun c o e => ?_) (fun c o e => ?_) ?_ ?_ (Heap.get?_push_size _ rfl) h⟩
  · exact Nat.ne_of_lt (show s.heap.objs.size < (s.heap.push _).objs.size by simp only [Heap.size_push]; omega)
  · exact Nat.ne_of_gt (show (s.heap.push _).objs.size < ((s.heap.push _).push _).objs.size by simp only [Heap.size_push]; omega)
  · exact Nat.ne_of_gt (show s.heap.objs.size < ((s.heap.push _).push _).objs.size by simp only [Heap.size_push]; omega)
  · have lz := Heap.lt_size e
    exact ⟨Nat.ne_of_lt (show c < (s.heap.push _).objs.size by simp only [Heap.size_push]; exact Nat.lt_succ_of_lt lz), Nat.ne_of_lt (show c < ((s.heap.push _).push _).objs.size by simp only [Heap.size_push]; exact Nat.lt_succ_of_lt (Nat.lt_succ_of_lt lz))⟩
  · exact Heap.get?_push_of_some _ (Heap.get?_push_of_some _ (Heap.get?_push_of_some _ e))
  · exact ⟨_, Heap.get?_push_of_some _ (Heap.get?_push_size _ rfl), rfl, rfl⟩
  · exact (hT.push _).push _
end
section
variable {prog : Program} {w : World} {A : Around} {E : Value → Shared → Prop} {s : Shared}
theorem two_loop_min {a b : Value} {k : Bool} {I S ax : Addr} {h0 : Heap} {n0 : Nat} (hh : A.handled = none) (hne : ax ≠ I) (hSI : S ≠ I) (hSa : S ≠ ax) (hc : CmpAt prog w A.in1 h0 .Lt b a k) {R : Result → Shared → Prop} (lt : ∀ c o, h0.get? c = some o → c ≠ I ∧ c ≠ S)
    (hk0 : ∀ c o, h0.get? c = some o → s.heap.get? c = some o) (hI : s.heap.IsTupleIter I ax 0) (hT : s.heap.IsTuple ax #[a, b]) (hS : s.heap.get? S = some { cls := .type "list", dict := none, data := .seq #[] n0, slots := #[] })
    (hR : ∀ h' tk, (∀ c o, h0.get? c = some o → h'.get? c = some o) → R (.ok (.ret (if k = true then b else a))) { s with heap := h', toks := tk }) :
    codeAny (model prog w) A (.builtin "min.loop" ⟨[.ref I, .none, .ref S], []⟩) R s := by
  have W := Walks.tuple (prog := prog) (w := w) (A := A.in1) hh I ax hne #[a, b]
  have hw : S ∉ [I] := by simp [hSI]
  have hname : (toString "min" ++ toString ".loop" : String) = "min.loop" := by decide
  have ni : ∀ c o, h0.get? c = some o → c ∉ [I] := fun c o e => by simp [(lt c o e).1]
  apply codeAny_builtin F.entry_min_loop; rw [Around.under_plainId F.plain_min_loop _]; show wpAny _ A.in1 (_ >>= _) _ _ s
  refine wpAny_bind (wpAny_seqItems hS rfl ?_); show wpAny _ A.in1 (tryCatch (pyNext (.ref I)) _ >>= _) _ _ s
  refine wpAny_bind (wpAny_tryCatch (W.item 0 s _ _ (by simp) ⟨hI, hT⟩ fun v1 h1 t1 p1 st1 k1 => ?_))
  have e1 : v1 = a := by simpa using p1.symm
  have hS1 := k1 S _ hw hS
  show wpAny _ A.in1 (updateSeq S (fun _ => #[v1, v1]) >>= _) _ _ _
  apply wpAny_bind; refine wpAny_updateSeq hS1 rfl ?_; rw [hname]
  refine wpAny_pure ⟨plainId_quiet F.plain_min_loop _, ?_⟩
  have hS2 := Heap.get?_update_self (Obj.mapSeq fun _ => #[v1, v1]) hS1 rfl
  have st2 := W.frame 1 _ (h1.update S (Obj.mapSeq fun _ => #[v1, v1])) st1 fun c hc o e => (Heap.get?_update_other _ _ (fun z : S = c => by
    rw [← z] at hc; simp [hSI, hSa] at hc)).trans e
  have k2 : ∀ c o, h0.get? c = some o → (h1.update S (Obj.mapSeq fun _ => #[v1, v1])).get? c = some o := fun c o e => (Heap.get?_update_other _ _ (Ne.symm (lt c o e).2)).trans (k1 c o (ni c o e) (hk0 c o e))
  generalize h1.update S (Obj.mapSeq fun _ => #[v1, v1]) = h2 at hS2 st2 k2
  apply codeAny_builtin F.entry_min_loop; rw [Around.under_plainId F.plain_min_loop _]; show wpAny _ A.in1 (_ >>= _) _ _ _
  refine wpAny_bind (wpAny_seqItems hS2 rfl ?_); show wpAny _ A.in1 (tryCatch (pyNext (.ref I)) _ >>= _) _ _ _
  refine wpAny_bind (wpAny_tryCatch (W.item 1 _ _ _ (by simp) st2 fun v2 h3 t3 p2 st3 k3 => ?_))
  have e2 : v2 = b := by simpa using p2.symm
  have hS3 := k3 S _ hw hS2
  have k4 : ∀ c o, h0.get? c = some o → h3.get? c = some o := fun c o e => k3 c o (ni c o e) (k2 c o e)
  show wpAny _ A.in1 (tryCatch (holding [v2, v2] (richCompare .Lt v2 v1 >>= _)) _ >>= _) _ _ _
  subst e1 e2
  refine wpAny_bind (wpAny_tryCatch (wpAny_holding (wpAny_bind (hc _ _ _ k4 ?_))))
  refine wpAny_bind (wpAny_holding (wpAny_truthy_bool ?_)); refine wpAny_bind (wpAny_letGo (wpAny_pure ?_))
  have fin : ∀ (h4 : Heap) (t4 m4 : Nat) (vb : Value), h4.IsTupleIter I ax 2 ∧ h4.IsTuple ax #[v1, v2] → h4.get? S = some { cls := .type "list", dict := none, data := .seq #[vb, vb] m4, slots := #[] } → (∀ c o, h0.get? c = some o → h4.get? c = some o) →
      (∀ h' tk, (∀ c o, h0.get? c = some o → h'.get? c = some o) → R (.ok (.ret vb)) { s with heap := h', toks := tk }) → codeAny (model prog w) A (.builtin "min.loop" ⟨[.ref I, .none, .ref S], []⟩) R { s with heap := h4, toks := t4 } := fun h4 t4 m4 vb st4 hS4 k4 hR => by
    apply codeAny_builtin F.entry_min_loop; rw [Around.under_plainId F.plain_min_loop _]; show wpAny _ A.in1 (_ >>= _) _ _ _
    refine wpAny_bind (wpAny_seqItems hS4 rfl ?_); show wpAny _ A.in1 (tryCatch (pyNext (.ref I)) _ >>= _) _ _ _
    refine wpAny_bind (wpAny_tryCatch (W.done _ _ _ st4 fun h5 t5 k5 => ?_))
    have hS5 := k5 S _ hw hS4
    show wpAny _ A.in1 (updateSeq S (fun _ => #[]) >>= _) _ _ _
    apply wpAny_bind; refine wpAny_updateSeq hS5 rfl (wpAny_bind (wpAny_letGo (wpAny_pure ?_)))
    exact hR _ t5 fun c o e => (Heap.get?_update_other _ _ (Ne.symm (lt c o e).2)).trans (k5 c o (ni c o e) (k4 c o e))
  cases k with
  | true =>
    simp only [if_true] at hR ⊢
    apply wpAny_bind; refine wpAny_updateSeq hS3 rfl (wpAny_bind (wpAny_letGo ?_)); rw [hname]
    refine wpAny_pure ⟨plainId_quiet F.plain_min_loop _, fin _ _ _ v2 ?_ (Heap.get?_update_self _ hS3 rfl) (fun c o e => (Heap.get?_update_other _ _ (Ne.symm (lt c o e).2)).trans (k4 c o e)) hR⟩
    exact W.frame 2 _ _ st3 fun c hc o e => (Heap.get?_update_other _ _ (fun z : S = c => by
      rw [← z] at hc; simp [hSI, hSa] at hc)).trans e
  | false =>
    simp only [Bool.false_eq_true, if_false] at hR ⊢
    refine wpAny_bind (wpAny_letGo ?_); rw [hname]
    exact wpAny_pure ⟨plainId_quiet F.plain_min_loop _, fin _ _ _ v1 st3 hS3 k4 hR⟩
theorem call_min_at {a b : Value} {k : Bool} {Q : Value → Shared → Prop} (hh : A.handled = none) (hc : CmpAt prog w A.in1 s.heap .Lt b a k)
    (h : ∀ h' tk, (∀ c o, s.heap.get? c = some o → h'.get? c = some o) → Q (if k = true then b else a) { s with heap := h', toks := tk }) : wpAny (model prog w) A (call (.builtin "min") [a, b]) Q E s := by
  have hT : (s.heap.push { cls := .type "tuple", data := .seq #[a, b] }).IsTuple s.heap.objs.size #[a, b] := ⟨_, Heap.get?_push_size _ rfl, rfl, 0, rfl⟩
  have hname : (toString "min" ++ toString ".loop" : String) = "min.loop" := by decide
  have z1 : (s.heap.push { cls := .type "tuple", data := .seq #[a, b] }).objs.size = s.heap.objs.size + 1 := Heap.size_push ..
  apply call_function_tree F.kind_min F.plain_min F.entry_min (F.args_min2 _ _)
  show wpAny _ A.in1 (Builtin.Builtins.bindParams "min" ["key", "default"] 0 ⟨[], []⟩ >>= _) _ _ s
  apply wpAny_bind; apply wpAny_of_eq (show Builtin.Builtins.bindParams "min" ["key", "default"] 0 ⟨[], []⟩ = pure [none, none] from rfl)
  show wpAny _ A.in1 (newTuple [a, b] >>= _) _ _ s
  apply wpAny_bind; refine wpAny_newObj_type ?_; apply wpAny_bind; apply wpAny_pyIter_tuple hT
  apply wpAny_bind; refine wpAny_newObj_type ?_
  rw [hname]
  refine wpAny_pure ⟨plainId_quiet F.plain_min_loop _, two_loop_min (h0 := s.heap) (ax := s.heap.objs.size) hh ?_ ?_ ?_ hc (fun c o e => ?_) (fun c o e => ?_) ?_ ?_ (Heap.get?_push_size _ rfl) h⟩
  · exact Nat.ne_of_lt (show s.heap.objs.size < (s.heap.push _).objs.size by simp only [Heap.size_push]; omega)
  · exact Nat.ne_of_gt (show (s.heap.push _).objs.size < ((s.heap.push _).push _).objs.size by simp only [Heap.size_push]; omega)
  · exact Nat.ne_of_gt (show s.heap.objs.size < ((s.heap.push _).push _).objs.size by simp only [Heap.size_push]; omega)
  · have lz := Heap.lt_size e
    exact ⟨Nat.ne_of_lt (show c < (s.heap.push _).objs.size by simp only [Heap.size_push]; exact Nat.lt_succ_of_lt lz), Nat.ne_of_lt (show c < ((s.heap.push _).push _).objs.size by simp only [Heap.size_push]; exact Nat.lt_succ_of_lt (Nat.lt_succ_of_lt lz))⟩
  · exact Heap.get?_push_of_some _ (Heap.get?_push_of_some _ (Heap.get?_push_of_some _ e))
  · exact ⟨_, Heap.get?_push_of_some _ (Heap.get?_push_size _ rfl), rfl, rfl⟩
  · exact (hT.push _).push _
end
end PySem
namespace ML
open PySem PySem.Spec L2
open PyProof.Rows hiding St
abbrev U2 := Int × Int
def ult (p q : U2) : Prop := p.1 < q.1 ∨ (p.1 = q.1 ∧ p.2 < q.2)
def ule (p q : U2) : Prop := p.1 < q.1 ∨ (p.1 = q.1 ∧ p.2 ≤ q.2)
instance : DecidableRel ult := fun a b => by unfold ult; infer_instance
instance : DecidableRel ule := fun a b => by unfold ule; infer_instance
/-- a pair of ints -/
def uD (p : U2) : D := .tup [.int p.1, .int p.2]
theorem ints2 {us : List Value} {p : U2} (r : Vals [V.int p.1, V.int p.2] us) : ∃ t u, us = [.int p.1 t, .int p.2 u] := by
  obtain ⟨a, b, rfl, r1, r2⟩ := vals2 r
  obtain ⟨t, rfl⟩ : ∃ t, a = .int p.1 t := r1
  obtain ⟨u, rfl⟩ : ∃ t, b = .int p.2 t := r2
  exact ⟨t, u, rfl⟩
theorem eq2 {A : Around} {s : Shared} {p q : U2} {t u t' u' : Tok} : ∀ j (h1 : j < (#[Value.int p.1 t, Value.int p.2 u] : Array Value).size) (h2 : j < (#[Value.int q.1 t', Value.int q.2 u'] : Array Value).size),
    SeqAt.EqAt A s (#[Value.int p.1 t, Value.int p.2 u] : Array Value)[j] (#[Value.int q.1 t', Value.int q.2 u'] : Array Value)[j] (if j = 0 then decide (p.1 = q.1) else decide (p.2 = q.2)) := by
  intro j h1 h2
  have e : ∀ a b : Int, (a == b) = decide (a = b) := fun a b => Bool.beq_eq_decide_eq a b
  rcases j with _ | _ | j
  · have := SeqAt.EqAt.int_int (A := A) (s := s) p.1 t q.1 t'
    rw [e] at this
    simpa using this
  · have := SeqAt.EqAt.int_int (A := A) (s := s) p.2 u q.2 u'
    rw [e] at this
    simpa using this
  · simp at h1; omega
theorem rc_lt {A : Around} {s : Shared} {l b : Addr} {p q : U2} {t u t' u' : Tok} (hl : s.heap.IsTuple l #[.int p.1 t, .int p.2 u]) (hb : s.heap.IsTuple b #[.int q.1 t', .int q.2 u']) (hu : A.units < cLine) : Ob.RcOp .Lt A s (.ref l) (.ref b) (decide (ult p q)) := by
  have R := Ob.RcOp.tuples_lt (A := A) (s := s) (e := fun j => if j = 0 then decide (p.1 = q.1) else decide (p.2 = q.2)) (r := fun j => if j = 0 then decide (p.1 < q.1) else decide (p.2 < q.2)) hl hb hu eq2 (fun j h1 h2 _ => by
    rcases j with _ | _ | j
    · simpa using Ob.RcOp.lt_int (A := A.in1) (s := s) p.1 q.1 t t'
    · simpa using Ob.RcOp.lt_int (A := A.in1) (s := s) p.2 q.2 u u'
    · simp at h1; omega)
  have e : (decide (ult p q)) = Ob.lexAt (fun j => if j = 0 then decide (p.1 = q.1) else decide (p.2 = q.2)) (fun j => if j = 0 then decide (p.1 < q.1) else decide (p.2 < q.2)) false 0 2 := by
    rw [Ob.lexAt_succ, Ob.lexAt_succ, Ob.lexAt_zero]
    simp only [if_true, if_false, Nat.zero_add, Nat.one_ne_zero, decide_eq_true_eq]
    apply Bool.eq_iff_iff.mpr
    by_cases h1 : p.1 = q.1 <;> by_cases h2 : p.2 = q.2 <;> simp only [h1, h2, if_true, if_false, decide_eq_true_eq, ult, ule, Bool.false_eq_true, true_and, false_and, or_false, Int.lt_irrefl, Int.le_refl, false_or, iff_self]
    all_goals grind
  rw [e]
  simpa using R
def tuplt (K : PySem.W.Frag) : R2 := fun x y H Q => ∃ (a b : Addr) (p q : U2), x = .ref a ∧ y = .ref b ∧ SqT K H a [.int p.1, .int p.2] ∧ SqT K H b [.int q.1, .int q.2] ∧ Q (.bl (decide (ult p q))) H
theorem opT_lt {X : Cx} (hu : X.A.units < cLine) : OpR X (compareOp .Lt) (tuplt X.K) := by
  rintro pins s σ H x y v u Q I rx ry ⟨a, b, p, q, rfl, rfl, ha, hb, k⟩
  obtain rfl : v = Value.ref a := rx
  obtain rfl : u = Value.ref b := ry
  obtain ⟨its, r1, p1, _⟩ := I.tuple ha
  obtain ⟨its2, r2, p2, _⟩ := I.tuple hb
  obtain ⟨t, u, rfl⟩ := ints2 r1
  obtain ⟨t', u', rfl⟩ := ints2 r2
  exact rc_lt p1 p2 hu X.prog X.w X.xe _ ⟨.bl _, H, I, rfl, k⟩
theorem rc_gt {A : Around} {s : Shared} {l b : Addr} {p q : U2} {t u t' u' : Tok} (hl : s.heap.IsTuple l #[.int p.1 t, .int p.2 u]) (hb : s.heap.IsTuple b #[.int q.1 t', .int q.2 u']) (hu : A.units < cLine) : Ob.RcOp .Gt A s (.ref l) (.ref b) (decide (ult q p)) := by
  have R := Ob.RcOp.tuples_gt (A := A) (s := s) (e := fun j => if j = 0 then decide (p.1 = q.1) else decide (p.2 = q.2)) (r := fun j => if j = 0 then decide (q.1 < p.1) else decide (q.2 < p.2)) hl hb hu eq2 (fun j h1 h2 _ => by
    rcases j with _ | _ | j
    · simpa using Ob.RcOp.gt_int (A := A.in1) (s := s) p.1 q.1 t t'
    · simpa using Ob.RcOp.gt_int (A := A.in1) (s := s) p.2 q.2 u u'
    · simp at h1; omega)
  have e : (decide (ult q p)) = Ob.lexAt (fun j => if j = 0 then decide (p.1 = q.1) else decide (p.2 = q.2)) (fun j => if j = 0 then decide (q.1 < p.1) else decide (q.2 < p.2)) false 0 2 := by
    rw [Ob.lexAt_succ, Ob.lexAt_succ, Ob.lexAt_zero]
    simp only [if_true, if_false, Nat.zero_add, Nat.one_ne_zero, decide_eq_true_eq]
    apply Bool.eq_iff_iff.mpr
    by_cases h1 : p.1 = q.1 <;> by_cases h2 : p.2 = q.2 <;> simp only [h1, h2, if_true, if_false, decide_eq_true_eq, ult, ule, Bool.false_eq_true, true_and, false_and, or_false, Int.lt_irrefl, Int.le_refl, false_or, iff_self]
    all_goals grind
  rw [e]
  simpa using R
def tupgt (K : PySem.W.Frag) : R2 := fun x y H Q => ∃ (a b : Addr) (p q : U2), x = .ref a ∧ y = .ref b ∧ SqT K H a [.int p.1, .int p.2] ∧ SqT K H b [.int q.1, .int q.2] ∧ Q (.bl (decide (ult q p))) H
theorem opT_gt {X : Cx} (hu : X.A.units < cLine) : OpR X (compareOp .Gt) (tupgt X.K) := by
  rintro pins s σ H x y v u Q I rx ry ⟨a, b, p, q, rfl, rfl, ha, hb, k⟩
  obtain rfl : v = Value.ref a := rx
  obtain rfl : u = Value.ref b := ry
  obtain ⟨its, r1, p1, _⟩ := I.tuple ha
  obtain ⟨its2, r2, p2, _⟩ := I.tuple hb
  obtain ⟨t, u, rfl⟩ := ints2 r1
  obtain ⟨t', u', rfl⟩ := ints2 r2
  exact rc_gt p1 p2 hu X.prog X.w X.xe _ ⟨.bl _, H, I, rfl, k⟩
theorem rc_le {A : Around} {s : Shared} {l b : Addr} {p q : U2} {t u t' u' : Tok} (hl : s.heap.IsTuple l #[.int p.1 t, .int p.2 u]) (hb : s.heap.IsTuple b #[.int q.1 t', .int q.2 u']) (hu : A.units < cLine) : Ob.RcOp .LtE A s (.ref l) (.ref b) (decide (ule p q)) := by
  have R := Ob.RcOp.tuples_le (A := A) (s := s) (e := fun j => if j = 0 then decide (p.1 = q.1) else decide (p.2 = q.2)) (r := fun j => if j = 0 then decide (p.1 ≤ q.1) else decide (p.2 ≤ q.2)) hl hb hu eq2 (fun j h1 h2 _ => by
    rcases j with _ | _ | j
    · simpa using Ob.RcOp.le_int (A := A.in1) (s := s) p.1 q.1 t t'
    · simpa using Ob.RcOp.le_int (A := A.in1) (s := s) p.2 q.2 u u'
    · simp at h1; omega)
  have e : (decide (ule p q)) = Ob.lexAt (fun j => if j = 0 then decide (p.1 = q.1) else decide (p.2 = q.2)) (fun j => if j = 0 then decide (p.1 ≤ q.1) else decide (p.2 ≤ q.2)) true 0 2 := by
    rw [Ob.lexAt_succ, Ob.lexAt_succ, Ob.lexAt_zero]
    simp only [if_true, if_false, Nat.zero_add, Nat.one_ne_zero, decide_eq_true_eq]
    apply Bool.eq_iff_iff.mpr
    by_cases h1 : p.1 = q.1 <;> by_cases h2 : p.2 = q.2 <;> simp only [h1, h2, if_true, if_false, decide_eq_true_eq, ult, ule, Bool.false_eq_true, true_and, false_and, or_false, Int.lt_irrefl, Int.le_refl, false_or, iff_self]
    all_goals grind
  rw [e]
  simpa using R
def tuple (K : PySem.W.Frag) : R2 := fun x y H Q => ∃ (a b : Addr) (p q : U2), x = .ref a ∧ y = .ref b ∧ SqT K H a [.int p.1, .int p.2] ∧ SqT K H b [.int q.1, .int q.2] ∧ Q (.bl (decide (ule p q))) H
theorem opT_le {X : Cx} (hu : X.A.units < cLine) : OpR X (compareOp .LtE) (tuple X.K) := by
  rintro pins s σ H x y v u Q I rx ry ⟨a, b, p, q, rfl, rfl, ha, hb, k⟩
  obtain rfl : v = Value.ref a := rx
  obtain rfl : u = Value.ref b := ry
  obtain ⟨its, r1, p1, _⟩ := I.tuple ha
  obtain ⟨its2, r2, p2, _⟩ := I.tuple hb
  obtain ⟨t, u, rfl⟩ := ints2 r1
  obtain ⟨t', u', rfl⟩ := ints2 r2
  exact rc_le p1 p2 hu X.prog X.w X.xe _ ⟨.bl _, H, I, rfl, k⟩
theorem rc_ge {A : Around} {s : Shared} {l b : Addr} {p q : U2} {t u t' u' : Tok} (hl : s.heap.IsTuple l #[.int p.1 t, .int p.2 u]) (hb : s.heap.IsTuple b #[.int q.1 t', .int q.2 u']) (hu : A.units < cLine) : Ob.RcOp .GtE A s (.ref l) (.ref b) (decide (ule q p)) := by
  have R := Ob.RcOp.tuples_ge (A := A) (s := s) (e := fun j => if j = 0 then decide (p.1 = q.1) else decide (p.2 = q.2)) (r := fun j => if j = 0 then decide (q.1 ≤ p.1) else decide (q.2 ≤ p.2)) hl hb hu eq2 (fun j h1 h2 _ => by
    rcases j with _ | _ | j
    · simpa using Ob.RcOp.ge_int (A := A.in1) (s := s) p.1 q.1 t t'
    · simpa using Ob.RcOp.ge_int (A := A.in1) (s := s) p.2 q.2 u u'
    · simp at h1; omega)
  have e : (decide (ule q p)) = Ob.lexAt (fun j => if j = 0 then decide (p.1 = q.1) else decide (p.2 = q.2)) (fun j => if j = 0 then decide (q.1 ≤ p.1) else decide (q.2 ≤ p.2)) true 0 2 := by
    rw [Ob.lexAt_succ, Ob.lexAt_succ, Ob.lexAt_zero]
    simp only [if_true, if_false, Nat.zero_add, Nat.one_ne_zero, decide_eq_true_eq]
    apply Bool.eq_iff_iff.mpr
    by_cases h1 : p.1 = q.1 <;> by_cases h2 : p.2 = q.2 <;> simp only [h1, h2, if_true, if_false, decide_eq_true_eq, ult, ule, Bool.false_eq_true, true_and, false_and, or_false, Int.lt_irrefl, Int.le_refl, false_or, iff_self]
    all_goals grind
  rw [e]
  simpa using R
def tupge (K : PySem.W.Frag) : R2 := fun x y H Q => ∃ (a b : Addr) (p q : U2), x = .ref a ∧ y = .ref b ∧ SqT K H a [.int p.1, .int p.2] ∧ SqT K H b [.int q.1, .int q.2] ∧ Q (.bl (decide (ule q p))) H
theorem opT_ge {X : Cx} (hu : X.A.units < cLine) : OpR X (compareOp .GtE) (tupge X.K) := by
  rintro pins s σ H x y v u Q I rx ry ⟨a, b, p, q, rfl, rfl, ha, hb, k⟩
  obtain rfl : v = Value.ref a := rx
  obtain rfl : u = Value.ref b := ry
  obtain ⟨its, r1, p1, _⟩ := I.tuple ha
  obtain ⟨its2, r2, p2, _⟩ := I.tuple hb
  obtain ⟨t, u, rfl⟩ := ints2 r1
  obtain ⟨t', u', rfl⟩ := ints2 r2
  exact rc_ge p1 p2 hu X.prog X.w X.xe _ ⟨.bl _, H, I, rfl, k⟩
theorem ct_max {X : Cx} (hc : X.calm = true) (hu : X.A.units + 65 < cLine) : CallR X (.builtin "max") (fun xs H Q => ∃ (a b : Addr) (p q : U2), xs = [.ref a, .ref b] ∧ SqT X.K H a [.int p.1, .int p.2] ∧ SqT X.K H b [.int q.1, .int q.2] ∧ Q (if ult p q then .ref b else .ref a) H) := by
  rintro pins s σ H xs us Q I r ⟨a, b, p, q, rfl, ha, hb, k⟩
  obtain ⟨u, w', rfl, r1, r2⟩ := vals2 r
  obtain rfl : u = Value.ref a := r1
  obtain rfl : w' = Value.ref b := r2
  obtain ⟨its, v1, p1, _⟩ := I.tuple ha
  obtain ⟨its2, v2, p2, _⟩ := I.tuple hb
  obtain ⟨t, u, rfl⟩ := ints2 v1
  obtain ⟨t', u', rfl⟩ := ints2 v2
  refine call_max_at (k := decide (ult p q)) (I.ok.hd hc) (fun s' Q' E' kp q' => ?_) fun h' tk kp => ⟨_, H, I.kept kp, ?_, k⟩
  · have p1' : s'.heap.IsTuple a #[.int p.1 t, .int p.2 u] := (by obtain ⟨o, e, c⟩ := p1; exact ⟨o, kp _ _ e, c⟩)
    have p2' : s'.heap.IsTuple b #[.int q.1 t', .int q.2 u'] := (by obtain ⟨o, e, c⟩ := p2; exact ⟨o, kp _ _ e, c⟩)
    exact rc_gt p2' p1' (show X.A.units + 1 < cLine by omega) X.prog X.w _ _ q'
  · by_cases h : ult p q
    · simp only [h, decide_true, if_true]; rfl
    · simp only [h, decide_false, if_false, Bool.false_eq_true]; rfl
theorem ct_min {X : Cx} (hc : X.calm = true) (hu : X.A.units + 65 < cLine) : CallR X (.builtin "min") (fun xs H Q => ∃ (a b : Addr) (p q : U2), xs = [.ref a, .ref b] ∧ SqT X.K H a [.int p.1, .int p.2] ∧ SqT X.K H b [.int q.1, .int q.2] ∧ Q (if ult q p then .ref b else .ref a) H) := by
  rintro pins s σ H xs us Q I r ⟨a, b, p, q, rfl, ha, hb, k⟩
  obtain ⟨u, w', rfl, r1, r2⟩ := vals2 r
  obtain rfl : u = Value.ref a := r1
  obtain rfl : w' = Value.ref b := r2
  obtain ⟨its, v1, p1, _⟩ := I.tuple ha
  obtain ⟨its2, v2, p2, _⟩ := I.tuple hb
  obtain ⟨t, u, rfl⟩ := ints2 v1
  obtain ⟨t', u', rfl⟩ := ints2 v2
  refine call_min_at (k := decide (ult q p)) (I.ok.hd hc) (fun s' Q' E' kp q' => ?_) fun h' tk kp => ⟨_, H, I.kept kp, ?_, k⟩
  · have p1' : s'.heap.IsTuple a #[.int p.1 t, .int p.2 u] := (by obtain ⟨o, e, c⟩ := p1; exact ⟨o, kp _ _ e, c⟩)
    have p2' : s'.heap.IsTuple b #[.int q.1 t', .int q.2 u'] := (by obtain ⟨o, e, c⟩ := p2; exact ⟨o, kp _ _ e, c⟩)
    exact rc_lt p2' p1' (show X.A.units + 1 < cLine by omega) X.prog X.w _ _ q'
  · by_cases h : ult q p
    · simp only [h, decide_true, if_true]; rfl
    · simp only [h, decide_false, if_false, Bool.false_eq_true]; rfl
end ML
namespace ML
open PySem PySem.Spec L2
open PyProof.Rows hiding St
section
variable {X : Cx}
theorem rd_int {K : PySem.W.Frag} {H : Hp} {S : Sto} {v : V} {i : Int} (r : RD K H S v (.int i)) : v = .int i := by cases r; rfl
theorem rds_u {K : PySem.W.Frag} {H : Hp} {S : Sto} {vs : List V} {a b : Int} (r : RDs K H S vs [.int a, .int b]) : vs = [.int a, .int b] := by
  obtain ⟨v, w, rfl, r1, r2⟩ := rds2 r
  rw [rd_int r1, rd_int r2]
def aLt : R2m := fun d e S Q => match d, e with
  | .int i, .int j => Q (.bl (decide (i < j))) S
  | .tup [.int a, .int b], .tup [.int c, .int e] => Q (.bl (decide (ult (a, b) (c, e)))) S
  | _, _ => False
theorem oa_lt (hu : X.A.units + 65 < cLine) : OpR X (compareOp .Lt) (fun x y H Q => rI0 (fun i j => .bl (decide (i < j))) x y H Q ∨ tuplt X.K x y H Q) := op_lt.or (opT_lt (by omega))
theorem la_lt : OpL X.K (fun x y H Q => rI0 (fun i j => .bl (decide (i < j))) x y H Q ∨ tuplt X.K x y H Q) aLt := by
  intro H S x y d e Qm Q s rx ry h k
  unfold aLt at h
  split at h
  · cases rx; cases ry
    exact .inl ⟨_, _, rfl, rfl, k _ S _ H h Ext.refl s (.bl _)⟩
  · obtain ⟨p, vs, rfl, h1, r1⟩ := rx.tupSq
    obtain ⟨p2, ws, rfl, h2, r2⟩ := ry.tupSq
    rw [rds_u r1] at h1
    rw [rds_u r2] at h2
    exact .inr ⟨p, p2, (_, _), (_, _), rfl, rfl, h1, h2, k _ S _ H h Ext.refl s (.bl _)⟩
  · exact h.elim
theorem l_aLt_int {i j : Int} {S : Sto} {Q : MQ} : aLt (.int i) (.int j) S Q = Q (.bl (decide (i < j))) S := Eq.trans rfl rfl
theorem l_aLt_u {p q : U2} {S : Sto} {Q : MQ} : aLt (uD p) (uD q) S Q = Q (.bl (decide (ult p q))) S := Eq.trans rfl rfl
def aGt : R2m := fun d e S Q => match d, e with
  | .int i, .int j => Q (.bl (decide (j < i))) S
  | .tup [.int a, .int b], .tup [.int c, .int e] => Q (.bl (decide (ult (c, e) (a, b)))) S
  | _, _ => False
theorem oa_gt (hu : X.A.units + 65 < cLine) : OpR X (compareOp .Gt) (fun x y H Q => rI0 (fun i j => .bl (decide (j < i))) x y H Q ∨ tupgt X.K x y H Q) := op_gt.or (opT_gt (by omega))
theorem la_gt : OpL X.K (fun x y H Q => rI0 (fun i j => .bl (decide (j < i))) x y H Q ∨ tupgt X.K x y H Q) aGt := by
  intro H S x y d e Qm Q s rx ry h k
  unfold aGt at h
  split at h
  · cases rx; cases ry
    exact .inl ⟨_, _, rfl, rfl, k _ S _ H h Ext.refl s (.bl _)⟩
  · obtain ⟨p, vs, rfl, h1, r1⟩ := rx.tupSq
    obtain ⟨p2, ws, rfl, h2, r2⟩ := ry.tupSq
    rw [rds_u r1] at h1
    rw [rds_u r2] at h2
    exact .inr ⟨p, p2, (_, _), (_, _), rfl, rfl, h1, h2, k _ S _ H h Ext.refl s (.bl _)⟩
  · exact h.elim
theorem l_aGt_int {i j : Int} {S : Sto} {Q : MQ} : aGt (.int i) (.int j) S Q = Q (.bl (decide (j < i))) S := Eq.trans rfl rfl
theorem l_aGt_u {p q : U2} {S : Sto} {Q : MQ} : aGt (uD p) (uD q) S Q = Q (.bl (decide (ult q p))) S := Eq.trans rfl rfl
def aLe : R2m := fun d e S Q => match d, e with
  | .int i, .int j => Q (.bl (decide (i ≤ j))) S
  | .tup [.int a, .int b], .tup [.int c, .int e] => Q (.bl (decide (ule (a, b) (c, e)))) S
  | _, _ => False
theorem oa_le (hu : X.A.units + 65 < cLine) : OpR X (compareOp .LtE) (fun x y H Q => rI0 (fun i j => .bl (decide (i ≤ j))) x y H Q ∨ tuple X.K x y H Q) := op_le.or (opT_le (by omega))
theorem la_le : OpL X.K (fun x y H Q => rI0 (fun i j => .bl (decide (i ≤ j))) x y H Q ∨ tuple X.K x y H Q) aLe := by
  intro H S x y d e Qm Q s rx ry h k
  unfold aLe at h
  split at h
  · cases rx; cases ry
    exact .inl ⟨_, _, rfl, rfl, k _ S _ H h Ext.refl s (.bl _)⟩
  · obtain ⟨p, vs, rfl, h1, r1⟩ := rx.tupSq
    obtain ⟨p2, ws, rfl, h2, r2⟩ := ry.tupSq
    rw [rds_u r1] at h1
    rw [rds_u r2] at h2
    exact .inr ⟨p, p2, (_, _), (_, _), rfl, rfl, h1, h2, k _ S _ H h Ext.refl s (.bl _)⟩
  · exact h.elim
theorem l_aLe_int {i j : Int} {S : Sto} {Q : MQ} : aLe (.int i) (.int j) S Q = Q (.bl (decide (i ≤ j))) S := Eq.trans rfl rfl
theorem l_aLe_u {p q : U2} {S : Sto} {Q : MQ} : aLe (uD p) (uD q) S Q = Q (.bl (decide (ule p q))) S := Eq.trans rfl rfl
def aGe : R2m := fun d e S Q => match d, e with
  | .int i, .int j => Q (.bl (decide (j ≤ i))) S
  | .tup [.int a, .int b], .tup [.int c, .int e] => Q (.bl (decide (ule (c, e) (a, b)))) S
  | _, _ => False
theorem oa_ge (hu : X.A.units + 65 < cLine) : OpR X (compareOp .GtE) (fun x y H Q => rI0 (fun i j => .bl (decide (j ≤ i))) x y H Q ∨ tupge X.K x y H Q) := op_ge.or (opT_ge (by omega))
theorem la_ge : OpL X.K (fun x y H Q => rI0 (fun i j => .bl (decide (j ≤ i))) x y H Q ∨ tupge X.K x y H Q) aGe := by
  intro H S x y d e Qm Q s rx ry h k
  unfold aGe at h
  split at h
  · cases rx; cases ry
    exact .inl ⟨_, _, rfl, rfl, k _ S _ H h Ext.refl s (.bl _)⟩
  · obtain ⟨p, vs, rfl, h1, r1⟩ := rx.tupSq
    obtain ⟨p2, ws, rfl, h2, r2⟩ := ry.tupSq
    rw [rds_u r1] at h1
    rw [rds_u r2] at h2
    exact .inr ⟨p, p2, (_, _), (_, _), rfl, rfl, h1, h2, k _ S _ H h Ext.refl s (.bl _)⟩
  · exact h.elim
theorem l_aGe_int {i j : Int} {S : Sto} {Q : MQ} : aGe (.int i) (.int j) S Q = Q (.bl (decide (j ≤ i))) S := Eq.trans rfl rfl
theorem l_aGe_u {p q : U2} {S : Sto} {Q : MQ} : aGe (uD p) (uD q) S Q = Q (.bl (decide (ule q p))) S := Eq.trans rfl rfl
def bMaxA : List D → Sto → MQ → Prop := fun ds S Q => match ds with
  | [.int i, .int j] => Q (.int (if j > i then j else i)) S
  | [.tup [.int a, .int b], .tup [.int c, .int e]] => Q (if ult (a, b) (c, e) then .tup [.int c, .int e] else .tup [.int a, .int b]) S
  | _ => False
theorem ca_max (hc : X.calm = true) (hu : X.A.units + 65 < cLine) : CallR X (.builtin "max") (fun xs H Q => (∃ i j, xs = [.int i, .int j] ∧ Q (.int (if j > i then j else i)) H) ∨ ∃ (a b : Addr) (p q : U2), xs = [.ref a, .ref b] ∧ SqT X.K H a [.int p.1, .int p.2] ∧ SqT X.K H b [.int q.1, .int q.2] ∧ Q (if ult p q then .ref b else .ref a) H) := by
  rintro pins s σ H xs us Q I r (h | h)
  · exact call_max2 hc pins s σ H xs us Q I r h
  · exact ct_max hc hu pins s σ H xs us Q I r h
theorem cl_maxA : CaL X.K (fun xs H Q => (∃ i j, xs = [.int i, .int j] ∧ Q (.int (if j > i then j else i)) H) ∨ ∃ (a b : Addr) (p q : U2), xs = [.ref a, .ref b] ∧ SqT X.K H a [.int p.1, .int p.2] ∧ SqT X.K H b [.int q.1, .int q.2] ∧ Q (if ult p q then .ref b else .ref a) H) bMaxA := by
  intro H S xs ds Qm Q s r h k
  unfold bMaxA at h
  split at h
  · obtain ⟨v, w, rfl, r1, r2⟩ := rds2 r
    cases r1; cases r2
    exact .inl ⟨_, _, rfl, k _ S _ H h Ext.refl s (.int _)⟩
  · next a b c e =>
    obtain ⟨v, w, rfl, r1, r2⟩ := rds2 r
    obtain ⟨p, vs, rfl, h1, q1⟩ := r1.tupSq
    obtain ⟨p2, ws, rfl, h2, q2⟩ := r2.tupSq
    rw [rds_u q1] at h1
    rw [rds_u q2] at h2
    refine .inr ⟨p, p2, (a, b), (c, e), rfl, h1, h2, ?_⟩
    split
    · next z => rw [if_pos z] at h; exact k _ S _ H h Ext.refl s r2
    · next z => rw [if_neg z] at h; exact k _ S _ H h Ext.refl s r1
  · exact h.elim
theorem l_bMaxA_int {i j : Int} {S : Sto} {Q : MQ} : bMaxA [.int i, .int j] S Q = Q (.int (if j > i then j else i)) S := Eq.trans rfl rfl
theorem l_bMaxA_u {p q : U2} {S : Sto} {Q : MQ} : bMaxA [uD p, uD q] S Q = Q (uD (if ult p q then q else p)) S := by
  have e : (if ult p q then uD q else uD p) = uD (if ult p q then q else p) := by split <;> rfl
  show Q (if ult p q then uD q else uD p) S = _
  rw [e]
def bMinA : List D → Sto → MQ → Prop := fun ds S Q => match ds with
  | [.int i, .int j] => Q (.int (if j < i then j else i)) S
  | [.tup [.int a, .int b], .tup [.int c, .int e]] => Q (if ult (c, e) (a, b) then .tup [.int c, .int e] else .tup [.int a, .int b]) S
  | _ => False
theorem ca_min (hc : X.calm = true) (hu : X.A.units + 65 < cLine) : CallR X (.builtin "min") (fun xs H Q => (∃ i j, xs = [.int i, .int j] ∧ Q (.int (if j < i then j else i)) H) ∨ ∃ (a b : Addr) (p q : U2), xs = [.ref a, .ref b] ∧ SqT X.K H a [.int p.1, .int p.2] ∧ SqT X.K H b [.int q.1, .int q.2] ∧ Q (if ult q p then .ref b else .ref a) H) := by
  rintro pins s σ H xs us Q I r (h | h)
  · exact call_min2 hc pins s σ H xs us Q I r h
  · exact ct_min hc hu pins s σ H xs us Q I r h
theorem cl_minA : CaL X.K (fun xs H Q => (∃ i j, xs = [.int i, .int j] ∧ Q (.int (if j < i then j else i)) H) ∨ ∃ (a b : Addr) (p q : U2), xs = [.ref a, .ref b] ∧ SqT X.K H a [.int p.1, .int p.2] ∧ SqT X.K H b [.int q.1, .int q.2] ∧ Q (if ult q p then .ref b else .ref a) H) bMinA := by
  intro H S xs ds Qm Q s r h k
  unfold bMinA at h
  split at h
  · obtain ⟨v, w, rfl, r1, r2⟩ := rds2 r
    cases r1; cases r2
    exact .inl ⟨_, _, rfl, k _ S _ H h Ext.refl s (.int _)⟩
  · next a b c e =>
    obtain ⟨v, w, rfl, r1, r2⟩ := rds2 r
    obtain ⟨p, vs, rfl, h1, q1⟩ := r1.tupSq
    obtain ⟨p2, ws, rfl, h2, q2⟩ := r2.tupSq
    rw [rds_u q1] at h1
    rw [rds_u q2] at h2
    refine .inr ⟨p, p2, (a, b), (c, e), rfl, h1, h2, ?_⟩
    split
    · next z => rw [if_pos z] at h; exact k _ S _ H h Ext.refl s r2
    · next z => rw [if_neg z] at h; exact k _ S _ H h Ext.refl s r1
  · exact h.elim
theorem l_bMinA_int {i j : Int} {S : Sto} {Q : MQ} : bMinA [.int i, .int j] S Q = Q (.int (if j < i then j else i)) S := Eq.trans rfl rfl
theorem l_bMinA_u {p q : U2} {S : Sto} {Q : MQ} : bMinA [uD p, uD q] S Q = Q (uD (if ult q p then q else p)) S := by
  have e : (if ult q p then uD q else uD p) = uD (if ult q p then q else p) := by split <;> rfl
  show Q (if ult q p then uD q else uD p) S = _
  rw [e]
end
/-- pairs of ints, walls of such: as values -/
theorem tup_u {a b : Int} : D.tup [.int a, .int b] = uD (a, b) := Eq.trans rfl rfl
theorem tupOf_u {p : U2} : tupOf (uD p) = some [.int p.1, .int p.2] := Eq.trans rfl rfl
theorem seqOf_u {S : Sto} {p : U2} : seqOf S (uD p) = some [.int p.1, .int p.2] := Eq.trans rfl rfl
theorem sqI_u {S : Sto} {p : U2} : sqI S (uD p) = some ([.int p.1, .int p.2], fun _ => True) := Eq.trans rfl rfl
theorem look_u {S : Sto} {p : U2} : look S (uD p) = uD p := Eq.trans rfl rfl
theorem isN_u {p : U2} : isN (uD p) = false := Eq.trans rfl rfl
theorem lenD_u {S : Sto} {p : U2} : lenD S (uD p) = some 2 := Eq.trans rfl rfl
theorem tyD_u {S : Sto} {p : U2} : tyD S (uD p) = some "tuple" := Eq.trans rfl rfl
abbrev UW := U2 × U2
def uwD (w : UW) : D := .tup [uD w.1, uD w.2]
theorem tup_uw {a b : U2} : D.tup [uD a, uD b] = uwD (a, b) := Eq.trans rfl rfl
theorem tupOf_uw {p : UW} : tupOf (uwD p) = some [uD p.1, uD p.2] := Eq.trans rfl rfl
theorem seqOf_uw {S : Sto} {p : UW} : seqOf S (uwD p) = some [uD p.1, uD p.2] := Eq.trans rfl rfl
theorem sqI_uw {S : Sto} {p : UW} : sqI S (uwD p) = some ([uD p.1, uD p.2], fun _ => True) := Eq.trans rfl rfl
theorem look_uw {S : Sto} {p : UW} : look S (uwD p) = uwD p := Eq.trans rfl rfl
theorem isN_uw {p : UW} : isN (uwD p) = false := Eq.trans rfl rfl
theorem lenD_uw {S : Sto} {p : UW} : lenD S (uwD p) = some 2 := Eq.trans rfl rfl
theorem tyD_uw {S : Sto} {p : UW} : tyD S (uwD p) = some "tuple" := Eq.trans rfl rfl
theorem plain_u (p : U2) : D.plain (uD p) = true := by simp [uD, D.plain, D.plains]
theorem plain_uw (p : UW) : D.plain (uwD p) = true := by simp [uwD, D.plain, D.plains, plain_u]
theorem dep_u (p : U2) : D.dep (uD p) = 1 := by simp [uD, D.dep, D.deps]
theorem dep_uw (p : UW) : D.dep (uwD p) = 2 := by simp [uwD, D.dep, D.deps, dep_u]
theorem eqOk_of' {d e : D} (h1 : D.plain d = true) (h2 : D.plain e = true) (h3 : D.dep d ≤ 64) (h4 : D.dep e ≤ 64) : eqOk d e = true := by
  unfold eqOk
  split
  · rfl
  · simp [h1, h2, h3, h4]
theorem eqOk_u {p q : U2} : eqOk (uD p) (uD q) = true := eqOk_of' (plain_u p) (plain_u q) (by rw [dep_u]; decide) (by rw [dep_u]; decide)
theorem eqOk_uw {p q : UW} : eqOk (uwD p) (uwD q) = true := eqOk_of' (plain_uw p) (plain_uw q) (by rw [dep_uw]; decide) (by rw [dep_uw]; decide)
theorem deq_u {p q : U2} : D.deq (uD p) (uD q) = decide (p = q) := by
  simp only [uD, D.deq, D.deqs, Bool.and_true]
  rw [Bool.eq_iff_iff]
  simp only [Bool.and_eq_true, beq_iff_eq, decide_eq_true_eq]
  exact ⟨fun ⟨a, b⟩ => Prod.ext a b, fun h => by subst h; exact ⟨rfl, rfl⟩⟩
theorem deq_uw {p q : UW} : D.deq (uwD p) (uwD q) = decide (p = q) := by
  simp only [uwD, D.deq, D.deqs, Bool.and_true, deq_u]
  rw [Bool.eq_iff_iff]
  simp only [Bool.and_eq_true, decide_eq_true_eq]
  exact ⟨fun ⟨a, b⟩ => Prod.ext a b, fun h => by subst h; exact ⟨rfl, rfl⟩⟩
/-- a slice of literal bounds -/
theorem cut_02 {a b c : D} : cutD [a, b, c] none (some 2) = [a, b] := rfl
theorem l_mCut_tup {xs : List D} {l u : Option Int} {S3 : Sto} {Q : MQ} : (match (D.tup xs) with
    | .tup xs => ¬ (HT.sIx xs.length 0 l = 0 ∧ HT.sIx xs.length xs.length u = xs.length) ∧ Q (.tup (cutD xs l u)) S3
    | d => match lstOf S3 d with
      | some xs => Q (.lst (cutD xs l u)) S3
      | none => False) = (¬ (HT.sIx xs.length 0 l = 0 ∧ HT.sIx xs.length xs.length u = xs.length) ∧ Q (.tup (cutD xs l u)) S3) := Eq.trans rfl rfl
end ML

set_option maxRecDepth 100000
namespace ML
open PySem PySem.Spec L2
open PyProof.Rows hiding St
theorem ncast {n : Nat} : ((no_index (OfNat.ofNat n : Nat) : Nat) : Int) = (no_index (OfNat.ofNat n : Int)) := rfl
/-- a proposition that simp leaves alone -/
def KP [p : Hold Prop] : Prop := p.v
theorem KP.mk {p : Prop} (h : p) : @KP ⟨p⟩ := h
/-! ### comprehensions over the images of a list -/
theorem comp_map {α : Type} {σ : MSt} {S : Sto} {p : Addr} {own : List Nat} {G : Sto → Prop} {g : MG} {me : ME} {fin : List D → Sto → Prop} {items : List D} (enc res : α → D) (xs : List α) (hi : items = xs.map enc) (hz : xs.length ≤ 1000) (hG : ∀ acc, G (put S p (.lst acc)))
    (h : ∀ a acc (Q : MQ), a ∈ xs → Q (res a) (put S p (.lst acc)) → g (enc a) (wipeM σ own) (put S p (.lst acc)) (fun σ2 S2 => me σ2 S2 Q noX) noX)
    (hf : fin (xs.map res) (put S p (.lst (xs.map res)))) : @CompP items σ (put S p (.lst [])) p own ⟨G⟩ ⟨g⟩ ⟨mYes⟩ ⟨me⟩ ⟨fin⟩ := by
  subst hi
  refine comp_inv (fun i acc S' => acc = (xs.take i).map res ∧ S' = put S p (.lst acc)) put_same ⟨by simp, rfl⟩ ?_ ?_
  · rintro i d acc S' e ⟨rfl, rfl⟩ -
    rw [List.getElem?_map] at e
    cases ea : xs[i]? with
    | none => rw [ea] at e; cases e
    | some a =>
      rw [ea] at e; cases e
      have hlt : i < xs.length := (List.getElem?_eq_some_iff.mp ea).1
      have hm : a ∈ xs := List.mem_of_getElem? ea
      refine ⟨hG _, h a _ _ hm ?_⟩
      refine CompNext.mk put_same (line_lt (by simp only [List.length_map, List.length_take]; omega)) ⟨?_, by rw [put_put]⟩
      rw [List.take_add_one, ea, List.map_append]; rfl
  · rintro acc S' ⟨rfl, rfl⟩ -
    refine ⟨hG _, ?_⟩
    rw [List.length_map, List.take_length]; exact hf
/-- with a test: the items for which it holds -/
theorem comp_filter {α : Type} {σ : MSt} {S : Sto} {p : Addr} {own : List Nat} {G : Sto → Prop} {g : MG} {mt : MT} {me : ME} {fin : List D → Sto → Prop} {items : List D} (enc res : α → D) (t : α → Bool) (xs : List α) (hi : items = xs.map enc) (hz : xs.length ≤ 1000) (hG : ∀ acc, G (put S p (.lst acc)))
    (h : ∀ a acc (Q : Sto → Prop) (Q' : MQ), a ∈ xs → (t a = true → Q' (res a) (put S p (.lst acc))) → (t a = false → Q (put S p (.lst acc))) →
      g (enc a) (wipeM σ own) (put S p (.lst acc)) (fun σ2 S2 => mt σ2 S2 (fun k S3 => @IteP (k = true) ⟨me σ2 S3 Q' noX⟩ ⟨Q S3⟩) noX) noX)
    (hf : fin ((xs.filter t).map res) (put S p (.lst ((xs.filter t).map res)))) : @CompP items σ (put S p (.lst [])) p own ⟨G⟩ ⟨g⟩ ⟨mt⟩ ⟨me⟩ ⟨fin⟩ := by
  subst hi
  refine ⟨fun i S' => S' = put S p (.lst (((xs.take i).filter t).map res)), by simp, fun i S' hi e => ?_⟩
  subst e
  refine ⟨hG _, ?_⟩
  rw [List.length_map] at hi
  show (match (xs.map enc)[i]? with | some d => _ | none => _)
  rw [List.getElem?_map]
  cases ea : xs[i]? with
  | some a =>
    have hlt : i < xs.length := (List.getElem?_eq_some_iff.mp ea).1
    have hm : a ∈ xs := List.mem_of_getElem? ea
    have ht : xs.take (i + 1) = xs.take i ++ [a] := by rw [List.take_add_one, ea]; rfl
    have hh := h a (((xs.take i).filter t).map res) (fun S3 => S3 = put S p (.lst (((xs.take (i + 1)).filter t).map res))) (fun y S4 => ∃ acc, S4 p = some (.lst acc) ∧ acc.length < sizeLine ∧ put S4 p (.lst (acc ++ [y])) = put S p (.lst (((xs.take (i + 1)).filter t).map res))) hm
      (fun k => ⟨_, put_same, ?_, ?_⟩) (fun k => ?_)
    · simp only [← IteP_bool] at hh
      exact hh
    · have : ((xs.take i).filter t).length ≤ (xs.take i).length := List.length_filter_le ..
      rw [List.length_take] at this
      exact line_lt (by rw [List.length_map]; omega)
    · rw [put_put, ht, List.filter_append, List.map_append]
      simp [k]
    · rw [ht, List.filter_append, List.map_append]
      simp [k]
  | none =>
    have hl : i = xs.length := by have := List.getElem?_eq_none_iff.mp ea; omega
    subst hl
    exact ⟨_, put_same, by rw [List.take_length]; exact hf⟩
/-! ### what is walked: a list or a tuple -/
/-- d may be walked; its items are ds, also when other lists are new -/
def IsSeq (S : Sto) (d : D) (ds : List D) : Prop := ∃ G : Sto → Prop, sqI S d = some (ds, G) ∧ ∀ p o, S p = none → G (put S p o)
theorem isSeq_lst {S : Sto} {ds : List D} : IsSeq S (.lst ds) ds := ⟨_, rfl, fun _ _ _ => trivial⟩
theorem isSeq_tup {S : Sto} {ds : List D} : IsSeq S (.tup ds) ds := ⟨_, rfl, fun _ _ _ => trivial⟩
theorem isSeq_ref {S : Sto} {q : Addr} {ds : List D} (h : S q = some (.lst ds)) : IsSeq S (.ref q) ds := ⟨_, sqI_at h, fun p o hp => by
  rw [put_ne (sne h hp), h]; rfl⟩
/-- the same as the three kinds -/
inductive SeqK (S : Sto) : D → List D → Prop
  | lst {ds : List D} : SeqK S (.lst ds) ds
  | tup {ds : List D} : SeqK S (.tup ds) ds
  | ref {q : Addr} {ds : List D} : S q = some (.lst ds) → SeqK S (.ref q) ds
theorem SeqK.seq {S : Sto} {d : D} {ds : List D} (h : SeqK S d ds) : seqOf S d = some ds := by
  cases h with
  | lst => rfl
  | tup => rfl
  | ref h => rw [seqOf_ref', h]; rfl
theorem SeqK.it {S : Sto} {d : D} {ds : List D} (h : SeqK S d ds) : ∃ G : Sto → Prop, sqI S d = some (ds, G) ∧ G S ∧ ∀ p o, S p = none → G (put S p o) := by
  cases h with
  | lst => exact ⟨_, rfl, trivial, fun _ _ _ => trivial⟩
  | tup => exact ⟨_, rfl, trivial, fun _ _ _ => trivial⟩
  | ref h => exact ⟨_, sqI_at h, by rw [h]; rfl, fun p o hp => by rw [put_ne (sne h hp), h]; rfl⟩
theorem SeqK.len {S : Sto} {d : D} {ds : List D} (h : SeqK S d ds) : lenD S d = some ds.length := by
  cases h with
  | lst => rfl
  | tup => rfl
  | ref h => rw [lenD_ref, h]; rfl
theorem SeqK.put {S : Sto} {d : D} {ds : List D} (h : SeqK S d ds) {p : Addr} {o : MO} (hp : S p = none) : SeqK (put S p o) d ds := by
  cases h with
  | lst => exact .lst
  | tup => exact .tup
  | ref h => exact .ref (by rw [put_ne (sne h hp)]; exact h)
theorem SeqK.put' {S : Sto} {d : D} {ds : List D} (h : SeqK S d ds) {p : Addr} {o : MO} (hp : ∀ q, d = .ref q → q ≠ p) : SeqK (ML.put S p o) d ds := by
  cases h with
  | lst => exact .lst
  | tup => exact .tup
  | ref h => exact .ref (by rw [put_ne (hp _ rfl)]; exact h)
/-- a list (not a tuple) against [] -/
theorem plains_map {α : Type} {f : α → D} {xs : List α} (h : ∀ a, D.plain (f a) = true) : D.plains (xs.map f) = true := by
  induction xs with
  | nil => rfl
  | cons a xs ih => show (D.plain (f a) && D.plains (xs.map f)) = true; rw [h, ih]; rfl
theorem deps_map {α : Type} {f : α → D} {xs : List α} {n : Nat} (h : ∀ a, D.dep (f a) ≤ n) : D.deps (xs.map f) ≤ n := by
  induction xs with
  | nil => exact Nat.zero_le _
  | cons a xs ih => show max (D.dep (f a)) (D.deps (xs.map f)) ≤ n; have := h a; omega
theorem ne_nil {d : D} {xs : List D} {S : Sto} {Q : MQ} (hl : look S d = .lst xs) (hp : D.plains xs = true) (hd : D.deps xs ≤ 63) : rNeM d (.lst []) S Q = Q (.bl (!xs.isEmpty)) S := by
  have e1 : look S (.lst []) = .lst [] := rfl
  have e2 : D.deq (.lst xs) (.lst []) = xs.isEmpty := by cases xs <;> rfl
  have e3 : eqOk (.lst xs) (.lst []) = true := eqOk_of' (show D.plains xs = true from hp) rfl (by rw [D.dep]; omega) (by decide)
  unfold rNeM
  rw [hl, e1, e2, e3]
  simp
theorem eq_nil {d : D} {xs : List D} {S : Sto} {Q : MQ} (hl : look S d = .lst xs) (hp : D.plains xs = true) (hd : D.deps xs ≤ 63) : rEqM d (.lst []) S Q = Q (.bl xs.isEmpty) S := by
  have e1 : look S (.lst []) = .lst [] := rfl
  have e2 : D.deq (.lst xs) (.lst []) = xs.isEmpty := by cases xs <;> rfl
  have e3 : eqOk (.lst xs) (.lst []) = true := eqOk_of' (show D.plains xs = true from hp) rfl (by rw [D.dep]; omega) (by decide)
  unfold rEqM
  rw [hl, e1, e2, e3]
  simp
theorem look_ref' {S : Sto} {p : Addr} {ds : List D} (h : S p = some (.lst ds)) : look S (.ref p) = .lst ds := by simp only [look, h]
theorem l_bAll {bs : List Bool} {S : Sto} {Q : MQ} : bAll [.lst (bs.map .bl)] S Q = Q (.bl (bs.all id)) S := by
  simp only [bAll, lstOf, Option.bind_some, blsOf_map]
theorem in_uw {neg : Bool} {p : U2} {w : UW} {S : Sto} {Q : MQ} : rInM neg (uD p) (uwD w) S Q = Q (.bl (if neg then !(decide (w.1 = p) || decide (w.2 = p)) else (decide (w.1 = p) || decide (w.2 = p)))) S := by
  have e : look S (uwD w) = .tup [uD w.1, uD w.2] := rfl
  have m : memD (uD p) [uD w.1, uD w.2] = (decide (w.1 = p) || decide (w.2 = p)) := by
    show (D.deq (uD w.1) (uD p) || (D.deq (uD w.2) (uD p) || false)) = _
    rw [deq_u, deq_u, Bool.or_false]
  have c : D.plain (uD p) = true ∧ D.plains [uD w.1, uD w.2] = true ∧ D.dep (uD p) ≤ 64 ∧ D.deps [uD w.1, uD w.2] ≤ 63 :=
    ⟨plain_u p, plain_uw w, by rw [dep_u]; decide, by have := dep_uw w; rw [uwD, D.dep] at this; omega⟩
  simp only [rInM, e, m]
  exact propext ⟨fun h => h.2, fun h => ⟨c, h⟩⟩
end ML

set_option maxRecDepth 100000
namespace ML
open PySem PySem.Spec L2
open PyProof.Rows hiding St
section
variable {X : Cx}
/-! ### max, min of a list of ints -/
def bMaxL : List D → Sto → MQ → Prop := fun ds S Q => ∃ (d : D) (ns : List Int), ds = [d] ∧ lstOf S d = some (ns.map .int) ∧ 0 < ns.length ∧ ∀ m, m ∈ ns → (∀ y, y ∈ ns → y ≤ m) → Q (.int m) S
def bMinL : List D → Sto → MQ → Prop := fun ds S Q => ∃ (d : D) (ns : List Int), ds = [d] ∧ lstOf S d = some (ns.map .int) ∧ 0 < ns.length ∧ ∀ m, m ∈ ns → (∀ y, y ∈ ns → m ≤ y) → Q (.int m) S
theorem cl_maxL : CaL X.K (rMax X.K) bMaxL := by
  rintro H S xs ds Qm Q s r ⟨d, ns, rfl, hl, h0, h⟩ k
  obtain ⟨v, rfl, r1⟩ := rds1 r
  obtain ⟨a, vs, rfl, hq, rs⟩ := lst_sq s r1 hl
  rw [RDs.ints rs] at hq
  exact ⟨a, ns, rfl, hq, h0, fun m h1 h2 => k _ S _ H (h m h1 h2) Ext.refl s (.int _)⟩
theorem cl_minL : CaL X.K (rMin X.K) bMinL := by
  rintro H S xs ds Qm Q s r ⟨d, ns, rfl, hl, h0, h⟩ k
  obtain ⟨v, rfl, r1⟩ := rds1 r
  obtain ⟨a, vs, rfl, hq, rs⟩ := lst_sq s r1 hl
  rw [RDs.ints rs] at hq
  exact ⟨a, ns, rfl, hq, h0, fun m h1 h2 => k _ S _ H (h m h1 h2) Ext.refl s (.int _)⟩
end
def MaxP (ds : List D) (S : Sto) [Q : Hold MQ] : Prop := bMaxL ds S Q.v
def MinP (ds : List D) (S : Sto) [Q : Hold MQ] : Prop := bMinL ds S Q.v
theorem l_bMaxL {ds : List D} {S : Sto} {Q : MQ} : bMaxL ds S Q = @MaxP ds S ⟨Q⟩ := Eq.trans rfl rfl
theorem l_bMinL {ds : List D} {S : Sto} {Q : MQ} : bMinL ds S Q = @MinP ds S ⟨Q⟩ := Eq.trans rfl rfl
theorem l_bMaxL2 {i j : Int} {S : Sto} {Q : MQ} (h : Q (.int (max i j)) S) : @MaxP [.lst [.int i, .int j]] S ⟨Q⟩ := by
  refine ⟨_, [i, j], rfl, rfl, by simp, fun m hm hy => ?_⟩
  have h1 := hy i (by simp)
  have h2 := hy j (by simp)
  have : m = max i j := by
    rcases List.mem_cons.mp hm with e | e
    · omega
    · have := List.mem_singleton.mp e; omega
  rw [this]; exact h
theorem l_bMinL2 {i j : Int} {S : Sto} {Q : MQ} (h : Q (.int (min i j)) S) : @MinP [.lst [.int i, .int j]] S ⟨Q⟩ := by
  refine ⟨_, [i, j], rfl, rfl, by simp, fun m hm hy => ?_⟩
  have h1 := hy i (by simp)
  have h2 := hy j (by simp)
  have : m = min i j := by
    rcases List.mem_cons.mp hm with e | e
    · omega
    · have := List.mem_singleton.mp e; omega
  rw [this]; exact h
end ML

set_option maxRecDepth 100000
namespace ML
open PySem PySem.Spec L2
open PyProof.Rows hiding St
/-! ### sorted, of pairs of ints -/
theorem perm_rds {K : PySem.W.Frag} {H : Hp} {S : Sto} {xs ys : List V} (p : ys.Perm xs) : ∀ {ds : List D}, RDs K H S xs ds → ∃ es : List D, es.Perm ds ∧ RDs K H S ys es := by
  induction p with
  | nil => intro ds r; exact ⟨ds, .refl _, r⟩
  | cons x p ih =>
    intro ds r
    cases r with
    | cons h r =>
      obtain ⟨es, h1, h2⟩ := ih r
      exact ⟨_ :: es, h1.cons _, .cons h h2⟩
  | swap x y l =>
    intro ds r
    cases r with
    | cons h r =>
      cases r with
      | cons h' r => exact ⟨_, .swap _ _ _, .cons h' (.cons h r)⟩
  | trans p q ih1 ih2 =>
    intro ds r
    obtain ⟨es, h1, h2⟩ := ih2 r
    obtain ⟨fs, h3, h4⟩ := ih1 h2
    exact ⟨fs, h3.trans h1, h4⟩
theorem perm_map {α : Type} {f : α → D} {us : List α} : ∀ {es : List D}, es.Perm (us.map f) → ∃ vs : List α, vs.Perm us ∧ es = vs.map f := by
  intro es p
  generalize hz : us.map f = zs at p
  induction p generalizing us with
  | nil =>
    cases us with
    | nil => exact ⟨[], .refl _, rfl⟩
    | cons _ _ => cases hz
  | cons x p ih =>
    cases us with
    | nil => cases hz
    | cons u us =>
      cases hz
      obtain ⟨vs, h1, rfl⟩ := ih rfl
      exact ⟨u :: vs, h1.cons _, rfl⟩
  | swap x y l =>
    match us, hz with
    | u :: v :: us, hz => cases hz; exact ⟨v :: u :: us, .swap _ _ _, rfl⟩
  | trans p q ih1 ih2 =>
    obtain ⟨vs, h1, rfl⟩ := ih2 hz
    obtain ⟨ws, h2, rfl⟩ := ih1 rfl
    exact ⟨ws, h2.trans h1, rfl⟩
section
variable {X : Cx}
/-- sorted: a list that stays -/
def bSortU : List D → Sto → MQ → Prop := fun ds S Q => ∃ (d : D) (us : List U2), ds = [d] ∧ lstOf S d = some (us.map uD) ∧ us.length < 64 ∧ (∀ u ∈ us, 0 ≤ u.1 ∧ u.1 < 1048576 ∧ 0 ≤ u.2 ∧ u.2 < 1048576) ∧
  ∀ vs : List U2, vs.Perm us → vs.Pairwise ule → Q (.lst (vs.map uD)) S
theorem code2 (B x y : Int) : TS.code B [x, y] = x * B + y := by
  show x * B ^ 1 + (y * B ^ 0 + 0) = x * B + y
  rw [Int.pow_succ, Int.pow_zero, Int.one_mul, Int.mul_one, Int.add_zero]
theorem ule_code {u v : U2} (h : TS.code 1048576 [u.1, u.2] ≤ TS.code 1048576 [v.1, v.2]) (h1 : 0 ≤ u.2 ∧ u.2 < 1048576) (h2 : 0 ≤ v.2 ∧ v.2 < 1048576) : ule u v := by
  rw [code2, code2] at h
  unfold ule
  omega
theorem rds_mem {K : PySem.W.Frag} {H : Hp} {S : Sto} : ∀ {vs : List V} {ds : List D}, RDs K H S vs ds → ∀ x ∈ vs, ∃ d ∈ ds, RD K H S x d
  | _, _, .nil, _, h => by cases h
  | _, _, .cons r rs, x, h => by
    rcases List.mem_cons.mp h with e | e
    · subst e; exact ⟨_, List.mem_cons_self, r⟩
    · obtain ⟨d, hd, rd⟩ := rds_mem rs x e
      exact ⟨d, List.mem_cons_of_mem _ hd, rd⟩
theorem tupI_u {K : PySem.W.Frag} {H : Hp} {S : Sto} {x : V} {u : U2} (r : RD K H S x (uD u)) : TupI K H x [u.1, u.2] := by
  obtain ⟨a, vs, rfl, h, rs⟩ := r.tupSq
  rw [rds_u rs] at h
  exact ⟨a, rfl, h⟩
theorem rds_pair {K : PySem.W.Frag} {H : Hp} {S : Sto} {R : V → V → Prop} {T : U2 → U2 → Prop} (imp : ∀ x y u v, RD K H S x (uD u) → RD K H S y (uD v) → R x y → T u v) : ∀ {xs : List V} {us : List U2}, RDs K H S xs (us.map uD) → xs.Pairwise R → us.Pairwise T
  | _, [], _, _ => .nil
  | _, u :: us, .cons r rs, .cons h p => by
    refine .cons (fun v hv => ?_) (rds_pair imp rs p)
    obtain ⟨i, hi, rfl⟩ := List.getElem_of_mem hv
    obtain ⟨y, hy, ry⟩ := rs.get (i := i) (d := uD us[i]) (by rw [List.getElem?_map, List.getElem?_eq_getElem hi]; rfl)
    exact imp _ _ _ _ r ry (h y (List.mem_of_getElem? hy))
theorem cl_sortU : CaL X.K (rSortU X.K 2 1048576) bSortU := by
  rintro H S xs ds Qm Q s r ⟨d, us, rfl, hl, h64, hb, h⟩ k
  obtain ⟨v, rfl, r1⟩ := rds1 r
  obtain ⟨a, vs, rfl, hq, rs⟩ := lst_sq s r1 hl
  refine ⟨a, vs, rfl, hq, by rw [rs.length, List.length_map]; exact h64, fun x hx => ?_, fun ys p hp hs hn => ?_⟩
  · obtain ⟨d, hd, rd⟩ := rds_mem rs x hx
    obtain ⟨u, hu, rfl⟩ := List.mem_map.mp hd
    obtain ⟨b1, b2, b3, b4⟩ := hb u hu
    refine ⟨_, tupI_u rd, rfl, fun m hm => ?_⟩
    rcases List.mem_cons.mp hm with e | e
    · rw [e]; exact ⟨b1, b2⟩
    · rw [List.mem_singleton.mp e]; exact ⟨b3, b4⟩
  · obtain ⟨es, he, rys⟩ := perm_rds hp rs
    obtain ⟨ws, hw, rfl⟩ := perm_map he
    have hbw : ∀ u ∈ ws, 0 ≤ u.1 ∧ u.1 < 1048576 ∧ 0 ≤ u.2 ∧ u.2 < 1048576 := fun u hu => hb u (hw.mem_iff.mp hu)
    have hall : ws.Pairwise fun u v => (0 ≤ u.2 ∧ u.2 < 1048576) → (0 ≤ v.2 ∧ v.2 < 1048576) → ule u v :=
      rds_pair (fun x y u v rx ry h z1 z2 => ule_code (h _ _ (tupI_u rx) (tupI_u ry)) z1 z2) rys hs
    have hpw : ws.Pairwise ule := hall.imp_of_mem fun {u v} hu hv h => h (hbw u hu).2.2 (hbw v hv).2.2
    exact k _ S _ _ (h ws hw hpw) (Ext.new s hn) (s.new hn) (.lst upd_same (s.fresh hn) (rys.ext (Ext.new s hn)))
end
def SortP (ds : List D) (S : Sto) [Q : Hold MQ] : Prop := bSortU ds S Q.v
theorem l_bSortU {ds : List D} {S : Sto} {Q : MQ} : bSortU ds S Q = @SortP ds S ⟨Q⟩ := Eq.trans rfl rfl
theorem sortP {d : D} {us : List U2} {S : Sto} {Q : MQ} (hl : lstOf S d = some (us.map uD)) (hz : us.length < 64) (hb : ∀ u ∈ us, 0 ≤ u.1 ∧ u.1 < 1048576 ∧ 0 ≤ u.2 ∧ u.2 < 1048576) (k : ∀ vs : List U2, vs.Perm us → vs.Pairwise ule → Q (.lst (vs.map uD)) S) : @SortP [d] S ⟨Q⟩ := ⟨d, us, rfl, hl, hz, hb, k⟩
theorem l_mtInsert {p : Addr} {n : Nat} {y : D} {S : Sto} {Q : MQ} : mtInsert (.ref p) [.int (n : Nat), y] S Q = optP (olP (S p)) fun xs => (xs.length < sizeLine ∧ 0 ≤ ((n : Nat) : Int) ∧ ((n : Nat) : Int) < 2 ^ 63) ∧ Q .non (put S p (.lst (xs.take n ++ [y] ++ xs.drop n))) := by
  simp only [mtInsert, optP, OptP, olP]
  cases S p with
  | none => rfl
  | some o => cases o <;> simp
theorem l_mtReverse {p : Addr} {S : Sto} {Q : MQ} : mtReverse (.ref p) [] S Q = optP (olP (S p)) fun xs => Q .non (put S p (.lst xs.reverse)) := by
  simp only [mtReverse, optP, OptP, olP]
  cases S p with
  | none => rfl
  | some o => cases o <;> rfl
theorem l_mtClear {p : Addr} {S : Sto} {Q : MQ} : mtClear (.ref p) [] S Q = optP (olP (S p)) fun xs => Q .non (put S p (.lst [])) := by
  simp only [mtClear, optP, OptP, olP]
  cases S p with
  | none => rfl
  | some o => cases o <;> rfl
end ML

set_option maxRecDepth 100000
namespace ML
open PySem PySem.Spec L2
/-! ### comprehensions whose turns make new things -/
/-- all but p stands as it stood -/
def Grow (p : Addr) (S S' : Sto) : Prop := ∀ q o, q ≠ p → S q = some o → S' q = some o
theorem Grow.rfl {p : Addr} {S : Sto} : Grow p S S := fun _ _ _ h => h
theorem Grow.put {p : Addr} {S S' : Sto} {o : MO} (h : Grow p S S') : Grow p S (put S' p o) := fun q u hq e => by rw [put_ne hq]; exact h q u hq e
def Ext0 (S S' : Sto) : Prop := ∀ q o, S q = some o → S' q = some o
theorem Grow.ext {p : Addr} {S S' S'' : Sto} (h : Grow p S S') (k : Ext0 S' S'') : Grow p S S'' := fun q u hq e => k q u (h q u hq e)
theorem comp_grow {α : Type} {σ : MSt} {S0 S : Sto} {p : Addr} {own : List Nat} {G : Sto → Prop} {g : MG} {mt : MT} {me : ME} {fin : List D → Sto → Prop} {items : List D} (enc res : α → D) (t : α → Bool) (xs : List α) (hi : items = xs.map enc) (hz : xs.length ≤ 1000)
    (hS : S p = some (.lst [])) (h0 : Grow p S0 S) (hG : ∀ S', Grow p S0 S' → G S')
    (h : ∀ a acc S' (Q : Sto → Prop) (Q' : MQ), a ∈ xs → Grow p S0 S' → S' p = some (.lst acc) → (t a = true → ∀ S'', Ext0 S' S'' → Q' (res a) S'') → (t a = false → ∀ S'', Ext0 S' S'' → Q S'') →
      g (enc a) (wipeM σ own) S' (fun σ2 S2 => mt σ2 S2 (fun k S3 => @IteP (k = true) ⟨me σ2 S3 Q' noX⟩ ⟨Q S3⟩) noX) noX)
    (hf : ∀ S', Grow p S0 S' → S' p = some (.lst ((xs.filter t).map res)) → fin ((xs.filter t).map res) S') : @CompP items σ S p own ⟨G⟩ ⟨g⟩ ⟨mt⟩ ⟨me⟩ ⟨fin⟩ := by
  subst hi
  refine ⟨fun i S' => S' p = some (.lst (((xs.take i).filter t).map res)) ∧ Grow p S0 S', ⟨by simpa using hS, h0⟩, fun i S' hi e => ?_⟩
  obtain ⟨e1, e2⟩ := e
  refine ⟨hG _ e2, ?_⟩
  rw [List.length_map] at hi
  show (match (xs.map enc)[i]? with | some d => _ | none => _)
  rw [List.getElem?_map]
  cases ea : xs[i]? with
  | some a =>
    have hlt : i < xs.length := (List.getElem?_eq_some_iff.mp ea).1
    have hm : a ∈ xs := List.mem_of_getElem? ea
    have ht : xs.take (i + 1) = xs.take i ++ [a] := by rw [List.take_add_one, ea]; rfl
    have hh := h a _ S' (fun S3 => S3 p = some (.lst (((xs.take (i + 1)).filter t).map res)) ∧ Grow p S0 S3) (fun y S4 => ∃ acc, S4 p = some (.lst acc) ∧ acc.length < sizeLine ∧ put S4 p (.lst (acc ++ [y])) p = some (.lst (((xs.take (i + 1)).filter t).map res)) ∧ Grow p S0 (put S4 p (.lst (acc ++ [y])))) hm e2 e1
      (fun k S4 x4 => ⟨_, x4 p _ e1, ?_, ?_, (e2.ext x4).put⟩) (fun k S4 x4 => ⟨?_, e2.ext x4⟩)
    · simp only [← IteP_bool] at hh
      exact hh
    · have : ((xs.take i).filter t).length ≤ (xs.take i).length := List.length_filter_le ..
      rw [List.length_take] at this
      exact line_lt (by rw [List.length_map]; omega)
    · rw [put_same, ht, List.filter_append, List.map_append]
      simp [k]
    · rw [x4 p _ e1, ht, List.filter_append, List.map_append]
      simp [k]
  | none =>
    have hl : i = xs.length := by have := List.getElem?_eq_none_iff.mp ea; omega
    subst hl
    rw [List.take_length] at e1
    exact ⟨_, e1, hf _ e2 e1⟩
end ML

set_option maxRecDepth 100000
namespace ML
open PySem PySem.Spec L2
open PyProof.Rows hiding St
/-! ### defs that show things: nothing is being shown around them -/
structure ShowOk (P : Program) (w : World) (K : PySem.W.Frag) (mg : Str → Option Value) (base : Heap) (k : Nat) (f : Addr) (fd : FuncData) (ps : List Str) (sp : Sp) : Prop where
  many : ∀ vs H Q E, sp vs H Q E → vs.length = ps.length
  runs : ∀ (A : Around), A.guards = some [] → Room k A → ∀ (outer : List Env) (s : Shared) (H : Hp), Env0 P w K mg base A outer s H → ∀ (args : Args) (us : List Value) (vs : List V), BindsTo s fd args (ps.zip us) → Vals vs us → ∀ (Q : VK) (E : XK), sp vs H Q E → codeAny (model P w) A (.call (.ref f) args) (CR (L2.CX P w) outer P w H s Q E) s
theorem ShowOk.of {P : Program} {w : World} {K : PySem.W.Frag} {mg : Str → Option Value} {base : Heap} {k : Nat} {f : Addr} {fd : FuncData} {ps : List Str} {sp : Sp} (F : FnOk P w K mg base (L2.CX P w) k f fd ps sp) : ShowOk P w K mg base k f fd ps sp :=
  ⟨F.len, fun A _ hr outer s H e args us vs b r Q E h => F.run A outer s H args us vs Q E hr e b r h⟩
theorem show_mk {P : Program} {w : World} {K : PySem.W.Frag} {mg : Str → Option Value} {base : Heap} {x qual : Str} {st : Stmt} {f : Addr} {fd : FuncData} {N ps : List Str} {k n : Nat} {sp : MSp} {body : MS}
    (F : FunD K x qual (defArgs st) (defBody st) (defScope st) [] [] f fd) (S : FnScope N ps (defScope st)) (hn : N.length - ps.length = n)
    (len : ∀ ds S Q E, sp ds S Q E → ds.length = ps.length)
    (hbody : ∀ (cdv : Value) (A : Around) (outer : List Env) (s : Shared) (H : Hp) (E : XK), A.guards = some [] → Room k (cxM P w K mg base N qual st f cdv A outer s H E).A → PSs (cxM P w K mg base N qual st f cdv A outer s H E) (defBody st) (upS K (wM E) body))
    (read : ∀ ds S Q E, sp ds S Q E → body (mends Q E) (mstart n ds) S) : ShowOk P w K mg base (k + 1) f fd ps (upSp K sp) := by
  obtain ⟨oc, od, dV, kV, doc, pm, an, cdv, ct, osl, rfl, lk, hcd, _, _⟩ := F.ex
  have many : ∀ vs H Q E, upSp K sp vs H Q E → vs.length = ps.length := fun vs H Q E ⟨ds, S, Qm, Em, h1, h2, h3, h4⟩ => by rw [h1.length]; exact len ds S Qm Em h3
  refine ⟨many, fun A hg hr outer s H e0 args us vs hb r Q E hsp => ?_⟩
  have hl := many _ _ _ _ hsp
  have kin : K.In s.heap := e0.mod.kin.keeps fun b o e => (e0.bs b o e).1
  have nol : s.heap.NoLimit := e0.mod.nolimit.keeps fun b o e => (e0.bs b o e).1
  have kinds : ∀ y ∈ ps.zip us, (defScope st).names.lookup y.1 = some .local ∨ ((defScope st).names.lookup y.1 = some .cell ∧ ((cellsFrom (s.heap.objs.size + 1) (defScope st).names []).lookup y.1).isSome = true) := by
    rintro ⟨m, v⟩ hy
    exact (S.par m (List.of_mem_zip hy).1).imp id fun q => ⟨q, PySem.W.cellsFrom_some _ _ _ (.inl q)⟩
  refine codeAny_call_function (hroom := hr.depth) (ho := kin _ _ lk) rfl S.co S.gen rfl (PySem.W.codeRec_of kin hcd) (hb _ _ _ _ (wpAny_newFunctionEnv_cells S.kind kinds fun env he s1 x => ?_))
  subst he
  refine ⟨nol.keeps x.toInCall.keep, codeAny_func ?_⟩
  have I := inv_start (CX := L2.CX P w) (E := E) S hr.hd e0 hl r x
  have B := hbody cdv A outer s H E hg (hr.deeper _)
  obtain ⟨ds, S0, Qm, Em, h1, h2, h3, h4, h5⟩ := hsp
  have hl2 : vs.length = ps.length := hl
  have rd : upS K (wM E) body { nx := fun _ H' => Q .non H', rt := Q } (L2.start N vs) H := by
    refine ⟨_, S0, _, ?_, h2, read ds S0 Qm Em h3, ⟨fun m S' σ H' q e s r => h4 .non S' .non H' q e s .non, h4, fun _ _ _ _ z => z.elim, fun _ _ _ _ z => z.elim, fun x m S' c d σ H' q e s r rx => h5 x S' c d H' q e s rx⟩⟩
    unfold L2.start
    rw [hl2, hn]
    exact RSt.start _ h1
  refine wpAny_mono (B.run [] s1 (L2.start N vs) H _ I rd) (fun fl s' hs => ?_) fun _ _ z => z
  cases fl with
  | ret u => exact let ⟨v, _, H', J, rv, q⟩ := hs; ⟨v, H', J.os, J.bare, J.base, J.hok, rv, q⟩
  | next => exact let ⟨_, H', J, q⟩ := hs; ⟨V.non, H', J.os, J.bare, J.base, J.hok, rfl, q⟩
  | brk => exact let ⟨_, _, _, q⟩ := hs; q.elim
  | cont => exact let ⟨_, _, _, q⟩ := hs; q.elim
structure HasS (P : Program) (w : World) (K : PySem.W.Frag) (mg : Str → Option Value) (base : Heap) (x : Str) (ps : List Str) (k : Nat) (sp : MSp) : Prop where
  ex : ∃ f fd, mg x = some (.ref f) ∧ PySem.W.keepIn K (.ref f) = true ∧ Binds K fd ps [] ∧ ShowOk P w K mg base k f fd ps (upSp K sp)
theorem Has.s {P : Program} {w : World} {K : PySem.W.Frag} {mg : Str → Option Value} {base : Heap} {x : Str} {ps : List Str} {k : Nat} {sp : MSp} (h : Has P w K mg base x ps k sp) : HasS P w K mg base x ps k sp :=
  let ⟨f, fd, a, b, c, d⟩ := h.ex
  ⟨f, fd, a, b, c, .of d⟩
theorem HasS.mono {P : Program} {w : World} {K : PySem.W.Frag} {mg : Str → Option Value} {base : Heap} {x : Str} {ps : List Str} {j k : Nat} {sp : MSp} (h : HasS P w K mg base x ps j sp) (l : j ≤ k) : HasS P w K mg base x ps k sp :=
  let ⟨f, fd, a, b, c, d⟩ := h.ex
  ⟨f, fd, a, b, c, d.many, fun A hg hr => d.runs A hg (hr.mono l)⟩
section
variable {X : Cx} {W : WX} {e : Expr} {es : List Expr} {mas : MA} {pos : Pos}
/-- a call of a def that shows things -/
theorem ecallS {k : Nat} {x : Str} {ps : List Str} {sp : MSp} {p : Pos} (F : HasS X.prog X.w X.K X.mg X.base x ps k sp) (hgu : X.A.guards = some []) (hr : Room k X.A) (tk : Takes X W) (ha : PA X (e :: es) (upA X.K W mas)) (hg : Gl X x := by rfl)
    (hdb : (x == ("__debug__" : Str)) = false := by decide) (he : starEach (e :: es) X.env = (false, eval e X.env) :: starEach es X.env := by rfl) (hpl : (backTo pos (starEach es X.env)).any (·.1) = false := by rfl) :
    PE X (.Call (.Name x p) (e :: es) [] pos) (upE X.K W (mCall sp mas)) := by
  obtain ⟨f, fd, hm, hk, hb, G⟩ := F.ex
  refine ⟨fun pins s σ H Q I h => ?_⟩
  obtain ⟨m, S, Qm, Em, h1, h2, h3, h4, h5⟩ := h
  have ar := ha.run pos pins s σ H (fun vs H1 => upSp X.K sp vs H1 Q (WE W σ)) I ⟨m, S, _, Em, h1, h2, h3, fun ds S1 vs H1 q1 e1 s1 r1 => ⟨ds, S1, Qm, Em, r1, s1, q1, h4.ext e1, h5.ext e1⟩, h5⟩
  refine wpAny_Call_Name_kw (ld_glob I hg hm (PySem.W.callWith_K (h₀ := X.base) I.ok.mod.kin hk (thn ar fun us s1 hh => ?_) he hpl) hdb)
  obtain ⟨vs, H1, I1, r, q⟩ := hh
  refine ⟨I1.kIn, ?_⟩
  have el : us.length = ps.length := r.length.symm.trans (G.many _ _ _ _ q)
  have bt : BindsTo s1 fd ⟨us, []⟩ (ps.zip us) := by
    have := hb s1 us I1.kIn (by rw [List.append_nil]; exact el)
    rwa [List.append_nil] at this
  refine wpAny_call (codeAny_mono (G.runs X.A hgu hr X.stack s1 H1 I1.env0 ⟨us, []⟩ us vs bt r Q (WE W σ) q) fun res s' hq => ?_)
  rcases res with er | fl
  · exact passAt tk σ pins H1 s1 er s' I1 hq
  · cases fl with
    | ret u => exact I1.after hq
    | next => exact hq.elim
    | brk => exact hq.elim
    | cont => exact hq.elim
end
/-! ### the law, shown or not -/
theorem law_callS {P : Program} {w : World} {K : PySem.W.Frag} {mg mb : Str → Option Value} {k : Nat} {fa a : Addr} {fd : FuncData} {x : Str} {s1 : Shared} {vs : List Value} {ns : List Int} (n63 : ns.length ≤ 63) (rm : Room k callerA) (gens0 : s1.gens = #[])
    (inK : K.In s1.heap) (gl : s1.heap.Ns mainGlobals mg) (bl : s1.heap.Ns builtinsNs mb) (bb : ∀ y : Str, y ≠ "__name__" → mb y = bootBuiltins y) (nol : s1.heap.NoLimit) (scr : s1.heap.get? a = some { cls := .type "list", data := .seq vs.toArray }) (intsA : IntsAre vs ns)
    (bnd : ∀ (s : Shared) (u : Value), BindsTo s fd ⟨[u], []⟩ [(x, u)]) (F : ∀ base : Heap, K.In base → base.Ns mainGlobals mg → ShowOk P w K mg base k fa fd [x] (upSp K spLaw)) :
    codeAny (model P w) callerA (.call (.ref fa) ⟨[.ref a], []⟩) (fun r s' => r = .ok (.ret (.bool true)) ∧ OldK s1.heap s'.heap ∧ s'.os = s1.os ∧ AllBare s'.gens) s1 := by
  have hl : ns.length ≤ sizeLine := by rw [sizeLine_eq]; omega
  have vals := vals_ints intsA
  have main : ∀ H : Hp, Only H → (∀ b, H b ≠ none → b = a ∧ K.lookup a = none) → HOk P w H s1.heap → SqL K H a (ns.map V.int) → codeAny (model P w) callerA (.call (.ref fa) ⟨[.ref a], []⟩) (fun r s' => r = .ok (.ret (.bool true)) ∧ OldK s1.heap s'.heap ∧ s'.os = s1.os ∧ AllBare s'.gens) s1 := by
    intro H only own hok sq
    have free : ∀ {b : Addr}, (b = a → K.lookup a = none → False) → H b = none := fun {b} h => by
      by_cases z : H b = none
      · exact z
      · exact (h (own b z).1 (own b z).2).elim
    have space : ∀ {b : Addr} {m : Str → Option Value}, s1.heap.Ns b m → (hidT s1.heap H).Ns b m := by
      rintro b m ⟨o, es, ep, e, d, r⟩
      refine ⟨o, es, ep, hidT_get e (free fun z _ => ?_), d, r⟩
      rw [z, scr] at e
      cases e
      exact nomatch (show Data.seq vs.toArray _ = Data.dict es ep from d)
    have hidK : K.In (hidT s1.heap H) := fun b o e => hidT_get (inK b o e) (free fun z y => by rw [z, y] at e; cases e)
    obtain ⟨lim, l1, l2⟩ := nol
    have env : Env0 P w K mg (hidT s1.heap H) callerA [] s1 H := { frames := rfl, mod := ⟨hidK, space gl, ⟨mb, space bl, bb⟩, ⟨lim, space l1, l2⟩⟩, bs := fun _ _ e => of_hidT e, bsz := Nat.le_of_eq (hidT_size _ _), funs := trivial, frf := fun _ z => (nomatch z), hok := hok, bare := .of_eq gens0 }
    refine codeAny_mono ((F _ hidK (space gl)).runs callerA rfl rm [] s1 H env ⟨[.ref a], []⟩ [.ref a] [.ref a] (bnd s1 (.ref a)) (.cons rfl .nil) _ _ (law_sp n63 only sq)) fun r s' got => ?_
    rcases r with er | fl
    · exact (law_cx H s1 er s' got).elim
    · cases fl with
      | ret u =>
        obtain ⟨v, H', os, bare, un, hok', rv, tru⟩ := got
        have tru' : v = V.bl true := tru
        rw [tru'] at rv
        have eu : u = Value.bool true := rv
        refine ⟨by rw [eu], OldK.of_keep fun b o e => ?_, os, bare⟩
        rcases only b with z | ⟨ob, xs, z⟩
        · exact un.keep b o e z (fun y => nomatch y) (by simp)
        · have e1 := (hok b _ z).1
          rw [e] at e1
          rw [Option.some.inj e1]
          exact (hok' b _ (un.frzs b ob _ z)).1
      | next => exact got.elim
      | brk => exact got.elim
      | cont => exact got.elim
  by_cases hk : K.lookup a = none
  · refine main (fun b => if b = a then some (.frz { cls := .type "list", data := .seq vs.toArray } (.lst (ns.map V.int))) else none) ?_ ?_ ?_ (.inl (.inr ⟨{ cls := .type "list", data := .seq vs.toArray }, if_pos rfl⟩))
    · intro b
      show (if b = a then _ else _) = _ ∨ ∃ o xs, (if b = a then _ else _) = _
      split
      · exact .inr ⟨_, _, rfl⟩
      · exact .inl rfl
    · intro b z
      by_cases e : b = a
      · exact ⟨e, hk⟩
      · exact (z (if_neg e)).elim
    · intro b u z
      by_cases e : b = a
      · have z2 := (if_pos e).symm.trans z
        cases z2
        rw [e]
        exact ⟨scr, by rw [List.length_map]; exact hl, vs, _, vals, scr⟩
      · have z2 := (if_neg e).symm.trans z
        cases z2
  · cases eo : K.lookup a with
    | none => exact (hk eo).elim
    | some o =>
      have e2 := inK a o eo
      rw [scr] at e2
      rw [← Option.some.inj e2] at eo
      exact main (fun _ => none) (fun _ => .inl rfl) (fun b z => (z rfl).elim) (fun b u z => nomatch (show (none : Option HO) = some u from z)) (.inr ⟨_, vs.toArray, _, eo, rfl, rfl, rfl, by rw [List.size_toArray, intsA.length]; exact hl, by simpa using vals⟩)
/-- the goal that the head leaves, for a law that shows things -/
theorem law_endS {l : PySem.W.OpenLaw} {k : Nat} {q : Program} {loose : List Str} {XP : (Str → Option Value) → Heap → Prop} {YP : World → Heap → Prop} {d : DefRec} {x : Str} (hn : l.most = some 63) (hdf : d.params.defaults = []) (hr : Room k callerA)
    (F : ∀ (w : World) (mg : Str → Option Value) (fa : Addr) (h : Heap), YP w h → h.Ns mainGlobals mg → mg d.name = some (.ref fa) → ∃ (K : PySem.W.Frag) (fd : FuncData), K.In h ∧ (∀ (s : Shared) (u : Value), BindsTo s fd ⟨[u], []⟩ [(x, u)]) ∧
      ∀ base : Heap, K.In base → base.Ns mainGlobals mg → ShowOk l.prog w K mg base k fa fd [x] (upSp K spLaw)) : PySem.W.WalkO q loose XP YP l.row.toRowW d [] (fun f vs => PySem.call f vs) := by
  apply Att.attach_call hn hdf
  intro w _ s1 mg _ fa _ _ _ _ a vs ns G Y _ _ _ hmg hobj hints hlen hg
  have ⟨K, fd, KX, hb, hF⟩ := F w mg fa _ Y G.T.g hmg
  exact law_callS hlen hr hg KX G.T.g G.T.b G.T.builtins G.T.nolimit hobj hints hb hF
end ML

set_option maxRecDepth 100000
namespace ML
open PySem PySem.Spec L2
open PyProof.Rows hiding St
/-! ### repr of lists and tuples -/
section
variable {X : Cx}
def rShow (K : PySem.W.Frag) : List V → Hp → VK → Prop := fun xs H Q => ∃ (a : Addr) (d : PyData), xs = [.ref a] ∧ Dp K H (.ref a) d ∧ d.showable = true ∧ d.hasDict = false ∧ d.depth ≤ 60 ∧ d.shown.length ≤ sizeLine ∧ Q (.str d.shown) H
theorem call_show (hg : X.A.guards = some []) (hu : X.A.units + 65 < cLine) : CallR X (.builtin "repr") (rShow X.K) := by
  intro pins s σ H xs us Q I r h
  obtain ⟨a, d, rfl, hd, hs, hn, hz, hl, q⟩ := h
  obtain ⟨u, rfl, ru⟩ := vals1 r
  obtain ⟨as, rr⟩ := Dp.reads I d (.ref a) u hd ru
  cases (show u = Value.ref a from ru)
  exact repr_of_reads' rr hs (fun z => by rw [hn] at z; cases z) hg (by omega) (fun _ _ e => e) (fun h' t tk k => ⟨.str d.shown, H, I.kept (t' := tk) k, ⟨t, rfl⟩, q⟩) hl
end
mutual
theorem D.noDict : ∀ d : D, D.plain d = true → PyData.hasDict (D.py d) = false
  | .non, _ => by rw [D.py, PyData.hasDict]
  | .bl _, h => by cases h
  | .int _, _ => by rw [D.py, PyData.hasDict]
  | .str _, _ => by rw [D.py, PyData.hasDict]
  | .ref _, h => by cases h
  | .tup ds, h => by rw [D.py, PyData.hasDict]; exact D.noDicts ds h
  | .lst ds, h => by rw [D.py, PyData.hasDict]; exact D.noDicts ds h
  | .scr ds, h => by rw [D.py, PyData.hasDict]; exact D.noDicts ds h
theorem D.noDicts : ∀ ds : List D, D.plains ds = true → PyData.hasDictAll (D.pys ds) = false
  | [], _ => by rw [D.pys, PyData.hasDictAll]
  | d :: ds, h => by
    obtain ⟨a1, a2⟩ := Bool.and_eq_true_iff.mp (show (D.plain d && D.plains ds) = true from h)
    rw [D.pys, PyData.hasDictAll, D.noDict d a1, D.noDicts ds a2]; rfl
end
def isRow : D → Bool
  | .tup _ => true
  | .lst _ => true
  | _ => false
/-- what may be shown -/
def showOk (d : D) : Prop := isRow d = true ∧ D.plain d = true ∧ D.dep d ≤ 60 ∧ (D.py d).showable = true ∧ (D.py d).shown.length ≤ sizeLine
/-- how it is shown -/
def reprD (d : D) : Str := (D.py d).shown
def bRepr : List D → Sto → MQ → Prop := fun ds S Q => match ds with
  | [d] => showOk (look S d) ∧ Q (.str (reprD (look S d))) S
  | _ => False
theorem cl_repr {K : PySem.W.Frag} : CaL K (rShow K) bRepr := fun H S xs ds Qm Q s r h k => by
  unfold bRepr at h
  split at h
  · next d =>
    obtain ⟨⟨h1, h2, h3, h4, h5⟩, q⟩ := h
    obtain ⟨v, rfl, r1⟩ := rds1 r
    have dp := look_dp s r1 h2
    obtain ⟨a, rfl⟩ : ∃ a, v = .ref a := by
      generalize look S d = e at dp h1
      cases e with
      | tup es => rw [D.py] at dp; cases dp; exact ⟨_, rfl⟩
      | lst es => rw [D.py] at dp; cases dp; exact ⟨_, rfl⟩
      | _ => cases h1
    exact ⟨a, _, rfl, dp, h4, D.noDict _ h2, by rw [D.dep_py]; exact h3, h5, k _ S _ H q Ext.refl s (.str _)⟩
  · exact h.elim
theorem l_bRepr {d : D} {S : Sto} {Q : MQ} : bRepr [d] S Q = (showOk (look S d) ∧ Q (.str (reprD (look S d))) S) := Eq.trans rfl rfl
end ML

set_option maxRecDepth 100000
namespace ML
open PySem PySem.Spec L2
open PyProof.Rows hiding St
/-! ### the head's facts, with a module's own tuples of numbers -/
def tupsB (ts : List (Str × List Int)) (K : PySem.W.Frag) : Bool := ts.all fun p => He.tupB K p.1 (p.2.map He.Dv.int)
theorem ktup_ok {K : PySem.W.Frag} {x : Str} {is : List Int} (h : He.tupB K x (is.map He.Dv.int) = true) (H : Hp) (S : Sto) : RD K H S (.ref (He.ga K x)) (.tup (is.map D.int)) := by
  have e : (is.map He.Dv.int).map (He.Dv.v K) = is.map V.int := by rw [List.map_map]; rfl
  have z := He.tupB_ok h (fun _ => none)
  rw [e] at z
  rcases z with (z | ⟨o, z⟩) | ⟨o, its, n, h1, h2, h3, h4, h5⟩
  · exact nomatch (show (none : Option HO) = some _ from z)
  · exact nomatch (show (none : Option HO) = some _ from z)
  · exact .ktup h1 h2 h3 h4 h5 RDs.of_ints
theorem tups_at {ts : List (Str × List Int)} {K : PySem.W.Frag} (h : tupsB ts K = true) (p : Str × List Int) (hp : p ∈ ts) : ∀ H S, RD K H S (.ref (He.ga K p.1)) (.tup (p.2.map D.int)) := fun H S => ktup_ok (List.all_eq_true.mp h p hp) H S
def obsT (n : Nat) (fa : List He.Fa) (fn : List He.DefD) (ks : List String) (ts : List (Str × List Int)) (g : Addr → Option Obj) : AlK × Bool := (obsKG n fa fn ks g, tupsB ts (He.frG g (He.asD g n)))
def hookT (n : Nat) (fa : List He.Fa) (fn : List He.DefD) (ks : List String) (ts : List (Str × List Int)) : PySem.W.Hook where
  α := AlK × Bool
  obs := fun s => obsT n fa fn ks ts s.heap.get?
  val := fun _ => ((He.valD fn, true), true)
  says := fun _ h => ∃ K : PySem.W.Frag, K.In h ∧ SaysK fa fn ks K ∧ tupsB ts K = true
  of := fun _ _ e => ⟨_, He.frG_in, ⟨congrArg (fun z : AlK × Bool => z.1.1) e, congrArg (fun z : AlK × Bool => z.1.2) e⟩, congrArg (fun z : AlK × Bool => z.2) e⟩
  keeps := fun _ _ _ ⟨K, hK, c⟩ k => ⟨K, PySem.W.Frag.In.keeps hK k, c⟩
theorem obsT_eq {n : Nat} {fa : List He.Fa} {fn : List He.DefD} {ks : List String} {ts : List (Str × List Int)} {g : Addr → Option Obj} {s : Shared} (h : ∀ a, g a = s.heap.get? a) : obsT n fa fn ks ts g = (hookT n fa fn ks ts).obs s := by
  have e : g = s.heap.get? := funext h
  subst e; rfl
end ML

set_option maxRecDepth 100000
set_option maxHeartbeats 2000000
/-! # an exception that is kept behind its except clause -/
namespace L2
open PySem PySem.Spec PyProof.Rows
section
variable {X : Cx} {pins : List (Addr × Obj)} {σ : St} {H : Hp} {s : Shared}
theorem exS_ok {P : Program} {w : World} {H : Hp} {h : Heap} {a : Addr} {oe : Obj} {vs : Array Value} {cls : Value} {d : Option Addr} (ha : h.get? a = some oe) (hz : Zc cls d oe) (hd : oe.data = .fields vs) : ObjOk P w H h a (ML.ExS cls d a) :=
  ⟨⟨oe, vs, ha, hz, hd⟩, ⟨oe, ha⟩, fun _ _ ⟨o, v, q, r⟩ k => ⟨o, v, k o q, r⟩⟩
/-- the caught object is tracked from now on -/
theorem Inv.keepX {sI : Shared} {B : Heap} {a : Addr} {oe : Obj} {vs : Array Value} {cls : Value} {d : Option Addr} (J : Inv X pins σ H sI) (nb : ∀ b o, sI.heap.get? b = some o → b ∉ frs X.stack → B.get? b = some o) (hB : B.get? a = none)
    (hs : X.stack = X.env :: X.outer) (hf : X.env.frame = some X.env.locals) (hx : X.ex = []) (I : Inv X pins σ H s) (ha : s.heap.get? a = some oe) (hz : Zc cls d oe) (hd : oe.data = .fields vs) (na : H a = none) (nfr : a ∉ frs X.stack) : Inv X pins σ (upd H a (ML.ExS cls d a)) s := by
  have gone : ∀ b o, sI.heap.get? b = some o → b ∉ frs X.stack → b ≠ a := fun b o e n z => by
    subst z; rw [nb _ _ e n] at hB; cases hB
  have n0 : ∀ b o, X.s_0.heap.get? b = some o → b ≠ a := fun b o e z => by
    subst z
    obtain ⟨o', e'⟩ := J.base.there _ o e (by rw [hx]; exact fun z => nomatch z)
    exact gone _ o' e' nfr rfl
  have nL : X.env.locals ≠ a := fun z => nfr (by rw [hs]; exact List.mem_filterMap.mpr ⟨X.env, List.mem_cons_self, by rw [hf, z]⟩)
  have nC : ∀ x c, X.env.cells.lookup x = some c → c ≠ a := fun x c e z => by
    obtain ⟨v, o, ho, hv⟩ := I.cell x c e
    rw [z, ha] at ho; cases ho
    rw [hd] at hv; cases hv
  refine ⟨I.ok, I.os, I.bare, ⟨I.base.keep, I.base.slot, fun b o e n hq => ?_, I.base.there, fun b xs e => ?_, fun b o u e => ?_, fun b ps e => ?_⟩, I.loc, I.cell, ?_, fun x c e => ?_, fun p hp => ?_, ?_, I.len⟩
  · rw [upd_ne (n0 b o e)]; exact I.base.free b o e n hq
  · have q := I.base.tups b xs e
    rw [upd_ne (ne_of_none q na)]; exact q
  · have q := I.base.frzs b o u e
    rw [upd_ne (ne_of_none q na)]; exact q
  · obtain ⟨m, q⟩ := I.base.tbls b ps e
    exact ⟨m, by rw [upd_ne (ne_of_none q na)]; exact q⟩
  · rw [upd_ne nL]; exact I.free
  · rw [upd_ne (nC x c e)]; exact I.freeC x c e
  · obtain ⟨e, n, ne, nf, dd⟩ := I.pin p hp
    obtain ⟨e1, _, _, _, _⟩ := J.pin p hp
    have nfr' : p.1 ∉ frs X.stack := fun hm => by
      rw [hs] at hm
      obtain ⟨v, hv, q⟩ := List.mem_filterMap.mp hm
      rcases List.mem_cons.mp hv with z | z
      · subst z; rw [hf] at q; exact ne (Option.some.inj q).symm
      · exact nf (List.mem_filterMap.mpr ⟨v, z, q⟩)
    exact ⟨e, by rw [upd_ne (gone p.1 p.2 e1 nfr')]; exact n, ne, nf, dd⟩
  · exact I.hok.laidN (fun _ _ q => q) na (exS_ok ha hz hd)
theorem Inv.toSuite (I : Inv X pins σ H s) (a : Addr) : Inv (X.suite a (X.pn ++ pins)) [] σ H s :=
  ⟨I.ok.suite _ _, I.os, I.bare, I.base, I.loc, I.cell, I.free, I.freeC, fun p hp => I.pin p (by have z : p ∈ (X.pn ++ pins) ++ [] := hp; rwa [List.append_nil] at z), I.hok, I.len⟩
theorem Inv.ofSuite {a : Addr} {pn' : List (Addr × Obj)} (I : Inv (X.suite a (X.pn ++ pins)) pn' σ H s) (ok : X.Ok) : Inv X pins σ H s :=
  ⟨ok, I.os, I.bare, I.base, I.loc, I.cell, I.free, I.freeC, fun p hp => I.pin p (List.mem_append_left _ hp), I.hok, I.len⟩
end
/-- the slot of the clause's name is emptied at each end -/
def endK (D : Ends) (i : Nat) : Ends := { nx := fun σ' H' => D.nx (σ'.set i none) H', rt := D.rt, bk := fun σ' H' => D.bk (σ'.set i none) H', ct := fun σ' H' => D.ct (σ'.set i none) H' }
def wKp (K : PySem.W.Frag) (c : Value) (i : Nat) (ts : Addr → Value → Option Addr → TS) (Wout : WX) (D : Ends) : WX := fun cls d σ H => ∃ b, PySem.W.exmOne K cls c = some b ∧
  (b = true → ∀ a, H a = none → ts a cls d (endK D i) (σ.set i (some (.ref a))) (upd H a (ML.ExS cls d a))) ∧ (b = false → Wout cls d σ H)
section
variable {X : Cx} {x n : Str} {c : Value} {i : Nat} {body suite : List Stmt} {b₀ : Stmt} {np pos pos' : Pos} {tb : WX → TS} {ts : Addr → Value → Option Addr → TS} {Wout : WX}
theorem ps_try_kp (hs : X.stack = X.env :: X.outer) (hf : X.env.frame = some X.env.locals) (hx : X.ex = []) (hN : X.N.Nodup) (hi : X.N[i]? = some n) (hln : X.env.kindOf n = some .local) (hc : Names X x c) (tk : Takes X Wout)
    (hb : ∀ (V : WX) (pl : List (Addr × Obj)) (ye : Value → Shared → Prop), Takes (X.tr pl ye) V → PassesOwn (model X.prog X.w) X.A X.env ye → PSs (X.tr pl ye) body (tb V))
    (hsu : ∀ (a : Addr) (cls : Value) (d : Option Addr) (pl : List (Addr × Obj)), PSs (X.suite a pl) (b₀ :: suite) (ts a cls d)) :
    PS X (.Try body [.ExceptHandler (some (.Name x np)) (some n) (b₀ :: suite) pos'] [] [] pos) (fun D σ H => tb (wKp X.K c i ts Wout D) D σ H) := by
  refine ⟨fun pins s σ H D I h => ?_⟩
  have ok := I.ok
  have hfr : X.A.frames = some (X.env :: X.outer) := by rw [ok.frames, hs]
  have hl0 : Loc X.env.scope n := .inl hln
  refine wpAny_Try_except ?_
  let WW : WX := wKp X.K c i ts Wout D
  let look : Value → Shared → Prop := fun e t1 => wpAny (model X.prog X.w) X.A (noteFrame e X.env) (fun _ t2 => wpAny (model X.prog X.w) X.A (setFlight e none) (fun _ t3 => wpAny (model X.prog X.w) X.A (handleBy e X.env [.ExceptHandler (some (.Name x np)) (some n) (b₀ :: suite) pos']) (SP X pins D) X.xe t3) X.xe t2) X.xe t1
  have catch_ : Takes (X.tr (X.pn ++ pins) look) WW := by
    intro u t ⟨a, B, sI, pins', σ', H', cls, d, eu, J', nb, up, sky, na, os, ag, b, hb1, hyes, hno⟩
    subst eu
    have J : Inv X pins σ' H' sI := J'.ofTry ok
    have sk : Sky B (X.env :: X.outer) a (Zc cls d) X.env.locals t.heap := by rw [← hs]; exact sky
    show wpAny (model X.prog X.w) X.A (noteFrame (.ref a) X.env) _ _ _
    refine Sky.land Zc.steady hfr hf sk fun h3 fl3 up3 => ?_
    have J3 : Inv X pins σ' H' { t with heap := h3 } := J.landed nb fl3.1 (up.trans up3) os ag
    obtain ⟨oe3, vs3, he3, hz3, hd3⟩ := fl3.there
    have nfr : a ∉ frs (X.env :: X.outer) := fun hm => by
      obtain ⟨_, o', e', hnf⟩ := fl3.2.2.1.mem hm
      rw [he3] at e'; cases e'; exact hnf _ hd3
    have nfs : a ∉ frs X.stack := by rw [hs]; exact nfr
    have S3 := (J.keepX nb fl3.2.1 hs hf hx J3 he3 hz3 hd3 na nfs).toSuite a
    refine wpAny_handleBy_cons (codeAny_handlers_test ?_) (by intro q; cases q)
    have LT : PySem.W.Looks (model X.prog X.w) h3 (typeOf (.ref a)) cls := fun A Q E t k q => wpAny_typeOf_ref (k _ _ he3) (by rw [hz3.1]; exact q)
    have LM := PySem.W.exm_one (M := model X.prog X.w) (J3.kIn) LT hb1
    have test : ∀ {Q E : Value → Shared → Prop}, Q c { t with heap := h3 } → wpAny (model X.prog X.w) (X.A.mark (some (.ref a))) (eval (.Name x np) X.env) Q E { t with heap := h3 } := fun {Q E} q => by
      obtain ⟨hg, hdbg, hm | ⟨hm, hv, hnn⟩⟩ := hc
      · exact ld_glob (X := X.suite a (X.pn ++ pins)) S3 hg hm q hdbg
      · exact ld_blt (X := X.suite a (X.pn ++ pins)) S3 hg hm hv q hnn hdbg
    refine test (LM.here ?_)
    cases b with
    | true =>
      refine codeAny_handlers_suite_as (HandSPX.lands_againZ fl3 fun h4 fl4 up4 => ?_)
      have J4 : Inv X pins σ' H' { t with heap := h4 } := J.landed nb fl4.1 ((up.trans up3).trans up4) os ag
      obtain ⟨oe4, vs4, he4, hz4, hd4⟩ := fl4.there
      have S4 := (J.keepX nb fl4.2.1 hs hf hx J4 he4 hz4 hd4 na nfs).toSuite a
      refine store_ok (X := X.suite a (X.pn ++ pins)) (v := .ref a) S4 hN hi hl0 rfl (fun s5 S5 => ?_) (.inr hln)
      refine wpAny_mono ((hsu a cls d (X.pn ++ pins)).run [] s5 _ _ _ S5 (hyes rfl a na)) (fun f s6 hsp => ?_) (fun _ _ z => z.elim)
      have fin_ : ∀ {τ : St} {G : Hp} {Q : Shared → Prop}, Inv (X.suite a (X.pn ++ pins)) [] τ G s6 → (∀ s7, Inv X pins (τ.set i none) G s7 → Q s7) →
          wpAny (model X.prog X.w) X.A (do bindName X.env n .none; unbindBehindTheSuite X.env n pos') (fun _ s7 => Q s7) X.xe s6 := fun {τ G Q} S6 hq => gone_ok (S6.ofSuite ok) hN hi hln hq
      cases f with
      | next => exact let ⟨_, _, S6, q6⟩ := hsp; fin_ S6 fun s7 J7 => ⟨_, _, J7, q6⟩
      | brk => exact let ⟨_, _, S6, q6⟩ := hsp; fin_ S6 fun s7 J7 => ⟨_, _, J7, q6⟩
      | cont => exact let ⟨_, _, S6, q6⟩ := hsp; fin_ S6 fun s7 J7 => ⟨_, _, J7, q6⟩
      | ret u => exact let ⟨_, _, _, S6, r6, q6⟩ := hsp; fin_ S6 fun s7 J7 => ⟨_, _, _, J7, r6, q6⟩
    | false =>
      show wpAny _ X.A (handleBy (.ref a) X.env []) _ _ _
      refine wpAny_handleBy_nil ?_
      obtain ⟨k1, k2, k3, oe, vs, T, oT, ts', he, hz, hd, h1, hr⟩ := id fl3
      unfold PySem.passOn
      refine wpAny_bind (wpAny_field he hd h1 ?_)
      rw [if_neg (show ¬ ((Value.ref T == Value.none) = true) from by simp)]
      have fin : wpAny (model X.prog X.w) X.A (setFlight (.ref a) X.env.frame) (fun _ t4 => wpAny (model X.prog X.w) X.A (throw (.ref a) : Sem Flow) (SP X pins D) X.xe t4) X.xe { t with heap := h3 } := by
        rw [hf]
        refine HandSPX.setFlight_upZ fl3 fun h4 hh4 up4 => wpAny_throw (tk _ _ ?_)
        exact ⟨a, B, sI, pins, σ', H', cls, d, rfl, J, nb, (up.trans up3).trans up4, .inr (.inr (by rw [hs]; exact hh4)), na, os, ag, hno rfl⟩
      first
        | exact wpAny_bind (wpAny_pure (wpAny_bind fin))
        | exact wpAny_bind fin
  refine wpAny_mono ((hb WW (X.pn ++ pins) look catch_ PassesOwn.looking).run [] s σ H D (I.toTry _) h) (fun f s1 hsp => ?_) (fun e s1 he => he)
  cases f with
  | next => exact let ⟨σ', H', J', q⟩ := hsp; wpAny_execs_nil ⟨σ', H', J'.ofTry ok, q⟩
  | brk => exact let ⟨σ', H', J', q⟩ := hsp; ⟨σ', H', J'.ofTry ok, q⟩
  | cont => exact let ⟨σ', H', J', q⟩ := hsp; ⟨σ', H', J'.ofTry ok, q⟩
  | ret u => exact let ⟨v, σ', H', J', r, q⟩ := hsp; ⟨v, σ', H', J'.ofTry ok, r, q⟩
end
/-- str(C('m')) -/
theorem pe_strX {X : Cx} {C : Addr} {bmB : List Value} {B newId initId : String} {x m : Str} {j : Nat} {p p2 p3 p4 pos : Pos} (F : ExcBaseFacts B newId initId bmB) (q : PySem.W.excIn X.K C bmB newId = true) (gC : X.mg x = some (.ref C)) (kC : PySem.W.keepIn X.K (.ref C) = true)
    (hB : PySem.W.subIn X.K (.ref C) (.type "BaseException") = some true) (hS : PySem.W.findIn X.K (.ref C) "__str__" = some (some (.builtin "BaseException.__str__"))) (hu : X.A.units + 2 < cLine) (hm : X.mg "str" = none) (hg : Gl X x) (hgs : Gl X "str") (hdb : (x == ("__debug__" : Str)) = false) :
    PE X (.Call (.Name "str" p) [.Call (.Name x p2) [.Constant (.str m) j p3] [] p4] [] pos) (tC (.str m)) := by
  refine ⟨fun pins s σ H Q I h => ?_⟩
  have hv : bootBuiltins "str" = some (.type "str") := by decide +kernel
  refine wpAny_Call_Name_kw (ld_blt I hgs hm hv ?_ (by decide) (by decide))
  refine PyProof.Rows.callWith_type1 ?_ rfl rfl
  show wpAny _ _ (spliced ((false, eval (.Call (.Name x p2) [.Constant (.str m) j p3] [] p4) X.env) :: backTo pos (starEach [] X.env))) _ _ s
  refine Calls.spliced_cons (wpAny_Call_Name_kw (ld_glob I hg gC ?_ hdb))
  have ha : PA X [.Constant (.str m) j p3] (tCons (tC (.str m)) tNil) := pa_cons pe_str pa_nil
  refine PySem.W.callWith_K (h₀ := X.base) I.ok.mod.kin kC (thn (ha.run p4 pins s σ H (fun vs H1 => vs = [V.str m] ∧ H = H1) I ⟨rfl, rfl⟩) fun us s1 hh => ?_)
  obtain ⟨vs, H1, I1, r1, ev, eH⟩ := hh
  subst ev
  rw [← eH] at I1
  refine ⟨I1.kIn, ?_⟩
  cases r1 with
  | cons ru rn =>
    cases rn
    obtain ⟨tk, rfl⟩ := ru
    show wpAny _ _ (call (.ref C) [.str m tk]) _ _ _
    obtain ⟨bm, N, nm, qn, bs, hdct, sn, sub, ab, col, dd, k0, k1, k2, k3, k5, mN, hC, hN, hni, T⟩ := exc_obj I1.kIn q
    refine wpAny_call_exc_subT F T hC hN hni (fun h' e hm => ?_) (by show 1 ≤ sizeLine; rw [sizeLine_eq]; omega)
    refine Calls.spliced_nil ?_
    obtain ⟨t, he, _, ht⟩ := hm.there
    exact PySem.P.str_of_C_one hu ⟨I1.kIn.keeps hm.keeps, _, _, he, rfl, rfl, rfl⟩ ⟨_, _, ht, rfl, rfl⟩ hS hB ⟨.str m, H, I1.kept hm.keeps, ⟨_, rfl⟩, h⟩
/-- isinstance of a kept exception without fields -/
def rIsK (K : PySem.W.Frag) : List V → Hp → VK → Prop := fun xs H Q => ∃ (a C : Addr) (c : V) (cv : Value) (b : Bool), xs = [.ref a, c] ∧ H a = some (ML.ExS (.ref C) none a) ∧ ExcC K C ∧ (∀ u, RelV c u → u = cv) ∧ PySem.W.kitOne K (.ref C) cv = some b ∧ Q (.bl b) H
theorem call_isK {X : Cx} : CallR X (.builtin "isinstance") (rIsK X.K) := by
  intro pins s σ H xs us Q I r h
  obtain ⟨a, D, c, cv, b, rfl, ha, C, hcv, e, q⟩ := h
  cases r with
  | cons rx rr =>
    cases rr with
    | cons rt rr =>
      cases rr
      cases rx
      have ec := hcv _ rt
      subst ec
      obtain ⟨⟨oe, vs, hget, hz, hv⟩, _, _⟩ := I.hok a _ ha
      have J : PySem.W.InstAt s.heap a oe D none := by
        obtain ⟨oc, od, oda, osl⟩ := oe
        obtain ⟨h1, h2⟩ := hz
        dsimp only at h1 h2 hv
        subst h1 h2 hv
        exact ⟨hget, rfl, rfl, trivial⟩
      exact PySem.W.kia_one (PySem.W.handS_kitx_exc C.hg C.hk C.hs C.hd C.ha C.hn C.ht C.hm) I.kIn J e (fun z => nomatch z) fun tk => ⟨.bl b, H, I.kept (t' := tk) fun _ _ z => z, rfl, q⟩
end L2
namespace ML
open PySem PySem.Spec L2
open PyProof.Rows hiding St
/-- which own exceptions are of which class -/
def subE (c d : Str) : Bool := decide (c = d) || decide (d ∈ (["SpotError", "ValueError", "Exception", "BaseException"] : List Str))
def excCB (K : PySem.W.Frag) (D : Addr) : Bool := decide (PySem.W.findIn K (.ref D) "__getattribute__" = some (some (.builtin "BaseException.__getattribute__"))) && (decide (PySem.W.findIn K (.ref D) "__getattr__" = some none) && (decide (PySem.W.subIn K (.ref D) (.type "BaseException") = some true) && (PySem.W.hasDictIn K D &&
  (decide (PySem.W.findIn K (.ref D) "__class__" = some (some (.builtin "object.__class__"))) && (decide (PySem.W.specialIn K (.builtin "object.__class__") "__get__" = some (some (.builtin "getset_descriptor.__get__"))) && (decide (PySem.W.takesIn K (.builtin "object.__class__") = some true) && decide (PySem.W.mroIn K D (.type "object") = some true)))))))
theorem excCB_ok {K : PySem.W.Frag} {D : Addr} (h : excCB K D = true) : ExcC K D := by
  simp only [excCB, Bool.and_eq_true, decide_eq_true_eq] at h
  obtain ⟨h1, h2, h3, h4, h5, h6, h7, h8⟩ := h
  exact ⟨h1, h2, h3, h4, h5, h6, h7, h8⟩
def excB1 (K : PySem.W.Frag) (ns : List Str) (C : Str) : Bool := excCB K (He.ga K C) && (decide (PySem.W.kitOne K (.ref (He.ga K C)) (.type "ValueError") = some true) && (decide (PySem.W.findIn K (.ref (He.ga K C)) "__str__" = some (some (.builtin "BaseException.__str__"))) && ns.all fun y => decide (PySem.W.kitOne K (.ref (He.ga K C)) (.ref (He.ga K y)) = some (subE C y)) && decide (PySem.W.exmOne K (.ref (He.ga K C)) (.ref (He.ga K y)) = some (subE C y))))
def excsB (ns : List Str) (K : PySem.W.Frag) : Bool := ns.all (excB1 K ns)
/-- what the own exception classes tell -/
structure ExcT (K : PySem.W.Frag) (ns : List Str) : Prop where
  c : ∀ C ∈ ns, ExcC K (He.ga K C)
  v : ∀ C ∈ ns, PySem.W.kitOne K (.ref (He.ga K C)) (.type "ValueError") = some true
  k : ∀ C ∈ ns, ∀ y ∈ ns, PySem.W.kitOne K (.ref (He.ga K C)) (.ref (He.ga K y)) = some (subE C y)
  s : ∀ C ∈ ns, PySem.W.findIn K (.ref (He.ga K C)) "__str__" = some (some (.builtin "BaseException.__str__"))
  m : ∀ C ∈ ns, ∀ y ∈ ns, PySem.W.exmOne K (.ref (He.ga K C)) (.ref (He.ga K y)) = some (subE C y)
theorem excsB_ok {K : PySem.W.Frag} {ns : List Str} (h : excsB ns K = true) : ExcT K ns := by
  have z : ∀ C ∈ ns, excCB K (He.ga K C) = true ∧ PySem.W.kitOne K (.ref (He.ga K C)) (.type "ValueError") = some true ∧ PySem.W.findIn K (.ref (He.ga K C)) "__str__" = some (some (.builtin "BaseException.__str__")) ∧ ∀ y ∈ ns, PySem.W.kitOne K (.ref (He.ga K C)) (.ref (He.ga K y)) = some (subE C y) ∧ PySem.W.exmOne K (.ref (He.ga K C)) (.ref (He.ga K y)) = some (subE C y) := fun C hC => by
    have q := List.all_eq_true.mp h C hC
    simp only [excB1, Bool.and_eq_true, decide_eq_true_eq] at q
    refine ⟨q.1, q.2.1, q.2.2.1, fun y hy => ?_⟩
    have := List.all_eq_true.mp q.2.2.2 y hy
    simpa only [Bool.and_eq_true, decide_eq_true_eq] using this
  exact ⟨fun C hC => excCB_ok (z C hC).1, fun C hC => (z C hC).2.1, fun C hC y hy => ((z C hC).2.2.2 y hy).1, fun C hC => (z C hC).2.2.1, fun C hC y hy => ((z C hC).2.2.2 y hy).2⟩
/-- an exception that is made with a text and raised -/
def mRaise (C : Str) : MS := fun D σ S => D.ex ⟨C, none⟩ σ S
structure ExcM (K : PySem.W.Frag) (C : Str) : Prop where
  q : PySem.W.excIn K (He.ga K C) He.veBase "ValueError.__new__" = true
  k : PySem.W.keepIn K (.ref (He.ga K C)) = true
  s : PySem.W.subIn K (.ref (He.ga K C)) (.type "BaseException") = some true
  t : PySem.W.typeIn K (.ref (He.ga K C)) = some (.type "type")
section
variable {X : Cx} {W : WX} {a : Expr} {pos : Pos} {m : ME}
theorem sraise {C : Str} {x : Str} {j : Nat} {p p2 pos' : Pos} (hc : X.calm = true) (tk : Takes X W) (M : ExcM X.K C) (gC : X.mg C = some (.ref (He.ga X.K C))) (hg : Gl X C := by rfl) (hdb : (C == ("__debug__" : Str)) = false := by decide) :
    PS X (.Raise (some (.Call (.Name C p) [.Constant (.str x) j p2] [] pos)) none pos') (upS X.K W (mRaise C)) :=
  L2.PS.to (ps_raise hc tk (pmk_own PySem.F.excBase_ValueError M.q gC M.k (raises_own M.s M.t) hg hdb)) fun D σ H ⟨m, S, Dm, h1, h2, h3, h4⟩ => h4.ex ⟨C, none⟩ m S _ none σ H h3 Ext.refl h2 h1 ⟨rfl, rfl⟩
theorem estrX {ns : List Str} {C : Str} {x : Str} {j : Nat} {p p2 p3 p4 : Pos} (T : ExcT X.K ns) (hin : C ∈ ns) (hu : X.A.units + 65 < cLine) (M : ExcM X.K C) (gC : X.mg C = some (.ref (He.ga X.K C))) (hm : X.mg "str" = none) (hg : Gl X C := by rfl) (hgs : Gl X "str" := by rfl) (hdb : (C == ("__debug__" : Str)) = false := by decide) :
    PE X (.Call (.Name "str" p) [.Call (.Name C p2) [.Constant (.str x) j p3] [] p4] [] pos) (upE X.K W (mC (.str x))) :=
  (pe_strX PySem.F.excBase_ValueError M.q gC M.k M.s (T.s C hin) (by omega) hm hg hgs hdb).to (mC_to fun _ _ _ => .str x)
/-- try .. except C as n: what is caught is an object of the store behind it -/
def endM (D : MEnds) (i : Nat) : MEnds := { nx := fun σ S => D.nx (σ.set i none) S, rt := D.rt, bk := fun σ S => D.bk (σ.set i none) S, ct := fun σ S => D.ct (σ.set i none) S }
def mTry (ns : List Str) (c : Str) (i : Nat) (mb ms : MS) : MS := fun D σ S => mb { D with ex := fun x σ' S' => x.C ∈ ns ∧ (subE x.C c = true → ∀ p, S' p = none → ms (endM D i) (σ'.set i (some (.ref p))) (put S' p (.exc x.C x.fs))) ∧ (subE x.C c = false → D.ex x σ' S') } σ S
theorem stry {ns : List Str} {x n : Str} {i : Nat} {body suite : List Stmt} {b₀ : Stmt} {np pos' : Pos} {mb ms : MS} (T : ExcT X.K ns) (hm : X.mg x = some (.ref (He.ga X.K x))) (hin : x ∈ ns) (tk : Takes X W) (hN : X.N.Nodup)
    (hb : ∀ (V : WX) (pl : List (Addr × Obj)) (ye : Value → Shared → Prop), Takes (X.tr pl ye) V → PassesOwn (model X.prog X.w) X.A X.env ye → PSs (X.tr pl ye) body (upS X.K V mb))
    (hsu : ∀ (a : Addr) (pl : List (Addr × Obj)), PSs (X.suite a pl) (b₀ :: suite) (upS X.K (fun _ _ _ _ => False) ms))
    (hi : X.N[i]? = some n := by rfl) (hln : X.env.kindOf n = some .local := by rfl) (hs : X.stack = X.env :: X.outer := by rfl) (hf : X.env.frame = some X.env.locals := by rfl) (hx : X.ex = [] := by rfl) (hg : Gl X x := by rfl) (hdb : (x == ("__debug__" : Str)) = false := by decide) :
    PS X (.Try body [.ExceptHandler (some (.Name x np)) (some n) (b₀ :: suite) pos'] [] [] pos) (upS X.K W (mTry ns x i mb ms)) := by
  refine L2.PS.to (ps_try_kp (c := .ref (He.ga X.K x)) (tb := fun V => upS X.K V mb) (ts := fun _ _ _ => upS X.K (fun _ _ _ _ => False) ms) (Wout := W) hs hf hx hN hi hln ⟨hg, hdb, .inl hm⟩ tk hb fun a _ _ pl => hsu a pl) ?_
  intro D σ H ⟨m, S, Dm, h1, h2, h3, h4⟩
  refine ⟨m, S, _, h1, h2, h3, ⟨h4.nx, h4.rt, h4.bk, h4.ct, ?_⟩⟩
  intro e m1 S1 cls d σ1 H1 q e1 s1 r1 rx
  obtain ⟨hC, q1, q2⟩ := q
  obtain ⟨ec, rd⟩ := rx
  subst ec
  refine ⟨subE e.C x, T.m _ hC _ hin, fun hy a ha => ?_, fun hy => h4.ex e m1 S1 _ d σ1 H1 (q2 hy) e1 s1 r1 ⟨rfl, rd⟩⟩
  have Sa := s1.fresh ha
  have X1 := Ext.newS s1 (u := ExS (.ref (He.ga X.K e.C)) d a) (o := .exc e.C e.fs) ha
  have e2 := e1.trans X1
  have en : RefN X.K (upd H1 a (ExS (.ref (He.ga X.K e.C)) d a)) (put S1 a (.exc e.C e.fs)) (endM Dm i).nx (endK D i).nx := fun m2 S2 σ2 H2 q e3 s3 r3 => h4.nx _ S2 _ H2 q (e2.trans e3) s3 (r3.unset i none)
  refine ⟨m1.set i (some (.ref a)), put S1 a (.exc e.C e.fs), endM Dm i, (r1.ext X1).set (.ref a) i, s1.newS ha ⟨d, upd_same, RX.ext X1 ⟨rfl, rd⟩⟩, q1 hy a Sa, ⟨en, h4.rt.ext e2, fun m2 S2 σ2 H2 q e3 s3 r3 => h4.bk _ S2 _ H2 q (e2.trans e3) s3 (r3.unset i none), fun m2 S2 σ2 H2 q e3 s3 r3 => h4.ct _ S2 _ H2 q (e2.trans e3) s3 (r3.unset i none), fun _ _ _ _ _ _ _ z => z.elim⟩⟩
/-- isinstance of a kept exception -/
def excOf : Option MO → Option Str
  | some (.exc C none) => some C
  | _ => none
def excD (S : Sto) : D → Option Str
  | .ref p => excOf (S p)
  | _ => none
theorem excD_at {S : Sto} {d : D} {C : Str} (h : excD S d = some C) : ∃ p, d = .ref p ∧ S p = some (.exc C none) := by
  cases d with
  | ref p =>
    refine ⟨p, rfl, ?_⟩
    have h' : excOf (S p) = some C := h
    cases e : S p with
    | none => rw [e] at h'; cases h'
    | some o =>
      rw [e] at h'
      cases o with
      | exc C' fs => cases fs with
        | none => cases h'; rfl
        | some fs => cases h'
      | _ => cases h'
  | _ => cases h
def mIsE (ns : List Str) (x : Str) (m : ME) : ME := fun σ S Q E => m σ S (fun d S1 => match excD S1 d with
  | some C => C ∈ ns ∧ Q (.bl (subE C x)) S1
  | none => False) E
theorem eise {ns : List Str} {x : Str} {p px : Pos} (T : ExcT X.K ns) (hm : X.mg "isinstance" = none) (hx : X.mg x = some (.ref (He.ga X.K x))) (hin : x ∈ ns) (ha : PE X a (upE X.K W m)) (hg : Gl X "isinstance" := by rfl) (hgu : Gl X x := by rfl) (hdb : (x == ("__debug__" : Str)) = false := by decide)
    (hs : starEach (a :: [.Name x px]) X.env = (false, eval a X.env) :: starEach [.Name x px] X.env := by rfl) (hs2 : starEach (.Name x px :: []) X.env = (false, eval (.Name x px) X.env) :: starEach [] X.env := by rfl) (hpl : (backTo pos (starEach [.Name x px] X.env)).any (·.1) = false := by rfl) :
    PE X (.Call (.Name "isinstance" p) [a, .Name x px] [] pos) (upE X.K W (mIsE ns x m)) :=
  (pe_callB call_isK hg hm (by decide +kernel) (pa_cons ha (pa_cons (pe_glob (v := .ref (He.ga X.K x)) hgu hx rfl hdb) pa_nil hs2) hs) (by decide) (by decide) hs hpl).to fun σ H Q ⟨m, S, Qm, Em, h1, h2, h3, h4, h5⟩ =>
    ⟨m, S, _, Em, h1, h2, h3, fun d S1 v H1 q e s r => by
      dsimp only at q
      cases hd : excD S1 d with
      | none => rw [hd] at q; exact q.elim
      | some C =>
      rw [hd] at q
      obtain ⟨hC, q⟩ := q
      obtain ⟨p, rfl, hp⟩ := excD_at hd
      cases r
      obtain ⟨dd, e1, _, e2⟩ := s p _ hp
      have e2 : dd = none := e2
      subst e2
      exact ⟨p, He.ga X.K C, .ref (He.ga X.K x), .ref (He.ga X.K x), subE C x, rfl, e1, T.c C hC, fun _ z => z, T.k C hC x hin, h4 _ S1 _ H1 q e s (.bl _)⟩, h5⟩
/-- .. by ValueError -/
def mIsV (ns : List Str) (m : ME) : ME := fun σ S Q E => m σ S (fun d S1 => match excD S1 d with
  | some C => C ∈ ns ∧ Q (.bl true) S1
  | none => False) E
theorem eisv {ns : List Str} {p px : Pos} (T : ExcT X.K ns) (hm : X.mg "isinstance" = none) (hx : X.mg "ValueError" = none) (ha : PE X a (upE X.K W m)) (hg : Gl X "isinstance" := by rfl) (hgu : Gl X "ValueError" := by rfl)
    (hs : starEach (a :: [.Name "ValueError" px]) X.env = (false, eval a X.env) :: starEach [.Name "ValueError" px] X.env := by rfl) (hs2 : starEach (.Name "ValueError" px :: []) X.env = (false, eval (.Name "ValueError" px) X.env) :: starEach [] X.env := by rfl) (hpl : (backTo pos (starEach [.Name "ValueError" px] X.env)).any (·.1) = false := by rfl) :
    PE X (.Call (.Name "isinstance" p) [a, .Name "ValueError" px] [] pos) (upE X.K W (mIsV ns m)) :=
  (pe_callB call_isK hg hm (by decide +kernel) (pa_cons ha (pa_cons (pe_bltn (v := .ty "ValueError") hgu hx (by decide +kernel) rfl (by decide) (by decide)) pa_nil hs2) hs) (by decide) (by decide) hs hpl).to fun σ H Q ⟨m, S, Qm, Em, h1, h2, h3, h4, h5⟩ =>
    ⟨m, S, _, Em, h1, h2, h3, fun d S1 v H1 q e s r => by
      dsimp only at q
      cases hd : excD S1 d with
      | none => rw [hd] at q; exact q.elim
      | some C =>
      rw [hd] at q
      obtain ⟨hC, q⟩ := q
      obtain ⟨p, rfl, hp⟩ := excD_at hd
      cases r
      obtain ⟨dd, e1, _, e2⟩ := s p _ hp
      have e2 : dd = none := e2
      subst e2
      exact ⟨p, He.ga X.K C, .ty "ValueError", .type "ValueError", true, rfl, e1, T.c C hC, fun _ z => z, T.v C hC, h4 _ S1 _ H1 q e s (.bl _)⟩, h5⟩
/-- a + b of lists, a list of the store -/
def rAddS : R2m := fun d e S Q => match ownOf S d, ownOf S e with
  | some xs, some ys => xs.length + ys.length ≤ sizeLine ∧ ∀ p, S p = none → Q (.ref p) (put S p (.lst (xs ++ ys)))
  | _, _ => False
theorem eaddS {b : Expr} {ma mb : ME} (ha : PE X a (upE X.K W ma)) (hb : PE X b (upE X.K W mb)) : PE X (.BinOp a .Add b pos) (upE X.K W (mOp rAddS ma mb)) := by
  refine eop op_addAll (fun H S x y d e Qm Q s rx ry h k => ?_) ha hb
  unfold rAddS at h
  split at h
  · next xs ys e1 e2 =>
    obtain ⟨hz, q⟩ := h
    obtain ⟨p, vs, rfl, h1, r1⟩ := own_sq s rx e1
    obtain ⟨p2, ws, rfl, h2, r2⟩ := own_sq s ry e2
    have l1 := r1.length
    have l2 := r2.length
    refine .inr (.inr (.inr ⟨p, p2, vs, ws, rfl, rfl, h1, h2, by omega, fun q' hq => ?_⟩))
    exact k _ _ _ _ (q q' (s.fresh hq)) (Ext.newS s hq) (s.newS hq ⟨_, upd_same, (r1.append r2).ext (Ext.newS s hq)⟩) (.ref q')
  · exact h.elim
/-- how often a truth stands in a list of truths -/
def eqkb (k : Bool) (v : Value) : Bool := match v with
  | .bool n => n == k
  | _ => false
theorem bls_of {us : List Value} : ∀ {bs : List Bool}, Vals (bs.map V.bl) us → us = bs.map Value.bool
  | [], h => by cases h; rfl
  | b :: bs, h => by
    cases h with
    | cons r rs => rw [bls_of rs]; cases r; rfl
def rCntB (K : PySem.W.Frag) : V → List V → Hp → VK → Prop := fun x xs H Q => ∃ (p : Addr) (bs : List Bool) (k : Bool), x = .ref p ∧ xs = [.bl k] ∧ SqL K H p (bs.map V.bl) ∧ Q (.int (bs.count k : Nat)) H
theorem mt_countB : MtR X "list.count" (rCntB X.K) := by
  intro pins s σ H x xs v us Q I rx rxs h
  obtain ⟨p, bs, k, rfl, rfl, hs, q⟩ := h
  cases rx
  obtain ⟨u, rfl, ru⟩ := rxs.one
  cases ru
  obtain ⟨its, rv, ⟨⟨cls, dd, data, sl⟩, n, ho, hc, hdn, hd⟩, hlen⟩ := I.list hs
  simp only at hc hd
  subst hc hd
  have hi := bls_of rv
  subst hi
  refine call_meets PySem.F.slot_list_count ⟨_, ho, rfl⟩ PySem.F.entry_list_count (PySem.F.args_list_count_2 _ _)
    (SeqAt.list_countAt p _ n dd sl (.bool k) (eqkb k)) ⟨ho, fun y hy => ?_, ?_⟩
  · have hy' : y ∈ bs.map Value.bool := by simpa using hy
    obtain ⟨c, _, rfl⟩ := List.mem_map.mp hy'
    exact SeqAt.EqAt.bool_bool c k
  have ec : ∀ bs : List Bool, (bs.map Value.bool).countP (eqkb k) = bs.count k := fun bs => by
    induction bs with
    | nil => rfl
    | cons b bs ih => rw [List.map_cons, List.countP_cons, List.count_cons, ih]; rfl
  refine ⟨.int (bs.count k : Nat), H, I.tok _, ⟨s.toks, ?_⟩, q⟩
  show Value.int ((((bs.map Value.bool).toArray).toList.countP (eqkb k) : Nat) : Int) s.toks = Value.int ((bs.count k : Nat) : Int) s.toks
  rw [← ec bs]
def mtCount : RMm := fun d ds S Q => match ds with
  | [.bl k] => match (lstOf S d).bind blsOf with
    | some bs => Q (.int (bs.count k : Nat)) S
    | none => False
  | _ => False
theorem ml_count : MtL X.K (rCntB X.K) mtCount := fun H S x vs d ds Qm Q s rx rs h k => by
  unfold mtCount at h
  split at h
  · next b =>
    obtain ⟨w, rfl, rw1⟩ := rds1 rs
    cases rw1
    split at h
    · next bs e =>
      cases e1 : lstOf S d with
      | none => rw [e1] at e; cases e
      | some xs =>
        rw [e1] at e
        have e2 := blsOf_eq e
        subst e2
        obtain ⟨a, us, rfl, hq, rq⟩ := lst_sq s rx e1
        have := RDs.bls rq
        subst this
        exact ⟨a, bs, b, rfl, rfl, hq, k _ S _ H h Ext.refl s (.int _)⟩
    · exact h.elim
  · exact h.elim
end
/-! ### how these open -/
theorem l_mRaise {C : Str} {D : MEnds} {σ : MSt} {S : Sto} : mRaise C D σ S = D.ex ⟨C, none⟩ σ S := Eq.trans rfl rfl
def TryP (x : MX) (σ : MSt) (S : Sto) (ns : List Str) (c : Str) (i : Nat) [ms : Hold MS] [De : Hold MEnds] : Prop := x.C ∈ ns ∧ (subE x.C c = true → ∀ p, S p = none → ms.v (endM De.v i) (σ.set i (some (.ref p))) (put S p (.exc x.C x.fs))) ∧ (subE x.C c = false → De.v.ex x σ S)
theorem l_mTry {ns : List Str} {c : Str} {i : Nat} {mb ms : MS} {D : MEnds} {σ : MSt} {S : Sto} : mTry ns c i mb ms D σ S = mb { D with ex := fun x σ' S' => @TryP x σ' S' ns c i ⟨ms⟩ ⟨D⟩ } σ S := Eq.trans rfl rfl
theorem TryP_at {C c : Str} {fs : Option (List (Str × D))} {σ : MSt} {S : Sto} {ns : List Str} {i : Nat} {ms : Hold MS} {De : Hold MEnds} (h1 : C ∈ ns) (h2 : subE C c = true) (h : ∀ p, S p = none → ms.v (endM De.v i) (σ.set i (some (.ref p))) (put S p (.exc C fs))) : @TryP ⟨C, fs⟩ σ S ns c i ms De :=
  ⟨h1, fun _ => h, fun z => by rw [h2] at z; cases z⟩
theorem l_mIsE {ns : List Str} {x : Str} {m : ME} {σ : MSt} {S : Sto} {Q : MQ} {E : MXQ} : mIsE ns x m σ S Q E = m σ S (fun d S1 => optP (excD S1 d) fun C => C ∈ ns ∧ Q (.bl (subE C x)) S1) E := by
  unfold mIsE optP OptP
  apply congrArg (fun f => m σ S f E)
  funext d S1
  cases excD S1 d <;> rfl
theorem l_mIsV {ns : List Str} {m : ME} {σ : MSt} {S : Sto} {Q : MQ} {E : MXQ} : mIsV ns m σ S Q E = m σ S (fun d S1 => optP (excD S1 d) fun C => C ∈ ns ∧ Q (.bl true) S1) E := by
  unfold mIsV optP OptP
  apply congrArg (fun f => m σ S f E)
  funext d S1
  cases excD S1 d <;> rfl
theorem excD_ref {S : Sto} {p : Addr} : excD S (.ref p) = excOf (S p) := Eq.trans rfl rfl
theorem excOf_exc {C : Str} : excOf (some (.exc C none)) = some C := Eq.trans rfl rfl
theorem l_rAddS_rl {p : Addr} {ys : List D} {S : Sto} {Q : MQ} : rAddS (.ref p) (.lst ys) S Q = optP (olP (S p)) fun xs => xs.length + ys.length ≤ sizeLine ∧ ∀ q, S q = none → Q (.ref q) (put S q (.lst (xs ++ ys))) := by
  simp only [rAddS, ownOf_ref', ownOf_lst, optP, OptP]
  cases olP (S p) <;> rfl
theorem l_rAddS_ll {xs ys : List D} {S : Sto} {Q : MQ} : rAddS (.lst xs) (.lst ys) S Q = (xs.length + ys.length ≤ sizeLine ∧ ∀ q, S q = none → Q (.ref q) (put S q (.lst (xs ++ ys)))) := Eq.trans rfl rfl
theorem l_mtCount {d : D} {k : Bool} {S : Sto} {Q : MQ} : mtCount d [.bl k] S Q = optP ((lstOf S d).bind blsOf) fun bs => Q (.int (bs.count k : Nat)) S := by
  simp only [mtCount, optP, OptP]
  cases (lstOf S d).bind blsOf <;> rfl
theorem blsOf_nil : blsOf [] = some [] := Eq.trans rfl rfl
theorem blsOf_cons {b : Bool} {r : List D} : blsOf (.bl b :: r) = (blsOf r).map (b :: ·) := Eq.trans rfl rfl
theorem endM_nx {De : MEnds} {i : Nat} {σ : MSt} {S : Sto} : (endM De i).nx σ S = De.nx (σ.set i none) S := Eq.trans rfl rfl
theorem endM_rt {De : MEnds} {i : Nat} : (endM De i).rt = De.rt := Eq.trans rfl rfl
theorem exn_SpotError : (("SpotError" : Str) ∈ (["SpotError", "NoFraction", "NoWall", "TooMany", "Crossing", "Absent", "NoText", "NoRow"] : List Str)) = True := eq_true (by decide)
theorem sub_SpotError_SpotError : subE "SpotError" "SpotError" = true := by decide
theorem sub_SpotError_NoFraction : subE "SpotError" "NoFraction" = false := by decide
theorem sub_SpotError_NoWall : subE "SpotError" "NoWall" = false := by decide
theorem sub_SpotError_TooMany : subE "SpotError" "TooMany" = false := by decide
theorem sub_SpotError_Crossing : subE "SpotError" "Crossing" = false := by decide
theorem sub_SpotError_Absent : subE "SpotError" "Absent" = false := by decide
theorem sub_SpotError_NoText : subE "SpotError" "NoText" = false := by decide
theorem sub_SpotError_NoRow : subE "SpotError" "NoRow" = false := by decide
theorem exn_NoFraction : (("NoFraction" : Str) ∈ (["SpotError", "NoFraction", "NoWall", "TooMany", "Crossing", "Absent", "NoText", "NoRow"] : List Str)) = True := eq_true (by decide)
theorem sub_NoFraction_SpotError : subE "NoFraction" "SpotError" = true := by decide
theorem sub_NoFraction_NoFraction : subE "NoFraction" "NoFraction" = true := by decide
theorem sub_NoFraction_NoWall : subE "NoFraction" "NoWall" = false := by decide
theorem sub_NoFraction_TooMany : subE "NoFraction" "TooMany" = false := by decide
theorem sub_NoFraction_Crossing : subE "NoFraction" "Crossing" = false := by decide
theorem sub_NoFraction_Absent : subE "NoFraction" "Absent" = false := by decide
theorem sub_NoFraction_NoText : subE "NoFraction" "NoText" = false := by decide
theorem sub_NoFraction_NoRow : subE "NoFraction" "NoRow" = false := by decide
theorem exn_NoWall : (("NoWall" : Str) ∈ (["SpotError", "NoFraction", "NoWall", "TooMany", "Crossing", "Absent", "NoText", "NoRow"] : List Str)) = True := eq_true (by decide)
theorem sub_NoWall_SpotError : subE "NoWall" "SpotError" = true := by decide
theorem sub_NoWall_NoFraction : subE "NoWall" "NoFraction" = false := by decide
theorem sub_NoWall_NoWall : subE "NoWall" "NoWall" = true := by decide
theorem sub_NoWall_TooMany : subE "NoWall" "TooMany" = false := by decide
theorem sub_NoWall_Crossing : subE "NoWall" "Crossing" = false := by decide
theorem sub_NoWall_Absent : subE "NoWall" "Absent" = false := by decide
theorem sub_NoWall_NoText : subE "NoWall" "NoText" = false := by decide
theorem sub_NoWall_NoRow : subE "NoWall" "NoRow" = false := by decide
theorem exn_TooMany : (("TooMany" : Str) ∈ (["SpotError", "NoFraction", "NoWall", "TooMany", "Crossing", "Absent", "NoText", "NoRow"] : List Str)) = True := eq_true (by decide)
theorem sub_TooMany_SpotError : subE "TooMany" "SpotError" = true := by decide
theorem sub_TooMany_NoFraction : subE "TooMany" "NoFraction" = false := by decide
theorem sub_TooMany_NoWall : subE "TooMany" "NoWall" = false := by decide
theorem sub_TooMany_TooMany : subE "TooMany" "TooMany" = true := by decide
theorem sub_TooMany_Crossing : subE "TooMany" "Crossing" = false := by decide
theorem sub_TooMany_Absent : subE "TooMany" "Absent" = false := by decide
theorem sub_TooMany_NoText : subE "TooMany" "NoText" = false := by decide
theorem sub_TooMany_NoRow : subE "TooMany" "NoRow" = false := by decide
theorem exn_Crossing : (("Crossing" : Str) ∈ (["SpotError", "NoFraction", "NoWall", "TooMany", "Crossing", "Absent", "NoText", "NoRow"] : List Str)) = True := eq_true (by decide)
theorem sub_Crossing_SpotError : subE "Crossing" "SpotError" = true := by decide
theorem sub_Crossing_NoFraction : subE "Crossing" "NoFraction" = false := by decide
theorem sub_Crossing_NoWall : subE "Crossing" "NoWall" = false := by decide
theorem sub_Crossing_TooMany : subE "Crossing" "TooMany" = false := by decide
theorem sub_Crossing_Crossing : subE "Crossing" "Crossing" = true := by decide
theorem sub_Crossing_Absent : subE "Crossing" "Absent" = false := by decide
theorem sub_Crossing_NoText : subE "Crossing" "NoText" = false := by decide
theorem sub_Crossing_NoRow : subE "Crossing" "NoRow" = false := by decide
theorem exn_Absent : (("Absent" : Str) ∈ (["SpotError", "NoFraction", "NoWall", "TooMany", "Crossing", "Absent", "NoText", "NoRow"] : List Str)) = True := eq_true (by decide)
theorem sub_Absent_SpotError : subE "Absent" "SpotError" = true := by decide
theorem sub_Absent_NoFraction : subE "Absent" "NoFraction" = false := by decide
theorem sub_Absent_NoWall : subE "Absent" "NoWall" = false := by decide
theorem sub_Absent_TooMany : subE "Absent" "TooMany" = false := by decide
theorem sub_Absent_Crossing : subE "Absent" "Crossing" = false := by decide
theorem sub_Absent_Absent : subE "Absent" "Absent" = true := by decide
theorem sub_Absent_NoText : subE "Absent" "NoText" = false := by decide
theorem sub_Absent_NoRow : subE "Absent" "NoRow" = false := by decide
theorem exn_NoText : (("NoText" : Str) ∈ (["SpotError", "NoFraction", "NoWall", "TooMany", "Crossing", "Absent", "NoText", "NoRow"] : List Str)) = True := eq_true (by decide)
theorem sub_NoText_SpotError : subE "NoText" "SpotError" = true := by decide
theorem sub_NoText_NoFraction : subE "NoText" "NoFraction" = false := by decide
theorem sub_NoText_NoWall : subE "NoText" "NoWall" = false := by decide
theorem sub_NoText_TooMany : subE "NoText" "TooMany" = false := by decide
theorem sub_NoText_Crossing : subE "NoText" "Crossing" = false := by decide
theorem sub_NoText_Absent : subE "NoText" "Absent" = false := by decide
theorem sub_NoText_NoText : subE "NoText" "NoText" = true := by decide
theorem sub_NoText_NoRow : subE "NoText" "NoRow" = false := by decide
theorem exn_NoRow : (("NoRow" : Str) ∈ (["SpotError", "NoFraction", "NoWall", "TooMany", "Crossing", "Absent", "NoText", "NoRow"] : List Str)) = True := eq_true (by decide)
theorem sub_NoRow_SpotError : subE "NoRow" "SpotError" = true := by decide
theorem sub_NoRow_NoFraction : subE "NoRow" "NoFraction" = false := by decide
theorem sub_NoRow_NoWall : subE "NoRow" "NoWall" = false := by decide
theorem sub_NoRow_TooMany : subE "NoRow" "TooMany" = false := by decide
theorem sub_NoRow_Crossing : subE "NoRow" "Crossing" = false := by decide
theorem sub_NoRow_Absent : subE "NoRow" "Absent" = false := by decide
theorem sub_NoRow_NoText : subE "NoRow" "NoText" = false := by decide
theorem sub_NoRow_NoRow : subE "NoRow" "NoRow" = true := by decide
theorem excM_ok {K : PySem.W.Frag} {C : Str} (c : (He.Fa.exc C).ok K = true) : ExcM K C := let ⟨a, b, d, e⟩ := He.exc_ok c; ⟨a, b, d, e⟩
/-! ### the head's facts, with tuples of numbers and exception classes -/
def obsX (n : Nat) (fa : List He.Fa) (fn : List He.DefD) (ks : List String) (ts : List (Str × List Int)) (ns : List Str) (g : Addr → Option Obj) : AlK × Bool := (obsKG n fa fn ks g, tupsB ts (He.frG g (He.asD g n)) && excsB ns (He.frG g (He.asD g n)))
def hookX (n : Nat) (fa : List He.Fa) (fn : List He.DefD) (ks : List String) (ts : List (Str × List Int)) (ns : List Str) : PySem.W.Hook where
  α := AlK × Bool
  obs := fun s => obsX n fa fn ks ts ns s.heap.get?
  val := fun _ => ((He.valD fn, true), true)
  says := fun _ h => ∃ K : PySem.W.Frag, K.In h ∧ SaysK fa fn ks K ∧ (tupsB ts K && excsB ns K) = true
  of := fun _ _ e => ⟨_, He.frG_in, ⟨congrArg (fun z : AlK × Bool => z.1.1) e, congrArg (fun z : AlK × Bool => z.1.2) e⟩, congrArg (fun z : AlK × Bool => z.2) e⟩
  keeps := fun _ _ _ ⟨K, hK, c⟩ k => ⟨K, PySem.W.Frag.In.keeps hK k, c⟩
theorem obsX_eq {n : Nat} {fa : List He.Fa} {fn : List He.DefD} {ks : List String} {ts : List (Str × List Int)} {ns : List Str} {g : Addr → Option Obj} {s : Shared} (h : ∀ a, g a = s.heap.get? a) : obsX n fa fn ks ts ns g = (hookX n fa fn ks ts ns).obs s := by
  have e : g = s.heap.get? := funext h
  subst e; rfl
end ML

set_option maxRecDepth 100000
/-! # list(range(n)), dicts whose keys are tuples of numbers -/
namespace ML
open PySem PySem.Spec L2
open PyProof.Rows hiding St
section
variable {X : Cx} {W : WX} {e o : Expr} {es : List Expr} {pos : Pos} {m mo mv : ME} {mas : MA}
theorem rgV_rds {K : PySem.W.Frag} {H : Hp} {S : Sto} (n : Int) : RDs K H S (rgV 0 n) (rngD 0 n.toNat) := by
  unfold rgV rngD
  rw [Int.sub_zero]
  induction (List.range n.toNat) with
  | nil => exact .nil
  | cons a r ih => exact .cons (.int _) ih
/-- list(range(n)), a list that stays -/
def mListR (m : ME) : ME := fun σ S Q E => m σ S (fun d S1 => match d with
  | .int n => (0 ≤ n ∧ n ≤ 16777216) ∧ Q (.lst (rngD 0 n.toNat)) S1
  | _ => False) E
theorem elistR {p p2 pos2 : Pos} (hc : X.calm = true) (hm : X.mg "list" = none) (hmr : X.mg "range" = none) (he : PE X e (upE X.K W m)) (hg : Gl X "list" := by rfl) (hgr : Gl X "range" := by rfl)
    (na : starEach [e] X.env = (false, eval e X.env) :: starEach [] X.env := by rfl) (na2 : starEach [Expr.Call (.Name "range" p2) [e] [] pos2] X.env = (false, eval (.Call (.Name "range" p2) [e] [] pos2) X.env) :: starEach [] X.env := by rfl) :
    PE X (.Call (.Name "list" p) [.Call (.Name "range" p2) [e] [] pos2] [] pos) (upE X.K W (mListR m)) :=
  (pe_listRg hc hg hm (prg_1 hgr hmr he na) na2).to fun σ H Q ⟨m, S, Qm, Em, h1, h2, h3, h4, h5⟩ => ⟨m, S, _, Em, h1, h2, h3, fun d S1 v H1 q1 e1 s1 r1 => by
    dsimp only at q1
    split at q1
    · next n =>
      obtain ⟨⟨n0, n1⟩, q1⟩ := q1
      cases r1
      exact ⟨n, rfl, .of_le (by omega) n1 (by omega) n0, fun q hq => h4 _ S1 _ _ q1 (e1.trans (Ext.new s1 hq)) (s1.new hq) (.lst upd_same (s1.fresh hq) (rgV_rds n))⟩
    · exact q1.elim, h5⟩
theorem l_mListR {σ : MSt} {S : Sto} {Q : MQ} {E : MXQ} : mListR m σ S Q E = m σ S (fun d S1 => match d with
  | .int n => (0 ≤ n ∧ n ≤ 16777216) ∧ Q (.lst (rngD 0 n.toNat)) S1
  | _ => False) E := Eq.trans rfl rfl

/-! ### dicts -/
def keyD : D → Option Key
  | .int i => some (.inl i)
  | .str x => some (.inr x)
  | _ => none
def keysD : List D → Option (List Key)
  | [] => some []
  | d :: r => match keyD d, keysD r with
    | some k, some ks => some (k :: ks)
    | _, _ => none
theorem keysD_ok {K : PySem.W.Frag} {H : Hp} {S : Sto} : ∀ {vs : List V} {ds : List D} {ks : List Key}, RDs K H S vs ds → keysD ds = some ks → vs = ks.map kV
  | _, _, _, .nil, h => by cases h; rfl
  | _, _, _, .cons (d := d) r rs, h => by
    simp only [keysD] at h
    split at h
    · next k ks h1 h2 =>
      cases h
      rw [List.map_cons, ← keysD_ok rs h2]
      cases d with
      | int i => cases h1; cases r; rfl
      | str x => cases h1; cases r; rfl
      | _ => cases h1
    · cases h
def valD {κ : Type} [DecidableEq κ] (kvs : List (κ × D)) (k : κ) : Option D := (kvs.find? fun kv => decide (kv.1 = k)).map (·.2)
def putD {κ : Type} [DecidableEq κ] (kvs : List (κ × D)) (k : κ) (v : D) : List (κ × D) :=
  if (kvs.any fun kv => decide (kv.1 = k)) = true then kvs.map (fun kv => if kv.1 = k then (kv.1, v) else kv) else kvs ++ [(k, v)]
theorem RKs.any {κ : Type} {K : PySem.W.Frag} {H : Hp} {S : Sto} (f : κ → Bool) : ∀ {vs : List (κ × V)} {ds : List (κ × D)}, RKs K H S vs ds → (vs.any fun kv => f kv.1) = ds.any fun kv => f kv.1
  | _, _, .nil => rfl
  | _, _, .cons _ r => by rw [List.any_cons, List.any_cons, RKs.any f r]
theorem RKs.valV {κ : Type} [DecidableEq κ] {K : PySem.W.Frag} {H : Hp} {S : Sto} (k : κ) : ∀ {vs : List (κ × V)} {ds : List (κ × D)}, RKs K H S vs ds → (L2.valV vs k).isSome = (valD ds k).isSome
  | _, _, .nil => rfl
  | _, _, .cons (k := j) h r => by
    have ih := RKs.valV k r
    unfold L2.valV valD at *
    rw [List.find?_cons, List.find?_cons]
    by_cases e : j = k
    · simp [e]
    · simpa [e] using ih
theorem RKs.snoc {κ : Type} {K : PySem.W.Frag} {H : Hp} {S : Sto} {k : κ} {v : V} {d : D} (h : RD K H S v d) : ∀ {vs : List (κ × V)} {ds : List (κ × D)}, RKs K H S vs ds → RKs K H S (vs ++ [(k, v)]) (ds ++ [(k, d)])
  | _, _, .nil => .cons h .nil
  | _, _, .cons h2 r => .cons h2 (RKs.snoc h r)
theorem RKs.over {κ : Type} [DecidableEq κ] {K : PySem.W.Frag} {H : Hp} {S : Sto} {k : κ} {v : V} {d : D} (h : RD K H S v d) : ∀ {vs : List (κ × V)} {ds : List (κ × D)}, RKs K H S vs ds → RKs K H S (vs.map fun kv => if kv.1 = k then (kv.1, v) else kv) (ds.map fun kv => if kv.1 = k then (kv.1, d) else kv)
  | _, _, .nil => .nil
  | _, _, .cons (k := j) h2 r => by
    rw [List.map_cons, List.map_cons]
    by_cases e : j = k
    · simp only [e, if_true]; exact .cons h (RKs.over h r)
    · simp only [e, if_false]; exact .cons h2 (RKs.over h r)
theorem RKs.put {κ : Type} [DecidableEq κ] {K : PySem.W.Frag} {H : Hp} {S : Sto} {k : κ} {v : V} {d : D} (h : RD K H S v d) {vs : List (κ × V)} {ds : List (κ × D)} (r : RKs K H S vs ds) : RKs K H S (putK vs k v) (putD ds k d) := by
  unfold putK putD
  rw [RKs.any (fun j => decide (j = k)) r]
  split
  · exact r.over h
  · exact r.snoc h
def dtO : Option MO → Option (List (List Key × D))
  | some (.dT k) => some k
  | _ => none
def dtD (S : Sto) : D → Option (List (List Key × D))
  | .ref p => dtO (S p)
  | _ => none
theorem dtO_at {o : Option MO} {kvs : List (List Key × D)} (h : dtO o = some kvs) : o = some (.dT kvs) := by
  cases o with
  | none => cases h
  | some u => cases u with
    | dT k => cases h; rfl
    | _ => cases h
theorem dtO_dT {kvs : List (List Key × D)} : dtO (some (.dT kvs)) = some kvs := Eq.trans rfl rfl
theorem dtD_ref {S : Sto} {p : Addr} : dtD S (.ref p) = dtO (S p) := Eq.trans rfl rfl
theorem dtD_at {S : Sto} {d : D} {kvs : List (List Key × D)} (h : dtD S d = some kvs) : ∃ p, d = .ref p ∧ S p = some (.dT kvs) := by
  cases d with
  | ref p => exact ⟨p, rfl, dtO_at h⟩
  | _ => cases h
/-- {} -/
def mDNew : ME := fun _ S Q _ => ∀ p, S p = none → Q (.ref p) (put S p (.dT []))
theorem ednew : PE X (.Dict [] [] pos) (upE X.K W mDNew) := pe_dnewT.to fun σ H Q ⟨m, S, Qm, Em, h1, h2, h3, h4, h5⟩ p hp =>
  h4 _ _ _ _ (h3 p (h2.fresh hp)) (Ext.newS h2 hp) (h2.newS hp ⟨[], upd_same, .nil⟩) (.ref p)
/-- (a, b, ..) in d -/
def mDIn (neg : Bool) (t : MA) (mo : ME) : ME := fun σ S Q E => t σ S (fun ds S1 => ds.length ≤ sizeLine ∧ mo σ S1 (fun d S2 => optP (keysD ds) fun ks => optP (dtD S2 d) fun kvs => Q (.bl (if neg then !(valD kvs ks).isSome else (valD kvs ks).isSome)) S2) E) E
theorem din_to {neg : Bool} (σ : L2.St) (H : Hp) (Q : VK) (h : upE X.K W (mDIn neg mas mo) σ H Q) : tTup (upA X.K W mas) σ H fun y H1 => upE X.K W mo σ H1 fun x H2 => ∃ a o, x = .ref a ∧ DGet H2 a y o ∧ Q (.bl (if neg then !o.isSome else o.isSome)) H2 := by
  obtain ⟨m, S, Qm, Em, h1, h2, h3, h4, h5⟩ := h
  refine ⟨m, S, _, Em, h1, h2, h3, fun ds S1 vs H1 q1 e1 s1 r1 => ⟨by rw [r1.length]; exact q1.1, fun p hp => ?_⟩, h5⟩
  have e1' := e1.trans (Ext.new s1 (u := .tup vs) hp)
  refine ⟨m, S1, _, Em, h1.ext e1', s1.new hp, q1.2, fun d S2 v H2 q2 e2 s2 r2 => ?_, h5.ext e1'⟩
  dsimp only at q2
  cases hk : keysD ds with
  | none => rw [hk] at q2; exact q2.elim
  | some ks =>
    cases hd : dtD S2 d with
    | none => rw [hk, hd] at q2; exact q2.elim
    | some kvs =>
      rw [hk, hd] at q2
      have q3 : Qm (.bl (if neg then !(valD kvs ks).isSome else (valD kvs ks).isSome)) S2 := q2
      obtain ⟨a, rfl, ha⟩ := dtD_at hd
      cases r2
      obtain ⟨ws, ew, rw1⟩ := s2 a _ ha
      have eb := (e2 p _ upd_same (s1.fresh hp)).1
      rw [keysD_ok r1 hk] at eb
      refine ⟨a, _, rfl, .t ew eb, ?_⟩
      rw [RKs.valV ks rw1]
      exact h4 _ S2 _ H2 q3 (e1'.trans e2) s2 (.bl _)
theorem edin {A : Around} (hA : A.units + 65 < cLine) (ha : PA X es (upA X.K W mas)) (ho : PE X o (upE X.K W mo)) {kx px} (eA : X.A = A := by rfl) (hm : behindInMarks .In o = false := by first | exact nomark _ | with_unfolding_all rfl) : PE X (.Compare (.Tuple es kx px) [.In] [o] pos) (upE X.K W (mDIn false mas mo)) :=
  (pe_cmp (pc_din (by rw [eA]; omega) (pe_tup ha) ho) hm).to fun σ H Q h => din_to σ H Q h
theorem ednin {A : Around} (hA : A.units + 65 < cLine) (ha : PA X es (upA X.K W mas)) (ho : PE X o (upE X.K W mo)) {kx px} (eA : X.A = A := by rfl) (hm : behindInMarks .NotIn o = false := by first | exact nomark _ | with_unfolding_all rfl) : PE X (.Compare (.Tuple es kx px) [.NotIn] [o] pos) (upE X.K W (mDIn true mas mo)) :=
  (pe_cmp (pc_dnotin (by rw [eA]; omega) (pe_tup ha) ho) hm).to fun σ H Q h => din_to σ H Q h
theorem tdin {A : Around} (hA : A.units + 65 < cLine) (ha : PA X es (upA X.K W mas)) (ho : PE X o (upE X.K W mo)) {kx px} (eA : X.A = A := by rfl) (hm : behindInMarks .In o = false := by first | exact nomark _ | with_unfolding_all rfl) : PT X (.Compare (.Tuple es kx px) [.In] [o] pos) (upT X.K W (mTst (mDIn false mas mo))) :=
  (pt_cmp (pc_din (by rw [eA]; omega) (pe_tup ha) ho) hm).to (tst_to fun σ H Q h => din_to σ H Q h)
theorem tdnin {A : Around} (hA : A.units + 65 < cLine) (ha : PA X es (upA X.K W mas)) (ho : PE X o (upE X.K W mo)) {kx px} (eA : X.A = A := by rfl) (hm : behindInMarks .NotIn o = false := by first | exact nomark _ | with_unfolding_all rfl) : PT X (.Compare (.Tuple es kx px) [.NotIn] [o] pos) (upT X.K W (mTst (mDIn true mas mo))) :=
  (pt_cmp (pc_dnotin (by rw [eA]; omega) (pe_tup ha) ho) hm).to (tst_to fun σ H Q h => din_to σ H Q h)
/-- d[(a, b, ..)] = v -/
def mDPut (mv mo : ME) (t : MA) : MS := fun De σ S => mv σ S (fun v S1 => mo σ S1 (fun d S2 => t σ S2 (fun ds S3 => ds.length ≤ sizeLine ∧ optP (keysD ds) fun ks => match d with
  | .ref p => optP (dtO (S3 p)) fun kvs => kvs.length < sizeLine ∧ Go De.nx σ (put S3 p (.dT (putD kvs ks v)))
  | _ => False) (xAt De σ)) (xAt De σ)) (xAt De σ)
theorem sdput {v : Expr} {pos' : Pos} {kx px} (hu : X.A.units + 65 < cLine) (hv : PE X v (upE X.K W mv)) (ho : PE X o (upE X.K W mo)) (ha : PA X es (upA X.K W mas)) (hs : swapsWith v (some (.Subscript o (.Tuple es kx px) pos')) pos.line X.env = pure false := by first | rfl | kernel_rfl) :
    PS X (.Assign [.Subscript o (.Tuple es kx px) pos'] v pos) (upS X.K W (mDPut mv mo mas)) :=
  L2.PS.to (ps_dput (by omega) ho (pe_tup ha) hv hs) fun D σ H ⟨m, S, Dm, h1, h2, h3, h4⟩ => by
    refine ⟨m, S, _, _, h1, h2, h3, fun v S1 x H1 q1 e1 s1 r1 => ⟨m, S1, _, _, h1.ext e1, s1, q1, fun d S2 y H2 q2 e2 s2 r2 => ⟨m, S2, _, _, h1.ext (e1.trans e2), s2, q2, fun ds S3 vs H3 q3 e3 s3 r3 => ⟨by rw [r3.length]; exact q3.1, fun p hp => ?_⟩, (xAt_ref h1 h4.ex).ext (e1.trans e2)⟩, (xAt_ref h1 h4.ex).ext e1⟩, xAt_ref h1 h4.ex⟩
    obtain ⟨_, q3⟩ := q3
    cases hk : keysD ds with
    | none => rw [hk] at q3; exact q3.elim
    | some ks =>
      rw [hk] at q3
      cases d with
      | ref a =>
        cases hd : dtO (S3 a) with
        | none =>
          have q4 : optP (dtO (S3 a)) _ := q3
          rw [hd] at q4; exact q4.elim
        | some kvs =>
          have q4 : optP (dtO (S3 a)) _ := q3
          rw [hd] at q4
          obtain ⟨hz, q5⟩ : kvs.length < sizeLine ∧ Go Dm.nx m (put S3 a (.dT (putD kvs ks v))) := q4
          cases r2
          have ha := dtO_at hd
          obtain ⟨ws, ew, rw1⟩ := s3 a _ ha
          have s4 := s3.new (u := .tup vs) hp
          have na : a ≠ p := fun z => by rw [z, hp] at ew; cases ew
          have ew' : upd H3 p (.tup vs) a = some (.dT ws) := by rw [upd_ne na]; exact ew
          have eb : upd H3 p (.tup vs) p = some (.tup (ks.map kV)) := by rw [upd_same, keysD_ok r3 hk]
          refine ⟨a, _, rfl, .t ew' eb (by rw [rw1.length]; exact hz), ?_⟩
          have X3 := Ext.new s3 (u := .tup vs) hp
          have X4 := Ext.chg (H := upd H3 p (.tup vs)) (S := S3) (p := a) (u := .dT (putK ws ks x)) (o := .dT (putD kvs ks v)) ha
          have rv := ((r1.ext e2).ext e3).ext (X3.trans X4)
          refine h4.nx m _ σ _ q5 (((e1.trans e2).trans e3).trans (X3.trans X4)) (s4.chg ha ⟨_, upd_same, RKs.put rv ((rw1.ext X3).ext X4)⟩) (h1.ext (((e1.trans e2).trans e3).trans (X3.trans X4)))
      | _ => exact q3.elim
theorem l_mDIn {neg : Bool} {σ : MSt} {S : Sto} {Q : MQ} {E : MXQ} : mDIn neg mas mo σ S Q E = mas σ S (fun ds S1 => ds.length ≤ sizeLine ∧ mo σ S1 (fun d S2 => optP (keysD ds) fun ks => optP (dtD S2 d) fun kvs => Q (.bl (if neg then !(valD kvs ks).isSome else (valD kvs ks).isSome)) S2) E) E := Eq.trans rfl rfl
theorem l_mDPut {De : MEnds} {σ : MSt} {S : Sto} : mDPut mv mo mas De σ S = mv σ S (fun v S1 => mo σ S1 (fun d S2 => mas σ S2 (fun ds S3 => ds.length ≤ sizeLine ∧ optP (keysD ds) fun ks => match d with
  | .ref p => optP (dtO (S3 p)) fun kvs => kvs.length < sizeLine ∧ Go De.nx σ (put S3 p (.dT (putD kvs ks v)))
  | _ => False) (xAt De σ)) (xAt De σ)) (xAt De σ) := Eq.trans rfl rfl
theorem l_mDNew {σ : MSt} {S : Sto} {Q : MQ} {E : MXQ} : mDNew σ S Q E = ∀ p, S p = none → Q (.ref p) (put S p (.dT [])) := Eq.trans rfl rfl
theorem keysD_nil : keysD [] = some [] := Eq.trans rfl rfl
theorem keysD_int {i : Int} {r : List D} : keysD (.int i :: r) = (keysD r).map (.inl i :: ·) := by
  simp only [keysD, keyD]
  cases keysD r <;> rfl
end
end ML

set_option maxRecDepth 100000
set_option maxHeartbeats 2000000
/-! # enumerate(tuple) -/
namespace PySem
open Sem (wp)
open AutoSeq1 (wpAny_loadPart')
section
variable {prog : Program} {w : World} {A : Around} {E : Value → Shared → Prop} {s : Shared}
theorem nextTup_item {it t : Addr} {i : Nat} {items} {x : Value} {Q : Value → Shared → Prop} (hit : s.heap.IsTupleIter it t i) (ht : s.heap.IsTuple t items) (hx : items[i]? = some x) (hQ : ∀ h', h'.IsTupleIter it t (i + 1) → Heap.SameBut it s.heap h' → Q x { s with heap := h' }) : wpAny (model prog w) A (Builtin.SmallTypes.nextOf (.ref it)) Q E s := by
  obtain ⟨o, ho, hc, hd⟩ := id hit; obtain ⟨ol, hol, _, nl, hdl⟩ := ht
  unfold Builtin.SmallTypes.nextOf
  refine wpAny_bind (wpAny_callSpecial?_slot (name := Str.ofString "__next__") hit.typeIs F.slot_tuple_iterator_next (wpAny_call_entry F.slot_tuple_iterator_next hit.typeIs F.entry_tuple_iterator_next ?_ (F.args_tuple_iterator_next_1 _)))
  show wpAny _ _ (field (.ref it) 0 >>= _) _ _ s; refine wpAny_bind (wpAny_field ho hd (x := .ref t) rfl ?_)
  show wpAny _ _ (if (Value.ref t == Value.none) = true then _ else _) _ _ s; rw [if_neg (show ¬ ((Value.ref t == Value.none) = true) from Bool.false_ne_true)]
  show wpAny _ _ (field (.ref it) 1 >>= _) _ _ s; refine wpAny_bind (wpAny_field ho hd (x := .int i 0) rfl ?_)
  show wpAny _ _ (seqItems? (.ref t) >>= _) _ _ s; refine wpAny_bind (wpAny_seqItems hol hdl ?_)
  simp only [Int.toNat_natCast, hx]; refine wpAny_bind (wpAny_setField ho hd (by simp) (wpAny_pure ⟨x, rfl, wpAny_pure (hQ _ ?_ (Heap.SameBut.update ..))⟩))
  exact ⟨_, Heap.get?_update_self _ ho (Obj.isFreed_of_fields (Obj.data_mapFields hd _)), (Obj.cls_mapFields ..).trans hc, by rw [Obj.data_mapFields hd]; simp [rawInt]⟩
theorem nextTup_end {it t : Addr} {i : Nat} {items} {Q : Value → Shared → Prop} (hh : A.handled = none) (hit : s.heap.IsTupleIter it t i) (ht : s.heap.IsTuple t items) (hx : items[i]? = none)
    (hE : ∀ h' e, Heap.ExtBut it s.heap h' → (∃ o, h'.get? e = some o ∧ o.cls = .type "StopIteration") → E (.ref e) { s with heap := h' }) : wpAny (model prog w) A (Builtin.SmallTypes.nextOf (.ref it)) Q E s := by
  obtain ⟨o, ho, hc, hd⟩ := id hit; obtain ⟨ol, hol, _, nl, hdl⟩ := ht
  unfold Builtin.SmallTypes.nextOf
  refine wpAny_bind (wpAny_callSpecial?_slot (name := Str.ofString "__next__") hit.typeIs F.slot_tuple_iterator_next (wpAny_call_entry F.slot_tuple_iterator_next hit.typeIs F.entry_tuple_iterator_next ?_ (F.args_tuple_iterator_next_1 _)))
  show wpAny _ _ (field (.ref it) 0 >>= _) _ _ s; refine wpAny_bind (wpAny_field ho hd (x := .ref t) rfl ?_)
  show wpAny _ _ (if (Value.ref t == Value.none) = true then _ else _) _ _ s; rw [if_neg (show ¬ ((Value.ref t == Value.none) = true) from Bool.false_ne_true)]
  show wpAny _ _ (field (.ref it) 1 >>= _) _ _ s; refine wpAny_bind (wpAny_field ho hd (x := .int i 0) rfl ?_)
  show wpAny _ _ (seqItems? (.ref t) >>= _) _ _ s; refine wpAny_bind (wpAny_seqItems hol hdl ?_)
  simp only [Int.toNat_natCast, hx]; refine wpAny_bind (wpAny_rule (wpAny_bind (wpAny_setField ho hd (by simp) ?_)))
  show wpAny _ _ (newExc (.type "StopIteration") [] >>= _) _ _ _; refine wpAny_bind ?_
  simp only [newExc, newTuple]; refine wpAny_bind (wpAny_newObj_type ?_ (by size_fits))
  refine wpAny_bind (m := firstArgMember _ _) (wpAny_of_eq (a := Value.none) (by first | rfl | (simp only [firstArgMember]; rfl)) ?_); refine wpAny_newObj_type ?_ (by size_fits)
  simp only [raiseNew]; refine wpAny_bind (wpAny_handled ?_)
  first | rw [show A.in1.handled = none from hh] | rw [hh]
  refine wpAny_bind (wpAny_pure (wpAny_throw ?_)); exact hE _ _ (((Heap.SameBut.update ..).extBut.push _).push _) ⟨_, Heap.get?_push_size _ rfl, rfl⟩
end
theorem Draws.tup {prog : Program} {w : World} {A : Around} (hh : A.handled = none) (it t : Addr) (hne : t ≠ it) (items : Array Value) : Draws prog w A it [it, t] items.size (fun i v => items[i]? = some v) (fun i h => h.IsTupleIter it t i ∧ h.IsTuple t items) where
  live := fun _ _ st => let ⟨o, ho, _⟩ := st.1; ⟨o, ho⟩
  frame := fun _ _ _ st hk => ⟨let ⟨o, ho, r⟩ := st.1; ⟨o, hk it (by simp) o ho, r⟩, let ⟨o, ho, r⟩ := st.2; ⟨o, hk t (by simp) o ho, r⟩⟩
  item := fun i s Q E hi st hQ => nextTup_item st.1 st.2 (x := items[i]) (by simp [hi]) fun h' hit' hs' => hQ _ h' s.toks (by simp [hi]) ⟨hit', let ⟨o, ho, r⟩ := st.2; ⟨o, hs'.extBut _ _ hne ho, r⟩⟩ hs'
  done := fun s Q E st hE => nextTup_end hh st.1 st.2 (by simp) hE
theorem meets_enumT (l : Addr) (items : Array Value) (n : Nat) (dct : Option Addr) (sl : Array (Option Value)) :
    Meets (Builtin.«enumerate.__new__» ⟨[.type "enumerate", .ref l], []⟩) (fun _ R s => s.heap.get? l = some { cls := .type "tuple", dict := dct, data := .seq items n, slots := sl } ∧
      R (.ok (.ret (.ref (s.heap.push { cls := .type "tuple_iterator", data := .fields #[.ref l, .int 0 0] }).objs.size)))
        { s with heap := (s.heap.push { cls := .type "tuple_iterator", data := .fields #[.ref l, .int 0 0] }).push { cls := .type "enumerate", data := .fields #[.none, .bool false, .ref s.heap.objs.size, rawInt 0, .none, .none] } }) :=
  .of_wp fun prog w A R s h => by
    obtain ⟨hp, g, d, tk, os⟩ := s; obtain ⟨hl, h⟩ := h; have hsub := sub_enumerate
    have hT : Heap.IsTuple (Shared.heap ⟨hp, g, d, tk, os⟩) l items := ⟨_, hl, rfl, n, rfl⟩
    wp_walk using wpAny_loadPart' hl; refine wpAny_stack_any fun st => wpAny_pure ?_
    split
    · rename_i c _ _ _ _ _; cases (c == Value.type "enumerate")
      · wp_walk using wpAny_loadPart' hl, wpAny_pyIter_tuple hT; exact ⟨_, rfl, h⟩
      · wp_walk using wpAny_loadPart' hl, wpAny_pyIter_tuple hT; exact ⟨_, rfl, h⟩
    · wp_walk using wpAny_loadPart' hl, wpAny_pyIter_tuple hT; exact ⟨_, rfl, h⟩
theorem call_enumT {prog : Program} {w : World} {A : Around} {E : Value → Shared → Prop} {s : Shared} {l : Addr} {items : Array Value} {Q : Value → Shared → Prop} (hL : s.heap.IsTuple l items)
    (h : ∀ h', IsEnum h' (s.heap.objs.size + 1) s.heap.objs.size 0 .none → h'.IsTupleIter s.heap.objs.size l 0 → h'.objs.size = s.heap.objs.size + 2 → (∀ b o, s.heap.get? b = some o → h'.get? b = some o) → Q (.ref (s.heap.objs.size + 1)) { s with heap := h' }) :
    wpAny (model prog w) A (call (.type "enumerate") [.ref l]) Q E s := by
  obtain ⟨⟨c, dct, dt, sl⟩, hl, hc, n, hd⟩ := hL
  replace hc : c = .type "tuple" := hc
  replace hd : dt = .seq items n := hd; subst hc hd
  refine callType_new F.called_enumerate (by decide) (F.typeCall_enumerate_1 _) (F.newCall_enumerate_1 _) (fun obj => F.args_object_init_2 obj _) F.entry_enumerate_new (meets_enumT l items n dct sl) ⟨hl, ?_⟩
  have hz : (s.heap.push { cls := .type "tuple_iterator", data := .fields #[.ref l, .int 0 0] }).objs.size = s.heap.objs.size + 1 := Heap.size_push ..
  show _ ∧ _; rw [hz]
  have he : IsEnum ((s.heap.push { cls := .type "tuple_iterator", data := .fields #[.ref l, .int 0 0] }).push { cls := .type "enumerate", data := .fields #[.none, .bool false, .ref s.heap.objs.size, rawInt 0, .none, .none] }) (s.heap.objs.size + 1) s.heap.objs.size 0 .none := by
    have := Heap.get?_push_size (s.heap.push { cls := .type "tuple_iterator", data := .fields #[.ref l, .int 0 0] }) (o := { cls := .type "enumerate", data := .fields #[.none, .bool false, .ref s.heap.objs.size, rawInt 0, .none, .none] }) rfl
    rw [hz] at this; exact this
  exact ⟨⟨_, he, rfl⟩, h _ he ⟨_, Heap.get?_push_of_some _ (Heap.get?_push_size _ rfl), rfl, rfl⟩ (by rw [Heap.size_push, hz]) fun b o x => Heap.get?_push_of_some _ (Heap.get?_push_of_some _ x)⟩
end PySem
namespace L2
open PySem PySem.Spec PyProof.Rows
/-- the tuple at a, each item in a new pair -/
def IteT (K : PySem.W.Frag) (a : Addr) : It :=
  ⟨fun i H => ∃ (xs : List V) (x : V), SqT K H a xs ∧ xs[i]? = some x, fun i H v H' => ∃ T x, v = .ref T ∧ H T = none ∧ H' = upd H T (.tup [.int (i : Nat), x]) ∧ ∀ xs, SqT K H a xs → xs[i]? = some x, fun i H => ∃ xs : List V, SqT K H a xs ∧ xs.length ≤ i⟩
theorem turn_enumT {P : Program} {w : World} {K : PySem.W.Frag} {elts : List Expr} {kk : Nat} {tpos : Pos} (a e it : Addr) : Turn P w K (.Tuple elts kk tpos) (IteT K a) [e, it] e (fun i h => (∃ old, IsEnum h e it ((i : Nat) : Int) old) ∧ h.IsTupleIter it a i ∧ e ≠ it ∧ a ≠ it ∧ e ≠ a) where
  mem := by simp
  obj := fun i h st b hb => by
    obtain ⟨⟨old, he⟩, ⟨o, ho, hc, hd⟩, _⟩ := st
    rcases (by simpa using hb : b = e ∨ b = it) with z | z
    · rw [z]; exact ⟨_, he, fun v q => nomatch q⟩
    · rw [z]; exact ⟨o, ho, fun v q => by rw [hd] at q; cases q⟩
  keep := fun i h h' st k => let ⟨⟨old, he⟩, ⟨o, ho, r⟩, hne⟩ := st; ⟨⟨old, k e (by simp) _ he⟩, ⟨o, k it (by simp) _ ho, r⟩, hne⟩
  item := by
    intro X hP hw hK hc i pins s σ H E I hf st hg; subst hP hw hK
    obtain ⟨⟨old, he⟩, hit, hne, hai, hea⟩ := st; obtain ⟨xs, x, hq, hx⟩ := hg
    obtain ⟨its, rv, p, hz⟩ := I.tuple hq; obtain ⟨u, hu, ru⟩ := rv.get hx
    have hel : e < s.heap.objs.size := Heap.lt_size he
    have hil : it < s.heap.objs.size := let ⟨_, q, _⟩ := hit; Heap.lt_size q
    have hlt : i < its.toArray.size := by rw [List.size_toArray]; exact (List.getElem?_eq_some_iff.mp hu).1
    refine wpAny_pyNext_enum_itemD (Draws.tup (A := X.A.in1) (show X.A.in1.handled = none from I.ok.hd hc) it a hai its.toArray) he ⟨hit, p⟩ hlt hne (by simp [hne, hea]) fun y h' tk hy ho st' hT hsz hk => ?_
    obtain ⟨hit', _⟩ := st'
    have ey : y = u := by
      have e1 : its[i]? = some y := by simpa using hy
      rw [hu] at e1; exact (Option.some.inj e1).symm
    subst ey
    refine ⟨_, rfl, wpAny_letOwnedTupleGo_enum (s := { s with heap := h', toks := tk + 1 }) ho fun h'' he' sb => ?_⟩
    have hT2 : h''.get? s.heap.objs.size = some { cls := .type "tuple", data := .seq #[.int i tk, y] } := (sb.2 _ (Nat.ne_of_gt hel)).trans hT
    have new : ObjOk X.prog X.w (upd H s.heap.objs.size (.tup [.int (i : Nat), x])) h'' s.heap.objs.size (.tup [.int (i : Nat), x]) := ⟨by show 2 ≤ sizeLine; decide, [.int i tk, y], .cons ⟨_, rfl⟩ (.cons ru .nil), ⟨_, hT2, rfl, _, rfl⟩⟩
    have I1 : Inv X pins σ (upd H s.heap.objs.size (.tup [.int (i : Nat), x])) { s with heap := h'', toks := tk + 1 } :=
      I.turnedNew (ch := [e, it]) (fun b ob hb q => (sb.2 b (fun z => hb (by simp [z]))).trans (hk b ob (fun z => hb (by simp [z])) (fun z => hb (by simp [z])) q)) hf (Nat.le_refl _) new
    refine ⟨.ref s.heap.objs.size, _, I1, rfl, ⟨_, x, rfl, I.hok.fresh (Nat.le_refl _), rfl, fun ys hy => by rw [I.tuple_inj hy hq]; exact hx⟩, ⟨⟨y, ?_⟩, (let ⟨o, ho', r⟩ := hit'; ⟨o, (sb.2 it (Ne.symm hne)).trans ho', r⟩), hne, hai, hea⟩, fun b hb => ?_⟩
    · rw [show ((i + 1 : Nat) : Int) = (i : Int) + 1 from by omega]; exact he'
    · have hb' : b < s.heap.objs.size := by
        rcases (by simpa using hb : b = e ∨ b = it) with z | z <;> rw [z] <;> assumption
      rw [upd_ne (Nat.ne_of_lt hb')]; exact (hf b hb).1
  done := by
    intro X hP hw hK hc i pins s σ H E I hf st hg; subst hP hw hK
    obtain ⟨⟨old, he⟩, hit, hne, hai, hea⟩ := st; obtain ⟨xs, hq, hx⟩ := hg
    obtain ⟨its, rv, p, hz⟩ := I.tuple hq
    have hl := rv.length
    obtain ⟨f0, f1, f2, f3, f4, f5⟩ := hf it (by simp)
    have hT : s.TypeIs (.ref e) "enumerate" := ⟨_, he, rfl⟩
    unfold pyNext
    refine wpAny_bind (wpAny_attempt (wpAny_callSpecial?_slot (name := Str.ofString "__next__") hT F.slot_enumerate_next (wpAny_call_entry F.slot_enumerate_next hT F.entry_enumerate_next ?_ (F.args_enumerate_next_1 _))))
    show wpAny _ _ (field (.ref e) 2 >>= _) _ _ _; refine wpAny_bind (wpAny_field he rfl (x := .ref it) rfl ?_)
    refine wpAny_bind (nextTup_end (I.ok.hd hc) hit p (by simp; omega) fun h' x he' hx' => ?_)
    obtain ⟨o, ho, hc'⟩ := hx'
    refine wpAny_bind (wpAny_isInstance (T := "StopIteration") (b := true) ⟨o, ho, hc'⟩ isSubtype_stop ?_); exact wpAny_pure ⟨rfl, I.turned (t' := s.toks) (fun b o hb q => he' b o hb q) f0 f1 f3 f4 f5⟩
  self := fun A i s Q E st h => let ⟨⟨_, he⟩, _⟩ := st; wpAny_pyIter_enum he h
def iEnumT (K : PySem.W.Frag) (ta : TA) : TI := fun σ H R => ta σ H fun vs H1 => ∃ a xs, vs = [.ref a] ∧ SqT K H1 a xs ∧ R (IteT K a) H1
theorem pi_enumT {X : Cx} {e : Expr} {ta : TA} {p pos tpos : Pos} {elts : List Expr} {kk : Nat} (hg : Gl X "enumerate") (hm : X.mg "enumerate" = none) (ha : PA X [e] ta) (hs : starEach [e] X.env = [(false, eval e X.env)] := by rfl) : PI X (.Tuple elts kk tpos) (.Call (.Name "enumerate" p) [e] [] pos) (iEnumT X.K ta) := by
  refine ⟨fun pins s σ H R I h => ?_⟩
  refine Call_ (ld_blt I hg hm boot_enumerate (PyProof.Rows.callWith_type1 (thn (ha.run pos pins s σ H _ I h) fun us s1 ⟨vs, H1, I1, r1, q1⟩ => ?_) hs rfl))
  obtain ⟨a, xs, ex, hq, q⟩ := q1; subst ex
  cases r1 with
  | cons r rr =>
    cases rr; cases r
    obtain ⟨its, rv, p', hz⟩ := I1.tuple hq
    have hal : a < s1.heap.objs.size := let ⟨_, q, _⟩ := p'; Heap.lt_size q
    refine call_enumT p' fun h' he hit hsz hk => wpAny_pyIter_enum he ?_
    have I2 : Inv X pins σ H1 { s1 with heap := h' } := I1.kept (t' := s1.toks) hk
    refine ⟨s1.heap.objs.size + 1, [s1.heap.objs.size + 1, s1.heap.objs.size], _, _, H1, rfl, I2, turn_enumT a (s1.heap.objs.size + 1) s1.heap.objs.size, ⟨⟨.none, he⟩, hit, Nat.succ_ne_self _, Nat.ne_of_lt hal, Nat.ne_of_gt (Nat.lt_succ_of_lt hal)⟩, fun b hb => ?_, q⟩
    have hle : s1.heap.objs.size ≤ b := by
      rcases (by simpa using hb : b = s1.heap.objs.size + 1 ∨ b = s1.heap.objs.size) with z | z <;> rw [z] <;> omega
    exact I1.fpOk hle (I1.hok.fresh hle)
end L2
namespace ML
open PySem PySem.Spec L2
open PyProof.Rows hiding St
section
variable {X : Cx} {W : WX} {e : Expr} {pos : Pos}
def iEnT (t : MA) : MI := fun σ S R E => t σ S (fun ds S1 => match ds with
  | [d] => match tupOf d with
    | some xs => R (enumD xs) (fun _ => True) S1
    | none => False
  | _ => False) E
theorem ient {mas : MA} {p tpos : Pos} {elts : List Expr} {kk : Nat} (hm : X.mg "enumerate" = none) (ha : PA X [e] (upA X.K W mas)) (hg : Gl X "enumerate" := by rfl) (hs : starEach [e] X.env = [(false, eval e X.env)] := by rfl) :
    PI X (.Tuple elts kk tpos) (.Call (.Name "enumerate" p) [e] [] pos) (upI X.K W (iEnT mas)) :=
  L2.PI.to (pi_enumT hg hm ha hs) fun σ H R ⟨m, S, Rm, Em, h1, h2, h3, h4, h5⟩ => ⟨m, S, _, Em, h1, h2, h3, fun ds S1 vs H1 q e1 s r => by
    dsimp only at q
    split at q
    · next d =>
      obtain ⟨v, rfl, r1⟩ := rds1 r
      cases d with
      | tup xs =>
        have q' : Rm (enumD xs) (fun _ => True) S1 := q
        obtain ⟨a, us, rfl, hq, _⟩ := r1.tupSq
        refine ⟨a, us, rfl, hq, h4 _ _ S1 _ H1 q' e1 s ⟨fun i H' S' e s' _ hi => ?_, fun i H' S' v H'' x e s' _ hx y => ?_, fun i H' S' e s' _ hi => ?_⟩⟩
        · rw [enumD_len] at hi
          obtain ⟨a', vs', ea, hq', rs'⟩ := (r1.ext e).tupSq
          cases ea; exact ⟨vs', vs'[i]'(by rw [rs'.length]; exact hi), hq', List.getElem?_eq_getElem _⟩
        · obtain ⟨a', vs', ea, hq', rs'⟩ := (r1.ext e).tupSq
          cases ea
          obtain ⟨T, w, rfl, hT, rfl, hy⟩ := y
          obtain ⟨z, hz, rfl⟩ := enumD_get hx
          obtain ⟨w', hw, rw'⟩ := rs'.get hz
          have ew : w = w' := Option.some.inj ((hy _ hq').symm.trans hw)
          subst ew; exact pair_new s' hT (.int _) rw'
        · rw [enumD_len] at hi
          obtain ⟨a', vs', ea, hq', rs'⟩ := (r1.ext e).tupSq
          cases ea; exact ⟨vs', hq', by rw [rs'.length]; exact hi⟩
      | _ => exact q.elim
    · exact q.elim, h5⟩
theorem l_iEnT {mas : MA} {σ : MSt} {S : Sto} {R : List D → (Sto → Prop) → Sto → Prop} {E : MXQ} : iEnT mas σ S R E = mas σ S (fun ds S1 => match ds with
  | [d] => optP (tupOf d) fun xs => R (enumD xs) (fun _ => True) S1
  | _ => False) E := by
  unfold iEnT optP OptP
  apply congrArg (fun f => mas σ S f E)
  funext ds S1
  rcases ds with _ | ⟨d, _ | ⟨_, _⟩⟩
  · rfl
  · cases h : tupOf d with
    | none => simp only [h]
    | some x => simp only [h]
  · rfl
/-! ### sorted(set(a list of pairs of numbers)) -/
def tu : List Int → U2
  | [x, y] => (x, y)
  | _ => (0, 0)
theorem rds_ks {K : PySem.W.Frag} {H : Hp} {S : Sto} : ∀ {vs : List V} {us : List U2}, RDs K H S vs (us.map uD) → ∃ ks : List (Addr × List Int), vs = ks.map (fun p => V.ref p.1) ∧ ks.map (fun p => tu p.2) = us ∧ ∀ p ∈ ks, SqT K H p.1 (p.2.map V.int) ∧ p.2 = [(tu p.2).1, (tu p.2).2] ∧ RD K H S (.ref p.1) (uD (tu p.2))
  | _, [], .nil => ⟨[], rfl, rfl, fun _ h => nomatch h⟩
  | _, u :: us, .cons r rs => by
    obtain ⟨ks, e1, e2, h⟩ := rds_ks rs
    obtain ⟨a, ws, rfl, hq, rw1⟩ := r.tupSq
    rw [rds_u rw1] at hq
    refine ⟨(a, [u.1, u.2]) :: ks, by rw [e1]; rfl, by rw [List.map_cons, e2]; rfl, fun p hp => ?_⟩
    rcases List.mem_cons.mp hp with rfl | hp
    · exact ⟨hq, rfl, r⟩
    · exact h p hp
def bSortSet : List D → Sto → MQ → Prop := fun ds S Q => ∃ (d : D) (us : List U2), ds = [d] ∧ lstOf S d = some (us.map uD) ∧ us.length < 64 ∧ (∀ u ∈ us, 0 ≤ u.1 ∧ u.1 < 1048576 ∧ 0 ≤ u.2 ∧ u.2 < 1048576) ∧
  ∀ vs : List U2, vs.Nodup → (∀ u, u ∈ vs ↔ u ∈ us) → vs.Pairwise ule → Q (.lst (vs.map uD)) S
def mSortSet (m : ME) : ME := fun σ S Q E => m σ S (fun d S1 => bSortSet [d] S1 Q) E
theorem esortset {m : ME} {p p2 pos2 : Pos} {A : Around} (hA : A.units + 65 < cLine) (hc : X.calm = true) (hm : X.mg "sorted" = none) (hms : X.mg "set" = none) (he : PE X e (upE X.K W m)) (eA : X.A = A := by rfl) (hg : Gl X "sorted" := by rfl) (hgs : Gl X "set" := by rfl)
    (n1 : starEach [Expr.Call (.Name "set" p2) [e] [] pos2] X.env = (false, eval (.Call (.Name "set" p2) [e] [] pos2) X.env) :: starEach [] X.env := by rfl) (n2 : starEach [e] X.env = (false, eval e X.env) :: starEach [] X.env := by rfl) :
    PE X (.Call (.Name "sorted" p) [.Call (.Name "set" p2) [e] [] pos2] [] pos) (upE X.K W (mSortSet m)) := by
  have hv1 : bootBuiltins "sorted" = some (.builtin "sorted") := by decide +kernel
  have hv2 : bootBuiltins "set" = some (.type "set") := by decide +kernel
  refine (pe_callB (cr_sortedT hc) hg hm hv1 (pa_cons (pe_callTy (cr_setOfT hc (by rw [eA]; omega)) hgs hms hv2 (pa_cons he pa_nil n2) (by decide) (by decide) n2 (by rfl)) pa_nil n1) (by decide) (by decide) n1 (by rfl)).to ?_
  intro σ H Q ⟨m, S, Qm, Em, h1, h2, h3, h4, h5⟩
  refine ⟨m, S, _, Em, h1, h2, h3, fun d S1 v H1 q e1 s r => ?_, h5⟩
  obtain ⟨d', us, ed, hl, h64, hb, k⟩ := q
  cases ed
  obtain ⟨l, vs, rfl, hq, rs⟩ := lst_sq s r hl
  obtain ⟨ks, rfl, e2, hk⟩ := rds_ks rs
  have lk : ks.length = us.length := by rw [← e2, List.length_map]
  refine ⟨l, ks, rfl, hq, fun p hp => (hk p hp).1, by omega, fun a L ha hL hLk => ?_⟩
  have X1 := Ext.new s (u := SetTO X.prog X.w a L) ha
  have s2 := s.new (u := SetTO X.prog X.w a L) ha
  refine ⟨a, L, 2, 1048576, rfl, upd_same, fun p hp => ?_, by decide, fun p hp => ?_, fun L' p pm nd l64 pw hp => ?_⟩
  · rcases (hk p (hL p hp)).1 with h | h
    · left
      rcases h with h | ⟨o, h⟩
      · exact .inl (by rw [upd_ne (ne_of_none h ha)]; exact h)
      · exact .inr ⟨o, by rw [upd_ne (ne_of_none h ha)]; exact h⟩
    · exact .inr h
  · have hp' := hL p hp
    have eu := (hk p hp').2.1
    obtain ⟨b1, b2, b3, b4⟩ := hb (tu p.2) (by rw [← e2]; exact List.mem_map.mpr ⟨p, hp', rfl⟩)
    rw [eu]
    refine ⟨rfl, fun m hm => ?_⟩
    rcases List.mem_cons.mp hm with e | e
    · rw [e]; exact ⟨b1, b2⟩
    · rw [List.mem_singleton.mp e]; exact ⟨b3, b4⟩
  · have X2 := Ext.new s2 (u := .lst (L'.map fun q => V.ref q.1)) hp
    have mem : ∀ q ∈ L', q ∈ ks := fun q hq => hL q (pm.mem_iff.mp hq)
    have rr : ∀ M : List (Addr × List Int), (∀ q ∈ M, q ∈ ks) → RDs X.K (upd (upd H1 a (SetTO X.prog X.w a L)) p (.lst (L'.map fun q => V.ref q.1))) S1 (M.map fun q => V.ref q.1) ((M.map fun q => tu q.2).map uD) := fun M hM => by
      induction M with
      | nil => exact .nil
      | cons q M ih => exact .cons (((hk q (hM q List.mem_cons_self)).2.2.ext X1).ext X2) (ih fun x hx => hM x (List.mem_cons_of_mem _ hx))
    refine h4 _ S1 _ _ (k (L'.map fun q => tu q.2) ?_ (fun u => ?_) ?_) (e1.trans (X1.trans X2)) (s2.new hp) (.lst upd_same (s2.fresh hp) (rr L' mem))
    · rw [List.nodup_iff_pairwise_ne, List.pairwise_map] at *
      refine nd.imp_of_mem fun {x y} hx hy h z => h ?_
      rw [(hk x (mem x hx)).2.1, (hk y (mem y hy)).2.1, z]
    · rw [← e2, List.mem_map, List.mem_map]
      constructor
      · rintro ⟨q, hq, rfl⟩; exact ⟨q, mem q hq, rfl⟩
      · rintro ⟨q, hq, rfl⟩
        obtain ⟨q', hq', e⟩ := List.mem_map.mp (hLk q hq)
        exact ⟨q', pm.mem_iff.mpr hq', by rw [e]⟩
    · rw [List.pairwise_map]
      refine pw.imp_of_mem fun {x y} hx hy h => ?_
      rw [(hk x (mem x hx)).2.1, (hk y (mem y hy)).2.1] at h
      have bx := hb (tu x.2) (by rw [← e2]; exact List.mem_map.mpr ⟨x, mem x hx, rfl⟩)
      have byy := hb (tu y.2) (by rw [← e2]; exact List.mem_map.mpr ⟨y, mem y hy, rfl⟩)
      exact ule_code h bx.2.2 byy.2.2
def SortSetP (ds : List D) (S : Sto) [Q : Hold MQ] : Prop := bSortSet ds S Q.v
theorem l_mSortSet {m : ME} {σ : MSt} {S : Sto} {Q : MQ} {E : MXQ} : mSortSet m σ S Q E = m σ S (fun d S1 => @SortSetP [d] S1 ⟨Q⟩) E := Eq.trans rfl rfl
theorem sortSetP {d : D} {us : List U2} {S : Sto} {Q : Hold MQ} (hl : lstOf S d = some (us.map uD)) (hz : us.length < 64) (hb : ∀ u ∈ us, 0 ≤ u.1 ∧ u.1 < 1048576 ∧ 0 ≤ u.2 ∧ u.2 < 1048576) (k : ∀ vs : List U2, vs.Nodup → (∀ u, u ∈ vs ↔ u ∈ us) → vs.Pairwise ule → Q.v (.lst (vs.map uD)) S) : @SortSetP [d] S Q := ⟨d, us, rfl, hl, hz, hb, k⟩
end
end ML

set_option maxRecDepth 100000
set_option maxHeartbeats 2000000
/-! # (a, b)[::-1], sum of a list of numbers -/
namespace HT
open PySem PySem.Spec PyProof.Rows
open Sem (wp)
section
variable {prog : Program} {w : World} {A : Around} {E : Value → Shared → Prop} {s : Shared}
theorem applied_rev {sl : Addr} {vl vu vs : Value} {Q : Int × Int × Nat → Shared → Prop} (hs : s.heap.IsSliceOf sl vl vu vs) (pl : IsPart vl none) (pu : IsPart vu none) (ps : IsPart vs (some (-1))) (h : Q (1, -1, 2) s) : wpAny (model prog w) A (Builtin.Slice.sliceApplied (.ref sl) (pure (2 : Int))) Q E s := by
  obtain ⟨os, hos, hcs, hds⟩ := id hs
  unfold Builtin.Slice.sliceApplied Builtin.Slice.sliceFields; refine wpAny_bind (wpAny_bind (wpAny_field hos hds (x := vl) rfl (wpAny_bind (wpAny_field hos hds (x := vu) rfl (wpAny_bind (wpAny_field hos hds (x := vs) rfl (wpAny_pure ?_)))))))
  refine wpAny_bind (slicePart_ ps ?_)
  show wpAny _ _ (if ((-1 : Int) == 0) = true then _ else _) _ _ s; rw [if_neg (by decide)]
  refine wpAny_bind (slicePart_ pl (wpAny_bind (slicePart_ pu (wpAny_bind (wpAny_pure ?_))))); exact wpAny_pure h
theorem getItem_rev2 {t sl : Addr} {x y : Value} {vl vu vs : Value} {Q : Value → Shared → Prop} (ht : IsTup s.heap t #[x, y]) (hs : s.heap.IsSliceOf sl vl vu vs) (pl : IsPart vl none) (pu : IsPart vu none) (ps : IsPart vs (some (-1)))
    (h : Q (.ref s.heap.objs.size) { s with heap := s.heap.push { cls := .type "tuple", data := .seq #[y, x] } }) : wpAny (model prog w) A (getItem (.ref t) (.ref sl)) Q E s := by
  have hsz : sizeOk (.seq #[y, x]) := by show 2 ≤ sizeLine; decide
  obtain ⟨os, hos, hcs, hds⟩ := id hs
  have hTs : s.TypeIs (.ref sl) "slice" := ⟨os, hos, hcs⟩
  unfold getItem; try with_reducible refine wpAny_holding ?_
  first | refine wpAny_bind (wpAny_pure ?_) | skip
  refine wpAny_bind (wpAny_sequenceKey ht.typeIs (by decide) ?_)
  refine wpAny_bind (wpAny_callSpecial?_slot (name := Str.ofString "__getitem__") ht.typeIs PyProof.Rows.slot_tuple_getitem (wpAny_call_entry PyProof.Rows.slot_tuple_getitem ht.typeIs entry_tuple_getitem ?_ (args_tuple_getitem _ _)))
  show wpAny _ _ (Builtin.Tuple.tupleItemsOf (.ref t) >>= _) _ _ s; refine wpAny_bind (tupleItemsOf_ ht ?_)
  refine wpAny_bind (wpAny_typeOf hTs ?_); rw [if_pos (by decide)]
  refine wpAny_bind (applied_rev hs pl pu ps ?_)
  show wpAny _ _ (if ((1 : Int) == 0 && (-1 : Int) == 1 && (2 : Nat) == 2) = true then _ else _) _ _ s; rw [if_neg (by decide)]
  first
    | exact wpAny_bind (m := Builtin.Tuple.tupleExact _) (wpAny_newObj_type (wpAny_pure ⟨_, rfl, wpAny_pure h⟩) hsz)
    | exact wpAny_bind (m := Builtin.Tuple.tupleExact _) (wpAny_newObj_type (wpAny_bind (wpAny_pure (wpAny_pure ⟨_, rfl, wpAny_pure h⟩))) hsz)
    | exact wpAny_bind (wpAny_bind (m := Builtin.Tuple.tupleExact _) (wpAny_newObj_type (wpAny_pure (wpAny_pure ⟨_, rfl, wpAny_pure h⟩)) hsz))
    | exact wpAny_bind (wpAny_bind (m := Builtin.Tuple.tupleExact _) (wpAny_newObj_type (wpAny_pure ⟨_, rfl, wpAny_pure h⟩) hsz))
end
end HT
namespace L2
open PySem PySem.Spec PyProof.Rows
variable {X : Cx}
def tRev2 (K : PySem.W.Frag) (te : TE) : TE := fun σ H Q => te σ H fun x H1 => ∃ a y z, x = .ref a ∧ SqT K H1 a [y, z] ∧ ∀ p, H1 p = none → Q (.ref p) (upd H1 p (.tup [z, y]))
theorem pe_rev2 {e : Expr} {te : TE} {k : Nat} {p1 p2 p3 pos : Pos} (he : PE X e te) : PE X (.Subscript e (.Slice none none (some (.UnaryOp .USub (.Constant (.int 1) k p1) p2)) p3) pos) (tRev2 X.K te) := by
  refine ⟨fun pins s σ H Q I h => Subscript_ (thn (he.run pins s σ H _ I h) fun v s1 ⟨x, H1, I1, r1, q1⟩ => ?_)⟩
  obtain ⟨a, y, z, ex, hx, q⟩ := q1; subst ex; cases r1
  have hst : PO X (some (.UnaryOp .USub (.Constant (.int 1) k p1) p2)) (tPart (tUn (rU fun i => .int (-i)) (tC (.int 1)))) := po_some (pe_un un_neg pe_int)
  refine wpAny_Slice (thn (po_none.run pins s1 σ H1 (fun o H2 => o = none ∧ H2 = H1) I1 ⟨rfl, rfl⟩) fun vl s2 ⟨l, H2, I2, pl, el, e2⟩ => ?_); subst el e2
  refine thn (po_none.run pins s2 σ H2 (fun o H3 => o = none ∧ H3 = H2) I2 ⟨rfl, rfl⟩) fun vu s3 ⟨u, H3, I3, pu, eu, e3⟩ => ?_; subst eu e3
  refine thn (hst.run pins s3 σ H3 (fun o H4 => o = some (-1) ∧ H4 = H3) I3 ⟨1, rfl, -1, rfl, rfl, rfl⟩) fun vs s4 ⟨o, H4, I4, ps, eo, e4⟩ => ?_; subst eo e4
  have I5 : Inv X pins σ H4 { s4 with heap := s4.heap.push { cls := .type "slice", data := .fields #[vl, vu, vs] } } := I4.kept (t' := s4.toks) fun b ob q => Heap.get?_push_of_some _ q
  obtain ⟨its, r, ht, hz⟩ := I5.tuple hx
  cases r with
  | cons ry r =>
    cases r with
    | cons rz r =>
      cases r
      show wpAny (model X.prog X.w) X.A (subscriptTail e (.Slice none none (some (.UnaryOp .USub (.Constant (.int 1) k p1) p2)) p3) (.ref a) (.ref s4.heap.objs.size)) (EP X pins σ Q) X.xe { s4 with heap := s4.heap.push { cls := .type "slice", data := .fields #[vl, vu, vs] } }
      refine tail_any (ops := [.ref a, .ref s4.heap.objs.size]) ht.typeIs PyProof.Rows.slot_tuple_getitem.lookup ?_ (by with_unfolding_all rfl)
      refine HT.getItem_rev2 ht (Heap.IsSliceOf.new _ vl vu vs) pl pu ps ?_
      refine ⟨.ref _, _, I5.laid (t' := s4.toks) (o := .tup [z, y]) (fun b ob q => Heap.get?_push_of_some _ q) (Nat.le_refl _) ?_, rfl, q _ (I5.hok.fresh (Nat.le_refl _))⟩
      exact ⟨by show 2 ≤ sizeLine; decide, _, .cons rz (.cons ry .nil), ⟨_, Heap.get?_push_size _ rfl, rfl, _, rfl⟩⟩
end L2
namespace ML
open PySem PySem.Spec L2
open PyProof.Rows hiding St
section
variable {X : Cx} {W : WX} {e : Expr} {pos : Pos} {m : ME}
/-- t[::-1] of a pair -/
def mRev2 (m : ME) : ME := fun σ S Q E => m σ S (fun d S1 => match tupOf d with
  | some [x, y] => Q (.tup [y, x]) S1
  | _ => False) E
theorem erev2 {k : Nat} {p1 p2 p3 : Pos} (he : PE X e (upE X.K W m)) : PE X (.Subscript e (.Slice none none (some (.UnaryOp .USub (.Constant (.int 1) k p1) p2)) p3) pos) (upE X.K W (mRev2 m)) :=
  (pe_rev2 he).to fun σ H Q ⟨m, S, Qm, Em, h1, h2, h3, h4, h5⟩ => ⟨m, S, _, Em, h1, h2, h3, fun d S1 v H1 q e1 s r => by
    dsimp only at q
    split at q
    · next x y ed =>
      cases d with
      | tup ds =>
        cases ed
        obtain ⟨a, vs, rfl, hq, rs⟩ := r.tupSq
        cases rs with
        | cons rx rs =>
          cases rs with
          | cons ry rs =>
            cases rs
            exact ⟨a, _, _, rfl, hq, fun p hp => h4 _ S1 _ _ q (e1.trans (Ext.new s hp)) (s.new hp) (.tup (.inl upd_same) (s.fresh hp) (.cons (ry.ext (Ext.new s hp)) (.cons (rx.ext (Ext.new s hp)) .nil)))⟩
      | _ => cases ed
    · exact q.elim, h5⟩
theorem l_mRev2 {σ : MSt} {S : Sto} {Q : MQ} {E : MXQ} : mRev2 m σ S Q E = m σ S (fun d S1 => match tupOf d with
  | some [x, y] => Q (.tup [y, x]) S1
  | _ => False) E := Eq.trans rfl rfl
/-- sum of a list of numbers -/
def intsOf : List D → Option (List Int)
  | [] => some []
  | .int i :: r => (intsOf r).map (i :: ·)
  | _ :: _ => none
theorem intsOf_map : ∀ ns : List Int, intsOf (ns.map .int) = some ns
  | [] => rfl
  | n :: ns => by rw [List.map_cons, intsOf, intsOf_map ns]; rfl
theorem intsOf_eq : ∀ {ds : List D} {ns : List Int}, intsOf ds = some ns → ds = ns.map .int
  | [], _, h => by cases h; rfl
  | d :: r, ns, h => by
    cases d with
    | int i =>
      rw [intsOf] at h
      cases e : intsOf r with
      | none => rw [e] at h; cases h
      | some ms => rw [e] at h; cases h; rw [intsOf_eq e]; rfl
    | _ => cases h
def bSum : List D → Sto → MQ → Prop := fun ds S Q => match ds with
  | [d] => optP ((lstOf S d).bind intsOf) fun ns => Q (.int ns.sum) S
  | _ => False
theorem cl_sum : CaL X.K (rSum X.K) bSum := by
  intro H S xs ds Qm Q s r h k
  unfold bSum at h
  split at h
  · next d =>
    obtain ⟨v, rfl, r1⟩ := rds1 r
    cases e : lstOf S d with
    | none => rw [e] at h; exact h.elim
    | some ys =>
      cases e2 : intsOf ys with
      | none =>
        have h' : optP ((lstOf S d).bind intsOf) _ := h
        rw [e, Option.bind_some, e2] at h'; exact h'.elim
      | some ns =>
        have h' : optP ((lstOf S d).bind intsOf) fun ns => Qm (.int ns.sum) S := h
        rw [e, Option.bind_some, e2] at h'
        have h2 : Qm (.int ns.sum) S := h'
        have := intsOf_eq e2
        subst this
        obtain ⟨a, us, rfl, hq, rs⟩ := lst_sq s r1 e
        have := RDs.ints rs
        subst this
        exact ⟨a, ns, rfl, hq, k _ S _ H h2 Ext.refl s (.int _)⟩
  · exact h.elim
theorem l_bSum {d : D} {S : Sto} {Q : MQ} : bSum [d] S Q = optP ((lstOf S d).bind intsOf) fun ns => Q (.int ns.sum) S := Eq.trans rfl rfl
end
end ML

set_option maxRecDepth 100000
/-! # dicts whose keys are spots; dicts whose keys are numbers -/
namespace ML
open PySem PySem.Spec L2
open PyProof.Rows hiding St
theorem nkey_inj {a b : K4} (h : nkey a = nkey b) : a = b := by
  obtain ⟨⟨a1, a2⟩, a3, a4⟩ := a
  obtain ⟨⟨b1, b2⟩, b3, b4⟩ := b
  simp only [nkey] at h
  injection h with h
  injection h with h1 h2
  injection h2 with h2 _
  injection h1 with h1
  injection h2 with h2
  injection h1 with h1 h3
  injection h2 with h2 h4
  injection h3 with h3 _
  injection h4 with h4 _
  injection h1 with h1
  injection h2 with h2
  injection h3 with h3
  injection h4 with h4
  rw [h1, h2, h3, h4]
theorem nkey_depth (k : K4) : (nkey k).depth ≤ 8 := by
  simp only [nkey, NestedKey.depth, NestedKey.depthAll]; decide
theorem nkey_hash (w : World) (k : K4) : (nkey k).hash w = hash4 k := by
  simp only [nkey, hash4, NestedKey.hash, NestedKey.hashes]
theorem nkey_draws (k : K4) : (nkey k).draws = 7 := rfl
/-- the kind of key -/
def spotKind (prog : Program) (w : World) : HeapKind prog w K4 where
  is := fun h k a => (nestedKind prog w).is h (nkey k) a
  hash := hash4
  draws := fun k => (nestedKind prog w).draws (nkey k)
  room := fun A => (nestedKind prog w).room A
  inj := fun hx hy => nkey_inj ((nestedKind prog w).inj hx hy)
  keeps := fun x ho hd hs => (nestedKind prog w).keeps x ho hd hs
  pyHash := fun {A E s k a Q} hu hk h => (nestedKind prog w).pyHash hu hk (by
    show Q (NestedKey.hash w (nkey k)) _
    rw [nkey_hash]; exact h)
  eqBool := fun {A E s x y a b Q} hu hx hy h => (nestedKind prog w).eqBool hu hx hy (by
    have e : decide (nkey x = nkey y) = decide (x = y) := by
      rw [decide_eq_decide]; exact ⟨nkey_inj, fun z => by rw [z]⟩
    rw [e]; exact h)
  quiet := fun {A E s k a Q} hk h => (nestedKind prog w).quiet hk h

/-! ### over the hand layer -/
/-- v is the key k -/
def KeyV (K : PySem.W.Frag) (H : Hp) (k : K4) (v : V) : Prop := ∃ p p1 p2, v = .ref p ∧ SqT K H p [.ref p1, .ref p2] ∧ SqT K H p1 [.int k.1.1, .int k.1.2] ∧ SqT K H p2 [.int k.2.1, .int k.2.2]
section
variable {X : Cx} {pins : List (Addr × Obj)} {σ : L2.St} {H : Hp} {s : Shared} {a p : Addr} {k : K4} {A : Around} {E : Value → Shared → Prop}
theorem two_at {a b : V} {its : List Value} (r : Vals [a, b] its) : ∃ u v, its = [u, v] ∧ RelV a u ∧ RelV b v := by
  cases r with
  | cons r1 r => cases r with
    | cons r2 r => cases r; exact ⟨_, _, rfl, r1, r2⟩
theorem ints_is (I : Inv X pins σ H s) {i j : Int} (h : SqT X.K H p [.int i, .int j]) : NestedIs s.heap (.tup [.num i, .num j]) (.ref p) := by
  obtain ⟨its, r, ⟨o, e1, e2, n, e3⟩, _⟩ := I.tuple h
  obtain ⟨u, v, rfl, r1, r2⟩ := two_at r
  obtain ⟨t1, rfl⟩ := r1
  obtain ⟨t2, rfl⟩ := r2
  exact .tup e1 e2 e3 (.cons (.int _ _) (.cons (.int _ _) .nil))
theorem key_is (I : Inv X pins σ H s) (h : KeyV X.K H k (.ref p)) : (spotKind X.prog X.w).is s.heap k p := by
  obtain ⟨p', p1, p2, e, h0, h1, h2⟩ := h
  cases e
  obtain ⟨its, r, ⟨o, e1, e2, n, e3⟩, _⟩ := I.tuple h0
  obtain ⟨u, v, rfl, r1, r2⟩ := two_at r
  obtain rfl : u = Value.ref p1 := r1
  obtain rfl : v = Value.ref p2 := r2
  exact ⟨.tup e1 e2 e3 (.cons (ints_is I h1) (.cons (ints_is I h2) .nil)), nkey_depth k⟩
theorem entry4_eq {P : Program} {w : World} : entry4 = entryOfKey (spotKind P w) := rfl
/-- the dict at a, its keys seen -/
structure DSat (K : PySem.W.Frag) (H : Hp) (a : Addr) (xs : List (K4 × Addr × Value)) : Prop where
  at' : H a = some (DicS xs a)
  sys : (a == sysModules) = false
  key : ∀ x ∈ xs, KeyV K H x.1 (.ref x.2.1)
theorem DSat.of (I : Inv X pins σ H s) {xs : List (K4 × Addr × Value)} (d : DSat X.K H a xs) : s.heap.DictOfH (spotKind X.prog X.w) a xs := by
  obtain ⟨⟨o, es, ep, h1, h2, h3, h4, h5⟩, _⟩ := I.hok a _ d.at'
  exact ⟨o, es, ep, h1, h2, h3, h4, fun x hx => key_is I (d.key x hx), h5⟩
theorem dicS_new {H : Hp} {h : Heap} {P : Program} {w : World} {xs : List (K4 × Addr × Value)} (d : h.DictOfH (spotKind P w) a xs) : ObjOk P w H h a (DicS xs a) := by
  obtain ⟨o, es, ep, h1, h2, h3, h4, _, h5⟩ := d
  exact ⟨⟨o, es, ep, h1, h2, h3, h4, h5⟩, ⟨o, h1⟩, fun g1 g2 ⟨o', es', ep', k1, k2, k3, k4, k5⟩ k => ⟨o', es', ep', k o' k1, k2, k3, k4, k5⟩⟩
theorem DSat.type (I : Inv X pins σ H s) {xs : List (K4 × Addr × Value)} (d : DSat X.K H a xs) :
    s.TypeIs (.ref a) "dict" ∧ (∀ b, Value.ref a = .ref b → ∃ ob, s.heap.get? b = some ob ∧ ob.dict = none) := by
  have dd := d.of I
  refine ⟨dd.typeIs, fun b q => ?_⟩
  cases q
  obtain ⟨ob, _, _, h1, h2, _⟩ := dd
  exact ⟨ob, h1, h2.2.1⟩
/-- {}, to be a dict of spots -/
def tDNewS : TE := fun _ H Q => ∀ p, H p = none → (p == sysModules) = false → Q (.ref p) (upd H p (DicS [] p))
theorem pe_dnewS {pos : Pos} : PE X (.Dict [] [] pos) tDNewS := ⟨fun pins s σ H Q I h =>
  wpAny_Dict_empty ⟨.ref s.heap.objs.size, _, I.laid (a := s.heap.objs.size) (o := DicS [] s.heap.objs.size) (t' := s.toks) (fun _ _ q => Heap.get?_push_of_some _ q) (Nat.le_refl _)
    (dicS_new (P := X.prog) (w := X.w) ⟨_, #[], 0, Heap.get?_push_size _ rfl, ⟨rfl, rfl, rfl⟩, rfl, rfl, fun x hx => (nomatch hx), List.nodup_nil⟩), rfl,
    h _ (I.hok.fresh (Nat.le_refl _)) (beq_eq_false_iff_ne.mpr (Ne.symm (Nat.ne_of_lt I.big)))⟩⟩
/-- d[k] -/
def tSGet (K : PySem.W.Frag) (td ty : TE) : TE := fun σ H Q => td σ H fun x H1 => ty σ H1 fun y H2 => ∃ a xs k p v, x = .ref a ∧ DSat K H2 a xs ∧ y = .ref p ∧ KeyV K H2 k (.ref p) ∧
  (∃ u, atKey xs k = some u ∧ RelV v u.2) ∧ Q v H2
theorem pe_sget {o i : Expr} {td ty : TE} {pos : Pos} (hu : X.A.units + 9 < cLine) (ho : PE X o td) (hi : PE X i ty) (hs : NoSl i) : PE X (.Subscript o i pos) (tSGet X.K td ty) := by
  refine ⟨fun pins s σ H Q I h => ?_⟩
  refine subD_of PySem.F.slot_dict_getitem.lookup hs (thn (ho.run pins s σ H _ I h) fun u s1 ⟨x, H1, I1, rx, q1⟩ => thn (hi.run pins s1 σ H1 _ I1 q1) fun iv s2 ⟨y, H2, I2, ry, a, xs, k, p, v, ex, d, ey, hk, ⟨u', hu', ru⟩, q2⟩ => ?_)
  subst ex ey
  obtain rfl : u = Value.ref a := rx
  obtain rfl : iv = Value.ref p := ry
  refine ⟨(d.type I2).1, wpAny_getItem_heap (knd := spotKind X.prog X.w) ?_ (key_is I2 hk) (d.of I2) hu' ⟨v, H2, I2.tok _, ru, q2⟩⟩
  show X.A.in1.units + 8 < cLine
  show X.A.units + 1 + 8 < cLine
  omega
/-- d.setdefault(k, z) -/
def tSSetd (K : PySem.W.Frag) (td ty tx : TE) : TE := fun σ H Q => td σ H fun x H1 => ∃ a, x = .ref a ∧ (∃ xs, DSat K H1 a xs) ∧ ty σ H1 fun y H2 => tx σ H2 fun z H3 => ∃ xs k p, DSat K H3 a xs ∧ xs.length < sizeLine ∧ y = .ref p ∧ KeyV K H3 k (.ref p) ∧
  (∀ u, atKey xs k = some u → ∃ v, RelV v u.2 ∧ Q v H3) ∧ (atKey xs k = none → ∀ u, RelV z u → Q z (upd H3 a (DicS (xs ++ [(k, p, u)]) a)))
theorem pe_ssetd {o e f : Expr} {td ty tx : TE} {apos cpos : Pos} (hu : X.A.units + 9 < cLine) (ho : PE X o td) (he : PE X e ty) (hf : PE X f tx) (m : M2 X o "setdefault" apos e f cpos) : PE X (.Call (.Attribute o "setdefault" apos) [e, f] [] cpos) (tSSetd X.K td ty tx) := by
  refine ⟨fun pins s σ H Q I h => ?_⟩
  refine wpAny_Call_method m.base m.few m.line PySem.F.plainAttrs_dict PySem.F.slot_dict_setdefault PySem.F.type_dict_setdefault (thn (ho.run pins s σ H _ I h) fun u s1 ⟨x, H1, I1, rx, a, ex, ⟨xs1, d1⟩, q1⟩ => ?_)
  subst ex
  obtain rfl : u = Value.ref a := rx
  obtain ⟨t1, t2⟩ := d1.type I1
  refine ⟨t1, t2, ?_⟩
  rw [m.trees]
  refine Calls.callWith_builtin rfl (Calls.evalArgs_plain (Calls.spliced_cons (thn (he.run pins s1 σ H1 _ I1 q1) fun iv s2 ⟨y, H2, I2, ry, q2⟩ =>
    Calls.spliced_cons (thn (hf.run pins s2 σ H2 _ I2 q2) fun fv s3 ⟨z, H3, I3, rz, xs, k, p, d, hl, ey, hk, q3, q4⟩ => Calls.spliced_nil ?_))))
  subst ey
  obtain rfl : iv = Value.ref p := ry
  refine call_setdefault_heap (knd := spotKind X.prog X.w) ?_ (key_is I3 hk) d.sys (d.of I3) (fun u hu => ?_) (fun hn h' hm' hs => ?_) (by omega)
  · show X.A.units + 1 + 8 < cLine
    omega
  · obtain ⟨v, rv, qv⟩ := q3 u hu
    exact ⟨v, H3, I3.tok _, rv, qv⟩
  · rw [storedH_new hn] at hm'
    have he' : ∃ q, h'.get? a = some q := let ⟨q, _, _, hq, _⟩ := hm'; ⟨q, hq⟩
    exact ⟨z, _, d_write (t' := _) I3 (by rw [d.at']; exact True.intro) hs he' (dicS_new hm'), rz, q4 hn _ rz⟩
end
end ML
namespace ML
open PySem PySem.Spec L2
open PyProof.Rows hiding St
/-! ### readings -/
def k4Of : D → Option K4
  | .tup [.tup [.int a, .int b], .tup [.int c, .int d]] => some ((a, b), (c, d))
  | _ => none
theorem k4Of_at {d : D} {k : K4} (h : k4Of d = some k) : d = k4D k := by
  unfold k4Of at h
  split at h
  · cases h; rfl
  · cases h
theorem k4Of_k {k : K4} : k4Of (k4D k) = some k := rfl
theorem RD.key {K : PySem.W.Frag} {H : Hp} {S : Sto} {k : K4} {v : V} (r : RD K H S v (k4D k)) : ∃ p, v = .ref p ∧ KeyV K H k v := by
  obtain ⟨a, vs, rfl, h1, r1⟩ := RD.tupSq r
  cases r1 with
  | cons ra r1 => cases r1 with
    | cons rb r1 =>
      cases r1
      obtain ⟨p1, vs1, rfl, h2, r2⟩ := RD.tupSq ra
      obtain ⟨p2, vs2, rfl, h3, r3⟩ := RD.tupSq rb
      cases r2 with
      | cons x1 r2 => cases r2 with
        | cons x2 r2 =>
          cases r2
          cases r3 with
          | cons y1 r3 => cases r3 with
            | cons y2 r3 =>
              cases r3
              cases x1; cases x2; cases y1; cases y2
              exact ⟨a, rfl, a, p1, p2, rfl, h1, h2, h3⟩
def dsO : Option MO → Option (List (K4 × D))
  | some (.dS k) => some k
  | _ => none
def dsD (S : Sto) : D → Option (List (K4 × D))
  | .ref p => dsO (S p)
  | _ => none
theorem dsO_at {o : Option MO} {kvs : List (K4 × D)} (h : dsO o = some kvs) : o = some (.dS kvs) := by
  cases o with
  | none => cases h
  | some u => cases u with
    | dS k => cases h; rfl
    | _ => cases h
theorem dsO_dS {kvs : List (K4 × D)} : dsO (some (.dS kvs)) = some kvs := Eq.trans rfl rfl
theorem dsD_ref {S : Sto} {p : Addr} : dsD S (.ref p) = dsO (S p) := Eq.trans rfl rfl
theorem dsD_at {S : Sto} {d : D} {kvs : List (K4 × D)} (h : dsD S d = some kvs) : ∃ p, d = .ref p ∧ S p = some (.dS kvs) := by
  cases d with
  | ref p => exact ⟨p, rfl, dsO_at h⟩
  | _ => cases h
section
variable {K : PySem.W.Frag} {H : Hp} {S : Sto}
theorem R4.keys : ∀ {kvs : List (K4 × D)} {xs : List (K4 × Addr × Value)}, R4 K H S kvs xs → ∀ x ∈ xs, KeyV K H x.1 (.ref x.2.1)
  | _, _, .nil, x, hx => nomatch hx
  | _, _, .cons ⟨h1, h2, _⟩ r, x, hx => by
    rcases List.mem_cons.mp hx with e | hx
    · subst e
      obtain ⟨_, _, hk⟩ := RD.key h2
      rw [← h1]; exact hk
    · exact R4.keys r x hx
theorem dsat (s : RSto K H S) {a : Addr} {kvs : List (K4 × D)} (h : S a = some (.dS kvs)) : ∃ xs, DSat K H a xs ∧ R4 K H S kvs xs := by
  obtain ⟨xs, h1, h2, r⟩ := s a _ h
  exact ⟨xs, ⟨h1, h2, r.keys⟩, r⟩
theorem R4.length {kvs : List (K4 × D)} {xs : List (K4 × Addr × Value)} (r : R4 K H S kvs xs) : kvs.length = xs.length := Paired.length r
theorem R4.val (k : K4) : ∀ {kvs : List (K4 × D)} {xs : List (K4 × Addr × Value)}, R4 K H S kvs xs → (∀ v, valD kvs k = some v → ∃ u w, atKey xs k = some u ∧ RelV w u.2 ∧ RD K H S w v) ∧ (valD kvs k = none ↔ atKey xs k = none)
  | _, _, .nil => ⟨fun v h => (by cases h), fun _ => rfl, fun _ => rfl⟩
  | p :: ps, q :: qs, .cons ⟨h1, h2, w, h3, h4⟩ r => by
    have ih := R4.val k r
    unfold valD atKey at *
    rw [List.find?_cons, List.find?_cons]
    by_cases e : p.1 = k
    · have e2 : q.1 = k := h1.symm.trans e
      simp only [e, e2, decide_true]
      exact ⟨fun v hv => by cases hv; exact ⟨_, w, rfl, h3, h4⟩, by simp⟩
    · have e2 : ¬ q.1 = k := fun z => e (h1.trans z)
      simp only [e, e2, decide_false]
      exact ih
theorem R4.snoc {k : K4} {p : Addr} {v : V} {u : Value} {d : D} (hk : RD K H S (.ref p) (k4D k)) (hv : RelV v u) (hd : RD K H S v d) : ∀ {kvs : List (K4 × D)} {xs : List (K4 × Addr × Value)}, R4 K H S kvs xs → R4 K H S (kvs ++ [(k, d)]) (xs ++ [(k, p, u)])
  | _, _, .nil => .cons ⟨rfl, hk, v, hv, hd⟩ .nil
  | _, _, .cons h r => .cons h (R4.snoc hk hv hd r)
end
section
variable {X : Cx} {W : WX} {e o i f : Expr} {pos : Pos} {mo mi mx : ME} {A : Around}
/-- {} -/
def mSNew : ME := fun _ S Q _ => ∀ p, S p = none → Q (.ref p) (put S p (.dS []))
theorem esnew : PE X (.Dict [] [] pos) (upE X.K W mSNew) := pe_dnewS.to fun σ H Q ⟨m, S, Qm, Em, h1, h2, h3, h4, h5⟩ p hp hs =>
  h4 _ _ _ _ (h3 p (h2.fresh hp)) (Ext.newS h2 hp) (h2.newS hp ⟨[], upd_same, hs, .nil⟩) (.ref p)
/-- d[k] -/
def mSGet (mo mi : ME) : ME := fun σ S Q E => mo σ S (fun d S1 => mi σ S1 (fun y S2 => optP (k4Of y) fun k => optP (dsD S2 d) fun kvs => optP (valD kvs k) fun v => Q v S2) E) E
theorem esget (hA : A.units + 65 < cLine) (ho : PE X o (upE X.K W mo)) (hi : PE X i (upE X.K W mi)) (eA : X.A = A := by rfl) (hs : NoSl i := by intros _ _; rfl) : PE X (.Subscript o i pos) (upE X.K W (mSGet mo mi)) :=
  (pe_sget (by rw [eA]; omega) ho hi hs).to fun σ H Q ⟨m, S, Qm, Em, h1, h2, h3, h4, h5⟩ => ⟨m, S, _, Em, h1, h2, h3, fun d S1 v H1 q1 e1 s1 r1 => ⟨m, S1, _, Em, h1.ext e1, s1, q1, fun y S2 w H2 q2 e2 s2 r2 => by
    dsimp only at q2
    cases hk : k4Of y with
    | none => rw [hk] at q2; exact q2.elim
    | some k =>
      cases hd : dsD S2 d with
      | none => rw [hk, hd] at q2; exact q2.elim
      | some kvs =>
        cases hv : valD kvs k with
        | none =>
          rw [hk, hd] at q2
          have q3 : optP (valD kvs k) _ := q2
          rw [hv] at q3; exact q3.elim
        | some x =>
          rw [hk, hd] at q2
          have q3 : optP (valD kvs k) fun v => Qm v S2 := q2
          rw [hv] at q3
          have q4 : Qm x S2 := q3
          obtain ⟨a, rfl, ha⟩ := dsD_at hd
          obtain rfl := k4Of_at hk
          have r1' := r1.ext e2
          cases r1'
          obtain ⟨xs, ds, r⟩ := dsat s2 ha
          obtain ⟨p, rfl, hkv⟩ := RD.key r2
          obtain ⟨u, wv, hu, rw', rd⟩ := (r.val k).1 x hv
          exact ⟨a, xs, k, p, wv, rfl, ds, rfl, hkv, ⟨u, hu, rw'⟩, h4 _ S2 _ H2 q4 (e1.trans e2) s2 rd⟩, h5.ext e1⟩, h5⟩
/-- d.setdefault(k, z) -/
def mSSetd (mo mi mx : ME) : ME := fun σ S Q E => mo σ S (fun d S1 => (∃ kvs, dsD S1 d = some kvs) ∧ mi σ S1 (fun y S2 => mx σ S2 (fun z S3 => optP (k4Of y) fun k => match d with
  | .ref p => optP (dsO (S3 p)) fun kvs => kvs.length < sizeLine ∧ (∀ v, valD kvs k = some v → Q v S3) ∧ (valD kvs k = none → Q z (put S3 p (.dS (kvs ++ [(k, z)]))))
  | _ => False) E) E) E
theorem essetd {apos cpos : Pos} (hA : A.units + 65 < cLine) (ho : PE X o (upE X.K W mo)) (he : PE X e (upE X.K W mi)) (hf : PE X f (upE X.K W mx)) (eA : X.A = A := by rfl) (m : M2 X o "setdefault" apos e f cpos := by exact ⟨by rfl, by rfl, by rfl, by rfl⟩) :
    PE X (.Call (.Attribute o "setdefault" apos) [e, f] [] cpos) (upE X.K W (mSSetd mo mi mx)) :=
  (pe_ssetd (by rw [eA]; omega) ho he hf m).to fun σ H Q ⟨m, S, Qm, Em, h1, h2, h3, h4, h5⟩ => ⟨m, S, _, Em, h1, h2, h3, fun d S1 v H1 q1 e1 s1 r1 => by
    obtain ⟨⟨kvs1, hd1⟩, q1⟩ := q1
    obtain ⟨a, rfl, ha1⟩ := dsD_at hd1
    cases r1
    obtain ⟨xs1, ds1, _⟩ := dsat s1 ha1
    refine ⟨a, rfl, ⟨xs1, ds1⟩, m, S1, _, Em, h1.ext e1, s1, q1, fun y S2 w H2 q2 e2 s2 r2 => ⟨m, S2, _, Em, h1.ext (e1.trans e2), s2, q2, fun z S3 w3 H3 q3 e3 s3 r3 => ?_, h5.ext (e1.trans e2)⟩, h5.ext e1⟩
    cases hk : k4Of y with
    | none => rw [hk] at q3; exact q3.elim
    | some k =>
      cases hd : dsO (S3 a) with
      | none =>
        rw [hk] at q3
        have q4 : optP (dsO (S3 a)) _ := q3
        rw [hd] at q4; exact q4.elim
      | some kvs =>
        rw [hk] at q3
        have q4 : optP (dsO (S3 a)) _ := q3
        rw [hd] at q4
        obtain ⟨hz, qa, qb⟩ : kvs.length < sizeLine ∧ (∀ v, valD kvs k = some v → Qm v S3) ∧ (valD kvs k = none → Qm z (put S3 a (.dS (kvs ++ [(k, z)])))) := q4
        have ha := dsO_at hd
        obtain rfl := k4Of_at hk
        obtain ⟨xs, ds, r⟩ := dsat s3 ha
        have r2' := r2.ext e3
        obtain ⟨p, rfl, hkv⟩ := RD.key r2'
        have X3 := (e1.trans e2).trans e3
        refine ⟨xs, k, p, ds, by rw [← r.length]; exact hz, rfl, hkv, fun u hu => ?_, fun hn u ru => ?_⟩
        · cases hv : valD kvs k with
          | none => rw [(r.val k).2.mp hv] at hu; cases hu
          | some v =>
            obtain ⟨u', w', hu', rw', rd⟩ := (r.val k).1 v hv
            rw [hu] at hu'; cases hu'
            exact ⟨w', rw', h4 _ S3 _ H3 (qa v hv) X3 s3 rd⟩
        · have hv := (r.val k).2.mpr hn
          have X4 := Ext.chg (H := H3) (S := S3) (p := a) (u := DicS (xs ++ [(k, p, u)]) a) (o := .dS (kvs ++ [(k, z)])) ha
          exact h4 _ _ _ _ (qb hv) (X3.trans X4) (s3.chg ha ⟨_, upd_same, ds.sys, R4.snoc (r2'.ext X4) ru (r3.ext X4) (r.ext X4)⟩) (r3.ext X4), h5⟩
theorem l_mSNew {σ : MSt} {S : Sto} {Q : MQ} {E : MXQ} : mSNew σ S Q E = ∀ p, S p = none → Q (.ref p) (put S p (.dS [])) := Eq.trans rfl rfl
theorem l_mSGet {σ : MSt} {S : Sto} {Q : MQ} {E : MXQ} : mSGet mo mi σ S Q E = mo σ S (fun d S1 => mi σ S1 (fun y S2 => optP (k4Of y) fun k => optP (dsD S2 d) fun kvs => optP (valD kvs k) fun v => Q v S2) E) E := Eq.trans rfl rfl
theorem l_mSSetd {σ : MSt} {S : Sto} {Q : MQ} {E : MXQ} : mSSetd mo mi mx σ S Q E = mo σ S (fun d S1 => (∃ kvs, dsD S1 d = some kvs) ∧ mi σ S1 (fun y S2 => mx σ S2 (fun z S3 => optP (k4Of y) fun k => match d with
  | .ref p => optP (dsO (S3 p)) fun kvs => kvs.length < sizeLine ∧ (∀ v, valD kvs k = some v → Q v S3) ∧ (valD kvs k = none → Q z (put S3 p (.dS (kvs ++ [(k, z)]))))
  | _ => False) E) E) E := Eq.trans rfl rfl
theorem dsD_some {S : Sto} {p : Addr} {kvs : List (K4 × D)} (h : S p = some (.dS kvs)) : (∃ k, dsD S (.ref p) = some k) = True := eq_true ⟨kvs, by rw [dsD_ref, h]; rfl⟩
/-! ### dicts whose keys are numbers -/
def dkO : Option MO → Option (List (Key × D))
  | some (.dK k) => some k
  | _ => none
def dkD (S : Sto) : D → Option (List (Key × D))
  | .ref p => dkO (S p)
  | _ => none
theorem dkO_at {o : Option MO} {kvs : List (Key × D)} (h : dkO o = some kvs) : o = some (.dK kvs) := by
  cases o with
  | none => cases h
  | some u => cases u with
    | dK k => cases h; rfl
    | _ => cases h
theorem dkO_dK {kvs : List (Key × D)} : dkO (some (.dK kvs)) = some kvs := Eq.trans rfl rfl
theorem dkD_ref {S : Sto} {p : Addr} : dkD S (.ref p) = dkO (S p) := Eq.trans rfl rfl
theorem dkD_at {S : Sto} {d : D} {kvs : List (Key × D)} (h : dkD S d = some kvs) : ∃ p, d = .ref p ∧ S p = some (.dK kvs) := by
  cases d with
  | ref p => exact ⟨p, rfl, dkO_at h⟩
  | _ => cases h
theorem keyD_ok {K : PySem.W.Frag} {H : Hp} {S : Sto} {v : V} {d : D} {k : Key} (r : RD K H S v d) (h : keyD d = some k) : v = kV k := by
  cases d with
  | int i => cases h; cases r; rfl
  | str x => cases h; cases r; rfl
  | _ => cases h
theorem RKs.val {κ : Type} [DecidableEq κ] {K : PySem.W.Frag} {H : Hp} {S : Sto} (k : κ) : ∀ {vs : List (κ × V)} {ds : List (κ × D)}, RKs K H S vs ds → ∀ d, valD ds k = some d → ∃ v, L2.valV vs k = some v ∧ RD K H S v d
  | _, _, .nil, d, h => by cases h
  | _, _, .cons (k := j) hr r, d, h => by
    have ih := RKs.val k r d
    unfold L2.valV valD at *
    rw [List.find?_cons] at h ⊢
    by_cases e : j = k
    · simp only [e, decide_true] at h ⊢
      cases h; exact ⟨_, rfl, hr⟩
    · simp only [e, decide_false] at h ⊢
      exact ih h
/-- {} -/
def mKNew : ME := fun _ S Q _ => ∀ p, S p = none → Q (.ref p) (put S p (.dK []))
theorem eknew : PE X (.Dict [] [] pos) (upE X.K W mKNew) := pe_dnewK.to fun σ H Q ⟨m, S, Qm, Em, h1, h2, h3, h4, h5⟩ p hp =>
  h4 _ _ _ _ (h3 p (h2.fresh hp)) (Ext.newS h2 hp) (h2.newS hp ⟨[], upd_same, .nil⟩) (.ref p)
/-- k in d -/
def mKIn (neg : Bool) (mi mo : ME) : ME := fun σ S Q E => mi σ S (fun y S1 => mo σ S1 (fun d S2 => optP (keyD y) fun k => optP (dkD S2 d) fun kvs => Q (.bl (if neg then !(valD kvs k).isSome else (valD kvs k).isSome)) S2) E) E
theorem kin_to {neg : Bool} (σ : L2.St) (H : Hp) (Q : VK) (h : upE X.K W (mKIn neg mi mo) σ H Q) : upE X.K W mi σ H fun y H1 => upE X.K W mo σ H1 fun x H2 => ∃ a o, x = .ref a ∧ DGet H2 a y o ∧ Q (.bl (if neg then !o.isSome else o.isSome)) H2 := by
  obtain ⟨m, S, Qm, Em, h1, h2, h3, h4, h5⟩ := h
  refine ⟨m, S, _, Em, h1, h2, h3, fun y S1 w H1 q1 e1 s1 r1 => ⟨m, S1, _, Em, h1.ext e1, s1, q1, fun d S2 v H2 q2 e2 s2 r2 => ?_, h5.ext e1⟩, h5⟩
  dsimp only at q2
  cases hk : keyD y with
  | none => rw [hk] at q2; exact q2.elim
  | some k =>
    cases hd : dkD S2 d with
    | none => rw [hk, hd] at q2; exact q2.elim
    | some kvs =>
      rw [hk, hd] at q2
      have q3 : Qm (.bl (if neg then !(valD kvs k).isSome else (valD kvs k).isSome)) S2 := q2
      obtain ⟨a, rfl, ha⟩ := dkD_at hd
      cases r2
      obtain ⟨ws, ew, rw1⟩ := s2 a _ ha
      rw [keyD_ok r1 hk]
      refine ⟨a, _, rfl, .k ew, ?_⟩
      rw [RKs.valV k rw1]
      exact h4 _ S2 _ H2 q3 (e1.trans e2) s2 (.bl _)
theorem ekin (hA : A.units + 65 < cLine) (hi : PE X i (upE X.K W mi)) (ho : PE X o (upE X.K W mo)) (eA : X.A = A := by rfl) (hm : behindInMarks .In o = false := by first | exact nomark _ | with_unfolding_all rfl) : PE X (.Compare i [.In] [o] pos) (upE X.K W (mKIn false mi mo)) :=
  (pe_cmp (pc_din (by rw [eA]; omega) hi ho) hm).to fun σ H Q h => kin_to σ H Q h
theorem eknin (hA : A.units + 65 < cLine) (hi : PE X i (upE X.K W mi)) (ho : PE X o (upE X.K W mo)) (eA : X.A = A := by rfl) (hm : behindInMarks .NotIn o = false := by first | exact nomark _ | with_unfolding_all rfl) : PE X (.Compare i [.NotIn] [o] pos) (upE X.K W (mKIn true mi mo)) :=
  (pe_cmp (pc_dnotin (by rw [eA]; omega) hi ho) hm).to fun σ H Q h => kin_to σ H Q h
theorem tkin (hA : A.units + 65 < cLine) (hi : PE X i (upE X.K W mi)) (ho : PE X o (upE X.K W mo)) (eA : X.A = A := by rfl) (hm : behindInMarks .In o = false := by first | exact nomark _ | with_unfolding_all rfl) : PT X (.Compare i [.In] [o] pos) (upT X.K W (mTst (mKIn false mi mo))) :=
  (pt_cmp (pc_din (by rw [eA]; omega) hi ho) hm).to (tst_to fun σ H Q h => kin_to σ H Q h)
theorem tknin (hA : A.units + 65 < cLine) (hi : PE X i (upE X.K W mi)) (ho : PE X o (upE X.K W mo)) (eA : X.A = A := by rfl) (hm : behindInMarks .NotIn o = false := by first | exact nomark _ | with_unfolding_all rfl) : PT X (.Compare i [.NotIn] [o] pos) (upT X.K W (mTst (mKIn true mi mo))) :=
  (pt_cmp (pc_dnotin (by rw [eA]; omega) hi ho) hm).to (tst_to fun σ H Q h => kin_to σ H Q h)
/-- d[k], a number's -/
def mKGet (mo mi : ME) : ME := fun σ S Q E => mo σ S (fun d S1 => mi σ S1 (fun y S2 => optP (keyD y) fun k => optP (dkD S2 d) fun kvs => optP (valD kvs k) fun v => Q v S2) E) E
theorem ekget (hA : A.units + 65 < cLine) (ho : PE X o (upE X.K W mo)) (hi : PE X i (upE X.K W mi)) (eA : X.A = A := by rfl) (hs : NoSl i := by intros _ _; rfl) : PE X (.Subscript o i pos) (upE X.K W (mKGet mo mi)) :=
  (pe_dget (by rw [eA]; omega) ho hi hs).to fun σ H Q ⟨m, S, Qm, Em, h1, h2, h3, h4, h5⟩ => ⟨m, S, _, Em, h1, h2, h3, fun d S1 v H1 q1 e1 s1 r1 => ⟨m, S1, _, Em, h1.ext e1, s1, q1, fun y S2 w H2 q2 e2 s2 r2 => by
    dsimp only at q2
    cases hk : keyD y with
    | none => rw [hk] at q2; exact q2.elim
    | some k =>
      cases hd : dkD S2 d with
      | none => rw [hk, hd] at q2; exact q2.elim
      | some kvs =>
        cases hv : valD kvs k with
        | none =>
          rw [hk, hd] at q2
          have q3 : optP (valD kvs k) _ := q2
          rw [hv] at q3; exact q3.elim
        | some x =>
          rw [hk, hd] at q2
          have q3 : optP (valD kvs k) fun v => Qm v S2 := q2
          rw [hv] at q3
          have q4 : Qm x S2 := q3
          obtain ⟨a, rfl, ha⟩ := dkD_at hd
          have r1' := r1.ext e2
          cases r1'
          obtain ⟨ws, ew, rw1⟩ := s2 a _ ha
          obtain ⟨vv, hvv, rd⟩ := RKs.val k rw1 x hv
          exact ⟨a, vv, rfl, by rw [keyD_ok r2 hk, ← hvv]; exact .k ew, h4 _ S2 _ H2 q4 (e1.trans e2) s2 rd⟩, h5.ext e1⟩, h5⟩
/-- d[k] = v -/
def mKPut (mv mo mi : ME) : MS := fun De σ S => mv σ S (fun v S1 => mo σ S1 (fun d S2 => mi σ S2 (fun y S3 => optP (keyD y) fun k => match d with
  | .ref p => optP (dkO (S3 p)) fun kvs => kvs.length < sizeLine ∧ Go De.nx σ (put S3 p (.dK (putD kvs k v)))
  | _ => False) (xAt De σ)) (xAt De σ)) (xAt De σ)
theorem skput {v : Expr} {pos' : Pos} {mv : ME} (hu : X.A.units + 65 < cLine) (hv : PE X v (upE X.K W mv)) (ho : PE X o (upE X.K W mo)) (hi : PE X i (upE X.K W mi)) (hs : swapsWith v (some (.Subscript o i pos')) pos.line X.env = pure false := by first | rfl | kernel_rfl) :
    PS X (.Assign [.Subscript o i pos'] v pos) (upS X.K W (mKPut mv mo mi)) :=
  L2.PS.to (ps_dput (by omega) ho hi hv hs) fun D σ H ⟨m, S, Dm, h1, h2, h3, h4⟩ => by
    refine ⟨m, S, _, _, h1, h2, h3, fun v S1 x H1 q1 e1 s1 r1 => ⟨m, S1, _, _, h1.ext e1, s1, q1, fun d S2 y H2 q2 e2 s2 r2 => ⟨m, S2, _, _, h1.ext (e1.trans e2), s2, q2, fun yy S3 vv H3 q3 e3 s3 r3 => ?_, (xAt_ref h1 h4.ex).ext (e1.trans e2)⟩, (xAt_ref h1 h4.ex).ext e1⟩, xAt_ref h1 h4.ex⟩
    dsimp only at q3
    cases hk : keyD yy with
    | none => rw [hk] at q3; exact q3.elim
    | some k =>
      rw [hk] at q3
      cases d with
      | ref a =>
        cases hd : dkO (S3 a) with
        | none =>
          have q4 : optP (dkO (S3 a)) _ := q3
          rw [hd] at q4; exact q4.elim
        | some kvs =>
          have q4 : optP (dkO (S3 a)) _ := q3
          rw [hd] at q4
          obtain ⟨hz, q5⟩ : kvs.length < sizeLine ∧ Go Dm.nx m (put S3 a (.dK (putD kvs k v))) := q4
          cases r2
          have ha := dkO_at hd
          obtain ⟨ws, ew, rw1⟩ := s3 a _ ha
          rw [keyD_ok r3 hk]
          refine ⟨a, _, rfl, .k ew (by rw [rw1.length]; exact hz), ?_⟩
          have X4 := Ext.chg (H := H3) (S := S3) (p := a) (u := .dK (putK ws k x)) (o := .dK (putD kvs k v)) ha
          have rv := ((r1.ext e2).ext e3).ext X4
          exact h4.nx m _ σ _ q5 (((e1.trans e2).trans e3).trans X4) (s3.chg ha ⟨_, upd_same, RKs.put rv (rw1.ext X4)⟩) (h1.ext (((e1.trans e2).trans e3).trans X4))
      | _ => exact q3.elim
theorem l_mKNew {σ : MSt} {S : Sto} {Q : MQ} {E : MXQ} : mKNew σ S Q E = ∀ p, S p = none → Q (.ref p) (put S p (.dK [])) := Eq.trans rfl rfl
theorem l_mKIn {neg : Bool} {σ : MSt} {S : Sto} {Q : MQ} {E : MXQ} : mKIn neg mi mo σ S Q E = mi σ S (fun y S1 => mo σ S1 (fun d S2 => optP (keyD y) fun k => optP (dkD S2 d) fun kvs => Q (.bl (if neg then !(valD kvs k).isSome else (valD kvs k).isSome)) S2) E) E := Eq.trans rfl rfl
theorem l_mKGet {σ : MSt} {S : Sto} {Q : MQ} {E : MXQ} : mKGet mo mi σ S Q E = mo σ S (fun d S1 => mi σ S1 (fun y S2 => optP (keyD y) fun k => optP (dkD S2 d) fun kvs => optP (valD kvs k) fun v => Q v S2) E) E := Eq.trans rfl rfl
theorem l_mKPut {mv : ME} {De : MEnds} {σ : MSt} {S : Sto} : mKPut mv mo mi De σ S = mv σ S (fun v S1 => mo σ S1 (fun d S2 => mi σ S2 (fun y S3 => optP (keyD y) fun k => match d with
  | .ref p => optP (dkO (S3 p)) fun kvs => kvs.length < sizeLine ∧ Go De.nx σ (put S3 p (.dK (putD kvs k v)))
  | _ => False) (xAt De σ)) (xAt De σ)) (xAt De σ) := Eq.trans rfl rfl
theorem keyD_i {i : Int} : keyD (.int i) = some (.inl i) := Eq.trans rfl rfl
end
end ML

set_option maxRecDepth 100000
/-! # sorted of a list of numbers -/
namespace ML
open PySem PySem.Spec L2
open PyProof.Rows hiding St
section
variable {X : Cx}
/-- sorted: a list that stays -/
def bSortI : List D → Sto → MQ → Prop := fun ds S Q => ∃ (d : D) (ns : List Int), ds = [d] ∧ lstOf S d = some (ns.map .int) ∧ ns.length ≤ 10000 ∧
  ∀ ms : List Int, ms.Perm ns → ms.Pairwise (· ≤ ·) → Q (.lst (ms.map .int)) S
theorem cl_sortI : CaL X.K (rSortedI X.K) bSortI := by
  rintro H S xs ds Qm Q s r ⟨d, ns, rfl, hl, hz, h⟩ k
  obtain ⟨v, rfl, r1⟩ := rds1 r
  obtain ⟨a, vs, rfl, hq, rs⟩ := lst_sq s r1 hl
  rw [rs.ints] at hq
  exact ⟨a, ns, rfl, hq, fun ms p h1 h2 hp => k _ S _ _ (h ms h1 h2) (Ext.new s hp) (s.new hp) (.lst upd_same (s.fresh hp) .of_ints)⟩
end
def SortIP (ds : List D) (S : Sto) [Q : Hold MQ] : Prop := bSortI ds S Q.v
theorem l_bSortI {ds : List D} {S : Sto} {Q : MQ} : bSortI ds S Q = @SortIP ds S ⟨Q⟩ := Eq.trans rfl rfl
theorem sortIP {d : D} {ns : List Int} {S : Sto} {Q : MQ} (hl : lstOf S d = some (ns.map .int)) (hz : ns.length ≤ 10000) (k : ∀ ms : List Int, ms.Perm ns → ms.Pairwise (· ≤ ·) → Q (.lst (ms.map .int)) S) : @SortIP [d] S ⟨Q⟩ := ⟨d, ns, rfl, hl, hz, k⟩
/-! ### True in a list of truths -/
def rInB : R2m := fun d e S Q => match d with
  | .bl b => match (lstOf S e).bind blsOf with
    | some bs => Q (.bl (bs.any fun c => c == b)) S
    | none => False
  | _ => False
theorem inV_bls (b : Bool) (bs : List Bool) : inV (.bl b) (bs.map V.bl) = bs.any fun c => c == b := by
  unfold inV
  rw [List.any_map]; rfl
theorem ol_inB {X : Cx} : OpL X.K (rIn X.K false) rInB := fun H S x y d e Qm Q s rx ry h k => by
  cases d with
  | bl b =>
    cases rx
    cases hb : (lstOf S e).bind blsOf with
    | none =>
      have h' : (match (lstOf S e).bind blsOf with
        | some bs => Qm (.bl (bs.any fun c => c == b)) S
        | none => False) := h
      rw [hb] at h'; exact h'.elim
    | some bs =>
      have h' : (match (lstOf S e).bind blsOf with
        | some bs => Qm (.bl (bs.any fun c => c == b)) S
        | none => False) := h
      rw [hb] at h'
      have q : Qm (.bl (bs.any fun c => c == b)) S := h'
      obtain ⟨ds, hl, hd⟩ := Option.bind_eq_some_iff.mp hb
      obtain ⟨a, vs, rfl, hq, rs⟩ := lst_sq s ry hl
      rw [blsOf_eq hd] at rs
      rw [rs.bls] at hq
      refine ⟨a, _, rfl, .inl hq, rfl, by rw [List.all_map]; exact List.all_eq_true.mpr fun _ _ => rfl, ?_⟩
      rw [if_neg (by decide), inV_bls]
      exact k _ S _ H q Ext.refl s (.bl _)
  | _ => exact h.elim
theorem l_rInB {b : Bool} {bs : List Bool} {S : Sto} {Q : MQ} : rInB (.bl b) (.lst (bs.map .bl)) S Q = Q (.bl (bs.any fun c => c == b)) S := by
  simp only [rInB, lstOf, Option.bind_some, blsOf_map]
end ML

namespace FL
open PySem PySem.Spec L2 ML
/-- a fraction in lowest terms, as the program writes it -/
def fr (q : Rat) : D := .tup [.int q.num, .int (q.den : Nat)]
abbrev Pt := Rat × Rat
def spD (s : Pt) : D := .tup [fr s.1, fr s.2]
abbrev Wl := Pt × Pt
def wlD (w : Wl) : D := .tup [spD w.1, spD w.2]
/-- how many bits top and bottom need -/
def sz (q : Rat) : Nat := max q.num.natAbs.log2 q.den.log2 + 1
def SzS (n : Nat) (s : Pt) : Prop := sz s.1 ≤ n ∧ sz s.2 ≤ n
def ahead (a b : Pt) : Prop := a.1 < b.1 ∨ (a.1 = b.1 ∧ a.2 < b.2)
instance : DecidableRel ahead := fun a b => by unfold ahead; infer_instance
def alng (w : Wl) : Pt := (w.2.1 - w.1.1, w.2.2 - w.1.2)
def crs (u v : Pt) : Rat := u.1 * v.2 - u.2 * v.1
def sgn (q : Rat) : Int := if 0 < q then 1 else if q < 0 then -1 else 0
def side (w : Wl) (s : Pt) : Int := sgn (crs (alng w) (alng (w.1, s)))
def liesOn (w : Wl) (s : Pt) : Prop := ¬ ahead s w.1 ∧ ¬ ahead w.2 s ∧ side w s = 0
instance : Decidable (liesOn w s) := by unfold liesOn; infer_instance
def spansW (w : Wl) (s : Pt) : Prop := ¬ ahead s w.1 ∧ ahead s w.2
instance : Decidable (spansW w s) := by unfold spansW; infer_instance
/-- a law's row: the cell and how many were taken -/
def rowO (c n : Int) : MO := .lst [.int c, .int n]

def sp_cell_at : MSp := fun ds S Q _ => ∃ (ns : List Int) (k : Nat), ds = [.scr (ns.map .int), .int k] ∧ ∀ c : Int, Q (.int c) S
def sp_take : MSp := fun ds S Q _ => ∃ (p : Addr) (c : Int) (n : Nat) (z : Int), ds = [.ref p, .int z] ∧ S p = some (rowO c n) ∧ 0 < z ∧ z < 2 ^ 200 ∧ n < 2 ^ 60 ∧ ∀ r c' : Int, 0 ≤ r → r < z → Q (.int r) (put S p (rowO c' (n + 1 : Nat)))
def sp_low : MSp := fun ds S Q _ => ∃ t b : Int, ds = [.int t, .int b] ∧ b ≠ 0 ∧ b.natAbs.log2 < 9000 ∧ Q (fr (Rat.divInt t b)) S
def sp_number : MSp := fun ds S Q _ => ∃ (p : Addr) (c : Int) (n : Nat), ds = [.ref p] ∧ S p = some (rowO c n) ∧ n < 2 ^ 50 ∧ ∀ (q : Rat) (c' : Int), sz q ≤ 110 → Q (fr q) (put S p (rowO c' (n + 3 : Nat)))
def sp_few : MSp := fun ds S Q _ => ∃ (p : Addr) (c : Int) (n : Nat), ds = [.ref p] ∧ S p = some (rowO c n) ∧ n < 2 ^ 50 ∧ ∀ (q : Rat) (c' : Int), sz q ≤ 12 → Q (fr q) (put S p (rowO c' (n + 3 : Nat)))
def sp_divisor : MSp := fun ds S Q _ => ∃ a b : Nat, ds = [.int a, .int b] ∧ Q (.int (Nat.gcd a b : Nat)) S
def two (f : Rat → Rat → Rat) : MSp := fun ds S Q _ => ∃ p q : Rat, ds = [fr p, fr q] ∧ sz p + sz q < 8000 ∧ Q (fr (f p q)) S
abbrev sp_plus : MSp := two (· + ·)
abbrev sp_less : MSp := two (· - ·)
abbrev sp_times : MSp := two (· * ·)
def sp_over : MSp := fun ds S Q _ => ∃ p q : Rat, ds = [fr p, fr q] ∧ sz p + sz q < 8000 ∧ q ≠ 0 ∧ Q (fr (p / q)) S
abbrev sp_law_less : MSp := two (· - ·)
def sp_is_less : MSp := fun ds S Q _ => ∃ p q : Rat, ds = [fr p, fr q] ∧ sz p + sz q < 8000 ∧ Q (.bl (decide (p < q))) S
def sp_is_ahead : MSp := fun ds S Q _ => ∃ a b : Pt, ds = [spD a, spD b] ∧ (∃ n, SzS n a ∧ SzS n b ∧ n < 4000) ∧ Q (.bl (decide (ahead a b))) S
def sp_along : MSp := fun ds S Q _ => ∃ w : Wl, ds = [wlD w] ∧ (∃ n, SzS n w.1 ∧ SzS n w.2 ∧ n < 4000) ∧ Q (spD (alng w)) S
def sp_crossed : MSp := fun ds S Q _ => ∃ u v : Pt, ds = [spD u, spD v] ∧ (∃ n, SzS n u ∧ SzS n v ∧ n < 1900) ∧ Q (fr (crs u v)) S
def sp_leaning : MSp := fun ds S Q _ => ∃ u v : Pt, ds = [spD u, spD v] ∧ (∃ n, SzS n u ∧ SzS n v ∧ n < 1900) ∧ Q (.int (sgn (crs u v))) S
def sp_side_of : MSp := fun ds S Q _ => ∃ (w : Wl) (s : Pt), ds = [wlD w, spD s] ∧ (∃ n, SzS n w.1 ∧ SzS n w.2 ∧ SzS n s ∧ n < 900) ∧ Q (.int (side w s)) S
def sp_lies_on : MSp := fun ds S Q _ => ∃ (w : Wl) (s : Pt), ds = [wlD w, spD s] ∧ (∃ n, SzS n w.1 ∧ SzS n w.2 ∧ SzS n s ∧ n < 900) ∧ Q (.bl (decide (liesOn w s))) S
def sp_spans : MSp := fun ds S Q _ => ∃ (w : Wl) (s : Pt), ds = [wlD w, spD s] ∧ (∃ n, SzS n w.1 ∧ SzS n w.2 ∧ SzS n s ∧ n < 4000) ∧ Q (.bl (decide (spansW w s))) S

/-! ### bits -/
theorem sz_pos (q : Rat) : 1 ≤ sz q := by unfold sz; omega
theorem sz_num (q : Rat) : q.num.natAbs < 2 ^ sz q := by
  unfold sz
  exact Nat.lt_of_lt_of_le Nat.lt_log2_self (Nat.pow_le_pow_right (by decide) (by omega))
theorem sz_den (q : Rat) : q.den < 2 ^ sz q := by
  unfold sz
  exact Nat.lt_of_lt_of_le Nat.lt_log2_self (Nat.pow_le_pow_right (by decide) (by omega))
theorem log2_lt' {a n : Nat} (h : a < 2 ^ n) (hn : 0 < n) : a.log2 < n := by
  by_cases z : a = 0
  · subst z; simpa using hn
  · exact (Nat.log2_lt z).mpr h
theorem log2_mono {a b : Nat} (h : a ≤ b) : a.log2 ≤ b.log2 := by
  have := log2_lt' (Nat.lt_of_le_of_lt h (Nat.lt_log2_self (n := b))) (by omega)
  omega
theorem sz_le {q : Rat} {n : Nat} (hn : 0 < n) (h1 : q.num.natAbs < 2 ^ n) (h2 : q.den < 2 ^ n) : sz q ≤ n := by
  have := log2_lt' h1 hn
  have := log2_lt' h2 hn
  unfold sz; omega
theorem sz_divInt {t b : Int} {n : Nat} (hn : 0 < n) (h1 : t.natAbs < 2 ^ n) (h2 : b.natAbs < 2 ^ n) : sz (Rat.divInt t b) ≤ n := by
  refine sz_le hn ?_ ?_
  · rw [Rat.num_divInt, Int.natAbs_ediv_of_dvd]
    · refine Nat.lt_of_le_of_lt (Nat.div_le_self _ _) ?_
      rw [Int.natAbs_mul]
      rcases Int.lt_trichotomy b 0 with h | h | h
      · rw [Int.sign_eq_neg_one_of_neg h]; simpa using h1
      · subst h; simp; exact Nat.two_pow_pos n
      · rw [Int.sign_eq_one_of_pos h]; simpa using h1
    · exact Int.dvd_mul_of_dvd_right (Int.gcd_dvd_right ..)
  · rw [Rat.den_divInt]
    split
    · exact Nat.one_lt_two_pow (by omega)
    · exact Nat.lt_of_le_of_lt (Nat.div_le_self _ _) h2
theorem natAbs_mul_lt {i j : Int} {a b : Nat} (h1 : i.natAbs < 2 ^ a) (h2 : j.natAbs < 2 ^ b) : (i * j).natAbs < 2 ^ (a + b) := by
  rw [Int.natAbs_mul, Nat.pow_add]
  exact Nat.mul_lt_mul'' h1 h2
theorem natAbs_add_lt {i j : Int} {a : Nat} (h1 : i.natAbs < 2 ^ a) (h2 : j.natAbs < 2 ^ a) : (i + j).natAbs < 2 ^ (a + 1) := by
  rw [Nat.pow_succ]; omega
theorem den_abs (q : Rat) : ((q.den : Nat) : Int).natAbs < 2 ^ sz q := by simpa using sz_den q
theorem sz_add (p q : Rat) : sz (p + q) ≤ sz p + sz q + 1 := by
  rw [Rat.add_def', ← Rat.divInt_ofNat]
  refine sz_divInt (by omega) (natAbs_add_lt (natAbs_mul_lt (sz_num p) (den_abs q)) ?_) ?_
  · rw [Nat.add_comm (sz p)]; exact natAbs_mul_lt (sz_num q) (den_abs p)
  · rw [Int.natCast_mul]; exact Nat.lt_of_lt_of_le (natAbs_mul_lt (den_abs p) (den_abs q)) (Nat.pow_le_pow_right (by decide) (by omega))
theorem sz_neg (p : Rat) : sz (-p) = sz p := by simp [sz]
theorem sz_sub (p q : Rat) : sz (p - q) ≤ sz p + sz q + 1 := by
  rw [Rat.sub_eq_add_neg]
  have := sz_add p (-q)
  rwa [sz_neg] at this
theorem sz_mul (p q : Rat) : sz (p * q) ≤ sz p + sz q := by
  rw [Rat.mul_def', ← Rat.divInt_ofNat]
  have := sz_pos p
  refine sz_divInt (by omega) (natAbs_mul_lt (sz_num p) (sz_num q)) ?_
  · rw [Int.natCast_mul]; exact natAbs_mul_lt (den_abs p) (den_abs q)
theorem div_eq (p q : Rat) : p / q = Rat.divInt (p.num * q.den) (p.den * q.num) := by
  rw [Rat.div_def, Rat.inv_def, ← Rat.divInt_mul_divInt, Rat.num_divInt_den]
theorem sz_div (p q : Rat) : sz (p / q) ≤ sz p + sz q := by
  rw [div_eq]
  have := sz_pos p
  exact sz_divInt (by omega) (natAbs_mul_lt (sz_num p) (den_abs q)) (natAbs_mul_lt (den_abs p) (sz_num q))
theorem ok_nn {p q : Rat} (h : sz p + sz q ≤ 100000) : IntMulOk p.num q.num := by
  have := sz_pos p; have := sz_pos q
  exact mulok_w (sz_num p) (sz_num q) (by omega) (by omega) (by omega)
theorem ok_nd {p q : Rat} (h : sz p + sz q ≤ 100000) : IntMulOk p.num (q.den : Nat) := by
  have := sz_pos p; have := sz_pos q
  exact mulok_w (sz_num p) (den_abs q) (by omega) (by omega) (by omega)
theorem ok_dd {p q : Rat} (h : sz p + sz q ≤ 100000) : IntMulOk (p.den : Nat) (q.den : Nat) := by
  have := sz_pos p; have := sz_pos q
  exact mulok_w (den_abs p) (den_abs q) (by omega) (by omega) (by omega)
theorem ok_dn {p q : Rat} (h : sz p + sz q ≤ 100000) : IntMulOk (p.den : Nat) q.num := by
  have := sz_pos p; have := sz_pos q
  exact mulok_w (den_abs p) (sz_num q) (by omega) (by omega) (by omega)
theorem cp {i j : Int} (h : 0 ≤ j ∧ j ≤ 1000000 ∧ i.natAbs < 2 ^ 64 := by decide) : CPow i j := h
theorem den_ne (q : Rat) : ((q.den : Nat) : Int) ≠ 0 := by have := q.den_nz; omega
theorem ahead_irrefl (a : Pt) : ¬ ahead a a := by unfold ahead; grind
theorem ahead_asymm {a b : Pt} (h : ahead a b) : ¬ ahead b a := by unfold ahead at *; grind
theorem ahead_trans {a b c : Pt} (h : ahead a b) (h2 : ahead b c) : ahead a c := by unfold ahead at *; grind
theorem ahead_tri (a b : Pt) : ahead a b ∨ a = b ∨ ahead b a := by
  obtain ⟨a1, a2⟩ := a
  obtain ⟨b1, b2⟩ := b
  unfold ahead
  simp only [Prod.mk.injEq]
  grind
theorem tup_fr {q : Rat} : D.tup [.int q.num, .int (q.den : Nat)] = fr q := Eq.trans rfl rfl
theorem tup_sp {a b : Rat} : D.tup [fr a, fr b] = spD (a, b) := Eq.trans rfl rfl
theorem tup_wl {a b : Pt} : D.tup [spD a, spD b] = wlD (a, b) := Eq.trans rfl rfl
theorem tyD_fr {S : Sto} {q : Rat} : tyD S (fr q) = some "tuple" := Eq.trans rfl rfl
theorem tyD_sp {S : Sto} {s : Pt} : tyD S (spD s) = some "tuple" := Eq.trans rfl rfl
theorem tyD_wl {S : Sto} {w : Wl} : tyD S (wlD w) = some "tuple" := Eq.trans rfl rfl
theorem isN_fr {q : Rat} : isN (fr q) = false := Eq.trans rfl rfl
theorem isN_sp {s : Pt} : isN (spD s) = false := Eq.trans rfl rfl
theorem isN_wl {w : Wl} : isN (wlD w) = false := Eq.trans rfl rfl
theorem lenD_sp {S : Sto} {s : Pt} : lenD S (spD s) = some 2 := Eq.trans rfl rfl
theorem lenD_wl {S : Sto} {s : Wl} : lenD S (wlD s) = some 2 := Eq.trans rfl rfl
theorem rAdd_wl_tup {w : Wl} {ds : List D} {S : Sto} {Q : MQ} : rAdd (wlD w) (.tup ds) S Q = ((([spD w.1, spD w.2] : List D) ≠ [] ∧ 2 + ds.length ≤ sizeLine) ∧ Q (.tup (spD w.1 :: spD w.2 :: ds)) S) := Eq.trans rfl rfl
theorem tupOf_fr {q : Rat} : tupOf (fr q) = some [.int q.num, .int (q.den : Nat)] := Eq.trans rfl rfl
theorem tupOf_sp {s : Pt} : tupOf (spD s) = some [fr s.1, fr s.2] := Eq.trans rfl rfl
theorem tupOf_wl {w : Wl} : tupOf (wlD w) = some [spD w.1, spD w.2] := Eq.trans rfl rfl
theorem gTp_at {n : Nat} {gs : MGs} {d : D} {σ : MSt} {S : Sto} {Q : MSt → Sto → Prop} {E : MXQ} : gTp n gs d σ S Q E = match tupOf d with
  | some ds => ds.length = n ∧ gs ds σ S Q E
  | none => False := by cases d <;> rfl
theorem sgn_num (q : Rat) : ((if 0 < q.num then 1 else 0) - if q.num < 0 then 1 else 0 : Int) = sgn q := by
  have h1 : 0 < q.num ↔ 0 < q := by rw [Rat.lt_iff]; simp
  have h2 : q.num < 0 ↔ q < 0 := by rw [Rat.lt_iff]; simp
  unfold sgn
  simp only [← h1, ← h2]
  by_cases a : 0 < q.num
  · rw [if_pos a, if_pos a, if_neg (by omega)]; rfl
  · by_cases b : q.num < 0
    · rw [if_neg a, if_neg a, if_pos b, if_pos b]; rfl
    · rw [if_neg a, if_neg a, if_neg b, if_neg b]; rfl
/-! ### walking over fractions, spots, walls -/
theorem nz0 : (0 : Int) + ((0 : Nat) : Int) = 0 := rfl
theorem nz1 : (0 : Int) + ((1 : Nat) : Int) = 1 := rfl
theorem nz2 : (0 : Int) + ((2 : Nat) : Int) = 2 := rfl
theorem nz3 : (0 : Int) + ((3 : Nat) : Int) = 3 := rfl
theorem seqOf_tup {S : Sto} {ds : List D} : seqOf S (.tup ds) = some ds := Eq.trans rfl rfl
theorem seqOf_lst {S : Sto} {ds : List D} : seqOf S (.lst ds) = some ds := Eq.trans rfl rfl
theorem seqOf_scr {S : Sto} {ds : List D} : seqOf S (.scr ds) = some ds := Eq.trans rfl rfl
theorem seqOf_ref {S : Sto} {p : Addr} : seqOf S (.ref p) = lstOf S (.ref p) := Eq.trans rfl rfl
theorem look_non {S : Sto} : look S .non = .non := Eq.trans rfl rfl
theorem look_int {S : Sto} {i : Int} : look S (.int i) = .int i := Eq.trans rfl rfl
theorem look_bl {S : Sto} {i : Bool} : look S (.bl i) = .bl i := Eq.trans rfl rfl
theorem look_str {S : Sto} {i : Str} : look S (.str i) = .str i := Eq.trans rfl rfl
theorem look_tup {S : Sto} {ds : List D} : look S (.tup ds) = .tup ds := Eq.trans rfl rfl
theorem look_lst {S : Sto} {ds : List D} : look S (.lst ds) = .lst ds := Eq.trans rfl rfl
theorem look_scr {S : Sto} {ds : List D} : look S (.scr ds) = .scr ds := Eq.trans rfl rfl
theorem look_ref {S : Sto} {p : Addr} {ds : List D} (h : S p = some (.lst ds)) : look S (.ref p) = .lst ds := by simp only [look, h]
theorem seqOf_fr {S : Sto} {q : Rat} : seqOf S (fr q) = some [.int q.num, .int (q.den : Nat)] := Eq.trans rfl rfl
theorem seqOf_sp {S : Sto} {s : Pt} : seqOf S (spD s) = some [fr s.1, fr s.2] := Eq.trans rfl rfl
theorem seqOf_wl {S : Sto} {w : Wl} : seqOf S (wlD w) = some [spD w.1, spD w.2] := Eq.trans rfl rfl
theorem look_fr {S : Sto} {q : Rat} : look S (fr q) = fr q := Eq.trans rfl rfl
theorem look_sp {S : Sto} {s : Pt} : look S (spD s) = spD s := Eq.trans rfl rfl
theorem look_wl {S : Sto} {w : Wl} : look S (wlD w) = wlD w := Eq.trans rfl rfl
theorem plain_fr (q : Rat) : D.plain (fr q) = true := by simp [fr, D.plain, D.plains]
theorem plain_sp (s : Pt) : D.plain (spD s) = true := by simp [spD, D.plain, D.plains, plain_fr]
theorem plain_wl (w : Wl) : D.plain (wlD w) = true := by simp [wlD, D.plain, D.plains, plain_sp]
theorem dep_fr (q : Rat) : D.dep (fr q) = 1 := by simp [fr, D.dep, D.deps]
theorem dep_sp (s : Pt) : D.dep (spD s) = 2 := by simp [spD, D.dep, D.deps, dep_fr]
theorem dep_wl (w : Wl) : D.dep (wlD w) = 3 := by simp [wlD, D.dep, D.deps, dep_sp]
theorem eqOk_of {d e : D} (h1 : D.plain d = true) (h2 : D.plain e = true) (h3 : D.dep d ≤ 64) (h4 : D.dep e ≤ 64) : eqOk d e = true := by
  unfold eqOk
  split
  · rfl
  · simp [h1, h2, h3, h4]
theorem eqOk_fr {p q : Rat} : eqOk (fr p) (fr q) = true := eqOk_of (plain_fr p) (plain_fr q) (by rw [dep_fr]; decide) (by rw [dep_fr]; decide)
theorem eqOk_sp {p q : Pt} : eqOk (spD p) (spD q) = true := eqOk_of (plain_sp p) (plain_sp q) (by rw [dep_sp]; decide) (by rw [dep_sp]; decide)
theorem eqOk_wl {p q : Wl} : eqOk (wlD p) (wlD q) = true := eqOk_of (plain_wl p) (plain_wl q) (by rw [dep_wl]; decide) (by rw [dep_wl]; decide)
theorem fr_inj {p q : Rat} : fr p = fr q ↔ p = q := by
  constructor
  · intro h
    simp only [fr, D.tup.injEq, List.cons.injEq, D.int.injEq, and_true] at h
    exact Rat.ext h.1 (by omega)
  · rintro rfl; rfl
theorem deq_fr {p q : Rat} : D.deq (fr p) (fr q) = decide (p = q) := by
  simp only [fr, D.deq, D.deqs, Bool.and_true]
  rw [Bool.eq_iff_iff]
  simp only [Bool.and_eq_true, beq_iff_eq, decide_eq_true_eq]
  exact ⟨fun ⟨a, b⟩ => Rat.ext a (by omega), fun h => by subst h; exact ⟨rfl, rfl⟩⟩
theorem deq_sp {p q : Pt} : D.deq (spD p) (spD q) = decide (p = q) := by
  simp only [spD, D.deq, D.deqs, Bool.and_true, deq_fr]
  rw [Bool.eq_iff_iff]
  simp only [Bool.and_eq_true, decide_eq_true_eq]
  exact ⟨fun ⟨a, b⟩ => Prod.ext a b, fun h => by subst h; exact ⟨rfl, rfl⟩⟩
theorem deq_wl {p q : Wl} : D.deq (wlD p) (wlD q) = decide (p = q) := by
  simp only [wlD, D.deq, D.deqs, Bool.and_true, deq_sp]
  rw [Bool.eq_iff_iff]
  simp only [Bool.and_eq_true, decide_eq_true_eq]
  exact ⟨fun ⟨a, b⟩ => Prod.ext a b, fun h => by subst h; exact ⟨rfl, rfl⟩⟩
end FL

set_option maxRecDepth 100000
namespace FL
open PySem PySem.Spec L2 ML
def b_cell_at : MS := (mSeq (mIfS (mTst (mOp aLt (mVar 1) (mBlt bLen (mCons (mVar 0) mNil)))) (mRet (mOp rIxM (mVar 0) (mVar 1))) mNext)
  (mRet (mC (.int 0))))
def b_take : MS := (mSeq (mAsg (mOp rAdd (mOp rIxM (mVar 0) (mC (.int 1))) (mC (.int 1))) (gSb (mVar 0) (mC (.int 1))))
  (mSeq (mIfS (mTst (mOp aGe (mOp rIxM (mVar 0) (mC (.int 0))) (mOp rPow (mC (.int 10)) (mC (.int 18))))) (mSeq (mSet 2 (mOp rSub (mOp rIxM (mVar 0) (mC (.int 0))) (mOp rPow (mC (.int 10)) (mC (.int 18)))))
  (mSeq (mAsg (mOp rAdd (mOp rPow (mC (.int 10)) (mC (.int 18))) (mOp rDiv (mVar 2) (mVar 1))) (gSb (mVar 0) (mC (.int 0))))
  (mRet (mOp rMod (mVar 2) (mVar 1))))) mNext)
  (mSeq (mSet 3 (mOp rMod (mOp rAdd (mOp rAdd (mOp rAdd (mOp rMul (mOp rIxM (mVar 0) (mC (.int 0))) (mC (.int 40692))) (mOp rMul (mOp rMul (mC (.int 104729)) (mOp rIxM (mVar 0) (mC (.int 1)))) (mOp rIxM (mVar 0) (mC (.int 1))))) (mOp rMul (mC (.int 31)) (mOp rIxM (mVar 0) (mC (.int 1))))) (mC (.int 5))) (mC (.int 2147483399))))
  (mSeq (mSet 3 (mOp rMod (mOp rAdd (mOp rAdd (mOp rMul (mVar 3) (mVar 3)) (mOp rMul (mC (.int 48271)) (mVar 3))) (mOp rIxM (mVar 0) (mC (.int 1)))) (mC (.int 2147483647))))
  (mRet (mOp rMod (mOp rDiv (mVar 3) (mC (.int 7))) (mVar 1)))))))
def b_low : MS := (mSeq (mSet 2 (mBlt bAbs (mCons (mVar 0) mNil)))
  (mSeq (mSet 3 (mBlt bAbs (mCons (mVar 1) mNil)))
  (mSeq (mWhile (mTst (mOp rNeM (mVar 3) (mC (.int 0)))) (mPar 2 3 (mCons (mVar 3) (mCons (mOp rMod (mVar 2) (mVar 3)) mNil))))
  (mSeq (mIfS (mTst (mOp aLt (mVar 1) (mC (.int 0)))) (mSet 2 (mUn rNeg (mVar 2))) mNext)
  (mRet (mTup (mCons (mOp rDiv (mVar 0) (mVar 2)) (mCons (mOp rDiv (mVar 1) (mVar 2)) mNil))))))))
def b_divisor : MS := (mSeq (mWhile (mTst (mOp rNeM (mVar 1) (mC (.int 0)))) (mPar 0 1 (mCons (mVar 1) (mCons (mOp rMod (mVar 0) (mVar 1)) mNil))))
  (mRet (mVar 0)))
def b_is_less : MS := (mRet (mOp aLt (mOp rMul (mOp rIxM (mVar 0) (mC (.int 0))) (mOp rIxM (mVar 1) (mC (.int 1)))) (mOp rMul (mOp rIxM (mVar 1) (mC (.int 0))) (mOp rIxM (mVar 0) (mC (.int 1))))))
def b_number : MS := (mSeq (mSet 1 (mCall FL.sp_take (mCons (mVar 0) (mCons (mC (.int 6)) mNil))))
  (mSeq (mSet 2 (mOp rIxM (mLstF (mCons (mC (.int 9)) (mCons (mC (.int 9)) (mCons (mC (.int 1000)) (mCons (mOp rPow (mC (.int 10)) (mC (.int 9))) (mCons (mOp rPow (mC (.int 10)) (mC (.int 30))) (mCons (mC (.int 30)) mNil))))))) (mVar 1)))
  (mSeq (mSet 3 (mOp rAdd (mC (.int 1)) (mCall FL.sp_take (mCons (mVar 0) (mCons (mOp rIxM (mLstF (mCons (mC (.int 6)) (mCons (mC (.int 12)) (mCons (mC (.int 1000)) (mCons (mOp rPow (mC (.int 10)) (mC (.int 9))) (mCons (mOp rSub (mOp rPow (mC (.int 10)) (mC (.int 30))) (mC (.int 1))) (mCons (mC (.int 1)) mNil))))))) (mVar 1)) mNil)))))
  (mSeq (mSet 4 (mOp rAdd (mOp rSub (mCall FL.sp_take (mCons (mVar 0) (mCons (mOp rSub (mOp rMul (mC (.int 2)) (mVar 2)) (mC (.int 1))) mNil))) (mVar 2)) (mC (.int 1))))
  (mRet (mCall FL.sp_low (mCons (mVar 4) (mCons (mVar 3) mNil))))))))
def b_few : MS := (mSeq (mSet 1 (mCall FL.sp_take (mCons (mVar 0) (mCons (mC (.int 4)) mNil))))
  (mSeq (mSet 2 (mOp rIxM (mLstF (mCons (mC (.int 9)) (mCons (mC (.int 9)) (mCons (mC (.int 1000)) (mCons (mC (.int 30)) mNil))))) (mVar 1)))
  (mSeq (mSet 3 (mOp rAdd (mC (.int 1)) (mCall FL.sp_take (mCons (mVar 0) (mCons (mOp rIxM (mLstF (mCons (mC (.int 6)) (mCons (mC (.int 12)) (mCons (mC (.int 1000)) (mCons (mC (.int 1)) mNil))))) (mVar 1)) mNil)))))
  (mRet (mCall FL.sp_low (mCons (mOp rAdd (mOp rSub (mCall FL.sp_take (mCons (mVar 0) (mCons (mOp rSub (mOp rMul (mC (.int 2)) (mVar 2)) (mC (.int 1))) mNil))) (mVar 2)) (mC (.int 1))) (mCons (mVar 3) mNil)))))))
def b_fraction : MS := (mSeq (mIfS (mTst (mOp rEqM (mVar 1) (mC (.int 0)))) mNever mNext)
  (mSeq (mSet 2 (mCall FL.sp_divisor (mCons (mBlt bAbs (mCons (mVar 0) mNil)) (mCons (mBlt bAbs (mCons (mVar 1) mNil)) mNil))))
  (mSeq (mIfS (mTst (mOp aLt (mVar 1) (mC (.int 0)))) (mSet 2 (mUn rNeg (mVar 2))) mNext)
  (mRet (mTup (mCons (mOp rDiv (mVar 0) (mVar 2)) (mCons (mOp rDiv (mVar 1) (mVar 2)) mNil)))))))
def b_is_ahead : MS := (mSeq (mIfS (mTst (mOp rNeM (mOp rIxM (mVar 0) (mC (.int 0))) (mOp rIxM (mVar 1) (mC (.int 0))))) (mRet (mCall FL.sp_is_less (mCons (mOp rIxM (mVar 0) (mC (.int 0))) (mCons (mOp rIxM (mVar 1) (mC (.int 0))) mNil)))) mNext)
  (mRet (mCall FL.sp_is_less (mCons (mOp rIxM (mVar 0) (mC (.int 1))) (mCons (mOp rIxM (mVar 1) (mC (.int 1))) mNil)))))
def b_plus : MS := (mRet (mCall FL.sp_low (mCons (mOp rAdd (mOp rMul (mOp rIxM (mVar 0) (mC (.int 0))) (mOp rIxM (mVar 1) (mC (.int 1)))) (mOp rMul (mOp rIxM (mVar 1) (mC (.int 0))) (mOp rIxM (mVar 0) (mC (.int 1))))) (mCons (mOp rMul (mOp rIxM (mVar 0) (mC (.int 1))) (mOp rIxM (mVar 1) (mC (.int 1)))) mNil))))
def b_less : MS := (mRet (mCall FL.sp_low (mCons (mOp rSub (mOp rMul (mOp rIxM (mVar 0) (mC (.int 0))) (mOp rIxM (mVar 1) (mC (.int 1)))) (mOp rMul (mOp rIxM (mVar 1) (mC (.int 0))) (mOp rIxM (mVar 0) (mC (.int 1))))) (mCons (mOp rMul (mOp rIxM (mVar 0) (mC (.int 1))) (mOp rIxM (mVar 1) (mC (.int 1)))) mNil))))
def b_times : MS := (mRet (mCall FL.sp_low (mCons (mOp rMul (mOp rIxM (mVar 0) (mC (.int 0))) (mOp rIxM (mVar 1) (mC (.int 0)))) (mCons (mOp rMul (mOp rIxM (mVar 0) (mC (.int 1))) (mOp rIxM (mVar 1) (mC (.int 1)))) mNil))))
def b_over : MS := (mRet (mCall FL.sp_low (mCons (mOp rMul (mOp rIxM (mVar 0) (mC (.int 0))) (mOp rIxM (mVar 1) (mC (.int 1)))) (mCons (mOp rMul (mOp rIxM (mVar 0) (mC (.int 1))) (mOp rIxM (mVar 1) (mC (.int 0)))) mNil))))
def b_spans : MS := (mRet (mAndV (mNotV (mCall FL.sp_is_ahead (mCons (mVar 1) (mCons (mOp rIxM (mVar 0) (mC (.int 0))) mNil)))) (mCall FL.sp_is_ahead (mCons (mVar 1) (mCons (mOp rIxM (mVar 0) (mC (.int 1))) mNil)))))
def b_law_less : MS := (mRet (mCall FL.sp_plus (mCons (mVar 0) (mCons (mTup (mCons (mUn rNeg (mOp rIxM (mVar 1) (mC (.int 0)))) (mCons (mOp rIxM (mVar 1) (mC (.int 1))) mNil))) mNil))))
def b_along : MS := (mSeq (mAsg (mVar 0) (gTp 2 (gCn (gNm 1) (gCn (gNm 2) gNl))))
  (mRet (mTup (mCons (mCall FL.sp_less (mCons (mOp rIxM (mVar 2) (mC (.int 0))) (mCons (mOp rIxM (mVar 1) (mC (.int 0))) mNil))) (mCons (mCall FL.sp_less (mCons (mOp rIxM (mVar 2) (mC (.int 1))) (mCons (mOp rIxM (mVar 1) (mC (.int 1))) mNil))) mNil)))))
def b_crossed : MS := (mRet (mCall FL.sp_less (mCons (mCall FL.sp_times (mCons (mOp rIxM (mVar 0) (mC (.int 0))) (mCons (mOp rIxM (mVar 1) (mC (.int 1))) mNil))) (mCons (mCall FL.sp_times (mCons (mOp rIxM (mVar 0) (mC (.int 1))) (mCons (mOp rIxM (mVar 1) (mC (.int 0))) mNil))) mNil))))
def b_leaning : MS := (mSeq (mSet 2 (mCall FL.sp_crossed (mCons (mVar 0) (mCons (mVar 1) mNil))))
  (mRet (mOp rSub (mBlt bInt (mCons (mOp aGt (mOp rIxM (mVar 2) (mC (.int 0))) (mC (.int 0))) mNil)) (mBlt bInt (mCons (mOp aLt (mOp rIxM (mVar 2) (mC (.int 0))) (mC (.int 0))) mNil)))))
def b_side_of : MS := (mRet (mCall FL.sp_leaning (mCons (mCall FL.sp_along (mCons (mVar 0) mNil)) (mCons (mCall FL.sp_along (mCons (mTup (mCons (mOp rIxM (mVar 0) (mC (.int 0))) (mCons (mVar 1) mNil))) mNil)) mNil))))
def b_lies_on : MS := (mSeq (mAsg (mVar 0) (gTp 2 (gCn (gNm 2) (gCn (gNm 3) gNl))))
  (mSeq (mIfS (mOr (mTru (mCall FL.sp_is_ahead (mCons (mVar 1) (mCons (mVar 2) mNil)))) (mTru (mCall FL.sp_is_ahead (mCons (mVar 3) (mCons (mVar 1) mNil))))) (mRet (mC (.bl false))) mNext)
  (mRet (mOp rEqM (mCall FL.sp_side_of (mCons (mVar 0) (mCons (mVar 1) mNil))) (mC (.int 0))))))
end FL

set_option maxRecDepth 100000
namespace FL
-- counts /tmp/scratch/dev/N_lib1.json
open PySem PySem.Spec L2 ML
local macro_rules | `(tactic| simp $c:optConfig $[$d:discharger]? only [gf] $[$l:location]?) => `(tactic| simp $c $[$d]? only [ML.q_mSeq, ML.q_mSet, ML.q_mC, ML.q_mVar, ML.q_mOp, ML.q_mUn, ML.q_mTst, ML.q_mTru, ML.q_mIfS, ML.q_mIf, ML.q_mAnd, ML.q_mOr, ML.q_mNot, ML.q_mAndV, ML.q_mOrV, ML.q_mNotV, ML.q_mRet, ML.q_mRetN, ML.q_mExpr, ML.q_mNext, ML.q_mBreak, ML.q_mCont, ML.q_mAsg, ML.q_mPar, ML.q_gNm, ML.q_gLs, ML.q_gCn, ML.q_gNl, ML.q_gSb, ML.q_mTup, ML.q_mLst, ML.q_mLstF, ML.q_mCons, ML.q_mNil, ML.q_mCall, ML.q_mBlt, ML.q_bLen, ML.q_bAbs, ML.q_bMax2, ML.q_bMin2, ML.q_bInt, ML.q_bTuple, ML.q_bList, ML.q_bListF, ML.q_bAll, ML.q_lenD, ML.q_truD, ML.q_lstOf, ML.q_ownOf, ML.q_rInt, ML.q_rInt0, ML.q_rSub, ML.q_rMul, ML.q_rDiv, ML.q_rMod, ML.q_rPow, ML.q_rAdd, ML.q_rLt, ML.q_rLe, ML.q_rGt, ML.q_rGe, ML.q_rNeg, ML.q_rIxM, ML.q_ixL, ML.q_rIsN, ML.q_rNotN, ML.q_isN, ML.q_rEqM, ML.q_rNeM, ML.q_rInM, ML.q_mIsi, ML.q_tyD, ML.q_mCut, ML.q_oNo, ML.q_oSo, ML.q_mMt, ML.q_mMt0, ML.q_mtAppend, ML.q_mtInsert, ML.q_mtPop, ML.q_mtPop0, ML.q_mtReverse, ML.q_mtClear, ML.q_mtExtend, ML.q_mtIndex, ML.q_rSetM, ML.q_setAt, ML.q_mends, ML.q_mstart, ML.q_mFor, ML.q_iL, ML.q_iT, ML.q_iR1, ML.q_iR2, ML.q_iEn, ML.q_iZp, ML.q_mChain, ML.q_mYes, ML.q_mCompF, ML.q_mComp, ML.q_wipeM, ML.q_rIsBM, ML.q_xAt, ML.put_same, ML.noX, ML.deq_int, ML.deq_bl, ML.deq_str, ML.deq_non, ML.eqOk_int, ML.eqOk_bl, ML.isTy_NoneType_int, ML.isTy_NoneType_bool, ML.isTy_NoneType_tuple, ML.isTy_NoneType_list, ML.isTy_NoneType_str, ML.isTy_bool_int, ML.isTy_bool_bool, ML.isTy_bool_tuple, ML.isTy_bool_list, ML.isTy_bool_str, ML.isTy_int_int, ML.isTy_int_bool, ML.isTy_int_tuple, ML.isTy_int_list, ML.isTy_int_str, ML.isTy_str_int, ML.isTy_str_bool, ML.isTy_str_tuple, ML.isTy_str_list, ML.isTy_str_str, ML.isTy_tuple_int, ML.isTy_tuple_bool, ML.isTy_tuple_tuple, ML.isTy_tuple_list, ML.isTy_tuple_str, ML.isTy_list_int, ML.isTy_list_bool, ML.isTy_list_tuple, ML.isTy_list_list, ML.isTy_list_str, ML.isTy_dict_int, ML.isTy_dict_bool, ML.isTy_dict_tuple, ML.isTy_dict_list, ML.isTy_dict_str, List.length_map, List.map_cons, List.map_nil, List.replicate, List.set_cons_zero, List.set_cons_succ, List.getElem?_cons_zero, List.getElem?_cons_succ, List.cons_append, List.nil_append, List.length_cons, List.length_nil, Option.bind_some, Option.map_some, ↓reduceIte, Nat.reduceAdd, Nat.reduceSub, Nat.reduceLT, Nat.reduceLeDiff, Nat.zero_add, decide_eq_true_eq, Bool.not_eq_true, ne_eq, reduceCtorEq, not_false_eq_true, true_and, and_true, Bool.false_eq_true, Bool.not_true, Bool.not_false, decide_true, decide_false, not_true_eq_false, eq_self, Bool.not_eq_eq_eq_not, if_true, if_false, FL.tup_fr, FL.tup_sp, FL.tup_wl, ML.tupOf_tup, FL.tupOf_fr, FL.tupOf_sp, FL.tupOf_wl, FL.gTp_at, FL.nz0, FL.nz1, FL.nz2, FL.nz3, FL.seqOf_tup, FL.seqOf_lst, FL.seqOf_scr, FL.seqOf_ref, FL.look_non, FL.look_int, FL.look_bl, FL.look_str, FL.look_tup, FL.look_lst, FL.look_scr, FL.seqOf_fr, FL.seqOf_sp, FL.seqOf_wl, FL.look_fr, FL.look_sp, FL.look_wl, FL.eqOk_fr, FL.eqOk_sp, FL.eqOk_wl, FL.deq_fr, FL.deq_sp, FL.deq_wl, Int.reduceToNat, Int.reducePow, Int.reduceAdd, Int.reduceSub, Int.reduceMul, Int.reduceNeg, ML.l_aLt_int, ML.l_aGt_int, ML.l_aLe_int, ML.l_aGe_int, ML.l_bMaxA_int, ML.l_bMinA_int] $[$l]?)
local macro_rules | `(tactic| simp $c:optConfig $[$d:discharger]? only [gf, $ls,*] $[$l:location]?) => `(tactic| simp $c $[$d]? only [ML.q_mSeq, ML.q_mSet, ML.q_mC, ML.q_mVar, ML.q_mOp, ML.q_mUn, ML.q_mTst, ML.q_mTru, ML.q_mIfS, ML.q_mIf, ML.q_mAnd, ML.q_mOr, ML.q_mNot, ML.q_mAndV, ML.q_mOrV, ML.q_mNotV, ML.q_mRet, ML.q_mRetN, ML.q_mExpr, ML.q_mNext, ML.q_mBreak, ML.q_mCont, ML.q_mAsg, ML.q_mPar, ML.q_gNm, ML.q_gLs, ML.q_gCn, ML.q_gNl, ML.q_gSb, ML.q_mTup, ML.q_mLst, ML.q_mLstF, ML.q_mCons, ML.q_mNil, ML.q_mCall, ML.q_mBlt, ML.q_bLen, ML.q_bAbs, ML.q_bMax2, ML.q_bMin2, ML.q_bInt, ML.q_bTuple, ML.q_bList, ML.q_bListF, ML.q_bAll, ML.q_lenD, ML.q_truD, ML.q_lstOf, ML.q_ownOf, ML.q_rInt, ML.q_rInt0, ML.q_rSub, ML.q_rMul, ML.q_rDiv, ML.q_rMod, ML.q_rPow, ML.q_rAdd, ML.q_rLt, ML.q_rLe, ML.q_rGt, ML.q_rGe, ML.q_rNeg, ML.q_rIxM, ML.q_ixL, ML.q_rIsN, ML.q_rNotN, ML.q_isN, ML.q_rEqM, ML.q_rNeM, ML.q_rInM, ML.q_mIsi, ML.q_tyD, ML.q_mCut, ML.q_oNo, ML.q_oSo, ML.q_mMt, ML.q_mMt0, ML.q_mtAppend, ML.q_mtInsert, ML.q_mtPop, ML.q_mtPop0, ML.q_mtReverse, ML.q_mtClear, ML.q_mtExtend, ML.q_mtIndex, ML.q_rSetM, ML.q_setAt, ML.q_mends, ML.q_mstart, ML.q_mFor, ML.q_iL, ML.q_iT, ML.q_iR1, ML.q_iR2, ML.q_iEn, ML.q_iZp, ML.q_mChain, ML.q_mYes, ML.q_mCompF, ML.q_mComp, ML.q_wipeM, ML.q_rIsBM, ML.q_xAt, ML.put_same, ML.noX, ML.deq_int, ML.deq_bl, ML.deq_str, ML.deq_non, ML.eqOk_int, ML.eqOk_bl, ML.isTy_NoneType_int, ML.isTy_NoneType_bool, ML.isTy_NoneType_tuple, ML.isTy_NoneType_list, ML.isTy_NoneType_str, ML.isTy_bool_int, ML.isTy_bool_bool, ML.isTy_bool_tuple, ML.isTy_bool_list, ML.isTy_bool_str, ML.isTy_int_int, ML.isTy_int_bool, ML.isTy_int_tuple, ML.isTy_int_list, ML.isTy_int_str, ML.isTy_str_int, ML.isTy_str_bool, ML.isTy_str_tuple, ML.isTy_str_list, ML.isTy_str_str, ML.isTy_tuple_int, ML.isTy_tuple_bool, ML.isTy_tuple_tuple, ML.isTy_tuple_list, ML.isTy_tuple_str, ML.isTy_list_int, ML.isTy_list_bool, ML.isTy_list_tuple, ML.isTy_list_list, ML.isTy_list_str, ML.isTy_dict_int, ML.isTy_dict_bool, ML.isTy_dict_tuple, ML.isTy_dict_list, ML.isTy_dict_str, List.length_map, List.map_cons, List.map_nil, List.replicate, List.set_cons_zero, List.set_cons_succ, List.getElem?_cons_zero, List.getElem?_cons_succ, List.cons_append, List.nil_append, List.length_cons, List.length_nil, Option.bind_some, Option.map_some, ↓reduceIte, Nat.reduceAdd, Nat.reduceSub, Nat.reduceLT, Nat.reduceLeDiff, Nat.zero_add, decide_eq_true_eq, Bool.not_eq_true, ne_eq, reduceCtorEq, not_false_eq_true, true_and, and_true, Bool.false_eq_true, Bool.not_true, Bool.not_false, decide_true, decide_false, not_true_eq_false, eq_self, Bool.not_eq_eq_eq_not, if_true, if_false, FL.tup_fr, FL.tup_sp, FL.tup_wl, ML.tupOf_tup, FL.tupOf_fr, FL.tupOf_sp, FL.tupOf_wl, FL.gTp_at, FL.nz0, FL.nz1, FL.nz2, FL.nz3, FL.seqOf_tup, FL.seqOf_lst, FL.seqOf_scr, FL.seqOf_ref, FL.look_non, FL.look_int, FL.look_bl, FL.look_str, FL.look_tup, FL.look_lst, FL.look_scr, FL.seqOf_fr, FL.seqOf_sp, FL.seqOf_wl, FL.look_fr, FL.look_sp, FL.look_wl, FL.eqOk_fr, FL.eqOk_sp, FL.eqOk_wl, FL.deq_fr, FL.deq_sp, FL.deq_wl, Int.reduceToNat, Int.reducePow, Int.reduceAdd, Int.reduceSub, Int.reduceMul, Int.reduceNeg, ML.l_aLt_int, ML.l_aGt_int, ML.l_aLe_int, ML.l_aGe_int, ML.l_bMaxA_int, ML.l_bMinA_int, $ls,*] $[$l]?)
theorem l_cell_at : ∀ ds S Q E, FL.sp_cell_at ds S Q E → ds.length = 2 := by rintro _ _ _ _ ⟨_, _, rfl, _⟩; rfl
theorem l_take : ∀ ds S Q E, FL.sp_take ds S Q E → ds.length = 2 := by rintro _ _ _ _ ⟨_, _, _, _, rfl, _⟩; rfl
theorem l_low : ∀ ds S Q E, FL.sp_low ds S Q E → ds.length = 2 := by rintro _ _ _ _ ⟨_, _, rfl, _⟩; rfl
theorem l_number : ∀ ds S Q E, FL.sp_number ds S Q E → ds.length = 1 := by rintro _ _ _ _ ⟨_, _, _, rfl, _⟩; rfl
theorem l_few : ∀ ds S Q E, FL.sp_few ds S Q E → ds.length = 1 := by rintro _ _ _ _ ⟨_, _, _, rfl, _⟩; rfl
theorem l_divisor : ∀ ds S Q E, FL.sp_divisor ds S Q E → ds.length = 2 := by rintro _ _ _ _ ⟨_, _, rfl, _⟩; rfl
theorem l_fraction : ∀ ds S Q E, sp_low ds S Q E → ds.length = 2 := l_low
theorem l_two {f : Rat → Rat → Rat} : ∀ ds S Q E, two f ds S Q E → ds.length = 2 := by rintro _ _ _ _ ⟨p, c, rfl, _⟩; rfl
theorem l_plus : ∀ ds S Q E, sp_plus ds S Q E → ds.length = 2 := l_two
theorem l_less : ∀ ds S Q E, sp_less ds S Q E → ds.length = 2 := l_two
theorem l_times : ∀ ds S Q E, sp_times ds S Q E → ds.length = 2 := l_two
theorem l_law_less : ∀ ds S Q E, sp_law_less ds S Q E → ds.length = 2 := l_two
theorem l_over : ∀ ds S Q E, FL.sp_over ds S Q E → ds.length = 2 := by rintro _ _ _ _ ⟨_, _, rfl, _⟩; rfl
theorem l_is_less : ∀ ds S Q E, FL.sp_is_less ds S Q E → ds.length = 2 := by rintro _ _ _ _ ⟨_, _, rfl, _⟩; rfl
theorem l_is_ahead : ∀ ds S Q E, FL.sp_is_ahead ds S Q E → ds.length = 2 := by rintro _ _ _ _ ⟨_, _, rfl, _⟩; rfl
theorem l_along : ∀ ds S Q E, FL.sp_along ds S Q E → ds.length = 1 := by rintro _ _ _ _ ⟨_, rfl, _⟩; rfl
theorem l_crossed : ∀ ds S Q E, FL.sp_crossed ds S Q E → ds.length = 2 := by rintro _ _ _ _ ⟨_, _, rfl, _⟩; rfl
theorem l_leaning : ∀ ds S Q E, FL.sp_leaning ds S Q E → ds.length = 2 := by rintro _ _ _ _ ⟨_, _, rfl, _⟩; rfl
theorem l_side_of : ∀ ds S Q E, FL.sp_side_of ds S Q E → ds.length = 2 := by rintro _ _ _ _ ⟨_, _, rfl, _⟩; rfl
theorem l_lies_on : ∀ ds S Q E, FL.sp_lies_on ds S Q E → ds.length = 2 := by rintro _ _ _ _ ⟨_, _, rfl, _⟩; rfl
theorem l_spans : ∀ ds S Q E, FL.sp_spans ds S Q E → ds.length = 2 := by rintro _ _ _ _ ⟨_, _, rfl, _⟩; rfl

theorem r_cell_at : ∀ ds S Q E, FL.sp_cell_at ds S Q E → b_cell_at (mends Q E) (mstart 0 ds) S := by
  rintro _ S Q E ⟨ns, k, rfl, q⟩
  unfold b_cell_at
  simp only [ML.q_mstart, ML.q_mends, List.map_cons, List.map_nil, List.replicate, List.cons_append, List.nil_append]
  simp only [gf]
  split
  · next h =>
    have h : k < ns.length := by simpa using h
    rw [scr_get h]
    exact q _
  · exact q _
theorem r_take : ∀ ds S Q E, FL.sp_take ds S Q E → b_take (mends Q E) (mstart 2 ds) S := by
  rintro _ S Q E ⟨p, c, n, z, rfl, hp, h0, h1, hn, q⟩
  have hz : z.natAbs < 2 ^ 200 := by omega
  unfold b_take
  simp only [ML.q_mstart, ML.q_mends, List.map_cons, List.map_nil, List.replicate, List.cons_append, List.nil_append]
  simp only [gf, hp, rowO]
  have e : ((n + 1 : Nat) : Int) = (n : Int) + 1 := by omega
  rw [e] at q
  refine ⟨cp, ?_⟩
  split
  · refine ⟨cp, cp, divok_w (by omega) hz (by decide) (by decide), by omega, ?_⟩
    rw [put_put, fmod_pos (j := z) (by omega)]
    exact q _ _ (Int.emod_nonneg _ (by omega)) (Int.emod_lt_of_pos _ (by omega))
  · refine ⟨mulok_r (by decide) (by decide), mulok_r (by omega) (by omega), mulok_r (by omega) (by omega), mulok_r (by omega) (by omega), by decide, ?_⟩
    generalize hx : (c * 40692 + 104729 * ((n : Int) + 1) * ((n : Int) + 1) + 31 * ((n : Int) + 1) + 5).fmod 2147483399 = x
    rw [fmod_pos (by decide)] at hx
    have x0 : 0 ≤ x ∧ x < 2147483399 := by omega
    refine ⟨mulok_r (by omega) (by omega), mulok_r (by omega) (by omega), by decide, divok_s (by decide) (by decide), by omega, ?_⟩
    rw [fmod_pos (j := z) (by omega)]
    exact q _ _ (Int.emod_nonneg _ (by omega)) (Int.emod_lt_of_pos _ (by omega))
theorem gcd_step {i j : Nat} (h : ¬ j = 0) : Nat.gcd i j = Nat.gcd j (i % j) := by rw [Nat.gcd_comm, Nat.gcd_rec, Nat.gcd_comm]
theorem r_divisor : ∀ ds S Q E, FL.sp_divisor ds S Q E → b_divisor (mends Q E) (mstart 0 ds) S := by
  rintro _ S Q E ⟨a, b, rfl, q⟩
  unfold b_divisor
  simp only [ML.q_mstart, ML.q_mends, List.map_cons, List.map_nil, List.replicate, List.cons_append, List.nil_append]
  simp only [gf]
  refine ⟨fun k σ S' => ∃ i j : Nat, σ = [some (.int i), some (.int j)] ∧ k = j ∧ Nat.gcd i j = Nat.gcd a b ∧ S' = S, ⟨b, a, b, rfl, rfl, rfl, rfl⟩, ?_⟩
  rintro k σ S' ⟨i, j, rfl, rfl, hg, rfl⟩
  simp only [gf]
  by_cases z : k = 0
  · subst z
    rw [if_neg (by decide)]
    rw [Nat.gcd_zero_right] at hg
    rw [hg]; exact q
  · rw [if_pos (by simpa using z)]
    refine ⟨by omega, i % k, Nat.mod_lt _ (by omega), k, i % k, ?_, rfl, by rw [← gcd_step z]; exact hg⟩
    rw [fmod_pos (by omega)]; simp
theorem low_val {t b : Int} (hb : b ≠ 0) {g : Int} (h : g = if b < 0 then -((t.natAbs.gcd b.natAbs : Nat) : Int) else ((t.natAbs.gcd b.natAbs : Nat) : Int)) : t.fdiv g = (Rat.divInt t b).num ∧ b.fdiv g = ((Rat.divInt t b).den : Nat) := by
  have g0 : (0 : Int) < (t.natAbs.gcd b.natAbs : Nat) := by
    have := Nat.gcd_pos_of_pos_right t.natAbs (n := b.natAbs) (by omega)
    omega
  obtain ⟨k, hk⟩ : ((t.natAbs.gcd b.natAbs : Nat) : Int) ∣ t := Int.gcd_dvd_left t b
  obtain ⟨m, hm⟩ : ((t.natAbs.gcd b.natAbs : Nat) : Int) ∣ b := Int.gcd_dvd_right t b
  have e0 : b.gcd t = t.natAbs.gcd b.natAbs := Nat.gcd_comm ..
  rw [Rat.num_divInt, Rat.den_divInt, if_neg hb, e0]
  generalize hn : t.natAbs.gcd b.natAbs = n at *
  have eb : ((b.natAbs / n : Nat) : Int) = (b.natAbs : Int) / n := by simp
  rw [eb]
  have ne : (n : Int) ≠ 0 := by omega
  split at h
  · next hs =>
    subst h
    rw [Int.sign_eq_neg_one_of_neg hs, Int.ofNat_natAbs_of_nonpos (by omega)]
    clear hn e0 eb
    subst hk; subst hm
    have e1 : (n : Int) * k = (-(n : Int)) * (-k) := (Int.neg_mul_neg _ _).symm
    have e2 : (n : Int) * m = (-(n : Int)) * (-m) := (Int.neg_mul_neg _ _).symm
    have e3 : -1 * ((n : Int) * k) = n * (-k) := by rw [Int.mul_neg, Int.neg_one_mul]
    have e4 : -((n : Int) * m) = n * (-m) := by rw [Int.mul_neg]
    rw [e3, e4, Int.mul_ediv_cancel_left _ ne, Int.mul_ediv_cancel_left _ ne, e1, e2, Int.mul_fdiv_cancel_left _ (by omega), Int.mul_fdiv_cancel_left _ (by omega)]
    exact ⟨rfl, rfl⟩
  · next hs =>
    subst h
    rw [Int.sign_eq_one_of_pos (by omega), Int.natAbs_of_nonneg (by omega)]
    clear hn e0 eb
    subst hk; subst hm
    rw [Int.one_mul, Int.mul_ediv_cancel_left _ ne, Int.mul_ediv_cancel_left _ ne, Int.mul_fdiv_cancel_left _ (by omega), Int.mul_fdiv_cancel_left _ (by omega)]
    exact ⟨rfl, rfl⟩
theorem low_end {t b : Int} (hb : b ≠ 0) (hz : b.natAbs.log2 < 9000) {g : Int} (h : g = if b < 0 then -((t.natAbs.gcd b.natAbs : Nat) : Int) else ((t.natAbs.gcd b.natAbs : Nat) : Int)) {S : Sto} {Q : MQ} (q : Q (fr (Rat.divInt t b)) S) :
    DivOk t g ∧ DivOk b g ∧ 2 ≤ sizeLine ∧ Q (.tup [.int (t.fdiv g), .int (b.fdiv g)]) S := by
  have g0 : (0 : Int) < (t.natAbs.gcd b.natAbs : Nat) := by
    have := Nat.gcd_pos_of_pos_right t.natAbs (n := b.natAbs) (by omega)
    omega
  have gl := log2_mono (Nat.gcd_le_right t.natAbs (n := b.natAbs) (by omega))
  have ne : g ≠ 0 := by split at h <;> omega
  have gz : g.natAbs.log2 < 9000 := by
    have : g.natAbs = t.natAbs.gcd b.natAbs := by split at h <;> omega
    rw [this]; omega
  refine ⟨⟨ne, PyProof.noPylong_of_log2 gz⟩, ⟨ne, PyProof.noPylong_of_log2 gz⟩, line_le (by decide), ?_⟩
  obtain ⟨e1, e2⟩ := low_val hb h
  rw [e1, e2]; exact q
theorem abs_eq (t : Int) : (if t < 0 then -t else t) = (t.natAbs : Int) := by split <;> omega
theorem r_low : ∀ ds S Q E, FL.sp_low ds S Q E → b_low (mends Q E) (mstart 2 ds) S := by
  rintro _ S Q E ⟨t, b, rfl, hb, hz, q⟩
  unfold b_low
  simp only [ML.q_mstart, ML.q_mends, List.map_cons, List.map_nil, List.replicate, List.cons_append, List.nil_append]
  simp only [gf, abs_eq]
  refine ⟨fun k σ S' => ∃ i j : Nat, σ = [some (.int t), some (.int b), some (.int i), some (.int j)] ∧ k = j ∧ Nat.gcd i j = Nat.gcd t.natAbs b.natAbs ∧ S' = S, ⟨b.natAbs, t.natAbs, b.natAbs, rfl, rfl, rfl, rfl⟩, ?_⟩
  rintro k σ S' ⟨i, j, rfl, rfl, hg, rfl⟩
  simp only [gf]
  by_cases z : k = 0
  · subst z
    rw [if_neg (by decide)]
    rw [Nat.gcd_zero_right] at hg
    subst hg
    split
    · next h => exact low_end hb hz (by rw [if_pos h]) q
    · next h => exact low_end hb hz (by rw [if_neg h]) q
  · rw [if_pos (by simpa using z)]
    refine ⟨by omega, i % k, Nat.mod_lt _ (by omega), k, i % k, ?_, rfl, by rw [← gcd_step z]; exact hg⟩
    rw [fmod_pos (by omega)]; simp
theorem r_fraction : ∀ ds S Q E, FL.sp_low ds S Q E → b_fraction (mends Q E) (mstart 1 ds) S := by
  rintro _ S Q E ⟨t, b, rfl, hb, hz, q⟩
  unfold b_fraction
  simp only [ML.q_mstart, ML.q_mends, List.map_cons, List.map_nil, List.replicate, List.cons_append, List.nil_append]
  simp only [gf, abs_eq, mNever]
  rw [if_neg (by simpa using hb)]
  refine ⟨t.natAbs, b.natAbs, rfl, ?_⟩
  simp only [gf]
  split
  · next h => exact low_end hb hz (by rw [if_pos h]) q
  · next h => exact low_end hb hz (by rw [if_neg h]) q
theorem r_is_less : ∀ ds S Q E, FL.sp_is_less ds S Q E → b_is_less (mends Q E) (mstart 0 ds) S := by
  rintro _ S Q E ⟨p, q, rfl, hz, k⟩
  unfold b_is_less
  simp only [ML.q_mstart, ML.q_mends, List.map_cons, List.map_nil, List.replicate, List.cons_append, List.nil_append]
  simp only [gf]
  refine ⟨ok_nd (by omega), ok_nd (by omega), ?_⟩
  have e : (p.num * q.den < q.num * p.den) = (p < q) := propext (Rat.lt_iff p q).symm
  simp only [e]; exact k
theorem log2_dd {p q : Rat} (h : sz p + sz q < 8000) : ((p.den : Int) * (q.den : Int)).natAbs.log2 < 9000 := by
  have := sz_pos p
  have := log2_lt' (natAbs_mul_lt (den_abs p) (den_abs q)) (by omega)
  omega
theorem log2_dn {p q : Rat} (h : sz p + sz q < 8000) : ((p.den : Int) * q.num).natAbs.log2 < 9000 := by
  have := sz_pos p
  have := log2_lt' (natAbs_mul_lt (den_abs p) (sz_num q)) (by omega)
  omega
theorem dd_ne (p q : Rat) : (p.den : Int) * (q.den : Int) ≠ 0 := Int.mul_ne_zero (den_ne p) (den_ne q)
theorem r_plus : ∀ ds S Q E, FL.sp_plus ds S Q E → b_plus (mends Q E) (mstart 0 ds) S := by
  rintro _ S Q E ⟨p, q, rfl, hz, k⟩
  unfold b_plus
  simp only [ML.q_mstart, ML.q_mends, List.map_cons, List.map_nil, List.replicate, List.cons_append, List.nil_append]
  simp only [gf]
  refine ⟨ok_nd (by omega), ok_nd (by omega), ok_dd (by omega), _, _, rfl, dd_ne p q, log2_dd hz, ?_⟩
  rw [← Int.natCast_mul, Rat.divInt_ofNat, ← Rat.add_def']; exact k
theorem r_less : ∀ ds S Q E, FL.sp_less ds S Q E → b_less (mends Q E) (mstart 0 ds) S := by
  rintro _ S Q E ⟨p, q, rfl, hz, k⟩
  unfold b_less
  simp only [ML.q_mstart, ML.q_mends, List.map_cons, List.map_nil, List.replicate, List.cons_append, List.nil_append]
  simp only [gf]
  refine ⟨ok_nd (by omega), ok_nd (by omega), ok_dd (by omega), _, _, rfl, dd_ne p q, log2_dd hz, ?_⟩
  rw [← Int.natCast_mul, Rat.divInt_ofNat, ← Rat.sub_def']; exact k
theorem r_times : ∀ ds S Q E, FL.sp_times ds S Q E → b_times (mends Q E) (mstart 0 ds) S := by
  rintro _ S Q E ⟨p, q, rfl, hz, k⟩
  unfold b_times
  simp only [ML.q_mstart, ML.q_mends, List.map_cons, List.map_nil, List.replicate, List.cons_append, List.nil_append]
  simp only [gf]
  refine ⟨ok_nn (by omega), ok_dd (by omega), _, _, rfl, dd_ne p q, log2_dd hz, ?_⟩
  rw [← Int.natCast_mul, Rat.divInt_ofNat, ← Rat.mul_def']; exact k
theorem r_over : ∀ ds S Q E, FL.sp_over ds S Q E → b_over (mends Q E) (mstart 0 ds) S := by
  rintro _ S Q E ⟨p, q, rfl, hz, hq, k⟩
  unfold b_over
  simp only [ML.q_mstart, ML.q_mends, List.map_cons, List.map_nil, List.replicate, List.cons_append, List.nil_append]
  simp only [gf]
  refine ⟨ok_nd (by omega), ok_dn (by omega), _, _, rfl, Int.mul_ne_zero (den_ne p) (fun z => hq (Rat.num_eq_zero.mp z)), log2_dn hz, ?_⟩
  rw [← div_eq]; exact k
theorem r_law_less : ∀ ds S Q E, FL.sp_law_less ds S Q E → b_law_less (mends Q E) (mstart 0 ds) S := by
  rintro _ S Q E ⟨p, q, rfl, hz, k⟩
  unfold b_law_less
  simp only [ML.q_mstart, ML.q_mends, List.map_cons, List.map_nil, List.replicate, List.cons_append, List.nil_append]
  simp only [gf]
  refine ⟨line_le (by decide), p, -q, rfl, by rw [sz_neg]; exact hz, ?_⟩
  have e : p + -q = p - q := (Rat.sub_eq_add_neg p q).symm
  simp only [e]; exact k
theorem log2_b {b : Int} (h : b.natAbs < 2 ^ 110) : b.natAbs.log2 < 9000 := by
  have := log2_lt' h (by decide)
  omega
theorem r_number : ∀ ds S Q E, FL.sp_number ds S Q E → b_number (mends Q E) (mstart 4 ds) S := by
  rintro _ S Q E ⟨p, c, n, rfl, hp, hn, k⟩
  unfold b_number
  simp only [ML.q_mstart, ML.q_mends, List.map_cons, List.map_nil, List.replicate, List.cons_append, List.nil_append]
  simp only [gf]
  refine ⟨p, c, n, 6, rfl, hp, by decide, by decide, by omega, fun r c' r0 r1 => ?_⟩
  have hr : r = 0 ∨ r = 1 ∨ r = 2 ∨ r = 3 ∨ r = 4 ∨ r = 5 := by omega
  rcases hr with rfl | rfl | rfl | rfl | rfl | rfl <;>
  · simp only [gf]
    refine ⟨cp, cp, line_le (by decide), cp, cp, line_le (by decide), p, c', n + 1, _, rfl, put_same, by decide, by decide, by omega, fun r2 c2 h0 h1 => ?_⟩
    simp only [gf, put_put]
    refine ⟨mulok_l (by decide) (by decide), p, c2, n + 2, _, rfl, put_same, by decide, by decide, by omega, fun r3 c3 h2 h3 => ?_⟩
    simp only [gf, put_put]
    refine ⟨_, _, rfl, by omega, log2_b (by omega), k _ _ (sz_divInt (by decide) (by omega) (by omega))⟩
theorem r_few : ∀ ds S Q E, FL.sp_few ds S Q E → b_few (mends Q E) (mstart 3 ds) S := by
  rintro _ S Q E ⟨p, c, n, rfl, hp, hn, k⟩
  unfold b_few
  simp only [ML.q_mstart, ML.q_mends, List.map_cons, List.map_nil, List.replicate, List.cons_append, List.nil_append]
  simp only [gf]
  refine ⟨p, c, n, 4, rfl, hp, by decide, by decide, by omega, fun r c' r0 r1 => ?_⟩
  have hr : r = 0 ∨ r = 1 ∨ r = 2 ∨ r = 3 := by omega
  rcases hr with rfl | rfl | rfl | rfl <;>
  · simp only [gf]
    refine ⟨line_le (by decide), line_le (by decide), p, c', n + 1, _, rfl, put_same, by decide, by decide, by omega, fun r2 c2 h0 h1 => ?_⟩
    simp only [gf, put_put]
    refine ⟨mulok_l (by decide) (by decide), p, c2, n + 2, _, rfl, put_same, by decide, by decide, by omega, fun r3 c3 h2 h3 => ?_⟩
    simp only [gf, put_put]
    refine ⟨_, _, rfl, by omega, log2_b (by omega), k _ _ (sz_divInt (by decide) (by omega) (by omega))⟩
theorem r_is_ahead : ∀ ds S Q E, FL.sp_is_ahead ds S Q E → b_is_ahead (mends Q E) (mstart 0 ds) S := by
  rintro _ S Q E ⟨a, b, rfl, ⟨n, ⟨h1, h2⟩, ⟨h3, h4⟩, hn⟩, k⟩
  unfold b_is_ahead
  simp only [ML.q_mstart, ML.q_mends, List.map_cons, List.map_nil, List.replicate, List.cons_append, List.nil_append]
  simp only [gf]
  by_cases z : a.1 = b.1
  · rw [if_neg (by simpa using z)]
    refine ⟨_, _, rfl, by omega, ?_⟩
    have e : (a.2 < b.2) = ahead a b := by
      unfold ahead; rw [z]; simp [Rat.lt_irrefl]
    simp only [e]; exact k
  · rw [if_pos (by simpa using z)]
    refine ⟨_, _, rfl, by omega, ?_⟩
    have e : (a.1 < b.1) = ahead a b := by
      unfold ahead; simp [z]
    simp only [e]; exact k
theorem SzS.alng {n : Nat} {w : Wl} (h1 : SzS n w.1) (h2 : SzS n w.2) : SzS (2 * n + 1) (alng w) := by
  have := sz_sub w.2.1 w.1.1
  have := sz_sub w.2.2 w.1.2
  obtain ⟨a, b⟩ := h1
  obtain ⟨c, d⟩ := h2
  exact ⟨by simp only [FL.alng]; omega, by simp only [FL.alng]; omega⟩
theorem sz_crs {n : Nat} {u v : Pt} (h1 : SzS n u) (h2 : SzS n v) : sz (crs u v) ≤ 4 * n + 1 := by
  have := sz_sub (u.1 * v.2) (u.2 * v.1)
  have := sz_mul u.1 v.2
  have := sz_mul u.2 v.1
  obtain ⟨a, b⟩ := h1
  obtain ⟨c, d⟩ := h2
  simp only [crs]; omega
theorem r_along : ∀ ds S Q E, FL.sp_along ds S Q E → b_along (mends Q E) (mstart 2 ds) S := by
  rintro _ S Q E ⟨w, rfl, ⟨n, ⟨h1, h2⟩, ⟨h3, h4⟩, hn⟩, k⟩
  unfold b_along
  simp only [ML.q_mstart, ML.q_mends, List.map_cons, List.map_nil, List.replicate, List.cons_append, List.nil_append]
  simp only [gf]
  refine ⟨_, _, rfl, by omega, ?_⟩
  simp only [gf]
  refine ⟨_, _, rfl, by omega, ?_⟩
  simp only [gf]
  exact ⟨line_le (by decide), k⟩
theorem r_crossed : ∀ ds S Q E, FL.sp_crossed ds S Q E → b_crossed (mends Q E) (mstart 0 ds) S := by
  rintro _ S Q E ⟨u, v, rfl, ⟨n, ⟨h1, h2⟩, ⟨h3, h4⟩, hn⟩, k⟩
  unfold b_crossed
  simp only [ML.q_mstart, ML.q_mends, List.map_cons, List.map_nil, List.replicate, List.cons_append, List.nil_append]
  simp only [gf]
  refine ⟨_, _, rfl, by omega, ?_⟩
  simp only [gf]
  refine ⟨_, _, rfl, by omega, ?_⟩
  simp only [gf]
  have := sz_mul u.1 v.2
  have := sz_mul u.2 v.1
  refine ⟨_, _, rfl, by omega, ?_⟩
  exact k
theorem r_leaning : ∀ ds S Q E, FL.sp_leaning ds S Q E → b_leaning (mends Q E) (mstart 1 ds) S := by
  rintro _ S Q E ⟨u, v, rfl, hn, k⟩
  unfold b_leaning
  simp only [ML.q_mstart, ML.q_mends, List.map_cons, List.map_nil, List.replicate, List.cons_append, List.nil_append]
  simp only [gf]
  refine ⟨_, _, rfl, hn, ?_⟩
  simp only [gf]
  have e : ((if 0 < (crs u v).num then 1 else 0) - if (crs u v).num < 0 then 1 else 0 : Int) = sgn (crs u v) := by
    have h1 : 0 < (crs u v).num ↔ 0 < crs u v := by rw [Rat.lt_iff]; simp
    have h2 : (crs u v).num < 0 ↔ crs u v < 0 := by rw [Rat.lt_iff]; simp
    unfold sgn
    simp only [← h1, ← h2]
    by_cases a : 0 < (crs u v).num
    · rw [if_pos a, if_pos a, if_neg (by omega)]; rfl
    · by_cases b : (crs u v).num < 0
      · rw [if_neg a, if_neg a, if_pos b, if_pos b]; rfl
      · rw [if_neg a, if_neg a, if_neg b, if_neg b]; rfl
  rw [e]; exact k
theorem r_side_of : ∀ ds S Q E, FL.sp_side_of ds S Q E → b_side_of (mends Q E) (mstart 0 ds) S := by
  rintro _ S Q E ⟨w, s, rfl, ⟨n, h1, h2, h3, hn⟩, k⟩
  unfold b_side_of
  simp only [ML.q_mstart, ML.q_mends, List.map_cons, List.map_nil, List.replicate, List.cons_append, List.nil_append]
  simp only [gf]
  refine ⟨_, rfl, ⟨n, h1, h2, by omega⟩, ?_⟩
  simp only [gf]
  refine ⟨line_le (by decide), (w.1, s), rfl, ⟨n, h1, h3, by omega⟩, ?_⟩
  simp only [gf]
  exact ⟨_, _, rfl, ⟨2 * n + 1, SzS.alng h1 h2, SzS.alng (w := (w.1, s)) h1 h3, by omega⟩, k⟩
theorem r_lies_on : ∀ ds S Q E, FL.sp_lies_on ds S Q E → b_lies_on (mends Q E) (mstart 2 ds) S := by
  rintro _ S Q E ⟨w, s, rfl, ⟨n, h1, h2, h3, hn⟩, k⟩
  unfold b_lies_on
  simp only [ML.q_mstart, ML.q_mends, List.map_cons, List.map_nil, List.replicate, List.cons_append, List.nil_append]
  simp only [gf]
  refine ⟨_, _, rfl, ⟨n, h3, h1, by omega⟩, ?_⟩
  simp only [gf]
  by_cases z1 : ahead s w.1
  · rw [if_pos (by simpa using z1)]
    have e : decide (liesOn w s) = false := by simp [liesOn, z1]
    rw [e] at k; exact k
  · rw [if_neg (by simpa using z1)]
    refine ⟨_, _, rfl, ⟨n, h2, h3, by omega⟩, ?_⟩
    simp only [gf]
    by_cases z2 : ahead w.2 s
    · rw [if_pos (by simpa using z2)]
      have e : decide (liesOn w s) = false := by simp [liesOn, z2]
      rw [e] at k; exact k
    · rw [if_neg (by simpa using z2)]
      refine ⟨_, _, rfl, ⟨n, h1, h2, h3, by omega⟩, ?_⟩
      simp only [gf]
      have e : (side w s = 0) = liesOn w s := by simp [liesOn, z1, z2]
      simp only [e]; exact k
theorem r_spans : ∀ ds S Q E, FL.sp_spans ds S Q E → b_spans (mends Q E) (mstart 0 ds) S := by
  rintro _ S Q E ⟨w, s, rfl, ⟨n, h1, h2, h3, hn⟩, k⟩
  unfold b_spans
  simp only [ML.q_mstart, ML.q_mends, List.map_cons, List.map_nil, List.replicate, List.cons_append, List.nil_append]
  simp only [gf]
  refine ⟨_, _, rfl, ⟨n, h3, h1, by omega⟩, ?_⟩
  simp only [gf]
  by_cases z1 : ahead s w.1
  · rw [if_neg (by simpa using z1)]
    have e : decide (spansW w s) = false := by simp [spansW, z1]
    rw [e] at k; exact k
  · rw [if_pos (by simpa using z1)]
    refine ⟨_, _, rfl, ⟨n, h3, h2, by omega⟩, ?_⟩
    have e : (ahead s w.2) = spansW w s := by simp [spansW, z1]
    simp only [e]; exact k
end FL

set_option maxRecDepth 100000
namespace FL
open PySem PySem.Spec L2 ML
/-! ### sizes, bounds from below -/
theorem z_add {p q : Rat} {a b : Nat} (h1 : sz p ≤ a) (h2 : sz q ≤ b) : sz (p + q) ≤ a + b + 1 := by have := sz_add p q; omega
theorem z_sub {p q : Rat} {a b : Nat} (h1 : sz p ≤ a) (h2 : sz q ≤ b) : sz (p - q) ≤ a + b + 1 := by have := sz_sub p q; omega
theorem z_mul {p q : Rat} {a b : Nat} (h1 : sz p ≤ a) (h2 : sz q ≤ b) : sz (p * q) ≤ a + b := by have := sz_mul p q; omega
theorem z_div {p q : Rat} {a b : Nat} (h1 : sz p ≤ a) (h2 : sz q ≤ b) : sz (p / q) ≤ a + b := by have := sz_div p q; omega
theorem z_neg {p : Rat} {a : Nat} (h1 : sz p ≤ a) : sz (-p) ≤ a := by rwa [sz_neg]
theorem z_a1 {w : Wl} {a b : Nat} (h1 : sz w.2.1 ≤ a) (h2 : sz w.1.1 ≤ b) : sz (alng w).1 ≤ a + b + 1 := z_sub h1 h2
theorem z_a2 {w : Wl} {a b : Nat} (h1 : sz w.2.2 ≤ a) (h2 : sz w.1.2 ≤ b) : sz (alng w).2 ≤ a + b + 1 := z_sub h1 h2
theorem z_crs {u v : Pt} {a b c d : Nat} (h1 : sz u.1 ≤ a) (h2 : sz v.2 ≤ b) (h3 : sz u.2 ≤ c) (h4 : sz v.1 ≤ d) : sz (crs u v) ≤ a + b + (c + d) + 1 := z_sub (z_mul h1 h2) (z_mul h3 h4)
theorem SzS.l {n : Nat} {s : Pt} (h : SzS n s) : sz s.1 ≤ n := h.1
theorem SzS.r {n : Nat} {s : Pt} (h : SzS n s) : sz s.2 ≤ n := h.2
theorem SzS.mk {n : Nat} {s : Pt} (h : sz s.1 ≤ n) (h2 : sz s.2 ≤ n) : SzS n s := ⟨h, h2⟩
theorem SzS.mono {m n : Nat} {s : Pt} (h : SzS m s) (hn : m ≤ n) : SzS n s := ⟨Nat.le_trans h.1 hn, Nat.le_trans h.2 hn⟩
theorem z_int {i : Int} {n : Nat} (h : i.natAbs < 2 ^ n) (h0 : 0 < n) : sz (i : Rat) ≤ n := sz_le h0 (by rwa [Rat.num_intCast]) (by rw [Rat.den_intCast]; exact Nat.one_lt_two_pow (by omega))
/-- bounds, found by instances -/
class BD (q : Rat) (n : outParam Nat) : Prop where
  le : sz q ≤ n
class BP (s : Pt) (n : outParam Nat) : Prop where
  l : sz s.1 ≤ n
  r : sz s.2 ≤ n
class BW (w : Wl) (n : outParam Nat) : Prop where
  f : BP w.1 n
  s : BP w.2 n
section
variable {p q : Rat} {s u v : Pt} {w : Wl} {a b n : Nat}
instance bd_add [h1 : BD p a] [h2 : BD q b] : BD (p + q) (a + b + 1) := ⟨z_add h1.le h2.le⟩
instance bd_sub [h1 : BD p a] [h2 : BD q b] : BD (p - q) (a + b + 1) := ⟨z_sub h1.le h2.le⟩
instance bd_mul [h1 : BD p a] [h2 : BD q b] : BD (p * q) (a + b) := ⟨z_mul h1.le h2.le⟩
instance bd_div [h1 : BD p a] [h2 : BD q b] : BD (p / q) (a + b) := ⟨z_div h1.le h2.le⟩
instance bd_neg [h1 : BD p a] : BD (-p) a := ⟨z_neg h1.le⟩
instance bd_l [h : BP s n] : BD s.1 n := ⟨h.l⟩
instance bd_r [h : BP s n] : BD s.2 n := ⟨h.r⟩
instance bp_f [h : BW w n] : BP w.1 n := h.f
instance bp_s [h : BW w n] : BP w.2 n := h.s
instance bd_0 : BD 0 1 := ⟨by decide⟩
instance bd_1 : BD 1 1 := ⟨by decide⟩
instance bp_mk [h1 : BD p a] [h2 : BD q b] : BP (p, q) (max a b) := ⟨by have := h1.le; show sz p ≤ _; omega, by have := h2.le; show sz q ≤ _; omega⟩
instance bw_mk [h1 : BP u a] [h2 : BP v b] : BW (u, v) (max a b) := ⟨⟨by have := h1.l; show sz u.1 ≤ _; omega, by have := h1.r; show sz u.2 ≤ _; omega⟩, ⟨by have := h2.l; show sz v.1 ≤ _; omega, by have := h2.r; show sz v.2 ≤ _; omega⟩⟩
instance bp_alng [h : BW w n] : BP (alng w) (n + n + 1) := ⟨z_a1 h.s.l h.f.l, z_a2 h.s.r h.f.r⟩
instance bd_crs [h1 : BP u a] [h2 : BP v b] : BD (crs u v) (a + b + (a + b) + 1) := ⟨z_crs h1.l h2.r h1.r h2.l⟩
theorem BD.mono [h : BD q a] (hn : a ≤ n) : BD q n := ⟨Nat.le_trans h.le hn⟩
theorem BP.mono [h : BP s a] (hn : a ≤ n) : BP s n := ⟨Nat.le_trans h.l hn, Nat.le_trans h.r hn⟩
theorem BW.mono [h : BW w a] (hn : a ≤ n) : BW w n := ⟨BP.mono hn, BP.mono hn⟩
theorem BP.S [h : BP s a] (hn : a ≤ n) : SzS n s := ⟨Nat.le_trans h.l hn, Nat.le_trans h.r hn⟩
end
/-! ### calls whose answer is one value -/
theorem spD_inj {a b : Pt} (h : spD a = spD b) : a = b := by
  have := deq_sp (p := a) (q := b)
  rw [h] at this
  have r := deq_sp (p := b) (q := b)
  rw [this] at r
  simpa using r
theorem wlD_inj {a b : Wl} (h : wlD a = wlD b) : a = b := by
  have := deq_wl (p := a) (q := b)
  rw [h] at this
  have r := deq_wl (p := b) (q := b)
  rw [this] at r
  simpa using r
section
variable {S : Sto} {Q : Hold MQ} {E : Hold MXQ} {p q : Rat} {a b u v s : Pt} {w : Wl} {m n k : Nat}
theorem c_two {f : Rat → Rat → Rat} [h1 : BD p m] [h2 : BD q n] (h : m + n < 8000) : @CallP (two f) [fr p, fr q] S Q E = Q.v (fr (f p q)) S := by
  have := h1.le
  have := h2.le
  apply propext
  constructor
  · rintro ⟨p', q', e, _, k⟩
    simp only [List.cons.injEq, and_true, fr_inj] at e
    rw [e.1, e.2]; exact k
  · intro k; exact ⟨p, q, rfl, by omega, k⟩
theorem c_plus [h1 : BD p m] [h2 : BD q n] (h : m + n < 8000) : @CallP sp_plus [fr p, fr q] S Q E = Q.v (fr (p + q)) S := c_two h
theorem c_less [h1 : BD p m] [h2 : BD q n] (h : m + n < 8000) : @CallP sp_less [fr p, fr q] S Q E = Q.v (fr (p - q)) S := c_two h
theorem c_law_less [h1 : BD p m] [h2 : BD q n] (h : m + n < 8000) : @CallP sp_law_less [fr p, fr q] S Q E = Q.v (fr (p - q)) S := c_two h
theorem c_times [h1 : BD p m] [h2 : BD q n] (h : m + n < 8000) : @CallP sp_times [fr p, fr q] S Q E = Q.v (fr (p * q)) S := c_two h
theorem c_over [h1 : BD p m] [h2 : BD q n] (h : m + n < 8000) (h3 : q ≠ 0) : @CallP sp_over [fr p, fr q] S Q E = Q.v (fr (p / q)) S := by
  have := h1.le
  have := h2.le
  apply propext
  constructor
  · rintro ⟨p', q', e, _, _, k⟩
    simp only [List.cons.injEq, and_true, fr_inj] at e
    rw [e.1, e.2]; exact k
  · intro k; exact ⟨p, q, rfl, by omega, h3, k⟩
theorem c_is_less [h1 : BD p m] [h2 : BD q n] (h : m + n < 8000) : @CallP sp_is_less [fr p, fr q] S Q E = Q.v (.bl (decide (p < q))) S := by
  have := h1.le
  have := h2.le
  apply propext
  constructor
  · rintro ⟨p', q', e, _, k⟩
    simp only [List.cons.injEq, and_true, fr_inj] at e
    rw [e.1, e.2]; exact k
  · intro k; exact ⟨p, q, rfl, by omega, k⟩
theorem c_is_ahead [h1 : BP a m] [h2 : BP b n] (h : m + n < 4000) : @CallP sp_is_ahead [spD a, spD b] S Q E = Q.v (.bl (decide (ahead a b))) S := by
  apply propext
  constructor
  · rintro ⟨p', q', e, _, k⟩
    simp only [List.cons.injEq, and_true] at e
    cases spD_inj e.1; cases spD_inj e.2; exact k
  · intro k; exact ⟨a, b, rfl, ⟨m + n, BP.S (by omega), BP.S (by omega), by omega⟩, k⟩
theorem c_along [h1 : BW w m] (h : m < 4000) : @CallP sp_along [wlD w] S Q E = Q.v (spD (alng w)) S := by
  apply propext
  constructor
  · rintro ⟨w', e, _, k⟩
    simp only [List.cons.injEq, and_true] at e
    cases wlD_inj e; exact k
  · intro k; exact ⟨w, rfl, ⟨m, BP.S (by omega), BP.S (by omega), by omega⟩, k⟩
theorem c_crossed [h1 : BP u m] [h2 : BP v n] (h : m + n < 1900) : @CallP sp_crossed [spD u, spD v] S Q E = Q.v (fr (crs u v)) S := by
  apply propext
  constructor
  · rintro ⟨p', q', e, _, k⟩
    simp only [List.cons.injEq, and_true] at e
    cases spD_inj e.1; cases spD_inj e.2; exact k
  · intro k; exact ⟨u, v, rfl, ⟨m + n, BP.S (by omega), BP.S (by omega), by omega⟩, k⟩
theorem c_leaning [h1 : BP u m] [h2 : BP v n] (h : m + n < 1900) : @CallP sp_leaning [spD u, spD v] S Q E = Q.v (.int (sgn (crs u v))) S := by
  apply propext
  constructor
  · rintro ⟨p', q', e, _, k⟩
    simp only [List.cons.injEq, and_true] at e
    cases spD_inj e.1; cases spD_inj e.2; exact k
  · intro k; exact ⟨u, v, rfl, ⟨m + n, BP.S (by omega), BP.S (by omega), by omega⟩, k⟩
theorem c_side_of [h1 : BW w m] [h2 : BP s n] (h : m + n < 900) : @CallP sp_side_of [wlD w, spD s] S Q E = Q.v (.int (side w s)) S := by
  apply propext
  constructor
  · rintro ⟨p', q', e, _, k⟩
    simp only [List.cons.injEq, and_true] at e
    cases wlD_inj e.1; cases spD_inj e.2; exact k
  · intro k; exact ⟨w, s, rfl, ⟨m + n, BP.S (by omega), BP.S (by omega), BP.S (by omega), by omega⟩, k⟩
theorem c_lies_on [h1 : BW w m] [h2 : BP s n] (h : m + n < 900) : @CallP sp_lies_on [wlD w, spD s] S Q E = Q.v (.bl (decide (liesOn w s))) S := by
  apply propext
  constructor
  · rintro ⟨p', q', e, _, k⟩
    simp only [List.cons.injEq, and_true] at e
    cases wlD_inj e.1; cases spD_inj e.2; exact k
  · intro k; exact ⟨w, s, rfl, ⟨m + n, BP.S (by omega), BP.S (by omega), BP.S (by omega), by omega⟩, k⟩
theorem c_spans [h1 : BW w m] [h2 : BP s n] (h : m + n < 4000) : @CallP sp_spans [wlD w, spD s] S Q E = Q.v (.bl (decide (spansW w s))) S := by
  apply propext
  constructor
  · rintro ⟨p', q', e, _, k⟩
    simp only [List.cons.injEq, and_true] at e
    cases wlD_inj e.1; cases spD_inj e.2; exact k
  · intro k; exact ⟨w, s, rfl, ⟨m + n, BP.S (by omega), BP.S (by omega), BP.S (by omega), by omega⟩, k⟩
theorem sqI_sp {S : Sto} {s : Pt} : sqI S (spD s) = some ([fr s.1, fr s.2], fun _ => True) := Eq.trans rfl rfl
theorem sqI_wl {S : Sto} {w : Wl} : sqI S (wlD w) = some ([spD w.1, spD w.2], fun _ => True) := Eq.trans rfl rfl
/-! ### the row, beside other lists -/
theorem row_ne {S : Sto} {p q : Addr} {o : MO} {c n : Int} (h : p ≠ q) : put (put S p (rowO c n)) q o p = some (rowO c n) := by rw [put_ne h, put_same]
theorem row_ne2 {S : Sto} {p q r : Addr} {o u : MO} {c n : Int} (h2 : p ≠ r) (h : p ≠ q) : put (put (put S p (rowO c n)) q o) r u p = some (rowO c n) := by rw [put_ne h2, put_ne h, put_same]
theorem row_ne3 {S : Sto} {p q r t : Addr} {o u v : MO} {c n : Int} (h3 : p ≠ t) (h2 : p ≠ r) (h : p ≠ q) : put (put (put (put S p (rowO c n)) q o) r u) t v p = some (rowO c n) := by rw [put_ne h3, put_ne h2, put_ne h, put_same]
/-! ### calls that draw -/
theorem t_cell {ns : List Int} {k : Nat} (h : ∀ c : Int, Q.v (.int c) S) : @CallP sp_cell_at [.scr (ns.map .int), .int (k : Nat)] S Q E := ⟨ns, k, rfl, h⟩
theorem t_take {P : Addr} {c z : Int} {n : Nat} (hp : S P = some (rowO c n)) (h0 : 0 < z) (h1 : z < 2 ^ 200) (hn : n < 2 ^ 60) (k : ∀ r c' : Int, 0 ≤ r → r < z → Q.v (.int r) (put S P (rowO c' (n + 1 : Nat)))) : @CallP sp_take [.ref P, .int z] S Q E :=
  ⟨P, c, n, z, rfl, hp, h0, h1, hn, k⟩
theorem t_low {t b : Int} (hb : b ≠ 0) (hz : b.natAbs < 2 ^ 200) (k : Q.v (fr (Rat.divInt t b)) S) : @CallP sp_low [.int t, .int b] S Q E :=
  ⟨t, b, rfl, hb, by have := log2_lt' hz (by decide); omega, k⟩
theorem t_number {P : Addr} {c : Int} {n : Nat} (hp : S P = some (rowO c n)) (hn : n < 2 ^ 50) (k : ∀ (q : Rat) (c' : Int), BD q 110 → Q.v (fr q) (put S P (rowO c' (n + 3 : Nat)))) : @CallP sp_number [.ref P] S Q E := ⟨P, c, n, rfl, hp, hn, fun q c' h => k q c' ⟨h⟩⟩
theorem t_few {P : Addr} {c : Int} {n : Nat} (hp : S P = some (rowO c n)) (hn : n < 2 ^ 50) (k : ∀ (q : Rat) (c' : Int), BD q 12 → Q.v (fr q) (put S P (rowO c' (n + 3 : Nat)))) : @CallP sp_few [.ref P] S Q E := ⟨P, c, n, rfl, hp, hn, fun q c' h => k q c' ⟨h⟩⟩
theorem bd_divInt {t b : Int} {n : Nat} (hn : 0 < n) (h1 : t.natAbs < 2 ^ n) (h2 : b.natAbs < 2 ^ n) : BD (Rat.divInt t b) n := ⟨sz_divInt hn h1 h2⟩
end
end FL

namespace FL
open PySem PySem.Spec L2 ML
/-! ### units: spots and walls of whole numbers, told as spots by a length and where it begins -/
structure Sc where
  t : Int
  b : Int
  x : Int
  y : Int
def scD (s : Sc) : D := .tup [.int s.t, .int s.b, .int s.x, .int s.y]
structure ScOk (s : Sc) : Prop where
  t1 : 1 ≤ s.t
  t2 : s.t ≤ 2 ^ 30
  b1 : 1 ≤ s.b
  b2 : s.b ≤ 2 ^ 30
  x1 : -(2 ^ 55) ≤ s.x
  x2 : s.x ≤ 2 ^ 55
  y1 : -(2 ^ 55) ≤ s.y
  y2 : s.y ≤ 2 ^ 55
def ofU (u : U2) : Pt := ((u.1 : Rat), (u.2 : Rat))
def ofW (w : UW) : Wl := (ofU w.1, ofU w.2)
/-- a spot in units, as the scale tells it -/
def af (s : Sc) (p : Pt) : Pt := ((p.1 * s.t + s.x) / s.b, (p.2 * s.t + s.y) / s.b)
def afw (s : Sc) (w : Wl) : Wl := (af s w.1, af s w.2)
/-- told by units below which a number stands -/
structure Told where
  x : Int
  y : Int
  n : Int
def toD (t : Told) : D := .tup [.int t.x, .int t.y, .int t.n]
def ofT (t : Told) : Pt := ((t.x : Rat) / t.n, (t.y : Rat) / t.n)
structure UOk (m : Int) (u : U2) : Prop where
  a1 : -m ≤ u.1
  a2 : u.1 ≤ m
  b1 : -m ≤ u.2
  b2 : u.2 ≤ m
structure WOk (m : Int) (w : UW) : Prop where
  f : UOk m w.1
  s : UOk m w.2
structure TOk (t : Told) : Prop where
  x1 : -(2 ^ 40) ≤ t.x
  x2 : t.x ≤ 2 ^ 40
  y1 : -(2 ^ 40) ≤ t.y
  y2 : t.y ≤ 2 ^ 40
  n1 : 1 ≤ t.n
  n2 : t.n ≤ 2 ^ 24
def uturn (a b c : U2) : Int := side (ofU a, ofU b) (ofU c)
def uon (w : UW) (s : U2) : Prop := ule w.1 s ∧ ule s w.2 ∧ uturn w.1 w.2 s = 0
instance : Decidable (uon w s) := by unfold uon; infer_instance
/-- whether two walls in units meet at ends alone, as the laws look at it -/
def ufair (a b : UW) : Bool :=
  !decide (a = b) && (!(!(decide (a.1 = b.1) || decide (a.2 = b.1)) && decide (uon a b.1)) && (!(!(decide (a.1 = b.2) || decide (a.2 = b.2)) && decide (uon a b.2)) &&
  (!(!(decide (b.1 = a.1) || decide (b.2 = a.1)) && decide (uon b a.1)) && (!(!(decide (b.1 = a.2) || decide (b.2 = a.2)) && decide (uon b a.2)) &&
  (decide (0 ≤ uturn a.1 a.2 b.1 * uturn a.1 a.2 b.2) || decide (0 ≤ uturn b.1 b.2 a.1 * uturn b.1 b.2 a.2))))))

def sp_scale : MSp := fun ds S Q _ => ∃ (p : Addr) (c : Int) (n : Nat), ds = [.ref p] ∧ S p = some (rowO c n) ∧ n < 2 ^ 50 ∧ ∀ (s : Sc) (c' : Int) (n' : Nat), ScOk s → n' ≤ n + 8 → Q (scD s) (put S p (rowO c' n'))
def sp_uspot : MSp := fun ds S Q _ => ∃ (s : Sc) (u : U2), ds = [scD s, uD u] ∧ ScOk s ∧ UOk (2 ^ 20) u ∧ Q (spD (af s (ofU u))) S
def sp_made : MSp := fun ds S Q _ => ∃ (s : Sc) (d : D) (ws : List UW), ds = [scD s, d] ∧ SeqK S d (ws.map uwD) ∧ ws.length ≤ 1000 ∧ ScOk s ∧ (∀ w ∈ ws, WOk (2 ^ 20) w) ∧ Q (.tup (ws.map fun w => wlD (afw s (ofW w)))) S
/-- what a wanted spot is: of the grid, or at a part of one of the walls -/
def WantedOk (ws : List UW) (size : Int) (t : Told) : Prop := ((t.n = 1 ∨ t.n = 2 ∨ t.n = 4) ∧ -(t.n / 2) ≤ t.x ∧ t.x < t.n * (size + 1) ∧ -(t.n / 2) ≤ t.y ∧ t.y < t.n * (size + 1)) ∨
  ∃ w ∈ ws, ∃ k : Int, 1 ≤ t.n ∧ t.n ≤ 4 ∧ 0 ≤ k ∧ k ≤ t.n ∧ t.x = w.1.1 * (t.n - k) + w.2.1 * k ∧ t.y = w.1.2 * (t.n - k) + w.2.2 * k
def sp_wanted : MSp := fun ds S Q _ => ∃ (p : Addr) (c : Int) (n : Nat) (d : D) (ws : List UW) (size : Int), ds = [.ref p, d, .int size] ∧ S p = some (rowO c n) ∧ n < 2 ^ 50 ∧ SeqK S d (ws.map uwD) ∧ d ≠ .ref p ∧ (∀ ds, d ≠ .tup ds) ∧ ws.length ≤ 1000 ∧ 0 < size ∧ size ≤ 1000 ∧ (∀ w ∈ ws, WOk (2 ^ 15) w) ∧
  ∀ (t : Told) (c' : Int) (n' : Nat), TOk t → WantedOk ws size t → n' ≤ n + 4 → Q (toD t) (put S p (rowO c' n'))
def sp_spot_at : MSp := fun ds S Q _ => ∃ (s : Sc) (t : Told), ds = [scD s, toD t] ∧ ScOk s ∧ TOk t ∧ Q (spD (af s (ofT t))) S
def upt (k : Int) (u : U2) : U2 := (k * u.1, k * u.2)
def upw (k : Int) (w : UW) : UW := (upt k w.1, upt k w.2)
def sp_by : MSp := fun ds S Q _ => ∃ (d : D) (ws : List UW) (k : Int), ds = [d, .int k] ∧ SeqK S d (ws.map uwD) ∧ ws.length ≤ 1000 ∧ -(2 ^ 20) ≤ k ∧ k ≤ 2 ^ 20 ∧ (∀ w ∈ ws, WOk (2 ^ 20) w) ∧ Q (.lst (ws.map fun w => uwD (upw k w))) S
def sp_turn : MSp := fun ds S Q _ => ∃ a b c : U2, ds = [uD a, uD b, uD c] ∧ UOk (2 ^ 30) a ∧ UOk (2 ^ 30) b ∧ UOk (2 ^ 30) c ∧ Q (.int (uturn a b c)) S
def sp_on : MSp := fun ds S Q _ => ∃ (w : UW) (s : U2), ds = [uwD w, uD s] ∧ WOk (2 ^ 30) w ∧ UOk (2 ^ 30) s ∧ Q (.bl (decide (uon w s))) S
def sp_fair : MSp := fun ds S Q _ => ∃ a b : UW, ds = [uwD a, uwD b] ∧ WOk (2 ^ 30) a ∧ WOk (2 ^ 30) b ∧ ∀ S', (∀ q o, S q = some o → S' q = some o) → Q (.bl (ufair a b)) S'
/-- walls drawn: rising, on the grid, unlike, meeting at ends alone -/
structure Drawn (most : Nat) (size : Int) (ws : List UW) : Prop where
  len : ws.length ≤ most
  up : ∀ w ∈ ws, ult w.1 w.2
  lo : ∀ w ∈ ws, 0 ≤ w.1.1 ∧ w.1.1 < size ∧ 0 ≤ w.1.2 ∧ w.1.2 < size ∧ 0 ≤ w.2.1 ∧ w.2.1 < size ∧ 0 ≤ w.2.2 ∧ w.2.2 < size
  fair : ws.Pairwise fun a b => ufair b a = true
def sp_shuts_here : MSp := fun ds S Q _ => ∃ (p : Addr) (c : Int) (n most : Nat) (size : Int), ds = [.ref p, .int most, .int size] ∧ S p = some (rowO c n) ∧ n < 2 ^ 50 ∧ most ≤ 100 ∧ 0 < size ∧ size ≤ 1000 ∧
  ∀ (ws : List UW) (q : Addr) (c' : Int) (n' : Nat) (S' : Sto), Drawn most size ws → n' ≤ n + 1000 → S q = none → q ≠ p → (∀ a o, a ≠ p → S a = some o → S' a = some o) → S' p = some (rowO c' n') → S' q = some (.lst (ws.map uwD)) → Q (.ref q) S'
/-! ### lists of walls in units -/
theorem deps_uw (ws : List UW) : D.deps (ws.map uwD) ≤ 2 := deps_map fun w => by rw [dep_uw]; exact Nat.le_refl _
theorem plains_uw (ws : List UW) : D.plains (ws.map uwD) = true := plains_map plain_uw
theorem eqOk_luw0 {ws : List UW} : eqOk (.lst (ws.map uwD)) (.lst []) = true := eqOk_of' (plains_uw ws) rfl (by have := deps_uw ws; rw [D.dep]; omega) (by decide)
theorem deq_luw0 {ws : List UW} : D.deq (.lst (ws.map uwD)) (.lst []) = ws.isEmpty := by cases ws <;> rfl
theorem ixL_map {α : Type} {xs : List α} {f : α → D} {r : Int} (h0 : 0 ≤ r) (h1 : r < xs.length) : ∃ a ∈ xs, ixL (xs.map f) r = some (f a) := by
  obtain ⟨k, rfl⟩ := Int.eq_ofNat_of_zero_le h0
  have hk : k < xs.length := by omega
  refine ⟨xs[k], List.getElem_mem hk, ?_⟩
  rw [ixL_cast, List.getElem?_map, List.getElem?_eq_getElem hk]; rfl
theorem sgn_bd (q : Rat) : -1 ≤ sgn q ∧ sgn q ≤ 1 := by
  unfold sgn
  split
  · decide
  · split <;> decide
theorem uturn_bd (a b c : U2) : -1 ≤ uturn a b c ∧ uturn a b c ≤ 1 := sgn_bd _
theorem ult_irrefl (a : U2) : ¬ ult a a := by unfold ult; omega
theorem ult_asymm {a b : U2} (h : ult a b) : ¬ ult b a := by unfold ult at *; omega
theorem ult_tri {a b : U2} (h : a ≠ b) : ult a b ∨ ult b a := by
  unfold ult
  have : ¬ (a.1 = b.1 ∧ a.2 = b.2) := fun z => h (Prod.ext z.1 z.2)
  omega
theorem t_takeA {S : Sto} {Q : Hold MQ} {E : Hold MXQ} {P : Addr} {c z : Int} {n : Nat} (hp : S P = some (rowO c n)) (h0 : 0 < z) (h1 : z < 2 ^ 200) (hn : n < 2 ^ 60)
    (k : ∀ (r c' : Int) (S' : Sto), 0 ≤ r → r < z → S' P = some (rowO c' (n + 1 : Nat)) → (∀ a, a ≠ P → S' a = S a) → Q.v (.int r) S') : @CallP sp_take [.ref P, .int z] S Q E :=
  t_take hp h0 h1 hn fun r c' r0 r1 => k r c' _ r0 r1 put_same fun a h => put_ne h
end FL

set_option maxRecDepth 100000
namespace FL
open PySem PySem.Spec L2 ML
def b_by : MS := (mRet (mCompF (iS (mVar 0)) (gNm 3) mYes (mBlt bTuple (mCons (mCompF (iS (mVar 3)) (gNm 2) mYes (mTup (mCons (mOp rMul (mVar 1) (mOp rIxM (mVar 2) (mC (.int 0)))) (mCons (mOp rMul (mVar 1) (mOp rIxM (mVar 2) (mC (.int 1)))) mNil))) [2]) mNil)) [3]))
def b_turn : MS := (mSeq (mSet 3 (mTup (mCons (mOp rSub (mOp rIxM (mVar 1) (mC (.int 0))) (mOp rIxM (mVar 0) (mC (.int 0)))) (mCons (mOp rSub (mOp rIxM (mVar 1) (mC (.int 1))) (mOp rIxM (mVar 0) (mC (.int 1)))) mNil))))
  (mSeq (mSet 4 (mTup (mCons (mOp rSub (mOp rIxM (mVar 2) (mC (.int 0))) (mOp rIxM (mVar 0) (mC (.int 0)))) (mCons (mOp rSub (mOp rIxM (mVar 2) (mC (.int 1))) (mOp rIxM (mVar 0) (mC (.int 1)))) mNil))))
  (mSeq (mSet 5 (mOp rSub (mOp rMul (mOp rIxM (mVar 3) (mC (.int 0))) (mOp rIxM (mVar 4) (mC (.int 1)))) (mOp rMul (mOp rIxM (mVar 3) (mC (.int 1))) (mOp rIxM (mVar 4) (mC (.int 0))))))
  (mRet (mOp rSub (mBlt bInt (mCons (mOp aGt (mVar 5) (mC (.int 0))) mNil)) (mBlt bInt (mCons (mOp aLt (mVar 5) (mC (.int 0))) mNil)))))))
def b_scale : MS := (mSeq (mPar 1 2 (mCons (mOp rAdd (mC (.int 1)) (mCall FL.sp_take (mCons (mVar 0) (mCons (mC (.int 6)) mNil)))) (mCons (mOp rAdd (mC (.int 1)) (mCall FL.sp_take (mCons (mVar 0) (mCons (mC (.int 6)) mNil)))) mNil)))
  (mSeq (mIfJ (mTst (mOp rEqM (mCall FL.sp_take (mCons (mVar 0) (mCons (mC (.int 4)) mNil))) (mC (.int 0)))) (mPar 1 2 (mCons (mOp rAdd (mC (.int 1)) (mCall FL.sp_take (mCons (mVar 0) (mCons (mOp rPow (mC (.int 10)) (mC (.int 9))) mNil)))) (mCons (mOp rAdd (mC (.int 1)) (mCall FL.sp_take (mCons (mVar 0) (mCons (mOp rPow (mC (.int 10)) (mC (.int 9))) mNil)))) mNil))) mNext)
  (mSeq (mSet 3 (mOp rIxM (mLstF (mCons (mC (.int 1)) (mCons (mOp rPow (mC (.int 10)) (mC (.int 15))) mNil))) (mBlt bInt (mCons (mOp rEqM (mCall FL.sp_take (mCons (mVar 0) (mCons (mC (.int 6)) mNil))) (mC (.int 0))) mNil))))
  (mRet (mTup (mCons (mVar 1) (mCons (mVar 2) (mCons (mOp rMul (mVar 3) (mOp rSub (mCall FL.sp_take (mCons (mVar 0) (mCons (mC (.int 41)) mNil))) (mC (.int 20)))) (mCons (mOp rMul (mVar 3) (mOp rSub (mCall FL.sp_take (mCons (mVar 0) (mCons (mC (.int 41)) mNil))) (mC (.int 20)))) mNil)))))))))
def b_uspot : MS := (mSeq (mAsg (mVar 0) (gTp 4 (gCn (gNm 2) (gCn (gNm 3) (gCn (gNm 4) (gCn (gNm 5) gNl))))))
  (mRet (mTup (mCons (mCall FL.sp_low (mCons (mOp rAdd (mOp rMul (mOp rIxM (mVar 1) (mC (.int 0))) (mVar 2)) (mVar 4)) (mCons (mVar 3) mNil))) (mCons (mCall FL.sp_low (mCons (mOp rAdd (mOp rMul (mOp rIxM (mVar 1) (mC (.int 1))) (mVar 2)) (mVar 5)) (mCons (mVar 3) mNil))) mNil)))))
def b_wanted : MS := (mSeq (mSet 3 (mCall FL.sp_take (mCons (mVar 0) (mCons (mC (.int 4)) mNil))))
  (mSeq (mIfS (mAnd (mTst (mOp rEqM (mVar 3) (mC (.int 0)))) (mTst (mOp rNeM (mVar 1) (mLstF mNil)))) (mSeq (mAsg (mOp rIxM (mVar 1) (mCall FL.sp_take (mCons (mVar 0) (mCons (mBlt bLen (mCons (mVar 1) mNil)) mNil)))) (gTp 2 (gCn (gNm 4) (gCn (gNm 5) gNl))))
  (mSeq (mSet 6 (mOp rAdd (mC (.int 1)) (mCall FL.sp_take (mCons (mVar 0) (mCons (mC (.int 4)) mNil)))))
  (mSeq (mSet 7 (mCall FL.sp_take (mCons (mVar 0) (mCons (mOp rAdd (mVar 6) (mC (.int 1))) mNil))))
  (mSeq (mSet 8 (mOp rAdd (mOp rMul (mOp rIxM (mVar 4) (mC (.int 0))) (mOp rSub (mVar 6) (mVar 7))) (mOp rMul (mOp rIxM (mVar 5) (mC (.int 0))) (mVar 7))))
  (mRet (mTup (mCons (mVar 8) (mCons (mOp rAdd (mOp rMul (mOp rIxM (mVar 4) (mC (.int 1))) (mOp rSub (mVar 6) (mVar 7))) (mOp rMul (mOp rIxM (mVar 5) (mC (.int 1))) (mVar 7))) (mCons (mVar 6) mNil))))))))) mNext)
  (mSeq (mSet 6 (mOp rIxM (mLstF (mCons (mC (.int 1)) (mCons (mC (.int 1)) (mCons (mC (.int 2)) (mCons (mC (.int 4)) mNil))))) (mVar 3)))
  (mRet (mTup (mCons (mOp rSub (mCall FL.sp_take (mCons (mVar 0) (mCons (mOp rMul (mVar 6) (mOp rAdd (mVar 2) (mC (.int 1)))) mNil))) (mOp rDiv (mVar 6) (mC (.int 2)))) (mCons (mOp rSub (mCall FL.sp_take (mCons (mVar 0) (mCons (mOp rMul (mVar 6) (mOp rAdd (mVar 2) (mC (.int 1)))) mNil))) (mOp rDiv (mVar 6) (mC (.int 2)))) (mCons (mVar 6) mNil))))))))
def b_spot_at : MS := (mSeq (mAsg (mVar 0) (gTp 4 (gCn (gNm 2) (gCn (gNm 3) (gCn (gNm 4) (gCn (gNm 5) gNl))))))
  (mSeq (mSet 6 (mOp rIxM (mVar 1) (mC (.int 2))))
  (mRet (mTup (mCons (mCall FL.sp_low (mCons (mOp rAdd (mOp rMul (mOp rIxM (mVar 1) (mC (.int 0))) (mVar 2)) (mOp rMul (mVar 4) (mVar 6))) (mCons (mOp rMul (mVar 3) (mVar 6)) mNil))) (mCons (mCall FL.sp_low (mCons (mOp rAdd (mOp rMul (mOp rIxM (mVar 1) (mC (.int 1))) (mVar 2)) (mOp rMul (mVar 5) (mVar 6))) (mCons (mOp rMul (mVar 3) (mVar 6)) mNil))) mNil))))))
def b_on : MS := (mRet (mAndV (mChain aLe aLe (mOp rIxM (mVar 0) (mC (.int 0))) (mVar 1) (mOp rIxM (mVar 0) (mC (.int 1)))) (mOp rEqM (mCall FL.sp_turn (mCons (mOp rIxM (mVar 0) (mC (.int 0))) (mCons (mOp rIxM (mVar 0) (mC (.int 1))) (mCons (mVar 1) mNil)))) (mC (.int 0)))))
def b_made : MS := (mRet (mBlt bTuple (mCons (mCompF (iS (mVar 1)) (gTp 2 (gCn (gNm 2) (gCn (gNm 3) gNl))) mYes (mTup (mCons (mCall FL.sp_uspot (mCons (mVar 0) (mCons (mVar 2) mNil))) (mCons (mCall FL.sp_uspot (mCons (mVar 0) (mCons (mVar 3) mNil))) mNil))) [2, 3]) mNil)))
def b_fair : MS := (mSeq (mIfS (mTst (mOp rEqM (mVar 0) (mVar 1))) (mRet (mC (.bl false))) mNext)
  (mSeq (mFor (iS (mTup (mCons (mTup (mCons (mVar 0) (mCons (mVar 1) mNil))) (mCons (mTup (mCons (mVar 1) (mCons (mVar 0) mNil))) mNil)))) (gTp 2 (gCn (gNm 2) (gCn (gNm 3) gNl))) (mFor (iS (mVar 3)) (gNm 4) (mIfS (mAnd (mTst (mOp (rInM true) (mVar 4) (mVar 2))) (mTru (mCall FL.sp_on (mCons (mVar 2) (mCons (mVar 4) mNil))))) (mRet (mC (.bl false))) mNext)))
  (mSeq (mSet 5 (mComp (iS (mVar 1)) (gNm 4) mYes (mCall FL.sp_turn (mCons (mOp rIxM (mVar 0) (mC (.int 0))) (mCons (mOp rIxM (mVar 0) (mC (.int 1))) (mCons (mVar 4) mNil)))) [4]))
  (mSeq (mSet 6 (mComp (iS (mVar 0)) (gNm 4) mYes (mCall FL.sp_turn (mCons (mOp rIxM (mVar 1) (mC (.int 0))) (mCons (mOp rIxM (mVar 1) (mC (.int 1))) (mCons (mVar 4) mNil)))) [4]))
  (mRet (mOrV (mOp aGe (mOp rMul (mOp rIxM (mVar 5) (mC (.int 0))) (mOp rIxM (mVar 5) (mC (.int 1)))) (mC (.int 0))) (mOp aGe (mOp rMul (mOp rIxM (mVar 6) (mC (.int 0))) (mOp rIxM (mVar 6) (mC (.int 1)))) (mC (.int 0)))))))))
def b_shuts_here : MS := (mSeq (mSet 3 (mLst mNil))
  (mSeq (mFor (iR1 (mCons (mCall FL.sp_take (mCons (mVar 0) (mCons (mOp rAdd (mVar 1) (mC (.int 1))) mNil))) mNil)) (gNm 4) (mSeq (mSet 5 (mTup (mCons (mCall FL.sp_take (mCons (mVar 0) (mCons (mVar 2) mNil))) (mCons (mCall FL.sp_take (mCons (mVar 0) (mCons (mVar 2) mNil))) mNil))))
  (mSeq (mSet 6 (mTup (mCons (mCall FL.sp_take (mCons (mVar 0) (mCons (mVar 2) mNil))) (mCons (mCall FL.sp_take (mCons (mVar 0) (mCons (mVar 2) mNil))) mNil))))
  (mSeq (mIfJ (mAnd (mTst (mOp rNeM (mVar 3) (mLstF mNil))) (mTst (mOp aGt (mCall FL.sp_take (mCons (mVar 0) (mCons (mC (.int 3)) mNil))) (mC (.int 0))))) (mSet 5 (mOp rIxM (mOp rIxM (mVar 3) (mCall FL.sp_take (mCons (mVar 0) (mCons (mBlt bLen (mCons (mVar 3) mNil)) mNil)))) (mCall FL.sp_take (mCons (mVar 0) (mCons (mC (.int 2)) mNil))))) mNext)
  (mSeq (mSet 7 (mTup (mCons (mBlt bMinA (mCons (mVar 5) (mCons (mVar 6) mNil))) (mCons (mBlt bMaxA (mCons (mVar 5) (mCons (mVar 6) mNil))) mNil))))
  (mIfJ (mAnd (mTst (mOp rNeM (mVar 5) (mVar 6))) (mTru (mBlt bAll (mCons (mCompF (iS (mVar 3)) (gNm 8) mYes (mCall FL.sp_fair (mCons (mVar 7) (mCons (mVar 8) mNil))) [8]) mNil)))) (mExpr (mMt mtAppend (mVar 3) (mCons (mVar 7) mNil))) mNext))))))
  (mRet (mVar 3))))
end FL

set_option maxRecDepth 100000
namespace FL

-- counts /tmp/scratch/dev/N_lib2.json
open PySem PySem.Spec L2 ML
local macro_rules | `(tactic| simp $c:optConfig $[$d:discharger]? only [gg] $[$l:location]?) => `(tactic| simp $c $[$d]? only [↓ML.q_mSeq, ↓ML.q_mC, ↓ML.q_mOp, ↓ML.q_mUn, ↓ML.q_mTst, ↓ML.q_mNot, ↓ML.q_mNotV, ↓ML.q_mRet, ↓ML.q_mRetN, ↓ML.q_mExpr, ↓ML.q_mNext, ↓ML.q_mBreak, ↓ML.q_mCont, ↓ML.q_mAsg, ↓ML.q_gSb, ↓ML.q_mTup, ↓ML.q_mLst, ↓ML.q_mLstF, ↓ML.q_mCons, ↓ML.q_mNil, ↓ML.q_mBlt, ↓ML.q_rEqM, ↓ML.q_rNeM, ↓ML.q_iR1, ↓ML.q_iR2, ↓ML.q_iEn, ↓ML.q_iZp, ↓ML.q_mMt, ↓ML.q_mMt0, ↓ML.q_mYes, ↓ML.q_mCut, ↓ML.q_oNo, ↓ML.q_oSo, ↓ML.l_mCall, ↓ML.l_mAnd, ↓ML.l_mOr, ↓ML.l_mAndV, ↓ML.l_mOrV, ↓ML.l_mIf, ↓ML.l_mIfS, ↓ML.l_mChain, ↓ML.l_mVar, ↓ML.l_mFor, ↓ML.l_mWhile, ↓ML.l_mComp, ↓ML.l_mCompF, ↓ML.l_optP, ↓ML.l_Go, ↓ML.Hold_v, ↓ML.l_mSet, ↓ML.l_gNm, ↓ML.l_mPar, ↓ML.l_rIxM, ↓ML.l_rSetM, ↓ML.l_rInt, ↓ML.l_rInt0, ↓ML.l_rAdd_int, ↓ML.l_rAdd_str, ↓ML.l_rAdd_tup, ↓ML.l_rNeg, ↓ML.l_rIsN, ↓ML.l_rNotN, ↓ML.l_rIsBM, ↓ML.l_mTru, ↓ML.l_bLen, ↓ML.l_bAbs, ↓ML.l_bMax2, ↓ML.l_bMin2, ↓ML.l_bInt_i, ↓ML.l_bInt_b, ↓ML.l_bTuple, ↓ML.l_bListF, ↓ML.l_bList, ↓ML.l_mIsi, ↓ML.l_iL, ↓ML.l_iT, ↓ML.l_gTp, ↓ML.l_gLs, ↓ML.l_gCn, ↓ML.l_gNl, ↓ML.l_mtAppend, ML.Hold_v, ML.l_mVar_z, ML.l_mVar_s, ML.OptP_some, ML.Go_eq, ML.IteP_true, ML.IteP_false, ML.lstOf_ref', ML.lstOf_lst, ML.lstOf_scr, ML.lstOf_tup, ML.ownOf_ref', ML.ownOf_lst, ML.seqOf_tup', ML.seqOf_lst', ML.seqOf_scr', ML.seqOf_ref', ML.olP_lst, ML.tupOf_tup, ML.ixL_lit, ML.ixL_cast, ML.ixL_m1, ML.setAt_lit, ML.setAt_cast, ML.truD_bl, ML.truD_int, ML.truD_tup, ML.truD_lst, ML.truD_scr, ML.truD_non, ML.lenD_tup, ML.lenD_lst, ML.lenD_scr, ML.lenD_ref, ML.tyD_non, ML.tyD_bl, ML.tyD_int, ML.tyD_str, ML.tyD_tup, ML.tyD_lst, ML.szl, ML.szlt, ML.cpow_lit, ML.mulok_rl, ML.mulok_ll, ML.divok_l, ML.put_same, ML.put_put, ML.q_wipeM, ML.deq_int, ML.deq_bl, ML.deq_str, ML.deq_non, ML.eqOk_int, ML.eqOk_bl, ML.isTy_NoneType_int, ML.isTy_NoneType_bool, ML.isTy_NoneType_tuple, ML.isTy_NoneType_list, ML.isTy_NoneType_str, ML.isTy_bool_int, ML.isTy_bool_bool, ML.isTy_bool_tuple, ML.isTy_bool_list, ML.isTy_bool_str, ML.isTy_int_int, ML.isTy_int_bool, ML.isTy_int_tuple, ML.isTy_int_list, ML.isTy_int_str, ML.isTy_str_int, ML.isTy_str_bool, ML.isTy_str_tuple, ML.isTy_str_list, ML.isTy_str_str, ML.isTy_tuple_int, ML.isTy_tuple_bool, ML.isTy_tuple_tuple, ML.isTy_tuple_list, ML.isTy_tuple_str, ML.isTy_list_int, ML.isTy_list_bool, ML.isTy_list_tuple, ML.isTy_list_list, ML.isTy_list_str, ML.isTy_dict_int, ML.isTy_dict_bool, ML.isTy_dict_tuple, ML.isTy_dict_list, ML.isTy_dict_str, FL.tup_fr, FL.tup_sp, FL.tup_wl, FL.tupOf_fr, FL.tupOf_sp, FL.tupOf_wl, FL.nz0, FL.nz1, FL.nz2, FL.nz3, FL.look_non, FL.look_int, FL.look_bl, FL.look_str, FL.look_tup, FL.look_lst, FL.look_scr, FL.seqOf_fr, FL.seqOf_sp, FL.seqOf_wl, FL.look_fr, FL.look_sp, FL.look_wl, FL.eqOk_fr, FL.eqOk_sp, FL.eqOk_wl, FL.deq_fr, FL.deq_sp, FL.deq_wl, FL.tyD_fr, FL.tyD_sp, FL.tyD_wl, FL.isN_fr, FL.isN_sp, FL.isN_wl, FL.lenD_sp, FL.lenD_wl, FL.rAdd_wl_tup, List.length_map, List.map_cons, List.map_nil, List.replicate, List.set_cons_zero, List.set_cons_succ, List.getElem?_cons_zero, List.getElem?_cons_succ, List.cons_append, List.nil_append, List.length_cons, List.length_nil, Option.bind_some, Option.map_some, ↓reduceIte, Nat.reduceAdd, Nat.reduceSub, Nat.reduceLT, Nat.reduceLeDiff, Nat.zero_add, decide_eq_true_eq, Bool.not_eq_true, ne_eq, reduceCtorEq, not_false_eq_true, true_and, and_true, Bool.false_eq_true, Bool.not_true, Bool.not_false, decide_true, decide_false, not_true_eq_false, eq_self, Bool.not_eq_eq_eq_not, if_true, if_false, decide_eq_false_iff_not, ML.ncast, Int.reduceToNat, Int.reducePow, Int.reduceAdd, Int.reduceSub, Int.reduceMul, Int.reduceNeg, Int.reduceLT, Int.reduceLE, Int.reduceEq, Nat.reduceEqDiff, Int.zero_add, gt_iff_lt, beq_self_eq_true, Bool.true_beq, Bool.false_beq, Bool.and_true, Bool.and_false, Bool.true_and, Bool.false_and, ↓ML.l_mtInsert, ↓ML.l_mtReverse, ↓ML.l_mtClear, ↓ML.l_bSortU, ↓ML.q_mMt0, ↓ML.l_bMaxL, ↓ML.l_bMinL, ↓ML.l_aLt_int, ↓ML.l_aLt_u, ↓ML.l_aGt_int, ↓ML.l_aGt_u, ↓ML.l_aLe_int, ↓ML.l_aLe_u, ↓ML.l_aGe_int, ↓ML.l_aGe_u, ↓ML.l_bMaxA_int, ↓ML.l_bMaxA_u, ↓ML.l_bMinA_int, ↓ML.l_bMinA_u, ML.tup_u, ML.tupOf_u, ML.seqOf_u, ML.sqI_u, ML.look_u, ML.isN_u, ML.lenD_u, ML.tyD_u, ML.tup_uw, ML.tupOf_uw, ML.seqOf_uw, ML.sqI_uw, ML.look_uw, ML.isN_uw, ML.lenD_uw, ML.tyD_uw, ML.eqOk_u, ML.eqOk_uw, ML.deq_u, ML.deq_uw, ML.in_uw, ↓ML.l_mRaise, ↓ML.l_mTry, ↓ML.l_mIsE, ↓ML.l_mIsV, ↓ML.l_mtCount, ↓ML.l_rAddS_rl, ↓ML.l_rAddS_ll, ML.excD_ref, ML.excOf_exc, ML.blsOf_nil, ML.blsOf_cons, ML.endM_nx, ML.endM_rt, ↓ML.l_mYes, ↓ML.l_iS, ↓ML.l_mIfJ, ↓ML.l_mJ, ↓ML.CrollP_nil, ↓ML.CrollP_cons, ↓ML.CrA_at, ↓ML.FrollP_nil, ↓ML.FrollP_cons, ML.isN_non, ML.isN_int, ML.isN_bl, ML.isN_str, ML.isN_tup, ML.isN_lst, ML.isN_ref, ML.sqI_tup, ML.sqI_lst, ML.sqI_scr, ML.sqI_ref, ML.sqI_at, ML.rngD_0, ML.rngD_1, ML.rngD_2, ML.rngD_3, ML.rngD_4, ML.rngD_6, ML.q_wipeM_nil, ML.q_wipeM_cons, FL.sqI_sp, FL.sqI_wl] $[$l]?)
local macro_rules | `(tactic| simp $c:optConfig $[$d:discharger]? only [gg, $ls,*] $[$l:location]?) => `(tactic| simp $c $[$d]? only [↓ML.q_mSeq, ↓ML.q_mC, ↓ML.q_mOp, ↓ML.q_mUn, ↓ML.q_mTst, ↓ML.q_mNot, ↓ML.q_mNotV, ↓ML.q_mRet, ↓ML.q_mRetN, ↓ML.q_mExpr, ↓ML.q_mNext, ↓ML.q_mBreak, ↓ML.q_mCont, ↓ML.q_mAsg, ↓ML.q_gSb, ↓ML.q_mTup, ↓ML.q_mLst, ↓ML.q_mLstF, ↓ML.q_mCons, ↓ML.q_mNil, ↓ML.q_mBlt, ↓ML.q_rEqM, ↓ML.q_rNeM, ↓ML.q_iR1, ↓ML.q_iR2, ↓ML.q_iEn, ↓ML.q_iZp, ↓ML.q_mMt, ↓ML.q_mMt0, ↓ML.q_mYes, ↓ML.q_mCut, ↓ML.q_oNo, ↓ML.q_oSo, ↓ML.l_mCall, ↓ML.l_mAnd, ↓ML.l_mOr, ↓ML.l_mAndV, ↓ML.l_mOrV, ↓ML.l_mIf, ↓ML.l_mIfS, ↓ML.l_mChain, ↓ML.l_mVar, ↓ML.l_mFor, ↓ML.l_mWhile, ↓ML.l_mComp, ↓ML.l_mCompF, ↓ML.l_optP, ↓ML.l_Go, ↓ML.Hold_v, ↓ML.l_mSet, ↓ML.l_gNm, ↓ML.l_mPar, ↓ML.l_rIxM, ↓ML.l_rSetM, ↓ML.l_rInt, ↓ML.l_rInt0, ↓ML.l_rAdd_int, ↓ML.l_rAdd_str, ↓ML.l_rAdd_tup, ↓ML.l_rNeg, ↓ML.l_rIsN, ↓ML.l_rNotN, ↓ML.l_rIsBM, ↓ML.l_mTru, ↓ML.l_bLen, ↓ML.l_bAbs, ↓ML.l_bMax2, ↓ML.l_bMin2, ↓ML.l_bInt_i, ↓ML.l_bInt_b, ↓ML.l_bTuple, ↓ML.l_bListF, ↓ML.l_bList, ↓ML.l_mIsi, ↓ML.l_iL, ↓ML.l_iT, ↓ML.l_gTp, ↓ML.l_gLs, ↓ML.l_gCn, ↓ML.l_gNl, ↓ML.l_mtAppend, ML.Hold_v, ML.l_mVar_z, ML.l_mVar_s, ML.OptP_some, ML.Go_eq, ML.IteP_true, ML.IteP_false, ML.lstOf_ref', ML.lstOf_lst, ML.lstOf_scr, ML.lstOf_tup, ML.ownOf_ref', ML.ownOf_lst, ML.seqOf_tup', ML.seqOf_lst', ML.seqOf_scr', ML.seqOf_ref', ML.olP_lst, ML.tupOf_tup, ML.ixL_lit, ML.ixL_cast, ML.ixL_m1, ML.setAt_lit, ML.setAt_cast, ML.truD_bl, ML.truD_int, ML.truD_tup, ML.truD_lst, ML.truD_scr, ML.truD_non, ML.lenD_tup, ML.lenD_lst, ML.lenD_scr, ML.lenD_ref, ML.tyD_non, ML.tyD_bl, ML.tyD_int, ML.tyD_str, ML.tyD_tup, ML.tyD_lst, ML.szl, ML.szlt, ML.cpow_lit, ML.mulok_rl, ML.mulok_ll, ML.divok_l, ML.put_same, ML.put_put, ML.q_wipeM, ML.deq_int, ML.deq_bl, ML.deq_str, ML.deq_non, ML.eqOk_int, ML.eqOk_bl, ML.isTy_NoneType_int, ML.isTy_NoneType_bool, ML.isTy_NoneType_tuple, ML.isTy_NoneType_list, ML.isTy_NoneType_str, ML.isTy_bool_int, ML.isTy_bool_bool, ML.isTy_bool_tuple, ML.isTy_bool_list, ML.isTy_bool_str, ML.isTy_int_int, ML.isTy_int_bool, ML.isTy_int_tuple, ML.isTy_int_list, ML.isTy_int_str, ML.isTy_str_int, ML.isTy_str_bool, ML.isTy_str_tuple, ML.isTy_str_list, ML.isTy_str_str, ML.isTy_tuple_int, ML.isTy_tuple_bool, ML.isTy_tuple_tuple, ML.isTy_tuple_list, ML.isTy_tuple_str, ML.isTy_list_int, ML.isTy_list_bool, ML.isTy_list_tuple, ML.isTy_list_list, ML.isTy_list_str, ML.isTy_dict_int, ML.isTy_dict_bool, ML.isTy_dict_tuple, ML.isTy_dict_list, ML.isTy_dict_str, FL.tup_fr, FL.tup_sp, FL.tup_wl, FL.tupOf_fr, FL.tupOf_sp, FL.tupOf_wl, FL.nz0, FL.nz1, FL.nz2, FL.nz3, FL.look_non, FL.look_int, FL.look_bl, FL.look_str, FL.look_tup, FL.look_lst, FL.look_scr, FL.seqOf_fr, FL.seqOf_sp, FL.seqOf_wl, FL.look_fr, FL.look_sp, FL.look_wl, FL.eqOk_fr, FL.eqOk_sp, FL.eqOk_wl, FL.deq_fr, FL.deq_sp, FL.deq_wl, FL.tyD_fr, FL.tyD_sp, FL.tyD_wl, FL.isN_fr, FL.isN_sp, FL.isN_wl, FL.lenD_sp, FL.lenD_wl, FL.rAdd_wl_tup, List.length_map, List.map_cons, List.map_nil, List.replicate, List.set_cons_zero, List.set_cons_succ, List.getElem?_cons_zero, List.getElem?_cons_succ, List.cons_append, List.nil_append, List.length_cons, List.length_nil, Option.bind_some, Option.map_some, ↓reduceIte, Nat.reduceAdd, Nat.reduceSub, Nat.reduceLT, Nat.reduceLeDiff, Nat.zero_add, decide_eq_true_eq, Bool.not_eq_true, ne_eq, reduceCtorEq, not_false_eq_true, true_and, and_true, Bool.false_eq_true, Bool.not_true, Bool.not_false, decide_true, decide_false, not_true_eq_false, eq_self, Bool.not_eq_eq_eq_not, if_true, if_false, decide_eq_false_iff_not, ML.ncast, Int.reduceToNat, Int.reducePow, Int.reduceAdd, Int.reduceSub, Int.reduceMul, Int.reduceNeg, Int.reduceLT, Int.reduceLE, Int.reduceEq, Nat.reduceEqDiff, Int.zero_add, gt_iff_lt, beq_self_eq_true, Bool.true_beq, Bool.false_beq, Bool.and_true, Bool.and_false, Bool.true_and, Bool.false_and, ↓ML.l_mtInsert, ↓ML.l_mtReverse, ↓ML.l_mtClear, ↓ML.l_bSortU, ↓ML.q_mMt0, ↓ML.l_bMaxL, ↓ML.l_bMinL, ↓ML.l_aLt_int, ↓ML.l_aLt_u, ↓ML.l_aGt_int, ↓ML.l_aGt_u, ↓ML.l_aLe_int, ↓ML.l_aLe_u, ↓ML.l_aGe_int, ↓ML.l_aGe_u, ↓ML.l_bMaxA_int, ↓ML.l_bMaxA_u, ↓ML.l_bMinA_int, ↓ML.l_bMinA_u, ML.tup_u, ML.tupOf_u, ML.seqOf_u, ML.sqI_u, ML.look_u, ML.isN_u, ML.lenD_u, ML.tyD_u, ML.tup_uw, ML.tupOf_uw, ML.seqOf_uw, ML.sqI_uw, ML.look_uw, ML.isN_uw, ML.lenD_uw, ML.tyD_uw, ML.eqOk_u, ML.eqOk_uw, ML.deq_u, ML.deq_uw, ML.in_uw, ↓ML.l_mRaise, ↓ML.l_mTry, ↓ML.l_mIsE, ↓ML.l_mIsV, ↓ML.l_mtCount, ↓ML.l_rAddS_rl, ↓ML.l_rAddS_ll, ML.excD_ref, ML.excOf_exc, ML.blsOf_nil, ML.blsOf_cons, ML.endM_nx, ML.endM_rt, ↓ML.l_mYes, ↓ML.l_iS, ↓ML.l_mIfJ, ↓ML.l_mJ, ↓ML.CrollP_nil, ↓ML.CrollP_cons, ↓ML.CrA_at, ↓ML.FrollP_nil, ↓ML.FrollP_cons, ML.isN_non, ML.isN_int, ML.isN_bl, ML.isN_str, ML.isN_tup, ML.isN_lst, ML.isN_ref, ML.sqI_tup, ML.sqI_lst, ML.sqI_scr, ML.sqI_ref, ML.sqI_at, ML.rngD_0, ML.rngD_1, ML.rngD_2, ML.rngD_3, ML.rngD_4, ML.rngD_6, ML.q_wipeM_nil, ML.q_wipeM_cons, FL.sqI_sp, FL.sqI_wl, $ls,*] $[$l]?)
theorem l_scale : ∀ ds S Q E, FL.sp_scale ds S Q E → ds.length = 1 := by rintro _ _ _ _ ⟨_, _, _, rfl, _⟩; rfl
theorem l_uspot : ∀ ds S Q E, FL.sp_uspot ds S Q E → ds.length = 2 := by rintro _ _ _ _ ⟨_, _, rfl, _⟩; rfl
theorem l_made : ∀ ds S Q E, FL.sp_made ds S Q E → ds.length = 2 := by rintro _ _ _ _ ⟨_, _, _, rfl, _⟩; rfl
theorem l_wanted : ∀ ds S Q E, FL.sp_wanted ds S Q E → ds.length = 3 := by rintro _ _ _ _ ⟨_, _, _, _, _, _, rfl, _⟩; rfl
theorem l_spot_at : ∀ ds S Q E, FL.sp_spot_at ds S Q E → ds.length = 2 := by rintro _ _ _ _ ⟨_, _, rfl, _⟩; rfl
theorem l_by : ∀ ds S Q E, FL.sp_by ds S Q E → ds.length = 2 := by rintro _ _ _ _ ⟨_, _, _, rfl, _⟩; rfl
theorem l_turn : ∀ ds S Q E, FL.sp_turn ds S Q E → ds.length = 3 := by rintro _ _ _ _ ⟨_, _, _, rfl, _⟩; rfl
theorem l_on : ∀ ds S Q E, FL.sp_on ds S Q E → ds.length = 2 := by rintro _ _ _ _ ⟨_, _, rfl, _⟩; rfl
theorem l_fair : ∀ ds S Q E, FL.sp_fair ds S Q E → ds.length = 2 := by rintro _ _ _ _ ⟨_, _, rfl, _⟩; rfl
theorem l_shuts_here : ∀ ds S Q E, FL.sp_shuts_here ds S Q E → ds.length = 3 := by rintro _ _ _ _ ⟨_, _, _, _, _, rfl, _⟩; rfl
theorem jf_t {σ : MSt} {S : Sto} {t u : MS} {De : MEnds} (h : t De σ S) : @JfP True σ S ⟨t⟩ ⟨u⟩ ⟨De⟩ := ⟨De.nx, ⟨fun _ => h, fun z => (z trivial).elim⟩, fun _ _ z => z⟩
theorem jf_f {σ : MSt} {S : Sto} {t u : MS} {De : MEnds} (h : u De σ S) : @JfP False σ S ⟨t⟩ ⟨u⟩ ⟨De⟩ := ⟨De.nx, ⟨fun z => z.elim, fun _ => h⟩, fun _ _ z => z⟩
theorem jf_split {c : Prop} {σ : MSt} {S : Sto} {t u : MS} {De : MEnds} (h1 : c → t De σ S) (h2 : ¬ c → u De σ S) : @JfP c σ S ⟨t⟩ ⟨u⟩ ⟨De⟩ := ⟨De.nx, ⟨h1, h2⟩, fun _ _ z => z⟩
theorem rat_div_int {a b : Int} (hb : b ≠ 0) : Rat.divInt a b = (a : Rat) / (b : Rat) := by rw [Rat.divInt_eq_div]
theorem isgn (i : Int) : ((if 0 < i then 1 else 0) - if i < 0 then 1 else 0 : Int) = sgn (i : Rat) := by
  have := sgn_num (i : Rat)
  rwa [Rat.num_intCast] at this
theorem uturn_eq (a b c : U2) : uturn a b c = sgn (((b.1 - a.1) * (c.2 - a.2) - (b.2 - a.2) * (c.1 - a.1) : Int) : Rat) := by
  unfold uturn side crs alng ofU
  congr 1
  simp only [Rat.intCast_sub, Rat.intCast_mul]
theorem r_uspot : ∀ ds S Q E, FL.sp_uspot ds S Q E → b_uspot (mends Q E) (mstart 4 ds) S := by
  rintro _ S Q E ⟨s, u, rfl, hs, hu, k⟩
  obtain ⟨t1, t2, b1, b2, x1, x2, y1, y2⟩ := hs
  obtain ⟨u1, u2, u3, u4⟩ := hu
  have m1 : (u.1 * s.t).natAbs < 2 ^ 60 := natAbs_mul_lt (a := 21) (b := 39) (by omega) (by omega)
  have m2 : (u.2 * s.t).natAbs < 2 ^ 60 := natAbs_mul_lt (a := 21) (b := 39) (by omega) (by omega)
  unfold b_uspot
  simp only [ML.q_mstart, ML.q_mends, List.map_cons, List.map_nil, List.replicate, List.cons_append, List.nil_append]
  simp only [gg, scD]
  refine ⟨mulok_l (by omega) (by omega), t_low (by omega) (by omega) ?_⟩
  simp only [gg]
  refine ⟨mulok_l (by omega) (by omega), t_low (by omega) (by omega) ?_⟩
  simp only [gg]
  rw [rat_div_int (by omega), rat_div_int (by omega)]
  simp only [Rat.intCast_add, Rat.intCast_mul]
  exact k
theorem r_turn : ∀ ds S Q E, FL.sp_turn ds S Q E → b_turn (mends Q E) (mstart 3 ds) S := by
  rintro _ S Q E ⟨a, b, c, rfl, ⟨a1, a2, a3, a4⟩, ⟨b1, b2, b3, b4⟩, ⟨c1, c2, c3, c4⟩, k⟩
  unfold b_turn
  simp only [ML.q_mstart, ML.q_mends, List.map_cons, List.map_nil, List.replicate, List.cons_append, List.nil_append]
  simp only [gg]
  refine ⟨mulok_l (by omega) (by omega), mulok_l (by omega) (by omega), ?_⟩
  rw [isgn, ← uturn_eq]; exact k
theorem r_scale : ∀ ds S Q E, FL.sp_scale ds S Q E → b_scale (mends Q E) (mstart 3 ds) S := by
  rintro _ S Q E ⟨p, c, n, rfl, hp, hn, k⟩
  unfold b_scale
  simp only [ML.q_mstart, ML.q_mends, List.map_cons, List.map_nil, List.replicate, List.cons_append, List.nil_append]
  simp only [gg]
  refine t_take hp (by decide) (by decide) (by omega) fun t0 c1 t1 t2 => ?_
  simp only [gg]
  refine t_take put_same (by decide) (by decide) (by omega) fun b0 c2 b1 b2 => ?_
  simp only [gg]
  refine t_take put_same (by decide) (by decide) (by omega) fun v c3 v1 v2 => ?_
  simp only [gg]
  refine jf (fun σ' S' => ∃ (t b c' : Int) (n' : Nat), 1 ≤ t ∧ t ≤ 2 ^ 30 ∧ 1 ≤ b ∧ b ≤ 2 ^ 30 ∧ n' ≤ n + 5 ∧ σ' = [some (.ref p), some (.int t), some (.int b), none] ∧ S' = put S p (rowO c' n')) ?_ ?_ ?_
  · intro hv
    simp only [gg]
    refine t_take put_same (by decide) (by decide) (by omega) fun t3 c4 t4 t5 => ?_
    simp only [gg]
    refine t_take put_same (by decide) (by decide) (by omega) fun b3 c5 b4 b5 => ?_
    simp only [gg]
    exact ⟨1 + t3, 1 + b3, c5, _, by omega, by omega, by omega, by omega, Nat.le_refl _, rfl, rfl⟩
  · intro hv
    simp only [gg]
    exact ⟨1 + t0, 1 + b0, c3, n + 1 + 1 + 1, by omega, by omega, by omega, by omega, by omega, rfl, rfl⟩
  rintro _ _ ⟨t, b, c4, n4, t3, t4, b3, b4, hn4, rfl, rfl⟩
  simp only [gg]
  refine t_take put_same (by decide) (by decide) (by omega) fun f c5 f1 f2 => ?_
  have hf : ∃ F : Int, ixL [D.int 1, D.int 1000000000000000] (if f = 0 then 1 else 0) = some (.int F) ∧ 0 ≤ F ∧ F ≤ 1000000000000000 := by
    by_cases h : f = 0
    · rw [if_pos h]; exact ⟨_, rfl, by decide, by decide⟩
    · rw [if_neg h]; exact ⟨_, rfl, by decide, by decide⟩
  obtain ⟨F, eF, F1, F2⟩ := hf
  simp only [gg, eF]
  refine t_take put_same (by decide) (by decide) (by omega) fun x0 c6 x1 x2 => ?_
  simp only [gg]
  refine ⟨mulok_l (by omega) (by omega), t_take put_same (by decide) (by decide) (by omega) fun y0 c7 y1 y2 => ?_⟩
  simp only [gg]
  refine ⟨mulok_l (by omega) (by omega), ?_⟩
  have bd : ∀ z : Int, 0 ≤ z → z < 41 → -(2 ^ 55) ≤ F * (z - 20) ∧ F * (z - 20) ≤ 2 ^ 55 := by
    intro z z1 z2
    have h1 : (F * (z - 20)).natAbs < 2 ^ 55 := natAbs_mul_lt (a := 50) (b := 5) (by omega) (by omega)
    omega
  exact k ⟨t, b, F * (x0 - 20), F * (y0 - 20)⟩ c7 _ ⟨t3, t4, b3, b4, (bd x0 x1 x2).1, (bd x0 x1 x2).2, (bd y0 y1 y2).1, (bd y0 y1 y2).2⟩ (by omega)
theorem r_on : ∀ ds S Q E, FL.sp_on ds S Q E → b_on (mends Q E) (mstart 0 ds) S := by
  rintro _ S Q E ⟨w, s, rfl, hw, hs, k⟩
  unfold b_on
  simp only [ML.q_mstart, ML.q_mends, List.map_cons, List.map_nil, List.replicate, List.cons_append, List.nil_append]
  simp only [gg]
  have fin : ∀ b : Bool, b = decide (uon w s) → Q (.bl b) S := by rintro _ rfl; exact k
  refine ⟨fun h1 => ?_, fun h1 => ?_⟩
  · simp only [gg]
    refine ⟨fun h2 => ?_, fun h2 => ?_⟩
    · simp only [gg]
      refine ⟨_, _, _, rfl, hw.f, hw.s, hs, ?_⟩
      simp only [gg]
      exact fin _ (by simp [uon, h1, h2])
    · simp only [gg]
      exact fin _ (by simp [uon, h1, h2])
  · simp only [gg]
    exact fin _ (by simp [uon, h1])
theorem r_by : ∀ ds S Q E, FL.sp_by ds S Q E → b_by (mends Q E) (mstart 2 ds) S := by
  rintro _ S Q E ⟨d, ws, m, rfl, hd, hz, m1, m2, hw, k⟩
  unfold b_by
  simp only [ML.q_mstart, ML.q_mends, List.map_cons, List.map_nil, List.replicate, List.cons_append, List.nil_append]
  obtain ⟨G, hs, g0, hG⟩ := hd.it
  simp only [gg, hs]
  intro p hp
  refine comp_map uwD (fun w => uwD (upw m w)) ws rfl hz (fun acc => hG _ _ hp) ?_ ?_
  · intro w acc Q' hm q
    have hw' := hw w hm
    obtain ⟨⟨w1, w2, w3, w4⟩, ⟨w5, w6, w7, w8⟩⟩ := hw'
    simp only [gg]
    intro r hr
    refine comp_roll ?_
    simp only [gg]
    refine ⟨mulok_l (by omega) (by omega), mulok_l (by omega) (by omega), ?_⟩
    refine ⟨mulok_l (by omega) (by omega), mulok_l (by omega) (by omega), ?_⟩
    rw [del_put hr]
    exact q
  · simp only [gg, del_put hp]
    exact k
theorem r_made : ∀ ds S Q E, FL.sp_made ds S Q E → b_made (mends Q E) (mstart 2 ds) S := by
  rintro _ S Q E ⟨s, d, ws, rfl, hd, hz, hs0, hw, k⟩
  unfold b_made
  simp only [ML.q_mstart, ML.q_mends, List.map_cons, List.map_nil, List.replicate, List.cons_append, List.nil_append]
  obtain ⟨G, hs, g0, hG⟩ := hd.it
  simp only [gg, hs]
  intro p hp
  refine comp_map uwD (fun w => wlD (afw s (ofW w))) ws rfl hz (fun acc => hG _ _ hp) ?_ ?_
  · intro w acc Q' hm q
    simp only [gg]
    refine ⟨s, w.1, rfl, hs0, (hw w hm).f, ?_⟩
    simp only [gg]
    refine ⟨s, w.2, rfl, hs0, (hw w hm).s, ?_⟩
    simp only [gg]
    exact q
  · simp only [gg, del_put hp]
    exact k
theorem r_spot_at : ∀ ds S Q E, FL.sp_spot_at ds S Q E → b_spot_at (mends Q E) (mstart 5 ds) S := by
  rintro _ S Q E ⟨s, t, rfl, hs, ht, k⟩
  obtain ⟨t1, t2, b1, b2, x1, x2, y1, y2⟩ := hs
  obtain ⟨u1, u2, u3, u4, n1, n2⟩ := ht
  have m1 : (t.x * s.t).natAbs < 2 ^ 80 := natAbs_mul_lt (a := 41) (b := 39) (by omega) (by omega)
  have m2 : (t.y * s.t).natAbs < 2 ^ 80 := natAbs_mul_lt (a := 41) (b := 39) (by omega) (by omega)
  have m3 : (s.x * t.n).natAbs < 2 ^ 90 := natAbs_mul_lt (a := 60) (b := 30) (by omega) (by omega)
  have m4 : (s.y * t.n).natAbs < 2 ^ 90 := natAbs_mul_lt (a := 60) (b := 30) (by omega) (by omega)
  have m5 : (s.b * t.n).natAbs < 2 ^ 70 := natAbs_mul_lt (a := 40) (b := 30) (by omega) (by omega)
  have m6 : 0 < s.b * t.n := Int.mul_pos (by omega) (by omega)
  unfold b_spot_at
  simp only [ML.q_mstart, ML.q_mends, List.map_cons, List.map_nil, List.replicate, List.cons_append, List.nil_append]
  simp only [gg, scD, toD]
  refine ⟨mulok_l (by omega) (by omega), mulok_r (by omega) (by omega), mulok_r (by omega) (by omega), t_low (by omega) (by omega) ?_⟩
  simp only [gg]
  refine ⟨mulok_l (by omega) (by omega), mulok_r (by omega) (by omega), mulok_r (by omega) (by omega), t_low (by omega) (by omega) ?_⟩
  simp only [gg]
  rw [rat_div_int (by omega), rat_div_int (by omega)]
  simp only [Rat.intCast_add, Rat.intCast_mul]
  have hn : (t.n : Rat) ≠ 0 := by
    intro z; have : t.n = 0 := by exact_mod_cast z
    omega
  have hb : (s.b : Rat) ≠ 0 := by
    intro z; have : s.b = 0 := by exact_mod_cast z
    omega
  have e : ∀ x X : Rat, (x * s.t + X * t.n) / (s.b * t.n) = (x / t.n * s.t + X) / s.b := by
    intro x X
    grind
  rw [e, e]
  exact k
theorem r_wanted : ∀ ds S Q E, FL.sp_wanted ds S Q E → b_wanted (mends Q E) (mstart 6 ds) S := by
  rintro _ S Q E ⟨p, c, n, d, ws, size, rfl, hp, hn, hd, dp, dt, hz, s0, s1, hw, k⟩
  have hl : ∀ c n, look (put S p (rowO c n)) d = .lst (ws.map uwD) ∧ SeqK (put S p (rowO c n)) d (ws.map uwD) := by
    intro c n
    cases hd with
    | lst => exact ⟨rfl, .lst⟩
    | tup => exact absurd rfl (dt _)
    | ref h =>
      next q =>
      have ne : q ≠ p := fun z => dp (by rw [z])
      have h' : put S p (rowO c n) q = some (.lst (ws.map uwD)) := by rw [put_ne ne]; exact h
      exact ⟨look_ref h', .ref h'⟩
  unfold b_wanted
  simp only [ML.q_mstart, ML.q_mends, List.map_cons, List.map_nil, List.replicate, List.cons_append, List.nil_append]
  simp only [gg]
  refine t_take hp (by decide) (by decide) (by omega) fun way c1 w0 w1 => ?_
  simp only [gg]
  refine ⟨fun hw0 => ?_, fun hw0 => ?_⟩
  · simp only [gg, (hl c1 _).1, eqOk_luw0, deq_luw0]
    refine ⟨fun he => ?_, fun he => ?_⟩
    · simp only [gg, (hl c1 _).2.len]
      have hlen : 0 < ws.length := by
        cases ws with
        | nil => exact absurd he (by decide)
        | cons _ _ => exact Nat.succ_pos _
      refine t_take put_same (by omega) (by omega) (by omega) fun r c2 r0 r1 => ?_
      obtain ⟨w, hm, ew⟩ := ixL_map (f := uwD) r0 r1
      obtain ⟨⟨a1, a2, a3, a4⟩, ⟨a5, a6, a7, a8⟩⟩ := hw w hm
      simp only [gg, (hl c2 _).2.seq, ew]
      refine t_take put_same (by decide) (by decide) (by omega) fun b0 c3 b1 b2 => ?_
      simp only [gg]
      refine t_take put_same (by omega) (by omega) (by omega) fun pt c4 p1 p2 => ?_
      simp only [gg]
      have e : ∀ z : Int, -(2 ^ 15) ≤ z → z ≤ 2 ^ 15 → ∀ j : Int, 0 ≤ j → j ≤ 4 → -(2 ^ 15 * 4) ≤ z * j ∧ z * j ≤ 2 ^ 15 * 4 := by
        intro z z1 z2 j j1 j2
        have : j = 0 ∨ j = 1 ∨ j = 2 ∨ j = 3 ∨ j = 4 := by omega
        rcases this with rfl | rfl | rfl | rfl | rfl <;> omega
      have e1 := e _ a1 a2 (1 + b0 - pt) (by omega) (by omega)
      have e2 := e _ a3 a4 (1 + b0 - pt) (by omega) (by omega)
      have e3 := e _ a5 a6 pt (by omega) (by omega)
      have e4 := e _ a7 a8 pt (by omega) (by omega)
      refine ⟨mulok_r (by omega) (by omega), mulok_r (by omega) (by omega), mulok_r (by omega) (by omega), mulok_r (by omega) (by omega), ?_⟩
      refine k ⟨w.1.1 * (1 + b0 - pt) + w.2.1 * pt, w.1.2 * (1 + b0 - pt) + w.2.2 * pt, 1 + b0⟩ c4 _ ⟨by simp only; omega, by simp only; omega, by simp only; omega, by simp only; omega, by simp only; omega, by simp only; omega⟩ ?_ (by omega)
      exact .inr ⟨w, hm, pt, by simp only; omega, by simp only; omega, by omega, by simp only; omega, rfl, rfl⟩
    · simp only [gg]
      have hb : ∃ B : Int, ixL [D.int 1, D.int 1, D.int 2, D.int 4] way = some (.int B) ∧ (B = 1 ∨ B = 2 ∨ B = 4) := by
        have : way = 0 ∨ way = 1 ∨ way = 2 ∨ way = 3 := by omega
        rcases this with rfl | rfl | rfl | rfl
        · exact ⟨_, rfl, by decide⟩
        · exact ⟨_, rfl, by decide⟩
        · exact ⟨_, rfl, by decide⟩
        · exact ⟨_, rfl, by decide⟩
      obtain ⟨B, eB, hB⟩ := hb
      simp only [gg, eB]
      have m1 : 0 < B * (size + 1) := Int.mul_pos (by omega) (by omega)
      have m2 : B * (size + 1) ≤ 4 * (size + 1) := Int.mul_le_mul_of_nonneg_right (by omega) (by omega)
      have fd : B.fdiv 2 = B / 2 := fdiv_pos (by decide)
      refine ⟨mulok_l (by omega) (by omega), t_take put_same m1 (by omega) (by omega) fun x c2 x0 x1 => ?_⟩
      simp only [gg, fd]
      refine ⟨mulok_l (by omega) (by omega), t_take put_same m1 (by omega) (by omega) fun y c3 y0 y1 => ?_⟩
      simp only [gg, fd]
      refine k ⟨x - B / 2, y - B / 2, B⟩ c3 _ ⟨by simp only; omega, by simp only; omega, by simp only; omega, by simp only; omega, by simp only; omega, by simp only; omega⟩ ?_ (by omega)
      exact .inl ⟨hB, by simp only; omega, by simp only; omega, by simp only; omega, by simp only; omega⟩
  · simp only [gg]
    have hb : ∃ B : Int, ixL [D.int 1, D.int 1, D.int 2, D.int 4] way = some (.int B) ∧ (B = 1 ∨ B = 2 ∨ B = 4) := by
      have : way = 0 ∨ way = 1 ∨ way = 2 ∨ way = 3 := by omega
      rcases this with rfl | rfl | rfl | rfl
      · exact ⟨_, rfl, by decide⟩
      · exact ⟨_, rfl, by decide⟩
      · exact ⟨_, rfl, by decide⟩
      · exact ⟨_, rfl, by decide⟩
    obtain ⟨B, eB, hB⟩ := hb
    simp only [gg, eB]
    have m1 : 0 < B * (size + 1) := Int.mul_pos (by omega) (by omega)
    have m2 : B * (size + 1) ≤ 4 * (size + 1) := Int.mul_le_mul_of_nonneg_right (by omega) (by omega)
    have fd : B.fdiv 2 = B / 2 := fdiv_pos (by decide)
    refine ⟨mulok_l (by omega) (by omega), t_take put_same m1 (by omega) (by omega) fun x c2 x0 x1 => ?_⟩
    simp only [gg, fd]
    refine ⟨mulok_l (by omega) (by omega), t_take put_same m1 (by omega) (by omega) fun y c3 y0 y1 => ?_⟩
    simp only [gg, fd]
    refine k ⟨x - B / 2, y - B / 2, B⟩ c3 _ ⟨by simp only; omega, by simp only; omega, by simp only; omega, by simp only; omega, by simp only; omega, by simp only; omega⟩ ?_ (by omega)
    exact .inl ⟨hB, by simp only; omega, by simp only; omega, by simp only; omega, by simp only; omega⟩
/-- a spot of a wall, against another wall -/
def chk (w : UW) (s : U2) : Bool := !(decide (w.1 = s) || decide (w.2 = s)) && decide (uon w s)
theorem ufair_eq (a b : UW) : ufair a b = (!decide (a = b) && (!chk a b.1 && (!chk a b.2 && (!chk b a.1 && (!chk b a.2 && (decide (0 ≤ uturn a.1 a.2 b.1 * uturn a.1 a.2 b.2) || decide (0 ≤ uturn b.1 b.2 a.1 * uturn b.1 b.2 a.2))))))) := rfl
theorem r_fair : ∀ ds S Q E, FL.sp_fair ds S Q E → b_fair (mends Q E) (mstart 5 ds) S := by
  rintro _ S Q E ⟨a, b, rfl, ha, hb, k⟩
  have no : ufair a b = false → Q (.bl false) S := fun h => by
    have := k S (fun _ _ h => h)
    rwa [h] at this
  unfold b_fair
  simp only [ML.q_mstart, ML.q_mends, List.map_cons, List.map_nil, List.replicate, List.cons_append, List.nil_append]
  simp only [gg]
  refine ⟨fun h => ?_, fun hab => ?_⟩
  · simp only [gg]
    exact no (by simp [ufair, h])
  simp only [gg]
  refine for_roll ?_
  simp only [gg]
  refine wfor_inv (fun i σ S' => @KP ⟨S' = S ∧ (∃ z, σ = [some (uwD a), some (uwD b), some (uwD a), some (uwD b), z, none, none]) ∧ (0 < i → chk a b.1 = false) ∧ (1 < i → chk a b.2 = false)⟩) ⟨rfl, ⟨_, rfl⟩, by omega, by omega⟩ ?_ ?_
  · rintro i d σ S' hd ⟨rfl, ⟨z, rfl⟩, c1, c2⟩
    refine ⟨trivial, ?_⟩
    have hi : (i = 0 ∧ d = uD b.1) ∨ (i = 1 ∧ d = uD b.2) := by
      rcases i with _ | _ | i
      · cases hd; exact .inl ⟨rfl, rfl⟩
      · cases hd; exact .inr ⟨rfl, rfl⟩
      · cases hd
    rcases hi with ⟨rfl, rfl⟩ | ⟨rfl, rfl⟩
    · simp only [gg]
      refine ⟨fun h1 => ?_, fun h1 => ?_⟩
      · simp only [gg]
        refine ⟨a, b.1, rfl, ha, hb.f, ?_⟩
        simp only [gg]
        refine ⟨fun h2 => ?_, fun h2 => ?_⟩
        · simp only [gg]
          exact no (by rw [ufair_eq]; simp [chk, h1, h2])
        · simp only [gg]
          exact KP.mk ⟨rfl, ⟨_, rfl⟩, fun _ => by simp [chk, h2], by omega⟩
      · simp only [gg]
        exact KP.mk ⟨rfl, ⟨_, rfl⟩, fun _ => by simp only [Bool.not_eq_false] at h1; simp [chk, h1], by omega⟩
    · simp only [gg]
      refine ⟨fun h1 => ?_, fun h1 => ?_⟩
      · simp only [gg]
        refine ⟨a, b.2, rfl, ha, hb.s, ?_⟩
        simp only [gg]
        refine ⟨fun h2 => ?_, fun h2 => ?_⟩
        · simp only [gg]
          exact no (by rw [ufair_eq]; simp [chk, h1, h2])
        · simp only [gg]
          exact KP.mk ⟨rfl, ⟨_, rfl⟩, fun _ => c1 (by decide), fun _ => by simp [chk, h2]⟩
      · simp only [gg]
        exact KP.mk ⟨rfl, ⟨_, rfl⟩, fun _ => c1 (by decide), fun _ => by simp only [Bool.not_eq_false] at h1; simp [chk, h1]⟩
  rintro σ S1 ⟨rfl, ⟨za, rfl⟩, ca1, ca2⟩
  replace ca1 := ca1 (by simp)
  replace ca2 := ca2 (by simp)
  refine ⟨trivial, ?_⟩
  simp only [gg]
  refine wfor_inv (fun i σ S' => @KP ⟨S' = S1 ∧ (∃ z, σ = [some (uwD a), some (uwD b), some (uwD b), some (uwD a), z, none, none]) ∧ (0 < i → chk b a.1 = false) ∧ (1 < i → chk b a.2 = false)⟩) ⟨rfl, ⟨_, rfl⟩, by omega, by omega⟩ ?_ ?_
  · rintro i d σ S' hd ⟨rfl, ⟨z, rfl⟩, c1, c2⟩
    refine ⟨trivial, ?_⟩
    have hi : (i = 0 ∧ d = uD a.1) ∨ (i = 1 ∧ d = uD a.2) := by
      rcases i with _ | _ | i
      · cases hd; exact .inl ⟨rfl, rfl⟩
      · cases hd; exact .inr ⟨rfl, rfl⟩
      · cases hd
    rcases hi with ⟨rfl, rfl⟩ | ⟨rfl, rfl⟩
    · simp only [gg]
      refine ⟨fun h1 => ?_, fun h1 => ?_⟩
      · simp only [gg]
        refine ⟨b, a.1, rfl, hb, ha.f, ?_⟩
        simp only [gg]
        refine ⟨fun h2 => ?_, fun h2 => ?_⟩
        · simp only [gg]
          exact no (by rw [ufair_eq]; simp [chk, h1, h2])
        · simp only [gg]
          exact KP.mk ⟨rfl, ⟨_, rfl⟩, fun _ => by simp [chk, h2], by omega⟩
      · simp only [gg]
        exact KP.mk ⟨rfl, ⟨_, rfl⟩, fun _ => by simp only [Bool.not_eq_false] at h1; simp [chk, h1], by omega⟩
    · simp only [gg]
      refine ⟨fun h1 => ?_, fun h1 => ?_⟩
      · simp only [gg]
        refine ⟨b, a.2, rfl, hb, ha.s, ?_⟩
        simp only [gg]
        refine ⟨fun h2 => ?_, fun h2 => ?_⟩
        · simp only [gg]
          exact no (by rw [ufair_eq]; simp [chk, h1, h2])
        · simp only [gg]
          exact KP.mk ⟨rfl, ⟨_, rfl⟩, fun _ => c1 (by decide), fun _ => by simp [chk, h2]⟩
      · simp only [gg]
        exact KP.mk ⟨rfl, ⟨_, rfl⟩, fun _ => c1 (by decide), fun _ => by simp only [Bool.not_eq_false] at h1; simp [chk, h1]⟩
  rintro σ S2 ⟨rfl, ⟨zb, rfl⟩, cb1, cb2⟩
  replace cb1 := cb1 (by simp)
  replace cb2 := cb2 (by simp)
  refine ⟨trivial, ?_⟩
  simp only [gg]
  intro p1 hp1
  refine comp_roll ?_
  simp only [gg]
  refine ⟨_, _, _, rfl, ha.f, ha.s, hb.f, ?_⟩
  simp only [gg]
  refine ⟨_, _, _, rfl, ha.f, ha.s, hb.s, ?_⟩
  simp only [gg]
  intro p2 hp2
  obtain ⟨p21, hp2⟩ := fresh_put hp2
  refine comp_roll ?_
  simp only [gg]
  refine ⟨_, _, _, rfl, hb.f, hb.s, ha.f, ?_⟩
  simp only [gg]
  refine ⟨_, _, _, rfl, hb.f, hb.s, ha.s, ?_⟩
  simp only [gg]
  have g1 : put (put S2 p1 (MO.lst [D.int (uturn a.1 a.2 b.1), D.int (uturn a.1 a.2 b.2)])) p2 (MO.lst [D.int (uturn b.1 b.2 a.1), D.int (uturn b.1 b.2 a.2)]) p1 = some (MO.lst [D.int (uturn a.1 a.2 b.1), D.int (uturn a.1 a.2 b.2)]) := by rw [put_ne (Ne.symm p21), put_same]
  have k' := k (put (put S2 p1 (MO.lst [D.int (uturn a.1 a.2 b.1), D.int (uturn a.1 a.2 b.2)])) p2 (MO.lst [D.int (uturn b.1 b.2 a.1), D.int (uturn b.1 b.2 a.2)])) (fun q o h => by rw [put_ne (sne h hp2), put_ne (sne h hp1)]; exact h)
  rw [ufair_eq, ca1, ca2, cb1, cb2, decide_eq_false hab] at k'
  simp only [gg, g1]
  have b1 := uturn_bd a.1 a.2 b.1
  have b2 := uturn_bd b.1 b.2 a.1
  refine ⟨mulok_l (by omega) (by omega), fun h1 => ?_, fun h1 => ?_⟩
  · simp only [gg]
    rw [decide_eq_true h1] at k'
    exact k'
  · simp only [gg]
    refine ⟨mulok_l (by omega) (by omega), ?_⟩
    rw [decide_eq_false h1] at k'
    exact k'
/-- the next wall drawn -/
theorem Drawn.more {i : Nat} {size : Int} {ws : List UW} (h : Drawn i size ws) (w : UW) (hu : ult w.1 w.2) (hl : 0 ≤ w.1.1 ∧ w.1.1 < size ∧ 0 ≤ w.1.2 ∧ w.1.2 < size ∧ 0 ≤ w.2.1 ∧ w.2.1 < size ∧ 0 ≤ w.2.2 ∧ w.2.2 < size) (hf : ∀ v ∈ ws, ufair w v = true) : Drawn (i + 1) size (ws ++ [w]) where
  len := by rw [List.length_append]; have := h.len; simp; omega
  up := fun v hv => by
    rcases List.mem_append.mp hv with z | z
    · exact h.up v z
    · rw [List.mem_singleton.mp z]; exact hu
  lo := fun v hv => by
    rcases List.mem_append.mp hv with z | z
    · exact h.lo v z
    · rw [List.mem_singleton.mp z]; exact hl
  fair := List.pairwise_append.mpr ⟨h.fair, List.pairwise_singleton _ _, fun a ha b hb => by rw [List.mem_singleton.mp hb]; exact hf a ha⟩
theorem Drawn.mono {i j : Nat} {size : Int} {ws : List UW} (h : Drawn i size ws) (hij : i ≤ j) : Drawn j size ws := ⟨Nat.le_trans h.len hij, h.up, h.lo, h.fair⟩
theorem Drawn.ok {i : Nat} {size : Int} {ws : List UW} (h : Drawn i size ws) (hs : size ≤ 1000) : ∀ w ∈ ws, WOk 1000 w := fun w hw => by
  have := h.lo w hw
  exact ⟨⟨by omega, by omega, by omega, by omega⟩, ⟨by omega, by omega, by omega, by omega⟩⟩
theorem UOk.mono {m n : Int} {u : U2} (h : UOk m u) (hn : m ≤ n) : UOk n u := ⟨by have := h.a1; omega, by have := h.a2; omega, by have := h.b1; omega, by have := h.b2; omega⟩
theorem WOk.mono {m n : Int} {u : UW} (h : WOk m u) (hn : m ≤ n) : WOk n u := ⟨h.f.mono hn, h.s.mono hn⟩
theorem r_shuts_here : ∀ ds S Q E, FL.sp_shuts_here ds S Q E → b_shuts_here (mends Q E) (mstart 6 ds) S := by
  rintro _ S Q E ⟨p, c, n, most, size, rfl, hp, hn, hm, s0, s1, k⟩
  unfold b_shuts_here
  simp only [ML.q_mstart, ML.q_mends, List.map_cons, List.map_nil, List.replicate, List.cons_append, List.nil_append]
  simp only [gg]
  intro q hq
  have qp : q ≠ p := fun z => by rw [z, hp] at hq; cases hq
  refine t_take (by rw [put_ne (Ne.symm qp)]; exact hp) (by omega) (by omega) (by omega) fun tr c1 t0 t1 => ?_
  simp only [gg, put_sw qp]
  refine ⟨by omega, ?_⟩
  have st : ∀ (S1 S2 : Sto) (ws : List UW), (∀ a, a ≠ p → S2 a = S1 a) → (S1 q = some (.lst (ws.map uwD)) ∧ ∀ x o, x ≠ p → S x = some o → S1 x = some o) → (S2 q = some (.lst (ws.map uwD)) ∧ ∀ x o, x ≠ p → S x = some o → S2 x = some o) :=
    fun S1 S2 ws h ⟨h1, h2⟩ => ⟨(h q qp).trans h1, fun x o hx e => (h x hx).trans (h2 x o hx e)⟩
  refine rng_inv (fun i σ S' => @KP ⟨∃ (ws : List UW) (c' : Int) (n' : Nat) (a b d e f : Option D), σ = [some (.ref p), some (.int most), some (.int size), some (.ref q), a, b, d, e, f] ∧ Drawn i size ws ∧ n' ≤ n + 1 + 7 * i ∧ S' p = some (rowO c' n') ∧ (S' q = some (.lst (ws.map uwD)) ∧ ∀ x o, x ≠ p → S x = some o → S' x = some o)⟩) ?_ ?_ ?_
  · refine ⟨[], c1, n + 1, none, none, none, none, none, rfl, ⟨Nat.zero_le _, by simp, by simp, List.Pairwise.nil⟩, by omega, by rw [put_ne (Ne.symm qp), put_same], put_same, fun x o hx e => ?_⟩
    rw [put_ne (sne e hq), put_ne hx]; exact e
  · rintro i σ S1 hi ⟨ws, c2, n2, a, b, d, e, f, rfl, dr, hn2, hp1, h1⟩
    simp only [gg]
    refine t_takeA hp1 s0 (by omega) (by omega) fun x1 c3 S2 x10 x11 hp2 e2 => ?_
    have h2 := st _ _ _ e2 h1
    simp only [gg]
    refine t_takeA hp2 s0 (by omega) (by omega) fun y1 c4 S3 y10 y11 hp3 e3 => ?_
    have h3 := st _ _ _ e3 h2
    simp only [gg]
    refine t_takeA hp3 s0 (by omega) (by omega) fun x2 c5 S4 x20 x21 hp4 e4 => ?_
    have h4 := st _ _ _ e4 h3
    simp only [gg]
    refine t_takeA hp4 s0 (by omega) (by omega) fun y2 c6 S5 y20 y21 hp5 e5 => ?_
    have h5 := st _ _ _ e5 h4
    simp only [gg, look_ref h5.1, eqOk_luw0, deq_luw0]
    refine ⟨fun he => ?_, fun he => ?_⟩
    · have hlen : 0 < ws.length := by
        cases ws with
        | nil => exact absurd he (by decide)
        | cons _ _ => exact Nat.succ_pos _
      simp only [gg]
      refine t_takeA hp5 (by decide) (by decide) (by omega) fun g c7 S6 g0 g1 hp6 e6 => ?_
      have h6 := st _ _ _ e6 h5
      simp only [gg]
      refine jf (fun σ' S' => @KP ⟨∃ (o1 : U2) (c' : Int) (n' : Nat), 0 ≤ o1.1 ∧ o1.1 < size ∧ 0 ≤ o1.2 ∧ o1.2 < size ∧ σ' = [some (.ref p), some (.int most), some (.int size), some (.ref q), some (.int (i : Nat)), some (uD o1), some (uD (x2, y2)), e, f] ∧ n' ≤ n2 + 7 ∧ S' p = some (rowO c' n') ∧ (S' q = some (.lst (ws.map uwD)) ∧ ∀ x o, x ≠ p → S x = some o → S' x = some o)⟩) (fun hg => ?_) (fun hg => ?_) ?_
      · simp only [gg, h6.1]
        have lw := dr.len
        refine t_takeA hp6 (by omega) (by omega) (by omega) fun r c8 S7 r0 r1 hp7 e7 => ?_
        have h7 := st _ _ _ e7 h6
        obtain ⟨w, hw, ew⟩ := ixL_map (f := uwD) r0 r1
        have lw := dr.lo w hw
        simp only [gg, h7.1, ew]
        refine t_takeA hp7 (by decide) (by decide) (by omega) fun r2 c9 S8 r20 r21 hp8 e8 => ?_
        have h8 := st _ _ _ e8 h7
        have : r2 = 0 ∨ r2 = 1 := by omega
        rcases this with rfl | rfl
        · simp only [gg]
          exact KP.mk ⟨w.1, c9, _, by omega, by omega, by omega, by omega, rfl, by omega, hp8, h8⟩
        · simp only [gg]
          exact KP.mk ⟨w.2, c9, _, by omega, by omega, by omega, by omega, rfl, by omega, hp8, h8⟩
      · simp only [gg]
        exact KP.mk ⟨(x1, y1), c7, _, x10, x11, y10, y11, rfl, by omega, hp6, h6⟩
      rintro _ S6 ⟨o1, c7, n7, ox0, ox1, oy0, oy1, rfl, hn7, hp6, h6⟩
      simp only [gg, look_ref h6.1, eqOk_luw0, deq_luw0]
      refine ⟨fun hne => ?_, fun hne => ?_⟩
      · simp only [gg, sqI_at h6.1]
        intro p2 hp2
        have qp2 : q ≠ p2 := sne h6.1 hp2
        have pp2 : p ≠ p2 := sne hp6 hp2
        obtain ⟨sh, hsh⟩ : ∃ sh : UW, sh = (if ult (x2, y2) o1 then (x2, y2) else o1, if ult o1 (x2, y2) then (x2, y2) else o1) := ⟨_, rfl⟩
        have hu : ult sh.1 sh.2 := by
          rcases ult_tri hne with z | z
          · rw [hsh, if_neg (ult_asymm z), if_pos z]; exact z
          · rw [hsh, if_pos z, if_neg (ult_asymm z)]; exact z
        have hlo : 0 ≤ sh.1.1 ∧ sh.1.1 < size ∧ 0 ≤ sh.1.2 ∧ sh.1.2 < size ∧ 0 ≤ sh.2.1 ∧ sh.2.1 < size ∧ 0 ≤ sh.2.2 ∧ sh.2.2 < size := by
          rcases ult_tri hne with z | z
          · rw [hsh, if_neg (ult_asymm z), if_pos z]; exact ⟨ox0, ox1, oy0, oy1, x20, x21, y20, y21⟩
          · rw [hsh, if_pos z, if_neg (ult_asymm z)]; exact ⟨x20, x21, y20, y21, ox0, ox1, oy0, oy1⟩
        have hok : WOk (2 ^ 30) sh := ⟨⟨by omega, by omega, by omega, by omega⟩, ⟨by omega, by omega, by omega, by omega⟩⟩
        have lw := dr.len
        refine comp_inv (fun k acc S' => @KP ⟨acc = (ws.take k).map (fun v => .bl (ufair sh v)) ∧ ∀ x o, x ≠ p2 → S6 x = some o → S' x = some o⟩) put_same ⟨by simp, fun x o hx e => by rw [put_ne hx]; exact e⟩ ?_ ?_
        · rintro k dd acc S7 hd ⟨rfl, h7⟩ ha
          rw [List.getElem?_map] at hd
          cases ea : ws[k]? with
          | none => rw [ea] at hd; cases hd
          | some v =>
            rw [ea] at hd; cases hd
            have hm := List.mem_of_getElem? ea
            refine ⟨by show olP (S7 q) = _; rw [h7 q _ qp2 h6.1]; rfl, ?_⟩
            simp only [gg, ← hsh]
            refine ⟨sh, v, rfl, hok, (dr.ok s1 v hm).mono (by decide), fun S8 h8 => ?_⟩
            refine CompNext.mk (h8 p2 _ ha) (line_lt (by simp only [List.length_map, List.length_take]; omega)) (KP.mk ⟨?_, fun x o hx e => ?_⟩)
            · rw [List.take_add_one, ea, List.map_append]; rfl
            · rw [put_ne hx]; exact h8 x o (h7 x o hx e)
        · rintro acc S7 ⟨rfl, h7⟩ ha
          rw [List.length_map, List.take_length] at ha ⊢
          refine ⟨by show olP (S7 q) = _; rw [h7 q _ qp2 h6.1]; rfl, ?_⟩
          have dl : ∀ x, x ≠ p2 → del S7 p2 x = S7 x := fun x hx => if_neg hx
          have h8 : del S7 p2 q = some (.lst (ws.map uwD)) ∧ ∀ x o, x ≠ p → S x = some o → del S7 p2 x = some o := by
            refine ⟨by rw [dl q qp2]; exact h7 q _ qp2 h6.1, fun x o hx e => ?_⟩
            have hx2 : x ≠ p2 := sne (h6.2 x o hx e) hp2
            rw [dl x hx2]; exact h7 x o hx2 (h6.2 x o hx e)
          have hp8 : del S7 p2 p = some (rowO c7 n7) := by rw [dl p pp2]; exact h7 p _ pp2 hp6
          have em : List.map (fun v => D.bl (ufair sh v)) ws = (ws.map fun v => ufair sh v).map .bl := by rw [List.map_map]; rfl
          generalize del S7 p2 = S9 at h8 hp8
          simp only [gg, em, l_bAll]
          refine jf_split (fun ha2 => ?_) (fun ha2 => ?_)
          · have hall : ∀ v ∈ ws, ufair sh v = true := by
              intro v hv
              have := List.all_eq_true.mp ha2 (ufair sh v) (List.mem_map.mpr ⟨v, hv, rfl⟩)
              exact this
            simp only [gg, isLst_ref h8.1, h8.1, ← hsh]
            refine ⟨line_lt (by omega), ?_⟩
            refine KP.mk ⟨ws ++ [sh], c7, n7, _, _, _, _, _, rfl, dr.more sh hu hlo hall, by omega, by rw [put_ne (Ne.symm qp)]; exact hp8, ?_, fun x o hx e => ?_⟩
            · rw [put_same, List.map_append]; rfl
            · rw [put_ne (Ne.symm (sne e hq).symm)]
              exact h8.2 x o hx e
          · simp only [gg]
            exact KP.mk ⟨ws, c7, n7, _, _, _, _, _, rfl, dr.mono (by omega), by omega, hp8, h8⟩
      · simp only [gg]
        refine jf_f ?_
        simp only [gg]
        exact KP.mk ⟨ws, c7, n7, _, _, _, _, _, rfl, dr.mono (by omega), by omega, hp6, h6⟩
    · simp only [gg]
      refine jf (fun σ' S' => @KP ⟨∃ (o1 : U2) (c' : Int) (n' : Nat), 0 ≤ o1.1 ∧ o1.1 < size ∧ 0 ≤ o1.2 ∧ o1.2 < size ∧ σ' = [some (.ref p), some (.int most), some (.int size), some (.ref q), some (.int (i : Nat)), some (uD o1), some (uD (x2, y2)), e, f] ∧ n' ≤ n2 + 7 ∧ S' p = some (rowO c' n') ∧ (S' q = some (.lst (ws.map uwD)) ∧ ∀ x o, x ≠ p → S x = some o → S' x = some o)⟩) (fun hg => hg.elim) (fun hg => ?_) ?_
      · simp only [gg]
        exact KP.mk ⟨(x1, y1), c6, _, x10, x11, y10, y11, rfl, by omega, hp5, h5⟩
      rintro _ S6 ⟨o1, c7, n7, ox0, ox1, oy0, oy1, rfl, hn7, hp6, h6⟩
      simp only [gg, look_ref h6.1, eqOk_luw0, deq_luw0]
      refine ⟨fun hne => ?_, fun hne => ?_⟩
      · simp only [gg, sqI_at h6.1]
        intro p2 hp2
        have qp2 : q ≠ p2 := sne h6.1 hp2
        have pp2 : p ≠ p2 := sne hp6 hp2
        obtain ⟨sh, hsh⟩ : ∃ sh : UW, sh = (if ult (x2, y2) o1 then (x2, y2) else o1, if ult o1 (x2, y2) then (x2, y2) else o1) := ⟨_, rfl⟩
        have hu : ult sh.1 sh.2 := by
          rcases ult_tri hne with z | z
          · rw [hsh, if_neg (ult_asymm z), if_pos z]; exact z
          · rw [hsh, if_pos z, if_neg (ult_asymm z)]; exact z
        have hlo : 0 ≤ sh.1.1 ∧ sh.1.1 < size ∧ 0 ≤ sh.1.2 ∧ sh.1.2 < size ∧ 0 ≤ sh.2.1 ∧ sh.2.1 < size ∧ 0 ≤ sh.2.2 ∧ sh.2.2 < size := by
          rcases ult_tri hne with z | z
          · rw [hsh, if_neg (ult_asymm z), if_pos z]; exact ⟨ox0, ox1, oy0, oy1, x20, x21, y20, y21⟩
          · rw [hsh, if_pos z, if_neg (ult_asymm z)]; exact ⟨x20, x21, y20, y21, ox0, ox1, oy0, oy1⟩
        have hok : WOk (2 ^ 30) sh := ⟨⟨by omega, by omega, by omega, by omega⟩, ⟨by omega, by omega, by omega, by omega⟩⟩
        have lw := dr.len
        refine comp_inv (fun k acc S' => @KP ⟨acc = (ws.take k).map (fun v => .bl (ufair sh v)) ∧ ∀ x o, x ≠ p2 → S6 x = some o → S' x = some o⟩) put_same ⟨by simp, fun x o hx e => by rw [put_ne hx]; exact e⟩ ?_ ?_
        · rintro k dd acc S7 hd ⟨rfl, h7⟩ ha
          rw [List.getElem?_map] at hd
          cases ea : ws[k]? with
          | none => rw [ea] at hd; cases hd
          | some v =>
            rw [ea] at hd; cases hd
            have hm := List.mem_of_getElem? ea
            refine ⟨by show olP (S7 q) = _; rw [h7 q _ qp2 h6.1]; rfl, ?_⟩
            simp only [gg, ← hsh]
            refine ⟨sh, v, rfl, hok, (dr.ok s1 v hm).mono (by decide), fun S8 h8 => ?_⟩
            refine CompNext.mk (h8 p2 _ ha) (line_lt (by simp only [List.length_map, List.length_take]; omega)) (KP.mk ⟨?_, fun x o hx e => ?_⟩)
            · rw [List.take_add_one, ea, List.map_append]; rfl
            · rw [put_ne hx]; exact h8 x o (h7 x o hx e)
        · rintro acc S7 ⟨rfl, h7⟩ ha
          rw [List.length_map, List.take_length] at ha ⊢
          refine ⟨by show olP (S7 q) = _; rw [h7 q _ qp2 h6.1]; rfl, ?_⟩
          have dl : ∀ x, x ≠ p2 → del S7 p2 x = S7 x := fun x hx => if_neg hx
          have h8 : del S7 p2 q = some (.lst (ws.map uwD)) ∧ ∀ x o, x ≠ p → S x = some o → del S7 p2 x = some o := by
            refine ⟨by rw [dl q qp2]; exact h7 q _ qp2 h6.1, fun x o hx e => ?_⟩
            have hx2 : x ≠ p2 := sne (h6.2 x o hx e) hp2
            rw [dl x hx2]; exact h7 x o hx2 (h6.2 x o hx e)
          have hp8 : del S7 p2 p = some (rowO c7 n7) := by rw [dl p pp2]; exact h7 p _ pp2 hp6
          have em : List.map (fun v => D.bl (ufair sh v)) ws = (ws.map fun v => ufair sh v).map .bl := by rw [List.map_map]; rfl
          generalize del S7 p2 = S9 at h8 hp8
          simp only [gg, em, l_bAll]
          refine jf_split (fun ha2 => ?_) (fun ha2 => ?_)
          · have hall : ∀ v ∈ ws, ufair sh v = true := by
              intro v hv
              have := List.all_eq_true.mp ha2 (ufair sh v) (List.mem_map.mpr ⟨v, hv, rfl⟩)
              exact this
            simp only [gg, isLst_ref h8.1, h8.1, ← hsh]
            refine ⟨line_lt (by omega), ?_⟩
            refine KP.mk ⟨ws ++ [sh], c7, n7, _, _, _, _, _, rfl, dr.more sh hu hlo hall, by omega, by rw [put_ne (Ne.symm qp)]; exact hp8, ?_, fun x o hx e => ?_⟩
            · rw [put_same, List.map_append]; rfl
            · rw [put_ne (Ne.symm (sne e hq).symm)]
              exact h8.2 x o hx e
          · simp only [gg]
            exact KP.mk ⟨ws, c7, n7, _, _, _, _, _, rfl, dr.mono (by omega), by omega, hp8, h8⟩
      · simp only [gg]
        refine jf_f ?_
        simp only [gg]
        exact KP.mk ⟨ws, c7, n7, _, _, _, _, _, rfl, dr.mono (by omega), by omega, hp6, h6⟩
  rintro σ S1 ⟨ws, c2, n2, a, b, d, e, f, rfl, dr, hn2, hp1, h1⟩
  simp only [gg]
  have hm2 : tr.toNat ≤ most := by omega
  exact k ws q c2 n2 S1 (dr.mono hm2) (by omega) hq qp h1.2 hp1 h1.1
end FL

namespace FL
open PySem PySem.Spec L2 ML
/-! ### the scale keeps order and sides -/
theorem rat_int_pos {i : Int} (h : 0 < i) : (0 : Rat) < (i : Rat) := by exact_mod_cast h
theorem lt_div {a b c : Rat} (h : 0 < c) : a / c < b / c ↔ a < b := by
  rw [Rat.div_def, Rat.div_def]
  have hi : 0 < c⁻¹ := Rat.inv_pos.mpr h
  constructor
  · intro z
    have := Rat.mul_lt_mul_of_pos_right z h
    rw [Rat.mul_assoc, Rat.mul_assoc, Rat.inv_mul_cancel _ (by grind), Rat.mul_one, Rat.mul_one] at this
    exact this
  · intro z; exact Rat.mul_lt_mul_of_pos_right z hi
theorem eq_div {a b c : Rat} (h : 0 < c) : a / c = b / c ↔ a = b := by
  constructor
  · intro z
    have : a / c * c = b / c * c := by rw [z]
    rw [Rat.div_mul_cancel (by grind), Rat.div_mul_cancel (by grind)] at this
    exact this
  · intro z; rw [z]
theorem lt_aff {a b t x : Rat} (h : 0 < t) : a * t + x < b * t + x ↔ a < b := by
  constructor
  · intro z
    have : a * t < b * t := by grind
    by_cases w : a < b
    · exact w
    · have : b * t ≤ a * t := Rat.mul_le_mul_of_nonneg_right (by grind) (by grind)
      grind
  · intro z
    have := Rat.mul_lt_mul_of_pos_right z h
    grind
theorem eq_aff {a b t x : Rat} (h : 0 < t) : a * t + x = b * t + x ↔ a = b := by
  constructor
  · intro z
    have e : a * t = b * t := by grind
    have : a * t / t = b * t / t := by rw [e]
    rwa [Rat.mul_div_cancel (by grind), Rat.mul_div_cancel (by grind)] at this
  · intro z; rw [z]
theorem ScOk.tp {s : Sc} (h : ScOk s) : (0 : Rat) < (s.t : Rat) := rat_int_pos (by have := h.t1; omega)
theorem ScOk.bp {s : Sc} (h : ScOk s) : (0 : Rat) < (s.b : Rat) := rat_int_pos (by have := h.b1; omega)
theorem ahead_af {s : Sc} (h : ScOk s) (p q : Pt) : ahead (af s p) (af s q) ↔ ahead p q := by
  unfold ahead af
  simp only [lt_div h.bp, eq_div h.bp, lt_aff h.tp, eq_aff h.tp]
theorem af_inj {s : Sc} (h : ScOk s) {p q : Pt} : af s p = af s q ↔ p = q := by
  unfold af
  simp only [Prod.ext_iff, eq_div h.bp, eq_aff h.tp]
theorem sgn_pos_mul {k q : Rat} (h : 0 < k) : sgn (k * q) = sgn q := by
  unfold sgn
  have a : 0 < k * q ↔ 0 < q := by
    constructor
    · intro z
      by_cases y : 0 < q
      · exact y
      · have := Rat.mul_nonneg (Rat.le_of_lt h) (show 0 ≤ -q by grind); grind
    · exact Rat.mul_pos h
  have b : k * q < 0 ↔ q < 0 := by
    constructor
    · intro z
      by_cases y : q < 0
      · exact y
      · have := Rat.mul_nonneg (Rat.le_of_lt h) (show 0 ≤ q by grind); grind
    · intro z
      have := Rat.mul_pos h (show 0 < -q by grind); grind
  simp only [a, b]
theorem side_af {s : Sc} (h : ScOk s) (w : Wl) (p : Pt) : side (afw s w) (af s p) = side w p := by
  have hb : (s.b : Rat) ≠ 0 := by have := h.bp; grind
  have e : crs (alng (afw s w)) (alng ((afw s w).1, af s p)) = (s.t / s.b * (s.t / s.b)) * crs (alng w) (alng (w.1, p)) := by
    simp only [crs, alng, afw, af]
    grind
  unfold side
  rw [e, sgn_pos_mul]
  have : (0 : Rat) < s.t / s.b := by
    rw [Rat.div_def]; exact Rat.mul_pos h.tp (Rat.inv_pos.mpr h.bp)
  exact Rat.mul_pos this this
theorem liesOn_af {s : Sc} (h : ScOk s) (w : Wl) (p : Pt) : liesOn (afw s w) (af s p) ↔ liesOn w p := by
  unfold liesOn
  rw [side_af h]
  simp only [afw, ahead_af h]
theorem spansW_af {s : Sc} (h : ScOk s) (w : Wl) (p : Pt) : spansW (afw s w) (af s p) ↔ spansW w p := by
  unfold spansW
  simp only [afw, ahead_af h]
theorem ahead_ofU (u v : U2) : ahead (ofU u) (ofU v) ↔ ult u v := by
  unfold ahead ofU ult
  simp only [Rat.intCast_lt_intCast, Rat.intCast_inj]
theorem ofU_inj {u v : U2} : ofU u = ofU v ↔ u = v := by
  unfold ofU
  simp only [Prod.ext_iff, Rat.intCast_inj]
theorem not_ult {u v : U2} : ¬ ult u v ↔ ule v u := by unfold ult ule; omega
theorem ofT_mul {t : Told} (h : 1 ≤ t.n) : (t.n : Rat) * (ofT t).1 = t.x ∧ (t.n : Rat) * (ofT t).2 = t.y := by
  have hn : (t.n : Rat) ≠ 0 := by have := rat_int_pos (show 0 < t.n by omega); grind
  unfold ofT
  constructor <;> grind
theorem ahead_TU {t : Told} (h : 1 ≤ t.n) (u : U2) : ahead (ofT t) (ofU u) ↔ ult (t.x, t.y) (upt t.n u) := by
  have hn := rat_int_pos (show 0 < t.n by omega)
  have e : ofU u = (((t.n * u.1 : Int) : Rat) / t.n, ((t.n * u.2 : Int) : Rat) / t.n) := by
    unfold ofU
    simp only [Rat.intCast_mul, Prod.ext_iff]
    constructor <;> grind
  rw [e]
  unfold ahead ofT ult upt
  simp only [lt_div hn, eq_div hn, Rat.intCast_lt_intCast, Rat.intCast_inj]
theorem ahead_UT {t : Told} (h : 1 ≤ t.n) (u : U2) : ahead (ofU u) (ofT t) ↔ ult (upt t.n u) (t.x, t.y) := by
  have hn := rat_int_pos (show 0 < t.n by omega)
  have e : ofU u = (((t.n * u.1 : Int) : Rat) / t.n, ((t.n * u.2 : Int) : Rat) / t.n) := by
    unfold ofU
    simp only [Rat.intCast_mul, Prod.ext_iff]
    constructor <;> grind
  rw [e]
  unfold ahead ofT ult upt
  simp only [lt_div hn, eq_div hn, Rat.intCast_lt_intCast, Rat.intCast_inj]
theorem bd_af {s : Sc} {p : Pt} {n : Nat} (hs : ScOk s) (hp : BP p n) (m : Nat) (hm : n + 31 + 57 + 1 + 31 ≤ m) : BP (af s p) m := by
  obtain ⟨t1, t2, b1, b2, x1, x2, y1, y2⟩ := hs
  have ht : BD (s.t : Rat) 31 := ⟨z_int (by omega) (by decide)⟩
  have hb : BD (s.b : Rat) 31 := ⟨z_int (by omega) (by decide)⟩
  have hx : BD (s.x : Rat) 57 := ⟨z_int (by omega) (by decide)⟩
  have hy : BD (s.y : Rat) 57 := ⟨z_int (by omega) (by decide)⟩
  unfold af
  exact BP.mono (by omega)
theorem bd_ofU {u : U2} (h : UOk (2 ^ 20) u) : BP (ofU u) 21 := by
  obtain ⟨a1, a2, a3, a4⟩ := h
  exact ⟨z_int (by omega) (by decide), z_int (by omega) (by decide)⟩
theorem bd_ofT {t : Told} (h : TOk t) : BP (ofT t) 66 := by
  obtain ⟨a1, a2, a3, a4, n1, n2⟩ := h
  have hx : BD (t.x : Rat) 41 := ⟨z_int (by omega) (by decide)⟩
  have hy : BD (t.y : Rat) 41 := ⟨z_int (by omega) (by decide)⟩
  have hn : BD (t.n : Rat) 25 := ⟨z_int (by omega) (by decide)⟩
  unfold ofT
  exact BP.mono (by omega)
theorem bw_afw {s : Sc} {w : UW} (hs : ScOk s) (h : WOk (2 ^ 20) w) : BW (afw s (ofW w)) 150 := ⟨bd_af hs (bd_ofU h.f) _ (by decide), bd_af hs (bd_ofU h.s) _ (by decide)⟩
theorem bp_afT {s : Sc} {t : Told} (hs : ScOk s) (h : TOk t) : BP (af s (ofT t)) 200 := bd_af hs (bd_ofT h) _ (by decide)
/-! ### calls -/
section
variable {S : Sto} {Q : Hold MQ} {E : Hold MXQ}
theorem t_scale {p : Addr} {c : Int} {n : Nat} (hp : S p = some (rowO c n)) (hn : n < 2 ^ 50) (k : ∀ (s : Sc) (c' : Int) (n' : Nat), ScOk s → n' ≤ n + 8 → Q.v (scD s) (put S p (rowO c' n'))) : @CallP sp_scale [.ref p] S Q E := ⟨p, c, n, rfl, hp, hn, k⟩
theorem t_uspot {s : Sc} {u : U2} (h : ScOk s) (hu : UOk (2 ^ 20) u) (k : Q.v (spD (af s (ofU u))) S) : @CallP sp_uspot [scD s, uD u] S Q E := ⟨s, u, rfl, h, hu, k⟩
theorem t_made {s : Sc} {d : D} {ws : List UW} (h : ScOk s) (hd : SeqK S d (ws.map uwD)) (hz : ws.length ≤ 1000) (hw : ∀ w ∈ ws, WOk (2 ^ 20) w) (k : Q.v (.tup (ws.map fun w => wlD (afw s (ofW w)))) S) : @CallP sp_made [scD s, d] S Q E := ⟨s, d, ws, rfl, hd, hz, h, hw, k⟩
theorem t_spot_at {s : Sc} {t : Told} (h : ScOk s) (ht : TOk t) (k : Q.v (spD (af s (ofT t))) S) : @CallP sp_spot_at [scD s, toD t] S Q E := ⟨s, t, rfl, h, ht, k⟩
theorem t_by {d : D} {ws : List UW} {m : Int} (hd : SeqK S d (ws.map uwD)) (hz : ws.length ≤ 1000) (h1 : -(2 ^ 20) ≤ m) (h2 : m ≤ 2 ^ 20) (hw : ∀ w ∈ ws, WOk (2 ^ 20) w) (k : Q.v (.lst (ws.map fun w => uwD (upw m w))) S) : @CallP sp_by [d, .int m] S Q E := ⟨d, ws, m, rfl, hd, hz, h1, h2, hw, k⟩
theorem t_turn {a b c : U2} (ha : UOk (2 ^ 30) a) (hb : UOk (2 ^ 30) b) (hc : UOk (2 ^ 30) c) (k : Q.v (.int (uturn a b c)) S) : @CallP sp_turn [uD a, uD b, uD c] S Q E := ⟨a, b, c, rfl, ha, hb, hc, k⟩
theorem t_wanted {p : Addr} {c : Int} {n : Nat} {d : D} {ws : List UW} {size : Int} (hp : S p = some (rowO c n)) (hn : n < 2 ^ 50) (hd : SeqK S d (ws.map uwD)) (hne : d ≠ .ref p) (ht : ∀ ds, d ≠ .tup ds) (hz : ws.length ≤ 1000) (s0 : 0 < size) (s1 : size ≤ 1000) (hw : ∀ w ∈ ws, WOk (2 ^ 15) w)
    (k : ∀ (t : Told) (c' : Int) (n' : Nat), TOk t → WantedOk ws size t → n' ≤ n + 4 → Q.v (toD t) (put S p (rowO c' n'))) : @CallP sp_wanted [.ref p, d, .int size] S Q E := ⟨p, c, n, d, ws, size, rfl, hp, hn, hd, hne, ht, hz, s0, s1, hw, k⟩
theorem t_shuts {p : Addr} {c : Int} {n most : Nat} {size m : Int} (hm : m = most) (hp : S p = some (rowO c n)) (hn : n < 2 ^ 50) (h0 : most ≤ 100) (s0 : 0 < size) (s1 : size ≤ 1000)
    (k : ∀ (ws : List UW) (q : Addr) (c' : Int) (n' : Nat) (S' : Sto), Drawn most size ws → n' ≤ n + 1000 → S q = none → q ≠ p → (∀ a o, a ≠ p → S a = some o → S' a = some o) → S' p = some (rowO c' n') → S' q = some (.lst (ws.map uwD)) → Q.v (.ref q) S') : @CallP sp_shuts_here [.ref p, .int m, .int size] S Q E := by
  subst hm; exact ⟨p, c, n, most, size, rfl, hp, hn, h0, s0, s1, k⟩
end
end FL

namespace FL
open PySem PySem.Spec L2 ML
/-! ### ways that lead on in the order of spots -/
def posv (v : Pt) : Prop := 0 < v.1 ∨ (v.1 = 0 ∧ 0 < v.2)
def sb (p q : Pt) : Pt := (p.1 - q.1, p.2 - q.2)
theorem ahead_posv {a b : Pt} : ahead a b ↔ posv (sb b a) := by
  unfold ahead posv sb
  constructor <;> intro h <;> grind
/-- u to the right of w, w to the right of v: u to the right of v -/
theorem crs_trans {u w v : Pt} (hu : posv u) (hw : posv w) (hv : posv v) (h1 : 0 < crs u w) (h2 : 0 < crs w v) : 0 < crs u v := by
  unfold posv at hu hw hv
  have e : w.1 * crs u v = u.1 * crs w v + v.1 * crs u w := by unfold crs; grind
  rcases hw with hw | ⟨hw, hw2⟩
  · have u1 : 0 < u.1 := by
      rcases hu with z | ⟨z, z2⟩
      · exact z
      · exfalso
        have : 0 < u.2 * w.1 := Rat.mul_pos z2 hw
        unfold crs at h1
        rw [z] at h1
        grind
    have v0 : 0 ≤ v.1 := by rcases hv with z | ⟨z, _⟩ <;> grind
    have p1 := Rat.mul_pos u1 h2
    have p2 := Rat.mul_nonneg v0 (Rat.le_of_lt h1)
    have p3 : 0 < w.1 * crs u v := by grind
    by_cases z : 0 < crs u v
    · exact z
    · have := Rat.mul_nonneg (Rat.le_of_lt hw) (show 0 ≤ -crs u v by grind)
      grind
  · exfalso
    unfold crs at h2
    rw [hw] at h2
    have v0 : 0 ≤ v.1 := by rcases hv with z | ⟨z, _⟩ <;> grind
    have := Rat.mul_nonneg (Rat.le_of_lt hw2) v0
    grind
theorem crs_self (u : Pt) : crs u u = 0 := by unfold crs; grind
theorem crs_swap (u v : Pt) : crs u v = - crs v u := by unfold crs; grind
theorem posv_add {u v : Pt} (h : posv u) (k : posv v) : posv (u.1 + v.1, u.2 + v.2) := by unfold posv at *; grind
/-- the sum of the document: its sign is the side -/
def cx (w : Wl) (s : Pt) : Rat := crs (alng w) (alng (w.1, s))
theorem side_cx (w : Wl) (s : Pt) : side w s = sgn (cx w s) := rfl
theorem sgn_one {q : Rat} : sgn q = 1 ↔ 0 < q := by
  unfold sgn
  split
  · simp_all
  · split <;> simp_all
theorem sgn_m1 {q : Rat} : sgn q = -1 ↔ q < 0 := by
  unfold sgn
  split
  · constructor
    · intro h; simp at h
    · intro h; grind
  · split
    · simp_all
    · simp_all
theorem sgn_0 {q : Rat} : sgn q = 0 ↔ q = 0 := by
  unfold sgn
  split
  · constructor
    · intro h; simp at h
    · intro h; grind
  · split
    · constructor
      · intro h; simp at h
      · intro h; grind
    · constructor <;> intro _ <;> grind
theorem sgn_neg (q : Rat) : sgn (-q) = - sgn q := by
  unfold sgn
  by_cases h1 : 0 < q
  · rw [if_neg (by grind), if_pos (by grind), if_pos h1]
  · by_cases h2 : q < 0
    · rw [if_pos (by grind), if_neg h1, if_pos h2]; rfl
    · rw [if_neg (by grind), if_neg (by grind), if_neg h1, if_neg h2]; rfl
theorem sgn_mul (p q : Rat) : sgn p * sgn q = sgn (p * q) := by
  by_cases h : 0 < p
  · rw [sgn_pos_mul h, sgn_one.mpr h, Int.one_mul]
  · by_cases h2 : p < 0
    · have e : p * q = -((-p) * q) := by grind
      rw [e, sgn_neg, sgn_pos_mul (by grind), sgn_m1.mpr h2]; omega
    · have : p = 0 := by grind
      subst this
      rw [Rat.zero_mul, sgn_0.mpr rfl, Int.zero_mul]
theorem sgn_nonneg {q : Rat} : 0 ≤ sgn q ↔ 0 ≤ q := by
  unfold sgn
  split
  · exact ⟨fun _ => by grind, fun _ => by decide⟩
  · split
    · constructor
      · intro h; simp at h
      · intro h; grind
    · exact ⟨fun _ => by grind, fun _ => by decide⟩
/-! ### two walls that meet at ends alone -/
structure FairW (a b : Wl) : Prop where
  ne : a ≠ b
  e1 : liesOn a b.1 → b.1 = a.1 ∨ b.1 = a.2
  e2 : liesOn a b.2 → b.2 = a.1 ∨ b.2 = a.2
  e3 : liesOn b a.1 → a.1 = b.1 ∨ a.1 = b.2
  e4 : liesOn b a.2 → a.2 = b.1 ∨ a.2 = b.2
  cr : 0 ≤ cx a b.1 * cx a b.2 ∨ 0 ≤ cx b a.1 * cx b a.2
theorem FairW.symm {a b : Wl} (h : FairW a b) : FairW b a := ⟨fun z => h.ne z.symm, h.e3, h.e4, h.e1, h.e2, h.cr.symm⟩
theorem uon_lies (w : UW) (s : U2) : uon w s ↔ liesOn (ofW w) (ofU s) := by
  unfold uon liesOn ofW uturn
  simp only [ahead_ofU, not_ult]
theorem ufair_iff (a b : UW) : ufair a b = true ↔ FairW (ofW a) (ofW b) := by
  rw [ufair_eq]
  have ce : ∀ (w : UW) (s : U2), chk w s = false ↔ (liesOn (ofW w) (ofU s) → ofU s = ofU w.1 ∨ ofU s = ofU w.2) := by
    intro w s
    unfold chk
    rw [← uon_lies, ofU_inj, ofU_inj]
    by_cases h : uon w s
    · simp only [h, decide_true, Bool.and_true, Bool.not_eq_false', Bool.or_eq_true, decide_eq_true_eq, true_implies]
      constructor <;> rintro (z | z) <;> simp [z]
    · simp [h]
  have hc : (0 ≤ uturn a.1 a.2 b.1 * uturn a.1 a.2 b.2) ↔ 0 ≤ cx (ofW a) (ofU b.1) * cx (ofW a) (ofU b.2) := by
    show 0 ≤ side (ofW a) (ofU b.1) * side (ofW a) (ofU b.2) ↔ _
    rw [side_cx, side_cx, sgn_mul, sgn_nonneg]
  have hc2 : (0 ≤ uturn b.1 b.2 a.1 * uturn b.1 b.2 a.2) ↔ 0 ≤ cx (ofW b) (ofU a.1) * cx (ofW b) (ofU a.2) := by
    show 0 ≤ side (ofW b) (ofU a.1) * side (ofW b) (ofU a.2) ↔ _
    rw [side_cx, side_cx, sgn_mul, sgn_nonneg]
  have hn : ofW a = ofW b ↔ a = b := by
    constructor
    · intro h
      exact Prod.ext (ofU_inj.mp (congrArg Prod.fst h)) (ofU_inj.mp (congrArg Prod.snd h))
    · rintro rfl; rfl
  simp only [Bool.and_eq_true, Bool.not_eq_true', decide_eq_false_iff_not, Bool.or_eq_true, decide_eq_true_eq, ce, hc, hc2]
  constructor
  · rintro ⟨h1, h2, h3, h4, h5, h6⟩
    exact ⟨fun z => h1 (hn.mp z), h2, h3, h4, h5, h6⟩
  · rintro ⟨h1, h2, h3, h4, h5, h6⟩
    exact ⟨fun z => h1 (hn.mpr z), h2, h3, h4, h5, h6⟩
theorem cx_af {s : Sc} (h : ScOk s) (w : Wl) (p : Pt) : ∃ k : Rat, 0 < k ∧ cx (afw s w) (af s p) = k * cx w p := by
  have hb : (s.b : Rat) ≠ 0 := by have := h.bp; grind
  refine ⟨s.t / s.b * (s.t / s.b), ?_, ?_⟩
  · have : (0 : Rat) < s.t / s.b := by
      rw [Rat.div_def]; exact Rat.mul_pos h.tp (Rat.inv_pos.mpr h.bp)
    exact Rat.mul_pos this this
  · simp only [cx, crs, alng, afw, af]
    grind
theorem nonneg_af {s : Sc} (h : ScOk s) (w : Wl) (p q : Pt) : 0 ≤ cx (afw s w) (af s p) * cx (afw s w) (af s q) ↔ 0 ≤ cx w p * cx w q := by
  rw [← sgn_nonneg, ← sgn_nonneg, ← sgn_mul, ← sgn_mul]
  show 0 ≤ side (afw s w) (af s p) * side (afw s w) (af s q) ↔ 0 ≤ side w p * side w q
  rw [side_af h, side_af h]
theorem fairW_af {s : Sc} (h : ScOk s) {a b : Wl} (f : FairW a b) : FairW (afw s a) (afw s b) where
  ne := fun z => f.ne (by
    have z1 := congrArg Prod.fst z
    have z2 := congrArg Prod.snd z
    exact Prod.ext ((af_inj h).mp z1) ((af_inj h).mp z2))
  e1 := fun z => by
    have := f.e1 ((liesOn_af h a b.1).mp z)
    simpa only [afw, af_inj h] using this
  e2 := fun z => by
    have := f.e2 ((liesOn_af h a b.2).mp z)
    simpa only [afw, af_inj h] using this
  e3 := fun z => by
    have := f.e3 ((liesOn_af h b a.1).mp z)
    simpa only [afw, af_inj h] using this
  e4 := fun z => by
    have := f.e4 ((liesOn_af h b a.2).mp z)
    simpa only [afw, af_inj h] using this
  cr := by
    rcases f.cr with z | z
    · exact .inl ((nonneg_af h a b.1 b.2).mpr z)
    · exact .inr ((nonneg_af h b a.1 a.2).mpr z)
/-! ### one above the other -/
theorem nocross {a b : Wl} (ha : ahead a.1 a.2) (hb : ahead b.1 b.2) (h1 : ahead a.1 b.2) (h2 : ahead b.1 a.2) (hc : 0 ≤ cx a b.1 * cx a b.2 ∨ 0 ≤ cx b a.1 * cx b a.2)
    (hl : (ahead b.1 a.1 ∧ 0 < cx b a.1) ∨ (ahead a.1 b.1 ∧ cx a b.1 < 0)) (hr : (ahead a.2 b.2 ∧ cx b a.2 < 0) ∨ (ahead b.2 a.2 ∧ 0 < cx a b.2)) : False := by
  have key : 0 < cx b a.1 ∧ cx b a.2 < 0 ∧ cx a b.1 < 0 ∧ 0 < cx a b.2 := by
    rw [ahead_posv] at ha hb h1 h2
    rcases hl with ⟨l1, l2⟩ | ⟨l1, l2⟩ <;> rcases hr with ⟨r1, r2⟩ | ⟨r1, r2⟩ <;> rw [ahead_posv] at l1 r1
    · have e1 : cx b a.1 = crs (sb b.2 b.1) (sb a.1 b.1) := rfl
      have e2 : cx b a.2 = -crs (sb b.2 b.1) (sb b.2 a.2) := by simp only [cx, crs, alng, sb]; grind
      have e3 : cx a b.1 = -crs (sb a.2 a.1) (sb a.1 b.1) := by simp only [cx, crs, alng, sb]; grind
      have e4 : cx a b.2 = crs (sb a.2 a.1) (sb b.2 a.2) := by simp only [cx, crs, alng, sb]; grind
      have e5 : crs (sb a.2 a.1) (sb b.2 b.1) = crs (sb b.2 b.1) (sb a.1 b.1) + crs (sb b.2 b.1) (sb b.2 a.2) := by simp only [crs, sb]; grind
      have p1 : 0 < crs (sb a.2 a.1) (sb b.2 b.1) := by grind
      have q1 := crs_trans ha hb l1 p1 (by grind)
      have q2 := crs_trans ha hb r1 p1 (by grind)
      exact ⟨by grind, by grind, by grind, by grind⟩
    · have e1 : cx b a.1 = crs (sb b.2 a.1) (sb a.1 b.1) := by simp only [cx, crs, alng, sb]; grind
      have e4 : cx a b.2 = crs (sb a.2 b.2) (sb b.2 a.1) := by simp only [cx, crs, alng, sb]; grind
      have q := crs_trans r1 h1 l1 (by grind) (by grind)
      have e2 : cx b a.2 = -(crs (sb a.2 b.2) (sb a.1 b.1) + crs (sb a.2 b.2) (sb b.2 a.1)) := by simp only [cx, crs, alng, sb]; grind
      have e3 : cx a b.1 = -(crs (sb b.2 a.1) (sb a.1 b.1) + crs (sb a.2 b.2) (sb a.1 b.1)) := by simp only [cx, crs, alng, sb]; grind
      exact ⟨by grind, by grind, by grind, by grind⟩
    · have e3 : cx a b.1 = -crs (sb b.1 a.1) (sb a.2 b.1) := by simp only [cx, crs, alng, sb]; grind
      have e2 : cx b a.2 = -crs (sb a.2 b.1) (sb b.2 a.2) := by simp only [cx, crs, alng, sb]; grind
      have q := crs_trans l1 h2 r1 (by grind) (by grind)
      have e1 : cx b a.1 = crs (sb b.1 a.1) (sb a.2 b.1) + crs (sb b.1 a.1) (sb b.2 a.2) := by simp only [cx, crs, alng, sb]; grind
      have e4 : cx a b.2 = crs (sb b.1 a.1) (sb b.2 a.2) + crs (sb a.2 b.1) (sb b.2 a.2) := by simp only [cx, crs, alng, sb]; grind
      exact ⟨by grind, by grind, by grind, by grind⟩
    · have e3 : cx a b.1 = -crs (sb b.1 a.1) (sb a.2 a.1) := by simp only [cx, crs, alng, sb]; grind
      have e4 : cx a b.2 = crs (sb a.2 b.2) (sb a.2 a.1) := by simp only [cx, crs, alng, sb]; grind
      have e5 : crs (sb a.2 a.1) (sb b.2 b.1) = crs (sb b.1 a.1) (sb a.2 a.1) + crs (sb a.2 b.2) (sb a.2 a.1) := by simp only [crs, sb]; grind
      have p1 : 0 < crs (sb a.2 a.1) (sb b.2 b.1) := by grind
      have q1 := crs_trans l1 ha hb (by grind) p1
      have q2 := crs_trans r1 ha hb (by grind) p1
      have e1 : cx b a.1 = crs (sb b.1 a.1) (sb b.2 b.1) := by simp only [cx, crs, alng, sb]; grind
      have e2 : cx b a.2 = -crs (sb a.2 b.2) (sb b.2 b.1) := by simp only [cx, crs, alng, sb]; grind
      exact ⟨by grind, by grind, by grind, by grind⟩
  obtain ⟨k1, k2, k3, k4⟩ := key
  rcases hc with h | h
  · have := Rat.mul_pos (show 0 < -cx a b.1 by grind) k4
    grind
  · have := Rat.mul_pos k1 (show 0 < -cx b a.2 by grind)
    grind
/-- at the begin of what both span, at its end: above 0 where a lies above -/
def lval (a b : Wl) : Rat := if a.1 = b.1 then 0 else if ahead a.1 b.1 then - cx a b.1 else cx b a.1
def rval (a b : Wl) : Rat := if a.2 = b.2 then 0 else if ahead a.2 b.2 then cx b a.2 else - cx a b.2
def both (a b : Wl) : Prop := ahead a.1 b.2 ∧ ahead b.1 a.2
instance (a b : Wl) : Decidable (both a b) := by unfold both; infer_instance
theorem both_symm {a b : Wl} (h : both a b) : both b a := ⟨h.2, h.1⟩
theorem ahead_ne {a b : Pt} (h : ahead a b) : a ≠ b := fun z => by subst z; exact ahead_irrefl _ h
theorem lval_neg (a b : Wl) : lval b a = - lval a b := by
  unfold lval
  by_cases h : a.1 = b.1
  · rw [if_pos h, if_pos h.symm]; grind
  · rw [if_neg h, if_neg (Ne.symm h)]
    rcases ahead_tri a.1 b.1 with z | z | z
    · rw [if_pos z, if_neg (ahead_asymm z)]; grind
    · exact absurd z h
    · rw [if_neg (ahead_asymm z), if_pos z]
theorem rval_neg (a b : Wl) : rval b a = - rval a b := by
  unfold rval
  by_cases h : a.2 = b.2
  · rw [if_pos h, if_pos h.symm]; grind
  · rw [if_neg h, if_neg (Ne.symm h)]
    rcases ahead_tri a.2 b.2 with z | z | z
    · rw [if_pos z, if_neg (ahead_asymm z)]
    · exact absurd z h
    · rw [if_neg (ahead_asymm z), if_pos z]; grind
theorem cx_f (w : Wl) : cx w w.1 = 0 := by simp only [cx, crs, alng]; grind
theorem cx_s (w : Wl) : cx w w.2 = 0 := by simp only [cx, crs, alng]; grind
structure Up (w : Wl) : Prop where
  up : ahead w.1 w.2
section
variable {a b : Wl}
theorem lr_pos (ha : Up a) (hb : Up b) (f : FairW a b) (o : both a b) : ¬ (0 < lval a b ∧ rval a b < 0) := by
  rintro ⟨h1, h2⟩
  refine nocross ha.up hb.up o.1 o.2 f.cr ?_ ?_
  · unfold lval at h1
    split at h1
    · exact absurd h1 (by decide)
    · next n1 =>
      split at h1
      · next z => exact .inr ⟨z, by grind⟩
      · next z =>
        rcases ahead_tri a.1 b.1 with y | y | y
        · exact absurd y z
        · exact absurd y n1
        · exact .inl ⟨y, h1⟩
  · unfold rval at h2
    split at h2
    · exact absurd h2 (by decide)
    · next n1 =>
      split at h2
      · next z => exact .inl ⟨z, h2⟩
      · next z =>
        rcases ahead_tri a.2 b.2 with y | y | y
        · exact absurd y z
        · exact absurd y n1
        · exact .inr ⟨y, by grind⟩
theorem lr_neg (ha : Up a) (hb : Up b) (f : FairW a b) (o : both a b) : ¬ (lval a b < 0 ∧ 0 < rval a b) := by
  have := lr_pos hb ha f.symm (both_symm o)
  rw [lval_neg, rval_neg] at this
  intro ⟨h1, h2⟩
  exact this ⟨by grind, by grind⟩
theorem lies_of {w : Wl} {s : Pt} (h1 : ¬ ahead s w.1) (h2 : ¬ ahead w.2 s) (h3 : cx w s = 0) : liesOn w s := ⟨h1, h2, by rw [side_cx, h3]; rfl⟩
theorem lval_ne (ha : Up a) (hb : Up b) (f : FairW a b) (o : both a b) (h : a.1 ≠ b.1) : lval a b ≠ 0 := by
  unfold lval
  rw [if_neg h]
  split
  · next z =>
    intro e
    rcases f.e1 (lies_of (ahead_asymm z) (ahead_asymm o.2) (by grind)) with y | y
    · exact h y.symm
    · exact ahead_ne o.2 y
  · next z =>
    intro e
    rcases f.e3 (lies_of z (ahead_asymm o.1) e) with y | y
    · exact h y
    · exact ahead_ne o.1 y
theorem rval_ne (ha : Up a) (hb : Up b) (f : FairW a b) (o : both a b) (h : a.2 ≠ b.2) : rval a b ≠ 0 := by
  unfold rval
  rw [if_neg h]
  split
  · next z =>
    intro e
    rcases f.e4 (lies_of (ahead_asymm o.2) (ahead_asymm z) e) with y | y
    · exact ahead_ne o.2 y.symm
    · exact h y
  · next z =>
    intro e
    rcases f.e2 (lies_of (ahead_asymm o.1) z (by grind)) with y | y
    · exact ahead_ne o.1 y.symm
    · exact h y.symm
theorem r_ne (ha : Up a) (hb : Up b) (f : FairW a b) (o : both a b) (h : a.1 = b.1) : rval a b ≠ 0 := rval_ne ha hb f o fun z => f.ne (Prod.ext h z)
/-- whether a lies above b, as the document says -/
def pend (a b : Wl) : Pt × Bool := if a.1 ≠ b.1 then (if ahead a.1 b.1 then (b.1, false) else (a.1, true)) else (if ahead a.2 b.2 then (a.2, true) else (b.2, false))
def aboveW (a b : Wl) : Prop := both a b ∧ (if (pend a b).2 = true then side b (pend a b).1 = 1 else side a (pend a b).1 = -1)
instance (a b : Wl) : Decidable (aboveW a b) := by unfold aboveW; infer_instance
theorem above_val : aboveW a b ↔ both a b ∧ (0 < lval a b ∨ (a.1 = b.1 ∧ 0 < rval a b)) := by
  by_cases h : a.1 = b.1
  · have l0 : lval a b = 0 := by unfold lval; rw [if_pos h]
    have ep : pend a b = if ahead a.2 b.2 then (a.2, true) else (b.2, false) := by unfold pend; rw [if_neg (fun z => z h)]
    unfold aboveW
    rw [ep, l0]
    simp only [h, true_and, Rat.lt_irrefl, false_or]
    unfold rval
    by_cases h2 : a.2 = b.2
    · have z : ¬ ahead a.2 b.2 := by rw [h2]; exact ahead_irrefl _
      have e : side a b.2 = 0 := by rw [← h2, side_cx, cx_s]; rfl
      rw [if_neg z, if_pos h2]
      simp only [e, Bool.false_eq_true, if_false, Rat.lt_irrefl]
      simp
    · rw [if_neg h2]
      by_cases z : ahead a.2 b.2
      · rw [if_pos z, if_pos z]
        simp only [if_true, side_cx, sgn_one]
      · rw [if_neg z, if_neg z]
        simp only [if_false, side_cx, sgn_m1, Bool.false_eq_true]
        constructor <;> rintro ⟨x, y⟩ <;> exact ⟨x, by grind⟩
  · have ep : pend a b = if ahead a.1 b.1 then (b.1, false) else (a.1, true) := by unfold pend; rw [if_pos h]
    unfold aboveW lval
    rw [ep, if_neg h]
    simp only [h, false_and, or_false]
    by_cases z : ahead a.1 b.1
    · rw [if_pos z, if_pos z]
      simp only [if_false, side_cx, sgn_m1, Bool.false_eq_true]
      constructor <;> rintro ⟨x, y⟩ <;> exact ⟨x, by grind⟩
    · rw [if_neg z, if_neg z]
      simp only [if_true, side_cx, sgn_one]
theorem above_one (ha : Up a) (hb : Up b) (f : FairW a b) (o : both a b) : aboveW a b ↔ ¬ aboveW b a := by
  rw [above_val, above_val, lval_neg a b, rval_neg a b]
  have n1 := lr_pos ha hb f o
  have n2 := lr_neg ha hb f o
  by_cases h : a.1 = b.1
  · have := r_ne ha hb f o h
    have l0 : lval a b = 0 := by unfold lval; rw [if_pos h]
    simp only [o, both_symm o, h, l0, true_and]
    constructor
    · intro z y; grind
    · intro z
      right
      by_cases p : 0 < rval a b
      · exact p
      · exact absurd (.inr (by grind)) z
  · have := lval_ne ha hb f o h
    simp only [o, both_symm o, h, Ne.symm h, true_and, false_and, or_false]
    constructor
    · intro z y; grind
    · intro z; grind
end
end FL

namespace FL
open PySem PySem.Spec L2 ML
def peD (x : Pt × Bool) : D := .tup [spD x.1, .bl x.2]
def sp_both_span : MSp := fun ds S Q _ => ∃ (a b : Wl) (m n : Nat), ds = [wlD a, wlD b] ∧ BW a m ∧ BW b n ∧ m + n < 4000 ∧ Q (.bl (decide (both a b))) S
def sp_parting_end : MSp := fun ds S Q _ => ∃ (a b : Wl) (m n : Nat), ds = [wlD a, wlD b] ∧ BW a m ∧ BW b n ∧ m + n < 4000 ∧ Q (peD (pend a b)) S
def sp_is_above : MSp := fun ds S Q _ => ∃ (a b : Wl) (m n : Nat), ds = [wlD a, wlD b] ∧ BW a m ∧ BW b n ∧ m + n < 450 ∧ Q (.bl (decide (aboveW a b))) S
def sp_law_above : MSp := fun ds S Q _ => ∃ (a b : UW), ds = [uwD a, uwD b] ∧ WOk (2 ^ 30) a ∧ WOk (2 ^ 30) b ∧ ult a.1 a.2 ∧ ult b.1 b.2 ∧ (a = b ∨ FairW (ofW a) (ofW b)) ∧ ∀ S', (∀ q o, S q = some o → S' q = some o) → Q (.bl (decide (aboveW (ofW a) (ofW b)))) S'
/-! ### lists that are joined; x in a list of ints -/
section
variable {S : Sto} {Q : MQ}
theorem l_rAdd_rl {p : Addr} {ys : List D} : ML.rAdd (.ref p) (.lst ys) S Q = optP (olP (S p)) fun xs => xs.length + ys.length ≤ sizeLine ∧ Q (.lst (xs ++ ys)) S := by
  simp only [ML.rAdd, ownOf_ref', ownOf_lst, optP, OptP]
  cases olP (S p) <;> rfl
theorem l_rAdd_ll {xs ys : List D} : ML.rAdd (.lst xs) (.lst ys) S Q = (xs.length + ys.length ≤ sizeLine ∧ Q (.lst (xs ++ ys)) S) := Eq.trans rfl rfl
theorem l_rAdd_lr {p : Addr} {xs : List D} : ML.rAdd (.lst xs) (.ref p) S Q = optP (olP (S p)) fun ys => xs.length + ys.length ≤ sizeLine ∧ Q (.lst (xs ++ ys)) S := by
  simp only [ML.rAdd, ownOf_ref', ownOf_lst, optP, OptP]
  cases olP (S p) <;> rfl
theorem l_rAdd_rr {p q : Addr} : ML.rAdd (.ref p) (.ref q) S Q = optP (olP (S p)) fun xs => optP (olP (S q)) fun ys => xs.length + ys.length ≤ sizeLine ∧ Q (.lst (xs ++ ys)) S := by
  simp only [ML.rAdd, ownOf_ref', optP, OptP]
  cases olP (S p) <;> cases olP (S q) <;> rfl
theorem plains_int (ns : List Int) : D.plains (ns.map D.int) = true := plains_map fun _ => rfl
theorem deps_int (ns : List Int) : D.deps (ns.map D.int) ≤ 0 := deps_map fun _ => Nat.le_refl _
theorem mem_int (i : Int) (ns : List Int) : memD (.int i) (ns.map D.int) = decide (i ∈ ns) := by
  induction ns with
  | nil => simp [memD]
  | cons n ns ih =>
    have : memD (.int i) ((n :: ns).map D.int) = (D.deq (.int n) (.int i) || memD (.int i) (ns.map D.int)) := rfl
    rw [this, ih, deq_int]
    by_cases h : n = i
    · simp [h]
    · have h' : ¬ i = n := fun z => h z.symm
      simp [h, h']
theorem in_ints {neg : Bool} {i : Int} {ns : List Int} : rInM neg (.int i) (.lst (ns.map .int)) S Q = Q (.bl (if neg then !decide (i ∈ ns) else decide (i ∈ ns))) S := by
  have c : D.plain (.int i) = true ∧ D.plains (ns.map D.int) = true ∧ D.dep (.int i) ≤ 64 ∧ D.deps (ns.map D.int) ≤ 63 := ⟨rfl, plains_int ns, Nat.zero_le _, Nat.le_trans (deps_int ns) (Nat.zero_le _)⟩
  simp only [rInM, look_lst, mem_int]
  exact propext ⟨fun h => h.2, fun h => ⟨c, h⟩⟩
end
/-! ### walls drawn -/
theorem Drawn.fairW {m : Nat} {z : Int} {ws : List UW} (h : Drawn m z ws) {i j : Nat} {a b : UW} (hij : i ≠ j) (ha : ws[i]? = some a) (hb : ws[j]? = some b) : FairW (ofW a) (ofW b) := by
  obtain ⟨hi, rfl⟩ := List.getElem?_eq_some_iff.mp ha
  obtain ⟨hj, rfl⟩ := List.getElem?_eq_some_iff.mp hb
  have p := List.pairwise_iff_getElem.mp h.fair
  rcases Nat.lt_or_gt_of_ne hij with l | l
  · exact ((ufair_iff _ _).mp (p i j hi hj l)).symm
  · exact (ufair_iff _ _).mp (p j i hj hi l)
theorem Drawn.up' {m : Nat} {z : Int} {ws : List UW} (h : Drawn m z ws) {w : UW} (hw : w ∈ ws) : Up (ofW w) := ⟨(ahead_ofU _ _).mpr (h.up w hw)⟩
theorem both_af {s : Sc} (h : ScOk s) (a b : Wl) : both (afw s a) (afw s b) ↔ both a b := by
  unfold both afw
  simp only [ahead_af h]
theorem pend_af {s : Sc} (h : ScOk s) (a b : Wl) : pend (afw s a) (afw s b) = (af s (pend a b).1, (pend a b).2) := by
  unfold pend afw
  simp only [ahead_af h, ne_eq, af_inj h]
  split
  · split <;> rfl
  · split <;> rfl
theorem aboveW_af {s : Sc} (h : ScOk s) (a b : Wl) : aboveW (afw s a) (afw s b) ↔ aboveW a b := by
  unfold aboveW
  rw [both_af h, pend_af h]
  simp only [side_af h]
theorem get_lt {α : Type} {xs : List α} {i : Nat} (h : i < xs.length) : ∃ a, xs[i]? = some a ∧ a ∈ xs := ⟨xs[i], List.getElem?_eq_getElem h, List.getElem_mem h⟩
end FL

set_option maxRecDepth 100000
namespace FL
open PySem PySem.Spec L2 ML
def b_both_span : MS := (mRet (mAndV (mCall FL.sp_is_ahead (mCons (mOp rIxM (mVar 0) (mC (.int 0))) (mCons (mOp rIxM (mVar 1) (mC (.int 1))) mNil))) (mCall FL.sp_is_ahead (mCons (mOp rIxM (mVar 1) (mC (.int 0))) (mCons (mOp rIxM (mVar 0) (mC (.int 1))) mNil)))))
def b_parting_end : MS := (mSeq (mIfS (mTst (mOp rNeM (mOp rIxM (mVar 0) (mC (.int 0))) (mOp rIxM (mVar 1) (mC (.int 0))))) (mSeq (mIfS (mTru (mCall FL.sp_is_ahead (mCons (mOp rIxM (mVar 0) (mC (.int 0))) (mCons (mOp rIxM (mVar 1) (mC (.int 0))) mNil)))) (mRet (mTup (mCons (mOp rIxM (mVar 1) (mC (.int 0))) (mCons (mC (.bl false)) mNil)))) mNext)
  (mRet (mTup (mCons (mOp rIxM (mVar 0) (mC (.int 0))) (mCons (mC (.bl true)) mNil))))) mNext)
  (mSeq (mIfS (mTru (mCall FL.sp_is_ahead (mCons (mOp rIxM (mVar 0) (mC (.int 1))) (mCons (mOp rIxM (mVar 1) (mC (.int 1))) mNil)))) (mRet (mTup (mCons (mOp rIxM (mVar 0) (mC (.int 1))) (mCons (mC (.bl true)) mNil)))) mNext)
  (mRet (mTup (mCons (mOp rIxM (mVar 1) (mC (.int 1))) (mCons (mC (.bl false)) mNil))))))
def b_law_above : MS := (mSeq (mIfS (mTst (mOp aGe (mBlt bMaxA (mCons (mOp rIxM (mVar 0) (mC (.int 0))) (mCons (mOp rIxM (mVar 1) (mC (.int 0))) mNil))) (mBlt bMinA (mCons (mOp rIxM (mVar 0) (mC (.int 1))) (mCons (mOp rIxM (mVar 1) (mC (.int 1))) mNil))))) (mRet (mC (.bl false))) mNext)
  (mSeq (mSet 2 (mComp (iS (mVar 0)) (gNm 3) (mTst (mChain aLe aLe (mOp rIxM (mVar 1) (mC (.int 0))) (mVar 3) (mOp rIxM (mVar 1) (mC (.int 1))))) (mCall FL.sp_turn (mCons (mOp rIxM (mVar 1) (mC (.int 0))) (mCons (mOp rIxM (mVar 1) (mC (.int 1))) (mCons (mVar 3) mNil)))) [3]))
  (mSeq (mSet 2 (mOp rAdd (mVar 2) (mCompF (iS (mVar 1)) (gNm 3) (mTst (mChain aLe aLe (mOp rIxM (mVar 0) (mC (.int 0))) (mVar 3) (mOp rIxM (mVar 0) (mC (.int 1))))) (mUn rNeg (mCall FL.sp_turn (mCons (mOp rIxM (mVar 0) (mC (.int 0))) (mCons (mOp rIxM (mVar 0) (mC (.int 1))) (mCons (mVar 3) mNil))))) [3])))
  (mRet (mOp (rInM false) (mC (.int 1)) (mVar 2))))))
def b_is_above : MS := (mSeq (mIfS (mNot (mTru (mCall FL.sp_both_span (mCons (mVar 0) (mCons (mVar 1) mNil))))) (mRet (mC (.bl false))) mNext)
  (mSeq (mAsg (mCall FL.sp_parting_end (mCons (mVar 0) (mCons (mVar 1) mNil))) (gTp 2 (gCn (gNm 2) (gCn (gNm 3) gNl))))
  (mSeq (mIfS (mTru (mVar 3)) (mRet (mOp rEqM (mCall FL.sp_side_of (mCons (mVar 1) (mCons (mVar 2) mNil))) (mC (.int 1)))) mNext)
  (mRet (mOp rEqM (mCall FL.sp_side_of (mCons (mVar 0) (mCons (mVar 2) mNil))) (mUn rNeg (mC (.int 1))))))))
end FL

set_option maxRecDepth 100000
namespace FL
-- counts /tmp/scratch/dev/N_lib3.json
open PySem PySem.Spec L2 ML
local macro_rules | `(tactic| simp $c:optConfig $[$d:discharger]? only [gw] $[$l:location]?) => `(tactic| simp $c $[$d]? only [↓ML.q_mSeq, ↓ML.q_mC, ↓ML.q_mOp, ↓ML.q_mUn, ↓ML.q_mTst, ↓ML.q_mNot, ↓ML.q_mNotV, ↓ML.q_mRet, ↓ML.q_mRetN, ↓ML.q_mExpr, ↓ML.q_mNext, ↓ML.q_mBreak, ↓ML.q_mCont, ↓ML.q_mAsg, ↓ML.q_gSb, ↓ML.q_mTup, ↓ML.q_mLst, ↓ML.q_mLstF, ↓ML.q_mCons, ↓ML.q_mNil, ↓ML.q_mBlt, ↓ML.q_rEqM, ↓ML.q_rNeM, ↓ML.q_iR1, ↓ML.q_iR2, ↓ML.q_iEn, ↓ML.q_iZp, ↓ML.q_mMt, ↓ML.q_mMt0, ↓ML.q_mYes, ↓ML.q_mCut, ↓ML.q_oNo, ↓ML.q_oSo, ↓ML.l_mCall, ↓ML.l_mAnd, ↓ML.l_mOr, ↓ML.l_mAndV, ↓ML.l_mOrV, ↓ML.l_mIf, ↓ML.l_mIfS, ↓ML.l_mChain, ↓ML.l_mVar, ↓ML.l_mFor, ↓ML.l_mWhile, ↓ML.l_mComp, ↓ML.l_mCompF, ↓ML.l_optP, ↓ML.l_Go, ↓ML.Hold_v, ↓ML.l_mSet, ↓ML.l_gNm, ↓ML.l_mPar, ↓ML.l_rIxM, ↓ML.l_rSetM, ↓ML.l_rInt, ↓ML.l_rInt0, ↓ML.l_rAdd_int, ↓ML.l_rAdd_str, ↓ML.l_rAdd_tup, ↓ML.l_rNeg, ↓ML.l_rIsN, ↓ML.l_rNotN, ↓ML.l_rIsBM, ↓ML.l_mTru, ↓ML.l_bLen, ↓ML.l_bAbs, ↓ML.l_bMax2, ↓ML.l_bMin2, ↓ML.l_bInt_i, ↓ML.l_bInt_b, ↓ML.l_bTuple, ↓ML.l_bListF, ↓ML.l_bList, ↓ML.l_mIsi, ↓ML.l_iL, ↓ML.l_iT, ↓ML.l_gTp, ↓ML.l_gLs, ↓ML.l_gCn, ↓ML.l_gNl, ↓ML.l_mtAppend, ML.Hold_v, ML.l_mVar_z, ML.l_mVar_s, ML.OptP_some, ML.Go_eq, ML.IteP_true, ML.IteP_false, ML.lstOf_ref', ML.lstOf_lst, ML.lstOf_scr, ML.lstOf_tup, ML.ownOf_ref', ML.ownOf_lst, ML.seqOf_tup', ML.seqOf_lst', ML.seqOf_scr', ML.seqOf_ref', ML.olP_lst, ML.tupOf_tup, ML.ixL_lit, ML.ixL_cast, ML.ixL_m1, ML.setAt_lit, ML.setAt_cast, ML.truD_bl, ML.truD_int, ML.truD_tup, ML.truD_lst, ML.truD_scr, ML.truD_non, ML.lenD_tup, ML.lenD_lst, ML.lenD_scr, ML.lenD_ref, ML.tyD_non, ML.tyD_bl, ML.tyD_int, ML.tyD_str, ML.tyD_tup, ML.tyD_lst, ML.szl, ML.szlt, ML.cpow_lit, ML.mulok_rl, ML.mulok_ll, ML.divok_l, ML.put_same, ML.put_put, ML.q_wipeM, ML.deq_int, ML.deq_bl, ML.deq_str, ML.deq_non, ML.eqOk_int, ML.eqOk_bl, ML.isTy_NoneType_int, ML.isTy_NoneType_bool, ML.isTy_NoneType_tuple, ML.isTy_NoneType_list, ML.isTy_NoneType_str, ML.isTy_bool_int, ML.isTy_bool_bool, ML.isTy_bool_tuple, ML.isTy_bool_list, ML.isTy_bool_str, ML.isTy_int_int, ML.isTy_int_bool, ML.isTy_int_tuple, ML.isTy_int_list, ML.isTy_int_str, ML.isTy_str_int, ML.isTy_str_bool, ML.isTy_str_tuple, ML.isTy_str_list, ML.isTy_str_str, ML.isTy_tuple_int, ML.isTy_tuple_bool, ML.isTy_tuple_tuple, ML.isTy_tuple_list, ML.isTy_tuple_str, ML.isTy_list_int, ML.isTy_list_bool, ML.isTy_list_tuple, ML.isTy_list_list, ML.isTy_list_str, ML.isTy_dict_int, ML.isTy_dict_bool, ML.isTy_dict_tuple, ML.isTy_dict_list, ML.isTy_dict_str, FL.tup_fr, FL.tup_sp, FL.tup_wl, FL.tupOf_fr, FL.tupOf_sp, FL.tupOf_wl, FL.nz0, FL.nz1, FL.nz2, FL.nz3, FL.look_non, FL.look_int, FL.look_bl, FL.look_str, FL.look_tup, FL.look_lst, FL.look_scr, FL.seqOf_fr, FL.seqOf_sp, FL.seqOf_wl, FL.look_fr, FL.look_sp, FL.look_wl, FL.eqOk_fr, FL.eqOk_sp, FL.eqOk_wl, FL.deq_fr, FL.deq_sp, FL.deq_wl, FL.tyD_fr, FL.tyD_sp, FL.tyD_wl, FL.isN_fr, FL.isN_sp, FL.isN_wl, FL.lenD_sp, FL.lenD_wl, FL.rAdd_wl_tup, List.length_map, List.map_cons, List.map_nil, List.replicate, List.set_cons_zero, List.set_cons_succ, List.getElem?_cons_zero, List.getElem?_cons_succ, List.cons_append, List.nil_append, List.length_cons, List.length_nil, Option.bind_some, Option.map_some, ↓reduceIte, Nat.reduceAdd, Nat.reduceSub, Nat.reduceLT, Nat.reduceLeDiff, Nat.zero_add, decide_eq_true_eq, Bool.not_eq_true, ne_eq, reduceCtorEq, not_false_eq_true, true_and, and_true, Bool.false_eq_true, Bool.not_true, Bool.not_false, decide_true, decide_false, not_true_eq_false, eq_self, Bool.not_eq_eq_eq_not, if_true, if_false, decide_eq_false_iff_not, ML.ncast, Int.reduceToNat, Int.reducePow, Int.reduceAdd, Int.reduceSub, Int.reduceMul, Int.reduceNeg, Int.reduceLT, Int.reduceLE, Int.reduceEq, Nat.reduceEqDiff, Int.zero_add, gt_iff_lt, beq_self_eq_true, Bool.true_beq, Bool.false_beq, Bool.and_true, Bool.and_false, Bool.true_and, Bool.false_and, ↓ML.l_mtInsert, ↓ML.l_mtReverse, ↓ML.l_mtClear, ↓ML.l_bSortU, ↓ML.q_mMt0, ↓ML.l_bMaxL, ↓ML.l_bMinL, ↓ML.l_aLt_int, ↓ML.l_aLt_u, ↓ML.l_aGt_int, ↓ML.l_aGt_u, ↓ML.l_aLe_int, ↓ML.l_aLe_u, ↓ML.l_aGe_int, ↓ML.l_aGe_u, ↓ML.l_bMaxA_int, ↓ML.l_bMaxA_u, ↓ML.l_bMinA_int, ↓ML.l_bMinA_u, ML.tup_u, ML.tupOf_u, ML.seqOf_u, ML.sqI_u, ML.look_u, ML.isN_u, ML.lenD_u, ML.tyD_u, ML.tup_uw, ML.tupOf_uw, ML.seqOf_uw, ML.sqI_uw, ML.look_uw, ML.isN_uw, ML.lenD_uw, ML.tyD_uw, ML.eqOk_u, ML.eqOk_uw, ML.deq_u, ML.deq_uw, ML.in_uw, ↓ML.l_mRaise, ↓ML.l_mTry, ↓ML.l_mIsE, ↓ML.l_mIsV, ↓ML.l_mtCount, ↓ML.l_rAddS_rl, ↓ML.l_rAddS_ll, ML.excD_ref, ML.excOf_exc, ML.blsOf_nil, ML.blsOf_cons, ML.endM_nx, ML.endM_rt, ↓ML.l_mYes, ↓ML.l_iS, ↓ML.l_mIfJ, ↓ML.l_mJ, ↓ML.CrollP_nil, ↓ML.CrollP_cons, ↓ML.CrA_at, ↓ML.FrollP_nil, ↓ML.FrollP_cons, ML.isN_non, ML.isN_int, ML.isN_bl, ML.isN_str, ML.isN_tup, ML.isN_lst, ML.isN_ref, ML.sqI_tup, ML.sqI_lst, ML.sqI_scr, ML.sqI_ref, ML.sqI_at, ML.rngD_0, ML.rngD_1, ML.rngD_2, ML.rngD_3, ML.rngD_4, ML.rngD_6, ML.q_wipeM_nil, ML.q_wipeM_cons, FL.sqI_sp, FL.sqI_wl, ↓FL.c_plus, ↓FL.c_less, ↓FL.c_law_less, ↓FL.c_times, ↓FL.c_over, ↓FL.c_is_less, ↓FL.c_is_ahead, ↓FL.c_along, ↓FL.c_crossed, ↓FL.c_leaning, ↓FL.c_side_of, ↓FL.c_lies_on, ↓FL.c_spans] $[$l]?)
local macro_rules | `(tactic| simp $c:optConfig $[$d:discharger]? only [gw, $ls,*] $[$l:location]?) => `(tactic| simp $c $[$d]? only [↓ML.q_mSeq, ↓ML.q_mC, ↓ML.q_mOp, ↓ML.q_mUn, ↓ML.q_mTst, ↓ML.q_mNot, ↓ML.q_mNotV, ↓ML.q_mRet, ↓ML.q_mRetN, ↓ML.q_mExpr, ↓ML.q_mNext, ↓ML.q_mBreak, ↓ML.q_mCont, ↓ML.q_mAsg, ↓ML.q_gSb, ↓ML.q_mTup, ↓ML.q_mLst, ↓ML.q_mLstF, ↓ML.q_mCons, ↓ML.q_mNil, ↓ML.q_mBlt, ↓ML.q_rEqM, ↓ML.q_rNeM, ↓ML.q_iR1, ↓ML.q_iR2, ↓ML.q_iEn, ↓ML.q_iZp, ↓ML.q_mMt, ↓ML.q_mMt0, ↓ML.q_mYes, ↓ML.q_mCut, ↓ML.q_oNo, ↓ML.q_oSo, ↓ML.l_mCall, ↓ML.l_mAnd, ↓ML.l_mOr, ↓ML.l_mAndV, ↓ML.l_mOrV, ↓ML.l_mIf, ↓ML.l_mIfS, ↓ML.l_mChain, ↓ML.l_mVar, ↓ML.l_mFor, ↓ML.l_mWhile, ↓ML.l_mComp, ↓ML.l_mCompF, ↓ML.l_optP, ↓ML.l_Go, ↓ML.Hold_v, ↓ML.l_mSet, ↓ML.l_gNm, ↓ML.l_mPar, ↓ML.l_rIxM, ↓ML.l_rSetM, ↓ML.l_rInt, ↓ML.l_rInt0, ↓ML.l_rAdd_int, ↓ML.l_rAdd_str, ↓ML.l_rAdd_tup, ↓ML.l_rNeg, ↓ML.l_rIsN, ↓ML.l_rNotN, ↓ML.l_rIsBM, ↓ML.l_mTru, ↓ML.l_bLen, ↓ML.l_bAbs, ↓ML.l_bMax2, ↓ML.l_bMin2, ↓ML.l_bInt_i, ↓ML.l_bInt_b, ↓ML.l_bTuple, ↓ML.l_bListF, ↓ML.l_bList, ↓ML.l_mIsi, ↓ML.l_iL, ↓ML.l_iT, ↓ML.l_gTp, ↓ML.l_gLs, ↓ML.l_gCn, ↓ML.l_gNl, ↓ML.l_mtAppend, ML.Hold_v, ML.l_mVar_z, ML.l_mVar_s, ML.OptP_some, ML.Go_eq, ML.IteP_true, ML.IteP_false, ML.lstOf_ref', ML.lstOf_lst, ML.lstOf_scr, ML.lstOf_tup, ML.ownOf_ref', ML.ownOf_lst, ML.seqOf_tup', ML.seqOf_lst', ML.seqOf_scr', ML.seqOf_ref', ML.olP_lst, ML.tupOf_tup, ML.ixL_lit, ML.ixL_cast, ML.ixL_m1, ML.setAt_lit, ML.setAt_cast, ML.truD_bl, ML.truD_int, ML.truD_tup, ML.truD_lst, ML.truD_scr, ML.truD_non, ML.lenD_tup, ML.lenD_lst, ML.lenD_scr, ML.lenD_ref, ML.tyD_non, ML.tyD_bl, ML.tyD_int, ML.tyD_str, ML.tyD_tup, ML.tyD_lst, ML.szl, ML.szlt, ML.cpow_lit, ML.mulok_rl, ML.mulok_ll, ML.divok_l, ML.put_same, ML.put_put, ML.q_wipeM, ML.deq_int, ML.deq_bl, ML.deq_str, ML.deq_non, ML.eqOk_int, ML.eqOk_bl, ML.isTy_NoneType_int, ML.isTy_NoneType_bool, ML.isTy_NoneType_tuple, ML.isTy_NoneType_list, ML.isTy_NoneType_str, ML.isTy_bool_int, ML.isTy_bool_bool, ML.isTy_bool_tuple, ML.isTy_bool_list, ML.isTy_bool_str, ML.isTy_int_int, ML.isTy_int_bool, ML.isTy_int_tuple, ML.isTy_int_list, ML.isTy_int_str, ML.isTy_str_int, ML.isTy_str_bool, ML.isTy_str_tuple, ML.isTy_str_list, ML.isTy_str_str, ML.isTy_tuple_int, ML.isTy_tuple_bool, ML.isTy_tuple_tuple, ML.isTy_tuple_list, ML.isTy_tuple_str, ML.isTy_list_int, ML.isTy_list_bool, ML.isTy_list_tuple, ML.isTy_list_list, ML.isTy_list_str, ML.isTy_dict_int, ML.isTy_dict_bool, ML.isTy_dict_tuple, ML.isTy_dict_list, ML.isTy_dict_str, FL.tup_fr, FL.tup_sp, FL.tup_wl, FL.tupOf_fr, FL.tupOf_sp, FL.tupOf_wl, FL.nz0, FL.nz1, FL.nz2, FL.nz3, FL.look_non, FL.look_int, FL.look_bl, FL.look_str, FL.look_tup, FL.look_lst, FL.look_scr, FL.seqOf_fr, FL.seqOf_sp, FL.seqOf_wl, FL.look_fr, FL.look_sp, FL.look_wl, FL.eqOk_fr, FL.eqOk_sp, FL.eqOk_wl, FL.deq_fr, FL.deq_sp, FL.deq_wl, FL.tyD_fr, FL.tyD_sp, FL.tyD_wl, FL.isN_fr, FL.isN_sp, FL.isN_wl, FL.lenD_sp, FL.lenD_wl, FL.rAdd_wl_tup, List.length_map, List.map_cons, List.map_nil, List.replicate, List.set_cons_zero, List.set_cons_succ, List.getElem?_cons_zero, List.getElem?_cons_succ, List.cons_append, List.nil_append, List.length_cons, List.length_nil, Option.bind_some, Option.map_some, ↓reduceIte, Nat.reduceAdd, Nat.reduceSub, Nat.reduceLT, Nat.reduceLeDiff, Nat.zero_add, decide_eq_true_eq, Bool.not_eq_true, ne_eq, reduceCtorEq, not_false_eq_true, true_and, and_true, Bool.false_eq_true, Bool.not_true, Bool.not_false, decide_true, decide_false, not_true_eq_false, eq_self, Bool.not_eq_eq_eq_not, if_true, if_false, decide_eq_false_iff_not, ML.ncast, Int.reduceToNat, Int.reducePow, Int.reduceAdd, Int.reduceSub, Int.reduceMul, Int.reduceNeg, Int.reduceLT, Int.reduceLE, Int.reduceEq, Nat.reduceEqDiff, Int.zero_add, gt_iff_lt, beq_self_eq_true, Bool.true_beq, Bool.false_beq, Bool.and_true, Bool.and_false, Bool.true_and, Bool.false_and, ↓ML.l_mtInsert, ↓ML.l_mtReverse, ↓ML.l_mtClear, ↓ML.l_bSortU, ↓ML.q_mMt0, ↓ML.l_bMaxL, ↓ML.l_bMinL, ↓ML.l_aLt_int, ↓ML.l_aLt_u, ↓ML.l_aGt_int, ↓ML.l_aGt_u, ↓ML.l_aLe_int, ↓ML.l_aLe_u, ↓ML.l_aGe_int, ↓ML.l_aGe_u, ↓ML.l_bMaxA_int, ↓ML.l_bMaxA_u, ↓ML.l_bMinA_int, ↓ML.l_bMinA_u, ML.tup_u, ML.tupOf_u, ML.seqOf_u, ML.sqI_u, ML.look_u, ML.isN_u, ML.lenD_u, ML.tyD_u, ML.tup_uw, ML.tupOf_uw, ML.seqOf_uw, ML.sqI_uw, ML.look_uw, ML.isN_uw, ML.lenD_uw, ML.tyD_uw, ML.eqOk_u, ML.eqOk_uw, ML.deq_u, ML.deq_uw, ML.in_uw, ↓ML.l_mRaise, ↓ML.l_mTry, ↓ML.l_mIsE, ↓ML.l_mIsV, ↓ML.l_mtCount, ↓ML.l_rAddS_rl, ↓ML.l_rAddS_ll, ML.excD_ref, ML.excOf_exc, ML.blsOf_nil, ML.blsOf_cons, ML.endM_nx, ML.endM_rt, ↓ML.l_mYes, ↓ML.l_iS, ↓ML.l_mIfJ, ↓ML.l_mJ, ↓ML.CrollP_nil, ↓ML.CrollP_cons, ↓ML.CrA_at, ↓ML.FrollP_nil, ↓ML.FrollP_cons, ML.isN_non, ML.isN_int, ML.isN_bl, ML.isN_str, ML.isN_tup, ML.isN_lst, ML.isN_ref, ML.sqI_tup, ML.sqI_lst, ML.sqI_scr, ML.sqI_ref, ML.sqI_at, ML.rngD_0, ML.rngD_1, ML.rngD_2, ML.rngD_3, ML.rngD_4, ML.rngD_6, ML.q_wipeM_nil, ML.q_wipeM_cons, FL.sqI_sp, FL.sqI_wl, ↓FL.c_plus, ↓FL.c_less, ↓FL.c_law_less, ↓FL.c_times, ↓FL.c_over, ↓FL.c_is_less, ↓FL.c_is_ahead, ↓FL.c_along, ↓FL.c_crossed, ↓FL.c_leaning, ↓FL.c_side_of, ↓FL.c_lies_on, ↓FL.c_spans, $ls,*] $[$l]?)
local macro_rules | `(tactic| simp $c:optConfig $[$d:discharger]? only [gv] $[$l:location]?) => `(tactic| simp $c $[$d]? only [↓ML.q_mSeq, ↓ML.q_mC, ↓ML.q_mOp, ↓ML.q_mUn, ↓ML.q_mTst, ↓ML.q_mNot, ↓ML.q_mNotV, ↓ML.q_mRet, ↓ML.q_mRetN, ↓ML.q_mExpr, ↓ML.q_mNext, ↓ML.q_mBreak, ↓ML.q_mCont, ↓ML.q_mAsg, ↓ML.q_gSb, ↓ML.q_mTup, ↓ML.q_mLst, ↓ML.q_mLstF, ↓ML.q_mCons, ↓ML.q_mNil, ↓ML.q_mBlt, ↓ML.q_rEqM, ↓ML.q_rNeM, ↓ML.q_iR1, ↓ML.q_iR2, ↓ML.q_iEn, ↓ML.q_iZp, ↓ML.q_mMt, ↓ML.q_mMt0, ↓ML.q_mYes, ↓ML.q_mCut, ↓ML.q_oNo, ↓ML.q_oSo, ↓ML.l_mCall, ↓ML.l_mAnd, ↓ML.l_mOr, ↓ML.l_mAndV, ↓ML.l_mOrV, ↓ML.l_mIf, ↓ML.l_mIfS, ↓ML.l_mChain, ↓ML.l_mVar, ↓ML.l_mFor, ↓ML.l_mWhile, ↓ML.l_mComp, ↓ML.l_mCompF, ↓ML.l_optP, ↓ML.l_Go, ↓ML.Hold_v, ↓ML.l_mSet, ↓ML.l_gNm, ↓ML.l_mPar, ↓ML.l_rIxM, ↓ML.l_rSetM, ↓ML.l_rInt, ↓ML.l_rInt0, ↓ML.l_rAdd_int, ↓ML.l_rAdd_str, ↓ML.l_rAdd_tup, ↓ML.l_rNeg, ↓ML.l_rIsN, ↓ML.l_rNotN, ↓ML.l_rIsBM, ↓ML.l_mTru, ↓ML.l_bLen, ↓ML.l_bAbs, ↓ML.l_bMax2, ↓ML.l_bMin2, ↓ML.l_bInt_i, ↓ML.l_bInt_b, ↓ML.l_bTuple, ↓ML.l_bListF, ↓ML.l_bList, ↓ML.l_mIsi, ↓ML.l_iL, ↓ML.l_iT, ↓ML.l_gTp, ↓ML.l_gLs, ↓ML.l_gCn, ↓ML.l_gNl, ↓ML.l_mtAppend, ML.Hold_v, ML.l_mVar_z, ML.l_mVar_s, ML.OptP_some, ML.Go_eq, ML.IteP_true, ML.IteP_false, ML.lstOf_ref', ML.lstOf_lst, ML.lstOf_scr, ML.lstOf_tup, ML.ownOf_ref', ML.ownOf_lst, ML.seqOf_tup', ML.seqOf_lst', ML.seqOf_scr', ML.seqOf_ref', ML.olP_lst, ML.tupOf_tup, ML.ixL_lit, ML.ixL_cast, ML.ixL_m1, ML.setAt_lit, ML.setAt_cast, ML.truD_bl, ML.truD_int, ML.truD_tup, ML.truD_lst, ML.truD_scr, ML.truD_non, ML.lenD_tup, ML.lenD_lst, ML.lenD_scr, ML.lenD_ref, ML.tyD_non, ML.tyD_bl, ML.tyD_int, ML.tyD_str, ML.tyD_tup, ML.tyD_lst, ML.szl, ML.szlt, ML.cpow_lit, ML.mulok_rl, ML.mulok_ll, ML.divok_l, ML.put_same, ML.put_put, ML.q_wipeM, ML.deq_int, ML.deq_bl, ML.deq_str, ML.deq_non, ML.eqOk_int, ML.eqOk_bl, ML.isTy_NoneType_int, ML.isTy_NoneType_bool, ML.isTy_NoneType_tuple, ML.isTy_NoneType_list, ML.isTy_NoneType_str, ML.isTy_bool_int, ML.isTy_bool_bool, ML.isTy_bool_tuple, ML.isTy_bool_list, ML.isTy_bool_str, ML.isTy_int_int, ML.isTy_int_bool, ML.isTy_int_tuple, ML.isTy_int_list, ML.isTy_int_str, ML.isTy_str_int, ML.isTy_str_bool, ML.isTy_str_tuple, ML.isTy_str_list, ML.isTy_str_str, ML.isTy_tuple_int, ML.isTy_tuple_bool, ML.isTy_tuple_tuple, ML.isTy_tuple_list, ML.isTy_tuple_str, ML.isTy_list_int, ML.isTy_list_bool, ML.isTy_list_tuple, ML.isTy_list_list, ML.isTy_list_str, ML.isTy_dict_int, ML.isTy_dict_bool, ML.isTy_dict_tuple, ML.isTy_dict_list, ML.isTy_dict_str, FL.tup_fr, FL.tup_sp, FL.tup_wl, FL.tupOf_fr, FL.tupOf_sp, FL.tupOf_wl, FL.nz0, FL.nz1, FL.nz2, FL.nz3, FL.look_non, FL.look_int, FL.look_bl, FL.look_str, FL.look_tup, FL.look_lst, FL.look_scr, FL.seqOf_fr, FL.seqOf_sp, FL.seqOf_wl, FL.look_fr, FL.look_sp, FL.look_wl, FL.eqOk_fr, FL.eqOk_sp, FL.eqOk_wl, FL.deq_fr, FL.deq_sp, FL.deq_wl, FL.tyD_fr, FL.tyD_sp, FL.tyD_wl, FL.isN_fr, FL.isN_sp, FL.isN_wl, FL.lenD_sp, FL.lenD_wl, FL.rAdd_wl_tup, List.length_map, List.map_cons, List.map_nil, List.replicate, List.set_cons_zero, List.set_cons_succ, List.getElem?_cons_zero, List.getElem?_cons_succ, List.cons_append, List.nil_append, List.length_cons, List.length_nil, Option.bind_some, Option.map_some, ↓reduceIte, Nat.reduceAdd, Nat.reduceSub, Nat.reduceLT, Nat.reduceLeDiff, Nat.zero_add, decide_eq_true_eq, Bool.not_eq_true, ne_eq, reduceCtorEq, not_false_eq_true, true_and, and_true, Bool.false_eq_true, Bool.not_true, Bool.not_false, decide_true, decide_false, not_true_eq_false, eq_self, Bool.not_eq_eq_eq_not, if_true, if_false, decide_eq_false_iff_not, ML.ncast, Int.reduceToNat, Int.reducePow, Int.reduceAdd, Int.reduceSub, Int.reduceMul, Int.reduceNeg, Int.reduceLT, Int.reduceLE, Int.reduceEq, Nat.reduceEqDiff, Int.zero_add, gt_iff_lt, beq_self_eq_true, Bool.true_beq, Bool.false_beq, Bool.and_true, Bool.and_false, Bool.true_and, Bool.false_and, ↓ML.l_mtInsert, ↓ML.l_mtReverse, ↓ML.l_mtClear, ↓ML.l_bSortU, ↓ML.q_mMt0, ↓ML.l_bMaxL, ↓ML.l_bMinL, ↓ML.l_aLt_int, ↓ML.l_aLt_u, ↓ML.l_aGt_int, ↓ML.l_aGt_u, ↓ML.l_aLe_int, ↓ML.l_aLe_u, ↓ML.l_aGe_int, ↓ML.l_aGe_u, ↓ML.l_bMaxA_int, ↓ML.l_bMaxA_u, ↓ML.l_bMinA_int, ↓ML.l_bMinA_u, ML.tup_u, ML.tupOf_u, ML.seqOf_u, ML.sqI_u, ML.look_u, ML.isN_u, ML.lenD_u, ML.tyD_u, ML.tup_uw, ML.tupOf_uw, ML.seqOf_uw, ML.sqI_uw, ML.look_uw, ML.isN_uw, ML.lenD_uw, ML.tyD_uw, ML.eqOk_u, ML.eqOk_uw, ML.deq_u, ML.deq_uw, ML.in_uw, ↓ML.l_mRaise, ↓ML.l_mTry, ↓ML.l_mIsE, ↓ML.l_mIsV, ↓ML.l_mtCount, ↓ML.l_rAddS_rl, ↓ML.l_rAddS_ll, ML.excD_ref, ML.excOf_exc, ML.blsOf_nil, ML.blsOf_cons, ML.endM_nx, ML.endM_rt, ↓ML.l_mYes, ↓ML.l_iS, ↓ML.l_mIfJ, ↓ML.l_mJ, ↓ML.CrollP_nil, ↓ML.CrollP_cons, ↓ML.CrA_at, ↓ML.FrollP_nil, ↓ML.FrollP_cons, ML.isN_non, ML.isN_int, ML.isN_bl, ML.isN_str, ML.isN_tup, ML.isN_lst, ML.isN_ref, ML.sqI_tup, ML.sqI_lst, ML.sqI_scr, ML.sqI_ref, ML.sqI_at, ML.rngD_0, ML.rngD_1, ML.rngD_2, ML.rngD_3, ML.rngD_4, ML.rngD_6, ML.q_wipeM_nil, ML.q_wipeM_cons, FL.sqI_sp, FL.sqI_wl, FL.l_rAdd_rl, FL.l_rAdd_ll, FL.l_rAdd_lr, FL.l_rAdd_rr, FL.in_ints] $[$l]?)
local macro_rules | `(tactic| simp $c:optConfig $[$d:discharger]? only [gv, $ls,*] $[$l:location]?) => `(tactic| simp $c $[$d]? only [↓ML.q_mSeq, ↓ML.q_mC, ↓ML.q_mOp, ↓ML.q_mUn, ↓ML.q_mTst, ↓ML.q_mNot, ↓ML.q_mNotV, ↓ML.q_mRet, ↓ML.q_mRetN, ↓ML.q_mExpr, ↓ML.q_mNext, ↓ML.q_mBreak, ↓ML.q_mCont, ↓ML.q_mAsg, ↓ML.q_gSb, ↓ML.q_mTup, ↓ML.q_mLst, ↓ML.q_mLstF, ↓ML.q_mCons, ↓ML.q_mNil, ↓ML.q_mBlt, ↓ML.q_rEqM, ↓ML.q_rNeM, ↓ML.q_iR1, ↓ML.q_iR2, ↓ML.q_iEn, ↓ML.q_iZp, ↓ML.q_mMt, ↓ML.q_mMt0, ↓ML.q_mYes, ↓ML.q_mCut, ↓ML.q_oNo, ↓ML.q_oSo, ↓ML.l_mCall, ↓ML.l_mAnd, ↓ML.l_mOr, ↓ML.l_mAndV, ↓ML.l_mOrV, ↓ML.l_mIf, ↓ML.l_mIfS, ↓ML.l_mChain, ↓ML.l_mVar, ↓ML.l_mFor, ↓ML.l_mWhile, ↓ML.l_mComp, ↓ML.l_mCompF, ↓ML.l_optP, ↓ML.l_Go, ↓ML.Hold_v, ↓ML.l_mSet, ↓ML.l_gNm, ↓ML.l_mPar, ↓ML.l_rIxM, ↓ML.l_rSetM, ↓ML.l_rInt, ↓ML.l_rInt0, ↓ML.l_rAdd_int, ↓ML.l_rAdd_str, ↓ML.l_rAdd_tup, ↓ML.l_rNeg, ↓ML.l_rIsN, ↓ML.l_rNotN, ↓ML.l_rIsBM, ↓ML.l_mTru, ↓ML.l_bLen, ↓ML.l_bAbs, ↓ML.l_bMax2, ↓ML.l_bMin2, ↓ML.l_bInt_i, ↓ML.l_bInt_b, ↓ML.l_bTuple, ↓ML.l_bListF, ↓ML.l_bList, ↓ML.l_mIsi, ↓ML.l_iL, ↓ML.l_iT, ↓ML.l_gTp, ↓ML.l_gLs, ↓ML.l_gCn, ↓ML.l_gNl, ↓ML.l_mtAppend, ML.Hold_v, ML.l_mVar_z, ML.l_mVar_s, ML.OptP_some, ML.Go_eq, ML.IteP_true, ML.IteP_false, ML.lstOf_ref', ML.lstOf_lst, ML.lstOf_scr, ML.lstOf_tup, ML.ownOf_ref', ML.ownOf_lst, ML.seqOf_tup', ML.seqOf_lst', ML.seqOf_scr', ML.seqOf_ref', ML.olP_lst, ML.tupOf_tup, ML.ixL_lit, ML.ixL_cast, ML.ixL_m1, ML.setAt_lit, ML.setAt_cast, ML.truD_bl, ML.truD_int, ML.truD_tup, ML.truD_lst, ML.truD_scr, ML.truD_non, ML.lenD_tup, ML.lenD_lst, ML.lenD_scr, ML.lenD_ref, ML.tyD_non, ML.tyD_bl, ML.tyD_int, ML.tyD_str, ML.tyD_tup, ML.tyD_lst, ML.szl, ML.szlt, ML.cpow_lit, ML.mulok_rl, ML.mulok_ll, ML.divok_l, ML.put_same, ML.put_put, ML.q_wipeM, ML.deq_int, ML.deq_bl, ML.deq_str, ML.deq_non, ML.eqOk_int, ML.eqOk_bl, ML.isTy_NoneType_int, ML.isTy_NoneType_bool, ML.isTy_NoneType_tuple, ML.isTy_NoneType_list, ML.isTy_NoneType_str, ML.isTy_bool_int, ML.isTy_bool_bool, ML.isTy_bool_tuple, ML.isTy_bool_list, ML.isTy_bool_str, ML.isTy_int_int, ML.isTy_int_bool, ML.isTy_int_tuple, ML.isTy_int_list, ML.isTy_int_str, ML.isTy_str_int, ML.isTy_str_bool, ML.isTy_str_tuple, ML.isTy_str_list, ML.isTy_str_str, ML.isTy_tuple_int, ML.isTy_tuple_bool, ML.isTy_tuple_tuple, ML.isTy_tuple_list, ML.isTy_tuple_str, ML.isTy_list_int, ML.isTy_list_bool, ML.isTy_list_tuple, ML.isTy_list_list, ML.isTy_list_str, ML.isTy_dict_int, ML.isTy_dict_bool, ML.isTy_dict_tuple, ML.isTy_dict_list, ML.isTy_dict_str, FL.tup_fr, FL.tup_sp, FL.tup_wl, FL.tupOf_fr, FL.tupOf_sp, FL.tupOf_wl, FL.nz0, FL.nz1, FL.nz2, FL.nz3, FL.look_non, FL.look_int, FL.look_bl, FL.look_str, FL.look_tup, FL.look_lst, FL.look_scr, FL.seqOf_fr, FL.seqOf_sp, FL.seqOf_wl, FL.look_fr, FL.look_sp, FL.look_wl, FL.eqOk_fr, FL.eqOk_sp, FL.eqOk_wl, FL.deq_fr, FL.deq_sp, FL.deq_wl, FL.tyD_fr, FL.tyD_sp, FL.tyD_wl, FL.isN_fr, FL.isN_sp, FL.isN_wl, FL.lenD_sp, FL.lenD_wl, FL.rAdd_wl_tup, List.length_map, List.map_cons, List.map_nil, List.replicate, List.set_cons_zero, List.set_cons_succ, List.getElem?_cons_zero, List.getElem?_cons_succ, List.cons_append, List.nil_append, List.length_cons, List.length_nil, Option.bind_some, Option.map_some, ↓reduceIte, Nat.reduceAdd, Nat.reduceSub, Nat.reduceLT, Nat.reduceLeDiff, Nat.zero_add, decide_eq_true_eq, Bool.not_eq_true, ne_eq, reduceCtorEq, not_false_eq_true, true_and, and_true, Bool.false_eq_true, Bool.not_true, Bool.not_false, decide_true, decide_false, not_true_eq_false, eq_self, Bool.not_eq_eq_eq_not, if_true, if_false, decide_eq_false_iff_not, ML.ncast, Int.reduceToNat, Int.reducePow, Int.reduceAdd, Int.reduceSub, Int.reduceMul, Int.reduceNeg, Int.reduceLT, Int.reduceLE, Int.reduceEq, Nat.reduceEqDiff, Int.zero_add, gt_iff_lt, beq_self_eq_true, Bool.true_beq, Bool.false_beq, Bool.and_true, Bool.and_false, Bool.true_and, Bool.false_and, ↓ML.l_mtInsert, ↓ML.l_mtReverse, ↓ML.l_mtClear, ↓ML.l_bSortU, ↓ML.q_mMt0, ↓ML.l_bMaxL, ↓ML.l_bMinL, ↓ML.l_aLt_int, ↓ML.l_aLt_u, ↓ML.l_aGt_int, ↓ML.l_aGt_u, ↓ML.l_aLe_int, ↓ML.l_aLe_u, ↓ML.l_aGe_int, ↓ML.l_aGe_u, ↓ML.l_bMaxA_int, ↓ML.l_bMaxA_u, ↓ML.l_bMinA_int, ↓ML.l_bMinA_u, ML.tup_u, ML.tupOf_u, ML.seqOf_u, ML.sqI_u, ML.look_u, ML.isN_u, ML.lenD_u, ML.tyD_u, ML.tup_uw, ML.tupOf_uw, ML.seqOf_uw, ML.sqI_uw, ML.look_uw, ML.isN_uw, ML.lenD_uw, ML.tyD_uw, ML.eqOk_u, ML.eqOk_uw, ML.deq_u, ML.deq_uw, ML.in_uw, ↓ML.l_mRaise, ↓ML.l_mTry, ↓ML.l_mIsE, ↓ML.l_mIsV, ↓ML.l_mtCount, ↓ML.l_rAddS_rl, ↓ML.l_rAddS_ll, ML.excD_ref, ML.excOf_exc, ML.blsOf_nil, ML.blsOf_cons, ML.endM_nx, ML.endM_rt, ↓ML.l_mYes, ↓ML.l_iS, ↓ML.l_mIfJ, ↓ML.l_mJ, ↓ML.CrollP_nil, ↓ML.CrollP_cons, ↓ML.CrA_at, ↓ML.FrollP_nil, ↓ML.FrollP_cons, ML.isN_non, ML.isN_int, ML.isN_bl, ML.isN_str, ML.isN_tup, ML.isN_lst, ML.isN_ref, ML.sqI_tup, ML.sqI_lst, ML.sqI_scr, ML.sqI_ref, ML.sqI_at, ML.rngD_0, ML.rngD_1, ML.rngD_2, ML.rngD_3, ML.rngD_4, ML.rngD_6, ML.q_wipeM_nil, ML.q_wipeM_cons, FL.sqI_sp, FL.sqI_wl, FL.l_rAdd_rl, FL.l_rAdd_ll, FL.l_rAdd_lr, FL.l_rAdd_rr, FL.in_ints, $ls,*] $[$l]?)
local macro_rules | `(tactic| simp $c:optConfig $[$d:discharger]? only [gg] $[$l:location]?) => `(tactic| simp $c $[$d]? only [↓ML.q_mSeq, ↓ML.q_mC, ↓ML.q_mOp, ↓ML.q_mUn, ↓ML.q_mTst, ↓ML.q_mNot, ↓ML.q_mNotV, ↓ML.q_mRet, ↓ML.q_mRetN, ↓ML.q_mExpr, ↓ML.q_mNext, ↓ML.q_mBreak, ↓ML.q_mCont, ↓ML.q_mAsg, ↓ML.q_gSb, ↓ML.q_mTup, ↓ML.q_mLst, ↓ML.q_mLstF, ↓ML.q_mCons, ↓ML.q_mNil, ↓ML.q_mBlt, ↓ML.q_rEqM, ↓ML.q_rNeM, ↓ML.q_iR1, ↓ML.q_iR2, ↓ML.q_iEn, ↓ML.q_iZp, ↓ML.q_mMt, ↓ML.q_mMt0, ↓ML.q_mYes, ↓ML.q_mCut, ↓ML.q_oNo, ↓ML.q_oSo, ↓ML.l_mCall, ↓ML.l_mAnd, ↓ML.l_mOr, ↓ML.l_mAndV, ↓ML.l_mOrV, ↓ML.l_mIf, ↓ML.l_mIfS, ↓ML.l_mChain, ↓ML.l_mVar, ↓ML.l_mFor, ↓ML.l_mWhile, ↓ML.l_mComp, ↓ML.l_mCompF, ↓ML.l_optP, ↓ML.l_Go, ↓ML.Hold_v, ↓ML.l_mSet, ↓ML.l_gNm, ↓ML.l_mPar, ↓ML.l_rIxM, ↓ML.l_rSetM, ↓ML.l_rInt, ↓ML.l_rInt0, ↓ML.l_rAdd_int, ↓ML.l_rAdd_str, ↓ML.l_rAdd_tup, ↓ML.l_rNeg, ↓ML.l_rIsN, ↓ML.l_rNotN, ↓ML.l_rIsBM, ↓ML.l_mTru, ↓ML.l_bLen, ↓ML.l_bAbs, ↓ML.l_bMax2, ↓ML.l_bMin2, ↓ML.l_bInt_i, ↓ML.l_bInt_b, ↓ML.l_bTuple, ↓ML.l_bListF, ↓ML.l_bList, ↓ML.l_mIsi, ↓ML.l_iL, ↓ML.l_iT, ↓ML.l_gTp, ↓ML.l_gLs, ↓ML.l_gCn, ↓ML.l_gNl, ↓ML.l_mtAppend, ML.Hold_v, ML.l_mVar_z, ML.l_mVar_s, ML.OptP_some, ML.Go_eq, ML.IteP_true, ML.IteP_false, ML.lstOf_ref', ML.lstOf_lst, ML.lstOf_scr, ML.lstOf_tup, ML.ownOf_ref', ML.ownOf_lst, ML.seqOf_tup', ML.seqOf_lst', ML.seqOf_scr', ML.seqOf_ref', ML.olP_lst, ML.tupOf_tup, ML.ixL_lit, ML.ixL_cast, ML.ixL_m1, ML.setAt_lit, ML.setAt_cast, ML.truD_bl, ML.truD_int, ML.truD_tup, ML.truD_lst, ML.truD_scr, ML.truD_non, ML.lenD_tup, ML.lenD_lst, ML.lenD_scr, ML.lenD_ref, ML.tyD_non, ML.tyD_bl, ML.tyD_int, ML.tyD_str, ML.tyD_tup, ML.tyD_lst, ML.szl, ML.szlt, ML.cpow_lit, ML.mulok_rl, ML.mulok_ll, ML.divok_l, ML.put_same, ML.put_put, ML.q_wipeM, ML.deq_int, ML.deq_bl, ML.deq_str, ML.deq_non, ML.eqOk_int, ML.eqOk_bl, ML.isTy_NoneType_int, ML.isTy_NoneType_bool, ML.isTy_NoneType_tuple, ML.isTy_NoneType_list, ML.isTy_NoneType_str, ML.isTy_bool_int, ML.isTy_bool_bool, ML.isTy_bool_tuple, ML.isTy_bool_list, ML.isTy_bool_str, ML.isTy_int_int, ML.isTy_int_bool, ML.isTy_int_tuple, ML.isTy_int_list, ML.isTy_int_str, ML.isTy_str_int, ML.isTy_str_bool, ML.isTy_str_tuple, ML.isTy_str_list, ML.isTy_str_str, ML.isTy_tuple_int, ML.isTy_tuple_bool, ML.isTy_tuple_tuple, ML.isTy_tuple_list, ML.isTy_tuple_str, ML.isTy_list_int, ML.isTy_list_bool, ML.isTy_list_tuple, ML.isTy_list_list, ML.isTy_list_str, ML.isTy_dict_int, ML.isTy_dict_bool, ML.isTy_dict_tuple, ML.isTy_dict_list, ML.isTy_dict_str, FL.tup_fr, FL.tup_sp, FL.tup_wl, FL.tupOf_fr, FL.tupOf_sp, FL.tupOf_wl, FL.nz0, FL.nz1, FL.nz2, FL.nz3, FL.look_non, FL.look_int, FL.look_bl, FL.look_str, FL.look_tup, FL.look_lst, FL.look_scr, FL.seqOf_fr, FL.seqOf_sp, FL.seqOf_wl, FL.look_fr, FL.look_sp, FL.look_wl, FL.eqOk_fr, FL.eqOk_sp, FL.eqOk_wl, FL.deq_fr, FL.deq_sp, FL.deq_wl, FL.tyD_fr, FL.tyD_sp, FL.tyD_wl, FL.isN_fr, FL.isN_sp, FL.isN_wl, FL.lenD_sp, FL.lenD_wl, FL.rAdd_wl_tup, List.length_map, List.map_cons, List.map_nil, List.replicate, List.set_cons_zero, List.set_cons_succ, List.getElem?_cons_zero, List.getElem?_cons_succ, List.cons_append, List.nil_append, List.length_cons, List.length_nil, Option.bind_some, Option.map_some, ↓reduceIte, Nat.reduceAdd, Nat.reduceSub, Nat.reduceLT, Nat.reduceLeDiff, Nat.zero_add, decide_eq_true_eq, Bool.not_eq_true, ne_eq, reduceCtorEq, not_false_eq_true, true_and, and_true, Bool.false_eq_true, Bool.not_true, Bool.not_false, decide_true, decide_false, not_true_eq_false, eq_self, Bool.not_eq_eq_eq_not, if_true, if_false, decide_eq_false_iff_not, ML.ncast, Int.reduceToNat, Int.reducePow, Int.reduceAdd, Int.reduceSub, Int.reduceMul, Int.reduceNeg, Int.reduceLT, Int.reduceLE, Int.reduceEq, Nat.reduceEqDiff, Int.zero_add, gt_iff_lt, beq_self_eq_true, Bool.true_beq, Bool.false_beq, Bool.and_true, Bool.and_false, Bool.true_and, Bool.false_and, ↓ML.l_mtInsert, ↓ML.l_mtReverse, ↓ML.l_mtClear, ↓ML.l_bSortU, ↓ML.q_mMt0, ↓ML.l_bMaxL, ↓ML.l_bMinL, ↓ML.l_aLt_int, ↓ML.l_aLt_u, ↓ML.l_aGt_int, ↓ML.l_aGt_u, ↓ML.l_aLe_int, ↓ML.l_aLe_u, ↓ML.l_aGe_int, ↓ML.l_aGe_u, ↓ML.l_bMaxA_int, ↓ML.l_bMaxA_u, ↓ML.l_bMinA_int, ↓ML.l_bMinA_u, ML.tup_u, ML.tupOf_u, ML.seqOf_u, ML.sqI_u, ML.look_u, ML.isN_u, ML.lenD_u, ML.tyD_u, ML.tup_uw, ML.tupOf_uw, ML.seqOf_uw, ML.sqI_uw, ML.look_uw, ML.isN_uw, ML.lenD_uw, ML.tyD_uw, ML.eqOk_u, ML.eqOk_uw, ML.deq_u, ML.deq_uw, ML.in_uw, ↓ML.l_mRaise, ↓ML.l_mTry, ↓ML.l_mIsE, ↓ML.l_mIsV, ↓ML.l_mtCount, ↓ML.l_rAddS_rl, ↓ML.l_rAddS_ll, ML.excD_ref, ML.excOf_exc, ML.blsOf_nil, ML.blsOf_cons, ML.endM_nx, ML.endM_rt, ↓ML.l_mYes, ↓ML.l_iS, ↓ML.l_mIfJ, ↓ML.l_mJ, ↓ML.CrollP_nil, ↓ML.CrollP_cons, ↓ML.CrA_at, ↓ML.FrollP_nil, ↓ML.FrollP_cons, ML.isN_non, ML.isN_int, ML.isN_bl, ML.isN_str, ML.isN_tup, ML.isN_lst, ML.isN_ref, ML.sqI_tup, ML.sqI_lst, ML.sqI_scr, ML.sqI_ref, ML.sqI_at, ML.rngD_0, ML.rngD_1, ML.rngD_2, ML.rngD_3, ML.rngD_4, ML.rngD_6, ML.q_wipeM_nil, ML.q_wipeM_cons, FL.sqI_sp, FL.sqI_wl] $[$l]?)
local macro_rules | `(tactic| simp $c:optConfig $[$d:discharger]? only [gg, $ls,*] $[$l:location]?) => `(tactic| simp $c $[$d]? only [↓ML.q_mSeq, ↓ML.q_mC, ↓ML.q_mOp, ↓ML.q_mUn, ↓ML.q_mTst, ↓ML.q_mNot, ↓ML.q_mNotV, ↓ML.q_mRet, ↓ML.q_mRetN, ↓ML.q_mExpr, ↓ML.q_mNext, ↓ML.q_mBreak, ↓ML.q_mCont, ↓ML.q_mAsg, ↓ML.q_gSb, ↓ML.q_mTup, ↓ML.q_mLst, ↓ML.q_mLstF, ↓ML.q_mCons, ↓ML.q_mNil, ↓ML.q_mBlt, ↓ML.q_rEqM, ↓ML.q_rNeM, ↓ML.q_iR1, ↓ML.q_iR2, ↓ML.q_iEn, ↓ML.q_iZp, ↓ML.q_mMt, ↓ML.q_mMt0, ↓ML.q_mYes, ↓ML.q_mCut, ↓ML.q_oNo, ↓ML.q_oSo, ↓ML.l_mCall, ↓ML.l_mAnd, ↓ML.l_mOr, ↓ML.l_mAndV, ↓ML.l_mOrV, ↓ML.l_mIf, ↓ML.l_mIfS, ↓ML.l_mChain, ↓ML.l_mVar, ↓ML.l_mFor, ↓ML.l_mWhile, ↓ML.l_mComp, ↓ML.l_mCompF, ↓ML.l_optP, ↓ML.l_Go, ↓ML.Hold_v, ↓ML.l_mSet, ↓ML.l_gNm, ↓ML.l_mPar, ↓ML.l_rIxM, ↓ML.l_rSetM, ↓ML.l_rInt, ↓ML.l_rInt0, ↓ML.l_rAdd_int, ↓ML.l_rAdd_str, ↓ML.l_rAdd_tup, ↓ML.l_rNeg, ↓ML.l_rIsN, ↓ML.l_rNotN, ↓ML.l_rIsBM, ↓ML.l_mTru, ↓ML.l_bLen, ↓ML.l_bAbs, ↓ML.l_bMax2, ↓ML.l_bMin2, ↓ML.l_bInt_i, ↓ML.l_bInt_b, ↓ML.l_bTuple, ↓ML.l_bListF, ↓ML.l_bList, ↓ML.l_mIsi, ↓ML.l_iL, ↓ML.l_iT, ↓ML.l_gTp, ↓ML.l_gLs, ↓ML.l_gCn, ↓ML.l_gNl, ↓ML.l_mtAppend, ML.Hold_v, ML.l_mVar_z, ML.l_mVar_s, ML.OptP_some, ML.Go_eq, ML.IteP_true, ML.IteP_false, ML.lstOf_ref', ML.lstOf_lst, ML.lstOf_scr, ML.lstOf_tup, ML.ownOf_ref', ML.ownOf_lst, ML.seqOf_tup', ML.seqOf_lst', ML.seqOf_scr', ML.seqOf_ref', ML.olP_lst, ML.tupOf_tup, ML.ixL_lit, ML.ixL_cast, ML.ixL_m1, ML.setAt_lit, ML.setAt_cast, ML.truD_bl, ML.truD_int, ML.truD_tup, ML.truD_lst, ML.truD_scr, ML.truD_non, ML.lenD_tup, ML.lenD_lst, ML.lenD_scr, ML.lenD_ref, ML.tyD_non, ML.tyD_bl, ML.tyD_int, ML.tyD_str, ML.tyD_tup, ML.tyD_lst, ML.szl, ML.szlt, ML.cpow_lit, ML.mulok_rl, ML.mulok_ll, ML.divok_l, ML.put_same, ML.put_put, ML.q_wipeM, ML.deq_int, ML.deq_bl, ML.deq_str, ML.deq_non, ML.eqOk_int, ML.eqOk_bl, ML.isTy_NoneType_int, ML.isTy_NoneType_bool, ML.isTy_NoneType_tuple, ML.isTy_NoneType_list, ML.isTy_NoneType_str, ML.isTy_bool_int, ML.isTy_bool_bool, ML.isTy_bool_tuple, ML.isTy_bool_list, ML.isTy_bool_str, ML.isTy_int_int, ML.isTy_int_bool, ML.isTy_int_tuple, ML.isTy_int_list, ML.isTy_int_str, ML.isTy_str_int, ML.isTy_str_bool, ML.isTy_str_tuple, ML.isTy_str_list, ML.isTy_str_str, ML.isTy_tuple_int, ML.isTy_tuple_bool, ML.isTy_tuple_tuple, ML.isTy_tuple_list, ML.isTy_tuple_str, ML.isTy_list_int, ML.isTy_list_bool, ML.isTy_list_tuple, ML.isTy_list_list, ML.isTy_list_str, ML.isTy_dict_int, ML.isTy_dict_bool, ML.isTy_dict_tuple, ML.isTy_dict_list, ML.isTy_dict_str, FL.tup_fr, FL.tup_sp, FL.tup_wl, FL.tupOf_fr, FL.tupOf_sp, FL.tupOf_wl, FL.nz0, FL.nz1, FL.nz2, FL.nz3, FL.look_non, FL.look_int, FL.look_bl, FL.look_str, FL.look_tup, FL.look_lst, FL.look_scr, FL.seqOf_fr, FL.seqOf_sp, FL.seqOf_wl, FL.look_fr, FL.look_sp, FL.look_wl, FL.eqOk_fr, FL.eqOk_sp, FL.eqOk_wl, FL.deq_fr, FL.deq_sp, FL.deq_wl, FL.tyD_fr, FL.tyD_sp, FL.tyD_wl, FL.isN_fr, FL.isN_sp, FL.isN_wl, FL.lenD_sp, FL.lenD_wl, FL.rAdd_wl_tup, List.length_map, List.map_cons, List.map_nil, List.replicate, List.set_cons_zero, List.set_cons_succ, List.getElem?_cons_zero, List.getElem?_cons_succ, List.cons_append, List.nil_append, List.length_cons, List.length_nil, Option.bind_some, Option.map_some, ↓reduceIte, Nat.reduceAdd, Nat.reduceSub, Nat.reduceLT, Nat.reduceLeDiff, Nat.zero_add, decide_eq_true_eq, Bool.not_eq_true, ne_eq, reduceCtorEq, not_false_eq_true, true_and, and_true, Bool.false_eq_true, Bool.not_true, Bool.not_false, decide_true, decide_false, not_true_eq_false, eq_self, Bool.not_eq_eq_eq_not, if_true, if_false, decide_eq_false_iff_not, ML.ncast, Int.reduceToNat, Int.reducePow, Int.reduceAdd, Int.reduceSub, Int.reduceMul, Int.reduceNeg, Int.reduceLT, Int.reduceLE, Int.reduceEq, Nat.reduceEqDiff, Int.zero_add, gt_iff_lt, beq_self_eq_true, Bool.true_beq, Bool.false_beq, Bool.and_true, Bool.and_false, Bool.true_and, Bool.false_and, ↓ML.l_mtInsert, ↓ML.l_mtReverse, ↓ML.l_mtClear, ↓ML.l_bSortU, ↓ML.q_mMt0, ↓ML.l_bMaxL, ↓ML.l_bMinL, ↓ML.l_aLt_int, ↓ML.l_aLt_u, ↓ML.l_aGt_int, ↓ML.l_aGt_u, ↓ML.l_aLe_int, ↓ML.l_aLe_u, ↓ML.l_aGe_int, ↓ML.l_aGe_u, ↓ML.l_bMaxA_int, ↓ML.l_bMaxA_u, ↓ML.l_bMinA_int, ↓ML.l_bMinA_u, ML.tup_u, ML.tupOf_u, ML.seqOf_u, ML.sqI_u, ML.look_u, ML.isN_u, ML.lenD_u, ML.tyD_u, ML.tup_uw, ML.tupOf_uw, ML.seqOf_uw, ML.sqI_uw, ML.look_uw, ML.isN_uw, ML.lenD_uw, ML.tyD_uw, ML.eqOk_u, ML.eqOk_uw, ML.deq_u, ML.deq_uw, ML.in_uw, ↓ML.l_mRaise, ↓ML.l_mTry, ↓ML.l_mIsE, ↓ML.l_mIsV, ↓ML.l_mtCount, ↓ML.l_rAddS_rl, ↓ML.l_rAddS_ll, ML.excD_ref, ML.excOf_exc, ML.blsOf_nil, ML.blsOf_cons, ML.endM_nx, ML.endM_rt, ↓ML.l_mYes, ↓ML.l_iS, ↓ML.l_mIfJ, ↓ML.l_mJ, ↓ML.CrollP_nil, ↓ML.CrollP_cons, ↓ML.CrA_at, ↓ML.FrollP_nil, ↓ML.FrollP_cons, ML.isN_non, ML.isN_int, ML.isN_bl, ML.isN_str, ML.isN_tup, ML.isN_lst, ML.isN_ref, ML.sqI_tup, ML.sqI_lst, ML.sqI_scr, ML.sqI_ref, ML.sqI_at, ML.rngD_0, ML.rngD_1, ML.rngD_2, ML.rngD_3, ML.rngD_4, ML.rngD_6, ML.q_wipeM_nil, ML.q_wipeM_cons, FL.sqI_sp, FL.sqI_wl, $ls,*] $[$l]?)
theorem l_both_span : ∀ ds S Q E, FL.sp_both_span ds S Q E → ds.length = 2 := by rintro _ _ _ _ ⟨_, _, _, _, rfl, _⟩; rfl
theorem l_parting_end : ∀ ds S Q E, FL.sp_parting_end ds S Q E → ds.length = 2 := by rintro _ _ _ _ ⟨_, _, _, _, rfl, _⟩; rfl
theorem l_is_above : ∀ ds S Q E, FL.sp_is_above ds S Q E → ds.length = 2 := by rintro _ _ _ _ ⟨_, _, _, _, rfl, _⟩; rfl
theorem l_law_above : ∀ ds S Q E, FL.sp_law_above ds S Q E → ds.length = 2 := by rintro _ _ _ _ ⟨_, _, rfl, _⟩; rfl
section
variable {S : Sto} {Q : Hold MQ} {E : Hold MXQ} {a b : Wl} {m n : Nat}
theorem c_both_span [h1 : BW a m] [h2 : BW b n] (h : m + n < 4000) : @CallP sp_both_span [wlD a, wlD b] S Q E = Q.v (.bl (decide (both a b))) S := by
  apply propext
  constructor
  · rintro ⟨a', b', m', n', e, _, _, _, k⟩
    simp only [List.cons.injEq, and_true] at e
    cases wlD_inj e.1; cases wlD_inj e.2; exact k
  · intro k; exact ⟨a, b, m, n, rfl, h1, h2, h, k⟩
theorem c_parting_end [h1 : BW a m] [h2 : BW b n] (h : m + n < 4000) : @CallP sp_parting_end [wlD a, wlD b] S Q E = Q.v (peD (pend a b)) S := by
  apply propext
  constructor
  · rintro ⟨a', b', m', n', e, _, _, _, k⟩
    simp only [List.cons.injEq, and_true] at e
    cases wlD_inj e.1; cases wlD_inj e.2; exact k
  · intro k; exact ⟨a, b, m, n, rfl, h1, h2, h, k⟩
theorem c_is_above [h1 : BW a m] [h2 : BW b n] (h : m + n < 450) : @CallP sp_is_above [wlD a, wlD b] S Q E = Q.v (.bl (decide (aboveW a b))) S := by
  apply propext
  constructor
  · rintro ⟨a', b', m', n', e, _, _, _, k⟩
    simp only [List.cons.injEq, and_true] at e
    cases wlD_inj e.1; cases wlD_inj e.2; exact k
  · intro k; exact ⟨a, b, m, n, rfl, h1, h2, h, k⟩
end
theorem r_both_span : ∀ ds S Q E, FL.sp_both_span ds S Q E → b_both_span (mends Q E) (mstart 0 ds) S := by
  rintro _ S Q E ⟨a, b, m, n, rfl, h1, h2, h, k⟩
  unfold b_both_span
  simp only [ML.q_mstart, ML.q_mends, List.map_cons, List.map_nil, List.replicate, List.cons_append, List.nil_append]
  simp (disch := (first | assumption | omega)) only [gw]
  have fin : ∀ c : Bool, c = decide (both a b) → Q (.bl c) S := by rintro _ rfl; exact k
  refine ⟨fun h1 => ?_, fun h1 => ?_⟩
  · simp (disch := (first | assumption | omega)) only [gw]
    exact fin _ (by simp [both, h1])
  · simp (disch := (first | assumption | omega)) only [gw]
    exact fin _ (by simp [both, h1])
theorem r_parting_end : ∀ ds S Q E, FL.sp_parting_end ds S Q E → b_parting_end (mends Q E) (mstart 0 ds) S := by
  rintro _ S Q E ⟨a, b, m, n, rfl, h1, h2, h, k⟩
  unfold b_parting_end
  simp only [ML.q_mstart, ML.q_mends, List.map_cons, List.map_nil, List.replicate, List.cons_append, List.nil_append]
  have fin : ∀ c, c = pend a b → Q (peD c) S := by rintro _ rfl; exact k
  simp (disch := (first | assumption | omega)) only [gw]
  refine ⟨fun z => ?_, fun z => ?_⟩
  · simp (disch := (first | assumption | omega)) only [gw]
    refine ⟨fun y => ?_, fun y => ?_⟩
    · simp (disch := (first | assumption | omega)) only [gw]
      exact fin (b.1, false) (by simp only [pend, if_pos y]; rw [if_pos (show a.1 ≠ b.1 from z)])
    · simp (disch := (first | assumption | omega)) only [gw]
      exact fin (a.1, true) (by simp only [pend, if_neg y]; rw [if_pos (show a.1 ≠ b.1 from z)])
  · simp (disch := (first | assumption | omega)) only [gw]
    have z' : ¬ (a.1 ≠ b.1) := z
    refine ⟨fun y => ?_, fun y => ?_⟩
    · simp (disch := (first | assumption | omega)) only [gw]
      exact fin (a.2, true) (by simp only [pend, if_pos y]; rw [if_neg z'])
    · simp (disch := (first | assumption | omega)) only [gw]
      exact fin (b.2, false) (by simp only [pend, if_neg y]; rw [if_neg z'])
theorem r_is_above : ∀ ds S Q E, FL.sp_is_above ds S Q E → b_is_above (mends Q E) (mstart 2 ds) S := by
  rintro _ S Q E ⟨a, b, m, n, rfl, h1, h2, h, k⟩
  unfold b_is_above
  simp only [ML.q_mstart, ML.q_mends, List.map_cons, List.map_nil, List.replicate, List.cons_append, List.nil_append]
  have fin : ∀ c, c = decide (aboveW a b) → Q (.bl c) S := by rintro _ rfl; exact k
  simp (disch := omega) only [gg, c_both_span]
  refine ⟨fun hb => ?_, fun hb => ?_⟩
  · simp only [gg]
    exact fin _ (by simp [aboveW, hb])
  · simp only [Decidable.not_not] at hb
    simp only [gg]
    simp (disch := omega) only [gg, c_parting_end, peD]
    have zp : BP (pend a b).1 (m + n) := by
      unfold pend
      split <;> split <;> exact BP.mono (by omega)
    refine ⟨fun ho => ?_, fun ho => ?_⟩
    · simp (disch := (first | assumption | omega)) only [gw]
      exact fin _ (by simp [aboveW, hb, ho])
    · simp (disch := (first | assumption | omega)) only [gw]
      refine fin _ ?_
      simp only [Bool.not_eq_true] at ho
      simp [aboveW, hb, ho]
theorem above_law {a b : Wl} (ha : Up a) (hb : Up b) (f : a = b ∨ FairW a b) : aboveW a b ↔ both a b ∧ ((¬ ahead a.1 b.1 ∧ ¬ ahead b.2 a.1 ∧ side b a.1 = 1) ∨ (¬ ahead a.2 b.1 ∧ ¬ ahead b.2 a.2 ∧ side b a.2 = 1) ∨
    (¬ ahead b.1 a.1 ∧ ¬ ahead a.2 b.1 ∧ side a b.1 = -1) ∨ (¬ ahead b.2 a.1 ∧ ¬ ahead a.2 b.2 ∧ side a b.2 = -1)) := by
  rw [above_val]
  simp only [side_cx, sgn_one, sgn_m1]
  rcases f with rfl | f
  · have l0 : lval a a = 0 := by unfold lval; rw [if_pos rfl]
    have r0 : rval a a = 0 := by unfold rval; rw [if_pos rfl]
    rw [l0, r0, cx_f, cx_s]
    have z1 : ¬ ((0 : Rat) < 0) := by decide
    simp only [z1, and_false, or_false]
  constructor
  · rintro ⟨o, h⟩
    refine ⟨o, ?_⟩
    rcases h with h | ⟨e, h⟩
    · unfold lval at h
      split at h
      · exact absurd h (by decide)
      · split at h
        · next z => exact .inr (.inr (.inl ⟨ahead_asymm z, ahead_asymm o.2, by grind⟩))
        · next z => exact .inl ⟨z, ahead_asymm o.1, h⟩
    · unfold rval at h
      split at h
      · exact absurd h (by decide)
      · split at h
        · next z => exact .inr (.inl ⟨ahead_asymm o.2, ahead_asymm z, h⟩)
        · next z => exact .inr (.inr (.inr ⟨ahead_asymm o.1, z, by grind⟩))
  · rintro ⟨o, h⟩
    refine ⟨o, ?_⟩
    have n2 := lr_neg ha hb f o
    have fin : 0 < rval a b → 0 < lval a b ∨ a.1 = b.1 ∧ 0 < rval a b := by
      intro hr
      by_cases e : a.1 = b.1
      · exact .inr ⟨e, hr⟩
      · have := lval_ne ha hb f o e
        left
        by_cases z : 0 < lval a b
        · exact z
        · exact absurd ⟨by grind, hr⟩ n2
    rcases h with ⟨z1, z2, h⟩ | ⟨z1, z2, h⟩ | ⟨z1, z2, h⟩ | ⟨z1, z2, h⟩
    · left
      have e : a.1 ≠ b.1 := fun e => by rw [e, cx_f] at h; exact absurd h (by decide)
      unfold lval; rw [if_neg e, if_neg z1]; exact h
    · apply fin
      have e : a.2 ≠ b.2 := fun e => by rw [e, cx_s] at h; exact absurd h (by decide)
      have z : ahead a.2 b.2 := by
        rcases ahead_tri a.2 b.2 with y | y | y
        · exact y
        · exact absurd y e
        · exact absurd y z2
      unfold rval; rw [if_neg e, if_pos z]; exact h
    · left
      have e : a.1 ≠ b.1 := fun e => by rw [← e, cx_f] at h; exact absurd h (by decide)
      have z : ahead a.1 b.1 := by
        rcases ahead_tri a.1 b.1 with y | y | y
        · exact y
        · exact absurd y e
        · exact absurd y z1
      unfold lval; rw [if_neg e, if_pos z]; grind
    · apply fin
      have e : a.2 ≠ b.2 := fun e => by rw [← e, cx_s] at h; exact absurd h (by decide)
      unfold rval; rw [if_neg e, if_neg z2]; grind
theorem both_units (a b : UW) (ua : ult a.1 a.2) (ub : ult b.1 b.2) : ule (if ult b.2 a.2 then b.2 else a.2) (if ult a.1 b.1 then b.1 else a.1) ↔ ¬ both (ofW a) (ofW b) := by
  unfold both ofW
  simp only [ahead_ofU]
  by_cases h1 : ult b.2 a.2 <;> by_cases h2 : ult a.1 b.1 <;> simp only [h1, h2, if_true, if_false] <;> unfold ult ule at * <;> omega
theorem r_law_above : ∀ ds S Q E, FL.sp_law_above ds S Q E → b_law_above (mends Q E) (mstart 2 ds) S := by
  rintro _ S Q E ⟨a, b, rfl, ha, hb, ua, ub, f, k⟩
  have Ua : Up (ofW a) := ⟨(ahead_ofU _ _).mpr ua⟩
  have Ub : Up (ofW b) := ⟨(ahead_ofU _ _).mpr ub⟩
  unfold b_law_above
  simp only [ML.q_mstart, ML.q_mends, List.map_cons, List.map_nil, List.replicate, List.cons_append, List.nil_append]
  simp only [gg]
  rw [both_units a b ua ub]
  refine ⟨fun h => ?_, fun h => ?_⟩
  · simp only [gg]
    have := k S (fun _ _ h => h)
    rwa [decide_eq_false (fun z => h z.1)] at this
  simp only [Decidable.not_not] at h
  simp only [gg]
  intro p hp
  refine comp_filter uD (fun s => .int (uturn b.1 b.2 s)) (fun s => decide (ule b.1 s ∧ ule s b.2)) [a.1, a.2] rfl (by simp) (fun _ => trivial) ?_ ?_
  · intro s acc Q1 Q2 hm q1 q2
    have hs : UOk (2 ^ 30) s := by
      rcases List.mem_cons.mp hm with e | e
      · rw [e]; exact ha.f
      · rw [List.mem_singleton.mp e]; exact ha.s
    simp only [gg]
    refine ⟨fun z1 => ?_, fun z1 => ?_⟩
    · simp only [gg]
      refine ⟨fun z2 => ?_, fun z2 => ?_⟩
      · simp only [gg]
        refine t_turn hb.f hb.s hs ?_
        exact q1 (by simp [z1, z2])
      · simp only [gg]
        exact q2 (by simp [z2])
    · simp only [gg]
      exact q2 (by simp [z1])
  simp only [gv]
  intro r hr
  obtain ⟨rp, hr⟩ := fresh_put hr
  refine comp_filter uD (fun s => .int (-uturn a.1 a.2 s)) (fun s => decide (ule a.1 s ∧ ule s a.2)) [b.1, b.2] rfl (by simp) (fun _ => trivial) ?_ ?_
  · intro s acc Q1 Q2 hm q1 q2
    have hs : UOk (2 ^ 30) s := by
      rcases List.mem_cons.mp hm with e | e
      · rw [e]; exact hb.f
      · rw [List.mem_singleton.mp e]; exact hb.s
    simp only [gg]
    refine ⟨fun z1 => ?_, fun z1 => ?_⟩
    · simp only [gg]
      refine ⟨fun z2 => ?_, fun z2 => ?_⟩
      · simp only [gg]
        refine t_turn ha.f ha.s hs ?_
        simp only [gg]
        exact q1 (by simp [z1, z2])
      · simp only [gg]
        exact q2 (by simp [z2])
    · simp only [gg]
      exact q2 (by simp [z1])
  have hd : del (put (put S p (MO.lst (List.map (fun s => D.int (uturn b.1 b.2 s)) (List.filter (fun s => decide (ule b.1 s ∧ ule s b.2)) [a.1, a.2])))) r (MO.lst (List.map (fun s => D.int (-uturn a.1 a.2 s)) (List.filter (fun s => decide (ule a.1 s ∧ ule s a.2)) [b.1, b.2])))) r = put S p (MO.lst (List.map (fun s => D.int (uturn b.1 b.2 s)) (List.filter (fun s => decide (ule b.1 s ∧ ule s b.2)) [a.1, a.2]))) := del_put (by rw [put_ne rp]; exact hr)
  rw [hd]
  simp only [gv]
  have l1 := List.length_filter_le (fun s => decide (ule b.1 s ∧ ule s b.2)) [a.1, a.2]
  have l2 := List.length_filter_le (fun s => decide (ule a.1 s ∧ ule s a.2)) [b.1, b.2]
  simp only [List.length_cons, List.length_nil] at l1 l2
  refine ⟨line_le (by omega), ?_⟩
  have em : (List.map (fun s => D.int (uturn b.1 b.2 s)) (List.filter (fun s => decide (ule b.1 s ∧ ule s b.2)) [a.1, a.2]) ++ List.map (fun s => D.int (-uturn a.1 a.2 s)) (List.filter (fun s => decide (ule a.1 s ∧ ule s a.2)) [b.1, b.2])) =
      ((List.filter (fun s => decide (ule b.1 s ∧ ule s b.2)) [a.1, a.2]).map (uturn b.1 b.2) ++ (List.filter (fun s => decide (ule a.1 s ∧ ule s a.2)) [b.1, b.2]).map (fun s => -uturn a.1 a.2 s)).map D.int := by
    rw [List.map_append, List.map_map, List.map_map]; rfl
  rw [em]
  simp only [gv]
  have e : decide ((1 : Int) ∈ ((List.filter (fun s => decide (ule b.1 s ∧ ule s b.2)) [a.1, a.2]).map (uturn b.1 b.2) ++ (List.filter (fun s => decide (ule a.1 s ∧ ule s a.2)) [b.1, b.2]).map (fun s => -uturn a.1 a.2 s))) = decide (aboveW (ofW a) (ofW b)) := by
    rw [decide_eq_decide, above_law Ua Ub (f.imp (congrArg ofW) id)]
    have s1 : ∀ s, side (ofW a) (ofU s) = uturn a.1 a.2 s := fun _ => rfl
    have s2 : ∀ s, side (ofW b) (ofU s) = uturn b.1 b.2 s := fun _ => rfl
    simp only [h, true_and]
    simp only [ofW, ahead_ofU, not_ult] at s1 s2 ⊢
    simp only [s1, s2, List.mem_append, List.mem_map, List.mem_filter, List.mem_cons, List.not_mem_nil, or_false, decide_eq_true_eq]
    constructor
    · rintro (⟨s, ⟨rfl | rfl, z1, z2⟩, z⟩ | ⟨s, ⟨rfl | rfl, z1, z2⟩, z⟩)
      · exact .inl ⟨z1, z2, z⟩
      · exact .inr (.inl ⟨z1, z2, z⟩)
      · exact .inr (.inr (.inl ⟨z1, z2, by omega⟩))
      · exact .inr (.inr (.inr ⟨z1, z2, by omega⟩))
    · rintro (⟨z1, z2, z⟩ | ⟨z1, z2, z⟩ | ⟨z1, z2, z⟩ | ⟨z1, z2, z⟩)
      · exact .inl ⟨_, ⟨.inl rfl, z1, z2⟩, z⟩
      · exact .inl ⟨_, ⟨.inr rfl, z1, z2⟩, z⟩
      · exact .inr ⟨_, ⟨.inl rfl, z1, z2⟩, by omega⟩
      · exact .inr ⟨_, ⟨.inr rfl, z1, z2⟩, by omega⟩
  rw [e]
  exact k _ (fun q o hq => by rw [put_ne (sne hq hp)]; exact hq)
end FL

namespace FL
open PySem PySem.Spec L2 ML
/-! ### how two walls meet -/
inductive Meet where
  | no
  | spot (p : Pt)
  | stretch (w : Wl)
deriving DecidableEq
def meD : Meet → D
  | .no => .non
  | .spot p => .tup [.str "spot", spD p]
  | .stretch w => .tup [.str "stretch", wlD w]
def solW (a b : Wl) : Pt := (a.1.1 + crs (alng (a.1, b.1)) (alng b) / crs (alng a) (alng b) * (alng a).1, a.1.2 + crs (alng (a.1, b.1)) (alng b) / crs (alng a) (alng b) * (alng a).2)
def maxP (p q : Pt) : Pt := if ahead p q then q else p
def minP (p q : Pt) : Pt := if ahead q p then q else p
def inLine (a b : Wl) : Meet := if side a b.1 ≠ 0 then .no else if maxP a.1 b.1 = minP a.2 b.2 then .spot (maxP a.1 b.1) else if ahead (maxP a.1 b.1) (minP a.2 b.2) then .stretch (maxP a.1 b.1, minP a.2 b.2) else .no
def meetW (a b : Wl) : Meet := if crs (alng a) (alng b) = 0 then inLine a b else if liesOn a (solW a b) ∧ liesOn b (solW a b) then .spot (solW a b) else .no
def meAf (s : Sc) : Meet → Meet
  | .no => .no
  | .spot p => .spot (af s p)
  | .stretch w => .stretch (afw s w)
section
variable {s : Sc}
theorem alng_af (h : ScOk s) (w : Wl) : alng (afw s w) = (s.t / s.b * (alng w).1, s.t / s.b * (alng w).2) := by
  have hb : (s.b : Rat) ≠ 0 := by have := h.bp; grind
  simp only [alng, afw, af, Prod.mk.injEq]
  constructor <;> grind
theorem crs_smul (k : Rat) (u v : Pt) : crs (k * u.1, k * u.2) (k * v.1, k * v.2) = k * k * crs u v := by simp only [crs]; grind
theorem kpos (h : ScOk s) : (0 : Rat) < s.t / s.b := by rw [Rat.div_def]; exact Rat.mul_pos h.tp (Rat.inv_pos.mpr h.bp)
theorem crs_af (h : ScOk s) (a b : Wl) : crs (alng (afw s a)) (alng (afw s b)) = (s.t / s.b * (s.t / s.b)) * crs (alng a) (alng b) := by
  rw [alng_af h, alng_af h, crs_smul]
theorem crs_af0 (h : ScOk s) (a b : Wl) : crs (alng (afw s a)) (alng (afw s b)) = 0 ↔ crs (alng a) (alng b) = 0 := by
  rw [crs_af h, Rat.mul_eq_zero, Rat.mul_eq_zero]
  have := kpos h
  constructor
  · rintro ((z | z) | z)
    · grind
    · grind
    · exact z
  · intro z; exact .inr z
theorem sol_af (h : ScOk s) {a b : Wl} (hc : crs (alng a) (alng b) ≠ 0) : solW (afw s a) (afw s b) = af s (solW a b) := by
  have k0 := kpos h
  have hb : (s.b : Rat) ≠ 0 := by have := h.bp; grind
  have e1 : crs (alng ((afw s a).1, (afw s b).1)) (alng (afw s b)) = (s.t / s.b * (s.t / s.b)) * crs (alng (a.1, b.1)) (alng b) := by
    have := crs_af h (a.1, b.1) b
    exact this
  have e2 : crs (alng (afw s a)) (alng (afw s b)) = (s.t / s.b * (s.t / s.b)) * crs (alng a) (alng b) := crs_af h a b
  have kk : (s.t / s.b * (s.t / s.b) : Rat) ≠ 0 := by
    rw [ne_eq, Rat.mul_eq_zero]; grind
  unfold solW
  rw [e1, e2, alng_af h]
  have e3 : (s.t / s.b * (s.t / s.b)) * crs (alng (a.1, b.1)) (alng b) / ((s.t / s.b * (s.t / s.b)) * crs (alng a) (alng b)) = crs (alng (a.1, b.1)) (alng b) / crs (alng a) (alng b) := by
    generalize (s.t / s.b * (s.t / s.b) : Rat) = K at kk
    generalize crs (alng a) (alng b) = C at hc
    grind
  rw [e3]
  generalize crs (alng (a.1, b.1)) (alng b) / crs (alng a) (alng b) = P
  simp only [afw, af, Prod.mk.injEq]
  constructor <;> grind
theorem maxP_af (h : ScOk s) (p q : Pt) : maxP (af s p) (af s q) = af s (maxP p q) := by
  unfold maxP; simp only [ahead_af h]; split <;> rfl
theorem minP_af (h : ScOk s) (p q : Pt) : minP (af s p) (af s q) = af s (minP p q) := by
  unfold minP; simp only [ahead_af h]; split <;> rfl
theorem inLine_af (h : ScOk s) (a b : Wl) : inLine (afw s a) (afw s b) = meAf s (inLine a b) := by
  unfold inLine
  have e : side (afw s a) (afw s b).1 = side a b.1 := side_af h a b.1
  have e1 : maxP (afw s a).1 (afw s b).1 = af s (maxP a.1 b.1) := maxP_af h _ _
  have e2 : minP (afw s a).2 (afw s b).2 = af s (minP a.2 b.2) := minP_af h _ _
  rw [e, e1, e2]
  simp only [af_inj h, ahead_af h]
  split
  · rfl
  · split
    · rfl
    · split <;> rfl
theorem meet_af (h : ScOk s) (a b : Wl) : meetW (afw s a) (afw s b) = meAf s (meetW a b) := by
  unfold meetW
  by_cases hc : crs (alng a) (alng b) = 0
  · rw [if_pos hc, if_pos ((crs_af0 h a b).mpr hc), inLine_af h]
  · rw [if_neg hc, if_neg (fun z => hc ((crs_af0 h a b).mp z)), sol_af h hc]
    simp only [liesOn_af h]
    split <;> rfl
end
/-! ### either way about -/
theorem sol_symm {a b : Wl} (hc : crs (alng a) (alng b) ≠ 0) : solW b a = solW a b := by
  unfold solW
  have e : crs (alng b) (alng a) = - crs (alng a) (alng b) := crs_swap _ _
  rw [e]
  have k1 : crs (alng (b.1, a.1)) (alng a) / - crs (alng a) (alng b) = crs (alng (a.1, b.1)) (alng a) / crs (alng a) (alng b) := by
    have : crs (alng (b.1, a.1)) (alng a) = - crs (alng (a.1, b.1)) (alng a) := by simp only [crs, alng]; grind
    rw [this]
    generalize crs (alng a) (alng b) = C at hc
    grind
  rw [k1]
  have e2 : ∀ C : Rat, C ≠ 0 → C = crs (alng a) (alng b) → (b.1.1 + crs (alng (a.1, b.1)) (alng a) / C * (alng b).1 = a.1.1 + crs (alng (a.1, b.1)) (alng b) / C * (alng a).1) ∧ (b.1.2 + crs (alng (a.1, b.1)) (alng a) / C * (alng b).2 = a.1.2 + crs (alng (a.1, b.1)) (alng b) / C * (alng a).2) := by
    intro C hC eC
    have f1 : (b.1.1 - a.1.1) * C = crs (alng (a.1, b.1)) (alng b) * (alng a).1 - crs (alng (a.1, b.1)) (alng a) * (alng b).1 := by rw [eC]; simp only [crs, alng]; grind
    have f2 : (b.1.2 - a.1.2) * C = crs (alng (a.1, b.1)) (alng b) * (alng a).2 - crs (alng (a.1, b.1)) (alng a) * (alng b).2 := by rw [eC]; simp only [crs, alng]; grind
    generalize crs (alng (a.1, b.1)) (alng b) = X at f1 f2 ⊢
    generalize crs (alng (a.1, b.1)) (alng a) = Y at f1 f2 ⊢
    constructor <;> grind
  exact Prod.ext (e2 _ hc rfl).1 (e2 _ hc rfl).2
theorem maxP_comm (p q : Pt) : maxP p q = maxP q p := by
  unfold maxP
  rcases ahead_tri p q with z | z | z
  · rw [if_pos z, if_neg (ahead_asymm z)]
  · subst z; rfl
  · rw [if_neg (ahead_asymm z), if_pos z]
theorem minP_comm (p q : Pt) : minP p q = minP q p := by
  unfold minP
  rcases ahead_tri p q with z | z | z
  · rw [if_neg (ahead_asymm z), if_pos z]
  · subst z; rfl
  · rw [if_pos z, if_neg (ahead_asymm z)]
theorem meet_symm {a b : Wl} (ha : Up a) (hb : Up b) : meetW b a = meetW a b := by
  unfold meetW
  have e : crs (alng b) (alng a) = - crs (alng a) (alng b) := crs_swap _ _
  by_cases hc : crs (alng a) (alng b) = 0
  · rw [if_pos hc, if_pos (by grind)]
    unfold inLine
    rw [maxP_comm b.1, minP_comm b.2]
    have hs : side b a.1 = 0 ↔ side a b.1 = 0 := by
      rw [side_cx, side_cx, sgn_0, sgn_0]
      have pa := ahead_posv.mp ha.up
      have pb := ahead_posv.mp hb.up
      have k1 : cx b a.1 * (alng a).1 = - (cx a b.1 * (alng b).1) := by
        have : cx b a.1 * (alng a).1 + cx a b.1 * (alng b).1 = (a.1.1 - b.1.1) * crs (alng b) (alng a) := by simp only [cx, crs, alng]; grind
        rw [e, hc] at this; grind
      have k2 : cx b a.1 * (alng a).2 = - (cx a b.1 * (alng b).2) := by
        have : cx b a.1 * (alng a).2 + cx a b.1 * (alng b).2 = (a.1.2 - b.1.2) * crs (alng b) (alng a) := by simp only [cx, crs, alng]; grind
        rw [e, hc] at this; grind
      constructor
      · intro z
        rw [z] at k1 k2
        rcases pb with y | ⟨y, y2⟩
        · have h1 : cx a b.1 * (alng b).1 = 0 := by grind
          rcases Rat.mul_eq_zero.mp h1 with w | w
          · exact w
          · simp only [alng, sb] at w y; grind
        · have h1 : cx a b.1 * (alng b).2 = 0 := by grind
          rcases Rat.mul_eq_zero.mp h1 with w | w
          · exact w
          · simp only [alng, sb] at w y2; grind
      · intro z
        rw [z] at k1 k2
        rcases pa with y | ⟨y, y2⟩
        · have h1 : cx b a.1 * (alng a).1 = 0 := by grind
          rcases Rat.mul_eq_zero.mp h1 with w | w
          · exact w
          · simp only [alng, sb] at w y; grind
        · have h1 : cx b a.1 * (alng a).2 = 0 := by grind
          rcases Rat.mul_eq_zero.mp h1 with w | w
          · exact w
          · simp only [alng, sb] at w y2; grind
    simp only [ne_eq, hs]
  · rw [if_neg hc, if_neg (fun z => hc (by grind)), sol_symm hc]
    simp only [and_comm]
end FL

namespace FL
open PySem PySem.Spec L2 ML
def ucross (u v : U2) : Int := u.1 * v.2 - u.2 * v.1
/-- what the law's own meeting tells -/
inductive UM where
  | no
  | spot (t : Told)
  | stretch (w : UW)
def umD : UM → D
  | .no => .non
  | .spot t => toD t
  | .stretch w => uwD w
def umW : UM → Meet
  | .no => .no
  | .spot t => .spot (ofT t)
  | .stretch w => .stretch (ofW w)
def UMOk : UM → Prop
  | .no => True
  | .spot t => TOk t
  | .stretch w => WOk 500 w
def sp_spot_of_lines : MSp := fun ds S Q _ => ∃ a b : Wl, ds = [wlD a, wlD b] ∧ BW a 200 ∧ BW b 200 ∧ crs (alng a) (alng b) ≠ 0 ∧ Q (spD (solW a b)) S
def sp_meeting_in_line : MSp := fun ds S Q _ => ∃ a b : Wl, ds = [wlD a, wlD b] ∧ BW a 200 ∧ BW b 200 ∧ Q (meD (inLine a b)) S
def sp_meeting : MSp := fun ds S Q _ => ∃ a b : Wl, ds = [wlD a, wlD b] ∧ BW a 200 ∧ BW b 200 ∧ (crs (alng a) (alng b) ≠ 0 → BP (solW a b) 400) ∧ Q (meD (meetW a b)) S
def sp_cross : MSp := fun ds S Q _ => ∃ a b : U2, ds = [uD a, uD b] ∧ UOk (2 ^ 30) a ∧ UOk (2 ^ 30) b ∧ Q (.int (ucross a b)) S
def sp_umeet : MSp := fun ds S Q _ => ∃ a b : UW, ds = [uwD a, uwD b] ∧ WOk 500 a ∧ WOk 500 b ∧ ult a.1 a.2 ∧ ult b.1 b.2 ∧ ∀ m : UM, UMOk m → umW m = meetW (ofW a) (ofW b) → Q (umD m) S
/-! ### a part of a wall's length -/
def atP (w : Wl) (t : Rat) : Pt := (w.1.1 + t * (alng w).1, w.1.2 + t * (alng w).2)
theorem posv_key {v : Pt} (hv : posv v) (s : Rat) : posv (s * v.1, s * v.2) ↔ 0 < s := by
  constructor
  · intro hs
    by_cases z : 0 < s
    · exact z
    · exfalso
      rcases hv with h | ⟨h, h2⟩
      · rcases hs with y | ⟨y, y2⟩
        · have := Rat.mul_nonneg (show 0 ≤ -s by grind) (Rat.le_of_lt h); simp only at y; grind
        · simp only at y y2
          have hs0 : s = 0 := by
            rcases Rat.mul_eq_zero.mp y with w | w
            · exact w
            · grind
          rw [hs0, Rat.zero_mul] at y2; exact absurd y2 (by decide)
      · rcases hs with y | ⟨y, y2⟩
        · simp only at y; rw [h, Rat.mul_zero] at y; exact absurd y (by decide)
        · have := Rat.mul_nonneg (show 0 ≤ -s by grind) (Rat.le_of_lt h2); simp only at y2; grind
  · intro hs
    rcases hv with h | ⟨h, h2⟩
    · exact .inl (Rat.mul_pos hs h)
    · exact .inr ⟨by simp only [h, Rat.mul_zero], Rat.mul_pos hs h2⟩
theorem liesOn_part {w : Wl} (h : Up w) (t : Rat) : liesOn w (atP w t) ↔ 0 ≤ t ∧ t ≤ 1 := by
  have hv : posv (alng w) := ahead_posv.mp h.up
  unfold liesOn
  have hs : side w (atP w t) = 0 := by
    rw [side_cx, sgn_0]; simp only [cx, crs, alng, atP]; grind
  have e1 : sb w.1 (atP w t) = ((-t) * (alng w).1, (-t) * (alng w).2) := by
    simp only [sb, atP, alng, Prod.mk.injEq]; grind
  have e2 : sb (atP w t) w.2 = ((t - 1) * (alng w).1, (t - 1) * (alng w).2) := by
    simp only [sb, atP, alng, Prod.mk.injEq]; grind
  rw [ahead_posv, ahead_posv, e1, e2, posv_key hv, posv_key hv]
  simp only [hs, and_true]
  grind
theorem sol_a (a b : Wl) : solW a b = atP a (crs (alng (a.1, b.1)) (alng b) / crs (alng a) (alng b)) := rfl
theorem sol_b {a b : Wl} (hc : crs (alng a) (alng b) ≠ 0) : solW a b = atP b (crs (alng (a.1, b.1)) (alng a) / crs (alng a) (alng b)) := by
  have hc' : crs (alng b) (alng a) ≠ 0 := by rw [crs_swap]; grind
  rw [sol_symm hc', sol_a]
  congr 1
  rw [crs_swap (alng b) (alng a)]
  have : crs (alng (b.1, a.1)) (alng a) = - crs (alng (a.1, b.1)) (alng a) := by simp only [crs, alng]; grind
  rw [this]
  generalize crs (alng a) (alng b) = C at hc
  grind
theorem ucross_crs (a b c d : U2) : ((ucross (b.1 - a.1, b.2 - a.2) (d.1 - c.1, d.2 - c.2) : Int) : Rat) = crs (alng (ofU a, ofU b)) (alng (ofU c, ofU d)) := by
  simp only [ucross, crs, alng, ofU, Rat.intCast_sub, Rat.intCast_mul]
theorem maxP_ofU (u v : U2) : maxP (ofU u) (ofU v) = ofU (if ult u v then v else u) := by
  unfold maxP; simp only [ahead_ofU]; split <;> rfl
theorem minP_ofU (u v : U2) : minP (ofU u) (ofU v) = ofU (if ult v u then v else u) := by
  unfold minP; simp only [ahead_ofU]; split <;> rfl
theorem div_range {p d : Int} (hd : d ≠ 0) : (0 ≤ (p : Rat) / d ∧ (p : Rat) / d ≤ 1) ↔ (0 ≤ (if d < 0 then -p else p) ∧ (if d < 0 then -p else p) ≤ d.natAbs) := by
  have key : ∀ p d : Int, 0 < d → ((0 ≤ (p : Rat) / d ∧ (p : Rat) / d ≤ 1) ↔ (0 ≤ p ∧ p ≤ d)) := by
    intro p d h
    have h' : (0 : Rat) < d := rat_int_pos h
    have e0 : (0 : Rat) / d = 0 := by rw [Rat.div_def, Rat.zero_mul]
    have e1 : (d : Rat) / d = 1 := by grind
    have a1 : 0 ≤ (p : Rat) / d ↔ 0 ≤ p := by
      have := lt_div (a := (p : Rat)) (b := 0) h'
      rw [e0] at this
      have h0 : ((p : Int) : Rat) < 0 ↔ p < 0 := by exact_mod_cast Rat.intCast_lt_intCast (a := p) (b := 0)
      rw [h0] at this
      constructor
      · intro z
        by_cases y : p < 0
        · have := this.mpr y; grind
        · omega
      · intro z
        by_cases y : (p : Rat) / d < 0
        · have := this.mp y; omega
        · grind
    have a2 : (p : Rat) / d ≤ 1 ↔ p ≤ d := by
      have := lt_div (a := (d : Rat)) (b := p) h'
      rw [e1, Rat.intCast_lt_intCast] at this
      constructor
      · intro z
        by_cases y : d < p
        · have := this.mpr y; grind
        · omega
      · intro z
        by_cases y : 1 < (p : Rat) / d
        · have := this.mp y; omega
        · grind
    rw [a1, a2]
  by_cases h : d < 0
  · have e : (p : Rat) / d = ((-p : Int) : Rat) / ((-d : Int) : Rat) := by
      rw [Rat.intCast_neg, Rat.intCast_neg]
      have : (d : Rat) ≠ 0 := by intro z; have : d = 0 := by exact_mod_cast z
                                 omega
      grind
    rw [e, key (-p) (-d) (by omega), if_pos h]
    omega
  · rw [key p d (by omega), if_neg h]
    omega
end FL

set_option maxRecDepth 100000
namespace FL
open PySem PySem.Spec L2 ML
def b_cross : MS := (mRet (mOp rSub (mOp rMul (mOp rIxM (mVar 0) (mC (.int 0))) (mOp rIxM (mVar 1) (mC (.int 1)))) (mOp rMul (mOp rIxM (mVar 0) (mC (.int 1))) (mOp rIxM (mVar 1) (mC (.int 0))))))
def b_spot_of_lines : MS := (mSeq (mSet 2 (mCall FL.sp_along (mCons (mVar 0) mNil)))
  (mSeq (mSet 3 (mCall FL.sp_over (mCons (mCall FL.sp_crossed (mCons (mCall FL.sp_along (mCons (mTup (mCons (mOp rIxM (mVar 0) (mC (.int 0))) (mCons (mOp rIxM (mVar 1) (mC (.int 0))) mNil))) mNil)) (mCons (mCall FL.sp_along (mCons (mVar 1) mNil)) mNil))) (mCons (mCall FL.sp_crossed (mCons (mVar 2) (mCons (mCall FL.sp_along (mCons (mVar 1) mNil)) mNil))) mNil))))
  (mRet (mTup (mCons (mCall FL.sp_plus (mCons (mOp rIxM (mOp rIxM (mVar 0) (mC (.int 0))) (mC (.int 0))) (mCons (mCall FL.sp_times (mCons (mVar 3) (mCons (mOp rIxM (mVar 2) (mC (.int 0))) mNil))) mNil))) (mCons (mCall FL.sp_plus (mCons (mOp rIxM (mOp rIxM (mVar 0) (mC (.int 0))) (mC (.int 1))) (mCons (mCall FL.sp_times (mCons (mVar 3) (mCons (mOp rIxM (mVar 2) (mC (.int 1))) mNil))) mNil))) mNil))))))
def b_meeting_in_line : MS := (mSeq (mIfS (mTst (mOp rNeM (mCall FL.sp_side_of (mCons (mVar 0) (mCons (mOp rIxM (mVar 1) (mC (.int 0))) mNil))) (mC (.int 0)))) (mRet (mC .non)) mNext)
  (mSeq (mSet 2 (mOp rIxM (mVar 0) (mC (.int 0))))
  (mSeq (mIfJ (mTru (mCall FL.sp_is_ahead (mCons (mVar 2) (mCons (mOp rIxM (mVar 1) (mC (.int 0))) mNil)))) (mSet 2 (mOp rIxM (mVar 1) (mC (.int 0)))) mNext)
  (mSeq (mSet 3 (mOp rIxM (mVar 0) (mC (.int 1))))
  (mSeq (mIfJ (mTru (mCall FL.sp_is_ahead (mCons (mOp rIxM (mVar 1) (mC (.int 1))) (mCons (mVar 3) mNil)))) (mSet 3 (mOp rIxM (mVar 1) (mC (.int 1)))) mNext)
  (mSeq (mIfS (mTst (mOp rEqM (mVar 2) (mVar 3))) (mRet (mTup (mCons (mC (.str "spot")) (mCons (mVar 2) mNil)))) mNext)
  (mSeq (mIfS (mTru (mCall FL.sp_is_ahead (mCons (mVar 2) (mCons (mVar 3) mNil)))) (mRet (mTup (mCons (mC (.str "stretch")) (mCons (mTup (mCons (mVar 2) (mCons (mVar 3) mNil))) mNil)))) mNext)
  (mRet (mC .non)))))))))
def b_umeet : MS := (mSeq (mSet 2 (mTup (mCons (mOp rSub (mOp rIxM (mOp rIxM (mVar 0) (mC (.int 1))) (mC (.int 0))) (mOp rIxM (mOp rIxM (mVar 0) (mC (.int 0))) (mC (.int 0)))) (mCons (mOp rSub (mOp rIxM (mOp rIxM (mVar 0) (mC (.int 1))) (mC (.int 1))) (mOp rIxM (mOp rIxM (mVar 0) (mC (.int 0))) (mC (.int 1)))) mNil))))
  (mSeq (mSet 3 (mTup (mCons (mOp rSub (mOp rIxM (mOp rIxM (mVar 1) (mC (.int 1))) (mC (.int 0))) (mOp rIxM (mOp rIxM (mVar 1) (mC (.int 0))) (mC (.int 0)))) (mCons (mOp rSub (mOp rIxM (mOp rIxM (mVar 1) (mC (.int 1))) (mC (.int 1))) (mOp rIxM (mOp rIxM (mVar 1) (mC (.int 0))) (mC (.int 1)))) mNil))))
  (mSeq (mSet 4 (mTup (mCons (mOp rSub (mOp rIxM (mOp rIxM (mVar 1) (mC (.int 0))) (mC (.int 0))) (mOp rIxM (mOp rIxM (mVar 0) (mC (.int 0))) (mC (.int 0)))) (mCons (mOp rSub (mOp rIxM (mOp rIxM (mVar 1) (mC (.int 0))) (mC (.int 1))) (mOp rIxM (mOp rIxM (mVar 0) (mC (.int 0))) (mC (.int 1)))) mNil))))
  (mSeq (mSet 5 (mCall FL.sp_cross (mCons (mVar 2) (mCons (mVar 3) mNil))))
  (mSeq (mIfS (mTst (mOp rEqM (mVar 5) (mC (.int 0)))) (mSeq (mPar 6 7 (mCons (mBlt bMaxA (mCons (mOp rIxM (mVar 0) (mC (.int 0))) (mCons (mOp rIxM (mVar 1) (mC (.int 0))) mNil))) (mCons (mBlt bMinA (mCons (mOp rIxM (mVar 0) (mC (.int 1))) (mCons (mOp rIxM (mVar 1) (mC (.int 1))) mNil))) mNil)))
  (mSeq (mIfS (mOr (mTst (mOp rNeM (mCall FL.sp_cross (mCons (mVar 2) (mCons (mVar 4) mNil))) (mC (.int 0)))) (mTst (mOp aGt (mVar 6) (mVar 7)))) (mRet (mC .non)) mNext)
  (mSeq (mIfS (mTst (mOp rEqM (mVar 6) (mVar 7))) (mRet (mTup (mCons (mOp rIxM (mVar 6) (mC (.int 0))) (mCons (mOp rIxM (mVar 6) (mC (.int 1))) (mCons (mC (.int 1)) mNil))))) mNext)
  (mRet (mTup (mCons (mVar 6) (mCons (mVar 7) mNil))))))) mNext)
  (mSeq (mSet 8 (mLstF (mCons (mCall FL.sp_cross (mCons (mVar 4) (mCons (mVar 3) mNil))) (mCons (mCall FL.sp_cross (mCons (mVar 4) (mCons (mVar 2) mNil))) mNil))))
  (mSeq (mIfJ (mTst (mOp aLt (mVar 5) (mC (.int 0)))) (mSet 8 (mLstF (mCons (mUn rNeg (mOp rIxM (mVar 8) (mC (.int 0)))) (mCons (mUn rNeg (mOp rIxM (mVar 8) (mC (.int 1)))) mNil)))) mNext)
  (mSeq (mIfS (mOr (mTst (mOp aLt (mBlt bMinL (mCons (mVar 8) mNil)) (mC (.int 0)))) (mTst (mOp aGt (mBlt bMaxL (mCons (mVar 8) mNil)) (mBlt bAbs (mCons (mVar 5) mNil))))) (mRet (mC .non)) mNext)
  (mRet (mTup (mCons (mOp rAdd (mOp rMul (mOp rIxM (mOp rIxM (mVar 0) (mC (.int 0))) (mC (.int 0))) (mBlt bAbs (mCons (mVar 5) mNil))) (mOp rMul (mOp rIxM (mVar 8) (mC (.int 0))) (mOp rIxM (mVar 2) (mC (.int 0))))) (mCons (mOp rAdd (mOp rMul (mOp rIxM (mOp rIxM (mVar 0) (mC (.int 0))) (mC (.int 1))) (mBlt bAbs (mCons (mVar 5) mNil))) (mOp rMul (mOp rIxM (mVar 8) (mC (.int 0))) (mOp rIxM (mVar 2) (mC (.int 1))))) (mCons (mBlt bAbs (mCons (mVar 5) mNil)) mNil)))))))))))))
def b_meeting : MS := (mSeq (mIfS (mTst (mOp rEqM (mCall FL.sp_leaning (mCons (mCall FL.sp_along (mCons (mVar 0) mNil)) (mCons (mCall FL.sp_along (mCons (mVar 1) mNil)) mNil))) (mC (.int 0)))) (mRet (mCall FL.sp_meeting_in_line (mCons (mVar 0) (mCons (mVar 1) mNil)))) mNext)
  (mSeq (mSet 2 (mCall FL.sp_spot_of_lines (mCons (mVar 0) (mCons (mVar 1) mNil))))
  (mSeq (mIfS (mAnd (mTru (mCall FL.sp_lies_on (mCons (mVar 0) (mCons (mVar 2) mNil)))) (mTru (mCall FL.sp_lies_on (mCons (mVar 1) (mCons (mVar 2) mNil))))) (mRet (mTup (mCons (mC (.str "spot")) (mCons (mVar 2) mNil)))) mNext)
  (mRet (mC .non)))))
end FL

set_option maxRecDepth 100000
set_option maxHeartbeats 4000000
namespace FL
-- counts /tmp/scratch/dev/N_lib4.json
open PySem PySem.Spec L2 ML
local macro_rules | `(tactic| simp $c:optConfig $[$d:discharger]? only [gw] $[$l:location]?) => `(tactic| simp $c $[$d]? only [↓ML.q_mSeq, ↓ML.q_mC, ↓ML.q_mOp, ↓ML.q_mUn, ↓ML.q_mTst, ↓ML.q_mNot, ↓ML.q_mNotV, ↓ML.q_mRet, ↓ML.q_mRetN, ↓ML.q_mExpr, ↓ML.q_mNext, ↓ML.q_mBreak, ↓ML.q_mCont, ↓ML.q_mAsg, ↓ML.q_gSb, ↓ML.q_mTup, ↓ML.q_mLst, ↓ML.q_mLstF, ↓ML.q_mCons, ↓ML.q_mNil, ↓ML.q_mBlt, ↓ML.q_rEqM, ↓ML.q_rNeM, ↓ML.q_iR1, ↓ML.q_iR2, ↓ML.q_iEn, ↓ML.q_iZp, ↓ML.q_mMt, ↓ML.q_mMt0, ↓ML.q_mYes, ↓ML.q_mCut, ↓ML.q_oNo, ↓ML.q_oSo, ↓ML.l_mCall, ↓ML.l_mAnd, ↓ML.l_mOr, ↓ML.l_mAndV, ↓ML.l_mOrV, ↓ML.l_mIf, ↓ML.l_mIfS, ↓ML.l_mChain, ↓ML.l_mVar, ↓ML.l_mFor, ↓ML.l_mWhile, ↓ML.l_mComp, ↓ML.l_mCompF, ↓ML.l_optP, ↓ML.l_Go, ↓ML.Hold_v, ↓ML.l_mSet, ↓ML.l_gNm, ↓ML.l_mPar, ↓ML.l_rIxM, ↓ML.l_rSetM, ↓ML.l_rInt, ↓ML.l_rInt0, ↓ML.l_rAdd_int, ↓ML.l_rAdd_str, ↓ML.l_rAdd_tup, ↓ML.l_rNeg, ↓ML.l_rIsN, ↓ML.l_rNotN, ↓ML.l_rIsBM, ↓ML.l_mTru, ↓ML.l_bLen, ↓ML.l_bAbs, ↓ML.l_bMax2, ↓ML.l_bMin2, ↓ML.l_bInt_i, ↓ML.l_bInt_b, ↓ML.l_bTuple, ↓ML.l_bListF, ↓ML.l_bList, ↓ML.l_mIsi, ↓ML.l_iL, ↓ML.l_iT, ↓ML.l_gTp, ↓ML.l_gLs, ↓ML.l_gCn, ↓ML.l_gNl, ↓ML.l_mtAppend, ML.Hold_v, ML.l_mVar_z, ML.l_mVar_s, ML.OptP_some, ML.Go_eq, ML.IteP_true, ML.IteP_false, ML.lstOf_ref', ML.lstOf_lst, ML.lstOf_scr, ML.lstOf_tup, ML.ownOf_ref', ML.ownOf_lst, ML.seqOf_tup', ML.seqOf_lst', ML.seqOf_scr', ML.seqOf_ref', ML.olP_lst, ML.tupOf_tup, ML.ixL_lit, ML.ixL_cast, ML.ixL_m1, ML.setAt_lit, ML.setAt_cast, ML.truD_bl, ML.truD_int, ML.truD_tup, ML.truD_lst, ML.truD_scr, ML.truD_non, ML.lenD_tup, ML.lenD_lst, ML.lenD_scr, ML.lenD_ref, ML.tyD_non, ML.tyD_bl, ML.tyD_int, ML.tyD_str, ML.tyD_tup, ML.tyD_lst, ML.szl, ML.szlt, ML.cpow_lit, ML.mulok_rl, ML.mulok_ll, ML.divok_l, ML.put_same, ML.put_put, ML.q_wipeM, ML.deq_int, ML.deq_bl, ML.deq_str, ML.deq_non, ML.eqOk_int, ML.eqOk_bl, ML.isTy_NoneType_int, ML.isTy_NoneType_bool, ML.isTy_NoneType_tuple, ML.isTy_NoneType_list, ML.isTy_NoneType_str, ML.isTy_bool_int, ML.isTy_bool_bool, ML.isTy_bool_tuple, ML.isTy_bool_list, ML.isTy_bool_str, ML.isTy_int_int, ML.isTy_int_bool, ML.isTy_int_tuple, ML.isTy_int_list, ML.isTy_int_str, ML.isTy_str_int, ML.isTy_str_bool, ML.isTy_str_tuple, ML.isTy_str_list, ML.isTy_str_str, ML.isTy_tuple_int, ML.isTy_tuple_bool, ML.isTy_tuple_tuple, ML.isTy_tuple_list, ML.isTy_tuple_str, ML.isTy_list_int, ML.isTy_list_bool, ML.isTy_list_tuple, ML.isTy_list_list, ML.isTy_list_str, ML.isTy_dict_int, ML.isTy_dict_bool, ML.isTy_dict_tuple, ML.isTy_dict_list, ML.isTy_dict_str, FL.tup_fr, FL.tup_sp, FL.tup_wl, FL.tupOf_fr, FL.tupOf_sp, FL.tupOf_wl, FL.nz0, FL.nz1, FL.nz2, FL.nz3, FL.look_non, FL.look_int, FL.look_bl, FL.look_str, FL.look_tup, FL.look_lst, FL.look_scr, FL.seqOf_fr, FL.seqOf_sp, FL.seqOf_wl, FL.look_fr, FL.look_sp, FL.look_wl, FL.eqOk_fr, FL.eqOk_sp, FL.eqOk_wl, FL.deq_fr, FL.deq_sp, FL.deq_wl, FL.tyD_fr, FL.tyD_sp, FL.tyD_wl, FL.isN_fr, FL.isN_sp, FL.isN_wl, FL.lenD_sp, FL.lenD_wl, FL.rAdd_wl_tup, List.length_map, List.map_cons, List.map_nil, List.replicate, List.set_cons_zero, List.set_cons_succ, List.getElem?_cons_zero, List.getElem?_cons_succ, List.cons_append, List.nil_append, List.length_cons, List.length_nil, Option.bind_some, Option.map_some, ↓reduceIte, Nat.reduceAdd, Nat.reduceSub, Nat.reduceLT, Nat.reduceLeDiff, Nat.zero_add, decide_eq_true_eq, Bool.not_eq_true, ne_eq, reduceCtorEq, not_false_eq_true, true_and, and_true, Bool.false_eq_true, Bool.not_true, Bool.not_false, decide_true, decide_false, not_true_eq_false, eq_self, Bool.not_eq_eq_eq_not, if_true, if_false, decide_eq_false_iff_not, ML.ncast, Int.reduceToNat, Int.reducePow, Int.reduceAdd, Int.reduceSub, Int.reduceMul, Int.reduceNeg, Int.reduceLT, Int.reduceLE, Int.reduceEq, Nat.reduceEqDiff, Int.zero_add, gt_iff_lt, beq_self_eq_true, Bool.true_beq, Bool.false_beq, Bool.and_true, Bool.and_false, Bool.true_and, Bool.false_and, ↓ML.l_mtInsert, ↓ML.l_mtReverse, ↓ML.l_mtClear, ↓ML.l_bSortU, ↓ML.q_mMt0, ↓ML.l_bMaxL, ↓ML.l_bMinL, ↓ML.l_aLt_int, ↓ML.l_aLt_u, ↓ML.l_aGt_int, ↓ML.l_aGt_u, ↓ML.l_aLe_int, ↓ML.l_aLe_u, ↓ML.l_aGe_int, ↓ML.l_aGe_u, ↓ML.l_bMaxA_int, ↓ML.l_bMaxA_u, ↓ML.l_bMinA_int, ↓ML.l_bMinA_u, ML.tup_u, ML.tupOf_u, ML.seqOf_u, ML.sqI_u, ML.look_u, ML.isN_u, ML.lenD_u, ML.tyD_u, ML.tup_uw, ML.tupOf_uw, ML.seqOf_uw, ML.sqI_uw, ML.look_uw, ML.isN_uw, ML.lenD_uw, ML.tyD_uw, ML.eqOk_u, ML.eqOk_uw, ML.deq_u, ML.deq_uw, ML.in_uw, ↓ML.l_mRaise, ↓ML.l_mTry, ↓ML.l_mIsE, ↓ML.l_mIsV, ↓ML.l_mtCount, ↓ML.l_rAddS_rl, ↓ML.l_rAddS_ll, ML.excD_ref, ML.excOf_exc, ML.blsOf_nil, ML.blsOf_cons, ML.endM_nx, ML.endM_rt, ↓ML.l_mYes, ↓ML.l_iS, ↓ML.l_mIfJ, ↓ML.l_mJ, ↓ML.CrollP_nil, ↓ML.CrollP_cons, ↓ML.CrA_at, ↓ML.FrollP_nil, ↓ML.FrollP_cons, ML.isN_non, ML.isN_int, ML.isN_bl, ML.isN_str, ML.isN_tup, ML.isN_lst, ML.isN_ref, ML.sqI_tup, ML.sqI_lst, ML.sqI_scr, ML.sqI_ref, ML.sqI_at, ML.rngD_0, ML.rngD_1, ML.rngD_2, ML.rngD_3, ML.rngD_4, ML.rngD_6, ML.q_wipeM_nil, ML.q_wipeM_cons, FL.sqI_sp, FL.sqI_wl, ↓FL.c_plus, ↓FL.c_less, ↓FL.c_law_less, ↓FL.c_times, ↓FL.c_over, ↓FL.c_is_less, ↓FL.c_is_ahead, ↓FL.c_along, ↓FL.c_crossed, ↓FL.c_leaning, ↓FL.c_side_of, ↓FL.c_lies_on, ↓FL.c_spans] $[$l]?)
local macro_rules | `(tactic| simp $c:optConfig $[$d:discharger]? only [gw, $ls,*] $[$l:location]?) => `(tactic| simp $c $[$d]? only [↓ML.q_mSeq, ↓ML.q_mC, ↓ML.q_mOp, ↓ML.q_mUn, ↓ML.q_mTst, ↓ML.q_mNot, ↓ML.q_mNotV, ↓ML.q_mRet, ↓ML.q_mRetN, ↓ML.q_mExpr, ↓ML.q_mNext, ↓ML.q_mBreak, ↓ML.q_mCont, ↓ML.q_mAsg, ↓ML.q_gSb, ↓ML.q_mTup, ↓ML.q_mLst, ↓ML.q_mLstF, ↓ML.q_mCons, ↓ML.q_mNil, ↓ML.q_mBlt, ↓ML.q_rEqM, ↓ML.q_rNeM, ↓ML.q_iR1, ↓ML.q_iR2, ↓ML.q_iEn, ↓ML.q_iZp, ↓ML.q_mMt, ↓ML.q_mMt0, ↓ML.q_mYes, ↓ML.q_mCut, ↓ML.q_oNo, ↓ML.q_oSo, ↓ML.l_mCall, ↓ML.l_mAnd, ↓ML.l_mOr, ↓ML.l_mAndV, ↓ML.l_mOrV, ↓ML.l_mIf, ↓ML.l_mIfS, ↓ML.l_mChain, ↓ML.l_mVar, ↓ML.l_mFor, ↓ML.l_mWhile, ↓ML.l_mComp, ↓ML.l_mCompF, ↓ML.l_optP, ↓ML.l_Go, ↓ML.Hold_v, ↓ML.l_mSet, ↓ML.l_gNm, ↓ML.l_mPar, ↓ML.l_rIxM, ↓ML.l_rSetM, ↓ML.l_rInt, ↓ML.l_rInt0, ↓ML.l_rAdd_int, ↓ML.l_rAdd_str, ↓ML.l_rAdd_tup, ↓ML.l_rNeg, ↓ML.l_rIsN, ↓ML.l_rNotN, ↓ML.l_rIsBM, ↓ML.l_mTru, ↓ML.l_bLen, ↓ML.l_bAbs, ↓ML.l_bMax2, ↓ML.l_bMin2, ↓ML.l_bInt_i, ↓ML.l_bInt_b, ↓ML.l_bTuple, ↓ML.l_bListF, ↓ML.l_bList, ↓ML.l_mIsi, ↓ML.l_iL, ↓ML.l_iT, ↓ML.l_gTp, ↓ML.l_gLs, ↓ML.l_gCn, ↓ML.l_gNl, ↓ML.l_mtAppend, ML.Hold_v, ML.l_mVar_z, ML.l_mVar_s, ML.OptP_some, ML.Go_eq, ML.IteP_true, ML.IteP_false, ML.lstOf_ref', ML.lstOf_lst, ML.lstOf_scr, ML.lstOf_tup, ML.ownOf_ref', ML.ownOf_lst, ML.seqOf_tup', ML.seqOf_lst', ML.seqOf_scr', ML.seqOf_ref', ML.olP_lst, ML.tupOf_tup, ML.ixL_lit, ML.ixL_cast, ML.ixL_m1, ML.setAt_lit, ML.setAt_cast, ML.truD_bl, ML.truD_int, ML.truD_tup, ML.truD_lst, ML.truD_scr, ML.truD_non, ML.lenD_tup, ML.lenD_lst, ML.lenD_scr, ML.lenD_ref, ML.tyD_non, ML.tyD_bl, ML.tyD_int, ML.tyD_str, ML.tyD_tup, ML.tyD_lst, ML.szl, ML.szlt, ML.cpow_lit, ML.mulok_rl, ML.mulok_ll, ML.divok_l, ML.put_same, ML.put_put, ML.q_wipeM, ML.deq_int, ML.deq_bl, ML.deq_str, ML.deq_non, ML.eqOk_int, ML.eqOk_bl, ML.isTy_NoneType_int, ML.isTy_NoneType_bool, ML.isTy_NoneType_tuple, ML.isTy_NoneType_list, ML.isTy_NoneType_str, ML.isTy_bool_int, ML.isTy_bool_bool, ML.isTy_bool_tuple, ML.isTy_bool_list, ML.isTy_bool_str, ML.isTy_int_int, ML.isTy_int_bool, ML.isTy_int_tuple, ML.isTy_int_list, ML.isTy_int_str, ML.isTy_str_int, ML.isTy_str_bool, ML.isTy_str_tuple, ML.isTy_str_list, ML.isTy_str_str, ML.isTy_tuple_int, ML.isTy_tuple_bool, ML.isTy_tuple_tuple, ML.isTy_tuple_list, ML.isTy_tuple_str, ML.isTy_list_int, ML.isTy_list_bool, ML.isTy_list_tuple, ML.isTy_list_list, ML.isTy_list_str, ML.isTy_dict_int, ML.isTy_dict_bool, ML.isTy_dict_tuple, ML.isTy_dict_list, ML.isTy_dict_str, FL.tup_fr, FL.tup_sp, FL.tup_wl, FL.tupOf_fr, FL.tupOf_sp, FL.tupOf_wl, FL.nz0, FL.nz1, FL.nz2, FL.nz3, FL.look_non, FL.look_int, FL.look_bl, FL.look_str, FL.look_tup, FL.look_lst, FL.look_scr, FL.seqOf_fr, FL.seqOf_sp, FL.seqOf_wl, FL.look_fr, FL.look_sp, FL.look_wl, FL.eqOk_fr, FL.eqOk_sp, FL.eqOk_wl, FL.deq_fr, FL.deq_sp, FL.deq_wl, FL.tyD_fr, FL.tyD_sp, FL.tyD_wl, FL.isN_fr, FL.isN_sp, FL.isN_wl, FL.lenD_sp, FL.lenD_wl, FL.rAdd_wl_tup, List.length_map, List.map_cons, List.map_nil, List.replicate, List.set_cons_zero, List.set_cons_succ, List.getElem?_cons_zero, List.getElem?_cons_succ, List.cons_append, List.nil_append, List.length_cons, List.length_nil, Option.bind_some, Option.map_some, ↓reduceIte, Nat.reduceAdd, Nat.reduceSub, Nat.reduceLT, Nat.reduceLeDiff, Nat.zero_add, decide_eq_true_eq, Bool.not_eq_true, ne_eq, reduceCtorEq, not_false_eq_true, true_and, and_true, Bool.false_eq_true, Bool.not_true, Bool.not_false, decide_true, decide_false, not_true_eq_false, eq_self, Bool.not_eq_eq_eq_not, if_true, if_false, decide_eq_false_iff_not, ML.ncast, Int.reduceToNat, Int.reducePow, Int.reduceAdd, Int.reduceSub, Int.reduceMul, Int.reduceNeg, Int.reduceLT, Int.reduceLE, Int.reduceEq, Nat.reduceEqDiff, Int.zero_add, gt_iff_lt, beq_self_eq_true, Bool.true_beq, Bool.false_beq, Bool.and_true, Bool.and_false, Bool.true_and, Bool.false_and, ↓ML.l_mtInsert, ↓ML.l_mtReverse, ↓ML.l_mtClear, ↓ML.l_bSortU, ↓ML.q_mMt0, ↓ML.l_bMaxL, ↓ML.l_bMinL, ↓ML.l_aLt_int, ↓ML.l_aLt_u, ↓ML.l_aGt_int, ↓ML.l_aGt_u, ↓ML.l_aLe_int, ↓ML.l_aLe_u, ↓ML.l_aGe_int, ↓ML.l_aGe_u, ↓ML.l_bMaxA_int, ↓ML.l_bMaxA_u, ↓ML.l_bMinA_int, ↓ML.l_bMinA_u, ML.tup_u, ML.tupOf_u, ML.seqOf_u, ML.sqI_u, ML.look_u, ML.isN_u, ML.lenD_u, ML.tyD_u, ML.tup_uw, ML.tupOf_uw, ML.seqOf_uw, ML.sqI_uw, ML.look_uw, ML.isN_uw, ML.lenD_uw, ML.tyD_uw, ML.eqOk_u, ML.eqOk_uw, ML.deq_u, ML.deq_uw, ML.in_uw, ↓ML.l_mRaise, ↓ML.l_mTry, ↓ML.l_mIsE, ↓ML.l_mIsV, ↓ML.l_mtCount, ↓ML.l_rAddS_rl, ↓ML.l_rAddS_ll, ML.excD_ref, ML.excOf_exc, ML.blsOf_nil, ML.blsOf_cons, ML.endM_nx, ML.endM_rt, ↓ML.l_mYes, ↓ML.l_iS, ↓ML.l_mIfJ, ↓ML.l_mJ, ↓ML.CrollP_nil, ↓ML.CrollP_cons, ↓ML.CrA_at, ↓ML.FrollP_nil, ↓ML.FrollP_cons, ML.isN_non, ML.isN_int, ML.isN_bl, ML.isN_str, ML.isN_tup, ML.isN_lst, ML.isN_ref, ML.sqI_tup, ML.sqI_lst, ML.sqI_scr, ML.sqI_ref, ML.sqI_at, ML.rngD_0, ML.rngD_1, ML.rngD_2, ML.rngD_3, ML.rngD_4, ML.rngD_6, ML.q_wipeM_nil, ML.q_wipeM_cons, FL.sqI_sp, FL.sqI_wl, ↓FL.c_plus, ↓FL.c_less, ↓FL.c_law_less, ↓FL.c_times, ↓FL.c_over, ↓FL.c_is_less, ↓FL.c_is_ahead, ↓FL.c_along, ↓FL.c_crossed, ↓FL.c_leaning, ↓FL.c_side_of, ↓FL.c_lies_on, ↓FL.c_spans, $ls,*] $[$l]?)
local macro_rules | `(tactic| simp $c:optConfig $[$d:discharger]? only [gg] $[$l:location]?) => `(tactic| simp $c $[$d]? only [↓ML.q_mSeq, ↓ML.q_mC, ↓ML.q_mOp, ↓ML.q_mUn, ↓ML.q_mTst, ↓ML.q_mNot, ↓ML.q_mNotV, ↓ML.q_mRet, ↓ML.q_mRetN, ↓ML.q_mExpr, ↓ML.q_mNext, ↓ML.q_mBreak, ↓ML.q_mCont, ↓ML.q_mAsg, ↓ML.q_gSb, ↓ML.q_mTup, ↓ML.q_mLst, ↓ML.q_mLstF, ↓ML.q_mCons, ↓ML.q_mNil, ↓ML.q_mBlt, ↓ML.q_rEqM, ↓ML.q_rNeM, ↓ML.q_iR1, ↓ML.q_iR2, ↓ML.q_iEn, ↓ML.q_iZp, ↓ML.q_mMt, ↓ML.q_mMt0, ↓ML.q_mYes, ↓ML.q_mCut, ↓ML.q_oNo, ↓ML.q_oSo, ↓ML.l_mCall, ↓ML.l_mAnd, ↓ML.l_mOr, ↓ML.l_mAndV, ↓ML.l_mOrV, ↓ML.l_mIf, ↓ML.l_mIfS, ↓ML.l_mChain, ↓ML.l_mVar, ↓ML.l_mFor, ↓ML.l_mWhile, ↓ML.l_mComp, ↓ML.l_mCompF, ↓ML.l_optP, ↓ML.l_Go, ↓ML.Hold_v, ↓ML.l_mSet, ↓ML.l_gNm, ↓ML.l_mPar, ↓ML.l_rIxM, ↓ML.l_rSetM, ↓ML.l_rInt, ↓ML.l_rInt0, ↓ML.l_rAdd_int, ↓ML.l_rAdd_str, ↓ML.l_rAdd_tup, ↓ML.l_rNeg, ↓ML.l_rIsN, ↓ML.l_rNotN, ↓ML.l_rIsBM, ↓ML.l_mTru, ↓ML.l_bLen, ↓ML.l_bAbs, ↓ML.l_bMax2, ↓ML.l_bMin2, ↓ML.l_bInt_i, ↓ML.l_bInt_b, ↓ML.l_bTuple, ↓ML.l_bListF, ↓ML.l_bList, ↓ML.l_mIsi, ↓ML.l_iL, ↓ML.l_iT, ↓ML.l_gTp, ↓ML.l_gLs, ↓ML.l_gCn, ↓ML.l_gNl, ↓ML.l_mtAppend, ML.Hold_v, ML.l_mVar_z, ML.l_mVar_s, ML.OptP_some, ML.Go_eq, ML.IteP_true, ML.IteP_false, ML.lstOf_ref', ML.lstOf_lst, ML.lstOf_scr, ML.lstOf_tup, ML.ownOf_ref', ML.ownOf_lst, ML.seqOf_tup', ML.seqOf_lst', ML.seqOf_scr', ML.seqOf_ref', ML.olP_lst, ML.tupOf_tup, ML.ixL_lit, ML.ixL_cast, ML.ixL_m1, ML.setAt_lit, ML.setAt_cast, ML.truD_bl, ML.truD_int, ML.truD_tup, ML.truD_lst, ML.truD_scr, ML.truD_non, ML.lenD_tup, ML.lenD_lst, ML.lenD_scr, ML.lenD_ref, ML.tyD_non, ML.tyD_bl, ML.tyD_int, ML.tyD_str, ML.tyD_tup, ML.tyD_lst, ML.szl, ML.szlt, ML.cpow_lit, ML.mulok_rl, ML.mulok_ll, ML.divok_l, ML.put_same, ML.put_put, ML.q_wipeM, ML.deq_int, ML.deq_bl, ML.deq_str, ML.deq_non, ML.eqOk_int, ML.eqOk_bl, ML.isTy_NoneType_int, ML.isTy_NoneType_bool, ML.isTy_NoneType_tuple, ML.isTy_NoneType_list, ML.isTy_NoneType_str, ML.isTy_bool_int, ML.isTy_bool_bool, ML.isTy_bool_tuple, ML.isTy_bool_list, ML.isTy_bool_str, ML.isTy_int_int, ML.isTy_int_bool, ML.isTy_int_tuple, ML.isTy_int_list, ML.isTy_int_str, ML.isTy_str_int, ML.isTy_str_bool, ML.isTy_str_tuple, ML.isTy_str_list, ML.isTy_str_str, ML.isTy_tuple_int, ML.isTy_tuple_bool, ML.isTy_tuple_tuple, ML.isTy_tuple_list, ML.isTy_tuple_str, ML.isTy_list_int, ML.isTy_list_bool, ML.isTy_list_tuple, ML.isTy_list_list, ML.isTy_list_str, ML.isTy_dict_int, ML.isTy_dict_bool, ML.isTy_dict_tuple, ML.isTy_dict_list, ML.isTy_dict_str, FL.tup_fr, FL.tup_sp, FL.tup_wl, FL.tupOf_fr, FL.tupOf_sp, FL.tupOf_wl, FL.nz0, FL.nz1, FL.nz2, FL.nz3, FL.look_non, FL.look_int, FL.look_bl, FL.look_str, FL.look_tup, FL.look_lst, FL.look_scr, FL.seqOf_fr, FL.seqOf_sp, FL.seqOf_wl, FL.look_fr, FL.look_sp, FL.look_wl, FL.eqOk_fr, FL.eqOk_sp, FL.eqOk_wl, FL.deq_fr, FL.deq_sp, FL.deq_wl, FL.tyD_fr, FL.tyD_sp, FL.tyD_wl, FL.isN_fr, FL.isN_sp, FL.isN_wl, FL.lenD_sp, FL.lenD_wl, FL.rAdd_wl_tup, List.length_map, List.map_cons, List.map_nil, List.replicate, List.set_cons_zero, List.set_cons_succ, List.getElem?_cons_zero, List.getElem?_cons_succ, List.cons_append, List.nil_append, List.length_cons, List.length_nil, Option.bind_some, Option.map_some, ↓reduceIte, Nat.reduceAdd, Nat.reduceSub, Nat.reduceLT, Nat.reduceLeDiff, Nat.zero_add, decide_eq_true_eq, Bool.not_eq_true, ne_eq, reduceCtorEq, not_false_eq_true, true_and, and_true, Bool.false_eq_true, Bool.not_true, Bool.not_false, decide_true, decide_false, not_true_eq_false, eq_self, Bool.not_eq_eq_eq_not, if_true, if_false, decide_eq_false_iff_not, ML.ncast, Int.reduceToNat, Int.reducePow, Int.reduceAdd, Int.reduceSub, Int.reduceMul, Int.reduceNeg, Int.reduceLT, Int.reduceLE, Int.reduceEq, Nat.reduceEqDiff, Int.zero_add, gt_iff_lt, beq_self_eq_true, Bool.true_beq, Bool.false_beq, Bool.and_true, Bool.and_false, Bool.true_and, Bool.false_and, ↓ML.l_mtInsert, ↓ML.l_mtReverse, ↓ML.l_mtClear, ↓ML.l_bSortU, ↓ML.q_mMt0, ↓ML.l_bMaxL, ↓ML.l_bMinL, ↓ML.l_aLt_int, ↓ML.l_aLt_u, ↓ML.l_aGt_int, ↓ML.l_aGt_u, ↓ML.l_aLe_int, ↓ML.l_aLe_u, ↓ML.l_aGe_int, ↓ML.l_aGe_u, ↓ML.l_bMaxA_int, ↓ML.l_bMaxA_u, ↓ML.l_bMinA_int, ↓ML.l_bMinA_u, ML.tup_u, ML.tupOf_u, ML.seqOf_u, ML.sqI_u, ML.look_u, ML.isN_u, ML.lenD_u, ML.tyD_u, ML.tup_uw, ML.tupOf_uw, ML.seqOf_uw, ML.sqI_uw, ML.look_uw, ML.isN_uw, ML.lenD_uw, ML.tyD_uw, ML.eqOk_u, ML.eqOk_uw, ML.deq_u, ML.deq_uw, ML.in_uw, ↓ML.l_mRaise, ↓ML.l_mTry, ↓ML.l_mIsE, ↓ML.l_mIsV, ↓ML.l_mtCount, ↓ML.l_rAddS_rl, ↓ML.l_rAddS_ll, ML.excD_ref, ML.excOf_exc, ML.blsOf_nil, ML.blsOf_cons, ML.endM_nx, ML.endM_rt, ↓ML.l_mYes, ↓ML.l_iS, ↓ML.l_mIfJ, ↓ML.l_mJ, ↓ML.CrollP_nil, ↓ML.CrollP_cons, ↓ML.CrA_at, ↓ML.FrollP_nil, ↓ML.FrollP_cons, ML.isN_non, ML.isN_int, ML.isN_bl, ML.isN_str, ML.isN_tup, ML.isN_lst, ML.isN_ref, ML.sqI_tup, ML.sqI_lst, ML.sqI_scr, ML.sqI_ref, ML.sqI_at, ML.rngD_0, ML.rngD_1, ML.rngD_2, ML.rngD_3, ML.rngD_4, ML.rngD_6, ML.q_wipeM_nil, ML.q_wipeM_cons, FL.sqI_sp, FL.sqI_wl] $[$l]?)
local macro_rules | `(tactic| simp $c:optConfig $[$d:discharger]? only [gg, $ls,*] $[$l:location]?) => `(tactic| simp $c $[$d]? only [↓ML.q_mSeq, ↓ML.q_mC, ↓ML.q_mOp, ↓ML.q_mUn, ↓ML.q_mTst, ↓ML.q_mNot, ↓ML.q_mNotV, ↓ML.q_mRet, ↓ML.q_mRetN, ↓ML.q_mExpr, ↓ML.q_mNext, ↓ML.q_mBreak, ↓ML.q_mCont, ↓ML.q_mAsg, ↓ML.q_gSb, ↓ML.q_mTup, ↓ML.q_mLst, ↓ML.q_mLstF, ↓ML.q_mCons, ↓ML.q_mNil, ↓ML.q_mBlt, ↓ML.q_rEqM, ↓ML.q_rNeM, ↓ML.q_iR1, ↓ML.q_iR2, ↓ML.q_iEn, ↓ML.q_iZp, ↓ML.q_mMt, ↓ML.q_mMt0, ↓ML.q_mYes, ↓ML.q_mCut, ↓ML.q_oNo, ↓ML.q_oSo, ↓ML.l_mCall, ↓ML.l_mAnd, ↓ML.l_mOr, ↓ML.l_mAndV, ↓ML.l_mOrV, ↓ML.l_mIf, ↓ML.l_mIfS, ↓ML.l_mChain, ↓ML.l_mVar, ↓ML.l_mFor, ↓ML.l_mWhile, ↓ML.l_mComp, ↓ML.l_mCompF, ↓ML.l_optP, ↓ML.l_Go, ↓ML.Hold_v, ↓ML.l_mSet, ↓ML.l_gNm, ↓ML.l_mPar, ↓ML.l_rIxM, ↓ML.l_rSetM, ↓ML.l_rInt, ↓ML.l_rInt0, ↓ML.l_rAdd_int, ↓ML.l_rAdd_str, ↓ML.l_rAdd_tup, ↓ML.l_rNeg, ↓ML.l_rIsN, ↓ML.l_rNotN, ↓ML.l_rIsBM, ↓ML.l_mTru, ↓ML.l_bLen, ↓ML.l_bAbs, ↓ML.l_bMax2, ↓ML.l_bMin2, ↓ML.l_bInt_i, ↓ML.l_bInt_b, ↓ML.l_bTuple, ↓ML.l_bListF, ↓ML.l_bList, ↓ML.l_mIsi, ↓ML.l_iL, ↓ML.l_iT, ↓ML.l_gTp, ↓ML.l_gLs, ↓ML.l_gCn, ↓ML.l_gNl, ↓ML.l_mtAppend, ML.Hold_v, ML.l_mVar_z, ML.l_mVar_s, ML.OptP_some, ML.Go_eq, ML.IteP_true, ML.IteP_false, ML.lstOf_ref', ML.lstOf_lst, ML.lstOf_scr, ML.lstOf_tup, ML.ownOf_ref', ML.ownOf_lst, ML.seqOf_tup', ML.seqOf_lst', ML.seqOf_scr', ML.seqOf_ref', ML.olP_lst, ML.tupOf_tup, ML.ixL_lit, ML.ixL_cast, ML.ixL_m1, ML.setAt_lit, ML.setAt_cast, ML.truD_bl, ML.truD_int, ML.truD_tup, ML.truD_lst, ML.truD_scr, ML.truD_non, ML.lenD_tup, ML.lenD_lst, ML.lenD_scr, ML.lenD_ref, ML.tyD_non, ML.tyD_bl, ML.tyD_int, ML.tyD_str, ML.tyD_tup, ML.tyD_lst, ML.szl, ML.szlt, ML.cpow_lit, ML.mulok_rl, ML.mulok_ll, ML.divok_l, ML.put_same, ML.put_put, ML.q_wipeM, ML.deq_int, ML.deq_bl, ML.deq_str, ML.deq_non, ML.eqOk_int, ML.eqOk_bl, ML.isTy_NoneType_int, ML.isTy_NoneType_bool, ML.isTy_NoneType_tuple, ML.isTy_NoneType_list, ML.isTy_NoneType_str, ML.isTy_bool_int, ML.isTy_bool_bool, ML.isTy_bool_tuple, ML.isTy_bool_list, ML.isTy_bool_str, ML.isTy_int_int, ML.isTy_int_bool, ML.isTy_int_tuple, ML.isTy_int_list, ML.isTy_int_str, ML.isTy_str_int, ML.isTy_str_bool, ML.isTy_str_tuple, ML.isTy_str_list, ML.isTy_str_str, ML.isTy_tuple_int, ML.isTy_tuple_bool, ML.isTy_tuple_tuple, ML.isTy_tuple_list, ML.isTy_tuple_str, ML.isTy_list_int, ML.isTy_list_bool, ML.isTy_list_tuple, ML.isTy_list_list, ML.isTy_list_str, ML.isTy_dict_int, ML.isTy_dict_bool, ML.isTy_dict_tuple, ML.isTy_dict_list, ML.isTy_dict_str, FL.tup_fr, FL.tup_sp, FL.tup_wl, FL.tupOf_fr, FL.tupOf_sp, FL.tupOf_wl, FL.nz0, FL.nz1, FL.nz2, FL.nz3, FL.look_non, FL.look_int, FL.look_bl, FL.look_str, FL.look_tup, FL.look_lst, FL.look_scr, FL.seqOf_fr, FL.seqOf_sp, FL.seqOf_wl, FL.look_fr, FL.look_sp, FL.look_wl, FL.eqOk_fr, FL.eqOk_sp, FL.eqOk_wl, FL.deq_fr, FL.deq_sp, FL.deq_wl, FL.tyD_fr, FL.tyD_sp, FL.tyD_wl, FL.isN_fr, FL.isN_sp, FL.isN_wl, FL.lenD_sp, FL.lenD_wl, FL.rAdd_wl_tup, List.length_map, List.map_cons, List.map_nil, List.replicate, List.set_cons_zero, List.set_cons_succ, List.getElem?_cons_zero, List.getElem?_cons_succ, List.cons_append, List.nil_append, List.length_cons, List.length_nil, Option.bind_some, Option.map_some, ↓reduceIte, Nat.reduceAdd, Nat.reduceSub, Nat.reduceLT, Nat.reduceLeDiff, Nat.zero_add, decide_eq_true_eq, Bool.not_eq_true, ne_eq, reduceCtorEq, not_false_eq_true, true_and, and_true, Bool.false_eq_true, Bool.not_true, Bool.not_false, decide_true, decide_false, not_true_eq_false, eq_self, Bool.not_eq_eq_eq_not, if_true, if_false, decide_eq_false_iff_not, ML.ncast, Int.reduceToNat, Int.reducePow, Int.reduceAdd, Int.reduceSub, Int.reduceMul, Int.reduceNeg, Int.reduceLT, Int.reduceLE, Int.reduceEq, Nat.reduceEqDiff, Int.zero_add, gt_iff_lt, beq_self_eq_true, Bool.true_beq, Bool.false_beq, Bool.and_true, Bool.and_false, Bool.true_and, Bool.false_and, ↓ML.l_mtInsert, ↓ML.l_mtReverse, ↓ML.l_mtClear, ↓ML.l_bSortU, ↓ML.q_mMt0, ↓ML.l_bMaxL, ↓ML.l_bMinL, ↓ML.l_aLt_int, ↓ML.l_aLt_u, ↓ML.l_aGt_int, ↓ML.l_aGt_u, ↓ML.l_aLe_int, ↓ML.l_aLe_u, ↓ML.l_aGe_int, ↓ML.l_aGe_u, ↓ML.l_bMaxA_int, ↓ML.l_bMaxA_u, ↓ML.l_bMinA_int, ↓ML.l_bMinA_u, ML.tup_u, ML.tupOf_u, ML.seqOf_u, ML.sqI_u, ML.look_u, ML.isN_u, ML.lenD_u, ML.tyD_u, ML.tup_uw, ML.tupOf_uw, ML.seqOf_uw, ML.sqI_uw, ML.look_uw, ML.isN_uw, ML.lenD_uw, ML.tyD_uw, ML.eqOk_u, ML.eqOk_uw, ML.deq_u, ML.deq_uw, ML.in_uw, ↓ML.l_mRaise, ↓ML.l_mTry, ↓ML.l_mIsE, ↓ML.l_mIsV, ↓ML.l_mtCount, ↓ML.l_rAddS_rl, ↓ML.l_rAddS_ll, ML.excD_ref, ML.excOf_exc, ML.blsOf_nil, ML.blsOf_cons, ML.endM_nx, ML.endM_rt, ↓ML.l_mYes, ↓ML.l_iS, ↓ML.l_mIfJ, ↓ML.l_mJ, ↓ML.CrollP_nil, ↓ML.CrollP_cons, ↓ML.CrA_at, ↓ML.FrollP_nil, ↓ML.FrollP_cons, ML.isN_non, ML.isN_int, ML.isN_bl, ML.isN_str, ML.isN_tup, ML.isN_lst, ML.isN_ref, ML.sqI_tup, ML.sqI_lst, ML.sqI_scr, ML.sqI_ref, ML.sqI_at, ML.rngD_0, ML.rngD_1, ML.rngD_2, ML.rngD_3, ML.rngD_4, ML.rngD_6, ML.q_wipeM_nil, ML.q_wipeM_cons, FL.sqI_sp, FL.sqI_wl, $ls,*] $[$l]?)
theorem l_spot_of_lines : ∀ ds S Q E, FL.sp_spot_of_lines ds S Q E → ds.length = 2 := by rintro _ _ _ _ ⟨_, _, rfl, _⟩; rfl
theorem l_meeting_in_line : ∀ ds S Q E, FL.sp_meeting_in_line ds S Q E → ds.length = 2 := by rintro _ _ _ _ ⟨_, _, rfl, _⟩; rfl
theorem l_meeting : ∀ ds S Q E, FL.sp_meeting ds S Q E → ds.length = 2 := by rintro _ _ _ _ ⟨_, _, rfl, _⟩; rfl
theorem l_cross : ∀ ds S Q E, FL.sp_cross ds S Q E → ds.length = 2 := by rintro _ _ _ _ ⟨_, _, rfl, _⟩; rfl
theorem l_umeet : ∀ ds S Q E, FL.sp_umeet ds S Q E → ds.length = 2 := by rintro _ _ _ _ ⟨_, _, rfl, _⟩; rfl
theorem r_spot_of_lines : ∀ ds S Q E, FL.sp_spot_of_lines ds S Q E → b_spot_of_lines (mends Q E) (mstart 2 ds) S := by
  rintro _ S Q E ⟨a, b, rfl, h1, h2, hc, k⟩
  unfold b_spot_of_lines
  simp only [ML.q_mstart, ML.q_mends, List.map_cons, List.map_nil, List.replicate, List.cons_append, List.nil_append]
  simp (disch := (first | assumption | omega)) only [gw]
  exact k
theorem maxP_bd {p q : Pt} {n : Nat} (h1 : BP p n) (h2 : BP q n) : BP (maxP p q) n := by unfold maxP; split <;> assumption
theorem minP_bd {p q : Pt} {n : Nat} (h1 : BP p n) (h2 : BP q n) : BP (minP p q) n := by unfold minP; split <;> assumption
theorem r_meeting_in_line : ∀ ds S Q E, FL.sp_meeting_in_line ds S Q E → b_meeting_in_line (mends Q E) (mstart 2 ds) S := by
  rintro _ S Q E ⟨a, b, rfl, h1, h2, k⟩
  unfold b_meeting_in_line
  simp only [ML.q_mstart, ML.q_mends, List.map_cons, List.map_nil, List.replicate, List.cons_append, List.nil_append]
  simp (disch := (first | assumption | omega)) only [gw]
  have fin : ∀ m, m = inLine a b → Q (meD m) S := by rintro _ rfl; exact k
  refine ⟨fun hs => ?_, fun hs => ?_⟩
  · simp (disch := (first | assumption | omega)) only [gw]
    exact fin .no (by unfold inLine; rw [if_pos hs])
  simp (disch := (first | assumption | omega)) only [gw]
  refine jf (fun σ' S' => @KP ⟨σ' = [some (wlD a), some (wlD b), some (spD (maxP a.1 b.1)), none] ∧ S' = S⟩) (fun z => ?_) (fun z => ?_) ?_
  · simp (disch := (first | assumption | omega)) only [gw]
    exact KP.mk ⟨by unfold maxP; rw [if_pos z], rfl⟩
  · simp (disch := (first | assumption | omega)) only [gw]
    exact KP.mk ⟨by unfold maxP; rw [if_neg z], rfl⟩
  rintro _ S1 ⟨rfl, rfl⟩
  simp (disch := (first | assumption | omega)) only [gw]
  refine jf (fun σ' S' => @KP ⟨σ' = [some (wlD a), some (wlD b), some (spD (maxP a.1 b.1)), some (spD (minP a.2 b.2))] ∧ S' = S1⟩) (fun z => ?_) (fun z => ?_) ?_
  · simp (disch := (first | assumption | omega)) only [gw]
    exact KP.mk ⟨by unfold minP; rw [if_pos z], rfl⟩
  · simp (disch := (first | assumption | omega)) only [gw]
    exact KP.mk ⟨by unfold minP; rw [if_neg z], rfl⟩
  rintro _ S2 ⟨rfl, rfl⟩
  have z1 : BP (maxP a.1 b.1) 200 := maxP_bd h1.f h2.f
  have z2 : BP (minP a.2 b.2) 200 := minP_bd h1.s h2.s
  simp (disch := (first | assumption | omega)) only [gw]
  refine ⟨fun z => ?_, fun z => ?_⟩
  · simp (disch := (first | assumption | omega)) only [gw]
    exact fin (.spot (maxP a.1 b.1)) (by unfold inLine; rw [if_neg hs, if_pos z])
  simp (disch := (first | assumption | omega)) only [gw]
  refine ⟨fun y => ?_, fun y => ?_⟩
  · simp (disch := (first | assumption | omega)) only [gw]
    exact fin (.stretch (maxP a.1 b.1, minP a.2 b.2)) (by unfold inLine; rw [if_neg hs, if_neg z, if_pos y])
  · simp (disch := (first | assumption | omega)) only [gw]
    exact fin .no (by unfold inLine; rw [if_neg hs, if_neg z, if_neg y])
theorem r_meeting : ∀ ds S Q E, FL.sp_meeting ds S Q E → b_meeting (mends Q E) (mstart 1 ds) S := by
  rintro _ S Q E ⟨a, b, rfl, h1, h2, hs, k⟩
  unfold b_meeting
  simp only [ML.q_mstart, ML.q_mends, List.map_cons, List.map_nil, List.replicate, List.cons_append, List.nil_append]
  simp (disch := (first | assumption | omega)) only [gw]
  rw [sgn_0]
  have fin : ∀ m, m = meetW a b → Q (meD m) S := by rintro _ rfl; exact k
  refine ⟨fun hc => ?_, fun hc => ?_⟩
  · simp (disch := (first | assumption | omega)) only [gw]
    exact ⟨a, b, rfl, h1, h2, fin _ (by unfold meetW; rw [if_pos hc])⟩
  simp (disch := (first | assumption | omega)) only [gw]
  refine ⟨a, b, rfl, h1, h2, hc, ?_⟩
  have hz := hs hc
  simp (disch := (first | assumption | omega)) only [gw]
  refine ⟨fun y => ?_, fun y => ?_⟩
  · simp (disch := (first | assumption | omega)) only [gw]
    refine ⟨fun x => ?_, fun x => ?_⟩
    · simp (disch := (first | assumption | omega)) only [gw]
      exact fin (.spot (solW a b)) (by unfold meetW; rw [if_neg hc, if_pos ⟨y, x⟩])
    · simp (disch := (first | assumption | omega)) only [gw]
      exact fin .no (by unfold meetW; rw [if_neg hc, if_neg (fun z => x z.2)])
  · simp (disch := (first | assumption | omega)) only [gw]
    exact fin .no (by unfold meetW; rw [if_neg hc, if_neg (fun z => y z.1)])
theorem t_cross {a b : U2} {S : Sto} {Q : Hold MQ} {E : Hold MXQ} (ha : UOk (2 ^ 30) a) (hb : UOk (2 ^ 30) b) (k : Q.v (.int (ucross a b)) S) : @CallP sp_cross [uD a, uD b] S Q E := ⟨a, b, rfl, ha, hb, k⟩
theorem r_cross : ∀ ds S Q E, FL.sp_cross ds S Q E → b_cross (mends Q E) (mstart 0 ds) S := by
  rintro _ S Q E ⟨a, b, rfl, ⟨a1, a2, a3, a4⟩, ⟨b1, b2, b3, b4⟩, k⟩
  unfold b_cross
  simp only [ML.q_mstart, ML.q_mends, List.map_cons, List.map_nil, List.replicate, List.cons_append, List.nil_append]
  simp only [gg]
  exact ⟨mulok_l (by omega) (by omega), mulok_l (by omega) (by omega), k⟩
theorem r_umeet : ∀ ds S Q E, FL.sp_umeet ds S Q E → b_umeet (mends Q E) (mstart 7 ds) S := by
  rintro _ S Q E ⟨a, b, rfl, ⟨⟨a1, a2, a3, a4⟩, ⟨a5, a6, a7, a8⟩⟩, ⟨⟨b1, b2, b3, b4⟩, ⟨b5, b6, b7, b8⟩⟩, ua, ub, k⟩
  have of : UOk (2 ^ 30) (a.2.1 - a.1.1, a.2.2 - a.1.2) := ⟨by simp only; omega, by simp only; omega, by simp only; omega, by simp only; omega⟩
  have ob : UOk (2 ^ 30) (b.2.1 - b.1.1, b.2.2 - b.1.2) := ⟨by simp only; omega, by simp only; omega, by simp only; omega, by simp only; omega⟩
  have og : UOk (2 ^ 30) (b.1.1 - a.1.1, b.1.2 - a.1.2) := ⟨by simp only; omega, by simp only; omega, by simp only; omega, by simp only; omega⟩
  have bd : ∀ x y : Int, -1000 ≤ x → x ≤ 1000 → -1000 ≤ y → y ≤ 1000 → -(2 ^ 20) ≤ x * y ∧ x * y ≤ 2 ^ 20 := by
    intro x y x1 x2 y1 y2
    have : (x * y).natAbs < 2 ^ 20 := natAbs_mul_lt (a := 10) (b := 10) (by omega) (by omega)
    omega
  unfold b_umeet
  simp only [ML.q_mstart, ML.q_mends, List.map_cons, List.map_nil, List.replicate, List.cons_append, List.nil_append]
  simp only [gg]
  refine t_cross of ob ?_
  have cD := ucross_crs a.1 a.2 b.1 b.2
  have cP := ucross_crs a.1 b.1 b.1 b.2
  have cS := ucross_crs a.1 b.1 a.1 a.2
  have cL := ucross_crs a.1 a.2 a.1 b.1
  have bD := bd (a.2.1 - a.1.1) (b.2.2 - b.1.2) (by omega) (by omega) (by omega) (by omega)
  have bD2 := bd (a.2.2 - a.1.2) (b.2.1 - b.1.1) (by omega) (by omega) (by omega) (by omega)
  have bD' : -(2 ^ 21) ≤ ucross (a.2.1 - a.1.1, a.2.2 - a.1.2) (b.2.1 - b.1.1, b.2.2 - b.1.2) ∧ ucross (a.2.1 - a.1.1, a.2.2 - a.1.2) (b.2.1 - b.1.1, b.2.2 - b.1.2) ≤ 2 ^ 21 := by
    simp only [ucross]; omega
  generalize ucross (a.2.1 - a.1.1, a.2.2 - a.1.2) (b.2.1 - b.1.1, b.2.2 - b.1.2) = D at cD bD'
  simp only [gg]
  refine ⟨fun hD => ?_, fun hD => ?_⟩
  · have hc : crs (alng (ofW a)) (alng (ofW b)) = 0 := by
      show crs (alng (ofU a.1, ofU a.2)) (alng (ofU b.1, ofU b.2)) = 0
      rw [← cD, hD]; rfl
    simp only [gg]
    refine t_cross of og ?_
    have hs : side (ofW a) (ofW b).1 = 0 ↔ ucross (a.2.1 - a.1.1, a.2.2 - a.1.2) (b.1.1 - a.1.1, b.1.2 - a.1.2) = 0 := by
      rw [side_cx, sgn_0]
      show crs (alng (ofU a.1, ofU a.2)) (alng (ofU a.1, ofU b.1)) = 0 ↔ _
      rw [← cL]
      exact_mod_cast Iff.rfl
    have e1 : maxP (ofW a).1 (ofW b).1 = ofU (if ult a.1 b.1 then b.1 else a.1) := maxP_ofU _ _
    have e2 : minP (ofW a).2 (ofW b).2 = ofU (if ult b.2 a.2 then b.2 else a.2) := minP_ofU _ _
    have w1 : UOk 500 (if ult a.1 b.1 then b.1 else a.1) := by split <;> exact ⟨by omega, by omega, by omega, by omega⟩
    have w2 : UOk 500 (if ult b.2 a.2 then b.2 else a.2) := by split <;> exact ⟨by omega, by omega, by omega, by omega⟩
    have fin : ∀ m, UMOk m → umW m = inLine (ofW a) (ofW b) → Q (umD m) S := fun m h1 h2 => k m h1 (by unfold meetW; rw [if_pos hc]; exact h2)
    unfold inLine at fin
    rw [e1, e2] at fin
    simp only [ne_eq, hs, ofU_inj, ahead_ofU] at fin
    generalize (if ult a.1 b.1 then b.1 else a.1) = F at fin w1
    generalize (if ult b.2 a.2 then b.2 else a.2) = T at fin w2
    simp only [gg]
    refine ⟨fun hx => ?_, fun hx => ?_⟩
    · simp only [gg]
      exact fin .no trivial (by rw [if_pos hx]; rfl)
    simp only [Decidable.not_not] at hx
    rw [if_neg (fun z => z hx)] at fin
    simp only [gg]
    refine ⟨fun hy => ?_, fun hy => ?_⟩
    · simp only [gg]
      refine fin .no trivial ?_
      have n1 : ¬ F = T := fun z => by rw [z] at hy; exact ult_irrefl _ hy
      rw [if_neg n1, if_neg (ult_asymm hy)]; rfl
    simp only [gg]
    refine ⟨fun hz => ?_, fun hz => ?_⟩
    · simp only [gg]
      obtain ⟨f1, f2, f3, f4⟩ := w1
      refine fin (.spot ⟨F.1, F.2, 1⟩) ⟨by simp only; omega, by simp only; omega, by simp only; omega, by simp only; omega, by simp only; omega, by simp only; omega⟩ ?_
      rw [if_pos hz]
      simp only [umW, ofT, ofU]
      congr 1
      apply Prod.ext <;> simp only <;> grind
    · simp only [gg]
      refine fin (.stretch (F, T)) ⟨w1, w2⟩ ?_
      rw [if_neg hz, if_pos (by rcases ult_tri hz with z | z; exact z; exact absurd z hy)]; rfl
  · have hc : crs (alng (ofW a)) (alng (ofW b)) ≠ 0 := by
      show crs (alng (ofU a.1, ofU a.2)) (alng (ofU b.1, ofU b.2)) ≠ 0
      rw [← cD]; intro z; exact hD (by exact_mod_cast z)
    have fin : ∀ m, UMOk m → umW m = (if liesOn (ofW a) (solW (ofW a) (ofW b)) ∧ liesOn (ofW b) (solW (ofW a) (ofW b)) then .spot (solW (ofW a) (ofW b)) else .no) → Q (umD m) S := fun m h1 h2 => k m h1 (by unfold meetW; rw [if_neg hc]; exact h2)
    simp only [gg]
    refine t_cross og ob ?_
    simp only [gg]
    refine t_cross og of ?_
    have bP1 := bd (b.1.1 - a.1.1) (b.2.2 - b.1.2) (by omega) (by omega) (by omega) (by omega)
    have bP2 := bd (b.1.2 - a.1.2) (b.2.1 - b.1.1) (by omega) (by omega) (by omega) (by omega)
    have bR1 := bd (b.1.1 - a.1.1) (a.2.2 - a.1.2) (by omega) (by omega) (by omega) (by omega)
    have bR2 := bd (b.1.2 - a.1.2) (a.2.1 - a.1.1) (by omega) (by omega) (by omega) (by omega)
    have bP : -(2 ^ 21) ≤ ucross (b.1.1 - a.1.1, b.1.2 - a.1.2) (b.2.1 - b.1.1, b.2.2 - b.1.2) ∧ ucross (b.1.1 - a.1.1, b.1.2 - a.1.2) (b.2.1 - b.1.1, b.2.2 - b.1.2) ≤ 2 ^ 21 := by
      simp only [ucross]; omega
    have bR : -(2 ^ 21) ≤ ucross (b.1.1 - a.1.1, b.1.2 - a.1.2) (a.2.1 - a.1.1, a.2.2 - a.1.2) ∧ ucross (b.1.1 - a.1.1, b.1.2 - a.1.2) (a.2.1 - a.1.1, a.2.2 - a.1.2) ≤ 2 ^ 21 := by
      simp only [ucross]; omega
    generalize ucross (b.1.1 - a.1.1, b.1.2 - a.1.2) (b.2.1 - b.1.1, b.2.2 - b.1.2) = P at cP bP
    generalize ucross (b.1.1 - a.1.1, b.1.2 - a.1.2) (a.2.1 - a.1.1, a.2.2 - a.1.2) = R at cS bR
    simp only [gg]
    refine jf (fun σ' S' => @KP ⟨σ' = [some (uwD a), some (uwD b), some (uD (a.2.1 - a.1.1, a.2.2 - a.1.2)), some (uD (b.2.1 - b.1.1, b.2.2 - b.1.2)), some (uD (b.1.1 - a.1.1, b.1.2 - a.1.2)), some (.int D), none, none, some (.lst [.int (if D < 0 then -P else P), .int (if D < 0 then -R else R)])] ∧ S' = S⟩) (fun z => ?_) (fun z => ?_) ?_
    · simp only [gg]
      exact KP.mk ⟨by rw [if_pos z, if_pos z], rfl⟩
    · simp only [gg]
      exact KP.mk ⟨by rw [if_neg z, if_neg z], rfl⟩
    have dP := div_range (p := P) hD
    have dR := div_range (p := R) hD
    have bP' : -(2 ^ 21) ≤ (if D < 0 then -P else P) ∧ (if D < 0 then -P else P) ≤ 2 ^ 21 := by split <;> omega
    have aP : atP (ofW a) ((P : Rat) / D) = ofT ⟨a.1.1 * D.natAbs + (if D < 0 then -P else P) * (a.2.1 - a.1.1), a.1.2 * D.natAbs + (if D < 0 then -P else P) * (a.2.2 - a.1.2), D.natAbs⟩ := by
      have hD' : (D : Rat) ≠ 0 := by intro z; exact hD (by exact_mod_cast z)
      have eA : ((D.natAbs : Int) : Rat) = if D < 0 then -(D : Rat) else D := by
        split
        · next z => rw [show ((D.natAbs : Nat) : Int) = -D by omega, Rat.intCast_neg]
        · next z => rw [show ((D.natAbs : Nat) : Int) = D by omega]
      have eB : ((if D < 0 then -P else P : Int) : Rat) = if D < 0 then -(P : Rat) else P := by
        split
        · rw [Rat.intCast_neg]
        · rfl
      unfold atP ofT ofW alng ofU
      simp only [Rat.intCast_add, Rat.intCast_mul, Rat.intCast_sub, eA, eB, Prod.mk.injEq]
      by_cases z : D < 0
      · simp only [z, if_true]
        constructor <;> grind
      · simp only [z, if_false]
        constructor <;> grind
    have lA : liesOn (ofW a) (solW (ofW a) (ofW b)) ↔ 0 ≤ (P : Rat) / D ∧ (P : Rat) / D ≤ 1 := by
      have e : solW (ofW a) (ofW b) = atP (ofW a) ((P : Rat) / D) := by
        rw [sol_a, cP, cD]; rfl
      rw [e, liesOn_part ⟨(ahead_ofU _ _).mpr ua⟩]
    have lB : liesOn (ofW b) (solW (ofW a) (ofW b)) ↔ 0 ≤ (R : Rat) / D ∧ (R : Rat) / D ≤ 1 := by
      have e : solW (ofW a) (ofW b) = atP (ofW b) ((R : Rat) / D) := by
        rw [sol_b hc, cS, cD]; rfl
      rw [e, liesOn_part ⟨(ahead_ofU _ _).mpr ub⟩]
    have eS : solW (ofW a) (ofW b) = atP (ofW a) ((P : Rat) / D) := by
      rw [sol_a, cP, cD]; rfl
    simp only [lA, lB, dP, dR] at fin
    simp only [eS, aP] at fin
    generalize (if D < 0 then -P else P) = P1 at fin bP'
    generalize (if D < 0 then -R else R) = R1 at fin
    rintro _ S1 ⟨rfl, rfl⟩
    simp only [gg]
    refine l_bMinL2 ?_
    simp only [gg]
    refine ⟨fun hx => ?_, fun hx => ?_⟩
    · simp only [gg]
      exact fin .no trivial (by rw [if_neg (by omega)]; rfl)
    simp only [gg]
    refine l_bMaxL2 ?_
    simp only [gg]
    refine ⟨fun hy => ?_, fun hy => ?_⟩
    · simp only [gg]
      exact fin .no trivial (by rw [if_neg (by omega)]; rfl)
    have b1 := bd a.1.1 1 (by omega) (by omega) (by omega) (by omega)
    have nb : D.natAbs < 2 ^ 22 := by omega
    have q1 : (a.1.1 * D.natAbs).natAbs < 2 ^ 35 := natAbs_mul_lt (a := 10) (b := 25) (by omega) (by omega)
    have q2 : (a.1.2 * D.natAbs).natAbs < 2 ^ 35 := natAbs_mul_lt (a := 10) (b := 25) (by omega) (by omega)
    have q3 : (P1 * (a.2.1 - a.1.1)).natAbs < 2 ^ 35 := natAbs_mul_lt (a := 22) (b := 13) (by omega) (by omega)
    have q4 : (P1 * (a.2.2 - a.1.2)).natAbs < 2 ^ 35 := natAbs_mul_lt (a := 22) (b := 13) (by omega) (by omega)
    simp only [gg]
    refine ⟨mulok_l (by omega) (by omega), mulok_l (by omega) (by omega), mulok_l (by omega) (by omega), mulok_l (by omega) (by omega), ?_⟩
    have n1 : (1 : Int) ≤ (D.natAbs : Int) := by omega
    have n2 : (D.natAbs : Int) ≤ 2 ^ 24 := by omega
    refine fin (.spot ⟨_, _, _⟩) ⟨by simp only; omega, by simp only; omega, by simp only; omega, by simp only; omega, n1, n2⟩ ?_
    rw [if_pos (by omega)]; rfl
end FL

namespace FL
open PySem PySem.Spec L2 ML
theorem sol_units {a b : UW} (ha : WOk 500 a) (hb : WOk 500 b) (hc : crs (alng (ofW a)) (alng (ofW b)) ≠ 0) : ∃ t, TOk t ∧ solW (ofW a) (ofW b) = ofT t := by
  obtain ⟨⟨a1, a2, a3, a4⟩, ⟨a5, a6, a7, a8⟩⟩ := ha
  obtain ⟨⟨b1, b2, b3, b4⟩, ⟨b5, b6, b7, b8⟩⟩ := hb
  have bd : ∀ x y : Int, -1000 ≤ x → x ≤ 1000 → -1000 ≤ y → y ≤ 1000 → -(2 ^ 20) ≤ x * y ∧ x * y ≤ 2 ^ 20 := by
    intro x y x1 x2 y1 y2
    have : (x * y).natAbs < 2 ^ 20 := natAbs_mul_lt (a := 10) (b := 10) (by omega) (by omega)
    omega
  have cD := ucross_crs a.1 a.2 b.1 b.2
  have cP := ucross_crs a.1 b.1 b.1 b.2
  have bD := bd (a.2.1 - a.1.1) (b.2.2 - b.1.2) (by omega) (by omega) (by omega) (by omega)
  have bD2 := bd (a.2.2 - a.1.2) (b.2.1 - b.1.1) (by omega) (by omega) (by omega) (by omega)
  have bP1 := bd (b.1.1 - a.1.1) (b.2.2 - b.1.2) (by omega) (by omega) (by omega) (by omega)
  have bP2 := bd (b.1.2 - a.1.2) (b.2.1 - b.1.1) (by omega) (by omega) (by omega) (by omega)
  have bD' : -(2 ^ 21) ≤ ucross (a.2.1 - a.1.1, a.2.2 - a.1.2) (b.2.1 - b.1.1, b.2.2 - b.1.2) ∧ ucross (a.2.1 - a.1.1, a.2.2 - a.1.2) (b.2.1 - b.1.1, b.2.2 - b.1.2) ≤ 2 ^ 21 := by
    simp only [ucross]; omega
  have bP : -(2 ^ 21) ≤ ucross (b.1.1 - a.1.1, b.1.2 - a.1.2) (b.2.1 - b.1.1, b.2.2 - b.1.2) ∧ ucross (b.1.1 - a.1.1, b.1.2 - a.1.2) (b.2.1 - b.1.1, b.2.2 - b.1.2) ≤ 2 ^ 21 := by
    simp only [ucross]; omega
  have eS : solW (ofW a) (ofW b) = atP (ofW a) ((ucross (b.1.1 - a.1.1, b.1.2 - a.1.2) (b.2.1 - b.1.1, b.2.2 - b.1.2) : Rat) / (ucross (a.2.1 - a.1.1, a.2.2 - a.1.2) (b.2.1 - b.1.1, b.2.2 - b.1.2) : Int)) := by
    rw [sol_a, cP, cD]; rfl
  have hD : ucross (a.2.1 - a.1.1, a.2.2 - a.1.2) (b.2.1 - b.1.1, b.2.2 - b.1.2) ≠ 0 := by
    intro z; apply hc
    show crs (alng (ofU a.1, ofU a.2)) (alng (ofU b.1, ofU b.2)) = 0
    rw [← cD, z]; rfl
  generalize ucross (a.2.1 - a.1.1, a.2.2 - a.1.2) (b.2.1 - b.1.1, b.2.2 - b.1.2) = D at bD' eS hD
  generalize ucross (b.1.1 - a.1.1, b.1.2 - a.1.2) (b.2.1 - b.1.1, b.2.2 - b.1.2) = P at bP eS
  have hD' : (D : Rat) ≠ 0 := by intro z; exact hD (by exact_mod_cast z)
  have fin : ∀ D P : Int, 0 < D → D ≤ 2 ^ 21 → -(2 ^ 21) ≤ P → P ≤ 2 ^ 21 → ∃ t, TOk t ∧ atP (ofW a) ((P : Rat) / D) = ofT t := by
    intro D P d0 d1 p0 p1
    have hD' : (D : Rat) ≠ 0 := by intro z; have : D = 0 := by exact_mod_cast z
                                   omega
    have q1 : (a.1.1 * D).natAbs < 2 ^ 35 := natAbs_mul_lt (a := 10) (b := 25) (by omega) (by omega)
    have q2 : (a.1.2 * D).natAbs < 2 ^ 35 := natAbs_mul_lt (a := 10) (b := 25) (by omega) (by omega)
    have q3 : (P * (a.2.1 - a.1.1)).natAbs < 2 ^ 35 := natAbs_mul_lt (a := 22) (b := 13) (by omega) (by omega)
    have q4 : (P * (a.2.2 - a.1.2)).natAbs < 2 ^ 35 := natAbs_mul_lt (a := 22) (b := 13) (by omega) (by omega)
    refine ⟨⟨a.1.1 * D + P * (a.2.1 - a.1.1), a.1.2 * D + P * (a.2.2 - a.1.2), D⟩, ⟨by simp only; omega, by simp only; omega, by simp only; omega, by simp only; omega, by simp only; omega, by simp only; omega⟩, ?_⟩
    unfold atP ofT ofW alng ofU
    simp only [Rat.intCast_add, Rat.intCast_mul, Rat.intCast_sub, Prod.mk.injEq]
    constructor <;> grind
  rw [eS]
  by_cases h : 0 < D
  · exact fin D P h (by omega) (by omega) (by omega)
  · obtain ⟨t, h1, h2⟩ := fin (-D) (-P) (by omega) (by omega) (by omega) (by omega)
    refine ⟨t, h1, ?_⟩
    rw [← h2]
    congr 1
    rw [Rat.intCast_neg, Rat.intCast_neg]
    grind
theorem sol_bd {s : Sc} {a b : UW} (hs : ScOk s) (ha : WOk 500 a) (hb : WOk 500 b) (hc : crs (alng (afw s (ofW a))) (alng (afw s (ofW b))) ≠ 0) : BP (solW (afw s (ofW a)) (afw s (ofW b))) 400 := by
  have hc' : crs (alng (ofW a)) (alng (ofW b)) ≠ 0 := fun z => hc ((crs_af0 hs _ _).mpr z)
  obtain ⟨t, ht, e⟩ := sol_units ha hb hc'
  rw [sol_af hs hc', e]
  exact (bp_afT hs ht).mono (by decide)
theorem plain_me (m : Meet) : D.plain (meD m) = true := by
  have h1 : PyData.strOk "spot" = true := by decide +kernel
  have h2 : PyData.strOk "stretch" = true := by decide +kernel
  cases m <;> simp [meD, D.plain, D.plains, plain_sp, plain_wl, h1, h2]
theorem dep_me (m : Meet) : D.dep (meD m) ≤ 4 := by
  cases m <;> simp [meD, D.dep, D.deps, dep_sp, dep_wl]
theorem eqOk_me {m n : Meet} : eqOk (meD m) (meD n) = true := eqOk_of (plain_me m) (plain_me n) (by have := dep_me m; omega) (by have := dep_me n; omega)
theorem deq_me {m n : Meet} : D.deq (meD m) (meD n) = decide (m = n) := by
  have hne : ¬ (("spot" : Str) = "stretch") := by decide +kernel
  have hne2 : ¬ (("stretch" : Str) = "spot") := by decide +kernel
  cases m <;> cases n <;> simp [meD, D.deq, D.deqs, deq_sp, deq_wl, hne, hne2]
theorem look_me {S : Sto} {m : Meet} : look S (meD m) = meD m := by cases m <;> rfl
theorem isN_me {m : Meet} : isN (meD m) = decide (m = .no) := by cases m <;> simp [meD, isN]
theorem t_meeting {a b : Wl} {S : Sto} {Q : Hold MQ} {E : Hold MXQ} (ha : BW a 200) (hb : BW b 200) (hs : crs (alng a) (alng b) ≠ 0 → BP (solW a b) 400) (k : Q.v (meD (meetW a b)) S) : @CallP sp_meeting [wlD a, wlD b] S Q E := ⟨a, b, rfl, ha, hb, hs, k⟩
end FL

namespace FL
open PySem PySem.Spec L2 ML
/-! ### rows of spots -/
def ins (s : Pt) : List Pt → List Pt
  | [] => [s]
  | t :: r => if ahead t s then t :: ins s r else if t = s then t :: r else s :: t :: r
def insAll (ps : List Pt) (acc : List Pt) : List Pt := ps.foldl (fun r s => ins s r) acc
def endsW (ws : List Wl) : List Pt := ws.flatMap fun w => [w.1, w.2]
def cornersW (ws : List Wl) : List Pt := insAll (endsW ws) []
abbrev Srt (ps : List Pt) : Prop := ps.Pairwise ahead
theorem mem_ins {s t : Pt} : ∀ {ps : List Pt}, t ∈ ins s ps ↔ t = s ∨ t ∈ ps
  | [] => by simp [ins]
  | p :: ps => by
    unfold ins
    split
    · simp only [List.mem_cons, mem_ins (ps := ps)]
      constructor
      · rintro (h | h | h) <;> simp [h]
      · rintro (h | h | h) <;> simp [h]
    · split
      · next e => subst e; simp
      · simp
theorem srt_ins {s : Pt} : ∀ {ps : List Pt}, Srt ps → Srt (ins s ps)
  | [], _ => List.pairwise_singleton ..
  | p :: ps, h => by
    replace h := List.pairwise_cons.mp h
    unfold ins
    split
    · next z =>
      refine List.pairwise_cons.mpr ⟨fun t ht => ?_, srt_ins h.2⟩
      rcases mem_ins.mp ht with e | e
      · rw [e]; exact z
      · exact h.1 t e
    · split
      · exact List.pairwise_cons.mpr h
      · next z n =>
        have y : ahead s p := by
          rcases ahead_tri s p with y | y | y
          · exact y
          · exact absurd y.symm n
          · exact absurd y z
        refine List.pairwise_cons.mpr ⟨fun t ht => ?_, List.pairwise_cons.mpr h⟩
        rcases List.mem_cons.mp ht with e | e
        · rw [e]; exact y
        · exact ahead_trans y (h.1 t e)
theorem srt_all {ps : List Pt} : ∀ {acc : List Pt}, Srt acc → Srt (insAll ps acc) := by
  induction ps with
  | nil => intro acc h; exact h
  | cons p ps ih => intro acc h; exact ih (srt_ins h)
theorem mem_all {ps : List Pt} {t : Pt} : ∀ {acc : List Pt}, t ∈ insAll ps acc ↔ t ∈ ps ∨ t ∈ acc := by
  induction ps with
  | nil => intro acc; simp [insAll]
  | cons p ps ih =>
    intro acc
    show t ∈ insAll ps (ins p acc) ↔ _
    rw [ih, mem_ins, List.mem_cons]
    constructor
    · rintro (h | h | h) <;> simp [h]
    · rintro ((h | h) | h) <;> simp [h]
theorem len_ins {s : Pt} : ∀ {ps : List Pt}, (ins s ps).length ≤ ps.length + 1
  | [] => Nat.le_refl _
  | p :: ps => by
    unfold ins
    split
    · have := len_ins (s := s) (ps := ps); simp only [List.length_cons]; omega
    · split <;> simp only [List.length_cons] <;> omega
/-- two rising rows of the same spots are the same -/
theorem srt_ext : ∀ {ps qs : List Pt}, Srt ps → Srt qs → (∀ t, t ∈ ps ↔ t ∈ qs) → ps = qs
  | [], [], _, _, _ => rfl
  | [], q :: qs, _, _, h => by have := (h q).mpr List.mem_cons_self; cases this
  | p :: ps, [], _, _, h => by have := (h p).mp List.mem_cons_self; cases this
  | p :: ps, q :: qs, h1, h2, h => by
    replace h1 := List.pairwise_cons.mp h1
    replace h2 := List.pairwise_cons.mp h2
    have e : p = q := by
      rcases List.mem_cons.mp ((h p).mp List.mem_cons_self) with z | z
      · exact z
      · rcases List.mem_cons.mp ((h q).mpr List.mem_cons_self) with y | y
        · exact y.symm
        · exact absurd (h1.1 q y) (ahead_asymm (h2.1 p z))
    subst e
    congr 1
    refine srt_ext h1.2 h2.2 fun t => ?_
    constructor
    · intro ht
      rcases List.mem_cons.mp ((h t).mp (List.mem_cons_of_mem _ ht)) with z | z
      · subst z; exact absurd (h1.1 t ht) (ahead_irrefl t)
      · exact z
    · intro ht
      rcases List.mem_cons.mp ((h t).mpr (List.mem_cons_of_mem _ ht)) with z | z
      · subst z; exact absurd (h2.1 t ht) (ahead_irrefl t)
      · exact z
/-- so many are ahead -/
def Pass (ps : List Pt) (s : Pt) (k : Nat) : Prop := k ≤ ps.length ∧ (∀ i (h : i < ps.length), i < k → ahead ps[i] s) ∧ (∀ i (h : i < ps.length), k ≤ i → ¬ ahead ps[i] s)
theorem ins_pass : ∀ {ps : List Pt} {s : Pt} {k : Nat}, Pass ps s k → (∀ h : k < ps.length, ps[k] = s → ins s ps = ps) ∧ ((∀ h : k < ps.length, ps[k] ≠ s) → ins s ps = ps.take k ++ [s] ++ ps.drop k)
  | [], s, k, h => by
    have : k = 0 := by have := h.1; simpa using this
    subst this
    exact ⟨fun z => absurd z (Nat.lt_irrefl _), fun _ => rfl⟩
  | p :: ps, s, 0, h => by
    have n := h.2.2 0 (Nat.succ_pos _) (Nat.le_refl _)
    simp only [List.getElem_cons_zero] at n
    constructor
    · intro _ e
      simp only [List.getElem_cons_zero] at e
      unfold ins; rw [if_neg n, if_pos e]
    · intro z
      have := z (Nat.succ_pos _)
      simp only [List.getElem_cons_zero] at this
      unfold ins; rw [if_neg n, if_neg this]; rfl
  | p :: ps, s, k + 1, h => by
    have n := h.2.1 0 (Nat.succ_pos _) (Nat.succ_pos _)
    simp only [List.getElem_cons_zero] at n
    have h' : Pass ps s k := ⟨by have := h.1; simp only [List.length_cons] at this; omega, fun i hi hk => by
      have := h.2.1 (i + 1) (by simp only [List.length_cons]; omega) (by omega)
      simpa only [List.getElem_cons_succ] using this, fun i hi hk => by
      have := h.2.2 (i + 1) (by simp only [List.length_cons]; omega) (by omega)
      simpa only [List.getElem_cons_succ] using this⟩
    obtain ⟨i1, i2⟩ := ins_pass h'
    constructor
    · intro z e
      simp only [List.getElem_cons_succ] at e
      unfold ins; rw [if_pos n, i1 (by simp only [List.length_cons] at z; omega) e]
    · intro z
      unfold ins; rw [if_pos n, i2 (fun y => by have := z (by simp only [List.length_cons]; omega); simpa only [List.getElem_cons_succ] using this)]
      rfl
/-! ### lists as values -/
theorem deqs_map {α : Type} [DecidableEq α] {enc : α → D} (h : ∀ a b, D.deq (enc a) (enc b) = decide (a = b)) : ∀ as bs : List α, D.deqs (as.map enc) (bs.map enc) = decide (as = bs)
  | [], [] => by simp [D.deqs]
  | [], _ :: _ => by simp [D.deqs]
  | _ :: _, [] => by simp [D.deqs]
  | a :: as, b :: bs => by
    simp only [List.map_cons, D.deqs, h, deqs_map h as bs]
    rw [Bool.eq_iff_iff]
    simp only [Bool.and_eq_true, decide_eq_true_eq, List.cons.injEq]
theorem eqOk_lm {α β : Type} {f : α → D} {g : β → D} (h1 : ∀ a, D.plain (f a) = true) (h2 : ∀ a, D.plain (g a) = true) (d1 : ∀ a, D.dep (f a) ≤ 20) (d2 : ∀ a, D.dep (g a) ≤ 20) (as : List α) (bs : List β) : eqOk (.lst (as.map f)) (.lst (bs.map g)) = true :=
  eqOk_of (plains_map h1) (plains_map h2) (by have := deps_map (xs := as) d1; rw [D.dep]; omega) (by have := deps_map (xs := bs) d2; rw [D.dep]; omega)
theorem eqOk_tm {α β : Type} {f : α → D} {g : β → D} (h1 : ∀ a, D.plain (f a) = true) (h2 : ∀ a, D.plain (g a) = true) (d1 : ∀ a, D.dep (f a) ≤ 20) (d2 : ∀ a, D.dep (g a) ≤ 20) (as : List α) (bs : List β) : eqOk (.tup (as.map f)) (.tup (bs.map g)) = true :=
  eqOk_of (plains_map h1) (plains_map h2) (by have := deps_map (xs := as) d1; rw [D.dep]; omega) (by have := deps_map (xs := bs) d2; rw [D.dep]; omega)
theorem eqOk_lsp {as bs : List Pt} : eqOk (.lst (as.map spD)) (.lst (bs.map spD)) = true := eqOk_lm plain_sp plain_sp (fun a => by rw [dep_sp]; decide) (fun a => by rw [dep_sp]; decide) as bs
theorem deq_lsp {as bs : List Pt} : D.deq (.lst (as.map spD)) (.lst (bs.map spD)) = decide (as = bs) := by rw [D.deq]; exact deqs_map (fun _ _ => deq_sp) as bs
theorem eqOk_twl {as bs : List Wl} : eqOk (.tup (as.map wlD)) (.tup (bs.map wlD)) = true := eqOk_tm plain_wl plain_wl (fun a => by rw [dep_wl]; decide) (fun a => by rw [dep_wl]; decide) as bs
theorem deq_twl {as bs : List Wl} : D.deq (.tup (as.map wlD)) (.tup (bs.map wlD)) = decide (as = bs) := by rw [D.deq]; exact deqs_map (fun _ _ => deq_wl) as bs
theorem deq_lwl {as bs : List Wl} : D.deq (.lst (as.map wlD)) (.lst (bs.map wlD)) = decide (as = bs) := by rw [D.deq]; exact deqs_map (fun _ _ => deq_wl) as bs
theorem eqOk_lwl {as bs : List Wl} : eqOk (.lst (as.map wlD)) (.lst (bs.map wlD)) = true := eqOk_lm plain_wl plain_wl (fun a => by rw [dep_wl]; decide) (fun a => by rw [dep_wl]; decide) as bs
theorem memD_map {α : Type} [DecidableEq α] {enc : α → D} (h : ∀ a b, D.deq (enc a) (enc b) = decide (a = b)) (a : α) : ∀ as : List α, memD (enc a) (as.map enc) = decide (a ∈ as)
  | [] => by simp [memD]
  | b :: as => by
    have : memD (enc a) ((b :: as).map enc) = (D.deq (enc b) (enc a) || memD (enc a) (as.map enc)) := rfl
    rw [this, h, memD_map h a as, Bool.eq_iff_iff]
    simp only [Bool.or_eq_true, decide_eq_true_eq, List.mem_cons]
    constructor
    · rintro (z | z)
      · exact .inl z.symm
      · exact .inr z
    · rintro (z | z)
      · exact .inl z.symm
      · exact .inr z
theorem in_lst {α : Type} [DecidableEq α] {enc : α → D} (h : ∀ a b, D.deq (enc a) (enc b) = decide (a = b)) (h1 : ∀ a, D.plain (enc a) = true) (d1 : ∀ a, D.dep (enc a) ≤ 20) {neg : Bool} {a : α} {d : D} {as : List α} {S : Sto} {Q : MQ} (hl : look S d = .lst (as.map enc)) : rInM neg (enc a) d S Q = Q (.bl (if neg then !decide (a ∈ as) else decide (a ∈ as))) S := by
  have c : D.plain (enc a) = true ∧ D.plains (as.map enc) = true ∧ D.dep (enc a) ≤ 64 ∧ D.deps (as.map enc) ≤ 63 := ⟨h1 a, plains_map h1, by have := d1 a; omega, Nat.le_trans (deps_map d1) (by decide)⟩
  simp only [rInM, hl, memD_map h]
  exact propext ⟨fun h => h.2, fun h => ⟨c, h⟩⟩
theorem in_lu {neg : Bool} {u : U2} {us : List U2} {S : Sto} {Q : MQ} : rInM neg (uD u) (.lst (us.map uD)) S Q = Q (.bl (if neg then !decide (u ∈ us) else decide (u ∈ us))) S := by
  rw [in_lst (enc := uD) (as := us) (d := .lst (us.map uD)) (a := u) (fun a b => deq_u (p := a) (q := b)) plain_u (fun a => by rw [dep_u]; decide) rfl]
  have e : ∀ (i1 i2 : Decidable (u ∈ us)), @decide _ i1 = @decide _ i2 := fun i1 i2 => congrArg (fun i => @decide _ i) (Subsingleton.elim i1 i2)
  exact congrArg (fun b => Q (.bl (if neg then !b else b)) S) (e _ _)
/-! ### promises -/
def sp_passed : MSp := fun ds S Q _ => ∃ (d : D) (ps : List Pt) (s : Pt) (m : Nat), ds = [d, spD s] ∧ SeqK S d (ps.map spD) ∧ ps.length ≤ 1000 ∧ Srt ps ∧ m < 2000 ∧ BP s m ∧ (∀ p ∈ ps, BP p m) ∧ ∀ k : Nat, Pass ps s k → Q (.int k) S
def sp_put_in_row : MSp := fun ds S Q _ => ∃ (p : Addr) (ps : List Pt) (s : Pt) (m : Nat), ds = [.ref p, spD s] ∧ S p = some (.lst (ps.map spD)) ∧ ps.length ≤ 900 ∧ Srt ps ∧ m < 2000 ∧ BP s m ∧ (∀ p ∈ ps, BP p m) ∧ Q .non (put S p (.lst ((ins s ps).map spD)))
def sp_corners_of : MSp := fun ds S Q _ => ∃ (ws : List Wl) (m : Nat), ds = [.tup (ws.map wlD)] ∧ ws.length ≤ 100 ∧ m < 2000 ∧ (∀ w ∈ ws, BW w m) ∧ ∀ p, S p = none → Q (.ref p) (put S p (.lst ((cornersW ws).map spD)))
end FL

set_option maxRecDepth 100000
namespace FL
open PySem PySem.Spec L2 ML
def b_passed : MS := (mSeq (mSet 2 (mC (.int 0)))
  (mSeq (mSet 3 (mBlt bLen (mCons (mVar 0) mNil)))
  (mSeq (mWhile (mTst (mOp aLt (mVar 2) (mVar 3))) (mSeq (mSet 4 (mOp rDiv (mOp rAdd (mVar 2) (mVar 3)) (mC (.int 2))))
  (mIfS (mTru (mCall FL.sp_is_ahead (mCons (mOp rIxM (mVar 0) (mVar 4)) (mCons (mVar 1) mNil)))) (mSet 2 (mOp rAdd (mVar 4) (mC (.int 1)))) (mSet 3 (mVar 4)))))
  (mRet (mVar 2)))))
def b_put_in_row : MS := (mSeq (mSet 2 (mCall FL.sp_passed (mCons (mVar 0) (mCons (mVar 1) mNil))))
  (mIfS (mTst (mOp rNeM (mCut (mVar 0) (oSo (mVar 2)) (oSo (mOp rAdd (mVar 2) (mC (.int 1))))) (mLstF (mCons (mVar 1) mNil)))) (mExpr (mMt mtInsert (mVar 0) (mCons (mVar 2) (mCons (mVar 1) mNil)))) mNext))
def b_corners_of : MS := (mSeq (mSet 1 (mLst mNil))
  (mSeq (mFor (iS (mVar 0)) (gNm 2) (mFor (iS (mVar 2)) (gNm 3) (mExpr (mCall FL.sp_put_in_row (mCons (mVar 1) (mCons (mVar 3) mNil))))))
  (mRet (mVar 1))))
end FL

set_option maxRecDepth 100000
set_option maxHeartbeats 4000000
namespace FL
-- counts /tmp/scratch/dev/N_lib5.json
open PySem PySem.Spec L2 ML
local macro_rules | `(tactic| simp $c:optConfig $[$d:discharger]? only [gg] $[$l:location]?) => `(tactic| simp $c $[$d]? only [↓ML.q_mSeq, ↓ML.q_mC, ↓ML.q_mOp, ↓ML.q_mUn, ↓ML.q_mTst, ↓ML.q_mNot, ↓ML.q_mNotV, ↓ML.q_mRet, ↓ML.q_mRetN, ↓ML.q_mExpr, ↓ML.q_mNext, ↓ML.q_mBreak, ↓ML.q_mCont, ↓ML.q_mAsg, ↓ML.q_gSb, ↓ML.q_mTup, ↓ML.q_mLst, ↓ML.q_mLstF, ↓ML.q_mCons, ↓ML.q_mNil, ↓ML.q_mBlt, ↓ML.q_rEqM, ↓ML.q_rNeM, ↓ML.q_iR1, ↓ML.q_iR2, ↓ML.q_iEn, ↓ML.q_iZp, ↓ML.q_mMt, ↓ML.q_mMt0, ↓ML.q_mYes, ↓ML.q_mCut, ↓ML.q_oNo, ↓ML.q_oSo, ↓ML.l_mCall, ↓ML.l_mAnd, ↓ML.l_mOr, ↓ML.l_mAndV, ↓ML.l_mOrV, ↓ML.l_mIf, ↓ML.l_mIfS, ↓ML.l_mChain, ↓ML.l_mVar, ↓ML.l_mFor, ↓ML.l_mWhile, ↓ML.l_mComp, ↓ML.l_mCompF, ↓ML.l_optP, ↓ML.l_Go, ↓ML.Hold_v, ↓ML.l_mSet, ↓ML.l_gNm, ↓ML.l_mPar, ↓ML.l_rIxM, ↓ML.l_rSetM, ↓ML.l_rInt, ↓ML.l_rInt0, ↓ML.l_rAdd_int, ↓ML.l_rAdd_str, ↓ML.l_rAdd_tup, ↓ML.l_rNeg, ↓ML.l_rIsN, ↓ML.l_rNotN, ↓ML.l_rIsBM, ↓ML.l_mTru, ↓ML.l_bLen, ↓ML.l_bAbs, ↓ML.l_bMax2, ↓ML.l_bMin2, ↓ML.l_bInt_i, ↓ML.l_bInt_b, ↓ML.l_bTuple, ↓ML.l_bListF, ↓ML.l_bList, ↓ML.l_mIsi, ↓ML.l_iL, ↓ML.l_iT, ↓ML.l_gTp, ↓ML.l_gLs, ↓ML.l_gCn, ↓ML.l_gNl, ↓ML.l_mtAppend, ML.Hold_v, ML.l_mVar_z, ML.l_mVar_s, ML.OptP_some, ML.Go_eq, ML.IteP_true, ML.IteP_false, ML.lstOf_ref', ML.lstOf_lst, ML.lstOf_scr, ML.lstOf_tup, ML.ownOf_ref', ML.ownOf_lst, ML.seqOf_tup', ML.seqOf_lst', ML.seqOf_scr', ML.seqOf_ref', ML.olP_lst, ML.tupOf_tup, ML.ixL_lit, ML.ixL_cast, ML.ixL_m1, ML.setAt_lit, ML.setAt_cast, ML.truD_bl, ML.truD_int, ML.truD_tup, ML.truD_lst, ML.truD_scr, ML.truD_non, ML.lenD_tup, ML.lenD_lst, ML.lenD_scr, ML.lenD_ref, ML.tyD_non, ML.tyD_bl, ML.tyD_int, ML.tyD_str, ML.tyD_tup, ML.tyD_lst, ML.szl, ML.szlt, ML.cpow_lit, ML.mulok_rl, ML.mulok_ll, ML.divok_l, ML.put_same, ML.put_put, ML.q_wipeM, ML.deq_int, ML.deq_bl, ML.deq_str, ML.deq_non, ML.eqOk_int, ML.eqOk_bl, ML.isTy_NoneType_int, ML.isTy_NoneType_bool, ML.isTy_NoneType_tuple, ML.isTy_NoneType_list, ML.isTy_NoneType_str, ML.isTy_bool_int, ML.isTy_bool_bool, ML.isTy_bool_tuple, ML.isTy_bool_list, ML.isTy_bool_str, ML.isTy_int_int, ML.isTy_int_bool, ML.isTy_int_tuple, ML.isTy_int_list, ML.isTy_int_str, ML.isTy_str_int, ML.isTy_str_bool, ML.isTy_str_tuple, ML.isTy_str_list, ML.isTy_str_str, ML.isTy_tuple_int, ML.isTy_tuple_bool, ML.isTy_tuple_tuple, ML.isTy_tuple_list, ML.isTy_tuple_str, ML.isTy_list_int, ML.isTy_list_bool, ML.isTy_list_tuple, ML.isTy_list_list, ML.isTy_list_str, ML.isTy_dict_int, ML.isTy_dict_bool, ML.isTy_dict_tuple, ML.isTy_dict_list, ML.isTy_dict_str, FL.tup_fr, FL.tup_sp, FL.tup_wl, FL.tupOf_fr, FL.tupOf_sp, FL.tupOf_wl, FL.nz0, FL.nz1, FL.nz2, FL.nz3, FL.look_non, FL.look_int, FL.look_bl, FL.look_str, FL.look_tup, FL.look_lst, FL.look_scr, FL.seqOf_fr, FL.seqOf_sp, FL.seqOf_wl, FL.look_fr, FL.look_sp, FL.look_wl, FL.eqOk_fr, FL.eqOk_sp, FL.eqOk_wl, FL.deq_fr, FL.deq_sp, FL.deq_wl, FL.tyD_fr, FL.tyD_sp, FL.tyD_wl, FL.isN_fr, FL.isN_sp, FL.isN_wl, FL.lenD_sp, FL.lenD_wl, FL.rAdd_wl_tup, List.length_map, List.map_cons, List.map_nil, List.replicate, List.set_cons_zero, List.set_cons_succ, List.getElem?_cons_zero, List.getElem?_cons_succ, List.cons_append, List.nil_append, List.length_cons, List.length_nil, Option.bind_some, Option.map_some, ↓reduceIte, Nat.reduceAdd, Nat.reduceSub, Nat.reduceLT, Nat.reduceLeDiff, Nat.zero_add, decide_eq_true_eq, Bool.not_eq_true, ne_eq, reduceCtorEq, not_false_eq_true, true_and, and_true, Bool.false_eq_true, Bool.not_true, Bool.not_false, decide_true, decide_false, not_true_eq_false, eq_self, Bool.not_eq_eq_eq_not, if_true, if_false, decide_eq_false_iff_not, ML.ncast, Int.reduceToNat, Int.reducePow, Int.reduceAdd, Int.reduceSub, Int.reduceMul, Int.reduceNeg, Int.reduceLT, Int.reduceLE, Int.reduceEq, Nat.reduceEqDiff, Int.zero_add, gt_iff_lt, beq_self_eq_true, Bool.true_beq, Bool.false_beq, Bool.and_true, Bool.and_false, Bool.true_and, Bool.false_and, ↓ML.l_mtInsert, ↓ML.l_mtReverse, ↓ML.l_mtClear, ↓ML.l_bSortU, ↓ML.q_mMt0, ↓ML.l_bMaxL, ↓ML.l_bMinL, ↓ML.l_aLt_int, ↓ML.l_aLt_u, ↓ML.l_aGt_int, ↓ML.l_aGt_u, ↓ML.l_aLe_int, ↓ML.l_aLe_u, ↓ML.l_aGe_int, ↓ML.l_aGe_u, ↓ML.l_bMaxA_int, ↓ML.l_bMaxA_u, ↓ML.l_bMinA_int, ↓ML.l_bMinA_u, ML.tup_u, ML.tupOf_u, ML.seqOf_u, ML.sqI_u, ML.look_u, ML.isN_u, ML.lenD_u, ML.tyD_u, ML.tup_uw, ML.tupOf_uw, ML.seqOf_uw, ML.sqI_uw, ML.look_uw, ML.isN_uw, ML.lenD_uw, ML.tyD_uw, ML.eqOk_u, ML.eqOk_uw, ML.deq_u, ML.deq_uw, ML.in_uw, ↓ML.l_mRaise, ↓ML.l_mTry, ↓ML.l_mIsE, ↓ML.l_mIsV, ↓ML.l_mtCount, ↓ML.l_rAddS_rl, ↓ML.l_rAddS_ll, ML.excD_ref, ML.excOf_exc, ML.blsOf_nil, ML.blsOf_cons, ML.endM_nx, ML.endM_rt, ↓ML.l_mYes, ↓ML.l_iS, ↓ML.l_mIfJ, ↓ML.l_mJ, ↓ML.CrollP_nil, ↓ML.CrollP_cons, ↓ML.CrA_at, ↓ML.FrollP_nil, ↓ML.FrollP_cons, ML.isN_non, ML.isN_int, ML.isN_bl, ML.isN_str, ML.isN_tup, ML.isN_lst, ML.isN_ref, ML.sqI_tup, ML.sqI_lst, ML.sqI_scr, ML.sqI_ref, ML.sqI_at, ML.rngD_0, ML.rngD_1, ML.rngD_2, ML.rngD_3, ML.rngD_4, ML.rngD_6, ML.q_wipeM_nil, ML.q_wipeM_cons, FL.sqI_sp, FL.sqI_wl] $[$l]?)
local macro_rules | `(tactic| simp $c:optConfig $[$d:discharger]? only [gg, $ls,*] $[$l:location]?) => `(tactic| simp $c $[$d]? only [↓ML.q_mSeq, ↓ML.q_mC, ↓ML.q_mOp, ↓ML.q_mUn, ↓ML.q_mTst, ↓ML.q_mNot, ↓ML.q_mNotV, ↓ML.q_mRet, ↓ML.q_mRetN, ↓ML.q_mExpr, ↓ML.q_mNext, ↓ML.q_mBreak, ↓ML.q_mCont, ↓ML.q_mAsg, ↓ML.q_gSb, ↓ML.q_mTup, ↓ML.q_mLst, ↓ML.q_mLstF, ↓ML.q_mCons, ↓ML.q_mNil, ↓ML.q_mBlt, ↓ML.q_rEqM, ↓ML.q_rNeM, ↓ML.q_iR1, ↓ML.q_iR2, ↓ML.q_iEn, ↓ML.q_iZp, ↓ML.q_mMt, ↓ML.q_mMt0, ↓ML.q_mYes, ↓ML.q_mCut, ↓ML.q_oNo, ↓ML.q_oSo, ↓ML.l_mCall, ↓ML.l_mAnd, ↓ML.l_mOr, ↓ML.l_mAndV, ↓ML.l_mOrV, ↓ML.l_mIf, ↓ML.l_mIfS, ↓ML.l_mChain, ↓ML.l_mVar, ↓ML.l_mFor, ↓ML.l_mWhile, ↓ML.l_mComp, ↓ML.l_mCompF, ↓ML.l_optP, ↓ML.l_Go, ↓ML.Hold_v, ↓ML.l_mSet, ↓ML.l_gNm, ↓ML.l_mPar, ↓ML.l_rIxM, ↓ML.l_rSetM, ↓ML.l_rInt, ↓ML.l_rInt0, ↓ML.l_rAdd_int, ↓ML.l_rAdd_str, ↓ML.l_rAdd_tup, ↓ML.l_rNeg, ↓ML.l_rIsN, ↓ML.l_rNotN, ↓ML.l_rIsBM, ↓ML.l_mTru, ↓ML.l_bLen, ↓ML.l_bAbs, ↓ML.l_bMax2, ↓ML.l_bMin2, ↓ML.l_bInt_i, ↓ML.l_bInt_b, ↓ML.l_bTuple, ↓ML.l_bListF, ↓ML.l_bList, ↓ML.l_mIsi, ↓ML.l_iL, ↓ML.l_iT, ↓ML.l_gTp, ↓ML.l_gLs, ↓ML.l_gCn, ↓ML.l_gNl, ↓ML.l_mtAppend, ML.Hold_v, ML.l_mVar_z, ML.l_mVar_s, ML.OptP_some, ML.Go_eq, ML.IteP_true, ML.IteP_false, ML.lstOf_ref', ML.lstOf_lst, ML.lstOf_scr, ML.lstOf_tup, ML.ownOf_ref', ML.ownOf_lst, ML.seqOf_tup', ML.seqOf_lst', ML.seqOf_scr', ML.seqOf_ref', ML.olP_lst, ML.tupOf_tup, ML.ixL_lit, ML.ixL_cast, ML.ixL_m1, ML.setAt_lit, ML.setAt_cast, ML.truD_bl, ML.truD_int, ML.truD_tup, ML.truD_lst, ML.truD_scr, ML.truD_non, ML.lenD_tup, ML.lenD_lst, ML.lenD_scr, ML.lenD_ref, ML.tyD_non, ML.tyD_bl, ML.tyD_int, ML.tyD_str, ML.tyD_tup, ML.tyD_lst, ML.szl, ML.szlt, ML.cpow_lit, ML.mulok_rl, ML.mulok_ll, ML.divok_l, ML.put_same, ML.put_put, ML.q_wipeM, ML.deq_int, ML.deq_bl, ML.deq_str, ML.deq_non, ML.eqOk_int, ML.eqOk_bl, ML.isTy_NoneType_int, ML.isTy_NoneType_bool, ML.isTy_NoneType_tuple, ML.isTy_NoneType_list, ML.isTy_NoneType_str, ML.isTy_bool_int, ML.isTy_bool_bool, ML.isTy_bool_tuple, ML.isTy_bool_list, ML.isTy_bool_str, ML.isTy_int_int, ML.isTy_int_bool, ML.isTy_int_tuple, ML.isTy_int_list, ML.isTy_int_str, ML.isTy_str_int, ML.isTy_str_bool, ML.isTy_str_tuple, ML.isTy_str_list, ML.isTy_str_str, ML.isTy_tuple_int, ML.isTy_tuple_bool, ML.isTy_tuple_tuple, ML.isTy_tuple_list, ML.isTy_tuple_str, ML.isTy_list_int, ML.isTy_list_bool, ML.isTy_list_tuple, ML.isTy_list_list, ML.isTy_list_str, ML.isTy_dict_int, ML.isTy_dict_bool, ML.isTy_dict_tuple, ML.isTy_dict_list, ML.isTy_dict_str, FL.tup_fr, FL.tup_sp, FL.tup_wl, FL.tupOf_fr, FL.tupOf_sp, FL.tupOf_wl, FL.nz0, FL.nz1, FL.nz2, FL.nz3, FL.look_non, FL.look_int, FL.look_bl, FL.look_str, FL.look_tup, FL.look_lst, FL.look_scr, FL.seqOf_fr, FL.seqOf_sp, FL.seqOf_wl, FL.look_fr, FL.look_sp, FL.look_wl, FL.eqOk_fr, FL.eqOk_sp, FL.eqOk_wl, FL.deq_fr, FL.deq_sp, FL.deq_wl, FL.tyD_fr, FL.tyD_sp, FL.tyD_wl, FL.isN_fr, FL.isN_sp, FL.isN_wl, FL.lenD_sp, FL.lenD_wl, FL.rAdd_wl_tup, List.length_map, List.map_cons, List.map_nil, List.replicate, List.set_cons_zero, List.set_cons_succ, List.getElem?_cons_zero, List.getElem?_cons_succ, List.cons_append, List.nil_append, List.length_cons, List.length_nil, Option.bind_some, Option.map_some, ↓reduceIte, Nat.reduceAdd, Nat.reduceSub, Nat.reduceLT, Nat.reduceLeDiff, Nat.zero_add, decide_eq_true_eq, Bool.not_eq_true, ne_eq, reduceCtorEq, not_false_eq_true, true_and, and_true, Bool.false_eq_true, Bool.not_true, Bool.not_false, decide_true, decide_false, not_true_eq_false, eq_self, Bool.not_eq_eq_eq_not, if_true, if_false, decide_eq_false_iff_not, ML.ncast, Int.reduceToNat, Int.reducePow, Int.reduceAdd, Int.reduceSub, Int.reduceMul, Int.reduceNeg, Int.reduceLT, Int.reduceLE, Int.reduceEq, Nat.reduceEqDiff, Int.zero_add, gt_iff_lt, beq_self_eq_true, Bool.true_beq, Bool.false_beq, Bool.and_true, Bool.and_false, Bool.true_and, Bool.false_and, ↓ML.l_mtInsert, ↓ML.l_mtReverse, ↓ML.l_mtClear, ↓ML.l_bSortU, ↓ML.q_mMt0, ↓ML.l_bMaxL, ↓ML.l_bMinL, ↓ML.l_aLt_int, ↓ML.l_aLt_u, ↓ML.l_aGt_int, ↓ML.l_aGt_u, ↓ML.l_aLe_int, ↓ML.l_aLe_u, ↓ML.l_aGe_int, ↓ML.l_aGe_u, ↓ML.l_bMaxA_int, ↓ML.l_bMaxA_u, ↓ML.l_bMinA_int, ↓ML.l_bMinA_u, ML.tup_u, ML.tupOf_u, ML.seqOf_u, ML.sqI_u, ML.look_u, ML.isN_u, ML.lenD_u, ML.tyD_u, ML.tup_uw, ML.tupOf_uw, ML.seqOf_uw, ML.sqI_uw, ML.look_uw, ML.isN_uw, ML.lenD_uw, ML.tyD_uw, ML.eqOk_u, ML.eqOk_uw, ML.deq_u, ML.deq_uw, ML.in_uw, ↓ML.l_mRaise, ↓ML.l_mTry, ↓ML.l_mIsE, ↓ML.l_mIsV, ↓ML.l_mtCount, ↓ML.l_rAddS_rl, ↓ML.l_rAddS_ll, ML.excD_ref, ML.excOf_exc, ML.blsOf_nil, ML.blsOf_cons, ML.endM_nx, ML.endM_rt, ↓ML.l_mYes, ↓ML.l_iS, ↓ML.l_mIfJ, ↓ML.l_mJ, ↓ML.CrollP_nil, ↓ML.CrollP_cons, ↓ML.CrA_at, ↓ML.FrollP_nil, ↓ML.FrollP_cons, ML.isN_non, ML.isN_int, ML.isN_bl, ML.isN_str, ML.isN_tup, ML.isN_lst, ML.isN_ref, ML.sqI_tup, ML.sqI_lst, ML.sqI_scr, ML.sqI_ref, ML.sqI_at, ML.rngD_0, ML.rngD_1, ML.rngD_2, ML.rngD_3, ML.rngD_4, ML.rngD_6, ML.q_wipeM_nil, ML.q_wipeM_cons, FL.sqI_sp, FL.sqI_wl, $ls,*] $[$l]?)
theorem l_passed : ∀ ds S Q E, FL.sp_passed ds S Q E → ds.length = 2 := by rintro _ _ _ _ ⟨_, _, _, _, rfl, _⟩; rfl
theorem l_put_in_row : ∀ ds S Q E, FL.sp_put_in_row ds S Q E → ds.length = 2 := by rintro _ _ _ _ ⟨_, _, _, _, rfl, _⟩; rfl
theorem l_corners_of : ∀ ds S Q E, FL.sp_corners_of ds S Q E → ds.length = 1 := by rintro _ _ _ _ ⟨_, _, rfl, _⟩; rfl
theorem r_passed : ∀ ds S Q E, FL.sp_passed ds S Q E → b_passed (mends Q E) (mstart 3 ds) S := by
  rintro _ S Q E ⟨d, ps, s, m, rfl, hd, hz, hs, hm, hbs, hbp, k⟩
  unfold b_passed
  simp only [ML.q_mstart, ML.q_mends, List.map_cons, List.map_nil, List.replicate, List.cons_append, List.nil_append]
  simp only [gg, hd.len, List.length_map]
  refine while_rule (fun n σ S' => @KP ⟨∃ (lo hi : Nat) (a : Option D), σ = [some d, some (spD s), some (.int lo), some (.int hi), a] ∧ S' = S ∧ n = hi - lo ∧ lo ≤ hi ∧ hi ≤ ps.length ∧ (∀ i (h : i < ps.length), i < lo → ahead ps[i] s) ∧ (∀ i (h : i < ps.length), hi ≤ i → ¬ ahead ps[i] s)⟩) ⟨_, 0, ps.length, none, rfl, rfl, rfl, Nat.zero_le _, Nat.le_refl _, fun i h z => by omega, fun i h z => by omega⟩ ?_
  rintro n σ S' ⟨lo, hi, a, rfl, rfl, rfl, h1, h2, h3, h4⟩
  simp only [gg]
  refine ⟨fun hl => ?_, fun hl => ?_⟩
  · have hl' : lo < hi := by omega
    have em : ((lo : Int) + hi).fdiv 2 = ((lo + hi) / 2 : Nat) := by
      rw [fdiv_pos (by decide)]; omega
    have hlt : (lo + hi) / 2 < ps.length := by omega
    have eg : (ps.map spD)[(lo + hi) / 2]? = some (spD ps[(lo + hi) / 2]) := by rw [List.getElem?_map, List.getElem?_eq_getElem hlt]; rfl
    have z1 := hbp _ (List.getElem_mem hlt)
    simp only [gg, em, hd.seq, eg]
    simp (disch := omega) only [gg, c_is_ahead]
    refine ⟨fun hx => ?_, fun hx => ?_⟩
    · simp only [gg]
      have e1 : (((lo + hi) / 2 : Nat) : Int) + 1 = ((lo + hi) / 2 + 1 : Nat) := by omega
      rw [e1]
      refine ⟨hi - ((lo + hi) / 2 + 1), by omega, (lo + hi) / 2 + 1, hi, _, rfl, rfl, rfl, by omega, h2, fun i h z => ?_, h4⟩
      by_cases y : i = (lo + hi) / 2
      · subst y; exact hx
      · exact ahead_trans (List.pairwise_iff_getElem.mp hs i _ h hlt (by omega)) hx
    · simp only [gg]
      refine ⟨(lo + hi) / 2 - lo, by omega, lo, (lo + hi) / 2, _, rfl, rfl, rfl, by omega, by omega, h3, fun i h z => ?_⟩
      by_cases y : i = (lo + hi) / 2
      · subst y; exact hx
      · intro w
        exact hx (ahead_trans (List.pairwise_iff_getElem.mp hs _ i hlt h (by omega)) w)
  · simp only [gg]
    have e : lo = hi := by omega
    subst e
    exact k lo ⟨h2, h3, h4⟩
theorem r_put_in_row : ∀ ds S Q E, FL.sp_put_in_row ds S Q E → b_put_in_row (mends Q E) (mstart 1 ds) S := by
  rintro _ S Q E ⟨p, ps, s, m, rfl, hp, hz, hs, hm, hbs, hbp, k⟩
  unfold b_put_in_row
  simp only [ML.q_mstart, ML.q_mends, List.map_cons, List.map_nil, List.replicate, List.cons_append, List.nil_append]
  simp only [gg]
  refine ⟨_, ps, s, m, rfl, .ref hp, by omega, hs, hm, hbs, hbp, fun n hn => ?_⟩
  obtain ⟨i1, i2⟩ := ins_pass hn
  simp only [gg, hp]
  have ec : cutD (ps.map spD) (some ↑n) (some (↑n + 1)) = ((ps.drop n).take 1).map spD := by
    have h1 := hn.1
    have e1 : HT.sIx (ps.map spD).length 0 (some (n : Int)) = n := by
      simp only [HT.sIx, List.length_map]
      rw [if_neg (by omega)]; omega
    have e2 : HT.sIx (ps.map spD).length (ps.map spD).length (some ((n : Int) + 1)) = min (n + 1) ps.length := by
      simp only [HT.sIx, List.length_map]
      rw [if_neg (by omega)]; congr 1
    unfold cutD
    rw [e1, e2, ← List.map_drop, ← List.map_take]
    congr 1
    by_cases h : n < ps.length
    · rw [show min (n + 1) ps.length - n = 1 by omega]
    · rw [List.drop_eq_nil_of_le (by omega)]; simp
  have o1 : eqOk (.lst (((ps.drop n).take 1).map spD)) (.lst [spD s]) = true := eqOk_lsp (bs := [s])
  have o2 : D.deq (.lst (((ps.drop n).take 1).map spD)) (.lst [spD s]) = decide ((ps.drop n).take 1 = [s]) := deq_lsp (bs := [s])
  rw [ec]
  simp only [gg, o1, o2]
  have n1 := hn.1
  refine ⟨fun hx => ?_, fun hx => ?_⟩
  · simp only [gg, isLst_ref hp, hp]
    refine ⟨⟨line_lt (by omega), by omega, by omega⟩, ?_⟩
    have e : ins s ps = ps.take n ++ [s] ++ ps.drop n := by
      refine i2 fun h e => hx ?_
      rw [List.drop_eq_getElem_cons h, e]; rfl
    rw [e] at k
    simp only [List.map_append, List.map_take, List.map_drop, List.map_cons, List.map_nil] at k
    exact k
  · simp only [gg]
    have e : ins s ps = ps := by
      have hx' : (ps.drop n).take 1 = [s] := Decidable.not_not.mp hx
      by_cases h : n < ps.length
      · rw [List.drop_eq_getElem_cons h] at hx'
        exact i1 h (List.cons.inj hx').1
      · rw [List.drop_eq_nil_of_le (by omega)] at hx'; cases hx'
    rw [e, put_back hp] at k
    exact k
theorem t_put_in_row {p : Addr} {ps : List Pt} {s : Pt} {m : Nat} {S : Sto} {Q : Hold MQ} {E : Hold MXQ} (hp : S p = some (.lst (ps.map spD))) (hz : ps.length ≤ 900) (hs : Srt ps) (hm : m < 2000) (hbs : BP s m) (hbp : ∀ p ∈ ps, BP p m) (k : Q.v .non (put S p (.lst ((ins s ps).map spD)))) : @CallP sp_put_in_row [.ref p, spD s] S Q E := ⟨p, ps, s, m, rfl, hp, hz, hs, hm, hbs, hbp, k⟩
theorem len_all {ps : List Pt} : ∀ {acc : List Pt}, (insAll ps acc).length ≤ acc.length + ps.length := by
  induction ps with
  | nil => intro acc; exact Nat.le_refl _
  | cons p ps ih =>
    intro acc
    have h1 := ih (acc := ins p acc)
    have h2 := len_ins (s := p) (ps := acc)
    show (insAll ps (ins p acc)).length ≤ _
    simp only [List.length_cons]; omega
theorem insAll_append (ps qs acc : List Pt) : insAll (ps ++ qs) acc = insAll qs (insAll ps acc) := by unfold insAll; rw [List.foldl_append]
theorem ends_len (ws : List Wl) : (endsW ws).length = 2 * ws.length := by
  induction ws with
  | nil => rfl
  | cons w ws ih =>
    show ([w.1, w.2] ++ endsW ws).length = _
    rw [List.length_append, ih]; simp only [List.length_cons, List.length_nil]; omega
theorem mem_ends {ws : List Wl} {t : Pt} : t ∈ endsW ws ↔ ∃ w ∈ ws, t = w.1 ∨ t = w.2 := by
  unfold endsW
  simp only [List.mem_flatMap, List.mem_cons, List.not_mem_nil, or_false]
theorem r_corners_of : ∀ ds S Q E, FL.sp_corners_of ds S Q E → b_corners_of (mends Q E) (mstart 3 ds) S := by
  rintro _ S Q E ⟨ws, m, rfl, hz, hm, hb, k⟩
  unfold b_corners_of
  simp only [ML.q_mstart, ML.q_mends, List.map_cons, List.map_nil, List.replicate, List.cons_append, List.nil_append]
  simp only [gg]
  intro p hp
  refine wfor_inv (fun i σ S' => @KP ⟨(∃ a b, σ = [some (.tup (ws.map wlD)), some (.ref p), a, b]) ∧ S' = put S p (.lst ((cornersW (ws.take i)).map spD))⟩) ⟨⟨_, _, rfl⟩, rfl⟩ ?_ ?_
  · rintro i d σ S' hd ⟨⟨a, b, rfl⟩, rfl⟩
    rw [List.getElem?_map] at hd
    cases ea : ws[i]? with
    | none => rw [ea] at hd; cases hd
    | some w =>
      rw [ea] at hd; cases hd
      have hw : w ∈ ws := List.mem_of_getElem? ea
      have hin : ∀ t ∈ endsW (ws.take i), BP t m := by
        intro t ht
        obtain ⟨v, hv, e⟩ := mem_ends.mp ht
        have := hb v (List.mem_of_mem_take hv)
        rcases e with e | e
        · rw [e]; exact this.f
        · rw [e]; exact this.s
      have hc : ∀ t ∈ cornersW (ws.take i), BP t m := fun t ht => hin t (by simpa [cornersW, mem_all] using ht)
      have hl : (cornersW (ws.take i)).length ≤ 200 := by
        have := len_all (ps := endsW (ws.take i)) (acc := [])
        rw [ends_len, List.length_take] at this
        simp only [List.length_nil] at this
        unfold cornersW; omega
      have hs : Srt (cornersW (ws.take i)) := srt_all List.Pairwise.nil
      refine ⟨trivial, ?_⟩
      simp only [gg]
      refine for_roll ?_
      simp only [gg]
      refine t_put_in_row (m := m) put_same (by omega) hs hm (hb w hw).f hc ?_
      simp only [gg]
      have hl2 := len_ins (s := w.1) (ps := cornersW (ws.take i))
      refine t_put_in_row (m := m) put_same (by omega) (srt_ins hs) hm (hb w hw).s (fun t ht => by
        rcases mem_ins.mp ht with e | e
        · rw [e]; exact (hb w hw).f
        · exact hc t e) ?_
      simp only [gg]
      refine KP.mk ⟨⟨_, _, rfl⟩, ?_⟩
      have e : cornersW (ws.take (i + 1)) = ins w.2 (ins w.1 (cornersW (ws.take i))) := by
        unfold cornersW
        rw [List.take_add_one, ea]
        show insAll (endsW (ws.take i ++ [w])) [] = _
        rw [show endsW (ws.take i ++ [w]) = endsW (ws.take i) ++ [w.1, w.2] by unfold endsW; rw [List.flatMap_append]; rfl, insAll_append]
        rfl
      rw [e]
  · rintro σ S' ⟨⟨a, b, rfl⟩, rfl⟩
    rw [List.length_map, List.take_length]
    refine ⟨trivial, ?_⟩
    simp only [gg]
    exact k p hp
end FL

namespace FL
open PySem PySem.Spec L2 ML
/-! ### walls of a plot meet at ends alone -/
def isFair (a b : Wl) : Bool := match meetW a b with
  | .no => true
  | .spot p => (decide (a.1 = p) || decide (a.2 = p)) && (decide (b.1 = p) || decide (b.2 = p))
  | .stretch _ => false
section
variable {a b : Wl}
theorem cx_ends (a b : Wl) : cx b a.2 = cx b a.1 - crs (alng a) (alng b) ∧ cx a b.2 = cx a b.1 + crs (alng a) (alng b) := by
  constructor <;> (simp only [cx, crs, alng]; grind)
theorem sol_ta (hc : crs (alng a) (alng b) ≠ 0) : solW a b = atP a (cx b a.1 / crs (alng a) (alng b)) := by
  rw [sol_a]
  congr 2
  simp only [cx, crs, alng]; grind
theorem sol_tb (hc : crs (alng a) (alng b) ≠ 0) : solW a b = atP b (- cx a b.1 / crs (alng a) (alng b)) := by
  rw [sol_b hc]
  congr 2
  simp only [cx, crs, alng]; grind
theorem atP_0 (w : Wl) : atP w 0 = w.1 := by unfold atP; apply Prod.ext <;> simp only <;> grind
theorem atP_1 (w : Wl) : atP w 1 = w.2 := by unfold atP alng; apply Prod.ext <;> simp only <;> grind
theorem cx_at (w : Wl) (t : Rat) : cx w (atP w t) = 0 := by simp only [cx, crs, alng, atP]; grind
/-- the parts at which the lines cross -/
theorem part_range {x C : Rat} (hC : C ≠ 0) : (0 ≤ x / C ∧ x / C ≤ 1) ↔ (x * (x - C) ≤ 0) := by
  have key : ∀ x C : Rat, 0 < C → ((0 ≤ x / C ∧ x / C ≤ 1) ↔ (0 ≤ x ∧ x ≤ C)) := by
    intro x C h
    have l := fun a b => lt_div (a := a) (b := b) h
    have e0 : (0 : Rat) / C = 0 := by rw [Rat.div_def, Rat.zero_mul]
    have e1 : C / C = 1 := by grind
    have l1 := l x 0
    have l2 := l C x
    rw [e0] at l1
    rw [e1] at l2
    constructor
    · rintro ⟨h1, h2⟩
      constructor
      · by_cases z : x < 0
        · have := l1.mpr z; grind
        · grind
      · by_cases z : C < x
        · have := l2.mpr z; grind
        · grind
    · rintro ⟨h1, h2⟩
      constructor
      · by_cases z : x / C < 0
        · have := l1.mp z; grind
        · grind
      · by_cases z : 1 < x / C
        · have := l2.mp z; grind
        · grind
  have sq : ∀ x C : Rat, 0 < C → ((0 ≤ x ∧ x ≤ C) ↔ x * (x - C) ≤ 0) := by
    intro x C h
    constructor
    · rintro ⟨h1, h2⟩
      have := Rat.mul_nonneg h1 (show 0 ≤ C - x by grind)
      grind
    · intro z
      constructor
      · by_cases y : x < 0
        · have := Rat.mul_pos (show 0 < -x by grind) (show 0 < C - x by grind); grind
        · grind
      · by_cases y : C < x
        · have := Rat.mul_pos (show 0 < x by grind) (show 0 < x - C by grind); grind
        · grind
  by_cases h : 0 < C
  · rw [key x C h, sq x C h]
  · have e : x / C = (-x) / (-C) := by grind
    rw [e, key (-x) (-C) (by grind), sq (-x) (-C) (by grind)]
    have : -x * (-x - -C) = x * (x - C) := by grind
    rw [this]
theorem lies_sol_a (ha : Up a) (hc : crs (alng a) (alng b) ≠ 0) : liesOn a (solW a b) ↔ cx b a.1 * cx b a.2 ≤ 0 := by
  rw [sol_ta hc, liesOn_part ha, part_range hc, (cx_ends a b).1]
theorem lies_sol_b (hb : Up b) (hc : crs (alng a) (alng b) ≠ 0) : liesOn b (solW a b) ↔ cx a b.1 * cx a b.2 ≤ 0 := by
  rw [sol_tb hc, liesOn_part hb, part_range hc, (cx_ends a b).2]
  have : -cx a b.1 * (-cx a b.1 - crs (alng a) (alng b)) = cx a b.1 * (cx a b.1 + crs (alng a) (alng b)) := by grind
  rw [this]
theorem sol_eq_a1 (hc : crs (alng a) (alng b) ≠ 0) (h : cx b a.1 = 0) : solW a b = a.1 := by
  rw [sol_ta hc, h, Rat.div_def, Rat.zero_mul, atP_0]
theorem sol_eq_a2 (hc : crs (alng a) (alng b) ≠ 0) (h : cx b a.2 = 0) : solW a b = a.2 := by
  rw [sol_ta hc]
  have e := (cx_ends a b).1
  have : cx b a.1 / crs (alng a) (alng b) = 1 := by grind
  rw [this, atP_1]
theorem cx_sol_b (hc : crs (alng a) (alng b) ≠ 0) : cx b (solW a b) = 0 := by rw [sol_tb hc, cx_at]
theorem cx_sol_a (hc : crs (alng a) (alng b) ≠ 0) : cx a (solW a b) = 0 := by rw [sol_ta hc, cx_at]
theorem isFair_symm (ha : Up a) (hb : Up b) : isFair b a = isFair a b := by
  unfold isFair
  rw [meet_symm ha hb]
  cases meetW a b with
  | no => rfl
  | stretch w => rfl
  | spot p => exact Bool.and_comm ..
theorem not_ahead_iff {p q : Pt} : ¬ ahead p q ↔ q = p ∨ ahead q p := by
  constructor
  · intro h
    rcases ahead_tri p q with z | z | z
    · exact absurd z h
    · exact .inl z.symm
    · exact .inr z
  · rintro (z | z)
    · subst z; exact ahead_irrefl _
    · exact ahead_asymm z
theorem le_lt {p q r : Pt} (h : ¬ ahead q p) (k : ahead q r) : ahead p r := by
  rcases not_ahead_iff.mp h with z | z
  · rw [z]; exact k
  · exact ahead_trans z k
theorem lt_le {p q r : Pt} (h : ahead p q) (k : ¬ ahead r q) : ahead p r := by
  rcases not_ahead_iff.mp k with z | z
  · rw [← z]; exact h
  · exact ahead_trans h z
/-- collinear: an end of the one on the other one's line -/
theorem par_zero (ha : Up a) (hb : Up b) (hc : crs (alng a) (alng b) = 0) (h : cx a b.1 = 0) : cx a b.2 = 0 ∧ cx b a.1 = 0 ∧ cx b a.2 = 0 := by
  have e := cx_ends a b
  have pa := ahead_posv.mp ha.up
  have k1 : cx b a.1 * (alng a).1 = - (cx a b.1 * (alng b).1) := by
    have : cx b a.1 * (alng a).1 + cx a b.1 * (alng b).1 = (b.1.1 - a.1.1) * crs (alng a) (alng b) := by simp only [cx, crs, alng]; grind
    rw [hc] at this; grind
  have k2 : cx b a.1 * (alng a).2 = - (cx a b.1 * (alng b).2) := by
    have : cx b a.1 * (alng a).2 + cx a b.1 * (alng b).2 = (b.1.2 - a.1.2) * crs (alng a) (alng b) := by simp only [cx, crs, alng]; grind
    rw [hc] at this; grind
  have z : cx b a.1 = 0 := by
    rw [h] at k1 k2
    rcases pa with y | ⟨y, y2⟩
    · have h1 : cx b a.1 * (alng a).1 = 0 := by grind
      rcases Rat.mul_eq_zero.mp h1 with w | w
      · exact w
      · simp only [alng, sb] at w y; grind
    · have h1 : cx b a.1 * (alng a).2 = 0 := by grind
      rcases Rat.mul_eq_zero.mp h1 with w | w
      · exact w
      · simp only [alng, sb] at w y2; grind
  exact ⟨by grind, z, by grind⟩
theorem fair_isFair (ha : Up a) (hb : Up b) (f : FairW a b) : isFair a b = true := by
  unfold isFair meetW
  by_cases hc : crs (alng a) (alng b) = 0
  · rw [if_pos hc]
    unfold inLine
    by_cases hs : side a b.1 ≠ 0
    · rw [if_pos hs]
    · rw [if_neg hs]
      have h0 : cx a b.1 = 0 := sgn_0.mp (by simpa [side_cx] using hs)
      obtain ⟨h1, h2, h3⟩ := par_zero ha hb hc h0
      by_cases he : maxP a.1 b.1 = minP a.2 b.2
      · rw [if_pos he]
        simp only
        generalize hp : maxP a.1 b.1 = p at he ⊢
        have m1 : p = a.1 ∨ p = b.1 := by rw [← hp]; unfold maxP; split <;> simp
        have m2 : p = a.2 ∨ p = b.2 := by rw [he]; unfold minP; split <;> simp
        have na := ahead_ne ha.up
        have nb := ahead_ne hb.up
        rcases m1 with m1 | m1 <;> rcases m2 with m2 | m2
        · exact absurd (m1.symm.trans m2) na
        · simp [← m1, ← m2]
        · simp [← m1, ← m2]
        · exact absurd (m1.symm.trans m2) nb
      · rw [if_neg he]
        by_cases hl : ahead (maxP a.1 b.1) (minP a.2 b.2)
        · exfalso
          have sa : ∀ p, cx a p = 0 → side a p = 0 := fun p h => by rw [side_cx, h]; rfl
          have sb' : ∀ p, cx b p = 0 → side b p = 0 := fun p h => by rw [side_cx, h]; rfl
          have l1 : ¬ ahead (maxP a.1 b.1) a.1 ∧ ¬ ahead (maxP a.1 b.1) b.1 := by
            unfold maxP; split
            · next z => exact ⟨ahead_asymm z, ahead_irrefl _⟩
            · next z => exact ⟨ahead_irrefl _, z⟩
          have l2 : ¬ ahead a.2 (minP a.2 b.2) ∧ ¬ ahead b.2 (minP a.2 b.2) := by
            unfold minP; split
            · next z => exact ⟨ahead_asymm z, ahead_irrefl _⟩
            · next z => exact ⟨ahead_irrefl _, z⟩
          have q1 : ahead a.1 (minP a.2 b.2) := le_lt l1.1 hl
          have q2 : ahead b.1 (minP a.2 b.2) := le_lt l1.2 hl
          have q3 : ahead (maxP a.1 b.1) a.2 := lt_le hl l2.1
          have q4 : ahead (maxP a.1 b.1) b.2 := lt_le hl l2.2
          have e1 : a.1 = b.1 := by
            rcases ahead_tri a.1 b.1 with z | z | z
            · have m : maxP a.1 b.1 = b.1 := by unfold maxP; rw [if_pos z]
              rw [m] at q3 q4
              rcases f.e1 ⟨ahead_asymm z, ahead_asymm q3, sa _ h0⟩ with y | y
              · exact y.symm
              · exact absurd y (ahead_ne q3)
            · exact z
            · have m : maxP a.1 b.1 = a.1 := by unfold maxP; rw [if_neg (ahead_asymm z)]
              rw [m] at q3 q4
              rcases f.e3 ⟨ahead_asymm z, ahead_asymm q4, sb' _ h2⟩ with y | y
              · exact y
              · exact absurd y (ahead_ne q4)
          have e2 : a.2 = b.2 := by
            rcases ahead_tri a.2 b.2 with z | z | z
            · have m : minP a.2 b.2 = a.2 := by unfold minP; rw [if_neg (ahead_asymm z)]
              rw [m] at q1 q2
              rcases f.e4 ⟨ahead_asymm q2, ahead_asymm z, sb' _ h3⟩ with y | y
              · exact absurd y.symm (ahead_ne q2)
              · exact y
            · exact z
            · have m : minP a.2 b.2 = b.2 := by unfold minP; rw [if_pos z]
              rw [m] at q1 q2
              rcases f.e2 ⟨ahead_asymm q1, ahead_asymm z, sa _ h1⟩ with y | y
              · exact absurd y.symm (ahead_ne q1)
              · exact y.symm
          exact f.ne (Prod.ext e1 e2)
        · rw [if_neg hl]
  · rw [if_neg hc]
    by_cases hx : liesOn a (solW a b) ∧ liesOn b (solW a b)
    · rw [if_pos hx]
      obtain ⟨x1, x2⟩ := hx
      have p1 := (lies_sol_a ha hc).mp x1
      have p2 := (lies_sol_b hb hc).mp x2
      have hc2 : crs (alng b) (alng a) ≠ 0 := by rw [crs_swap]; grind
      have sS := sol_symm hc
      simp only [Bool.and_eq_true, Bool.or_eq_true, decide_eq_true_eq]
      have z : cx b a.1 * cx b a.2 = 0 ∨ cx a b.1 * cx a b.2 = 0 := by
        rcases f.cr with y | y
        · right; grind
        · left; grind
      rcases z with z | z <;> rcases Rat.mul_eq_zero.mp z with y | y
      · have e := sol_eq_a1 hc y
        rw [e] at x2 ⊢
        rcases f.e3 x2 with w | w
        · exact ⟨.inl rfl, .inl w.symm⟩
        · exact ⟨.inl rfl, .inr w.symm⟩
      · have e := sol_eq_a2 hc y
        rw [e] at x2 ⊢
        rcases f.e4 x2 with w | w
        · exact ⟨.inr rfl, .inl w.symm⟩
        · exact ⟨.inr rfl, .inr w.symm⟩
      · have e := sol_eq_a1 hc2 y
        rw [sS] at e
        rw [e] at x1 ⊢
        rcases f.e1 x1 with w | w
        · exact ⟨.inl w.symm, .inl rfl⟩
        · exact ⟨.inr w.symm, .inl rfl⟩
      · have e := sol_eq_a2 hc2 y
        rw [sS] at e
        rw [e] at x1 ⊢
        rcases f.e2 x1 with w | w
        · exact ⟨.inl w.symm, .inr rfl⟩
        · exact ⟨.inr w.symm, .inr rfl⟩
    · rw [if_neg hx]
end
end FL

namespace FL
open PySem PySem.Spec L2 ML
/-! ### plots -/
def solB (a b : Wl) : Prop := crs (alng a) (alng b) ≠ 0 → BP (solW a b) 400
def unfairAt (ws : List Wl) (w : Wl) : Option Nat := ws.findIdx? fun v => !isFair w v
def onD : Option Nat → D
  | none => .non
  | some n => .int n
/-- a list that is a value or of the store -/
inductive LstK (S : Sto) : D → List D → Prop
  | lst {ds : List D} : LstK S (.lst ds) ds
  | ref {q : Addr} {ds : List D} : S q = some (.lst ds) → LstK S (.ref q) ds
theorem LstK.of {S : Sto} {d : D} {ds : List D} (h : LstK S d ds) : lstOf S d = some ds := by
  cases h with
  | lst => rfl
  | ref h => simp only [lstOf, h]
theorem LstK.seqk {S : Sto} {d : D} {ds : List D} (h : LstK S d ds) : SeqK S d ds := by
  cases h with
  | lst => exact .lst
  | ref h => exact .ref h
theorem cut_take {α : Type} {f : α → D} {as : List α} {n : Nat} (h : n ≤ as.length) : cutD (as.map f) none (some (n : Int)) = (as.take n).map f := by
  unfold cutD
  have e1 : HT.sIx (as.map f).length 0 none = 0 := by simp [HT.sIx]
  have e2 : HT.sIx (as.map f).length (as.map f).length (some (n : Int)) = n := by
    simp only [HT.sIx, List.length_map]
    rw [if_neg (by omega)]; omega
  rw [e1, e2, List.map_take]
  simp
theorem in_wl {neg : Bool} {p : Pt} {w : Wl} {S : Sto} {Q : MQ} : rInM neg (spD p) (wlD w) S Q = Q (.bl (if neg then !(decide (w.1 = p) || decide (w.2 = p)) else (decide (w.1 = p) || decide (w.2 = p)))) S := by
  have e : look S (wlD w) = .tup [spD w.1, spD w.2] := rfl
  have m : memD (spD p) [spD w.1, spD w.2] = (decide (w.1 = p) || decide (w.2 = p)) := by
    show (D.deq (spD w.1) (spD p) || (D.deq (spD w.2) (spD p) || false)) = _
    rw [deq_sp, deq_sp, Bool.or_false]
  have c : D.plain (spD p) = true ∧ D.plains [spD w.1, spD w.2] = true ∧ D.dep (spD p) ≤ 64 ∧ D.deps [spD w.1, spD w.2] ≤ 63 :=
    ⟨plain_sp p, plain_wl w, by rw [dep_sp]; decide, by have := dep_wl w; rw [wlD, D.dep] at this; omega⟩
  simp only [rInM, e, m]
  exact propext ⟨fun h => h.2, fun h => ⟨c, h⟩⟩
theorem spot_word : ∀ t : D, D.deq (.str "spot") (.str "spot") = true := fun _ => by simp [D.deq]
def sp_is_fair : MSp := fun ds S Q _ => ∃ a b : Wl, ds = [wlD a, wlD b] ∧ BW a 200 ∧ BW b 200 ∧ solB a b ∧ Q (.bl (isFair a b)) S
def sp_unfair_with : MSp := fun ds S Q _ => ∃ (d : D) (ws : List Wl) (w : Wl), ds = [d, wlD w] ∧ LstK S d (ws.map wlD) ∧ ws.length ≤ 1000 ∧ BW w 200 ∧ (∀ v ∈ ws, BW v 200 ∧ solB w v) ∧ Q (onD (unfairAt ws w)) S
/-- a plot's walls meet at ends alone -/
def Fairs (ws : List Wl) : Prop := ws.Pairwise fun a b => isFair b a = true
def sp_plot_of : MSp := fun ds S Q _ => ∃ (d : D) (ws : List Wl), ds = [d] ∧ LstK S d (ws.map wlD) ∧ ws.length ≤ 40 ∧ (∀ v ∈ ws, BW v 200) ∧ ws.Pairwise (fun a b => solB b a) ∧ Fairs ws ∧ Q (.tup (ws.map wlD)) S
theorem unfair_none {ws : List Wl} {w : Wl} (h : ∀ v ∈ ws, isFair w v = true) : unfairAt ws w = none := by
  unfold unfairAt
  rw [List.findIdx?_eq_none_iff]
  intro v hv; simp [h v hv]
theorem t_is_fair {a b : Wl} {S : Sto} {Q : Hold MQ} {E : Hold MXQ} (ha : BW a 200) (hb : BW b 200) (hs : solB a b) (k : Q.v (.bl (isFair a b)) S) : @CallP sp_is_fair [wlD a, wlD b] S Q E := ⟨a, b, rfl, ha, hb, hs, k⟩
theorem t_plot {d : D} {ws : List Wl} {S : Sto} {Q : Hold MQ} {E : Hold MXQ} (hd : LstK S d (ws.map wlD)) (hz : ws.length ≤ 40) (hb : ∀ v ∈ ws, BW v 200) (hs : ws.Pairwise (fun a b => solB b a)) (hf : Fairs ws) (k : Q.v (.tup (ws.map wlD)) S) : @CallP sp_plot_of [d] S Q E := ⟨d, ws, rfl, hd, hz, hb, hs, hf, k⟩
end FL

set_option maxRecDepth 100000
namespace FL
open PySem PySem.Spec L2 ML
def b_is_fair : MS := (mSeq (mSet 2 (mCall FL.sp_meeting (mCons (mVar 0) (mCons (mVar 1) mNil))))
  (mSeq (mIfS (mTst (mOp rIsN (mVar 2) (mC .non))) (mRet (mC (.bl true))) mNext)
  (mRet (mAndV (mOp rEqM (mOp rIxM (mVar 2) (mC (.int 0))) (mC (.str "spot"))) (mAndV (mOp (rInM false) (mOp rIxM (mVar 2) (mC (.int 1))) (mVar 0)) (mOp (rInM false) (mOp rIxM (mVar 2) (mC (.int 1))) (mVar 1)))))))
def b_unfair_with : MS := (mSeq (mFor (iEn (mCons (mVar 0) mNil)) (gTp 2 (gCn (gNm 2) (gCn (gNm 3) gNl))) (mIfS (mNot (mTru (mCall FL.sp_is_fair (mCons (mVar 1) (mCons (mVar 3) mNil))))) (mRet (mVar 2)) mNext))
  (mRet (mC .non)))
def b_plot_of : MS := (mSeq (mIfS (mTst (mOp aGt (mBlt bLen (mCons (mVar 0) mNil)) (mC (.int 40)))) mNever mNext)
  (mSeq (mFor (iEn (mCons (mVar 0) mNil)) (gTp 2 (gCn (gNm 1) (gCn (gNm 2) gNl))) (mSeq (mSet 3 (mCall FL.sp_unfair_with (mCons (mCut (mVar 0) oNo (oSo (mVar 1))) (mCons (mVar 2) mNil))))
  (mIfS (mTst (mOp rNotN (mVar 3) (mC .non))) mNever mNext)))
  (mRet (mBlt bTuple (mCons (mVar 0) mNil)))))
end FL

set_option maxRecDepth 100000
set_option maxHeartbeats 4000000
namespace FL
-- counts /tmp/scratch/dev/N_lib6.json
open PySem PySem.Spec L2 ML
local macro_rules | `(tactic| simp $c:optConfig $[$d:discharger]? only [gg] $[$l:location]?) => `(tactic| simp $c $[$d]? only [↓ML.q_mSeq, ↓ML.q_mC, ↓ML.q_mOp, ↓ML.q_mUn, ↓ML.q_mTst, ↓ML.q_mNot, ↓ML.q_mNotV, ↓ML.q_mRet, ↓ML.q_mRetN, ↓ML.q_mExpr, ↓ML.q_mNext, ↓ML.q_mBreak, ↓ML.q_mCont, ↓ML.q_mAsg, ↓ML.q_gSb, ↓ML.q_mTup, ↓ML.q_mLst, ↓ML.q_mLstF, ↓ML.q_mCons, ↓ML.q_mNil, ↓ML.q_mBlt, ↓ML.q_rEqM, ↓ML.q_rNeM, ↓ML.q_iR1, ↓ML.q_iR2, ↓ML.q_iEn, ↓ML.q_iZp, ↓ML.q_mMt, ↓ML.q_mMt0, ↓ML.q_mYes, ↓ML.q_mCut, ↓ML.q_oNo, ↓ML.q_oSo, ↓ML.l_mCall, ↓ML.l_mAnd, ↓ML.l_mOr, ↓ML.l_mAndV, ↓ML.l_mOrV, ↓ML.l_mIf, ↓ML.l_mIfS, ↓ML.l_mChain, ↓ML.l_mVar, ↓ML.l_mFor, ↓ML.l_mWhile, ↓ML.l_mComp, ↓ML.l_mCompF, ↓ML.l_optP, ↓ML.l_Go, ↓ML.Hold_v, ↓ML.l_mSet, ↓ML.l_gNm, ↓ML.l_mPar, ↓ML.l_rIxM, ↓ML.l_rSetM, ↓ML.l_rInt, ↓ML.l_rInt0, ↓ML.l_rAdd_int, ↓ML.l_rAdd_str, ↓ML.l_rAdd_tup, ↓ML.l_rNeg, ↓ML.l_rIsN, ↓ML.l_rNotN, ↓ML.l_rIsBM, ↓ML.l_mTru, ↓ML.l_bLen, ↓ML.l_bAbs, ↓ML.l_bMax2, ↓ML.l_bMin2, ↓ML.l_bInt_i, ↓ML.l_bInt_b, ↓ML.l_bTuple, ↓ML.l_bListF, ↓ML.l_bList, ↓ML.l_mIsi, ↓ML.l_iL, ↓ML.l_iT, ↓ML.l_gTp, ↓ML.l_gLs, ↓ML.l_gCn, ↓ML.l_gNl, ↓ML.l_mtAppend, ML.Hold_v, ML.l_mVar_z, ML.l_mVar_s, ML.OptP_some, ML.Go_eq, ML.IteP_true, ML.IteP_false, ML.lstOf_ref', ML.lstOf_lst, ML.lstOf_scr, ML.lstOf_tup, ML.ownOf_ref', ML.ownOf_lst, ML.seqOf_tup', ML.seqOf_lst', ML.seqOf_scr', ML.seqOf_ref', ML.olP_lst, ML.tupOf_tup, ML.ixL_lit, ML.ixL_cast, ML.ixL_m1, ML.setAt_lit, ML.setAt_cast, ML.truD_bl, ML.truD_int, ML.truD_tup, ML.truD_lst, ML.truD_scr, ML.truD_non, ML.lenD_tup, ML.lenD_lst, ML.lenD_scr, ML.lenD_ref, ML.tyD_non, ML.tyD_bl, ML.tyD_int, ML.tyD_str, ML.tyD_tup, ML.tyD_lst, ML.szl, ML.szlt, ML.cpow_lit, ML.mulok_rl, ML.mulok_ll, ML.divok_l, ML.put_same, ML.put_put, ML.q_wipeM, ML.deq_int, ML.deq_bl, ML.deq_str, ML.deq_non, ML.eqOk_int, ML.eqOk_bl, ML.isTy_NoneType_int, ML.isTy_NoneType_bool, ML.isTy_NoneType_tuple, ML.isTy_NoneType_list, ML.isTy_NoneType_str, ML.isTy_bool_int, ML.isTy_bool_bool, ML.isTy_bool_tuple, ML.isTy_bool_list, ML.isTy_bool_str, ML.isTy_int_int, ML.isTy_int_bool, ML.isTy_int_tuple, ML.isTy_int_list, ML.isTy_int_str, ML.isTy_str_int, ML.isTy_str_bool, ML.isTy_str_tuple, ML.isTy_str_list, ML.isTy_str_str, ML.isTy_tuple_int, ML.isTy_tuple_bool, ML.isTy_tuple_tuple, ML.isTy_tuple_list, ML.isTy_tuple_str, ML.isTy_list_int, ML.isTy_list_bool, ML.isTy_list_tuple, ML.isTy_list_list, ML.isTy_list_str, ML.isTy_dict_int, ML.isTy_dict_bool, ML.isTy_dict_tuple, ML.isTy_dict_list, ML.isTy_dict_str, FL.tup_fr, FL.tup_sp, FL.tup_wl, FL.tupOf_fr, FL.tupOf_sp, FL.tupOf_wl, FL.nz0, FL.nz1, FL.nz2, FL.nz3, FL.look_non, FL.look_int, FL.look_bl, FL.look_str, FL.look_tup, FL.look_lst, FL.look_scr, FL.seqOf_fr, FL.seqOf_sp, FL.seqOf_wl, FL.look_fr, FL.look_sp, FL.look_wl, FL.eqOk_fr, FL.eqOk_sp, FL.eqOk_wl, FL.deq_fr, FL.deq_sp, FL.deq_wl, FL.tyD_fr, FL.tyD_sp, FL.tyD_wl, FL.isN_fr, FL.isN_sp, FL.isN_wl, FL.lenD_sp, FL.lenD_wl, FL.rAdd_wl_tup, List.length_map, List.map_cons, List.map_nil, List.replicate, List.set_cons_zero, List.set_cons_succ, List.getElem?_cons_zero, List.getElem?_cons_succ, List.cons_append, List.nil_append, List.length_cons, List.length_nil, Option.bind_some, Option.map_some, ↓reduceIte, Nat.reduceAdd, Nat.reduceSub, Nat.reduceLT, Nat.reduceLeDiff, Nat.zero_add, decide_eq_true_eq, Bool.not_eq_true, ne_eq, reduceCtorEq, not_false_eq_true, true_and, and_true, Bool.false_eq_true, Bool.not_true, Bool.not_false, decide_true, decide_false, not_true_eq_false, eq_self, Bool.not_eq_eq_eq_not, if_true, if_false, decide_eq_false_iff_not, ML.ncast, Int.reduceToNat, Int.reducePow, Int.reduceAdd, Int.reduceSub, Int.reduceMul, Int.reduceNeg, Int.reduceLT, Int.reduceLE, Int.reduceEq, Nat.reduceEqDiff, Int.zero_add, gt_iff_lt, beq_self_eq_true, Bool.true_beq, Bool.false_beq, Bool.and_true, Bool.and_false, Bool.true_and, Bool.false_and, ↓ML.l_mtInsert, ↓ML.l_mtReverse, ↓ML.l_mtClear, ↓ML.l_bSortU, ↓ML.q_mMt0, ↓ML.l_bMaxL, ↓ML.l_bMinL, ↓ML.l_aLt_int, ↓ML.l_aLt_u, ↓ML.l_aGt_int, ↓ML.l_aGt_u, ↓ML.l_aLe_int, ↓ML.l_aLe_u, ↓ML.l_aGe_int, ↓ML.l_aGe_u, ↓ML.l_bMaxA_int, ↓ML.l_bMaxA_u, ↓ML.l_bMinA_int, ↓ML.l_bMinA_u, ML.tup_u, ML.tupOf_u, ML.seqOf_u, ML.sqI_u, ML.look_u, ML.isN_u, ML.lenD_u, ML.tyD_u, ML.tup_uw, ML.tupOf_uw, ML.seqOf_uw, ML.sqI_uw, ML.look_uw, ML.isN_uw, ML.lenD_uw, ML.tyD_uw, ML.eqOk_u, ML.eqOk_uw, ML.deq_u, ML.deq_uw, ML.in_uw, ↓ML.l_mRaise, ↓ML.l_mTry, ↓ML.l_mIsE, ↓ML.l_mIsV, ↓ML.l_mtCount, ↓ML.l_rAddS_rl, ↓ML.l_rAddS_ll, ML.excD_ref, ML.excOf_exc, ML.blsOf_nil, ML.blsOf_cons, ML.endM_nx, ML.endM_rt, ↓ML.l_mYes, ↓ML.l_iS, ↓ML.l_mIfJ, ↓ML.l_mJ, ↓ML.CrollP_nil, ↓ML.CrollP_cons, ↓ML.CrA_at, ↓ML.FrollP_nil, ↓ML.FrollP_cons, ML.isN_non, ML.isN_int, ML.isN_bl, ML.isN_str, ML.isN_tup, ML.isN_lst, ML.isN_ref, ML.sqI_tup, ML.sqI_lst, ML.sqI_scr, ML.sqI_ref, ML.sqI_at, ML.rngD_0, ML.rngD_1, ML.rngD_2, ML.rngD_3, ML.rngD_4, ML.rngD_6, ML.q_wipeM_nil, ML.q_wipeM_cons, FL.sqI_sp, FL.sqI_wl] $[$l]?)
local macro_rules | `(tactic| simp $c:optConfig $[$d:discharger]? only [gg, $ls,*] $[$l:location]?) => `(tactic| simp $c $[$d]? only [↓ML.q_mSeq, ↓ML.q_mC, ↓ML.q_mOp, ↓ML.q_mUn, ↓ML.q_mTst, ↓ML.q_mNot, ↓ML.q_mNotV, ↓ML.q_mRet, ↓ML.q_mRetN, ↓ML.q_mExpr, ↓ML.q_mNext, ↓ML.q_mBreak, ↓ML.q_mCont, ↓ML.q_mAsg, ↓ML.q_gSb, ↓ML.q_mTup, ↓ML.q_mLst, ↓ML.q_mLstF, ↓ML.q_mCons, ↓ML.q_mNil, ↓ML.q_mBlt, ↓ML.q_rEqM, ↓ML.q_rNeM, ↓ML.q_iR1, ↓ML.q_iR2, ↓ML.q_iEn, ↓ML.q_iZp, ↓ML.q_mMt, ↓ML.q_mMt0, ↓ML.q_mYes, ↓ML.q_mCut, ↓ML.q_oNo, ↓ML.q_oSo, ↓ML.l_mCall, ↓ML.l_mAnd, ↓ML.l_mOr, ↓ML.l_mAndV, ↓ML.l_mOrV, ↓ML.l_mIf, ↓ML.l_mIfS, ↓ML.l_mChain, ↓ML.l_mVar, ↓ML.l_mFor, ↓ML.l_mWhile, ↓ML.l_mComp, ↓ML.l_mCompF, ↓ML.l_optP, ↓ML.l_Go, ↓ML.Hold_v, ↓ML.l_mSet, ↓ML.l_gNm, ↓ML.l_mPar, ↓ML.l_rIxM, ↓ML.l_rSetM, ↓ML.l_rInt, ↓ML.l_rInt0, ↓ML.l_rAdd_int, ↓ML.l_rAdd_str, ↓ML.l_rAdd_tup, ↓ML.l_rNeg, ↓ML.l_rIsN, ↓ML.l_rNotN, ↓ML.l_rIsBM, ↓ML.l_mTru, ↓ML.l_bLen, ↓ML.l_bAbs, ↓ML.l_bMax2, ↓ML.l_bMin2, ↓ML.l_bInt_i, ↓ML.l_bInt_b, ↓ML.l_bTuple, ↓ML.l_bListF, ↓ML.l_bList, ↓ML.l_mIsi, ↓ML.l_iL, ↓ML.l_iT, ↓ML.l_gTp, ↓ML.l_gLs, ↓ML.l_gCn, ↓ML.l_gNl, ↓ML.l_mtAppend, ML.Hold_v, ML.l_mVar_z, ML.l_mVar_s, ML.OptP_some, ML.Go_eq, ML.IteP_true, ML.IteP_false, ML.lstOf_ref', ML.lstOf_lst, ML.lstOf_scr, ML.lstOf_tup, ML.ownOf_ref', ML.ownOf_lst, ML.seqOf_tup', ML.seqOf_lst', ML.seqOf_scr', ML.seqOf_ref', ML.olP_lst, ML.tupOf_tup, ML.ixL_lit, ML.ixL_cast, ML.ixL_m1, ML.setAt_lit, ML.setAt_cast, ML.truD_bl, ML.truD_int, ML.truD_tup, ML.truD_lst, ML.truD_scr, ML.truD_non, ML.lenD_tup, ML.lenD_lst, ML.lenD_scr, ML.lenD_ref, ML.tyD_non, ML.tyD_bl, ML.tyD_int, ML.tyD_str, ML.tyD_tup, ML.tyD_lst, ML.szl, ML.szlt, ML.cpow_lit, ML.mulok_rl, ML.mulok_ll, ML.divok_l, ML.put_same, ML.put_put, ML.q_wipeM, ML.deq_int, ML.deq_bl, ML.deq_str, ML.deq_non, ML.eqOk_int, ML.eqOk_bl, ML.isTy_NoneType_int, ML.isTy_NoneType_bool, ML.isTy_NoneType_tuple, ML.isTy_NoneType_list, ML.isTy_NoneType_str, ML.isTy_bool_int, ML.isTy_bool_bool, ML.isTy_bool_tuple, ML.isTy_bool_list, ML.isTy_bool_str, ML.isTy_int_int, ML.isTy_int_bool, ML.isTy_int_tuple, ML.isTy_int_list, ML.isTy_int_str, ML.isTy_str_int, ML.isTy_str_bool, ML.isTy_str_tuple, ML.isTy_str_list, ML.isTy_str_str, ML.isTy_tuple_int, ML.isTy_tuple_bool, ML.isTy_tuple_tuple, ML.isTy_tuple_list, ML.isTy_tuple_str, ML.isTy_list_int, ML.isTy_list_bool, ML.isTy_list_tuple, ML.isTy_list_list, ML.isTy_list_str, ML.isTy_dict_int, ML.isTy_dict_bool, ML.isTy_dict_tuple, ML.isTy_dict_list, ML.isTy_dict_str, FL.tup_fr, FL.tup_sp, FL.tup_wl, FL.tupOf_fr, FL.tupOf_sp, FL.tupOf_wl, FL.nz0, FL.nz1, FL.nz2, FL.nz3, FL.look_non, FL.look_int, FL.look_bl, FL.look_str, FL.look_tup, FL.look_lst, FL.look_scr, FL.seqOf_fr, FL.seqOf_sp, FL.seqOf_wl, FL.look_fr, FL.look_sp, FL.look_wl, FL.eqOk_fr, FL.eqOk_sp, FL.eqOk_wl, FL.deq_fr, FL.deq_sp, FL.deq_wl, FL.tyD_fr, FL.tyD_sp, FL.tyD_wl, FL.isN_fr, FL.isN_sp, FL.isN_wl, FL.lenD_sp, FL.lenD_wl, FL.rAdd_wl_tup, List.length_map, List.map_cons, List.map_nil, List.replicate, List.set_cons_zero, List.set_cons_succ, List.getElem?_cons_zero, List.getElem?_cons_succ, List.cons_append, List.nil_append, List.length_cons, List.length_nil, Option.bind_some, Option.map_some, ↓reduceIte, Nat.reduceAdd, Nat.reduceSub, Nat.reduceLT, Nat.reduceLeDiff, Nat.zero_add, decide_eq_true_eq, Bool.not_eq_true, ne_eq, reduceCtorEq, not_false_eq_true, true_and, and_true, Bool.false_eq_true, Bool.not_true, Bool.not_false, decide_true, decide_false, not_true_eq_false, eq_self, Bool.not_eq_eq_eq_not, if_true, if_false, decide_eq_false_iff_not, ML.ncast, Int.reduceToNat, Int.reducePow, Int.reduceAdd, Int.reduceSub, Int.reduceMul, Int.reduceNeg, Int.reduceLT, Int.reduceLE, Int.reduceEq, Nat.reduceEqDiff, Int.zero_add, gt_iff_lt, beq_self_eq_true, Bool.true_beq, Bool.false_beq, Bool.and_true, Bool.and_false, Bool.true_and, Bool.false_and, ↓ML.l_mtInsert, ↓ML.l_mtReverse, ↓ML.l_mtClear, ↓ML.l_bSortU, ↓ML.q_mMt0, ↓ML.l_bMaxL, ↓ML.l_bMinL, ↓ML.l_aLt_int, ↓ML.l_aLt_u, ↓ML.l_aGt_int, ↓ML.l_aGt_u, ↓ML.l_aLe_int, ↓ML.l_aLe_u, ↓ML.l_aGe_int, ↓ML.l_aGe_u, ↓ML.l_bMaxA_int, ↓ML.l_bMaxA_u, ↓ML.l_bMinA_int, ↓ML.l_bMinA_u, ML.tup_u, ML.tupOf_u, ML.seqOf_u, ML.sqI_u, ML.look_u, ML.isN_u, ML.lenD_u, ML.tyD_u, ML.tup_uw, ML.tupOf_uw, ML.seqOf_uw, ML.sqI_uw, ML.look_uw, ML.isN_uw, ML.lenD_uw, ML.tyD_uw, ML.eqOk_u, ML.eqOk_uw, ML.deq_u, ML.deq_uw, ML.in_uw, ↓ML.l_mRaise, ↓ML.l_mTry, ↓ML.l_mIsE, ↓ML.l_mIsV, ↓ML.l_mtCount, ↓ML.l_rAddS_rl, ↓ML.l_rAddS_ll, ML.excD_ref, ML.excOf_exc, ML.blsOf_nil, ML.blsOf_cons, ML.endM_nx, ML.endM_rt, ↓ML.l_mYes, ↓ML.l_iS, ↓ML.l_mIfJ, ↓ML.l_mJ, ↓ML.CrollP_nil, ↓ML.CrollP_cons, ↓ML.CrA_at, ↓ML.FrollP_nil, ↓ML.FrollP_cons, ML.isN_non, ML.isN_int, ML.isN_bl, ML.isN_str, ML.isN_tup, ML.isN_lst, ML.isN_ref, ML.sqI_tup, ML.sqI_lst, ML.sqI_scr, ML.sqI_ref, ML.sqI_at, ML.rngD_0, ML.rngD_1, ML.rngD_2, ML.rngD_3, ML.rngD_4, ML.rngD_6, ML.q_wipeM_nil, ML.q_wipeM_cons, FL.sqI_sp, FL.sqI_wl, $ls,*] $[$l]?)
theorem l_is_fair : ∀ ds S Q E, FL.sp_is_fair ds S Q E → ds.length = 2 := by rintro _ _ _ _ ⟨_, _, rfl, _⟩; rfl
theorem l_unfair_with : ∀ ds S Q E, FL.sp_unfair_with ds S Q E → ds.length = 2 := by rintro _ _ _ _ ⟨_, _, _, rfl, _⟩; rfl
theorem l_plot_of : ∀ ds S Q E, FL.sp_plot_of ds S Q E → ds.length = 1 := by rintro _ _ _ _ ⟨_, _, rfl, _⟩; rfl
theorem r_is_fair : ∀ ds S Q E, FL.sp_is_fair ds S Q E → b_is_fair (mends Q E) (mstart 1 ds) S := by
  rintro _ S Q E ⟨a, b, rfl, ha, hb, hs, k⟩
  unfold b_is_fair
  simp only [ML.q_mstart, ML.q_mends, List.map_cons, List.map_nil, List.replicate, List.cons_append, List.nil_append]
  simp only [gg]
  refine t_meeting ha hb hs ?_
  simp only [gg]
  unfold isFair at k
  have hw : ¬ (("stretch" : Str) = "spot") := by decide +kernel
  have o1 : eqOk (.str "spot") (.str "spot") = true := by decide +kernel
  have o2 : eqOk (.str "stretch") (.str "spot") = true := by decide +kernel
  cases e : meetW a b with
  | no => rw [e] at k; simp only [gg, meD]; exact k
  | spot p =>
    rw [e] at k
    simp only [gg, meD, o1, in_wl]
    simp only at k
    generalize (decide (a.1 = p) || decide (a.2 = p)) = x at k ⊢
    cases x
    · simp only [gg, meD, o1, in_wl]; exact k
    · simp only [gg, meD, o1, in_wl]; exact k
  | stretch w =>
    rw [e] at k; simp only [gg, meD, o2, hw]; exact k
theorem r_unfair_with : ∀ ds S Q E, FL.sp_unfair_with ds S Q E → b_unfair_with (mends Q E) (mstart 2 ds) S := by
  rintro _ S Q E ⟨d, ws, w, rfl, hd, hz, hb, hv, k⟩
  unfold b_unfair_with
  simp only [ML.q_mstart, ML.q_mends, List.map_cons, List.map_nil, List.replicate, List.cons_append, List.nil_append]
  simp only [gg, ML.q_iEn, hd.of]
  refine wfor_inv (fun i σ S' => @KP ⟨(∃ a b, σ = [some d, some (wlD w), a, b]) ∧ S' = S ∧ ∀ v ∈ ws.take i, isFair w v = true⟩) ⟨⟨_, _, rfl⟩, rfl, fun v hv => by simp at hv⟩ ?_ ?_
  · rintro i x σ S' hx ⟨⟨a, b, rfl⟩, rfl, hf⟩
    obtain ⟨y, hy, rfl⟩ := enumD_get hx
    rw [List.getElem?_map] at hy
    cases ea : ws[i]? with
    | none => rw [ea] at hy; cases hy
    | some v =>
      rw [ea] at hy; cases hy
      have hm : v ∈ ws := List.mem_of_getElem? ea
      refine ⟨hd.of, ?_⟩
      simp only [gg]
      refine t_is_fair hb (hv v hm).1 (hv v hm).2 ?_
      simp only [gg]
      refine ⟨fun h => ?_, fun h => ?_⟩
      · simp only [gg]
        have e : unfairAt ws w = some i := by
          unfold unfairAt
          rw [List.findIdx?_eq_some_iff_getElem]
          obtain ⟨hi, ei⟩ := List.getElem?_eq_some_iff.mp ea
          refine ⟨hi, by rw [ei, h]; rfl, fun j hj => ?_⟩
          have := hf ws[j] (List.mem_take_iff_getElem.mpr ⟨j, by omega, rfl⟩)
          rw [this]; simp
        rw [e] at k
        exact k
      · simp only [gg]
        refine KP.mk ⟨⟨_, _, rfl⟩, rfl, fun u hu => ?_⟩
        rw [List.take_add_one, ea] at hu
        rcases List.mem_append.mp hu with z | z
        · exact hf u z
        · have : u = v := by simpa using z
          rw [this]; simpa using h
  · rintro σ S' ⟨⟨a, b, rfl⟩, rfl, hf⟩
    rw [enumD_len, List.length_map, List.take_length] at hf
    refine ⟨hd.of, ?_⟩
    simp only [gg]
    rw [unfair_none hf] at k
    exact k
theorem r_plot_of : ∀ ds S Q E, FL.sp_plot_of ds S Q E → b_plot_of (mends Q E) (mstart 3 ds) S := by
  rintro _ S Q E ⟨d, ws, rfl, hd, hz, hb, hs, hf, k⟩
  unfold b_plot_of
  simp only [ML.q_mstart, ML.q_mends, List.map_cons, List.map_nil, List.replicate, List.cons_append, List.nil_append]
  simp only [gg, hd.seqk.len, List.length_map]
  refine ⟨fun h => by omega, fun _ => ?_⟩
  simp only [gg, ML.q_iEn, hd.of]
  refine wfor_inv (fun i σ S' => @KP ⟨(∃ a b c, σ = [some d, a, b, c]) ∧ S' = S⟩) ⟨⟨_, _, _, rfl⟩, rfl⟩ ?_ ?_
  · rintro i x σ S' hx ⟨⟨a, b, c, rfl⟩, rfl⟩
    obtain ⟨y, hy, rfl⟩ := enumD_get hx
    rw [List.getElem?_map] at hy
    cases ea : ws[i]? with
    | none => rw [ea] at hy; cases hy
    | some v =>
      rw [ea] at hy; cases hy
      have hm : v ∈ ws := List.mem_of_getElem? ea
      obtain ⟨hi, ei⟩ := List.getElem?_eq_some_iff.mp ea
      refine ⟨hd.of, ?_⟩
      have pick : ∀ u ∈ ws.take i, ∃ j, ∃ (hj : j < i) (hl : j < ws.length), ws[j] = u := by
        intro u hu
        obtain ⟨j, hj, e⟩ := List.mem_take_iff_getElem.mp hu
        exact ⟨j, by omega, by omega, e⟩
      simp only [gg]
      cases hd with
      | lst =>
        simp only [gg, cut_take (show i ≤ ws.length by omega)]
        refine ⟨.lst ((ws.take i).map wlD), ws.take i, v, rfl, .lst, by rw [List.length_take]; omega, hb v hm, fun u hu => ?_, ?_⟩
        · obtain ⟨j, hj, hl, rfl⟩ := pick u hu
          refine ⟨hb _ (List.getElem_mem hl), ?_⟩
          have := List.pairwise_iff_getElem.mp hs j i hl hi hj
          rw [ei] at this; exact this
        · rw [unfair_none fun u hu => ?_]
          · simp only [gg, onD]
            exact KP.mk ⟨⟨_, _, _, rfl⟩, rfl⟩
          · obtain ⟨j, hj, hl, rfl⟩ := pick u hu
            have := List.pairwise_iff_getElem.mp hf j i hl hi hj
            rw [ei] at this; exact this
      | ref h =>
        simp only [gg, h, cut_take (show i ≤ ws.length by omega)]
        refine ⟨.lst ((ws.take i).map wlD), ws.take i, v, rfl, .lst, by rw [List.length_take]; omega, hb v hm, fun u hu => ?_, ?_⟩
        · obtain ⟨j, hj, hl, rfl⟩ := pick u hu
          refine ⟨hb _ (List.getElem_mem hl), ?_⟩
          have := List.pairwise_iff_getElem.mp hs j i hl hi hj
          rw [ei] at this; exact this
        · rw [unfair_none fun u hu => ?_]
          · simp only [gg, onD]
            exact KP.mk ⟨⟨_, _, _, rfl⟩, rfl⟩
          · obtain ⟨j, hj, hl, rfl⟩ := pick u hu
            have := List.pairwise_iff_getElem.mp hf j i hl hi hj
            rw [ei] at this; exact this
  · rintro σ S' ⟨⟨a, b, c, rfl⟩, rfl⟩
    refine ⟨hd.of, ?_⟩
    simp only [gg, hd.seqk.seq]
    exact k
end FL

namespace FL
open PySem PySem.Spec L2 ML
/-! ### plots drawn in units -/
/-- the drawn plot itself -/
def pltW (s : Sc) (ws : List UW) : List Wl := ws.map fun w => afw s (ofW w)
theorem plt_enc (s : Sc) (ws : List UW) : (ws.map fun w => wlD (afw s (ofW w))) = (pltW s ws).map wlD := by unfold pltW; rw [List.map_map]; rfl
theorem plt_len (s : Sc) (ws : List UW) : (pltW s ws).length = ws.length := List.length_map ..
section
variable {m : Nat} {z : Int} {ws : List UW} {s : Sc}
theorem Drawn.wok (h : Drawn m z ws) (hz : z ≤ 500) {w : UW} (hw : w ∈ ws) : WOk 500 w := by
  have := h.lo w hw
  exact ⟨⟨by omega, by omega, by omega, by omega⟩, ⟨by omega, by omega, by omega, by omega⟩⟩
theorem Drawn.bw (h : Drawn m z ws) (hs : ScOk s) (hz : z ≤ 500) : ∀ v ∈ pltW s ws, BW v 200 := by
  intro v hv
  obtain ⟨w, hw, rfl⟩ := List.mem_map.mp hv
  exact BW.mono (h := bw_afw hs ((h.wok hz hw).mono (by decide))) (by decide)
theorem Drawn.sol (h : Drawn m z ws) (hs : ScOk s) (hz : z ≤ 500) {a b : Wl} (ha : a ∈ pltW s ws) (hb : b ∈ pltW s ws) : solB a b := by
  obtain ⟨w, hw, rfl⟩ := List.mem_map.mp ha
  obtain ⟨v, hv, rfl⟩ := List.mem_map.mp hb
  exact sol_bd hs (h.wok hz hw) (h.wok hz hv)
theorem Drawn.sols (h : Drawn m z ws) (hs : ScOk s) (hz : z ≤ 500) : (pltW s ws).Pairwise fun a b => solB b a :=
  List.pairwise_iff_getElem.mpr fun i j hi hj _ => h.sol hs hz (List.getElem_mem hj) (List.getElem_mem hi)
theorem Drawn.upA (h : Drawn m z ws) (hs : ScOk s) : ∀ v ∈ pltW s ws, Up v := by
  intro v hv
  obtain ⟨w, hw, rfl⟩ := List.mem_map.mp hv
  exact ⟨(ahead_af hs _ _).mpr (h.up' hw).1⟩
theorem Drawn.fairA (h : Drawn m z ws) (hs : ScOk s) : (pltW s ws).Pairwise fun a b => FairW b a := by
  refine List.pairwise_iff_getElem.mpr fun i j hi hj hij => ?_
  have hi' : i < ws.length := by rw [plt_len] at hi; exact hi
  have hj' : j < ws.length := by rw [plt_len] at hj; exact hj
  have e : ∀ k (hk : k < (pltW s ws).length) (hk' : k < ws.length), (pltW s ws)[k] = afw s (ofW ws[k]) := fun k hk hk' => List.getElem_map (fun w => afw s (ofW w))
  rw [e i hi hi', e j hj hj']
  exact fairW_af hs (h.fairW (i := j) (j := i) (by omega) (List.getElem?_eq_getElem hj') (List.getElem?_eq_getElem hi'))
theorem Drawn.fairs (h : Drawn m z ws) (hs : ScOk s) : Fairs (pltW s ws) := by
  refine List.pairwise_iff_getElem.mpr fun i j hi hj hij => ?_
  exact fair_isFair (h.upA hs _ (List.getElem_mem hj)) (h.upA hs _ (List.getElem_mem hi)) (List.pairwise_iff_getElem.mp (h.fairA hs) i j hi hj hij)
end
/-- forty upright walls beside one another -/
def forty : List UW := (List.range 40).map fun (k : Nat) => (((k : Int), 0), ((k : Int), 1 + (k : Int).fmod 3))
theorem forty_drawn : Drawn 40 100 forty := ⟨by decide, by decide +kernel, by decide +kernel, by decide +kernel⟩
end FL

namespace FL
open PySem PySem.Spec L2 ML
/-! ### walls that span one spot stand in an order: the plane sheared a little -/
theorem all_small {α : Type} {P : α → Rat → Prop} (h : ∀ x, ∃ e : Rat, 0 < e ∧ ∀ d : Rat, 0 < d → d ≤ e → P x d) : ∀ xs : List α, ∃ e : Rat, 0 < e ∧ ∀ d : Rat, 0 < d → d ≤ e → ∀ x ∈ xs, P x d
  | [] => ⟨1, by decide, fun _ _ _ _ hx => by cases hx⟩
  | x :: xs => by
    obtain ⟨e1, p1, k1⟩ := h x
    obtain ⟨e2, p2, k2⟩ := all_small h xs
    refine ⟨if e1 ≤ e2 then e1 else e2, by split <;> assumption, fun d hd hl y hy => ?_⟩
    have l1 : d ≤ e1 := by split at hl <;> grind
    have l2 : d ≤ e2 := by split at hl <;> grind
    rcases List.mem_cons.mp hy with z | z
    · rw [z]; exact k1 d hd l1
    · exact k2 d hd l2 y z
def sh (d : Rat) (p : Pt) : Rat := p.1 + d * p.2
theorem sh_pair (p q : Pt) : ∃ e : Rat, 0 < e ∧ ∀ d : Rat, 0 < d → d ≤ e → ahead p q → sh d p < sh d q := by
  by_cases h1 : p.1 < q.1
  · by_cases h2 : p.2 ≤ q.2
    · refine ⟨1, by decide, fun d hd _ _ => ?_⟩
      unfold sh
      have : d * p.2 ≤ d * q.2 := Rat.mul_le_mul_of_nonneg_left h2 (Rat.le_of_lt hd)
      grind
    · have hc : 0 < p.2 - q.2 := by grind
      have hg : 0 < q.1 - p.1 := by grind
      refine ⟨(q.1 - p.1) / 2 / (p.2 - q.2), ?_, fun d hd hl _ => ?_⟩
      · rw [Rat.div_def]
        exact Rat.mul_pos (by grind) (Rat.inv_pos.mpr hc)
      · unfold sh
        have : d * (p.2 - q.2) ≤ (q.1 - p.1) / 2 := by
          have h3 := Rat.mul_le_mul_of_nonneg_right hl (Rat.le_of_lt hc)
          have h4 : (q.1 - p.1) / 2 / (p.2 - q.2) * (p.2 - q.2) = (q.1 - p.1) / 2 := by grind
          grind
        grind
  · refine ⟨1, by decide, fun d hd _ ha => ?_⟩
    unfold ahead at ha
    rcases ha with z | ⟨z1, z2⟩
    · exact absurd z h1
    · unfold sh
      have : d * p.2 < d * q.2 := Rat.mul_lt_mul_of_pos_left z2 hd
      grind
theorem shear (ps : List Pt) : ∃ d : Rat, 0 < d ∧ ∀ p ∈ ps, ∀ q ∈ ps, ahead p q → sh d p < sh d q := by
  obtain ⟨e, he, k⟩ := all_small (P := fun p d => ∀ q ∈ ps, ahead p q → sh d p < sh d q) (fun p => all_small (fun q => sh_pair p q) ps) ps
  exact ⟨e, he, fun p hp q hq => k e he (by grind) p hp q hq⟩
/-- how high a wall is over a place of the sheared plane -/
def hgt (d : Rat) (w : Wl) (X : Rat) : Rat := w.1.2 + (X - sh d w.1) * ((w.2.2 - w.1.2) / (sh d w.2 - sh d w.1))
section
variable {d : Rat} {a b w : Wl} {s : Pt} {X : Rat}
theorem cx_hgt (h : sh d w.1 < sh d w.2) : cx w s = (sh d w.2 - sh d w.1) * (s.2 - hgt d w (sh d s)) := by
  have hW : sh d w.2 - sh d w.1 ≠ 0 := by grind
  have e : (sh d w.2 - sh d w.1) * ((sh d s - sh d w.1) * ((w.2.2 - w.1.2) / (sh d w.2 - sh d w.1))) = (sh d s - sh d w.1) * (w.2.2 - w.1.2) := by
    generalize sh d w.2 - sh d w.1 = W at hW ⊢
    grind
  unfold hgt
  have e2 : (sh d w.2 - sh d w.1) * (s.2 - (w.1.2 + (sh d s - sh d w.1) * ((w.2.2 - w.1.2) / (sh d w.2 - sh d w.1)))) = (sh d w.2 - sh d w.1) * (s.2 - w.1.2) - (sh d s - sh d w.1) * (w.2.2 - w.1.2) := by
    rw [← e]; grind
  rw [e2]
  simp only [cx, crs, alng, sh]
  grind
theorem hgt_f (h : sh d w.1 < sh d w.2) : hgt d w (sh d w.1) = w.1.2 := by unfold hgt; grind
theorem hgt_s (h : sh d w.1 < sh d w.2) : hgt d w (sh d w.2) = w.2.2 := by
  have hW : sh d w.2 - sh d w.1 ≠ 0 := by grind
  unfold hgt
  generalize sh d w.2 - sh d w.1 = W at hW ⊢
  grind
theorem hgt_lin (d : Rat) (w : Wl) (X Y : Rat) : hgt d w X = hgt d w Y + (X - Y) * ((w.2.2 - w.1.2) / (sh d w.2 - sh d w.1)) := by unfold hgt; grind
theorem pos_of_mul {k x : Rat} (hk : 0 < k) (h : 0 < k * x) : 0 < x := by
  by_cases z : 0 < x
  · exact z
  · have := Rat.mul_le_mul_of_nonneg_left (show x ≤ 0 by grind) (Rat.le_of_lt hk)
    grind
theorem nonneg_of_mul {k x : Rat} (hk : 0 < k) (h : 0 ≤ k * x) : 0 ≤ x := by
  by_cases z : 0 ≤ x
  · exact z
  · have := Rat.mul_lt_mul_of_pos_left (show x < 0 by grind) hk
    grind
theorem interp {x r m e : Rat} (hx : 0 < x) (hr : x < r) (h0 : 0 ≤ e) (h1 : 0 ≤ e + r * m) (h : 0 < e ∨ 0 < e + r * m) : 0 < e + x * m := by
  refine pos_of_mul (k := r) (by grind) ?_
  have e1 : r * (e + x * m) = (r - x) * e + x * (e + r * m) := by grind
  rw [e1]
  have a1 : 0 ≤ (r - x) * e := Rat.mul_nonneg (by grind) h0
  have a2 : 0 ≤ x * (e + r * m) := Rat.mul_nonneg (by grind) h1
  rcases h with z | z
  · have := Rat.mul_pos (show 0 < r - x by grind) z
    grind
  · have := Rat.mul_pos hx z
    grind
/-- the sheared plane keeps the order of the ends of these -/
structure Shd (d : Rat) (a b : Wl) : Prop where
  wa : sh d a.1 < sh d a.2
  wb : sh d b.1 < sh d b.2
theorem lval_hgt (h : Shd d a b) (k1 : sh d a.1 < X) (k2 : sh d b.1 < X) (p : 0 < lval a b) : ∃ L, L < X ∧ 0 < hgt d a L - hgt d b L := by
  have wa := h.wa
  have wb := h.wb
  unfold lval at p
  split at p
  · exact absurd p (by decide)
  · split at p
    · refine ⟨sh d b.1, k2, ?_⟩
      rw [cx_hgt h.wa] at p
      rw [hgt_f h.wb]
      refine pos_of_mul (k := sh d a.2 - sh d a.1) (by grind) (by grind)
    · refine ⟨sh d a.1, k1, ?_⟩
      rw [cx_hgt h.wb] at p
      rw [hgt_f h.wa]
      exact pos_of_mul (k := sh d b.2 - sh d b.1) (by grind) p
theorem rval_hgt (h : Shd d a b) (k1 : X < sh d a.2) (k2 : X < sh d b.2) : ∃ R, X < R ∧ (0 ≤ rval a b → 0 ≤ hgt d a R - hgt d b R) ∧ (0 < rval a b → 0 < hgt d a R - hgt d b R) := by
  have wa := h.wa
  have wb := h.wb
  unfold rval
  split
  · next e =>
    refine ⟨sh d a.2, k1, fun _ => ?_, fun z => absurd z (by decide)⟩
    have e1 := hgt_s h.wa
    have e2 := hgt_s h.wb
    rw [← e] at e2
    rw [e1, e2]; grind
  · split
    · refine ⟨sh d a.2, k1, fun z => ?_, fun z => ?_⟩
      · rw [cx_hgt h.wb] at z
        rw [hgt_s h.wa]
        exact nonneg_of_mul (k := sh d b.2 - sh d b.1) (by grind) z
      · rw [cx_hgt h.wb] at z
        rw [hgt_s h.wa]
        exact pos_of_mul (k := sh d b.2 - sh d b.1) (by grind) z
    · refine ⟨sh d b.2, k2, fun z => ?_, fun z => ?_⟩
      · rw [cx_hgt h.wa] at z
        rw [hgt_s h.wb]
        exact nonneg_of_mul (k := sh d a.2 - sh d a.1) (by grind) (by grind)
      · rw [cx_hgt h.wa] at z
        rw [hgt_s h.wb]
        exact pos_of_mul (k := sh d a.2 - sh d a.1) (by grind) (by grind)
theorem above_hgt (ha : Up a) (hb : Up b) (f : FairW a b) (h : Shd d a b) (k1 : sh d a.1 < X) (k2 : sh d b.1 < X) (k3 : X < sh d a.2) (k4 : X < sh d b.2) (hab : aboveW a b) : hgt d b X < hgt d a X := by
  obtain ⟨o, hv⟩ := above_val.mp hab
  obtain ⟨R, hR, r0, r1⟩ := rval_hgt h k3 k4
  have fin : ∀ L, L < X → 0 ≤ hgt d a L - hgt d b L → 0 ≤ hgt d a R - hgt d b R → (0 < hgt d a L - hgt d b L ∨ 0 < hgt d a R - hgt d b R) → hgt d b X < hgt d a X := by
    intro L hL q0 q1 q2
    have l1 := hgt_lin d a X L
    have l2 := hgt_lin d b X L
    have l3 := hgt_lin d a R L
    have l4 := hgt_lin d b R L
    have key := interp (x := X - L) (r := R - L) (m := (a.2.2 - a.1.2) / (sh d a.2 - sh d a.1) - (b.2.2 - b.1.2) / (sh d b.2 - sh d b.1)) (e := hgt d a L - hgt d b L) (by grind) (by grind) q0 (by grind) (by grind)
    grind
  rcases hv with z | ⟨z1, z2⟩
  · obtain ⟨L, hL, l0⟩ := lval_hgt h k1 k2 z
    have : 0 ≤ rval a b := by
      have := lr_pos ha hb f o
      grind
    exact fin L hL (by grind) (r0 this) (.inl l0)
  · refine fin (sh d a.1) k1 ?_ (by have := r1 z2; grind) (.inr (r1 z2))
    have e1 := hgt_f h.wa
    have e2 := hgt_f h.wb
    rw [← z1] at e2
    rw [e1, e2]; grind
theorem above_hgt_iff (ha : Up a) (hb : Up b) (f : FairW a b) (o : both a b) (h : Shd d a b) (k1 : sh d a.1 < X) (k2 : sh d b.1 < X) (k3 : X < sh d a.2) (k4 : X < sh d b.2) : (aboveW a b ↔ hgt d b X < hgt d a X) ∧ hgt d a X ≠ hgt d b X := by
  have h1 := above_one ha hb f o
  by_cases z : aboveW a b
  · have := above_hgt ha hb f h k1 k2 k3 k4 z
    exact ⟨⟨fun _ => this, fun _ => z⟩, fun e => by grind⟩
  · have z2 : aboveW b a := by
      by_cases y : aboveW b a
      · exact y
      · exact absurd (h1.mpr y) z
    have := above_hgt hb ha f.symm ⟨h.wb, h.wa⟩ k2 k1 k4 k3 z2
    exact ⟨⟨fun y => absurd y z, fun y => by grind⟩, fun e => by grind⟩
end
/-- a place a little behind a spot that walls span -/
theorem place {d x0 : Rat} : ∀ ws : List Wl, (∀ w ∈ ws, x0 < sh d w.2) → ∃ X, x0 < X ∧ ∀ w ∈ ws, X < sh d w.2
  | [], _ => ⟨x0 + 1, by grind, fun _ h => by cases h⟩
  | w :: ws, h => by
    obtain ⟨X, h1, h2⟩ := place ws fun v hv => h v (List.mem_cons_of_mem _ hv)
    have h0 := h w List.mem_cons_self
    refine ⟨if X < sh d w.2 then X else (x0 + sh d w.2) / 2, by split <;> grind, fun v hv => ?_⟩
    rcases List.mem_cons.mp hv with z | z
    · subst z; split <;> grind
    · have := h2 v z
      split <;> grind
/-- walls that span one spot and meet at ends alone are told in their order by a number each -/
theorem slab_order {ws : List Wl} {t : Pt} (hu : ∀ w ∈ ws, Up w) (hf : ∀ a ∈ ws, ∀ b ∈ ws, a ≠ b → FairW a b) (hs : ∀ w ∈ ws, spansW w t) :
    ∃ f : Wl → Rat, ∀ a ∈ ws, ∀ b ∈ ws, (aboveW a b ↔ f b < f a) ∧ (a ≠ b → f a ≠ f b) := by
  obtain ⟨d, hd, k⟩ := shear (t :: endsW ws)
  have m1 : ∀ w ∈ ws, w.1 ∈ t :: endsW ws := fun w hw => List.mem_cons_of_mem _ (mem_ends.mpr ⟨w, hw, .inl rfl⟩)
  have m2 : ∀ w ∈ ws, w.2 ∈ t :: endsW ws := fun w hw => List.mem_cons_of_mem _ (mem_ends.mpr ⟨w, hw, .inr rfl⟩)
  obtain ⟨X, hX, hX2⟩ := place (d := d) (x0 := sh d t) ws fun w hw => k _ List.mem_cons_self _ (m2 w hw) (hs w hw).2
  have hX1 : ∀ w ∈ ws, sh d w.1 < X := by
    intro w hw
    rcases ahead_tri w.1 t with z | z | z
    · have := k _ (m1 w hw) _ List.mem_cons_self z; grind
    · rw [z]; exact hX
    · exact absurd z (hs w hw).1
  have hw : ∀ w ∈ ws, sh d w.1 < sh d w.2 := fun w hw => k _ (m1 w hw) _ (m2 w hw) (hu w hw).up
  have sp : ∀ a ∈ ws, ∀ b ∈ ws, ahead a.1 b.2 := by
    intro a ha b hb
    rcases ahead_tri a.1 t with z | z | z
    · exact ahead_trans z (hs b hb).2
    · rw [z]; exact (hs b hb).2
    · exact absurd z (hs a ha).1
  refine ⟨fun w => hgt d w X, fun a ha b hb => ?_⟩
  by_cases e : a = b
  · subst e
    refine ⟨⟨fun z => ?_, fun z => absurd z (by grind)⟩, fun z => absurd rfl z⟩
    obtain ⟨_, h⟩ := above_val.mp z
    have l0 : lval a a = 0 := by unfold lval; simp
    have r0 : rval a a = 0 := by unfold rval; simp
    rw [l0, r0] at h
    rcases h with h | h
    · exact absurd h (by decide)
    · exact absurd h.2 (by decide)
  · have := above_hgt_iff (hu a ha) (hu b hb) (hf a ha b hb e) ⟨sp a ha b hb, sp b hb a ha⟩ ⟨hw a ha, hw b hb⟩ (hX1 a ha) (hX1 b hb) (hX2 a ha) (hX2 b hb)
    exact ⟨this.1, fun _ => this.2⟩
/-! ### the upper one of some walls -/
instance : DecidablePred fun w : Wl => aboveW w a := fun w => by infer_instance
def upperF (f : Wl) : List Wl → Wl
  | [] => f
  | w :: ws => upperF (if aboveW w f then w else f) ws
theorem upperF_append (f : Wl) (xs ys : List Wl) : upperF f (xs ++ ys) = upperF (upperF f xs) ys := by
  induction xs generalizing f with
  | nil => rfl
  | cons x xs ih => exact ih _
theorem upperF_mem (f : Wl) (ws : List Wl) : upperF f ws ∈ f :: ws := by
  induction ws generalizing f with
  | nil => exact List.mem_cons_self
  | cons w ws ih =>
    have h : upperF (if aboveW w f then w else f) ws ∈ (if aboveW w f then w else f) :: ws := ih _
    show upperF (if aboveW w f then w else f) ws ∈ _
    rcases List.mem_cons.mp h with e | e
    · rw [e]
      split
      · exact List.mem_cons_of_mem _ List.mem_cons_self
      · exact List.mem_cons_self
    · exact List.mem_cons_of_mem _ (List.mem_cons_of_mem _ e)
theorem upperF_max {h : Wl → Rat} (f : Wl) (ws : List Wl) (k : ∀ a ∈ f :: ws, ∀ b ∈ f :: ws, aboveW a b ↔ h b < h a) : ∀ a ∈ f :: ws, h a ≤ h (upperF f ws) := by
  induction ws generalizing f with
  | nil => intro a ha; rw [List.mem_singleton.mp ha]; exact Rat.le_refl
  | cons w ws ih =>
    have kf := k w (by simp) f (by simp)
    have hg : (if aboveW w f then w else f) ∈ f :: w :: ws := by split <;> simp
    have sub : ∀ x ∈ (if aboveW w f then w else f) :: ws, x ∈ f :: w :: ws := by
      intro x hx
      rcases List.mem_cons.mp hx with e | e
      · rw [e]; exact hg
      · exact List.mem_cons_of_mem _ (List.mem_cons_of_mem _ e)
    have i := ih (if aboveW w f then w else f) fun a ha b hb => k a (sub a ha) b (sub b hb)
    have i0 := i _ List.mem_cons_self
    intro a ha
    show h a ≤ h (upperF (if aboveW w f then w else f) ws)
    rcases List.mem_cons.mp ha with e | e
    · subst e
      refine Rat.le_trans ?_ i0
      split
      · next z => exact Rat.le_of_lt (kf.mp z)
      · exact Rat.le_refl
    · rcases List.mem_cons.mp e with e | e
      · subst e
        refine Rat.le_trans ?_ i0
        split
        · exact Rat.le_refl
        · next z => exact Rat.not_lt.mp fun y => z (kf.mpr y)
      · exact i a (List.mem_cons_of_mem _ e)
/-- the upper one of walls, the first one first -/
def upperW : List Wl → Wl
  | [] => ((0, 0), (0, 0))
  | w :: ws => upperF w ws
theorem cut_from1 {α : Type} {f : α → D} {a : α} {as : List α} : cutD ((a :: as).map f) (some 1) none = as.map f := by
  unfold cutD
  have e1 : HT.sIx ((a :: as).map f).length 0 (some 1) = 1 := by
    simp only [HT.sIx, List.length_map, List.length_cons]
    rw [if_neg (by omega)]; omega
  have e2 : HT.sIx ((a :: as).map f).length ((a :: as).map f).length none = as.length + 1 := by simp [HT.sIx]
  rw [e1, e2]
  simp only [List.map_cons, List.drop_succ_cons, List.drop_zero, Nat.add_sub_cancel]
  rw [List.take_of_length_le (by rw [List.length_map]; omega)]
def sp_upper_of : MSp := fun ds S Q _ => ∃ (d : D) (ws : List Wl), ds = [d] ∧ LstK S d (ws.map wlD) ∧ ws ≠ [] ∧ ws.length ≤ 1000 ∧ (∀ v ∈ ws, BW v 200) ∧ Q (wlD (upperW ws)) S
theorem t_upper {d : D} {ws : List Wl} {S : Sto} {Q : Hold MQ} {E : Hold MXQ} (hd : LstK S d (ws.map wlD)) (hn : ws ≠ []) (hz : ws.length ≤ 1000) (hb : ∀ v ∈ ws, BW v 200) (k : Q.v (wlD (upperW ws)) S) : @CallP sp_upper_of [d] S Q E := ⟨d, ws, rfl, hd, hn, hz, hb, k⟩
end FL

set_option maxRecDepth 100000
namespace FL
open PySem PySem.Spec L2 ML
def b_upper_of : MS := (mSeq (mSet 1 (mOp rIxM (mVar 0) (mC (.int 0))))
  (mSeq (mFor (iS (mCut (mVar 0) (oSo (mC (.int 1))) oNo)) (gNm 2) (mIfS (mTru (mCall FL.sp_is_above (mCons (mVar 2) (mCons (mVar 1) mNil)))) (mSet 1 (mVar 2)) mNext))
  (mRet (mVar 1))))
end FL

-- FLQ
set_option maxRecDepth 100000
set_option maxHeartbeats 4000000
namespace FL
-- counts /tmp/scratch/dev/N_lib7.json
open PySem PySem.Spec L2 ML
local macro_rules | `(tactic| simp $c:optConfig $[$d:discharger]? only [gg] $[$l:location]?) => `(tactic| simp $c $[$d]? only [↓ML.q_mSeq, ↓ML.q_mC, ↓ML.q_mOp, ↓ML.q_mUn, ↓ML.q_mTst, ↓ML.q_mNot, ↓ML.q_mNotV, ↓ML.q_mRet, ↓ML.q_mRetN, ↓ML.q_mExpr, ↓ML.q_mNext, ↓ML.q_mBreak, ↓ML.q_mCont, ↓ML.q_mAsg, ↓ML.q_gSb, ↓ML.q_mTup, ↓ML.q_mLst, ↓ML.q_mLstF, ↓ML.q_mCons, ↓ML.q_mNil, ↓ML.q_mBlt, ↓ML.q_rEqM, ↓ML.q_rNeM, ↓ML.q_iR1, ↓ML.q_iR2, ↓ML.q_iEn, ↓ML.q_iZp, ↓ML.q_mMt, ↓ML.q_mMt0, ↓ML.q_mYes, ↓ML.q_mCut, ↓ML.q_oNo, ↓ML.q_oSo, ↓ML.l_mCall, ↓ML.l_mAnd, ↓ML.l_mOr, ↓ML.l_mAndV, ↓ML.l_mOrV, ↓ML.l_mIf, ↓ML.l_mIfS, ↓ML.l_mChain, ↓ML.l_mVar, ↓ML.l_mFor, ↓ML.l_mWhile, ↓ML.l_mComp, ↓ML.l_mCompF, ↓ML.l_optP, ↓ML.l_Go, ↓ML.Hold_v, ↓ML.l_mSet, ↓ML.l_gNm, ↓ML.l_mPar, ↓ML.l_rIxM, ↓ML.l_rSetM, ↓ML.l_rInt, ↓ML.l_rInt0, ↓ML.l_rAdd_int, ↓ML.l_rAdd_str, ↓ML.l_rAdd_tup, ↓ML.l_rNeg, ↓ML.l_rIsN, ↓ML.l_rNotN, ↓ML.l_rIsBM, ↓ML.l_mTru, ↓ML.l_bLen, ↓ML.l_bAbs, ↓ML.l_bMax2, ↓ML.l_bMin2, ↓ML.l_bInt_i, ↓ML.l_bInt_b, ↓ML.l_bTuple, ↓ML.l_bListF, ↓ML.l_bList, ↓ML.l_mIsi, ↓ML.l_iL, ↓ML.l_iT, ↓ML.l_gTp, ↓ML.l_gLs, ↓ML.l_gCn, ↓ML.l_gNl, ↓ML.l_mtAppend, ML.Hold_v, ML.l_mVar_z, ML.l_mVar_s, ML.OptP_some, ML.Go_eq, ML.IteP_true, ML.IteP_false, ML.lstOf_ref', ML.lstOf_lst, ML.lstOf_scr, ML.lstOf_tup, ML.ownOf_ref', ML.ownOf_lst, ML.seqOf_tup', ML.seqOf_lst', ML.seqOf_scr', ML.seqOf_ref', ML.olP_lst, ML.tupOf_tup, ML.ixL_lit, ML.ixL_cast, ML.ixL_m1, ML.setAt_lit, ML.setAt_cast, ML.truD_bl, ML.truD_int, ML.truD_tup, ML.truD_lst, ML.truD_scr, ML.truD_non, ML.lenD_tup, ML.lenD_lst, ML.lenD_scr, ML.lenD_ref, ML.tyD_non, ML.tyD_bl, ML.tyD_int, ML.tyD_str, ML.tyD_tup, ML.tyD_lst, ML.szl, ML.szlt, ML.cpow_lit, ML.mulok_rl, ML.mulok_ll, ML.divok_l, ML.put_same, ML.put_put, ML.q_wipeM, ML.deq_int, ML.deq_bl, ML.deq_str, ML.deq_non, ML.eqOk_int, ML.eqOk_bl, ML.isTy_NoneType_int, ML.isTy_NoneType_bool, ML.isTy_NoneType_tuple, ML.isTy_NoneType_list, ML.isTy_NoneType_str, ML.isTy_bool_int, ML.isTy_bool_bool, ML.isTy_bool_tuple, ML.isTy_bool_list, ML.isTy_bool_str, ML.isTy_int_int, ML.isTy_int_bool, ML.isTy_int_tuple, ML.isTy_int_list, ML.isTy_int_str, ML.isTy_str_int, ML.isTy_str_bool, ML.isTy_str_tuple, ML.isTy_str_list, ML.isTy_str_str, ML.isTy_tuple_int, ML.isTy_tuple_bool, ML.isTy_tuple_tuple, ML.isTy_tuple_list, ML.isTy_tuple_str, ML.isTy_list_int, ML.isTy_list_bool, ML.isTy_list_tuple, ML.isTy_list_list, ML.isTy_list_str, ML.isTy_dict_int, ML.isTy_dict_bool, ML.isTy_dict_tuple, ML.isTy_dict_list, ML.isTy_dict_str, FL.tup_fr, FL.tup_sp, FL.tup_wl, FL.tupOf_fr, FL.tupOf_sp, FL.tupOf_wl, FL.nz0, FL.nz1, FL.nz2, FL.nz3, FL.look_non, FL.look_int, FL.look_bl, FL.look_str, FL.look_tup, FL.look_lst, FL.look_scr, FL.seqOf_fr, FL.seqOf_sp, FL.seqOf_wl, FL.look_fr, FL.look_sp, FL.look_wl, FL.eqOk_fr, FL.eqOk_sp, FL.eqOk_wl, FL.deq_fr, FL.deq_sp, FL.deq_wl, FL.tyD_fr, FL.tyD_sp, FL.tyD_wl, FL.isN_fr, FL.isN_sp, FL.isN_wl, FL.lenD_sp, FL.lenD_wl, FL.rAdd_wl_tup, List.length_map, List.map_cons, List.map_nil, List.replicate, List.set_cons_zero, List.set_cons_succ, List.getElem?_cons_zero, List.getElem?_cons_succ, List.cons_append, List.nil_append, List.length_cons, List.length_nil, Option.bind_some, Option.map_some, ↓reduceIte, Nat.reduceAdd, Nat.reduceSub, Nat.reduceLT, Nat.reduceLeDiff, Nat.zero_add, decide_eq_true_eq, Bool.not_eq_true, ne_eq, reduceCtorEq, not_false_eq_true, true_and, and_true, Bool.false_eq_true, Bool.not_true, Bool.not_false, decide_true, decide_false, not_true_eq_false, eq_self, Bool.not_eq_eq_eq_not, if_true, if_false, decide_eq_false_iff_not, ML.ncast, Int.reduceToNat, Int.reducePow, Int.reduceAdd, Int.reduceSub, Int.reduceMul, Int.reduceNeg, Int.reduceLT, Int.reduceLE, Int.reduceEq, Nat.reduceEqDiff, Int.zero_add, gt_iff_lt, beq_self_eq_true, Bool.true_beq, Bool.false_beq, Bool.and_true, Bool.and_false, Bool.true_and, Bool.false_and, ↓ML.l_mtInsert, ↓ML.l_mtReverse, ↓ML.l_mtClear, ↓ML.l_bSortU, ↓ML.q_mMt0, ↓ML.l_bMaxL, ↓ML.l_bMinL, ↓ML.l_aLt_int, ↓ML.l_aLt_u, ↓ML.l_aGt_int, ↓ML.l_aGt_u, ↓ML.l_aLe_int, ↓ML.l_aLe_u, ↓ML.l_aGe_int, ↓ML.l_aGe_u, ↓ML.l_bMaxA_int, ↓ML.l_bMaxA_u, ↓ML.l_bMinA_int, ↓ML.l_bMinA_u, ML.tup_u, ML.tupOf_u, ML.seqOf_u, ML.sqI_u, ML.look_u, ML.isN_u, ML.lenD_u, ML.tyD_u, ML.tup_uw, ML.tupOf_uw, ML.seqOf_uw, ML.sqI_uw, ML.look_uw, ML.isN_uw, ML.lenD_uw, ML.tyD_uw, ML.eqOk_u, ML.eqOk_uw, ML.deq_u, ML.deq_uw, ML.in_uw, ↓ML.l_mRaise, ↓ML.l_mTry, ↓ML.l_mIsE, ↓ML.l_mIsV, ↓ML.l_mtCount, ↓ML.l_rAddS_rl, ↓ML.l_rAddS_ll, ML.excD_ref, ML.excOf_exc, ML.blsOf_nil, ML.blsOf_cons, ML.endM_nx, ML.endM_rt, ↓ML.l_mYes, ↓ML.l_iS, ↓ML.l_mIfJ, ↓ML.l_mJ, ↓ML.CrollP_nil, ↓ML.CrollP_cons, ↓ML.CrA_at, ↓ML.FrollP_nil, ↓ML.FrollP_cons, ML.isN_non, ML.isN_int, ML.isN_bl, ML.isN_str, ML.isN_tup, ML.isN_lst, ML.isN_ref, ML.sqI_tup, ML.sqI_lst, ML.sqI_scr, ML.sqI_ref, ML.sqI_at, ML.rngD_0, ML.rngD_1, ML.rngD_2, ML.rngD_3, ML.rngD_4, ML.rngD_6, ML.q_wipeM_nil, ML.q_wipeM_cons, FL.sqI_sp, FL.sqI_wl] $[$l]?)
local macro_rules | `(tactic| simp $c:optConfig $[$d:discharger]? only [gg, $ls,*] $[$l:location]?) => `(tactic| simp $c $[$d]? only [↓ML.q_mSeq, ↓ML.q_mC, ↓ML.q_mOp, ↓ML.q_mUn, ↓ML.q_mTst, ↓ML.q_mNot, ↓ML.q_mNotV, ↓ML.q_mRet, ↓ML.q_mRetN, ↓ML.q_mExpr, ↓ML.q_mNext, ↓ML.q_mBreak, ↓ML.q_mCont, ↓ML.q_mAsg, ↓ML.q_gSb, ↓ML.q_mTup, ↓ML.q_mLst, ↓ML.q_mLstF, ↓ML.q_mCons, ↓ML.q_mNil, ↓ML.q_mBlt, ↓ML.q_rEqM, ↓ML.q_rNeM, ↓ML.q_iR1, ↓ML.q_iR2, ↓ML.q_iEn, ↓ML.q_iZp, ↓ML.q_mMt, ↓ML.q_mMt0, ↓ML.q_mYes, ↓ML.q_mCut, ↓ML.q_oNo, ↓ML.q_oSo, ↓ML.l_mCall, ↓ML.l_mAnd, ↓ML.l_mOr, ↓ML.l_mAndV, ↓ML.l_mOrV, ↓ML.l_mIf, ↓ML.l_mIfS, ↓ML.l_mChain, ↓ML.l_mVar, ↓ML.l_mFor, ↓ML.l_mWhile, ↓ML.l_mComp, ↓ML.l_mCompF, ↓ML.l_optP, ↓ML.l_Go, ↓ML.Hold_v, ↓ML.l_mSet, ↓ML.l_gNm, ↓ML.l_mPar, ↓ML.l_rIxM, ↓ML.l_rSetM, ↓ML.l_rInt, ↓ML.l_rInt0, ↓ML.l_rAdd_int, ↓ML.l_rAdd_str, ↓ML.l_rAdd_tup, ↓ML.l_rNeg, ↓ML.l_rIsN, ↓ML.l_rNotN, ↓ML.l_rIsBM, ↓ML.l_mTru, ↓ML.l_bLen, ↓ML.l_bAbs, ↓ML.l_bMax2, ↓ML.l_bMin2, ↓ML.l_bInt_i, ↓ML.l_bInt_b, ↓ML.l_bTuple, ↓ML.l_bListF, ↓ML.l_bList, ↓ML.l_mIsi, ↓ML.l_iL, ↓ML.l_iT, ↓ML.l_gTp, ↓ML.l_gLs, ↓ML.l_gCn, ↓ML.l_gNl, ↓ML.l_mtAppend, ML.Hold_v, ML.l_mVar_z, ML.l_mVar_s, ML.OptP_some, ML.Go_eq, ML.IteP_true, ML.IteP_false, ML.lstOf_ref', ML.lstOf_lst, ML.lstOf_scr, ML.lstOf_tup, ML.ownOf_ref', ML.ownOf_lst, ML.seqOf_tup', ML.seqOf_lst', ML.seqOf_scr', ML.seqOf_ref', ML.olP_lst, ML.tupOf_tup, ML.ixL_lit, ML.ixL_cast, ML.ixL_m1, ML.setAt_lit, ML.setAt_cast, ML.truD_bl, ML.truD_int, ML.truD_tup, ML.truD_lst, ML.truD_scr, ML.truD_non, ML.lenD_tup, ML.lenD_lst, ML.lenD_scr, ML.lenD_ref, ML.tyD_non, ML.tyD_bl, ML.tyD_int, ML.tyD_str, ML.tyD_tup, ML.tyD_lst, ML.szl, ML.szlt, ML.cpow_lit, ML.mulok_rl, ML.mulok_ll, ML.divok_l, ML.put_same, ML.put_put, ML.q_wipeM, ML.deq_int, ML.deq_bl, ML.deq_str, ML.deq_non, ML.eqOk_int, ML.eqOk_bl, ML.isTy_NoneType_int, ML.isTy_NoneType_bool, ML.isTy_NoneType_tuple, ML.isTy_NoneType_list, ML.isTy_NoneType_str, ML.isTy_bool_int, ML.isTy_bool_bool, ML.isTy_bool_tuple, ML.isTy_bool_list, ML.isTy_bool_str, ML.isTy_int_int, ML.isTy_int_bool, ML.isTy_int_tuple, ML.isTy_int_list, ML.isTy_int_str, ML.isTy_str_int, ML.isTy_str_bool, ML.isTy_str_tuple, ML.isTy_str_list, ML.isTy_str_str, ML.isTy_tuple_int, ML.isTy_tuple_bool, ML.isTy_tuple_tuple, ML.isTy_tuple_list, ML.isTy_tuple_str, ML.isTy_list_int, ML.isTy_list_bool, ML.isTy_list_tuple, ML.isTy_list_list, ML.isTy_list_str, ML.isTy_dict_int, ML.isTy_dict_bool, ML.isTy_dict_tuple, ML.isTy_dict_list, ML.isTy_dict_str, FL.tup_fr, FL.tup_sp, FL.tup_wl, FL.tupOf_fr, FL.tupOf_sp, FL.tupOf_wl, FL.nz0, FL.nz1, FL.nz2, FL.nz3, FL.look_non, FL.look_int, FL.look_bl, FL.look_str, FL.look_tup, FL.look_lst, FL.look_scr, FL.seqOf_fr, FL.seqOf_sp, FL.seqOf_wl, FL.look_fr, FL.look_sp, FL.look_wl, FL.eqOk_fr, FL.eqOk_sp, FL.eqOk_wl, FL.deq_fr, FL.deq_sp, FL.deq_wl, FL.tyD_fr, FL.tyD_sp, FL.tyD_wl, FL.isN_fr, FL.isN_sp, FL.isN_wl, FL.lenD_sp, FL.lenD_wl, FL.rAdd_wl_tup, List.length_map, List.map_cons, List.map_nil, List.replicate, List.set_cons_zero, List.set_cons_succ, List.getElem?_cons_zero, List.getElem?_cons_succ, List.cons_append, List.nil_append, List.length_cons, List.length_nil, Option.bind_some, Option.map_some, ↓reduceIte, Nat.reduceAdd, Nat.reduceSub, Nat.reduceLT, Nat.reduceLeDiff, Nat.zero_add, decide_eq_true_eq, Bool.not_eq_true, ne_eq, reduceCtorEq, not_false_eq_true, true_and, and_true, Bool.false_eq_true, Bool.not_true, Bool.not_false, decide_true, decide_false, not_true_eq_false, eq_self, Bool.not_eq_eq_eq_not, if_true, if_false, decide_eq_false_iff_not, ML.ncast, Int.reduceToNat, Int.reducePow, Int.reduceAdd, Int.reduceSub, Int.reduceMul, Int.reduceNeg, Int.reduceLT, Int.reduceLE, Int.reduceEq, Nat.reduceEqDiff, Int.zero_add, gt_iff_lt, beq_self_eq_true, Bool.true_beq, Bool.false_beq, Bool.and_true, Bool.and_false, Bool.true_and, Bool.false_and, ↓ML.l_mtInsert, ↓ML.l_mtReverse, ↓ML.l_mtClear, ↓ML.l_bSortU, ↓ML.q_mMt0, ↓ML.l_bMaxL, ↓ML.l_bMinL, ↓ML.l_aLt_int, ↓ML.l_aLt_u, ↓ML.l_aGt_int, ↓ML.l_aGt_u, ↓ML.l_aLe_int, ↓ML.l_aLe_u, ↓ML.l_aGe_int, ↓ML.l_aGe_u, ↓ML.l_bMaxA_int, ↓ML.l_bMaxA_u, ↓ML.l_bMinA_int, ↓ML.l_bMinA_u, ML.tup_u, ML.tupOf_u, ML.seqOf_u, ML.sqI_u, ML.look_u, ML.isN_u, ML.lenD_u, ML.tyD_u, ML.tup_uw, ML.tupOf_uw, ML.seqOf_uw, ML.sqI_uw, ML.look_uw, ML.isN_uw, ML.lenD_uw, ML.tyD_uw, ML.eqOk_u, ML.eqOk_uw, ML.deq_u, ML.deq_uw, ML.in_uw, ↓ML.l_mRaise, ↓ML.l_mTry, ↓ML.l_mIsE, ↓ML.l_mIsV, ↓ML.l_mtCount, ↓ML.l_rAddS_rl, ↓ML.l_rAddS_ll, ML.excD_ref, ML.excOf_exc, ML.blsOf_nil, ML.blsOf_cons, ML.endM_nx, ML.endM_rt, ↓ML.l_mYes, ↓ML.l_iS, ↓ML.l_mIfJ, ↓ML.l_mJ, ↓ML.CrollP_nil, ↓ML.CrollP_cons, ↓ML.CrA_at, ↓ML.FrollP_nil, ↓ML.FrollP_cons, ML.isN_non, ML.isN_int, ML.isN_bl, ML.isN_str, ML.isN_tup, ML.isN_lst, ML.isN_ref, ML.sqI_tup, ML.sqI_lst, ML.sqI_scr, ML.sqI_ref, ML.sqI_at, ML.rngD_0, ML.rngD_1, ML.rngD_2, ML.rngD_3, ML.rngD_4, ML.rngD_6, ML.q_wipeM_nil, ML.q_wipeM_cons, FL.sqI_sp, FL.sqI_wl, $ls,*] $[$l]?)
theorem l_upper_of : ∀ ds S Q E, FL.sp_upper_of ds S Q E → ds.length = 1 := by rintro _ _ _ _ ⟨_, _, rfl, _⟩; rfl
theorem r_upper_of : ∀ ds S Q E, FL.sp_upper_of ds S Q E → b_upper_of (mends Q E) (mstart 2 ds) S := by
  rintro _ S Q E ⟨dd, ws0, rfl, hd, hn, hz, hb, k⟩
  cases ws0 with
  | nil => exact absurd rfl hn
  | cons w ws =>
    unfold b_upper_of
    simp only [ML.q_mstart, ML.q_mends, List.map_cons, List.map_nil, List.replicate, List.cons_append, List.nil_append]
    simp only [gg, hd.seqk.seq]
    cases hd with
    | lst =>
      simp only [gg, ← List.map_cons, cut_from1]
      generalize hdd : (D.lst ((w :: ws).map wlD)) = dd
      refine wfor_inv (fun i σ S' => @KP ⟨(∃ a, σ = [some dd, some (wlD (upperF w (ws.take i))), a]) ∧ S' = S⟩) ⟨⟨_, rfl⟩, rfl⟩ ?_ ?_
      · rintro i x σ S' hx ⟨⟨a, rfl⟩, rfl⟩
        rw [List.getElem?_map] at hx
        cases ea : ws[i]? with
        | none => rw [ea] at hx; cases hx
        | some v =>
          rw [ea] at hx; cases hx
          have hv : v ∈ ws := List.mem_of_getElem? ea
          have z1 := hb v (List.mem_cons_of_mem _ hv)
          have z2 : BW (upperF w (ws.take i)) 200 := hb _ (by
            rcases List.mem_cons.mp (upperF_mem w (ws.take i)) with e | e
            · rw [e]; exact List.mem_cons_self
            · exact List.mem_cons_of_mem _ (List.mem_of_mem_take e))
          refine ⟨trivial, ?_⟩
          simp (disch := omega) only [gg, c_is_above]
          have e : upperF w (ws.take (i + 1)) = if aboveW v (upperF w (ws.take i)) then v else upperF w (ws.take i) := by
            rw [List.take_add_one, ea, upperF_append]; rfl
          refine ⟨fun h => ?_, fun h => ?_⟩
          · simp only [gg]
            rw [if_pos h] at e
            exact KP.mk ⟨⟨_, by rw [e]⟩, rfl⟩
          · simp only [gg]
            rw [if_neg h] at e
            exact KP.mk ⟨⟨_, by rw [e]⟩, rfl⟩
      · rintro σ S' ⟨⟨a, rfl⟩, rfl⟩
        rw [List.length_map, List.take_length]
        refine ⟨trivial, ?_⟩
        simp only [gg]
        exact k
    | @ref q _ h =>
      simp only [gg, h, ← List.map_cons, cut_from1]
      generalize hdd : D.ref q = dd
      refine wfor_inv (fun i σ S' => @KP ⟨(∃ a, σ = [some dd, some (wlD (upperF w (ws.take i))), a]) ∧ S' = S⟩) ⟨⟨_, rfl⟩, rfl⟩ ?_ ?_
      · rintro i x σ S' hx ⟨⟨a, rfl⟩, rfl⟩
        rw [List.getElem?_map] at hx
        cases ea : ws[i]? with
        | none => rw [ea] at hx; cases hx
        | some v =>
          rw [ea] at hx; cases hx
          have hv : v ∈ ws := List.mem_of_getElem? ea
          have z1 := hb v (List.mem_cons_of_mem _ hv)
          have z2 : BW (upperF w (ws.take i)) 200 := hb _ (by
            rcases List.mem_cons.mp (upperF_mem w (ws.take i)) with e | e
            · rw [e]; exact List.mem_cons_self
            · exact List.mem_cons_of_mem _ (List.mem_of_mem_take e))
          refine ⟨trivial, ?_⟩
          simp (disch := omega) only [gg, c_is_above]
          have e : upperF w (ws.take (i + 1)) = if aboveW v (upperF w (ws.take i)) then v else upperF w (ws.take i) := by
            rw [List.take_add_one, ea, upperF_append]; rfl
          refine ⟨fun h => ?_, fun h => ?_⟩
          · simp only [gg]
            rw [if_pos h] at e
            exact KP.mk ⟨⟨_, by rw [e]⟩, rfl⟩
          · simp only [gg]
            rw [if_neg h] at e
            exact KP.mk ⟨⟨_, by rw [e]⟩, rfl⟩
      · rintro σ S' ⟨⟨a, rfl⟩, rfl⟩
        rw [List.length_map, List.take_length]
        refine ⟨trivial, ?_⟩
        simp only [gg]
        exact k
end FL

set_option maxRecDepth 100000
namespace FL
open PySem PySem.Spec L2 ML
/-! ### tops, and what a law needs of numbered walls -/
def nD (k : Nat) : D := .int (k : Int)
def wat (ws : List UW) (i : Nat) : UW := ws.getD i ((0, 0), (0, 0))
theorem wat_get {ws : List UW} {i : Nat} (h : i < ws.length) : ws[i]? = some (wat ws i) := by
  unfold wat; rw [List.getD_eq_getElem?_getD, List.getElem?_eq_getElem h]; rfl
theorem wat_mem {ws : List UW} {i : Nat} (h : i < ws.length) : wat ws i ∈ ws := List.mem_of_getElem? (wat_get h)
def topsW (ws : List UW) (ms : List Nat) : List Nat := ms.filter fun i => (ms.filter fun j => decide (aboveW (ofW (wat ws j)) (ofW (wat ws i)))).isEmpty
theorem filter_unique {t : Nat → Bool} {m0 : Nat} : ∀ {ms : List Nat}, ms.Nodup → m0 ∈ ms → (∀ i ∈ ms, t i = true ↔ i = m0) → ms.filter t = [m0]
  | m :: ms, nd, hm, h => by
    obtain ⟨n1, n2⟩ := List.nodup_cons.mp nd
    by_cases e : m = m0
    · subst e
      rw [List.filter_cons_of_pos ((h m (by simp)).mpr rfl)]
      congr 1
      refine List.filter_eq_nil_iff.mpr fun i hi z => ?_
      rw [(h i (by simp [hi])).mp z] at hi
      exact n1 hi
    · rw [List.filter_cons_of_neg (fun z => e ((h m (by simp)).mp z))]
      rcases List.mem_cons.mp hm with z | z
      · exact absurd z.symm e
      · exact filter_unique n2 z fun i hi => h i (List.mem_cons_of_mem _ hi)
section
variable {m : Nat} {z : Int} {ws : List UW} {s : Sc} {t : Pt}
theorem one_top (dr : Drawn m z ws) (hs : ScOk s) {ms : List Nat} (nd : ms.Nodup) (hne : ms ≠ []) (hlt : ∀ i ∈ ms, i < ws.length) (hsp : ∀ i ∈ ms, spansW (afw s (ofW (wat ws i))) t) :
    ∃ m0 ∈ ms, topsW ws ms = [m0] ∧ upperW (ms.map fun i => afw s (ofW (wat ws i))) = afw s (ofW (wat ws m0)) := by
  have up : ∀ i ∈ ms, Up (afw s (ofW (wat ws i))) := fun i hi => ⟨(ahead_af hs _ _).mpr (dr.up' (wat_mem (hlt i hi))).1⟩
  have fa : ∀ i ∈ ms, ∀ j ∈ ms, i ≠ j → FairW (afw s (ofW (wat ws i))) (afw s (ofW (wat ws j))) := fun i hi j hj e => fairW_af hs (dr.fairW e (wat_get (hlt i hi)) (wat_get (hlt j hj)))
  obtain ⟨f, hf⟩ := slab_order (ws := ms.map fun i => afw s (ofW (wat ws i))) (t := t)
    (fun w hw => by obtain ⟨i, hi, rfl⟩ := List.mem_map.mp hw; exact up i hi)
    (fun a ha b hb e => by
      obtain ⟨i, hi, rfl⟩ := List.mem_map.mp ha
      obtain ⟨j, hj, rfl⟩ := List.mem_map.mp hb
      exact fa i hi j hj fun z => e (by rw [z]))
    (fun w hw => by obtain ⟨i, hi, rfl⟩ := List.mem_map.mp hw; exact hsp i hi)
  have key : ∀ i ∈ ms, ∀ j ∈ ms, (aboveW (ofW (wat ws i)) (ofW (wat ws j)) ↔ f (afw s (ofW (wat ws j))) < f (afw s (ofW (wat ws i)))) ∧ (i ≠ j → f (afw s (ofW (wat ws i))) ≠ f (afw s (ofW (wat ws j)))) := by
    intro i hi j hj
    have := hf _ (List.mem_map.mpr ⟨i, hi, rfl⟩) _ (List.mem_map.mpr ⟨j, hj, rfl⟩)
    rw [aboveW_af hs] at this
    exact ⟨this.1, fun e => this.2 (fa i hi j hj e).ne⟩
  obtain ⟨m0, hm0, e0, mx⟩ : ∃ m0 ∈ ms, upperW (ms.map fun i => afw s (ofW (wat ws i))) = afw s (ofW (wat ws m0)) ∧ ∀ i ∈ ms, f (afw s (ofW (wat ws i))) ≤ f (afw s (ofW (wat ws m0))) := by
    cases ms with
    | nil => exact absurd rfl hne
    | cons k ks =>
      have hm := upperF_mem (afw s (ofW (wat ws k))) (ks.map fun i => afw s (ofW (wat ws i)))
      have hx := upperF_max (h := f) (afw s (ofW (wat ws k))) (ks.map fun i => afw s (ofW (wat ws i))) fun a ha b hb => (hf a ha b hb).1
      obtain ⟨m0, hm0, e⟩ := List.mem_map.mp (show upperF (afw s (ofW (wat ws k))) (ks.map fun i => afw s (ofW (wat ws i))) ∈ (k :: ks).map fun i => afw s (ofW (wat ws i)) from hm)
      refine ⟨m0, hm0, e.symm, fun i hi => ?_⟩
      have := hx _ (show afw s (ofW (wat ws i)) ∈ (k :: ks).map fun i => afw s (ofW (wat ws i)) from List.mem_map.mpr ⟨i, hi, rfl⟩)
      rwa [← e] at this
  refine ⟨m0, hm0, filter_unique nd hm0 fun i hi => ?_, e0⟩
  rw [List.isEmpty_iff, List.filter_eq_nil_iff]
  constructor
  · intro h
    by_cases e : i = m0
    · exact e
    · have h1 := h m0 hm0
      rw [decide_eq_true_eq, (key m0 hm0 i hi).1] at h1
      have h2 := (key i hi m0 hm0).2 e
      have h3 := mx i hi
      grind
  · rintro rfl j hj z
    rw [decide_eq_true_eq, (key j hj i hm0).1] at z
    have := mx j hj
    grind
theorem span_dec {w : UW} {t : Told} (hs : ScOk s) (ht : TOk t) : decide (spansW (afw s (ofW w)) (af s (ofT t))) = (decide (ule (upt t.n w.1) (t.x, t.y)) && decide (ult (t.x, t.y) (upt t.n w.2))) := by
  rw [Bool.eq_iff_iff]
  simp only [Bool.and_eq_true, decide_eq_true_eq, spansW_af hs]
  unfold spansW ofW
  rw [ahead_TU ht.n1, ahead_TU ht.n1, not_ult]
end
theorem LstK.ext {S S' : Sto} {d : D} {ds : List D} (k : Ext0 S S') (h : LstK S d ds) : LstK S' d ds := by
  cases h with
  | lst => exact .lst
  | ref h => exact .ref (k _ _ h)
theorem LstK.itx {S : Sto} {d : D} {ds : List D} (h : LstK S d ds) : ∃ G : Sto → Prop, sqI S d = some (ds, G) ∧ ∀ S', LstK S' d ds → G S' := by
  cases h with
  | lst => exact ⟨_, rfl, fun _ _ => trivial⟩
  | ref h => exact ⟨_, sqI_at h, fun S' h' => by cases h' with | ref h' => show olP _ = _; rw [h']; rfl⟩
theorem plain_n (k : Nat) : D.plain (nD k) = true := rfl
theorem eqOk_n0 {ms : List Nat} : eqOk (.lst (ms.map nD)) (.lst []) = true := eqOk_lm (f := nD) (g := nD) plain_n plain_n (fun _ => Nat.zero_le _) (fun _ => Nat.zero_le _) ms []
theorem deq_n0 {ms : List Nat} : D.deq (.lst (ms.map nD)) (.lst []) = ms.isEmpty := by cases ms <;> rfl

/-! ### squares side by side -/
def sqW (m : Nat) : List UW := (((m : Int), 0), ((m : Int), 1)) :: ((List.range m).map fun (k : Nat) => ([(((k : Int), 0), ((k : Int) + 1, 0)), (((k : Int), 1), ((k : Int) + 1, 1)), (((k : Int), 0), ((k : Int), 1))] : List UW)).flatten
theorem sq_drawn {m : Nat} (h1 : 6 ≤ m) (h2 : m ≤ 13) : Drawn 40 14 (sqW m) := by
  rcases (by omega : m = 6 ∨ m = 7 ∨ m = 8 ∨ m = 9 ∨ m = 10 ∨ m = 11 ∨ m = 12 ∨ m = 13) with rfl | rfl | rfl | rfl | rfl | rfl | rfl | rfl <;> exact ⟨by decide, by decide +kernel, by decide +kernel, by decide +kernel⟩
theorem ufair_comm {a b : UW} (h : ufair a b = true) : ufair b a = true := (ufair_iff _ _).mpr ((ufair_iff _ _).mp h).symm
theorem Drawn.perm {m : Nat} {z : Int} {ws vs : List UW} (h : Drawn m z ws) (p : vs.Perm ws) : Drawn m z vs :=
  ⟨by rw [p.length_eq]; exact h.len, fun w hw => h.up w (p.mem_iff.mp hw), fun w hw => h.lo w (p.mem_iff.mp hw), (p.pairwise_iff fun h => ufair_comm h).mpr h.fair⟩
theorem ext0_put {S : Sto} {p : Addr} {o : MO} (h : S p = none) : Ext0 S (put S p o) := fun q u e => by rw [put_ne (fun z => by rw [z, h] at e; cases e)]; exact e
def sp_squares : MSp := fun ds S Q _ => ∃ (p : Addr) (c : Int) (n : Nat), ds = [.ref p] ∧ S p = some (rowO c n) ∧ n < 2 ^ 50 ∧
  ∀ (ws : List UW) (q : Addr) (c' : Int) (n' : Nat) (S' : Sto), Drawn 40 14 ws → n' ≤ n + 100 → q ≠ p → (∀ a o, a ≠ p → S a = some o → S' a = some o) → S' p = some (rowO c' n') → S' q = some (.lst (ws.map uwD)) → Q (.ref q) S'
/-! ### the wall below a spot -/
def wlAt (ws : List Wl) (i : Nat) : Wl := ws.getD i ((0, 0), (0, 0))
theorem wlAt_get {ws : List Wl} {i : Nat} (h : i < ws.length) : ws[i]? = some (wlAt ws i) := by
  unfold wlAt; rw [List.getD_eq_getElem?_getD, List.getElem?_eq_getElem h]; rfl
theorem wlAt_mem {ws : List Wl} {i : Nat} (h : i < ws.length) : wlAt ws i ∈ ws := List.mem_of_getElem? (wlAt_get h)
/-- the numbers of the walls that span a spot and are right below it -/
def spanB (ws : List Wl) (t : Pt) (i : Nat) : Bool := decide (spansW (wlAt ws i) t) && decide (side (wlAt ws i) t = 1)
def belowL (ws : List Wl) (ms : List Nat) (t : Pt) : List Nat := ((ms.filter (spanB ws t)).filter fun i => decide (wlAt ws i = upperW ((ms.filter (spanB ws t)).map (wlAt ws))))
def belowD (ws : List Wl) (ms : List Nat) (t : Pt) : D := match belowL ws ms t with
  | [] => .non
  | k :: _ => nD k
theorem belowL_ne {ws : List Wl} {ms : List Nat} {t : Pt} (h : ms.filter (spanB ws t) ≠ []) : ∃ k r, belowL ws ms t = k :: r := by
  cases e : belowL ws ms t with
  | cons k r => exact ⟨k, r, rfl⟩
  | nil =>
    exfalso
    unfold belowL at e
    generalize ms.filter (spanB ws t) = ns at *
    cases ns with
    | nil => exact h rfl
    | cons k ks =>
      have hm := upperF_mem (wlAt ws k) (ks.map (wlAt ws))
      obtain ⟨j, hj, ej⟩ := List.mem_map.mp (show upperF (wlAt ws k) (ks.map (wlAt ws)) ∈ (k :: ks).map (wlAt ws) from hm)
      have := List.filter_eq_nil_iff.mp e j hj
      rw [decide_eq_true_eq] at this
      exact this ej
def sp_upper_below : MSp := fun ds S Q _ => ∃ (ws : List Wl) (d : D) (ms : List Nat) (t : Pt), ds = [.tup (ws.map wlD), d, spD t] ∧ LstK S d (ms.map nD) ∧ (∀ i ∈ ms, i < ws.length) ∧ ms.length ≤ 1000 ∧ (∀ v ∈ ws, BW v 200) ∧ BP t 300 ∧ ∀ S', Ext0 S S' → Q (belowD ws ms t) S'
def sp_wall_below : MSp := fun ds S Q _ => ∃ (ws : List Wl) (t : Pt), ds = [.tup (ws.map wlD), spD t] ∧ ws.length ≤ 1000 ∧ (∀ v ∈ ws, BW v 200) ∧ BP t 300 ∧ ∀ S', Ext0 S S' → Q (belowD ws (List.range ws.length) t) S'
end FL

set_option maxRecDepth 100000
namespace FL
open PySem PySem.Spec L2 ML
def b_upper_below : MS := (mSeq (mSet 3 (mComp (iS (mVar 1)) (gNm 4) (mAnd (mTru (mCall FL.sp_spans (mCons (mOp rIxM (mVar 0) (mVar 4)) (mCons (mVar 2) mNil)))) (mTst (mOp rEqM (mCall FL.sp_side_of (mCons (mOp rIxM (mVar 0) (mVar 4)) (mCons (mVar 2) mNil))) (mC (.int 1))))) (mVar 4) [4]))
  (mSeq (mIfS (mTst (mOp rEqM (mVar 3) (mLstF mNil))) (mRet (mC .non)) mNext)
  (mSeq (mSet 5 (mCall FL.sp_upper_of (mCons (mCompF (iS (mVar 3)) (gNm 4) mYes (mOp rIxM (mVar 0) (mVar 4)) [4]) mNil)))
  (mRet (mOp rIxM (mCompF (iS (mVar 3)) (gNm 4) (mTst (mOp rEqM (mOp rIxM (mVar 0) (mVar 4)) (mVar 5))) (mVar 4) [4]) (mC (.int 0)))))))
def b_squares : MS := (mSeq (mSet 1 (mOp rAdd (mC (.int 6)) (mCall FL.sp_take (mCons (mVar 0) (mCons (mC (.int 8)) mNil)))))
  (mSeq (mSet 2 (mLstF (mCons (mTup (mCons (mTup (mCons (mVar 1) (mCons (mC (.int 0)) mNil))) (mCons (mTup (mCons (mVar 1) (mCons (mC (.int 1)) mNil))) mNil))) mNil)))
  (mSeq (mFor (iR1 (mCons (mVar 1) mNil)) (gNm 3) (mSet 2 (mOp rAdd (mVar 2) (mLstF (mCons (mTup (mCons (mTup (mCons (mVar 3) (mCons (mC (.int 0)) mNil))) (mCons (mTup (mCons (mOp rAdd (mVar 3) (mC (.int 1))) (mCons (mC (.int 0)) mNil))) mNil))) (mCons (mTup (mCons (mTup (mCons (mVar 3) (mCons (mC (.int 1)) mNil))) (mCons (mTup (mCons (mOp rAdd (mVar 3) (mC (.int 1))) (mCons (mC (.int 1)) mNil))) mNil))) (mCons (mTup (mCons (mTup (mCons (mVar 3) (mCons (mC (.int 0)) mNil))) (mCons (mTup (mCons (mVar 3) (mCons (mC (.int 1)) mNil))) mNil))) mNil)))))))
  (mSeq (mSet 4 (mLst mNil))
  (mSeq (mFor (iR1 (mCons (mBlt bLen (mCons (mVar 2) mNil)) mNil)) (gNm 5) (mExpr (mMt mtInsert (mVar 4) (mCons (mCall FL.sp_take (mCons (mVar 0) (mCons (mOp rAdd (mVar 5) (mC (.int 1))) mNil))) (mCons (mOp rIxM (mVar 2) (mVar 5)) mNil)))))
  (mRet (mVar 4)))))))
def b_wall_below : MS := (mRet (mCall FL.sp_upper_below (mCons (mVar 0) (mCons (mListR (mBlt bLen (mCons (mVar 0) mNil))) (mCons (mVar 1) mNil)))))
end FL

-- FLQ 
set_option maxRecDepth 100000
set_option maxHeartbeats 4000000
namespace FL
open PySem PySem.Spec L2 ML
local macro_rules | `(tactic| simp $c:optConfig $[$d:discharger]? only [gv] $[$l:location]?) => `(tactic| simp $c $[$d]? only [↓ML.q_mSeq, ↓ML.q_mC, ↓ML.q_mOp, ↓ML.q_mUn, ↓ML.q_mTst, ↓ML.q_mNot, ↓ML.q_mNotV, ↓ML.q_mRet, ↓ML.q_mRetN, ↓ML.q_mExpr, ↓ML.q_mNext, ↓ML.q_mBreak, ↓ML.q_mCont, ↓ML.q_mAsg, ↓ML.q_gSb, ↓ML.q_mTup, ↓ML.q_mLst, ↓ML.q_mLstF, ↓ML.q_mCons, ↓ML.q_mNil, ↓ML.q_mBlt, ↓ML.q_rEqM, ↓ML.q_rNeM, ↓ML.q_iR1, ↓ML.q_iR2, ↓ML.q_iEn, ↓ML.q_iZp, ↓ML.q_mMt, ↓ML.q_mMt0, ↓ML.q_mYes, ↓ML.q_mCut, ↓ML.q_oNo, ↓ML.q_oSo, ↓ML.l_mCall, ↓ML.l_mAnd, ↓ML.l_mOr, ↓ML.l_mAndV, ↓ML.l_mOrV, ↓ML.l_mIf, ↓ML.l_mIfS, ↓ML.l_mChain, ↓ML.l_mVar, ↓ML.l_mFor, ↓ML.l_mWhile, ↓ML.l_mComp, ↓ML.l_mCompF, ↓ML.l_optP, ↓ML.l_Go, ↓ML.Hold_v, ↓ML.l_mSet, ↓ML.l_gNm, ↓ML.l_mPar, ↓ML.l_rIxM, ↓ML.l_rSetM, ↓ML.l_rInt, ↓ML.l_rInt0, ↓ML.l_rAdd_int, ↓ML.l_rAdd_str, ↓ML.l_rAdd_tup, ↓ML.l_rNeg, ↓ML.l_rIsN, ↓ML.l_rNotN, ↓ML.l_rIsBM, ↓ML.l_mTru, ↓ML.l_bLen, ↓ML.l_bAbs, ↓ML.l_bMax2, ↓ML.l_bMin2, ↓ML.l_bInt_i, ↓ML.l_bInt_b, ↓ML.l_bTuple, ↓ML.l_bListF, ↓ML.l_bList, ↓ML.l_mIsi, ↓ML.l_iL, ↓ML.l_iT, ↓ML.l_gTp, ↓ML.l_gLs, ↓ML.l_gCn, ↓ML.l_gNl, ↓ML.l_mtAppend, ML.Hold_v, ML.l_mVar_z, ML.l_mVar_s, ML.OptP_some, ML.Go_eq, ML.IteP_true, ML.IteP_false, ML.lstOf_ref', ML.lstOf_lst, ML.lstOf_scr, ML.lstOf_tup, ML.ownOf_ref', ML.ownOf_lst, ML.seqOf_tup', ML.seqOf_lst', ML.seqOf_scr', ML.seqOf_ref', ML.olP_lst, ML.tupOf_tup, ML.ixL_lit, ML.ixL_cast, ML.ixL_m1, ML.setAt_lit, ML.setAt_cast, ML.truD_bl, ML.truD_int, ML.truD_tup, ML.truD_lst, ML.truD_scr, ML.truD_non, ML.lenD_tup, ML.lenD_lst, ML.lenD_scr, ML.lenD_ref, ML.tyD_non, ML.tyD_bl, ML.tyD_int, ML.tyD_str, ML.tyD_tup, ML.tyD_lst, ML.szl, ML.szlt, ML.cpow_lit, ML.mulok_rl, ML.mulok_ll, ML.divok_l, ML.put_same, ML.put_put, ML.q_wipeM, ML.deq_int, ML.deq_bl, ML.deq_str, ML.deq_non, ML.eqOk_int, ML.eqOk_bl, ML.isTy_NoneType_int, ML.isTy_NoneType_bool, ML.isTy_NoneType_tuple, ML.isTy_NoneType_list, ML.isTy_NoneType_str, ML.isTy_bool_int, ML.isTy_bool_bool, ML.isTy_bool_tuple, ML.isTy_bool_list, ML.isTy_bool_str, ML.isTy_int_int, ML.isTy_int_bool, ML.isTy_int_tuple, ML.isTy_int_list, ML.isTy_int_str, ML.isTy_str_int, ML.isTy_str_bool, ML.isTy_str_tuple, ML.isTy_str_list, ML.isTy_str_str, ML.isTy_tuple_int, ML.isTy_tuple_bool, ML.isTy_tuple_tuple, ML.isTy_tuple_list, ML.isTy_tuple_str, ML.isTy_list_int, ML.isTy_list_bool, ML.isTy_list_tuple, ML.isTy_list_list, ML.isTy_list_str, ML.isTy_dict_int, ML.isTy_dict_bool, ML.isTy_dict_tuple, ML.isTy_dict_list, ML.isTy_dict_str, FL.tup_fr, FL.tup_sp, FL.tup_wl, FL.tupOf_fr, FL.tupOf_sp, FL.tupOf_wl, FL.nz0, FL.nz1, FL.nz2, FL.nz3, FL.look_non, FL.look_int, FL.look_bl, FL.look_str, FL.look_tup, FL.look_lst, FL.look_scr, FL.seqOf_fr, FL.seqOf_sp, FL.seqOf_wl, FL.look_fr, FL.look_sp, FL.look_wl, FL.eqOk_fr, FL.eqOk_sp, FL.eqOk_wl, FL.deq_fr, FL.deq_sp, FL.deq_wl, FL.tyD_fr, FL.tyD_sp, FL.tyD_wl, FL.isN_fr, FL.isN_sp, FL.isN_wl, FL.lenD_sp, FL.lenD_wl, FL.rAdd_wl_tup, List.length_map, List.map_cons, List.map_nil, List.replicate, List.set_cons_zero, List.set_cons_succ, List.getElem?_cons_zero, List.getElem?_cons_succ, List.cons_append, List.nil_append, List.length_cons, List.length_nil, Option.bind_some, Option.map_some, ↓reduceIte, Nat.reduceAdd, Nat.reduceSub, Nat.reduceLT, Nat.reduceLeDiff, Nat.zero_add, decide_eq_true_eq, Bool.not_eq_true, ne_eq, reduceCtorEq, not_false_eq_true, true_and, and_true, Bool.false_eq_true, Bool.not_true, Bool.not_false, decide_true, decide_false, not_true_eq_false, eq_self, Bool.not_eq_eq_eq_not, if_true, if_false, decide_eq_false_iff_not, ML.ncast, Int.reduceToNat, Int.reducePow, Int.reduceAdd, Int.reduceSub, Int.reduceMul, Int.reduceNeg, Int.reduceLT, Int.reduceLE, Int.reduceEq, Nat.reduceEqDiff, Int.zero_add, gt_iff_lt, beq_self_eq_true, Bool.true_beq, Bool.false_beq, Bool.and_true, Bool.and_false, Bool.true_and, Bool.false_and, ↓ML.l_mtInsert, ↓ML.l_mtReverse, ↓ML.l_mtClear, ↓ML.l_bSortU, ↓ML.q_mMt0, ↓ML.l_bMaxL, ↓ML.l_bMinL, ↓ML.l_aLt_int, ↓ML.l_aLt_u, ↓ML.l_aGt_int, ↓ML.l_aGt_u, ↓ML.l_aLe_int, ↓ML.l_aLe_u, ↓ML.l_aGe_int, ↓ML.l_aGe_u, ↓ML.l_bMaxA_int, ↓ML.l_bMaxA_u, ↓ML.l_bMinA_int, ↓ML.l_bMinA_u, ML.tup_u, ML.tupOf_u, ML.seqOf_u, ML.sqI_u, ML.look_u, ML.isN_u, ML.lenD_u, ML.tyD_u, ML.tup_uw, ML.tupOf_uw, ML.seqOf_uw, ML.sqI_uw, ML.look_uw, ML.isN_uw, ML.lenD_uw, ML.tyD_uw, ML.eqOk_u, ML.eqOk_uw, ML.deq_u, ML.deq_uw, ML.in_uw, ↓ML.l_mRaise, ↓ML.l_mTry, ↓ML.l_mIsE, ↓ML.l_mIsV, ↓ML.l_mtCount, ↓ML.l_rAddS_rl, ↓ML.l_rAddS_ll, ML.excD_ref, ML.excOf_exc, ML.blsOf_nil, ML.blsOf_cons, ML.endM_nx, ML.endM_rt, ↓ML.l_mYes, ↓ML.l_iS, ↓ML.l_mIfJ, ↓ML.l_mJ, ↓ML.CrollP_nil, ↓ML.CrollP_cons, ↓ML.CrA_at, ↓ML.FrollP_nil, ↓ML.FrollP_cons, ML.isN_non, ML.isN_int, ML.isN_bl, ML.isN_str, ML.isN_tup, ML.isN_lst, ML.isN_ref, ML.sqI_tup, ML.sqI_lst, ML.sqI_scr, ML.sqI_ref, ML.sqI_at, ML.rngD_0, ML.rngD_1, ML.rngD_2, ML.rngD_3, ML.rngD_4, ML.rngD_6, ML.q_wipeM_nil, ML.q_wipeM_cons, FL.sqI_sp, FL.sqI_wl, FL.l_rAdd_rl, FL.l_rAdd_ll, FL.l_rAdd_lr, FL.l_rAdd_rr, FL.in_ints, FL.in_lu, ↓ML.l_mListR, ↓ML.l_mDIn, ↓ML.l_mDPut, ↓ML.l_mDNew, ML.dtD_ref, ML.dtO_dT, ML.keysD_nil, ML.keysD_int] $[$l]?)
local macro_rules | `(tactic| simp $c:optConfig $[$d:discharger]? only [gv, $ls,*] $[$l:location]?) => `(tactic| simp $c $[$d]? only [↓ML.q_mSeq, ↓ML.q_mC, ↓ML.q_mOp, ↓ML.q_mUn, ↓ML.q_mTst, ↓ML.q_mNot, ↓ML.q_mNotV, ↓ML.q_mRet, ↓ML.q_mRetN, ↓ML.q_mExpr, ↓ML.q_mNext, ↓ML.q_mBreak, ↓ML.q_mCont, ↓ML.q_mAsg, ↓ML.q_gSb, ↓ML.q_mTup, ↓ML.q_mLst, ↓ML.q_mLstF, ↓ML.q_mCons, ↓ML.q_mNil, ↓ML.q_mBlt, ↓ML.q_rEqM, ↓ML.q_rNeM, ↓ML.q_iR1, ↓ML.q_iR2, ↓ML.q_iEn, ↓ML.q_iZp, ↓ML.q_mMt, ↓ML.q_mMt0, ↓ML.q_mYes, ↓ML.q_mCut, ↓ML.q_oNo, ↓ML.q_oSo, ↓ML.l_mCall, ↓ML.l_mAnd, ↓ML.l_mOr, ↓ML.l_mAndV, ↓ML.l_mOrV, ↓ML.l_mIf, ↓ML.l_mIfS, ↓ML.l_mChain, ↓ML.l_mVar, ↓ML.l_mFor, ↓ML.l_mWhile, ↓ML.l_mComp, ↓ML.l_mCompF, ↓ML.l_optP, ↓ML.l_Go, ↓ML.Hold_v, ↓ML.l_mSet, ↓ML.l_gNm, ↓ML.l_mPar, ↓ML.l_rIxM, ↓ML.l_rSetM, ↓ML.l_rInt, ↓ML.l_rInt0, ↓ML.l_rAdd_int, ↓ML.l_rAdd_str, ↓ML.l_rAdd_tup, ↓ML.l_rNeg, ↓ML.l_rIsN, ↓ML.l_rNotN, ↓ML.l_rIsBM, ↓ML.l_mTru, ↓ML.l_bLen, ↓ML.l_bAbs, ↓ML.l_bMax2, ↓ML.l_bMin2, ↓ML.l_bInt_i, ↓ML.l_bInt_b, ↓ML.l_bTuple, ↓ML.l_bListF, ↓ML.l_bList, ↓ML.l_mIsi, ↓ML.l_iL, ↓ML.l_iT, ↓ML.l_gTp, ↓ML.l_gLs, ↓ML.l_gCn, ↓ML.l_gNl, ↓ML.l_mtAppend, ML.Hold_v, ML.l_mVar_z, ML.l_mVar_s, ML.OptP_some, ML.Go_eq, ML.IteP_true, ML.IteP_false, ML.lstOf_ref', ML.lstOf_lst, ML.lstOf_scr, ML.lstOf_tup, ML.ownOf_ref', ML.ownOf_lst, ML.seqOf_tup', ML.seqOf_lst', ML.seqOf_scr', ML.seqOf_ref', ML.olP_lst, ML.tupOf_tup, ML.ixL_lit, ML.ixL_cast, ML.ixL_m1, ML.setAt_lit, ML.setAt_cast, ML.truD_bl, ML.truD_int, ML.truD_tup, ML.truD_lst, ML.truD_scr, ML.truD_non, ML.lenD_tup, ML.lenD_lst, ML.lenD_scr, ML.lenD_ref, ML.tyD_non, ML.tyD_bl, ML.tyD_int, ML.tyD_str, ML.tyD_tup, ML.tyD_lst, ML.szl, ML.szlt, ML.cpow_lit, ML.mulok_rl, ML.mulok_ll, ML.divok_l, ML.put_same, ML.put_put, ML.q_wipeM, ML.deq_int, ML.deq_bl, ML.deq_str, ML.deq_non, ML.eqOk_int, ML.eqOk_bl, ML.isTy_NoneType_int, ML.isTy_NoneType_bool, ML.isTy_NoneType_tuple, ML.isTy_NoneType_list, ML.isTy_NoneType_str, ML.isTy_bool_int, ML.isTy_bool_bool, ML.isTy_bool_tuple, ML.isTy_bool_list, ML.isTy_bool_str, ML.isTy_int_int, ML.isTy_int_bool, ML.isTy_int_tuple, ML.isTy_int_list, ML.isTy_int_str, ML.isTy_str_int, ML.isTy_str_bool, ML.isTy_str_tuple, ML.isTy_str_list, ML.isTy_str_str, ML.isTy_tuple_int, ML.isTy_tuple_bool, ML.isTy_tuple_tuple, ML.isTy_tuple_list, ML.isTy_tuple_str, ML.isTy_list_int, ML.isTy_list_bool, ML.isTy_list_tuple, ML.isTy_list_list, ML.isTy_list_str, ML.isTy_dict_int, ML.isTy_dict_bool, ML.isTy_dict_tuple, ML.isTy_dict_list, ML.isTy_dict_str, FL.tup_fr, FL.tup_sp, FL.tup_wl, FL.tupOf_fr, FL.tupOf_sp, FL.tupOf_wl, FL.nz0, FL.nz1, FL.nz2, FL.nz3, FL.look_non, FL.look_int, FL.look_bl, FL.look_str, FL.look_tup, FL.look_lst, FL.look_scr, FL.seqOf_fr, FL.seqOf_sp, FL.seqOf_wl, FL.look_fr, FL.look_sp, FL.look_wl, FL.eqOk_fr, FL.eqOk_sp, FL.eqOk_wl, FL.deq_fr, FL.deq_sp, FL.deq_wl, FL.tyD_fr, FL.tyD_sp, FL.tyD_wl, FL.isN_fr, FL.isN_sp, FL.isN_wl, FL.lenD_sp, FL.lenD_wl, FL.rAdd_wl_tup, List.length_map, List.map_cons, List.map_nil, List.replicate, List.set_cons_zero, List.set_cons_succ, List.getElem?_cons_zero, List.getElem?_cons_succ, List.cons_append, List.nil_append, List.length_cons, List.length_nil, Option.bind_some, Option.map_some, ↓reduceIte, Nat.reduceAdd, Nat.reduceSub, Nat.reduceLT, Nat.reduceLeDiff, Nat.zero_add, decide_eq_true_eq, Bool.not_eq_true, ne_eq, reduceCtorEq, not_false_eq_true, true_and, and_true, Bool.false_eq_true, Bool.not_true, Bool.not_false, decide_true, decide_false, not_true_eq_false, eq_self, Bool.not_eq_eq_eq_not, if_true, if_false, decide_eq_false_iff_not, ML.ncast, Int.reduceToNat, Int.reducePow, Int.reduceAdd, Int.reduceSub, Int.reduceMul, Int.reduceNeg, Int.reduceLT, Int.reduceLE, Int.reduceEq, Nat.reduceEqDiff, Int.zero_add, gt_iff_lt, beq_self_eq_true, Bool.true_beq, Bool.false_beq, Bool.and_true, Bool.and_false, Bool.true_and, Bool.false_and, ↓ML.l_mtInsert, ↓ML.l_mtReverse, ↓ML.l_mtClear, ↓ML.l_bSortU, ↓ML.q_mMt0, ↓ML.l_bMaxL, ↓ML.l_bMinL, ↓ML.l_aLt_int, ↓ML.l_aLt_u, ↓ML.l_aGt_int, ↓ML.l_aGt_u, ↓ML.l_aLe_int, ↓ML.l_aLe_u, ↓ML.l_aGe_int, ↓ML.l_aGe_u, ↓ML.l_bMaxA_int, ↓ML.l_bMaxA_u, ↓ML.l_bMinA_int, ↓ML.l_bMinA_u, ML.tup_u, ML.tupOf_u, ML.seqOf_u, ML.sqI_u, ML.look_u, ML.isN_u, ML.lenD_u, ML.tyD_u, ML.tup_uw, ML.tupOf_uw, ML.seqOf_uw, ML.sqI_uw, ML.look_uw, ML.isN_uw, ML.lenD_uw, ML.tyD_uw, ML.eqOk_u, ML.eqOk_uw, ML.deq_u, ML.deq_uw, ML.in_uw, ↓ML.l_mRaise, ↓ML.l_mTry, ↓ML.l_mIsE, ↓ML.l_mIsV, ↓ML.l_mtCount, ↓ML.l_rAddS_rl, ↓ML.l_rAddS_ll, ML.excD_ref, ML.excOf_exc, ML.blsOf_nil, ML.blsOf_cons, ML.endM_nx, ML.endM_rt, ↓ML.l_mYes, ↓ML.l_iS, ↓ML.l_mIfJ, ↓ML.l_mJ, ↓ML.CrollP_nil, ↓ML.CrollP_cons, ↓ML.CrA_at, ↓ML.FrollP_nil, ↓ML.FrollP_cons, ML.isN_non, ML.isN_int, ML.isN_bl, ML.isN_str, ML.isN_tup, ML.isN_lst, ML.isN_ref, ML.sqI_tup, ML.sqI_lst, ML.sqI_scr, ML.sqI_ref, ML.sqI_at, ML.rngD_0, ML.rngD_1, ML.rngD_2, ML.rngD_3, ML.rngD_4, ML.rngD_6, ML.q_wipeM_nil, ML.q_wipeM_cons, FL.sqI_sp, FL.sqI_wl, FL.l_rAdd_rl, FL.l_rAdd_ll, FL.l_rAdd_lr, FL.l_rAdd_rr, FL.in_ints, FL.in_lu, ↓ML.l_mListR, ↓ML.l_mDIn, ↓ML.l_mDPut, ↓ML.l_mDNew, ML.dtD_ref, ML.dtO_dT, ML.keysD_nil, ML.keysD_int, $ls,*] $[$l]?)
-- counts /tmp/scratch/dev/N_lib11.json
theorem l_upper_below : ∀ ds S Q E, FL.sp_upper_below ds S Q E → ds.length = 3 := by rintro _ _ _ _ ⟨_, _, _, _, rfl, _⟩; rfl
theorem l_wall_below : ∀ ds S Q E, FL.sp_wall_below ds S Q E → ds.length = 2 := by rintro _ _ _ _ ⟨_, _, rfl, _⟩; rfl
theorem l_squares : ∀ ds S Q E, FL.sp_squares ds S Q E → ds.length = 1 := by rintro _ _ _ _ ⟨_, _, _, rfl, _⟩; rfl
theorem r_upper_below : ∀ ds S Q E, FL.sp_upper_below ds S Q E → b_upper_below (mends Q E) (mstart 3 ds) S := by
  rintro _ S Q E ⟨ws, d, ms, t, rfl, hd, hlt, hz, hb, ht, k⟩
  obtain ⟨G, eG, hG⟩ := hd.itx
  unfold b_upper_below
  simp only [ML.q_mstart, ML.q_mends, List.map_cons, List.map_nil, List.replicate, List.cons_append, List.nil_append]
  simp only [gv, eG]
  intro p hp
  have hw : ∀ i ∈ ms, BW (wlAt ws i) 200 := fun i hi => hb _ (wlAt_mem (hlt i hi))
  refine comp_filter nD nD (spanB ws t) ms rfl hz (fun acc => hG _ (hd.ext (ext0_put hp))) ?_ ?_
  · intro i acc Q1 Q2 hi q1 q2
    have hwi := hw i hi
    unfold spanB at q1 q2
    simp only [gv, nD, List.getElem?_map, wlAt_get (hlt i hi)]
    rw [c_spans (by omega)]
    simp only [gv]
    refine ⟨fun z1 => ?_, fun z1 => ?_⟩
    · simp only [gv, List.getElem?_map, wlAt_get (hlt i hi)]
      rw [c_side_of (by omega)]
      simp only [gv]
      refine ⟨fun z2 => ?_, fun z2 => ?_⟩
      · simp only [gv]; exact q1 (by simp [z1, z2])
      · simp only [gv]; exact q2 (by simp [z2])
    · simp only [gv]; exact q2 (by simp [z1])
  have x1 : Ext0 S (put S p (.lst ((ms.filter (spanB ws t)).map nD))) := ext0_put hp
  have lN := List.length_filter_le (spanB ws t) ms
  have hk := k _ x1
  have hN : ∀ i ∈ ms.filter (spanB ws t), i ∈ ms := fun i hi => (List.mem_filter.mp hi).1
  have hne := belowL_ne (ws := ws) (ms := ms) (t := t)
  have eB : belowL ws ms t = ((ms.filter (spanB ws t)).filter fun i => decide (wlAt ws i = upperW ((ms.filter (spanB ws t)).map (wlAt ws)))) := rfl
  unfold belowD at hk
  generalize hM : ms.filter (spanB ws t) = N at *
  have g1 : put S p (.lst (N.map nD)) p = some (.lst (N.map nD)) := put_same
  simp only [gv, look_ref g1, eqOk_n0, deq_n0]
  refine ⟨fun z => ?_, fun z => ?_⟩
  · have : N = [] := List.isEmpty_iff.mp z
    rw [eB] at hk
    subst this
    simp only [gv]
    exact hk
  · have hn : N ≠ [] := fun y => by rw [y] at z; exact z rfl
    obtain ⟨k0, r0, er⟩ := hne hn
    simp only [gv, sqI_at g1]
    intro u hu
    have pu : p ≠ u := sne g1 hu
    have g2 : ∀ o, put (put S p (.lst (N.map nD))) u o p = some (.lst (N.map nD)) := fun o => by rw [put_ne pu]; exact g1
    refine comp_map nD (fun i => wlD (wlAt ws i)) N rfl (by omega) (fun acc => by show olP _ = _; rw [g2]; rfl) ?_ ?_
    · intro i acc Q1 hi q1
      simp only [gv, nD, List.getElem?_map, wlAt_get (hlt i (hN i hi))]
      exact q1
    simp only [del_put hu]
    rw [show (N.map fun i => wlD (wlAt ws i)) = (N.map (wlAt ws)).map wlD by rw [List.map_map]; rfl]
    refine t_upper .lst (fun y => hn (List.map_eq_nil_iff.mp y)) (by rw [List.length_map]; omega) (fun v hv => ?_) ?_
    · obtain ⟨i, hi, rfl⟩ := List.mem_map.mp hv
      exact hw i (hN i hi)
    simp only [gv, sqI_at g1]
    intro v hv
    have pv : p ≠ v := sne g1 hv
    have g3 : ∀ o, put (put S p (.lst (N.map nD))) v o p = some (.lst (N.map nD)) := fun o => by rw [put_ne pv]; exact g1
    refine comp_filter nD nD (fun i => decide (wlAt ws i = upperW (N.map (wlAt ws)))) N rfl (by omega) (fun acc => by show olP _ = _; rw [g3]; rfl) ?_ ?_
    · intro i acc Q1 Q2 hi q1 q2
      simp only [gv, nD, List.getElem?_map, wlAt_get (hlt i (hN i hi))]
      refine ⟨fun z2 => ?_, fun z2 => ?_⟩
      · simp only [gv]; exact q1 (by simpa using z2)
      · simp only [gv]; exact q2 (by simpa using z2)
    rw [← eB, er]
    rw [er] at hk
    simp only [gv, del_put hv]
    exact hk
theorem r_wall_below : ∀ ds S Q E, FL.sp_wall_below ds S Q E → b_wall_below (mends Q E) (mstart 0 ds) S := by
  rintro _ S Q E ⟨ws, t, rfl, hz, hb, ht, k⟩
  unfold b_wall_below
  simp only [ML.q_mstart, ML.q_mends, List.map_cons, List.map_nil, List.replicate, List.cons_append, List.nil_append]
  simp only [gv]
  refine ⟨by omega, ws, _, List.range ws.length, t, rfl, ?_, fun i hi => List.mem_range.mp hi, by rw [List.length_range]; exact hz, hb, ht, k⟩
  rw [Int.toNat_natCast, show rngD 0 ws.length = (List.range ws.length).map nD by unfold rngD nD; simp]
  exact .lst
def sqP (m i : Nat) : List UW := (((m : Int), 0), ((m : Int), 1)) :: ((List.range i).map fun (k : Nat) => ([(((k : Int), 0), ((k : Int) + 1, 0)), (((k : Int), 1), ((k : Int) + 1, 1)), (((k : Int), 0), ((k : Int), 1))] : List UW)).flatten
theorem r_squares : ∀ ds S Q E, FL.sp_squares ds S Q E → b_squares (mends Q E) (mstart 5 ds) S := by
  rintro _ S Q E ⟨p, c, n, rfl, hp, hn, k⟩
  unfold b_squares
  simp only [ML.q_mstart, ML.q_mends, List.map_cons, List.map_nil, List.replicate, List.cons_append, List.nil_append]
  simp only [gv]
  refine t_take hp (by decide) (by decide) (by omega) fun r c1 r0 r1 => ?_
  simp only [gv]
  obtain ⟨m, hm⟩ : ∃ m : Nat, 6 + r = (m : Int) := ⟨(6 + r).toNat, by omega⟩
  rw [hm, Int.toNat_natCast]
  refine ⟨by omega, ?_⟩
  have sqS : ∀ i, sqP m (i + 1) = sqP m i ++ [(((i : Int), 0), ((i : Int) + 1, 0)), (((i : Int), 1), ((i : Int) + 1, 1)), (((i : Int), 0), ((i : Int), 1))] := fun i => by
    unfold sqP; rw [List.range_succ]; simp
  have sqL : ∀ i, (sqP m i).length = 1 + 3 * i := fun i => by
    induction i with
    | zero => rfl
    | succ i ih => rw [sqS, List.length_append, ih]; simp; omega
  refine rng_inv (fun i σ S' => @KP ⟨(∃ a, σ = [some (.ref p), some (.int m), some (.lst ((sqP m i).map uwD)), a, none, none]) ∧ S' = put S p (rowO c1 (n + 1 : Nat))⟩) ⟨⟨_, rfl⟩, rfl⟩ ?_ ?_
  · rintro i σ S1 hi ⟨⟨a, rfl⟩, rfl⟩
    simp only [gv]
    have l := sqL i
    refine ⟨line_le (by omega), KP.mk ⟨⟨some (.int (i : Nat)), ?_⟩, rfl⟩⟩
    rw [sqS, List.map_append]; rfl
  · rintro σ S1 ⟨⟨a, rfl⟩, rfl⟩
    have dr : Drawn 40 14 (sqP m m) := sq_drawn (by omega) (by omega)
    have l := sqL m
    generalize sqP m m = ws at dr l
    simp only [gv]
    intro q hq
    have pq : p ≠ q := sne put_same hq
    refine ⟨by omega, ?_⟩
    rw [Int.toNat_natCast]
    refine rng_inv (fun i σ S' => @KP ⟨∃ (vs : List UW) (c' : Int) (n' : Nat) (a : Option D), (∃ b, σ = [some (.ref p), some (.int m), some (.lst (ws.map uwD)), b, some (.ref q), a]) ∧ S' p = some (rowO c' n') ∧ S' q = some (.lst (vs.map uwD)) ∧ n' ≤ n + 1 + i ∧ (∀ x o, x ≠ p → x ≠ q → S x = some o → S' x = some o) ∧ vs.Perm (ws.take i)⟩) ⟨[], c1, n + 1, none, ⟨_, rfl⟩, by rw [put_ne pq, put_same], put_same, by omega, fun x o h1 h2 e => by rw [put_ne h2, put_ne h1]; exact e, by simp⟩ ?_ ?_
    · rintro i σ S1 hi ⟨vs, c2, n2, a, ⟨b, rfl⟩, hp1, hq1, hn2, hx, pm⟩
      have pl := pm.length_eq
      rw [List.length_take] at pl
      simp only [gv, isLst_ref hq1]
      refine t_take hp1 (by omega) (by omega) (by omega) fun y c3 y0 y1 => ?_
      obtain ⟨j, rfl⟩ := Int.eq_ofNat_of_zero_le y0
      have hi' : i < ws.length := hi
      have hq2 : put S1 p (rowO c3 (n2 + 1 : Nat)) q = some (.lst (vs.map uwD)) := by rw [put_ne (Ne.symm pq)]; exact hq1
      simp only [gv, List.getElem?_map, List.getElem?_eq_getElem hi', hq2, isLst_ref hq2]
      have pm2 : (vs.take j ++ [ws[i]] ++ vs.drop j).Perm (ws.take (i + 1)) := by
        rw [List.take_succ_eq_append_getElem hi', List.append_assoc]
        refine (List.perm_middle (a := ws[i]) (l₁ := vs.take j) (l₂ := vs.drop j)).trans ?_
        rw [List.take_append_drop]
        exact (List.Perm.cons _ pm).trans (List.perm_append_singleton _ _).symm
      refine ⟨⟨line_lt (by omega), by omega, by omega⟩, KP.mk ⟨vs.take j ++ [ws[i]] ++ vs.drop j, c3, n2 + 1, _, ⟨_, rfl⟩, by rw [put_ne pq, put_same], ?_, by omega, fun x o h1 h2 e => ?_, pm2⟩⟩
      · rw [put_same, List.map_append, List.map_append, List.map_take, List.map_drop]; rfl
      · rw [put_ne h2, put_ne h1]; exact hx x o h1 h2 e
    · rintro σ S1 ⟨vs, c2, n2, a, ⟨b, rfl⟩, hp1, hq1, hn2, hx, pm⟩
      rw [List.take_length] at pm
      simp only [gv]
      exact k vs q c2 n2 S1 (dr.perm pm) (by omega) (Ne.symm pq) (fun x o h1 e => hx x o h1 (fun z => by rw [put_ne (Ne.symm pq)] at hq; rw [z, hq] at e; cases e) e) hp1 hq1
end FL

set_option maxRecDepth 100000
namespace FL
open PySem PySem.Spec L2 ML
/-! # faces of walls in units, and which comes behind which -/
def icr (u v : U2) : Int := u.1 * v.2 - u.2 * v.1
def idt (u v : U2) : Int := u.1 * v.1 + u.2 * v.2
def usb (p q : U2) : U2 := (p.1 - q.1, p.2 - q.2)
def isg (i : Int) : Int := if 0 < i then 1 else if i < 0 then -1 else 0
theorem uturn_isg (a b c : U2) : uturn a b c = isg (icr (usb b a) (usb c a)) := by
  have e : crs (alng (ofU a, ofU b)) (alng (ofU a, ofU c)) = ((icr (usb b a) (usb c a) : Int) : Rat) := by
    simp only [crs, alng, ofU, icr, usb, Rat.intCast_sub, Rat.intCast_mul]
  unfold uturn side
  rw [e]
  unfold sgn isg
  have h1 : (0 : Rat) < ((icr (usb b a) (usb c a) : Int) : Rat) ↔ 0 < icr (usb b a) (usb c a) := by
    have := Rat.intCast_lt_intCast (a := 0) (b := icr (usb b a) (usb c a)); simpa using this
  have h2 : ((icr (usb b a) (usb c a) : Int) : Rat) < 0 ↔ icr (usb b a) (usb c a) < 0 := by
    have := Rat.intCast_lt_intCast (a := icr (usb b a) (usb c a)) (b := 0); simpa using this
  simp only [h1, h2]
/-- two ways lead in one direction -/
def same (u v : U2) : Prop := icr u v = 0 ∧ 0 < idt u v
def nz (u : U2) : Prop := u.1 ≠ 0 ∨ u.2 ≠ 0
theorem sq_pos {u : U2} (h : nz u) : 0 < idt u u := by
  unfold idt nz at *
  rcases h with h | h
  · have h1 : 0 < u.1 * u.1 := by
      rcases Int.lt_or_gt_of_ne h with g | g
      · exact Int.mul_pos_of_neg_of_neg g g
      · exact Int.mul_pos g g
    have h2 : 0 ≤ u.2 * u.2 := by
      rcases Int.le_total 0 u.2 with g | g
      · exact Int.mul_nonneg g g
      · exact Int.mul_nonneg_of_nonpos_of_nonpos g g
    omega
  · have h1 : 0 < u.2 * u.2 := by
      rcases Int.lt_or_gt_of_ne h with g | g
      · exact Int.mul_pos_of_neg_of_neg g g
      · exact Int.mul_pos g g
    have h2 : 0 ≤ u.1 * u.1 := by
      rcases Int.le_total 0 u.1 with g | g
      · exact Int.mul_nonneg g g
      · exact Int.mul_nonneg_of_nonpos_of_nonpos g g
    omega
theorem pos_of_mul_pos {a b : Int} (h : 0 < a * b) (ha : 0 < a) : 0 < b := by
  rcases Int.lt_or_le 0 b with g | g
  · exact g
  · have := Int.mul_nonpos_of_nonneg_of_nonpos (Int.le_of_lt ha) g; omega
/-- the first of two ways is met ahead of the second one in a turn to the right, begun at b -/
def cyc (b x y : U2) : Prop := isg (icr b x) < isg (icr b y) ∨ (isg (icr b x) = isg (icr b y) ∧ icr x y < 0)
instance (b x y : U2) : Decidable (cyc b x y) := by unfold cyc; infer_instance
theorem isg_cases (i : Int) : (0 < i ∧ isg i = 1) ∨ (i = 0 ∧ isg i = 0) ∨ (i < 0 ∧ isg i = -1) := by
  unfold isg
  rcases Int.lt_trichotomy i 0 with h | h | h
  · exact .inr (.inr ⟨h, by rw [if_neg (by omega), if_pos h]⟩)
  · exact .inr (.inl ⟨h, by rw [if_neg (by omega), if_neg (by omega)]⟩)
  · exact .inl ⟨h, by rw [if_pos h]⟩
theorem icr_swap (u v : U2) : icr u v = - icr v u := by unfold icr; grind
/-- both parallel to a third way and against it: one direction -/
theorem anti {b x y : U2} (hb : nz b) (hx : nz x) (hy : nz y) (nx : ¬ same b x) (ny : ¬ same b y) (h1 : icr b x = 0) (h2 : icr b y = 0) : same x y := by
  have d1 : idt b x < 0 := by
    rcases Int.lt_trichotomy (idt b x) 0 with h | h | h
    · exact h
    · exfalso
      have e : idt b b * idt x x = idt b x * idt b x + icr b x * icr b x := by unfold idt icr; grind
      rw [h, h1] at e
      have := Int.mul_pos (sq_pos hb) (sq_pos hx)
      simp at e
      omega
    · exact (nx ⟨h1, h⟩).elim
  have d2 : idt b y < 0 := by
    rcases Int.lt_trichotomy (idt b y) 0 with h | h | h
    · exact h
    · exfalso
      have e : idt b b * idt y y = idt b y * idt b y + icr b y * icr b y := by unfold idt icr; grind
      rw [h, h2] at e
      have := Int.mul_pos (sq_pos hb) (sq_pos hy)
      simp at e
      omega
    · exact (ny ⟨h2, h⟩).elim
  have e1 : idt b b * icr x y = idt b x * icr b y - icr b x * idt b y := by unfold idt icr; grind
  have e2 : idt b b * idt x y = idt b x * idt b y + icr b x * icr b y := by unfold idt icr; grind
  rw [h1, h2] at e1 e2
  simp at e1 e2
  have p := sq_pos hb
  refine ⟨?_, ?_⟩
  · rcases Int.mul_eq_zero.mp e1 with z | z
    · omega
    · exact z
  · have := Int.mul_pos_of_neg_of_neg d1 d2
    rw [← e2] at this
    exact pos_of_mul_pos this p
/-- on one side of a third way, and parallel: one direction -/
theorem side_same {b x y : U2} (hy : nz y) (h : icr x y = 0) (s : (0 < icr b x ∧ 0 < icr b y) ∨ (icr b x < 0 ∧ icr b y < 0)) : same x y := by
  refine ⟨h, ?_⟩
  have e : icr b x * idt y y = icr b y * idt x y - icr x y * idt b y := by unfold idt icr; grind
  rw [h] at e
  simp at e
  have p := sq_pos hy
  rcases s with ⟨s1, s2⟩ | ⟨s1, s2⟩
  · have := Int.mul_pos s1 p
    rw [e] at this
    exact pos_of_mul_pos this s2
  · have := Int.mul_pos (show 0 < - icr b x by omega) p
    have e2 : (- icr b x) * idt y y = (- icr b y) * idt x y := by rw [Int.neg_mul, Int.neg_mul, e]
    rw [e2] at this
    exact pos_of_mul_pos this (by omega)
theorem cyc_total {b x y : U2} (hb : nz b) (hx : nz x) (hy : nz y) (nx : ¬ same b x) (ny : ¬ same b y) (n : ¬ same x y) : cyc b x y ∨ cyc b y x := by
  unfold cyc
  rcases Int.lt_trichotomy (isg (icr b x)) (isg (icr b y)) with h | h | h
  · exact .inl (.inl h)
  · rcases Int.lt_trichotomy (icr x y) 0 with g | g | g
    · exact .inl (.inr ⟨h, g⟩)
    · exfalso
      rcases isg_cases (icr b x) with ⟨c1, c2⟩ | ⟨c1, c2⟩ | ⟨c1, c2⟩ <;> rcases isg_cases (icr b y) with ⟨c3, c4⟩ | ⟨c3, c4⟩ | ⟨c3, c4⟩ <;> first
        | exact n (side_same (b := b) hy g (.inl ⟨c1, c3⟩))
        | exact n (side_same (b := b) hy g (.inr ⟨c1, c3⟩))
        | exact n (anti hb hx hy nx ny c1 c3)
        | omega
    · exact .inr (.inr ⟨h.symm, by rw [icr_swap]; omega⟩)
  · exact .inr (.inl h)
theorem cyc_asymm {b x y : U2} (h : cyc b x y) : ¬ cyc b y x := by
  unfold cyc at *
  have := icr_swap x y
  omega
theorem cyc_trans {b x y z : U2} (hb : nz b) (hx : nz x) (hy : nz y) (hz : nz z) (nx : ¬ same b x) (ny : ¬ same b y) (h1 : cyc b x y) (h2 : cyc b y z) : cyc b x z := by
  have key : icr b y * icr x z = icr b x * icr y z + icr b z * icr x y := by unfold icr; grind
  unfold cyc at *
  rcases h1 with h1 | ⟨h1, g1⟩ <;> rcases h2 with h2 | ⟨h2, g2⟩
  · left; omega
  · left; omega
  · left; omega
  · right
    refine ⟨h1.trans h2, ?_⟩
    rcases isg_cases (icr b x) with ⟨c1, c2⟩ | ⟨c1, c2⟩ | ⟨c1, c2⟩ <;> rcases isg_cases (icr b y) with ⟨c3, c4⟩ | ⟨c3, c4⟩ | ⟨c3, c4⟩ <;> rcases isg_cases (icr b z) with ⟨c5, c6⟩ | ⟨c5, c6⟩ | ⟨c5, c6⟩ <;> try omega
    · have m1 := Int.mul_pos c1 (show 0 < - icr y z by omega)
      have m2 := Int.mul_pos c5 (show 0 < - icr x y by omega)
      rw [Int.mul_neg] at m1 m2
      have : 0 < icr b y * (- icr x z) := by rw [Int.mul_neg]; omega
      have := pos_of_mul_pos this c3
      omega
    · have := (anti hb hx hy nx ny c1 c3).1
      omega
    · have m1 := Int.mul_pos (show 0 < - icr b x by omega) (show 0 < - icr y z by omega)
      have m2 := Int.mul_pos (show 0 < - icr b z by omega) (show 0 < - icr x y by omega)
      rw [Int.neg_mul_neg] at m1 m2
      have : 0 < (- icr b y) * (- icr x z) := by rw [Int.neg_mul_neg]; omega
      have := pos_of_mul_pos this (by omega)
      omega
/-- from two ways the first that is met isn't one and the same, where each of both is met behind it by the other -/
theorem cyc_inj {b1 b2 c : U2} (h1 : nz b1) (h2 : nz b2) (hc : nz c) (n : ¬ same b1 b2) (k1 : cyc b1 c b2) (k2 : cyc b2 c b1) : False := by
  unfold cyc at k1 k2
  have e1 : icr b2 c = - icr c b2 := icr_swap _ _
  have e2 : icr b2 b1 = - icr b1 b2 := icr_swap _ _
  have e3 : icr c b1 = - icr b1 c := icr_swap _ _
  rw [e1, e2, e3] at k2
  rcases isg_cases (icr b1 c) with ⟨c1, c2⟩ | ⟨c1, c2⟩ | ⟨c1, c2⟩ <;> rcases isg_cases (icr b1 b2) with ⟨c3, c4⟩ | ⟨c3, c4⟩ | ⟨c3, c4⟩ <;> rcases isg_cases (- icr c b2) with ⟨c5, c6⟩ | ⟨c5, c6⟩ | ⟨c5, c6⟩ <;> rcases isg_cases (- icr b1 b2) with ⟨c7, c8⟩ | ⟨c7, c8⟩ | ⟨c7, c8⟩ <;> try omega
  have e : idt b1 b1 * icr c b2 = icr c b1 * idt b1 b2 + idt c b1 * icr b1 b2 := by unfold idt icr; grind
  rw [c3] at e
  simp at e
  have d : idt b1 b2 < 0 := by
    rcases Int.lt_trichotomy (idt b1 b2) 0 with h | h | h
    · exact h
    · exfalso
      have e : idt b1 b1 * idt b2 b2 = idt b1 b2 * idt b1 b2 + icr b1 b2 * icr b1 b2 := by unfold idt icr; grind
      rw [h, c3] at e
      have := Int.mul_pos (sq_pos h1) (sq_pos h2)
      simp at e
      omega
    · exact (n ⟨c3, h⟩).elim
  have p := sq_pos h1
  have m1 := Int.mul_pos p (show 0 < icr c b2 by omega)
  have m2 := Int.mul_pos (show 0 < icr c b1 by omega) (show 0 < - idt b1 b2 by omega)
  rw [Int.mul_neg] at m2
  omega
/-! ### faces -/
def uface (ws : List UW) (f : Nat) : UW := if f % 2 = 1 then ((wat ws (f / 2)).2, (wat ws (f / 2)).1) else wat ws (f / 2)
def opp (f : Nat) : Nat := if f % 2 = 1 then f - 1 else f + 1
def waysB (ws : List UW) (f : Nat) : List Nat := (List.range (2 * ws.length)).filter fun g => decide ((uface ws g).1 = (uface ws f).2) && !decide (g = opp f)
/-- the ways back and on from the end of a face -/
def bk (ws : List UW) (f : Nat) : U2 := usb (uface ws f).1 (uface ws f).2
def wy (ws : List UW) (v : U2) (g : Nat) : U2 := usb (uface ws g).2 v
def stepB (ws : List UW) (f : Nat) (s : Nat × Option U2) (g : Nat) : Nat × Option U2 := match s.2 with
  | none => (g, some (uface ws g).2)
  | some e => if cyc (bk ws f) (wy ws (uface ws f).2 g) (usb e (uface ws f).2) then (g, some (uface ws g).2) else s
def behindU (ws : List UW) (f : Nat) : Nat := ((waysB ws f).foldl (stepB ws f) (opp f, none)).1
theorem opp_lt {n f : Nat} (h : f < 2 * n) : opp f < 2 * n := by unfold opp; split <;> omega
theorem opp_opp (f : Nat) : opp (opp f) = f := by
  unfold opp
  by_cases h : f % 2 = 1
  · rw [if_pos h, if_neg (by omega)]; omega
  · rw [if_neg h, if_pos (by omega)]; omega
theorem opp_inj {f g : Nat} (h : opp f = opp g) : f = g := by rw [← opp_opp f, h, opp_opp]
theorem uface_opp (ws : List UW) (f : Nat) : uface ws (opp f) = ((uface ws f).2, (uface ws f).1) := by
  unfold uface opp
  by_cases h : f % 2 = 1
  · rw [if_pos h, if_pos h, if_neg (by omega), show (f - 1) / 2 = f / 2 by omega]
  · rw [if_neg h, if_neg h, if_pos (by omega), show (f + 1) / 2 = f / 2 by omega]
section
variable {m : Nat} {z : Int} {ws : List UW}
theorem uface_ne (dr : Drawn m z ws) {f : Nat} (h : f < 2 * ws.length) : (uface ws f).1 ≠ (uface ws f).2 := by
  have u := dr.up _ (wat_mem (ws := ws) (i := f / 2) (by omega))
  unfold uface
  split
  · exact fun e => by dsimp only at e; rw [e] at u; exact ult_irrefl _ u
  · exact fun e => by rw [e] at u; exact ult_irrefl _ u
theorem usb_nz {a b : U2} (h : a ≠ b) : nz (usb a b) := by
  unfold nz usb
  have : ¬ (a.1 = b.1 ∧ a.2 = b.2) := fun e => h (Prod.ext e.1 e.2)
  dsimp only; omega
theorem sign_same {k l x y : Int} (hk : 0 < k) (hl : 0 < l) (e : k * x = l * y) : (0 < x → 0 < y) ∧ (x < 0 → y < 0) ∧ (x = 0 → y = 0) := by
  refine ⟨fun h => ?_, fun h => ?_, fun h => ?_⟩
  · have := Int.mul_pos hk h
    rw [e] at this
    exact pos_of_mul_pos this hl
  · have := Int.mul_pos hk (show 0 < -x by omega)
    have e2 : k * -x = l * -y := by rw [Int.mul_neg, Int.mul_neg, e]
    rw [e2] at this
    have := pos_of_mul_pos this hl
    omega
  · rw [h, Int.mul_zero] at e
    rcases Int.mul_eq_zero.mp e.symm with z | z
    · omega
    · exact z
/-- of two ways in one direction both lead on, or both lead back -/
theorem on_same {v a b : U2} (ha : a ≠ v) (h : same (usb a v) (usb b v)) : (ult v a ∧ ult v b) ∨ (ult a v ∧ ult b v) := by
  obtain ⟨h1, h2⟩ := h
  have hn := usb_nz ha
  have p := sq_pos hn
  have e1 : idt (usb a v) (usb b v) * (usb a v).1 = idt (usb a v) (usb a v) * (usb b v).1 + (usb a v).2 * icr (usb a v) (usb b v) := by unfold idt icr; grind
  have e2 : idt (usb a v) (usb b v) * (usb a v).2 = idt (usb a v) (usb a v) * (usb b v).2 - (usb a v).1 * icr (usb a v) (usb b v) := by unfold idt icr; grind
  rw [h1, Int.mul_zero, Int.add_zero] at e1
  rw [h1, Int.mul_zero, Int.sub_zero] at e2
  obtain ⟨s1, s2, s3⟩ := sign_same h2 p e1
  obtain ⟨t1, t2, t3⟩ := sign_same h2 p e2
  unfold nz at hn
  unfold usb at *
  dsimp only at *
  unfold ult
  omega
theorem uturn_same {v a b : U2} (h : same (usb a v) (usb b v)) : uturn v a b = 0 ∧ uturn v b a = 0 := by
  refine ⟨by rw [uturn_isg, h.1]; rfl, ?_⟩
  rw [uturn_isg, icr_swap, h.1]; rfl
theorem uturn_swap {v a b : U2} (h : uturn v a b = 0) : uturn a v b = 0 := by
  rw [uturn_isg] at *
  have e : icr (usb v a) (usb b a) = - icr (usb a v) (usb b v) := by unfold icr usb; grind
  rw [e]
  rcases isg_cases (icr (usb a v) (usb b v)) with ⟨c1, c2⟩ | ⟨c1, c2⟩ | ⟨c1, c2⟩
  · omega
  · rw [c1]; rfl
  · omega
/-- of a face: its wall by its ends, the one that is ahead first -/
theorem uface_wall (dr : Drawn m z ws) {f : Nat} (h : f < 2 * ws.length) : (ult (uface ws f).1 (uface ws f).2 → wat ws (f / 2) = uface ws f) ∧ (ult (uface ws f).2 (uface ws f).1 → wat ws (f / 2) = ((uface ws f).2, (uface ws f).1)) := by
  have u := dr.up _ (wat_mem (ws := ws) (i := f / 2) (by omega))
  unfold uface
  split
  · exact ⟨fun k => (ult_asymm u k).elim, fun _ => rfl⟩
  · exact ⟨fun _ => rfl, fun k => (ult_asymm u k).elim⟩
/-- two faces from one corner don't lead in one direction -/
theorem apart (dr : Drawn m z ws) {f g : Nat} (hf : f < 2 * ws.length) (hg : g < 2 * ws.length) (hb : (uface ws f).1 = (uface ws g).1) (ne : f ≠ g) : ¬ same (usb (uface ws f).2 (uface ws f).1) (usb (uface ws g).2 (uface ws f).1) := by
  intro hs
  have nf := uface_ne dr hf
  have ng := uface_ne dr hg
  have nij : f / 2 ≠ g / 2 := fun e => by
    have : f = opp g := by unfold opp; split <;> omega
    rw [this, uface_opp] at hb
    exact ng hb.symm
  have fw := dr.fairW nij (wat_get (ws := ws) (i := f / 2) (by omega)) (wat_get (ws := ws) (i := g / 2) (by omega))
  have wf := uface_wall dr hf
  have wg := uface_wall dr hg
  obtain ⟨t1, t2⟩ := uturn_same hs
  generalize hv : (uface ws f).1 = v at *
  generalize ha : (uface ws f).2 = a at *
  generalize hb2 : (uface ws g).2 = b at *
  have ef : uface ws f = (v, a) := Prod.ext hv ha
  have eg : uface ws g = (v, b) := Prod.ext hb.symm hb2
  have na : a ≠ v := fun e => nf e.symm
  have nb : b ≠ v := fun e => ng (by rw [← hb]; exact e.symm)
  rw [← hb] at wg
  rw [ef] at wf
  rw [eg] at wg
  have lie : ∀ {p q s : U2}, ult p s → ult s q → uturn p q s = 0 → liesOn (ofW (p, q)) (ofU s) := fun {p q s} h1 h2 h3 => ⟨fun z => ult_asymm h1 ((ahead_ofU _ _).mp z), fun z => ult_asymm h2 ((ahead_ofU _ _).mp z), h3⟩
  rcases on_same na hs with ⟨k1, k2⟩ | ⟨k1, k2⟩
  · rw [wf.1 k1, wg.1 k2] at fw
    by_cases e : a = b
    · subst e; exact fw.ne rfl
    · rcases ult_tri e with z | z
      · rcases fw.e4 (lie k1 z t2) with q | q
        · exact na (ofU_inj.mp q)
        · exact e (ofU_inj.mp q)
      · rcases fw.e2 (lie k2 z t1) with q | q
        · exact nb (ofU_inj.mp q)
        · exact e (ofU_inj.mp q).symm
  · rw [wf.2 k1, wg.2 k2] at fw
    by_cases e : a = b
    · subst e; exact fw.ne rfl
    · rcases ult_tri e with z | z
      · rcases fw.e1 (lie z k2 (uturn_swap t1)) with q | q
        · exact e (ofU_inj.mp q).symm
        · exact nb (ofU_inj.mp q)
      · rcases fw.e3 (lie z k1 (uturn_swap t2)) with q | q
        · exact e (ofU_inj.mp q)
        · exact na (ofU_inj.mp q)
/-! ### what comes behind -/
theorem mem_ways {f g : Nat} : g ∈ waysB ws f ↔ g < 2 * ws.length ∧ (uface ws g).1 = (uface ws f).2 ∧ g ≠ opp f := by
  unfold waysB
  rw [List.mem_filter, List.mem_range]
  simp
theorem wy_nz (dr : Drawn m z ws) {f g : Nat} (hg : g < 2 * ws.length) (hb : (uface ws g).1 = (uface ws f).2) : nz (wy ws (uface ws f).2 g) := by
  have := uface_ne dr hg
  exact usb_nz fun e => this (by rw [hb, e])
theorem wy_apart (dr : Drawn m z ws) {f g h : Nat} (hg : g < 2 * ws.length) (hh : h < 2 * ws.length) (hb : (uface ws g).1 = (uface ws f).2) (hb2 : (uface ws h).1 = (uface ws f).2) (ne : g ≠ h) : ¬ same (wy ws (uface ws f).2 g) (wy ws (uface ws f).2 h) := by
  have := apart dr hg hh (hb.trans hb2.symm) ne
  rw [hb] at this
  exact this
theorem bk_wy (ws : List UW) (f : Nat) : bk ws f = wy ws (uface ws f).2 (opp f) := by
  unfold bk wy
  rw [uface_opp]
theorem fold_min (dr : Drawn m z ws) {f : Nat} (hf : f < 2 * ws.length) : ∀ (L P : List Nat) (g : Nat), (∀ h ∈ P, h ∈ waysB ws f) → (∀ h ∈ L, h ∈ waysB ws f) → g ∈ P → (∀ h ∈ P, h ≠ g → cyc (bk ws f) (wy ws (uface ws f).2 g) (wy ws (uface ws f).2 h)) →
    ∃ g', L.foldl (stepB ws f) (g, some (uface ws g).2) = (g', some (uface ws g').2) ∧ g' ∈ P ++ L ∧ ∀ h ∈ P ++ L, h ≠ g' → cyc (bk ws f) (wy ws (uface ws f).2 g') (wy ws (uface ws f).2 h)
  | [], P, g, hP, hL, hg, k => ⟨g, rfl, by simpa using hg, fun h hh => k h (by simpa using hh)⟩
  | x :: L, P, g, hP, hL, hg, k => by
    have wx := mem_ways.mp (hL x List.mem_cons_self)
    have wg := mem_ways.mp (hP g hg)
    have hL' : ∀ h ∈ L, h ∈ waysB ws f := fun h hh => hL h (List.mem_cons_of_mem _ hh)
    have hP' : ∀ h ∈ P ++ [x], h ∈ waysB ws f := fun h hh => by
      rcases List.mem_append.mp hh with e | e
      · exact hP h e
      · rw [List.mem_singleton.mp e]; exact hL x List.mem_cons_self
    have zo := wy_nz dr (opp_lt hf) (f := f) (by rw [uface_opp])
    have ao : ∀ h, h ∈ waysB ws f → ¬ same (bk ws f) (wy ws (uface ws f).2 h) := fun h hh => by
      have w := mem_ways.mp hh
      rw [bk_wy]
      exact wy_apart dr (opp_lt hf) w.1 (by rw [uface_opp]) w.2.1 (Ne.symm w.2.2)
    rw [← bk_wy] at zo
    have nzw : ∀ h, h ∈ waysB ws f → nz (wy ws (uface ws f).2 h) := fun h hh => wy_nz dr (mem_ways.mp hh).1 (mem_ways.mp hh).2.1
    rw [List.foldl_cons]
    by_cases hc : cyc (bk ws f) (wy ws (uface ws f).2 x) (wy ws (uface ws f).2 g)
    · have e : stepB ws f (g, some (uface ws g).2) x = (x, some (uface ws x).2) := by
        show (if cyc (bk ws f) (wy ws (uface ws f).2 x) (wy ws (uface ws f).2 g) then _ else _) = _
        rw [if_pos hc]
      rw [e]
      obtain ⟨g', e1, e2, e3⟩ := fold_min dr hf L (P ++ [x]) x hP' hL' (by simp) fun h hh ne => by
        rcases List.mem_append.mp hh with q | q
        · by_cases hgh : h = g
          · rw [hgh]; exact hc
          · exact cyc_trans zo (nzw x (hL x List.mem_cons_self)) (nzw g (hP g hg)) (nzw h (hP h q)) (ao x (hL x List.mem_cons_self)) (ao g (hP g hg)) hc (k h q hgh)
        · exact absurd (List.mem_singleton.mp q) ne
      exact ⟨g', e1, by simpa using e2, fun h hh => e3 h (by simpa using hh)⟩
    · have e : stepB ws f (g, some (uface ws g).2) x = (g, some (uface ws g).2) := by
        show (if cyc (bk ws f) (wy ws (uface ws f).2 x) (wy ws (uface ws f).2 g) then _ else _) = _
        rw [if_neg hc]
      rw [e]
      obtain ⟨g', e1, e2, e3⟩ := fold_min dr hf L (P ++ [x]) g hP' hL' (by simp [hg]) fun h hh ne => by
        rcases List.mem_append.mp hh with q | q
        · exact k h q ne
        · have ex := List.mem_singleton.mp q
          subst ex
          exact (cyc_total zo (nzw g (hP g hg)) (nzw h (hL h List.mem_cons_self)) (ao g (hP g hg)) (ao h (hL h List.mem_cons_self)) (wy_apart dr wg.1 wx.1 wg.2.1 wx.2.1 (Ne.symm ne))).resolve_right hc
      exact ⟨g', e1, by simpa using e2, fun h hh => e3 h (by simpa using hh)⟩
theorem behind_spec (dr : Drawn m z ws) {f : Nat} (hf : f < 2 * ws.length) : (waysB ws f = [] ∧ behindU ws f = opp f) ∨ (behindU ws f ∈ waysB ws f ∧ ∀ h ∈ waysB ws f, h ≠ behindU ws f → cyc (bk ws f) (wy ws (uface ws f).2 (behindU ws f)) (wy ws (uface ws f).2 h)) := by
  unfold behindU
  cases e : waysB ws f with
  | nil => exact .inl ⟨rfl, rfl⟩
  | cons x L =>
    right
    have hw : ∀ h ∈ x :: L, h ∈ waysB ws f := fun h hh => by rw [e]; exact hh
    obtain ⟨g', e1, e2, e3⟩ := fold_min dr hf L [x] x (fun h hh => hw h (by rw [List.mem_singleton.mp hh]; simp)) (fun h hh => hw h (List.mem_cons_of_mem _ hh)) (by simp) fun h hh ne => absurd (List.mem_singleton.mp hh) ne
    rw [List.foldl_cons]
    have : stepB ws f (opp f, none) x = (x, some (uface ws x).2) := rfl
    rw [this, e1]
    exact ⟨by simpa using e2, fun h hh => e3 h (by simpa using hh)⟩
theorem behind_lt (dr : Drawn m z ws) {f : Nat} (hf : f < 2 * ws.length) : behindU ws f < 2 * ws.length ∧ (uface ws (behindU ws f)).1 = (uface ws f).2 := by
  rcases behind_spec dr hf with ⟨_, e⟩ | ⟨h, _⟩
  · rw [e, uface_opp]; exact ⟨opp_lt hf, rfl⟩
  · exact ⟨(mem_ways.mp h).1, (mem_ways.mp h).2.1⟩
theorem behind_inj (dr : Drawn m z ws) {f g : Nat} (hf : f < 2 * ws.length) (hg : g < 2 * ws.length) (h : behindU ws f = behindU ws g) : f = g := by
  obtain ⟨bl, bf⟩ := behind_lt dr hf
  obtain ⟨_, bg⟩ := behind_lt dr hg
  rw [← h] at bg
  have ev : (uface ws f).2 = (uface ws g).2 := bf.symm.trans bg
  by_cases e : f = g
  · exact e
  exfalso
  have ne : opp f ≠ opp g := fun z => e (opp_inj z)
  have of : opp f ∈ waysB ws g := mem_ways.mpr ⟨opp_lt hf, by rw [uface_opp]; exact ev, ne⟩
  have og : opp g ∈ waysB ws f := mem_ways.mpr ⟨opp_lt hg, by rw [uface_opp]; exact ev.symm, Ne.symm ne⟩
  rcases behind_spec dr hf with ⟨e1, _⟩ | ⟨h1, k1⟩
  · rw [e1] at og; cases og
  rcases behind_spec dr hg with ⟨e2, _⟩ | ⟨h2, k2⟩
  · rw [e2] at of; cases of
  have n1 := (mem_ways.mp h1).2.2
  have n2 := (mem_ways.mp h2).2.2
  have c1 := k1 (opp g) og (fun z => n2 (h.symm.trans z.symm))
  have c2 := k2 (opp f) of (fun z => n1 (h.trans z.symm))
  rw [← h, ← ev] at c2
  rw [bk_wy] at c1 c2
  rw [← ev] at c2
  exact cyc_inj (wy_nz dr (opp_lt hf) (f := f) (by rw [uface_opp])) (wy_nz dr (opp_lt hg) (f := f) (by rw [uface_opp]; exact ev.symm)) (wy_nz dr bl bf) (wy_apart dr (opp_lt hf) (opp_lt hg) (by rw [uface_opp]) (by rw [uface_opp]; exact ev.symm) ne) c1 c2
/-! ### rings -/
theorem nodup_len : ∀ (N : Nat) (L : List Nat), L.Nodup → (∀ g ∈ L, g < N) → L.length ≤ N
  | 0, L, _, h => by
    cases L with
    | nil => simp
    | cons a L => exact absurd (h a List.mem_cons_self) (by omega)
  | N + 1, L, nd, h => by
    have h2 := nodup_len N (L.erase N) (nd.erase N) fun g hg => by
      have := (List.Nodup.mem_erase_iff nd).mp hg
      have := h g this.2
      have : g ≠ N := ((List.Nodup.mem_erase_iff nd).mp hg).1
      omega
    rw [List.length_erase] at h2
    split at h2 <;> omega
/-- a row of faces gone along from one on -/
structure Row (ws : List UW) (f : Nat) (L : List Nat) : Prop where
  hd : L.head? = some f
  lt : ∀ g ∈ L, g < 2 * ws.length
  nx : ∀ i g h, L[i]? = some g → L[i + 1]? = some h → h = behindU ws g
  nd : L.Nodup
theorem Row.one (ws : List UW) {f : Nat} (hf : f < 2 * ws.length) : Row ws f [f] := ⟨rfl, fun g hg => by rw [List.mem_singleton.mp hg]; exact hf, fun i g h e1 e2 => by simp at e2, by simp⟩
theorem Row.len {f : Nat} {L : List Nat} (r : Row ws f L) : L.length ≤ 2 * ws.length := by
  exact nodup_len _ L r.nd r.lt
theorem Row.step (dr : Drawn m z ws) {f g : Nat} {L : List Nat} (r : Row ws f L) (hl : L.getLast? = some g) (n : behindU ws g ≠ f) : Row ws f (L ++ [behindU ws g]) := by
  have hg := r.lt g (List.mem_of_getLast? hl)
  have el : L[L.length - 1]? = some g := by rw [← List.getLast?_eq_getElem?]; exact hl
  have l0 : 0 < L.length := by
    cases L with
    | nil => cases hl
    | cons _ _ => simp
  refine ⟨?_, fun x hx => ?_, fun i x y e1 e2 => ?_, ?_⟩
  · have := r.hd
    cases L with
    | nil => cases this
    | cons a L => exact this
  · rcases List.mem_append.mp hx with h | h
    · exact r.lt x h
    · rw [List.mem_singleton.mp h]; exact (behind_lt dr hg).1
  · have hi : i + 1 < (L ++ [behindU ws g]).length := (List.getElem?_eq_some_iff.mp e2).1
    rw [List.length_append, List.length_singleton] at hi
    rw [List.getElem?_append_left (by omega)] at e1
    by_cases h : i + 1 < L.length
    · rw [List.getElem?_append_left h] at e2
      exact r.nx i x y e1 e2
    · have ei : i = L.length - 1 := by omega
      rw [List.getElem?_append_right (by omega), show i + 1 - L.length = 0 by omega] at e2
      rw [ei, el] at e1
      cases e1; cases e2; rfl
  · rw [List.nodup_append]
    refine ⟨r.nd, by simp, fun x hx y hy e => ?_⟩
    rw [List.mem_singleton.mp hy] at e
    obtain ⟨j, hj, ej⟩ := List.getElem_of_mem hx
    cases j with
    | zero =>
      have h0 := r.hd
      rw [List.head?_eq_getElem?, List.getElem?_eq_getElem hj, ej] at h0
      exact n (by rw [← e]; exact Option.some.inj h0)
    | succ j =>
      have e1 : L[j]? = some L[j] := List.getElem?_eq_getElem (by omega)
      have e2 := r.nx j L[j] x e1 (by rw [List.getElem?_eq_getElem hj, ej])
      have e3 := behind_inj dr (r.lt _ (List.getElem_mem _)) hg (by rw [← e2]; exact e)
      have e4 : L[j] = L[L.length - 1] := by
        rw [List.getElem?_eq_getElem (by omega)] at el
        rw [e3]; exact (Option.some.inj el).symm
      have := List.pairwise_iff_getElem.mp r.nd j (L.length - 1) (by omega) (by omega) (by omega)
      exact this e4
/-- a ring: a row whose last face leads on to the first -/
structure Ring (ws : List UW) (L : List Nat) : Prop where
  ne : L ≠ []
  lt : ∀ g ∈ L, g < 2 * ws.length
  cl : ∀ i g h, L[i]? = some g → L[(i + 1) % L.length]? = some h → (uface ws h).1 = (uface ws g).2
theorem Row.ring (dr : Drawn m z ws) {f g : Nat} {L : List Nat} (r : Row ws f L) (hl : L.getLast? = some g) (e : behindU ws g = f) : Ring ws L := by
  have l0 : 0 < L.length := by
    cases L with
    | nil => cases hl
    | cons _ _ => simp
  refine ⟨fun z => by rw [z] at l0; simp at l0, r.lt, fun i x y e1 e2 => ?_⟩
  have hi := (List.getElem?_eq_some_iff.mp e1).1
  have hx := r.lt x (List.mem_of_getElem? e1)
  have ey : y = behindU ws x := by
    by_cases h : i + 1 < L.length
    · rw [Nat.mod_eq_of_lt h] at e2
      exact r.nx i x y e1 e2
    · have ei : i = L.length - 1 := by omega
      rw [show i + 1 = L.length by omega, Nat.mod_self, ← List.head?_eq_getElem?, r.hd] at e2
      rw [ei, ← List.getLast?_eq_getElem?, hl] at e1
      cases e1; cases e2; exact e.symm
  rw [ey]
  exact (behind_lt dr hx).2
end
/-- a row that is all of a ring -/
def Full (ws : List UW) (f : Nat) (L : List Nat) : Prop := Row ws f L ∧ ∃ g, L.getLast? = some g ∧ behindU ws g = f
theorem row_pre {ws : List UW} {f : Nat} {L M : List Nat} (a : Row ws f L) (b : Row ws f M) : ∀ (i x y : Nat), L[i]? = some x → M[i]? = some y → x = y
  | 0, x, y, h1, h2 => by
    have e1 := a.hd; have e2 := b.hd
    rw [List.head?_eq_getElem?] at e1 e2
    rw [e1] at h1; rw [e2] at h2
    cases h1; cases h2; rfl
  | i + 1, x, y, h1, h2 => by
    have l1 : i < L.length := by have := (List.getElem?_eq_some_iff.mp h1).1; omega
    have l2 : i < M.length := by have := (List.getElem?_eq_some_iff.mp h2).1; omega
    have e1 : L[i]? = some L[i] := List.getElem?_eq_getElem l1
    have e2 : M[i]? = some M[i] := List.getElem?_eq_getElem l2
    have e := row_pre a b i _ _ e1 e2
    rw [a.nx i _ _ e1 h1, b.nx i _ _ e2 h2, e]
theorem full_le {ws : List UW} {f : Nat} {L M : List Nat} (a : Full ws f L) (b : Full ws f M) : M.length ≤ L.length := by
  rcases Nat.lt_or_ge L.length M.length with h | h
  · exfalso
    obtain ⟨ra, g, hg, e⟩ := a
    have l0 : 0 < L.length := by
      cases L with
      | nil => cases hg
      | cons _ _ => simp
    rw [List.getLast?_eq_getElem?] at hg
    have h1 : M[L.length - 1]? = some M[L.length - 1] := List.getElem?_eq_getElem (by omega)
    have h2 : M[L.length - 1 + 1]? = some M[L.length - 1 + 1] := List.getElem?_eq_getElem (by omega)
    have e1 := row_pre ra b.1 _ _ _ hg h1
    have e2 := b.1.nx _ _ _ h1 h2
    rw [← e1, e] at e2
    have h0 := b.1.hd
    rw [List.head?_eq_getElem?, List.getElem?_eq_getElem (by omega)] at h0
    have := List.pairwise_iff_getElem.mp b.1.nd 0 (L.length - 1 + 1) (by omega) (by omega) (by omega)
    exact this ((Option.some.inj h0).trans e2.symm)
  · exact h
theorem full_unique {ws : List UW} {f : Nat} {L M : List Nat} (a : Full ws f L) (b : Full ws f M) : L = M := by
  have h1 := full_le a b
  have h2 := full_le b a
  refine List.ext_getElem? fun i => ?_
  by_cases h : i < L.length
  · have e1 : L[i]? = some L[i] := List.getElem?_eq_getElem h
    have e2 : M[i]? = some M[i] := List.getElem?_eq_getElem (by omega)
    rw [e1, e2, row_pre a.1 b.1 i _ _ e1 e2]
  · rw [List.getElem?_eq_none (by omega), List.getElem?_eq_none (by omega)]
/-- the rings of the faces below a number, in the order of their least faces -/
inductive Rgs (ws : List UW) : Nat → List (List Nat) → Prop
  | zero : Rgs ws 0 []
  | old {i : Nat} {rs : List (List Nat)} : Rgs ws i rs → i ∈ rs.flatten → Rgs ws (i + 1) rs
  | new {i : Nat} {rs : List (List Nat)} {L : List Nat} : Rgs ws i rs → i ∉ rs.flatten → Full ws i L → Rgs ws (i + 1) (rs ++ [L])
theorem Rgs.unique {ws : List UW} : ∀ {i : Nat} {rs ts : List (List Nat)}, Rgs ws i rs → Rgs ws i ts → rs = ts
  | _, _, _, .zero, .zero => rfl
  | _, _, _, .old a h, .old b k => Rgs.unique a b
  | _, _, _, .old a h, .new b k f => by have := Rgs.unique a b; subst this; exact absurd h k
  | _, _, _, .new a h f, .old b k => by have := Rgs.unique a b; subst this; exact absurd k h
  | _, _, _, .new a h f, .new b k g => by have := Rgs.unique a b; subst this; rw [full_unique f g]
/-! ### areas -/
def twiceU (ws : List UW) (L : List Nat) : Int := (L.map fun f => icr (uface ws f).1 (uface ws f).2).sum
def wface (ws : List Wl) (f : Nat) : Wl := if f % 2 = 1 then ((wlAt ws (f / 2)).2, (wlAt ws (f / 2)).1) else wlAt ws (f / 2)
def areaW (ws : List Wl) (L : List Nat) : Rat := (L.map fun f => crs (wface ws f).1 (wface ws f).2).sum
theorem areaW_snoc (ws : List Wl) (L : List Nat) (f : Nat) : areaW ws (L ++ [f]) = areaW ws L + crs (wface ws f).1 (wface ws f).2 := by
  unfold areaW
  rw [List.map_append, List.sum_append]
  simp
  grind
/-! ### promises -/
def sp_uends : MSp := fun ds S Q _ => ∃ (d : D) (ws : List UW) (f : Nat), ds = [d, .int f] ∧ LstK S d (ws.map uwD) ∧ f < 2 * ws.length ∧ f < 1000 ∧ Q (uwD (uface ws f)) S
def sp_usooner : MSp := fun ds S Q _ => ∃ (v b x y : U2), ds = [uwD (v, b), uD x, uD y] ∧ UOk (2 ^ 20) v ∧ UOk (2 ^ 20) b ∧ UOk (2 ^ 20) x ∧ UOk (2 ^ 20) y ∧ ∀ S', Ext0 S S' → Q (.bl (decide (cyc (usb b v) (usb x v) (usb y v)))) S'
def sp_ubehind : MSp := fun ds S Q _ => ∃ (d : D) (m : Nat) (z : Int) (ws : List UW) (f : Nat), ds = [d, .int f] ∧ LstK S d (ws.map uwD) ∧ Drawn m z ws ∧ m ≤ 100 ∧ z ≤ 500 ∧ f < 2 * ws.length ∧ ∀ S', Ext0 S S' → Q (.int (behindU ws f : Nat)) S'
def sp_urings : MSp := fun ds S Q _ => ∃ (d : D) (m : Nat) (z : Int) (ws : List UW), ds = [d] ∧ LstK S d (ws.map uwD) ∧ Drawn m z ws ∧ m ≤ 100 ∧ z ≤ 500 ∧
  ∀ (q : Addr) (rs : List (Addr × List Nat)) (S' : Sto), Ext0 S S' → S' q = some (.lst (rs.map fun p => .ref p.1)) → rs.length ≤ 2 * ws.length → (∀ p ∈ rs, S' p.1 = some (.lst (p.2.map nD)) ∧ Ring ws p.2 ∧ p.2.length ≤ 2 * ws.length) → Rgs ws (2 * ws.length) (rs.map (·.2)) → Q (.ref q) S'
def sp_utwice : MSp := fun ds S Q _ => ∃ (d r : D) (ws : List UW) (L : List Nat), ds = [d, r] ∧ LstK S d (ws.map uwD) ∧ LstK S r (L.map nD) ∧ (∀ f ∈ L, f < 2 * ws.length) ∧ ws.length ≤ 100 ∧ L.length ≤ 1000 ∧ (∀ w ∈ ws, WOk (2 ^ 20) w) ∧ ∀ S', Ext0 S S' → Q (.int (twiceU ws L)) S'
def sp_ends_of_face : MSp := fun ds S Q _ => ∃ (ws : List Wl) (f : Nat), ds = [.tup (ws.map wlD), .int f] ∧ f < 2 * ws.length ∧ f < 1000 ∧ Q (wlD (wface ws f)) S
def sp_ring_area : MSp := fun ds S Q _ => ∃ (ws : List Wl) (r : D) (L : List Nat), ds = [.tup (ws.map wlD), r] ∧ LstK S r (L.map nD) ∧ (∀ f ∈ L, f < 2 * ws.length) ∧ ws.length ≤ 100 ∧ L.length ≤ 1000 ∧ (∀ v ∈ ws, BW v 200) ∧ (∀ k, sz (areaW ws (L.take k)) ≤ 300) ∧ Q (fr (areaW ws L * (1 / 2))) S
/-! ### lists of numbers compared -/
theorem deq_n (a b : Nat) : D.deq (nD a) (nD b) = decide (a = b) := by unfold nD; rw [deq_int, decide_eq_decide]; omega
theorem deq_ln {as bs : List Nat} : D.deq (.lst (as.map nD)) (.lst (bs.map nD)) = decide (as = bs) := by rw [D.deq]; exact deqs_map deq_n as bs
theorem eqOk_ln {as bs : List Nat} : eqOk (.lst (as.map nD)) (.lst (bs.map nD)) = true := eqOk_lm (f := nD) (g := nD) plain_n plain_n (fun _ => Nat.zero_le _) (fun _ => Nat.zero_le _) as bs
end FL

set_option maxRecDepth 100000
namespace FL
open PySem PySem.Spec L2 ML
def b_ends_of_face : MS := (mSeq (mAsg (mOp rIxM (mVar 0) (mOp rDiv (mVar 1) (mC (.int 2)))) (gTp 2 (gCn (gNm 2) (gCn (gNm 3) gNl))))
  (mSeq (mIfS (mTst (mOp rEqM (mOp rMod (mVar 1) (mC (.int 2))) (mC (.int 1)))) (mRet (mTup (mCons (mVar 3) (mCons (mVar 2) mNil)))) mNext)
  (mRet (mTup (mCons (mVar 2) (mCons (mVar 3) mNil))))))
def b_uends : MS := (mRet (mOp rIxM (mLstF (mCons (mOp rIxM (mVar 0) (mOp rDiv (mVar 1) (mC (.int 2)))) (mCons (mRev2 (mOp rIxM (mVar 0) (mOp rDiv (mVar 1) (mC (.int 2))))) mNil))) (mOp rMod (mVar 1) (mC (.int 2)))))
def b_ring_area : MS := (mSeq (mSet 2 (mTup (mCons (mC (.int 0)) (mCons (mC (.int 1)) mNil))))
  (mSeq (mFor (iS (mVar 1)) (gNm 3) (mSeq (mAsg (mCall FL.sp_ends_of_face (mCons (mVar 0) (mCons (mVar 3) mNil))) (gTp 2 (gCn (gNm 4) (gCn (gNm 5) gNl))))
  (mSet 2 (mCall FL.sp_plus (mCons (mVar 2) (mCons (mCall FL.sp_less (mCons (mCall FL.sp_times (mCons (mOp rIxM (mVar 4) (mC (.int 0))) (mCons (mOp rIxM (mVar 5) (mC (.int 1))) mNil))) (mCons (mCall FL.sp_times (mCons (mOp rIxM (mVar 5) (mC (.int 0))) (mCons (mOp rIxM (mVar 4) (mC (.int 1))) mNil))) mNil))) mNil))))))
  (mRet (mCall FL.sp_times (mCons (mVar 2) (mCons (mTup (mCons (mC (.int 1)) (mCons (mC (.int 2)) mNil))) mNil))))))
def b_usooner : MS := (mSeq (mSet 3 (mOp rIxM (mVar 0) (mC (.int 0))))
  (mSeq (mSet 4 (mComp (iS (mTup (mCons (mVar 1) (mCons (mVar 2) mNil)))) (gNm 5) mYes (mOp rAdd (mC (.int 1)) (mCall FL.sp_turn (mCons (mVar 3) (mCons (mOp rIxM (mVar 0) (mC (.int 1))) (mCons (mVar 5) mNil))))) [5]))
  (mSeq (mIfS (mTst (mOp rNeM (mOp rIxM (mVar 4) (mC (.int 0))) (mOp rIxM (mVar 4) (mC (.int 1))))) (mRet (mOp aLt (mOp rIxM (mVar 4) (mC (.int 0))) (mOp rIxM (mVar 4) (mC (.int 1))))) mNext)
  (mRet (mOp aLt (mCall FL.sp_turn (mCons (mVar 3) (mCons (mVar 1) (mCons (mVar 2) mNil)))) (mC (.int 0)))))))
def b_utwice : MS := (mSeq (mSet 2 (mComp (iS (mVar 1)) (gNm 3) mYes (mCall FL.sp_uends (mCons (mVar 0) (mCons (mVar 3) mNil))) [3]))
  (mRet (mBlt bSum (mCons (mCompF (iS (mVar 2)) (gTp 2 (gCn (gNm 4) (gCn (gNm 5) gNl))) mYes (mOp rSub (mOp rMul (mOp rIxM (mVar 4) (mC (.int 0))) (mOp rIxM (mVar 5) (mC (.int 1)))) (mOp rMul (mOp rIxM (mVar 5) (mC (.int 0))) (mOp rIxM (mVar 4) (mC (.int 1))))) [4, 5]) mNil))))
def b_ubehind : MS := (mSeq (mAsg (mCall FL.sp_uends (mCons (mVar 0) (mCons (mVar 1) mNil))) (gTp 2 (gCn (gNm 2) (gCn (gNm 3) gNl))))
  (mSeq (mSet 4 (mOp rSub (mOp rAdd (mVar 1) (mC (.int 1))) (mOp rMul (mC (.int 2)) (mOp rMod (mVar 1) (mC (.int 2))))))
  (mSeq (mSet 5 (mComp (iR1 (mCons (mOp rMul (mC (.int 2)) (mBlt bLen (mCons (mVar 0) mNil))) mNil)) (gNm 6) (mAnd (mTst (mOp rEqM (mOp rIxM (mCall FL.sp_uends (mCons (mVar 0) (mCons (mVar 6) mNil))) (mC (.int 0))) (mVar 3))) (mTst (mOp rNeM (mVar 6) (mVar 4)))) (mVar 6) [6]))
  (mSeq (mSet 7 (mC .non))
  (mSeq (mFor (iS (mVar 5)) (gNm 6) (mSeq (mSet 8 (mOp rIxM (mCall FL.sp_uends (mCons (mVar 0) (mCons (mVar 6) mNil))) (mC (.int 1))))
  (mIfS (mOr (mTst (mOp rIsN (mVar 7) (mC .non))) (mTru (mCall FL.sp_usooner (mCons (mTup (mCons (mVar 3) (mCons (mVar 2) mNil))) (mCons (mVar 8) (mCons (mVar 7) mNil)))))) (mSeq (mSet 7 (mVar 8))
  (mSet 4 (mVar 6))) mNext)))
  (mRet (mVar 4)))))))
def b_urings : MS := (mSeq (mSet 1 (mLst mNil))
  (mSeq (mSet 2 (mLstF mNil))
  (mSeq (mFor (iR1 (mCons (mOp rMul (mC (.int 2)) (mBlt bLen (mCons (mVar 0) mNil))) mNil)) (gNm 3) (mIfS (mTst (mOp (rInM true) (mVar 3) (mVar 2))) (mSeq (mSet 4 (mLst (mCons (mVar 3) mNil)))
  (mSeq (mWhile (mTst (mOp rNeM (mCall FL.sp_ubehind (mCons (mVar 0) (mCons (mOp rIxM (mVar 4) (mUn rNeg (mC (.int 1)))) mNil))) (mVar 3))) (mExpr (mMt mtAppend (mVar 4) (mCons (mCall FL.sp_ubehind (mCons (mVar 0) (mCons (mOp rIxM (mVar 4) (mUn rNeg (mC (.int 1)))) mNil))) mNil))))
  (mSeq (mExpr (mMt mtAppend (mVar 1) (mCons (mVar 4) mNil)))
  (mSet 2 (mOp rAdd (mVar 2) (mVar 4)))))) mNext))
  (mRet (mVar 1)))))
end FL

-- FLQ   
set_option maxRecDepth 100000
set_option maxHeartbeats 4000000
namespace FL
open PySem PySem.Spec L2 ML
local macro_rules | `(tactic| simp $c:optConfig $[$d:discharger]? only [gv] $[$l:location]?) => `(tactic| simp $c $[$d]? only [↓ML.q_mSeq, ↓ML.q_mC, ↓ML.q_mOp, ↓ML.q_mUn, ↓ML.q_mTst, ↓ML.q_mNot, ↓ML.q_mNotV, ↓ML.q_mRet, ↓ML.q_mRetN, ↓ML.q_mExpr, ↓ML.q_mNext, ↓ML.q_mBreak, ↓ML.q_mCont, ↓ML.q_mAsg, ↓ML.q_gSb, ↓ML.q_mTup, ↓ML.q_mLst, ↓ML.q_mLstF, ↓ML.q_mCons, ↓ML.q_mNil, ↓ML.q_mBlt, ↓ML.q_rEqM, ↓ML.q_rNeM, ↓ML.q_iR1, ↓ML.q_iR2, ↓ML.q_iEn, ↓ML.q_iZp, ↓ML.q_mMt, ↓ML.q_mMt0, ↓ML.q_mYes, ↓ML.q_mCut, ↓ML.q_oNo, ↓ML.q_oSo, ↓ML.l_mCall, ↓ML.l_mAnd, ↓ML.l_mOr, ↓ML.l_mAndV, ↓ML.l_mOrV, ↓ML.l_mIf, ↓ML.l_mIfS, ↓ML.l_mChain, ↓ML.l_mVar, ↓ML.l_mFor, ↓ML.l_mWhile, ↓ML.l_mComp, ↓ML.l_mCompF, ↓ML.l_optP, ↓ML.l_Go, ↓ML.Hold_v, ↓ML.l_mSet, ↓ML.l_gNm, ↓ML.l_mPar, ↓ML.l_rIxM, ↓ML.l_rSetM, ↓ML.l_rInt, ↓ML.l_rInt0, ↓ML.l_rAdd_int, ↓ML.l_rAdd_str, ↓ML.l_rAdd_tup, ↓ML.l_rNeg, ↓ML.l_rIsN, ↓ML.l_rNotN, ↓ML.l_rIsBM, ↓ML.l_mTru, ↓ML.l_bLen, ↓ML.l_bAbs, ↓ML.l_bMax2, ↓ML.l_bMin2, ↓ML.l_bInt_i, ↓ML.l_bInt_b, ↓ML.l_bTuple, ↓ML.l_bListF, ↓ML.l_bList, ↓ML.l_mIsi, ↓ML.l_iL, ↓ML.l_iT, ↓ML.l_gTp, ↓ML.l_gLs, ↓ML.l_gCn, ↓ML.l_gNl, ↓ML.l_mtAppend, ML.Hold_v, ML.l_mVar_z, ML.l_mVar_s, ML.OptP_some, ML.Go_eq, ML.IteP_true, ML.IteP_false, ML.lstOf_ref', ML.lstOf_lst, ML.lstOf_scr, ML.lstOf_tup, ML.ownOf_ref', ML.ownOf_lst, ML.seqOf_tup', ML.seqOf_lst', ML.seqOf_scr', ML.seqOf_ref', ML.olP_lst, ML.tupOf_tup, ML.ixL_lit, ML.ixL_cast, ML.ixL_m1, ML.setAt_lit, ML.setAt_cast, ML.truD_bl, ML.truD_int, ML.truD_tup, ML.truD_lst, ML.truD_scr, ML.truD_non, ML.lenD_tup, ML.lenD_lst, ML.lenD_scr, ML.lenD_ref, ML.tyD_non, ML.tyD_bl, ML.tyD_int, ML.tyD_str, ML.tyD_tup, ML.tyD_lst, ML.szl, ML.szlt, ML.cpow_lit, ML.mulok_rl, ML.mulok_ll, ML.divok_l, ML.put_same, ML.put_put, ML.q_wipeM, ML.deq_int, ML.deq_bl, ML.deq_str, ML.deq_non, ML.eqOk_int, ML.eqOk_bl, ML.isTy_NoneType_int, ML.isTy_NoneType_bool, ML.isTy_NoneType_tuple, ML.isTy_NoneType_list, ML.isTy_NoneType_str, ML.isTy_bool_int, ML.isTy_bool_bool, ML.isTy_bool_tuple, ML.isTy_bool_list, ML.isTy_bool_str, ML.isTy_int_int, ML.isTy_int_bool, ML.isTy_int_tuple, ML.isTy_int_list, ML.isTy_int_str, ML.isTy_str_int, ML.isTy_str_bool, ML.isTy_str_tuple, ML.isTy_str_list, ML.isTy_str_str, ML.isTy_tuple_int, ML.isTy_tuple_bool, ML.isTy_tuple_tuple, ML.isTy_tuple_list, ML.isTy_tuple_str, ML.isTy_list_int, ML.isTy_list_bool, ML.isTy_list_tuple, ML.isTy_list_list, ML.isTy_list_str, ML.isTy_dict_int, ML.isTy_dict_bool, ML.isTy_dict_tuple, ML.isTy_dict_list, ML.isTy_dict_str, FL.tup_fr, FL.tup_sp, FL.tup_wl, FL.tupOf_fr, FL.tupOf_sp, FL.tupOf_wl, FL.nz0, FL.nz1, FL.nz2, FL.nz3, FL.look_non, FL.look_int, FL.look_bl, FL.look_str, FL.look_tup, FL.look_lst, FL.look_scr, FL.seqOf_fr, FL.seqOf_sp, FL.seqOf_wl, FL.look_fr, FL.look_sp, FL.look_wl, FL.eqOk_fr, FL.eqOk_sp, FL.eqOk_wl, FL.deq_fr, FL.deq_sp, FL.deq_wl, FL.tyD_fr, FL.tyD_sp, FL.tyD_wl, FL.isN_fr, FL.isN_sp, FL.isN_wl, FL.lenD_sp, FL.lenD_wl, FL.rAdd_wl_tup, List.length_map, List.map_cons, List.map_nil, List.replicate, List.set_cons_zero, List.set_cons_succ, List.getElem?_cons_zero, List.getElem?_cons_succ, List.cons_append, List.nil_append, List.length_cons, List.length_nil, Option.bind_some, Option.map_some, ↓reduceIte, Nat.reduceAdd, Nat.reduceSub, Nat.reduceLT, Nat.reduceLeDiff, Nat.zero_add, decide_eq_true_eq, Bool.not_eq_true, ne_eq, reduceCtorEq, not_false_eq_true, true_and, and_true, Bool.false_eq_true, Bool.not_true, Bool.not_false, decide_true, decide_false, not_true_eq_false, eq_self, Bool.not_eq_eq_eq_not, if_true, if_false, decide_eq_false_iff_not, ML.ncast, Int.reduceToNat, Int.reducePow, Int.reduceAdd, Int.reduceSub, Int.reduceMul, Int.reduceNeg, Int.reduceLT, Int.reduceLE, Int.reduceEq, Nat.reduceEqDiff, Int.zero_add, gt_iff_lt, beq_self_eq_true, Bool.true_beq, Bool.false_beq, Bool.and_true, Bool.and_false, Bool.true_and, Bool.false_and, ↓ML.l_mtInsert, ↓ML.l_mtReverse, ↓ML.l_mtClear, ↓ML.l_bSortU, ↓ML.q_mMt0, ↓ML.l_bMaxL, ↓ML.l_bMinL, ↓ML.l_aLt_int, ↓ML.l_aLt_u, ↓ML.l_aGt_int, ↓ML.l_aGt_u, ↓ML.l_aLe_int, ↓ML.l_aLe_u, ↓ML.l_aGe_int, ↓ML.l_aGe_u, ↓ML.l_bMaxA_int, ↓ML.l_bMaxA_u, ↓ML.l_bMinA_int, ↓ML.l_bMinA_u, ML.tup_u, ML.tupOf_u, ML.seqOf_u, ML.sqI_u, ML.look_u, ML.isN_u, ML.lenD_u, ML.tyD_u, ML.tup_uw, ML.tupOf_uw, ML.seqOf_uw, ML.sqI_uw, ML.look_uw, ML.isN_uw, ML.lenD_uw, ML.tyD_uw, ML.eqOk_u, ML.eqOk_uw, ML.deq_u, ML.deq_uw, ML.in_uw, ↓ML.l_mRaise, ↓ML.l_mTry, ↓ML.l_mIsE, ↓ML.l_mIsV, ↓ML.l_mtCount, ↓ML.l_rAddS_rl, ↓ML.l_rAddS_ll, ML.excD_ref, ML.excOf_exc, ML.blsOf_nil, ML.blsOf_cons, ML.endM_nx, ML.endM_rt, ↓ML.l_mYes, ↓ML.l_iS, ↓ML.l_mIfJ, ↓ML.l_mJ, ↓ML.CrollP_nil, ↓ML.CrollP_cons, ↓ML.CrA_at, ↓ML.FrollP_nil, ↓ML.FrollP_cons, ML.isN_non, ML.isN_int, ML.isN_bl, ML.isN_str, ML.isN_tup, ML.isN_lst, ML.isN_ref, ML.sqI_tup, ML.sqI_lst, ML.sqI_scr, ML.sqI_ref, ML.sqI_at, ML.rngD_0, ML.rngD_1, ML.rngD_2, ML.rngD_3, ML.rngD_4, ML.rngD_6, ML.q_wipeM_nil, ML.q_wipeM_cons, FL.sqI_sp, FL.sqI_wl, FL.l_rAdd_rl, FL.l_rAdd_ll, FL.l_rAdd_lr, FL.l_rAdd_rr, FL.in_ints, FL.in_lu, ↓ML.l_mListR, ↓ML.l_mDIn, ↓ML.l_mDPut, ↓ML.l_mDNew, ML.dtD_ref, ML.dtO_dT, ML.keysD_nil, ML.keysD_int, ↓ML.l_mRev2, ↓ML.l_bSum, ↓ML.l_iEnT, ↓ML.l_mSortSet] $[$l]?)
local macro_rules | `(tactic| simp $c:optConfig $[$d:discharger]? only [gv, $ls,*] $[$l:location]?) => `(tactic| simp $c $[$d]? only [↓ML.q_mSeq, ↓ML.q_mC, ↓ML.q_mOp, ↓ML.q_mUn, ↓ML.q_mTst, ↓ML.q_mNot, ↓ML.q_mNotV, ↓ML.q_mRet, ↓ML.q_mRetN, ↓ML.q_mExpr, ↓ML.q_mNext, ↓ML.q_mBreak, ↓ML.q_mCont, ↓ML.q_mAsg, ↓ML.q_gSb, ↓ML.q_mTup, ↓ML.q_mLst, ↓ML.q_mLstF, ↓ML.q_mCons, ↓ML.q_mNil, ↓ML.q_mBlt, ↓ML.q_rEqM, ↓ML.q_rNeM, ↓ML.q_iR1, ↓ML.q_iR2, ↓ML.q_iEn, ↓ML.q_iZp, ↓ML.q_mMt, ↓ML.q_mMt0, ↓ML.q_mYes, ↓ML.q_mCut, ↓ML.q_oNo, ↓ML.q_oSo, ↓ML.l_mCall, ↓ML.l_mAnd, ↓ML.l_mOr, ↓ML.l_mAndV, ↓ML.l_mOrV, ↓ML.l_mIf, ↓ML.l_mIfS, ↓ML.l_mChain, ↓ML.l_mVar, ↓ML.l_mFor, ↓ML.l_mWhile, ↓ML.l_mComp, ↓ML.l_mCompF, ↓ML.l_optP, ↓ML.l_Go, ↓ML.Hold_v, ↓ML.l_mSet, ↓ML.l_gNm, ↓ML.l_mPar, ↓ML.l_rIxM, ↓ML.l_rSetM, ↓ML.l_rInt, ↓ML.l_rInt0, ↓ML.l_rAdd_int, ↓ML.l_rAdd_str, ↓ML.l_rAdd_tup, ↓ML.l_rNeg, ↓ML.l_rIsN, ↓ML.l_rNotN, ↓ML.l_rIsBM, ↓ML.l_mTru, ↓ML.l_bLen, ↓ML.l_bAbs, ↓ML.l_bMax2, ↓ML.l_bMin2, ↓ML.l_bInt_i, ↓ML.l_bInt_b, ↓ML.l_bTuple, ↓ML.l_bListF, ↓ML.l_bList, ↓ML.l_mIsi, ↓ML.l_iL, ↓ML.l_iT, ↓ML.l_gTp, ↓ML.l_gLs, ↓ML.l_gCn, ↓ML.l_gNl, ↓ML.l_mtAppend, ML.Hold_v, ML.l_mVar_z, ML.l_mVar_s, ML.OptP_some, ML.Go_eq, ML.IteP_true, ML.IteP_false, ML.lstOf_ref', ML.lstOf_lst, ML.lstOf_scr, ML.lstOf_tup, ML.ownOf_ref', ML.ownOf_lst, ML.seqOf_tup', ML.seqOf_lst', ML.seqOf_scr', ML.seqOf_ref', ML.olP_lst, ML.tupOf_tup, ML.ixL_lit, ML.ixL_cast, ML.ixL_m1, ML.setAt_lit, ML.setAt_cast, ML.truD_bl, ML.truD_int, ML.truD_tup, ML.truD_lst, ML.truD_scr, ML.truD_non, ML.lenD_tup, ML.lenD_lst, ML.lenD_scr, ML.lenD_ref, ML.tyD_non, ML.tyD_bl, ML.tyD_int, ML.tyD_str, ML.tyD_tup, ML.tyD_lst, ML.szl, ML.szlt, ML.cpow_lit, ML.mulok_rl, ML.mulok_ll, ML.divok_l, ML.put_same, ML.put_put, ML.q_wipeM, ML.deq_int, ML.deq_bl, ML.deq_str, ML.deq_non, ML.eqOk_int, ML.eqOk_bl, ML.isTy_NoneType_int, ML.isTy_NoneType_bool, ML.isTy_NoneType_tuple, ML.isTy_NoneType_list, ML.isTy_NoneType_str, ML.isTy_bool_int, ML.isTy_bool_bool, ML.isTy_bool_tuple, ML.isTy_bool_list, ML.isTy_bool_str, ML.isTy_int_int, ML.isTy_int_bool, ML.isTy_int_tuple, ML.isTy_int_list, ML.isTy_int_str, ML.isTy_str_int, ML.isTy_str_bool, ML.isTy_str_tuple, ML.isTy_str_list, ML.isTy_str_str, ML.isTy_tuple_int, ML.isTy_tuple_bool, ML.isTy_tuple_tuple, ML.isTy_tuple_list, ML.isTy_tuple_str, ML.isTy_list_int, ML.isTy_list_bool, ML.isTy_list_tuple, ML.isTy_list_list, ML.isTy_list_str, ML.isTy_dict_int, ML.isTy_dict_bool, ML.isTy_dict_tuple, ML.isTy_dict_list, ML.isTy_dict_str, FL.tup_fr, FL.tup_sp, FL.tup_wl, FL.tupOf_fr, FL.tupOf_sp, FL.tupOf_wl, FL.nz0, FL.nz1, FL.nz2, FL.nz3, FL.look_non, FL.look_int, FL.look_bl, FL.look_str, FL.look_tup, FL.look_lst, FL.look_scr, FL.seqOf_fr, FL.seqOf_sp, FL.seqOf_wl, FL.look_fr, FL.look_sp, FL.look_wl, FL.eqOk_fr, FL.eqOk_sp, FL.eqOk_wl, FL.deq_fr, FL.deq_sp, FL.deq_wl, FL.tyD_fr, FL.tyD_sp, FL.tyD_wl, FL.isN_fr, FL.isN_sp, FL.isN_wl, FL.lenD_sp, FL.lenD_wl, FL.rAdd_wl_tup, List.length_map, List.map_cons, List.map_nil, List.replicate, List.set_cons_zero, List.set_cons_succ, List.getElem?_cons_zero, List.getElem?_cons_succ, List.cons_append, List.nil_append, List.length_cons, List.length_nil, Option.bind_some, Option.map_some, ↓reduceIte, Nat.reduceAdd, Nat.reduceSub, Nat.reduceLT, Nat.reduceLeDiff, Nat.zero_add, decide_eq_true_eq, Bool.not_eq_true, ne_eq, reduceCtorEq, not_false_eq_true, true_and, and_true, Bool.false_eq_true, Bool.not_true, Bool.not_false, decide_true, decide_false, not_true_eq_false, eq_self, Bool.not_eq_eq_eq_not, if_true, if_false, decide_eq_false_iff_not, ML.ncast, Int.reduceToNat, Int.reducePow, Int.reduceAdd, Int.reduceSub, Int.reduceMul, Int.reduceNeg, Int.reduceLT, Int.reduceLE, Int.reduceEq, Nat.reduceEqDiff, Int.zero_add, gt_iff_lt, beq_self_eq_true, Bool.true_beq, Bool.false_beq, Bool.and_true, Bool.and_false, Bool.true_and, Bool.false_and, ↓ML.l_mtInsert, ↓ML.l_mtReverse, ↓ML.l_mtClear, ↓ML.l_bSortU, ↓ML.q_mMt0, ↓ML.l_bMaxL, ↓ML.l_bMinL, ↓ML.l_aLt_int, ↓ML.l_aLt_u, ↓ML.l_aGt_int, ↓ML.l_aGt_u, ↓ML.l_aLe_int, ↓ML.l_aLe_u, ↓ML.l_aGe_int, ↓ML.l_aGe_u, ↓ML.l_bMaxA_int, ↓ML.l_bMaxA_u, ↓ML.l_bMinA_int, ↓ML.l_bMinA_u, ML.tup_u, ML.tupOf_u, ML.seqOf_u, ML.sqI_u, ML.look_u, ML.isN_u, ML.lenD_u, ML.tyD_u, ML.tup_uw, ML.tupOf_uw, ML.seqOf_uw, ML.sqI_uw, ML.look_uw, ML.isN_uw, ML.lenD_uw, ML.tyD_uw, ML.eqOk_u, ML.eqOk_uw, ML.deq_u, ML.deq_uw, ML.in_uw, ↓ML.l_mRaise, ↓ML.l_mTry, ↓ML.l_mIsE, ↓ML.l_mIsV, ↓ML.l_mtCount, ↓ML.l_rAddS_rl, ↓ML.l_rAddS_ll, ML.excD_ref, ML.excOf_exc, ML.blsOf_nil, ML.blsOf_cons, ML.endM_nx, ML.endM_rt, ↓ML.l_mYes, ↓ML.l_iS, ↓ML.l_mIfJ, ↓ML.l_mJ, ↓ML.CrollP_nil, ↓ML.CrollP_cons, ↓ML.CrA_at, ↓ML.FrollP_nil, ↓ML.FrollP_cons, ML.isN_non, ML.isN_int, ML.isN_bl, ML.isN_str, ML.isN_tup, ML.isN_lst, ML.isN_ref, ML.sqI_tup, ML.sqI_lst, ML.sqI_scr, ML.sqI_ref, ML.sqI_at, ML.rngD_0, ML.rngD_1, ML.rngD_2, ML.rngD_3, ML.rngD_4, ML.rngD_6, ML.q_wipeM_nil, ML.q_wipeM_cons, FL.sqI_sp, FL.sqI_wl, FL.l_rAdd_rl, FL.l_rAdd_ll, FL.l_rAdd_lr, FL.l_rAdd_rr, FL.in_ints, FL.in_lu, ↓ML.l_mListR, ↓ML.l_mDIn, ↓ML.l_mDPut, ↓ML.l_mDNew, ML.dtD_ref, ML.dtO_dT, ML.keysD_nil, ML.keysD_int, ↓ML.l_mRev2, ↓ML.l_bSum, ↓ML.l_iEnT, ↓ML.l_mSortSet, $ls,*] $[$l]?)
-- counts /tmp/scratch/dev/N_lib12.json
theorem l_ends_of_face : ∀ ds S Q E, FL.sp_ends_of_face ds S Q E → ds.length = 2 := by rintro _ _ _ _ ⟨_, _, rfl, _⟩; rfl
theorem l_uends : ∀ ds S Q E, FL.sp_uends ds S Q E → ds.length = 2 := by rintro _ _ _ _ ⟨_, _, _, rfl, _⟩; rfl
theorem l_ring_area : ∀ ds S Q E, FL.sp_ring_area ds S Q E → ds.length = 2 := by rintro _ _ _ _ ⟨_, _, _, rfl, _⟩; rfl
theorem l_usooner : ∀ ds S Q E, FL.sp_usooner ds S Q E → ds.length = 3 := by rintro _ _ _ _ ⟨_, _, _, _, rfl, _⟩; rfl
theorem l_utwice : ∀ ds S Q E, FL.sp_utwice ds S Q E → ds.length = 2 := by rintro _ _ _ _ ⟨_, _, _, _, rfl, _⟩; rfl
theorem l_ubehind : ∀ ds S Q E, FL.sp_ubehind ds S Q E → ds.length = 2 := by rintro _ _ _ _ ⟨_, _, _, _, _, rfl, _⟩; rfl
theorem l_urings : ∀ ds S Q E, FL.sp_urings ds S Q E → ds.length = 1 := by rintro _ _ _ _ ⟨_, _, _, _, rfl, _⟩; rfl
theorem f2 (f : Nat) : ((f : Nat) : Int).fdiv 2 = ((f / 2 : Nat) : Int) ∧ ((f : Nat) : Int).fmod 2 = ((f % 2 : Nat) : Int) := by
  rw [fdiv_pos (by decide), fmod_pos (by decide)]; omega
theorem lstK_seq {S : Sto} {d : D} {ds : List D} (h : LstK S d ds) : seqOf S d = some ds := by
  cases h with
  | lst => rfl
  | ref h => rw [seqOf_ref', h]; rfl
theorem lstK_len {S : Sto} {d : D} {ds : List D} (h : LstK S d ds) : lenD S d = some ds.length := by
  cases h with
  | lst => rfl
  | ref h => rw [lenD_ref, h]; rfl
theorem r_ends_of_face : ∀ ds S Q E, FL.sp_ends_of_face ds S Q E → b_ends_of_face (mends Q E) (mstart 2 ds) S := by
  rintro _ S Q E ⟨ws, f, rfl, hf, h1, k⟩
  have hf2 : f / 2 < ws.length := by omega
  unfold b_ends_of_face
  simp only [ML.q_mstart, ML.q_mends, List.map_cons, List.map_nil, List.replicate, List.cons_append, List.nil_append]
  simp only [gv, (f2 f).1, (f2 f).2, List.getElem?_map, wlAt_get hf2]
  unfold wface at k
  refine ⟨fun h => ?_, fun h => ?_⟩
  · rw [if_pos (by omega)] at k
    simp only [gv]
    exact k
  · rw [if_neg (by omega)] at k
    simp only [gv]
    exact k
theorem r_uends : ∀ ds S Q E, FL.sp_uends ds S Q E → b_uends (mends Q E) (mstart 0 ds) S := by
  rintro _ S Q E ⟨d, ws, f, rfl, hd, hf, h1, k⟩
  have hf2 : f / 2 < ws.length := by omega
  unfold b_uends
  simp only [ML.q_mstart, ML.q_mends, List.map_cons, List.map_nil, List.replicate, List.cons_append, List.nil_append]
  simp only [gv, (f2 f).1, (f2 f).2, lstK_seq hd, List.getElem?_map, wat_get hf2]
  unfold uface at k
  rcases (by omega : f % 2 = 0 ∨ f % 2 = 1) with h | h
  · rw [if_neg (by omega)] at k
    simp only [gv, h]
    exact k
  · rw [if_pos h] at k
    simp only [gv, h]
    exact k
theorem r_ring_area : ∀ ds S Q E, FL.sp_ring_area ds S Q E → b_ring_area (mends Q E) (mstart 4 ds) S := by
  rintro _ S Q E ⟨ws, r, L, rfl, hr, hL, hz, hz2, hb, hs, k⟩
  obtain ⟨G, eG, hG⟩ := hr.itx
  unfold b_ring_area
  simp only [ML.q_mstart, ML.q_mends, List.map_cons, List.map_nil, List.replicate, List.cons_append, List.nil_append]
  simp only [gv, eG]
  rw [show uD (0, 1) = fr (areaW ws (L.take 0)) from rfl]
  refine wfor_inv (fun i σ S' => @KP ⟨(∃ a b c, σ = [some (.tup (ws.map wlD)), some r, some (fr (areaW ws (L.take i))), a, b, c]) ∧ S' = S⟩) ⟨⟨_, _, _, rfl⟩, rfl⟩ ?_ ?_
  · rintro i d σ S1 hd ⟨⟨a, b, c, rfl⟩, rfl⟩
    rw [List.getElem?_map] at hd
    cases ei : L[i]? with
    | none => rw [ei] at hd; cases hd
    | some f =>
      rw [ei] at hd; cases hd
      have hf := hL f (List.mem_of_getElem? ei)
      have tk : L.take (i + 1) = L.take i ++ [f] := by rw [List.take_add_one, ei]; rfl
      have ba : BD (areaW ws (L.take i)) 300 := ⟨hs i⟩
      have bw : BW (wface ws f) 200 := by
        have := hb _ (wlAt_mem (ws := ws) (i := f / 2) (by omega))
        unfold wface
        split
        · exact ⟨this.s, this.f⟩
        · exact this
      refine ⟨hG _ hr, ?_⟩
      simp only [gv, nD]
      refine ⟨ws, f, rfl, hf, by omega, ?_⟩
      simp only [gv]
      refine ⟨_, _, rfl, by have := bw.f.l; have := bw.s.r; omega, ?_⟩
      simp only [gv]
      refine ⟨_, _, rfl, by have := bw.s.l; have := bw.f.r; omega, ?_⟩
      simp only [gv]
      have z1 := sz_mul (wface ws f).1.1 (wface ws f).2.2
      have z2 := sz_mul (wface ws f).2.1 (wface ws f).1.2
      have z3 := sz_sub ((wface ws f).1.1 * (wface ws f).2.2) ((wface ws f).2.1 * (wface ws f).1.2)
      have y1 := bw.f.l; have y2 := bw.f.r; have y3 := bw.s.l; have y4 := bw.s.r; have y5 := hs i
      refine ⟨_, _, rfl, by omega, ?_⟩
      simp only [gv]
      refine ⟨_, _, rfl, by omega, ?_⟩
      simp only [gv]
      refine KP.mk ⟨⟨some (.int (f : Nat)), some (spD (wface ws f).1), some (spD (wface ws f).2), ?_⟩, rfl⟩
      rw [tk, areaW_snoc]
      have e : crs (wface ws f).1 (wface ws f).2 = (wface ws f).1.1 * (wface ws f).2.2 - (wface ws f).2.1 * (wface ws f).1.2 := by unfold crs; grind
      rw [e]
  · rintro σ S1 ⟨⟨a, b, c, rfl⟩, rfl⟩
    rw [List.length_map, List.take_length]
    have y5 := hs L.length
    rw [List.take_length] at y5
    refine ⟨hG _ hr, ?_⟩
    simp only [gv]
    rw [show uD (1, 2) = fr (1 / 2) by unfold fr uD; rw [show ((1 : Rat) / 2).num = 1 by decide +kernel, show ((1 : Rat) / 2).den = 2 by decide +kernel]; rfl]
    refine ⟨_, _, rfl, ?_, ?_⟩
    · have : sz (1 / 2 : Rat) ≤ 10 := by decide +kernel
      omega
    · simp only [gv]; exact k
theorem r_usooner : ∀ ds S Q E, FL.sp_usooner ds S Q E → b_usooner (mends Q E) (mstart 3 ds) S := by
  rintro _ S Q E ⟨v, b, x, y, rfl, hv, hb, hx, hy, k⟩
  have m30 : ∀ {u : U2}, UOk (2 ^ 20) u → UOk (2 ^ 30) u := fun h => ⟨by have := h.a1; omega, by have := h.a2; omega, by have := h.b1; omega, by have := h.b2; omega⟩
  have c1 := uturn_isg v b x
  have c2 := uturn_isg v b y
  have c3 := uturn_isg v x y
  unfold b_usooner
  simp only [ML.q_mstart, ML.q_mends, List.map_cons, List.map_nil, List.replicate, List.cons_append, List.nil_append]
  simp only [gv]
  intro p hp
  refine comp_roll ?_
  simp only [gv]
  refine t_turn (m30 hv) (m30 hb) (m30 hx) ?_
  simp only [gv]
  refine t_turn (m30 hv) (m30 hb) (m30 hy) ?_
  simp only [gv]
  have kk := k _ (ext0_put hp (o := .lst [.int (1 + uturn v b x), .int (1 + uturn v b y)]))
  unfold cyc at kk
  refine ⟨fun h => ?_, fun h => ?_⟩
  · simp only [gv]
    have e : decide (isg (icr (usb b v) (usb x v)) < isg (icr (usb b v) (usb y v)) ∨ isg (icr (usb b v) (usb x v)) = isg (icr (usb b v) (usb y v)) ∧ icr (usb x v) (usb y v) < 0) = decide (1 + uturn v b x < 1 + uturn v b y) := by
      rw [decide_eq_decide, ← c1, ← c2]; omega
    rw [e] at kk
    exact kk
  · simp only [gv]
    refine t_turn (m30 hv) (m30 hx) (m30 hy) ?_
    simp only [gv]
    have e : decide (isg (icr (usb b v) (usb x v)) < isg (icr (usb b v) (usb y v)) ∨ isg (icr (usb b v) (usb x v)) = isg (icr (usb b v) (usb y v)) ∧ icr (usb x v) (usb y v) < 0) = decide (uturn v x y < 0) := by
      rw [decide_eq_decide, ← c1, ← c2, c3]
      rcases isg_cases (icr (usb x v) (usb y v)) with ⟨g1, g2⟩ | ⟨g1, g2⟩ | ⟨g1, g2⟩ <;> omega
    rw [e] at kk
    exact kk
theorem r_utwice : ∀ ds S Q E, FL.sp_utwice ds S Q E → b_utwice (mends Q E) (mstart 4 ds) S := by
  rintro _ S Q E ⟨d, r, ws, L, rfl, hd, hr, hL, hz, hz2, hw, k⟩
  obtain ⟨G, eG, hG⟩ := hr.itx
  have hu : ∀ f ∈ L, UOk (2 ^ 20) (uface ws f).1 ∧ UOk (2 ^ 20) (uface ws f).2 := fun f hf => by
    have h := hw _ (wat_mem (ws := ws) (i := f / 2) (by have := hL f hf; omega))
    unfold uface
    split
    · exact ⟨h.s, h.f⟩
    · exact ⟨h.f, h.s⟩
  unfold b_utwice
  simp only [ML.q_mstart, ML.q_mends, List.map_cons, List.map_nil, List.replicate, List.cons_append, List.nil_append]
  simp only [gv, eG]
  intro p hp
  refine comp_map nD (fun f => uwD (uface ws f)) L rfl hz2 (fun acc => hG _ (hr.ext (ext0_put hp))) ?_ ?_
  · intro f acc Q1 hf q1
    simp only [gv, nD]
    refine ⟨d, ws, f, rfl, hd.ext (ext0_put hp), hL f hf, by have := hL f hf; omega, ?_⟩
    exact q1
  have g1 : put S p (.lst (L.map fun f => uwD (uface ws f))) p = some (.lst (L.map fun f => uwD (uface ws f))) := put_same
  simp only [gv, sqI_at g1]
  intro v hv
  have pv : p ≠ v := sne g1 hv
  refine comp_map (fun f => uwD (uface ws f)) (fun f => .int (icr (uface ws f).1 (uface ws f).2)) L rfl hz2 (fun acc => by show olP _ = _; rw [put_ne pv, g1]; rfl) ?_ ?_
  · intro f acc Q1 hf q1
    obtain ⟨u1, u2⟩ := hu f hf
    simp only [gv]
    refine ⟨mulok_r (by have := u2.b1; omega) (by have := u2.b2; omega), mulok_r (by have := u1.b1; omega) (by have := u1.b2; omega), ?_⟩
    have e : (uface ws f).1.1 * (uface ws f).2.2 - (uface ws f).2.1 * (uface ws f).1.2 = icr (uface ws f).1 (uface ws f).2 := by unfold icr; grind
    rw [e]
    exact q1
  have ei : (L.map fun f => (.int (icr (uface ws f).1 (uface ws f).2) : D)) = (L.map fun f => icr (uface ws f).1 (uface ws f).2).map .int := by rw [List.map_map]; rfl
  simp only [del_put hv]
  rw [ei]
  simp only [gv, intsOf_map]
  exact k _ (ext0_put hp)
def optD : Option U2 → D
  | none => .non
  | some u => uD u
theorem r_ubehind : ∀ ds S Q E, FL.sp_ubehind ds S Q E → b_ubehind (mends Q E) (mstart 7 ds) S := by
  rintro _ S Q E ⟨d, m, z, ws, f, rfl, hd, dr, hm, hz, hf, k⟩
  have lw := dr.len
  have hb : ∀ g, g < 2 * ws.length → UOk (2 ^ 20) (uface ws g).1 ∧ UOk (2 ^ 20) (uface ws g).2 := fun g hg => by
    have h := (dr.wok hz (wat_mem (ws := ws) (i := g / 2) (by omega))).mono (n := 2 ^ 20) (by decide)
    unfold uface
    split
    · exact ⟨h.s, h.f⟩
    · exact ⟨h.f, h.s⟩
  have ef : uface ws f = ((uface ws f).1, (uface ws f).2) := rfl
  unfold b_ubehind
  simp only [ML.q_mstart, ML.q_mends, List.map_cons, List.map_nil, List.replicate, List.cons_append, List.nil_append]
  simp only [gv]
  refine ⟨d, ws, f, rfl, hd, hf, by omega, ?_⟩
  simp only [gv, (f2 f).1, (f2 f).2, lstK_len hd]
  refine ⟨by omega, fun p hp => ?_⟩
  rw [show (2 * (ws.length : Int)).toNat = 2 * ws.length by omega, show ((f : Nat) : Int) + 1 - 2 * ((f % 2 : Nat) : Int) = ((opp f : Nat) : Int) by unfold opp; split <;> omega]
  refine comp_filter (fun g : Nat => .int (0 + (g : Nat))) nD (fun g => decide ((uface ws g).1 = (uface ws f).2) && !decide (g = opp f)) (List.range (2 * ws.length)) rfl (by rw [List.length_range]; omega) (fun _ => trivial) ?_ ?_
  · intro g acc Q1 Q2 hg q1 q2
    have hg' := List.mem_range.mp hg
    simp only [gv]
    refine ⟨d, ws, g, rfl, hd.ext (ext0_put hp), hg', by omega, ?_⟩
    simp only [gv]
    refine ⟨fun z1 => ?_, fun z1 => ?_⟩
    · simp only [gv]
      refine ⟨fun z2 => ?_, fun z2 => ?_⟩
      · simp only [gv]
        exact q1 (by rw [Bool.and_eq_true, decide_eq_true_eq, Bool.not_eq_true', decide_eq_false_iff_not]; exact ⟨z1, fun e => z2 (by rw [e])⟩)
      · simp only [gv]
        exact q2 (by rw [Bool.and_eq_false_iff]; right; rw [Bool.not_eq_false', decide_eq_true_eq]; omega)
    · simp only [gv]
      exact q2 (by rw [Bool.and_eq_false_iff]; left; exact decide_eq_false z1)
  rw [show (List.range (2 * ws.length)).filter (fun g => decide ((uface ws g).1 = (uface ws f).2) && !decide (g = opp f)) = waysB ws f from rfl]
  have lW : (waysB ws f).length ≤ 2 * ws.length := by
    have := List.length_filter_le (fun g => decide ((uface ws g).1 = (uface ws f).2) && !decide (g = opp f)) (List.range (2 * ws.length))
    rw [List.length_range] at this; exact this
  have hW : ∀ g ∈ waysB ws f, g < 2 * ws.length := fun g hg => (mem_ways.mp hg).1
  have g1 : put S p (.lst ((waysB ws f).map nD)) p = some (.lst ((waysB ws f).map nD)) := put_same
  have x1 : Ext0 S (put S p (.lst ((waysB ws f).map nD))) := ext0_put hp
  have eb : behindU ws f = ((waysB ws f).foldl (stepB ws f) (opp f, none)).1 := rfl
  rw [eb] at k
  have ow : ∀ i : Nat, (∀ e, ((waysB ws f).take i |>.foldl (stepB ws f) (opp f, none)).2 = some e → UOk (2 ^ 20) e) := by
    intro i
    have gen : ∀ (M : List Nat) (s : Nat × Option U2), (∀ g ∈ M, g < 2 * ws.length) → (∀ e, s.2 = some e → UOk (2 ^ 20) e) → ∀ e, (M.foldl (stepB ws f) s).2 = some e → UOk (2 ^ 20) e := by
      intro M
      induction M with
      | nil => intro s _ h; exact h
      | cons x M ih =>
        intro s hM h
        rw [List.foldl_cons]
        refine ih _ (fun g hg => hM g (List.mem_cons_of_mem _ hg)) fun e he => ?_
        obtain ⟨s1, s2⟩ := s
        cases s2 with
        | none => cases he; exact (hb x (hM x List.mem_cons_self)).2
        | some y =>
          simp only [stepB] at he
          split at he
          · cases he; exact (hb x (hM x List.mem_cons_self)).2
          · exact h e he
    exact gen _ _ (fun g hg => hW g (List.mem_of_mem_take hg)) (fun e he => by cases he)
  generalize waysB ws f = M at *
  generalize put S p (.lst (M.map nD)) = S1 at *
  simp only [gv, sqI_at g1]
  refine wfor_inv (fun i σ S' => @KP ⟨(∃ a b, σ = [some d, some (.int (f : Nat)), some (uD (uface ws f).1), some (uD (uface ws f).2), some (.int (((M.take i).foldl (stepB ws f) (opp f, none)).1 : Nat)), some (.ref p), a, some (optD ((M.take i).foldl (stepB ws f) (opp f, none)).2), b]) ∧ Ext0 S1 S'⟩) ⟨⟨_, _, rfl⟩, fun _ _ e => e⟩ ?_ ?_
  · rintro i dd σ S2 hdd ⟨⟨a, b, rfl⟩, x2⟩
    rw [List.getElem?_map] at hdd
    cases ei : M[i]? with
    | none => rw [ei] at hdd; cases hdd
    | some g =>
      rw [ei] at hdd; cases hdd
      have hg := hW g (List.mem_of_getElem? ei)
      have tk : M.take (i + 1) = M.take i ++ [g] := by rw [List.take_add_one, ei]; rfl
      have owi := ow i
      refine ⟨by show olP _ = _; rw [x2 p _ g1]; rfl, ?_⟩
      rw [tk, List.foldl_append]
      generalize (M.take i).foldl (stepB ws f) (opp f, none) = s at *
      obtain ⟨s1, s2⟩ := s
      simp only [gv, nD]
      refine ⟨d, ws, g, rfl, (hd.ext x1).ext x2, hg, by omega, ?_⟩
      cases s2 with
      | none =>
        simp only [gv, optD]
        exact KP.mk ⟨⟨_, _, rfl⟩, x2⟩
      | some e =>
        simp only [gv, optD]
        refine ⟨(uface ws f).2, (uface ws f).1, (uface ws g).2, e, rfl, (hb f hf).2, (hb f hf).1, (hb g hg).2, owi e rfl, fun S3 x3 => ?_⟩
        simp only [gv]
        refine ⟨fun h => ?_, fun h => ?_⟩
        · simp only [gv]
          refine KP.mk ⟨⟨some (.int (g : Nat)), some (uD (uface ws g).2), ?_⟩, fun q o z => x3 q o (x2 q o z)⟩
          have : stepB ws f (s1, some e) g = (g, some (uface ws g).2) := by
            exact if_pos h
          rw [List.foldl_cons, List.foldl_nil, this]
          rfl
        · simp only [gv]
          refine KP.mk ⟨⟨some (.int (g : Nat)), some (uD (uface ws g).2), ?_⟩, fun q o z => x3 q o (x2 q o z)⟩
          have : stepB ws f (s1, some e) g = (s1, some e) := by
            exact if_neg h
          rw [List.foldl_cons, List.foldl_nil, this]
          rfl
  · rintro σ S2 ⟨⟨a, b, rfl⟩, x2⟩
    rw [List.length_map, List.take_length]
    refine ⟨by show olP _ = _; rw [x2 p _ g1]; rfl, ?_⟩
    simp only [gv]
    exact k S2 fun q o z => x2 q o (x1 q o z)
theorem in_nLl {neg : Bool} {x : Nat} {M : List Nat} {S : Sto} {Q : MQ} : rInM neg (.int (x : Int)) (.lst (M.map nD)) S Q = Q (.bl (if neg then !decide (x ∈ M) else decide (x ∈ M))) S := by
  have e : M.map nD = (M.map fun n : Nat => (n : Int)).map .int := by rw [List.map_map]; rfl
  have m : decide ((x : Int) ∈ M.map fun n : Nat => (n : Int)) = decide (x ∈ M) := by
    rw [decide_eq_decide, List.mem_map]
    exact ⟨fun ⟨y, hy, z⟩ => by rw [← show y = x by omega]; exact hy, fun h => ⟨x, h, rfl⟩⟩
  have k := in_ints (neg := neg) (i := (x : Int)) (ns := M.map fun n : Nat => (n : Int)) (S := S) (Q := Q)
  rw [m] at k
  rw [← k, ← e]
theorem ixL_last {L : List Nat} {g : Nat} (h : L.getLast? = some g) : ixL (L.map nD) (-1) = some (.int (g : Int)) := by
  cases L with
  | nil => cases h
  | cons a L =>
    rw [List.map_cons, ixL_m1, List.length_map, ← List.map_cons, List.getElem?_map]
    rw [List.getLast?_eq_getElem?] at h
    rw [show (a :: L).length - 1 = L.length by simp] at h
    rw [h]; rfl
theorem r_urings : ∀ ds S Q E, FL.sp_urings ds S Q E → b_urings (mends Q E) (mstart 4 ds) S := by
  rintro _ S Q E ⟨d, m, z, ws, rfl, hd, dr, hm0, hz, k⟩
  have lw := dr.len
  unfold b_urings
  simp only [ML.q_mstart, ML.q_mends, List.map_cons, List.map_nil, List.replicate, List.cons_append, List.nil_append]
  simp only [gv]
  intro p hp
  have hd1 := hd.ext (ext0_put hp (o := .lst []))
  simp only [gv, lstK_len hd1]
  refine ⟨by omega, ?_⟩
  rw [show (2 * (ws.length : Int)).toNat = 2 * ws.length by omega]
  refine rng_inv (fun i σ S' => @KP ⟨∃ (rs : List (Addr × List Nat)) (G : List Nat), (∃ a b, σ = [some d, some (.ref p), some (.lst (G.map nD)), a, b]) ∧ G = (rs.map (·.2)).flatten ∧ Rgs ws i (rs.map (·.2)) ∧ Ext0 S S' ∧ S' p = some (.lst (rs.map fun r => .ref r.1)) ∧ rs.length ≤ i ∧ (∀ r ∈ rs, S' r.1 = some (.lst (r.2.map nD)) ∧ r.1 ≠ p ∧ Ring ws r.2 ∧ r.2.length ≤ 2 * ws.length) ∧ G.length ≤ 200 * i⟩) ⟨[], [], ⟨_, _, rfl⟩, rfl, .zero, ext0_put hp, put_same, by simp, (fun r hr => by cases hr), by simp⟩ ?_ ?_
  · rintro f σ S1 hf ⟨rs, G, ⟨a, b, rfl⟩, eG, hR, x1, hp1, hl, hrs, hG⟩
    simp only [gv]
    rw [in_nLl]
    simp only [gv]
    refine ⟨fun hm => ?_, fun hm => ?_⟩
    · simp only [gv]
      intro q hq
      have pq : p ≠ q := sne hp1 hq
      refine while_rule (fun n σ S' => @KP ⟨∃ L : List Nat, Row ws f L ∧ n = 2 * ws.length + 1 - L.length ∧ σ = [some d, some (.ref p), some (.lst (G.map nD)), some (.int (f : Nat)), some (.ref q)] ∧ S' q = some (.lst (L.map nD)) ∧ (∀ x o, x ≠ q → S1 x = some o → S' x = some o)⟩) ⟨2 * ws.length, KP.mk ⟨[f], Row.one ws hf, by simp, rfl, put_same, fun x o h e => by rw [put_ne h]; exact e⟩⟩ ?_
      rintro n σ S2 ⟨L, hL, rfl, rfl, hq2, x2⟩
      have lL := hL.len
      obtain ⟨g, hg⟩ : ∃ g, L.getLast? = some g := by
        cases L with
        | nil => cases hL.hd
        | cons a L => exact ⟨_, List.getLast?_cons⟩
      have hgl := hL.lt g (List.mem_of_getLast? hg)
      have lk : ∀ S', Ext0 S2 S' → LstK S' d (ws.map uwD) := fun S' x => hd.ext fun y o e => x y o (x2 y o (fun z => by rw [z] at e; rw [x1 q _ e] at hq; cases hq) (x1 y o e))
      simp only [gv, hq2, ixL_last hg]
      refine ⟨d, m, z, ws, g, rfl, lk _ (fun _ _ e => e), dr, hm0, hz, hgl, fun S3 x3 => ?_⟩
      have hq3 : S3 q = some (.lst (L.map nD)) := x3 q _ hq2
      simp only [gv, hq3, ixL_last hg]
      refine ⟨fun ne => ?_, fun e => ?_⟩
      · simp only [gv]
        refine ⟨of_eq_true (isLst_ref hq3), ?_⟩
        simp only [gv, hq3, ixL_last hg]
        refine ⟨d, m, z, ws, g, rfl, lk _ x3, dr, hm0, hz, hgl, fun S4 x4 => ?_⟩
        have hq4 : S4 q = some (.lst (L.map nD)) := x4 q _ hq3
        simp only [gv, hq4]
        have hr := hL.step dr hg (fun z => ne (by rw [z]))
        have rl := hr.len
        rw [List.length_append, List.length_singleton] at rl
        refine ⟨by rw [sizeLine_eq]; omega, 2 * ws.length + 1 - (L ++ [behindU ws g]).length, by rw [List.length_append, List.length_singleton]; omega, KP.mk ⟨_, hr, rfl, rfl, ?_, fun x o xq e => ?_⟩⟩
        · rw [put_same, List.map_append]; rfl
        · rw [put_ne xq]; exact x4 x o (x3 x o (x2 x o xq e))
      · simp only [gv]
        have ge : behindU ws g = f := by omega
        have rg := hL.ring dr hg ge
        have hp3 : S3 p = some (.lst (rs.map fun r => .ref r.1)) := x3 p _ (x2 p _ pq hp1)
        refine ⟨of_eq_true (isLst_ref hp3), ?_⟩
        simp only [gv, hp3, hq3]
        refine ⟨by rw [sizeLine_eq]; omega, ?_⟩
        have hq4 : put S3 p (.lst ((rs.map fun r => (.ref r.1 : D)) ++ [.ref q])) q = some (.lst (L.map nD)) := by rw [put_ne (Ne.symm pq)]; exact hq3
        simp only [gv, hq4]
        have up : ∀ x o, x ≠ p → S1 x = some o → put S3 p (.lst ((rs.map fun r => (.ref r.1 : D)) ++ [.ref q])) x = some o := fun x o xp e => by
          have xq : x ≠ q := fun z => by rw [z, hq] at e; cases e
          rw [put_ne xp]; exact x3 x o (x2 x o xq e)
        refine ⟨by rw [sizeLine_eq]; omega, KP.mk ⟨rs ++ [(q, L)], G ++ L, ⟨_, _, by rw [List.map_append]⟩, by rw [List.map_append, List.flatten_append, ← eG]; simp, by rw [List.map_append]; exact .new hR (by rw [← eG]; exact hm) ⟨hL, g, hg, ge⟩, fun x o e => up x o (fun z => by rw [z, hp] at e; cases e) (x1 x o e), by rw [put_same, List.map_append]; rfl, by rw [List.length_append, List.length_singleton]; omega, fun r hr => ?_, by rw [List.length_append]; omega⟩⟩
        rcases List.mem_append.mp hr with h | h
        · obtain ⟨a1, a2, a3, a4⟩ := hrs r h
          exact ⟨up _ _ a2 a1, a2, a3, a4⟩
        · rw [List.mem_singleton.mp h]
          exact ⟨hq4, Ne.symm pq, rg, lL⟩
    · simp only [gv]
      exact KP.mk ⟨rs, G, ⟨_, _, rfl⟩, eG, .old hR (by rw [← eG]; simpa using hm), x1, hp1, by omega, hrs, by omega⟩
  · rintro σ S1 ⟨rs, G, ⟨a, b, rfl⟩, eG, hR, x1, hp1, hl, hrs, hG⟩
    simp only [gv]
    exact k p rs S1 x1 hp1 hl (fun r hr => ⟨(hrs r hr).1, (hrs r hr).2.2.1, (hrs r hr).2.2.2⟩) hR
end FL

set_option maxRecDepth 100000
namespace FL
open PySem PySem.Spec L2 ML
/-! # rings of a plot drawn in units, as the program tells them -/
theorem wlAt_plt {s : Sc} {ws : List UW} {i : Nat} (h : i < ws.length) : wlAt (pltW s ws) i = afw s (ofW (wat ws i)) := by
  have := wlAt_get (ws := pltW s ws) (i := i) (by rw [plt_len]; exact h)
  rw [pltW, List.getElem?_map, wat_get h] at this
  exact (Option.some.inj this).symm
theorem wface_plt {s : Sc} {ws : List UW} {f : Nat} (h : f < 2 * ws.length) : wface (pltW s ws) f = afw s (ofW (uface ws f)) := by
  unfold wface uface
  rw [wlAt_plt (by omega)]
  split <;> rfl
def kP (p : Pt) : K4 := ((p.1.num, (p.1.den : Nat)), (p.2.num, (p.2.den : Nat)))
theorem rat_eq {a b : Rat} (h1 : a.num = b.num) (h2 : ((a.den : Nat) : Int) = (b.den : Nat)) : a = b := Rat.ext h1 (by omega)
theorem kP_inj {p q : Pt} : kP p = kP q ↔ p = q := by
  refine ⟨fun h => ?_, fun h => by rw [h]⟩
  unfold kP at h
  injection h with h1 h2
  injection h1 with h1 h3
  injection h2 with h2 h4
  exact Prod.ext (rat_eq h1 h3) (rat_eq h2 h4)
theorem k4Of_sp (p : Pt) : k4Of (spD p) = some (kP p) := rfl
def kU (s : Sc) (v : U2) : K4 := kP (af s (ofU v))
theorem kU_inj {s : Sc} (hs : ScOk s) {u v : U2} : kU s u = kU s v ↔ u = v := by
  unfold kU
  rw [kP_inj, af_inj hs, ofU_inj]
/-- the faces below a number that lead from a corner -/
def waysTo (ws : List UW) (i : Nat) (v : U2) : List Nat := (List.range i).filter fun g => decide ((uface ws g).1 = v)
def waysAt (ws : List UW) (v : U2) : List Nat := waysTo ws (2 * ws.length) v
theorem waysTo_succ (ws : List UW) (i : Nat) (v : U2) : waysTo ws (i + 1) v = waysTo ws i v ++ if (uface ws i).1 = v then [i] else [] := by
  unfold waysTo
  rw [List.range_succ, List.filter_append]
  by_cases h : (uface ws i).1 = v <;> simp [h]
theorem mem_waysAt {ws : List UW} {v : U2} {g : Nat} : g ∈ waysAt ws v ↔ g < 2 * ws.length ∧ (uface ws g).1 = v := by
  unfold waysAt waysTo
  rw [List.mem_filter, List.mem_range]
  simp
theorem waysAt_len (ws : List UW) (v : U2) : (waysAt ws v).length ≤ 2 * ws.length := by
  have := List.length_filter_le (fun g => decide ((uface ws g).1 = v)) (List.range (2 * ws.length))
  rw [List.length_range] at this; exact this
theorem waysB_at (ws : List UW) (f : Nat) : waysB ws f = (waysAt ws (uface ws f).2).filter fun g => !decide (g = opp f) := by
  unfold waysB waysAt waysTo
  rw [List.filter_filter]
  exact List.filter_congr fun g _ => by rw [Bool.and_comm]
def vw (s : Sc) (v x : U2) : Pt := alng (afw s (ofW (v, x)))
theorem sgn_vw {s : Sc} (hs : ScOk s) (v b x : U2) : sgn (crs (vw s v b) (vw s v x)) = isg (icr (usb b v) (usb x v)) := by
  rw [← uturn_isg]
  exact side_af hs (ofU v, ofU b) (ofU x)
theorem bp_vw {s : Sc} (hs : ScOk s) {v x : U2} (hv : UOk (2 ^ 20) v) (hx : UOk (2 ^ 20) x) : BW (afw s (ofW (v, x))) 150 := bw_afw (w := (v, x)) hs ⟨hv, hx⟩
/-- the dict of corners, each with the list of the faces that lead from it -/
def dictU (s : Sc) (es : List (U2 × Addr)) : List (K4 × D) := es.map fun e => (kU s e.1, (.ref e.2 : D))
theorem dictU_none {s : Sc} (hs : ScOk s) {v : U2} : ∀ {es : List (U2 × Addr)}, (∀ e ∈ es, e.1 ≠ v) → valD (dictU s es) (kU s v) = none
  | [], _ => rfl
  | e :: es, h => by
    have ih := dictU_none hs (es := es) fun x hx => h x (List.mem_cons_of_mem _ hx)
    unfold dictU valD at *
    rw [List.map_cons, List.find?_cons]
    have : ¬ kU s e.1 = kU s v := fun z => h e List.mem_cons_self ((kU_inj hs).mp z)
    simp only [this, decide_false]
    exact ih
theorem dictU_some {s : Sc} (hs : ScOk s) {v : U2} : ∀ {es : List (U2 × Addr)}, (∃ e ∈ es, e.1 = v) → ∃ e ∈ es, e.1 = v ∧ valD (dictU s es) (kU s v) = some (.ref e.2)
  | [], h => by obtain ⟨e, he, _⟩ := h; cases he
  | e :: es, h => by
    by_cases k : e.1 = v
    · refine ⟨e, List.mem_cons_self, k, ?_⟩
      unfold dictU valD
      rw [List.map_cons, List.find?_cons]
      simp [k]
    · obtain ⟨x, hx, e1⟩ := h
      have hx' : x ∈ es := by
        rcases List.mem_cons.mp hx with z | z
        · rw [z] at e1; exact absurd e1 k
        · exact z
      obtain ⟨y, hy, e2, e3⟩ := dictU_some hs ⟨x, hx', e1⟩
      refine ⟨y, List.mem_cons_of_mem _ hy, e2, ?_⟩
      unfold dictU valD at *
      rw [List.map_cons, List.find?_cons]
      have : ¬ kU s e.1 = kU s v := fun z => k ((kU_inj hs).mp z)
      simp only [this, decide_false]
      exact e3
theorem t_lean {s : Sc} {v b x : U2} {S : Sto} {Q : Hold MQ} {E : Hold MXQ} (hs : ScOk s) (hv : UOk (2 ^ 20) v) (hb : UOk (2 ^ 20) b) (hx : UOk (2 ^ 20) x) (k : Q.v (.int (isg (icr (usb b v) (usb x v)))) S) : @CallP sp_leaning [spD (vw s v b), spD (vw s v x)] S Q E := by
  have i1 := bp_vw hs hv hb
  have i2 := bp_vw hs hv hx
  have j1 : BP (vw s v b) 301 := bp_alng (w := afw s (ofW (v, b)))
  have j2 : BP (vw s v x) 301 := bp_alng (w := afw s (ofW (v, x)))
  rw [← sgn_vw hs v b x] at k
  exact ⟨_, _, rfl, ⟨301, ⟨j1.l, j1.r⟩, ⟨j2.l, j2.r⟩, by decide⟩, k⟩
theorem t_way {s : Sc} {v x : U2} {S : Sto} {Q : Hold MQ} {E : Hold MXQ} (hs : ScOk s) (hv : UOk (2 ^ 20) v) (hx : UOk (2 ^ 20) x) (k : Q.v (spD (vw s v x)) S) : @CallP sp_along [wlD (afw s (ofW (v, x)))] S Q E := by
  have i1 := bp_vw hs hv hx
  exact ⟨_, rfl, ⟨150, ⟨i1.f.l, i1.f.r⟩, ⟨i1.s.l, i1.s.r⟩, by decide⟩, k⟩
theorem uface_ok {m : Nat} {z : Int} {ws : List UW} (dr : Drawn m z ws) (hz : z ≤ 500) {g : Nat} (hg : g < 2 * ws.length) : UOk (2 ^ 20) (uface ws g).1 ∧ UOk (2 ^ 20) (uface ws g).2 := by
  have h := (dr.wok hz (wat_mem (ws := ws) (i := g / 2) (by omega))).mono (n := 2 ^ 20) (by decide)
  unfold uface
  split
  · exact ⟨h.s, h.f⟩
  · exact ⟨h.f, h.s⟩
/-! ### promises -/
def sp_other_face : MSp := fun ds S Q _ => ∃ f : Nat, ds = [.int f] ∧ f < 1000 ∧ Q (.int (opp f : Nat)) S
def sp_quarter_to : MSp := fun ds S Q _ => ∃ (s : Sc) (v b x : U2), ds = [spD (vw s v b), spD (vw s v x)] ∧ ScOk s ∧ UOk (2 ^ 20) v ∧ UOk (2 ^ 20) b ∧ UOk (2 ^ 20) x ∧ Q (.int (1 + isg (icr (usb b v) (usb x v)))) S
def sp_is_met_sooner : MSp := fun ds S Q _ => ∃ (s : Sc) (v b x y : U2), ds = [spD (vw s v b), spD (vw s v x), spD (vw s v y)] ∧ ScOk s ∧ UOk (2 ^ 20) v ∧ UOk (2 ^ 20) b ∧ UOk (2 ^ 20) x ∧ UOk (2 ^ 20) y ∧ Q (.bl (decide (cyc (usb b v) (usb x v) (usb y v)))) S
/-- what the dict of corners holds -/
def Begins (s : Sc) (ws : List UW) (S : Sto) (q : Addr) (es : List (U2 × Addr)) : Prop :=
  S q = some (.dS (dictU s es)) ∧ (∀ e ∈ es, S e.2 = some (.lst ((waysAt ws e.1).map nD))) ∧ ∀ f, f < 2 * ws.length → ∃ e ∈ es, e.1 = (uface ws f).1
def sp_faces_by_begin : MSp := fun ds S Q _ => ∃ (s : Sc) (m : Nat) (z : Int) (ws : List UW), ds = [.tup ((pltW s ws).map wlD)] ∧ ScOk s ∧ Drawn m z ws ∧ m ≤ 100 ∧ z ≤ 500 ∧
  ∀ (q : Addr) (es : List (U2 × Addr)) (S' : Sto), Ext0 S S' → Begins s ws S' q es → Q (.ref q) S'
def sp_met_first : MSp := fun ds S Q _ => ∃ (s : Sc) (m : Nat) (z : Int) (ws : List UW) (f : Nat) (d : D), ds = [.tup ((pltW s ws).map wlD), .int f, d] ∧ ScOk s ∧ Drawn m z ws ∧ m ≤ 100 ∧ z ≤ 500 ∧ f < 2 * ws.length ∧
  LstK S d ((waysAt ws (uface ws f).2).map nD) ∧ Q (.int (behindU ws f : Nat)) S
def sp_behind : MSp := fun ds S Q _ => ∃ (s : Sc) (m : Nat) (z : Int) (ws : List UW) (f : Nat), ds = [.tup ((pltW s ws).map wlD), .int f] ∧ ScOk s ∧ Drawn m z ws ∧ m ≤ 100 ∧ z ≤ 500 ∧ f < 2 * ws.length ∧
  ∀ S', Ext0 S S' → Q (.int (behindU ws f : Nat)) S'
def sp_rings_of : MSp := fun ds S Q _ => ∃ (s : Sc) (m : Nat) (z : Int) (ws : List UW), ds = [.tup ((pltW s ws).map wlD)] ∧ ScOk s ∧ Drawn m z ws ∧ m ≤ 100 ∧ z ≤ 500 ∧
  ∀ (q : Addr) (rs : List (Addr × List Nat)) (S' : Sto), Ext0 S S' → S' q = some (.lst (rs.map fun p => .ref p.1)) → rs.length ≤ 2 * ws.length → (∀ p ∈ rs, S' p.1 = some (.lst (p.2.map nD)) ∧ Ring ws p.2 ∧ p.2.length ≤ 2 * ws.length) → Rgs ws (2 * ws.length) (rs.map (·.2)) → Q (.ref q) S'
end FL

set_option maxRecDepth 100000
namespace FL
open PySem PySem.Spec L2 ML
def b_other_face : MS := (mRet (mOp rSub (mOp rAdd (mVar 0) (mC (.int 1))) (mOp rMul (mC (.int 2)) (mOp rMod (mVar 0) (mC (.int 2))))))
def b_faces_by_begin : MS := (mSeq (mSet 1 mSNew)
  (mSeq (mFor (iR1 (mCons (mOp rMul (mC (.int 2)) (mBlt bLen (mCons (mVar 0) mNil))) mNil)) (gNm 2) (mExpr (mMt mtAppend (mSSetd (mVar 1) (mOp rIxM (mCall FL.sp_ends_of_face (mCons (mVar 0) (mCons (mVar 2) mNil))) (mC (.int 0))) (mLst mNil)) (mCons (mVar 2) mNil))))
  (mRet (mVar 1))))
def b_quarter_to : MS := (mRet (mOp rAdd (mC (.int 1)) (mCall FL.sp_leaning (mCons (mVar 0) (mCons (mVar 1) mNil)))))
def b_is_met_sooner : MS := (mSeq (mIfS (mTst (mOp rNeM (mCall FL.sp_quarter_to (mCons (mVar 0) (mCons (mVar 1) mNil))) (mCall FL.sp_quarter_to (mCons (mVar 0) (mCons (mVar 2) mNil))))) (mRet (mOp aLt (mCall FL.sp_quarter_to (mCons (mVar 0) (mCons (mVar 1) mNil))) (mCall FL.sp_quarter_to (mCons (mVar 0) (mCons (mVar 2) mNil))))) mNext)
  (mRet (mOp rEqM (mCall FL.sp_leaning (mCons (mVar 2) (mCons (mVar 1) mNil))) (mC (.int 1)))))
def b_met_first : MS := (mSeq (mAsg (mCall FL.sp_ends_of_face (mCons (mVar 0) (mCons (mVar 1) mNil))) (gTp 2 (gCn (gNm 3) (gCn (gNm 4) gNl))))
  (mSeq (mSet 5 (mCall FL.sp_along (mCons (mTup (mCons (mVar 4) (mCons (mVar 3) mNil))) mNil)))
  (mSeq (mSet 6 (mCall FL.sp_other_face (mCons (mVar 1) mNil)))
  (mSeq (mSet 7 (mC .non))
  (mSeq (mFor (iS (mVar 2)) (gNm 8) (mSeq (mSet 9 (mCall FL.sp_along (mCons (mCall FL.sp_ends_of_face (mCons (mVar 0) (mCons (mVar 8) mNil))) mNil)))
  (mIfS (mAnd (mTst (mOp rNeM (mVar 8) (mCall FL.sp_other_face (mCons (mVar 1) mNil)))) (mOr (mTst (mOp rIsN (mVar 7) (mC .non))) (mTru (mCall FL.sp_is_met_sooner (mCons (mVar 5) (mCons (mVar 9) (mCons (mVar 7) mNil))))))) (mSeq (mSet 6 (mVar 8))
  (mSet 7 (mVar 9))) mNext)))
  (mRet (mVar 6)))))))
def b_behind : MS := (mRet (mCall FL.sp_met_first (mCons (mVar 0) (mCons (mVar 1) (mCons (mSGet (mCall FL.sp_faces_by_begin (mCons (mVar 0) mNil)) (mOp rIxM (mCall FL.sp_ends_of_face (mCons (mVar 0) (mCons (mVar 1) mNil))) (mC (.int 1)))) mNil)))))
def b_rings_of : MS := (mSeq (mSet 1 (mCall FL.sp_faces_by_begin (mCons (mVar 0) mNil)))
  (mSeq (mSet 2 (mLst mNil))
  (mSeq (mSet 3 mKNew)
  (mSeq (mFor (iR1 (mCons (mOp rMul (mC (.int 2)) (mBlt bLen (mCons (mVar 0) mNil))) mNil)) (gNm 4) (mSeq (mSet 5 (mLst mNil))
  (mSeq (mSet 6 (mVar 4))
  (mSeq (mWhile (mTst (mKIn true (mVar 6) (mVar 3))) (mSeq (mExpr (mMt mtAppend (mVar 5) (mCons (mVar 6) mNil)))
  (mSeq (mKPut (mC (.bl true)) (mVar 3) (mVar 6))
  (mSet 6 (mCall FL.sp_met_first (mCons (mVar 0) (mCons (mVar 6) (mCons (mSGet (mVar 1) (mOp rIxM (mCall FL.sp_ends_of_face (mCons (mVar 0) (mCons (mVar 6) mNil))) (mC (.int 1)))) mNil))))))))
  (mIfS (mTst (mOp rNeM (mVar 5) (mLstF mNil))) (mExpr (mMt mtAppend (mVar 2) (mCons (mVar 5) mNil))) mNext)))))
  (mRet (mVar 2))))))
end FL

-- FLQ    
set_option maxRecDepth 100000
set_option maxHeartbeats 4000000
namespace FL
open PySem PySem.Spec L2 ML
local macro_rules | `(tactic| simp $c:optConfig $[$d:discharger]? only [gv] $[$l:location]?) => `(tactic| simp $c $[$d]? only [↓ML.q_mSeq, ↓ML.q_mC, ↓ML.q_mOp, ↓ML.q_mUn, ↓ML.q_mTst, ↓ML.q_mNot, ↓ML.q_mNotV, ↓ML.q_mRet, ↓ML.q_mRetN, ↓ML.q_mExpr, ↓ML.q_mNext, ↓ML.q_mBreak, ↓ML.q_mCont, ↓ML.q_mAsg, ↓ML.q_gSb, ↓ML.q_mTup, ↓ML.q_mLst, ↓ML.q_mLstF, ↓ML.q_mCons, ↓ML.q_mNil, ↓ML.q_mBlt, ↓ML.q_rEqM, ↓ML.q_rNeM, ↓ML.q_iR1, ↓ML.q_iR2, ↓ML.q_iEn, ↓ML.q_iZp, ↓ML.q_mMt, ↓ML.q_mMt0, ↓ML.q_mYes, ↓ML.q_mCut, ↓ML.q_oNo, ↓ML.q_oSo, ↓ML.l_mCall, ↓ML.l_mAnd, ↓ML.l_mOr, ↓ML.l_mAndV, ↓ML.l_mOrV, ↓ML.l_mIf, ↓ML.l_mIfS, ↓ML.l_mChain, ↓ML.l_mVar, ↓ML.l_mFor, ↓ML.l_mWhile, ↓ML.l_mComp, ↓ML.l_mCompF, ↓ML.l_optP, ↓ML.l_Go, ↓ML.Hold_v, ↓ML.l_mSet, ↓ML.l_gNm, ↓ML.l_mPar, ↓ML.l_rIxM, ↓ML.l_rSetM, ↓ML.l_rInt, ↓ML.l_rInt0, ↓ML.l_rAdd_int, ↓ML.l_rAdd_str, ↓ML.l_rAdd_tup, ↓ML.l_rNeg, ↓ML.l_rIsN, ↓ML.l_rNotN, ↓ML.l_rIsBM, ↓ML.l_mTru, ↓ML.l_bLen, ↓ML.l_bAbs, ↓ML.l_bMax2, ↓ML.l_bMin2, ↓ML.l_bInt_i, ↓ML.l_bInt_b, ↓ML.l_bTuple, ↓ML.l_bListF, ↓ML.l_bList, ↓ML.l_mIsi, ↓ML.l_iL, ↓ML.l_iT, ↓ML.l_gTp, ↓ML.l_gLs, ↓ML.l_gCn, ↓ML.l_gNl, ↓ML.l_mtAppend, ML.Hold_v, ML.l_mVar_z, ML.l_mVar_s, ML.OptP_some, ML.Go_eq, ML.IteP_true, ML.IteP_false, ML.lstOf_ref', ML.lstOf_lst, ML.lstOf_scr, ML.lstOf_tup, ML.ownOf_ref', ML.ownOf_lst, ML.seqOf_tup', ML.seqOf_lst', ML.seqOf_scr', ML.seqOf_ref', ML.olP_lst, ML.tupOf_tup, ML.ixL_lit, ML.ixL_cast, ML.ixL_m1, ML.setAt_lit, ML.setAt_cast, ML.truD_bl, ML.truD_int, ML.truD_tup, ML.truD_lst, ML.truD_scr, ML.truD_non, ML.lenD_tup, ML.lenD_lst, ML.lenD_scr, ML.lenD_ref, ML.tyD_non, ML.tyD_bl, ML.tyD_int, ML.tyD_str, ML.tyD_tup, ML.tyD_lst, ML.szl, ML.szlt, ML.cpow_lit, ML.mulok_rl, ML.mulok_ll, ML.divok_l, ML.put_same, ML.put_put, ML.q_wipeM, ML.deq_int, ML.deq_bl, ML.deq_str, ML.deq_non, ML.eqOk_int, ML.eqOk_bl, ML.isTy_NoneType_int, ML.isTy_NoneType_bool, ML.isTy_NoneType_tuple, ML.isTy_NoneType_list, ML.isTy_NoneType_str, ML.isTy_bool_int, ML.isTy_bool_bool, ML.isTy_bool_tuple, ML.isTy_bool_list, ML.isTy_bool_str, ML.isTy_int_int, ML.isTy_int_bool, ML.isTy_int_tuple, ML.isTy_int_list, ML.isTy_int_str, ML.isTy_str_int, ML.isTy_str_bool, ML.isTy_str_tuple, ML.isTy_str_list, ML.isTy_str_str, ML.isTy_tuple_int, ML.isTy_tuple_bool, ML.isTy_tuple_tuple, ML.isTy_tuple_list, ML.isTy_tuple_str, ML.isTy_list_int, ML.isTy_list_bool, ML.isTy_list_tuple, ML.isTy_list_list, ML.isTy_list_str, ML.isTy_dict_int, ML.isTy_dict_bool, ML.isTy_dict_tuple, ML.isTy_dict_list, ML.isTy_dict_str, FL.tup_fr, FL.tup_sp, FL.tup_wl, FL.tupOf_fr, FL.tupOf_sp, FL.tupOf_wl, FL.nz0, FL.nz1, FL.nz2, FL.nz3, FL.look_non, FL.look_int, FL.look_bl, FL.look_str, FL.look_tup, FL.look_lst, FL.look_scr, FL.seqOf_fr, FL.seqOf_sp, FL.seqOf_wl, FL.look_fr, FL.look_sp, FL.look_wl, FL.eqOk_fr, FL.eqOk_sp, FL.eqOk_wl, FL.deq_fr, FL.deq_sp, FL.deq_wl, FL.tyD_fr, FL.tyD_sp, FL.tyD_wl, FL.isN_fr, FL.isN_sp, FL.isN_wl, FL.lenD_sp, FL.lenD_wl, FL.rAdd_wl_tup, List.length_map, List.map_cons, List.map_nil, List.replicate, List.set_cons_zero, List.set_cons_succ, List.getElem?_cons_zero, List.getElem?_cons_succ, List.cons_append, List.nil_append, List.length_cons, List.length_nil, Option.bind_some, Option.map_some, ↓reduceIte, Nat.reduceAdd, Nat.reduceSub, Nat.reduceLT, Nat.reduceLeDiff, Nat.zero_add, decide_eq_true_eq, Bool.not_eq_true, ne_eq, reduceCtorEq, not_false_eq_true, true_and, and_true, Bool.false_eq_true, Bool.not_true, Bool.not_false, decide_true, decide_false, not_true_eq_false, eq_self, Bool.not_eq_eq_eq_not, if_true, if_false, decide_eq_false_iff_not, ML.ncast, Int.reduceToNat, Int.reducePow, Int.reduceAdd, Int.reduceSub, Int.reduceMul, Int.reduceNeg, Int.reduceLT, Int.reduceLE, Int.reduceEq, Nat.reduceEqDiff, Int.zero_add, gt_iff_lt, beq_self_eq_true, Bool.true_beq, Bool.false_beq, Bool.and_true, Bool.and_false, Bool.true_and, Bool.false_and, ↓ML.l_mtInsert, ↓ML.l_mtReverse, ↓ML.l_mtClear, ↓ML.l_bSortU, ↓ML.q_mMt0, ↓ML.l_bMaxL, ↓ML.l_bMinL, ↓ML.l_aLt_int, ↓ML.l_aLt_u, ↓ML.l_aGt_int, ↓ML.l_aGt_u, ↓ML.l_aLe_int, ↓ML.l_aLe_u, ↓ML.l_aGe_int, ↓ML.l_aGe_u, ↓ML.l_bMaxA_int, ↓ML.l_bMaxA_u, ↓ML.l_bMinA_int, ↓ML.l_bMinA_u, ML.tup_u, ML.tupOf_u, ML.seqOf_u, ML.sqI_u, ML.look_u, ML.isN_u, ML.lenD_u, ML.tyD_u, ML.tup_uw, ML.tupOf_uw, ML.seqOf_uw, ML.sqI_uw, ML.look_uw, ML.isN_uw, ML.lenD_uw, ML.tyD_uw, ML.eqOk_u, ML.eqOk_uw, ML.deq_u, ML.deq_uw, ML.in_uw, ↓ML.l_mRaise, ↓ML.l_mTry, ↓ML.l_mIsE, ↓ML.l_mIsV, ↓ML.l_mtCount, ↓ML.l_rAddS_rl, ↓ML.l_rAddS_ll, ML.excD_ref, ML.excOf_exc, ML.blsOf_nil, ML.blsOf_cons, ML.endM_nx, ML.endM_rt, ↓ML.l_mYes, ↓ML.l_iS, ↓ML.l_mIfJ, ↓ML.l_mJ, ↓ML.CrollP_nil, ↓ML.CrollP_cons, ↓ML.CrA_at, ↓ML.FrollP_nil, ↓ML.FrollP_cons, ML.isN_non, ML.isN_int, ML.isN_bl, ML.isN_str, ML.isN_tup, ML.isN_lst, ML.isN_ref, ML.sqI_tup, ML.sqI_lst, ML.sqI_scr, ML.sqI_ref, ML.sqI_at, ML.rngD_0, ML.rngD_1, ML.rngD_2, ML.rngD_3, ML.rngD_4, ML.rngD_6, ML.q_wipeM_nil, ML.q_wipeM_cons, FL.sqI_sp, FL.sqI_wl, FL.l_rAdd_rl, FL.l_rAdd_ll, FL.l_rAdd_lr, FL.l_rAdd_rr, FL.in_ints, FL.in_lu, ↓ML.l_mListR, ↓ML.l_mDIn, ↓ML.l_mDPut, ↓ML.l_mDNew, ML.dtD_ref, ML.dtO_dT, ML.keysD_nil, ML.keysD_int, ↓ML.l_mRev2, ↓ML.l_bSum, ↓ML.l_iEnT, ↓ML.l_mSortSet, ↓ML.l_mSNew, ↓ML.l_mSGet, ↓ML.l_mSSetd, ↓ML.l_mKNew, ↓ML.l_mKIn, ↓ML.l_mKGet, ↓ML.l_mKPut, ML.dsD_ref, ML.dsO_dS, ML.dkD_ref, ML.dkO_dK, ML.keyD_i] $[$l]?)
local macro_rules | `(tactic| simp $c:optConfig $[$d:discharger]? only [gv, $ls,*] $[$l:location]?) => `(tactic| simp $c $[$d]? only [↓ML.q_mSeq, ↓ML.q_mC, ↓ML.q_mOp, ↓ML.q_mUn, ↓ML.q_mTst, ↓ML.q_mNot, ↓ML.q_mNotV, ↓ML.q_mRet, ↓ML.q_mRetN, ↓ML.q_mExpr, ↓ML.q_mNext, ↓ML.q_mBreak, ↓ML.q_mCont, ↓ML.q_mAsg, ↓ML.q_gSb, ↓ML.q_mTup, ↓ML.q_mLst, ↓ML.q_mLstF, ↓ML.q_mCons, ↓ML.q_mNil, ↓ML.q_mBlt, ↓ML.q_rEqM, ↓ML.q_rNeM, ↓ML.q_iR1, ↓ML.q_iR2, ↓ML.q_iEn, ↓ML.q_iZp, ↓ML.q_mMt, ↓ML.q_mMt0, ↓ML.q_mYes, ↓ML.q_mCut, ↓ML.q_oNo, ↓ML.q_oSo, ↓ML.l_mCall, ↓ML.l_mAnd, ↓ML.l_mOr, ↓ML.l_mAndV, ↓ML.l_mOrV, ↓ML.l_mIf, ↓ML.l_mIfS, ↓ML.l_mChain, ↓ML.l_mVar, ↓ML.l_mFor, ↓ML.l_mWhile, ↓ML.l_mComp, ↓ML.l_mCompF, ↓ML.l_optP, ↓ML.l_Go, ↓ML.Hold_v, ↓ML.l_mSet, ↓ML.l_gNm, ↓ML.l_mPar, ↓ML.l_rIxM, ↓ML.l_rSetM, ↓ML.l_rInt, ↓ML.l_rInt0, ↓ML.l_rAdd_int, ↓ML.l_rAdd_str, ↓ML.l_rAdd_tup, ↓ML.l_rNeg, ↓ML.l_rIsN, ↓ML.l_rNotN, ↓ML.l_rIsBM, ↓ML.l_mTru, ↓ML.l_bLen, ↓ML.l_bAbs, ↓ML.l_bMax2, ↓ML.l_bMin2, ↓ML.l_bInt_i, ↓ML.l_bInt_b, ↓ML.l_bTuple, ↓ML.l_bListF, ↓ML.l_bList, ↓ML.l_mIsi, ↓ML.l_iL, ↓ML.l_iT, ↓ML.l_gTp, ↓ML.l_gLs, ↓ML.l_gCn, ↓ML.l_gNl, ↓ML.l_mtAppend, ML.Hold_v, ML.l_mVar_z, ML.l_mVar_s, ML.OptP_some, ML.Go_eq, ML.IteP_true, ML.IteP_false, ML.lstOf_ref', ML.lstOf_lst, ML.lstOf_scr, ML.lstOf_tup, ML.ownOf_ref', ML.ownOf_lst, ML.seqOf_tup', ML.seqOf_lst', ML.seqOf_scr', ML.seqOf_ref', ML.olP_lst, ML.tupOf_tup, ML.ixL_lit, ML.ixL_cast, ML.ixL_m1, ML.setAt_lit, ML.setAt_cast, ML.truD_bl, ML.truD_int, ML.truD_tup, ML.truD_lst, ML.truD_scr, ML.truD_non, ML.lenD_tup, ML.lenD_lst, ML.lenD_scr, ML.lenD_ref, ML.tyD_non, ML.tyD_bl, ML.tyD_int, ML.tyD_str, ML.tyD_tup, ML.tyD_lst, ML.szl, ML.szlt, ML.cpow_lit, ML.mulok_rl, ML.mulok_ll, ML.divok_l, ML.put_same, ML.put_put, ML.q_wipeM, ML.deq_int, ML.deq_bl, ML.deq_str, ML.deq_non, ML.eqOk_int, ML.eqOk_bl, ML.isTy_NoneType_int, ML.isTy_NoneType_bool, ML.isTy_NoneType_tuple, ML.isTy_NoneType_list, ML.isTy_NoneType_str, ML.isTy_bool_int, ML.isTy_bool_bool, ML.isTy_bool_tuple, ML.isTy_bool_list, ML.isTy_bool_str, ML.isTy_int_int, ML.isTy_int_bool, ML.isTy_int_tuple, ML.isTy_int_list, ML.isTy_int_str, ML.isTy_str_int, ML.isTy_str_bool, ML.isTy_str_tuple, ML.isTy_str_list, ML.isTy_str_str, ML.isTy_tuple_int, ML.isTy_tuple_bool, ML.isTy_tuple_tuple, ML.isTy_tuple_list, ML.isTy_tuple_str, ML.isTy_list_int, ML.isTy_list_bool, ML.isTy_list_tuple, ML.isTy_list_list, ML.isTy_list_str, ML.isTy_dict_int, ML.isTy_dict_bool, ML.isTy_dict_tuple, ML.isTy_dict_list, ML.isTy_dict_str, FL.tup_fr, FL.tup_sp, FL.tup_wl, FL.tupOf_fr, FL.tupOf_sp, FL.tupOf_wl, FL.nz0, FL.nz1, FL.nz2, FL.nz3, FL.look_non, FL.look_int, FL.look_bl, FL.look_str, FL.look_tup, FL.look_lst, FL.look_scr, FL.seqOf_fr, FL.seqOf_sp, FL.seqOf_wl, FL.look_fr, FL.look_sp, FL.look_wl, FL.eqOk_fr, FL.eqOk_sp, FL.eqOk_wl, FL.deq_fr, FL.deq_sp, FL.deq_wl, FL.tyD_fr, FL.tyD_sp, FL.tyD_wl, FL.isN_fr, FL.isN_sp, FL.isN_wl, FL.lenD_sp, FL.lenD_wl, FL.rAdd_wl_tup, List.length_map, List.map_cons, List.map_nil, List.replicate, List.set_cons_zero, List.set_cons_succ, List.getElem?_cons_zero, List.getElem?_cons_succ, List.cons_append, List.nil_append, List.length_cons, List.length_nil, Option.bind_some, Option.map_some, ↓reduceIte, Nat.reduceAdd, Nat.reduceSub, Nat.reduceLT, Nat.reduceLeDiff, Nat.zero_add, decide_eq_true_eq, Bool.not_eq_true, ne_eq, reduceCtorEq, not_false_eq_true, true_and, and_true, Bool.false_eq_true, Bool.not_true, Bool.not_false, decide_true, decide_false, not_true_eq_false, eq_self, Bool.not_eq_eq_eq_not, if_true, if_false, decide_eq_false_iff_not, ML.ncast, Int.reduceToNat, Int.reducePow, Int.reduceAdd, Int.reduceSub, Int.reduceMul, Int.reduceNeg, Int.reduceLT, Int.reduceLE, Int.reduceEq, Nat.reduceEqDiff, Int.zero_add, gt_iff_lt, beq_self_eq_true, Bool.true_beq, Bool.false_beq, Bool.and_true, Bool.and_false, Bool.true_and, Bool.false_and, ↓ML.l_mtInsert, ↓ML.l_mtReverse, ↓ML.l_mtClear, ↓ML.l_bSortU, ↓ML.q_mMt0, ↓ML.l_bMaxL, ↓ML.l_bMinL, ↓ML.l_aLt_int, ↓ML.l_aLt_u, ↓ML.l_aGt_int, ↓ML.l_aGt_u, ↓ML.l_aLe_int, ↓ML.l_aLe_u, ↓ML.l_aGe_int, ↓ML.l_aGe_u, ↓ML.l_bMaxA_int, ↓ML.l_bMaxA_u, ↓ML.l_bMinA_int, ↓ML.l_bMinA_u, ML.tup_u, ML.tupOf_u, ML.seqOf_u, ML.sqI_u, ML.look_u, ML.isN_u, ML.lenD_u, ML.tyD_u, ML.tup_uw, ML.tupOf_uw, ML.seqOf_uw, ML.sqI_uw, ML.look_uw, ML.isN_uw, ML.lenD_uw, ML.tyD_uw, ML.eqOk_u, ML.eqOk_uw, ML.deq_u, ML.deq_uw, ML.in_uw, ↓ML.l_mRaise, ↓ML.l_mTry, ↓ML.l_mIsE, ↓ML.l_mIsV, ↓ML.l_mtCount, ↓ML.l_rAddS_rl, ↓ML.l_rAddS_ll, ML.excD_ref, ML.excOf_exc, ML.blsOf_nil, ML.blsOf_cons, ML.endM_nx, ML.endM_rt, ↓ML.l_mYes, ↓ML.l_iS, ↓ML.l_mIfJ, ↓ML.l_mJ, ↓ML.CrollP_nil, ↓ML.CrollP_cons, ↓ML.CrA_at, ↓ML.FrollP_nil, ↓ML.FrollP_cons, ML.isN_non, ML.isN_int, ML.isN_bl, ML.isN_str, ML.isN_tup, ML.isN_lst, ML.isN_ref, ML.sqI_tup, ML.sqI_lst, ML.sqI_scr, ML.sqI_ref, ML.sqI_at, ML.rngD_0, ML.rngD_1, ML.rngD_2, ML.rngD_3, ML.rngD_4, ML.rngD_6, ML.q_wipeM_nil, ML.q_wipeM_cons, FL.sqI_sp, FL.sqI_wl, FL.l_rAdd_rl, FL.l_rAdd_ll, FL.l_rAdd_lr, FL.l_rAdd_rr, FL.in_ints, FL.in_lu, ↓ML.l_mListR, ↓ML.l_mDIn, ↓ML.l_mDPut, ↓ML.l_mDNew, ML.dtD_ref, ML.dtO_dT, ML.keysD_nil, ML.keysD_int, ↓ML.l_mRev2, ↓ML.l_bSum, ↓ML.l_iEnT, ↓ML.l_mSortSet, ↓ML.l_mSNew, ↓ML.l_mSGet, ↓ML.l_mSSetd, ↓ML.l_mKNew, ↓ML.l_mKIn, ↓ML.l_mKGet, ↓ML.l_mKPut, ML.dsD_ref, ML.dsO_dS, ML.dkD_ref, ML.dkO_dK, ML.keyD_i, $ls,*] $[$l]?)
-- counts /tmp/scratch/dev/N_lib13.json
theorem l_other_face : ∀ ds S Q E, FL.sp_other_face ds S Q E → ds.length = 1 := by rintro _ _ _ _ ⟨_, rfl, _⟩; rfl
theorem l_faces_by_begin : ∀ ds S Q E, FL.sp_faces_by_begin ds S Q E → ds.length = 1 := by rintro _ _ _ _ ⟨_, _, _, _, rfl, _⟩; rfl
theorem l_quarter_to : ∀ ds S Q E, FL.sp_quarter_to ds S Q E → ds.length = 2 := by rintro _ _ _ _ ⟨_, _, _, _, rfl, _⟩; rfl
theorem l_is_met_sooner : ∀ ds S Q E, FL.sp_is_met_sooner ds S Q E → ds.length = 3 := by rintro _ _ _ _ ⟨_, _, _, _, _, rfl, _⟩; rfl
theorem l_met_first : ∀ ds S Q E, FL.sp_met_first ds S Q E → ds.length = 3 := by rintro _ _ _ _ ⟨_, _, _, _, _, _, rfl, _⟩; rfl
theorem l_behind : ∀ ds S Q E, FL.sp_behind ds S Q E → ds.length = 2 := by rintro _ _ _ _ ⟨_, _, _, _, _, rfl, _⟩; rfl
theorem l_rings_of : ∀ ds S Q E, FL.sp_rings_of ds S Q E → ds.length = 1 := by rintro _ _ _ _ ⟨_, _, _, _, rfl, _⟩; rfl
theorem r_other_face : ∀ ds S Q E, FL.sp_other_face ds S Q E → b_other_face (mends Q E) (mstart 0 ds) S := by
  rintro _ S Q E ⟨f, rfl, hf, k⟩
  unfold b_other_face
  simp only [ML.q_mstart, ML.q_mends, List.map_cons, List.map_nil, List.replicate, List.cons_append, List.nil_append]
  simp only [gv, (f2 f).2]
  rw [show ((f : Nat) : Int) + 1 - 2 * ((f % 2 : Nat) : Int) = ((opp f : Nat) : Int) by unfold opp; split <;> omega]
  exact k
theorem r_quarter_to : ∀ ds S Q E, FL.sp_quarter_to ds S Q E → b_quarter_to (mends Q E) (mstart 0 ds) S := by
  rintro _ S Q E ⟨s, v, b, x, rfl, hs, hv, hb, hx, k⟩
  unfold b_quarter_to
  simp only [ML.q_mstart, ML.q_mends, List.map_cons, List.map_nil, List.replicate, List.cons_append, List.nil_append]
  simp only [gv]
  refine t_lean hs hv hb hx ?_
  simp only [gv]
  exact k
theorem r_is_met_sooner : ∀ ds S Q E, FL.sp_is_met_sooner ds S Q E → b_is_met_sooner (mends Q E) (mstart 0 ds) S := by
  rintro _ S Q E ⟨s, v, b, x, y, rfl, hs, hv, hb, hx, hy, k⟩
  unfold b_is_met_sooner
  simp only [ML.q_mstart, ML.q_mends, List.map_cons, List.map_nil, List.replicate, List.cons_append, List.nil_append]
  unfold cyc at k
  simp only [gv]
  refine ⟨s, v, b, x, rfl, hs, hv, hb, hx, ?_⟩
  simp only [gv]
  refine ⟨s, v, b, y, rfl, hs, hv, hb, hy, ?_⟩
  simp only [gv]
  refine ⟨fun h => ?_, fun h => ?_⟩
  · simp only [gv]
    refine ⟨s, v, b, x, rfl, hs, hv, hb, hx, ?_⟩
    simp only [gv]
    refine ⟨s, v, b, y, rfl, hs, hv, hb, hy, ?_⟩
    simp only [gv]
    have e : decide (isg (icr (usb b v) (usb x v)) < isg (icr (usb b v) (usb y v)) ∨ isg (icr (usb b v) (usb x v)) = isg (icr (usb b v) (usb y v)) ∧ icr (usb x v) (usb y v) < 0) = decide (1 + isg (icr (usb b v) (usb x v)) < 1 + isg (icr (usb b v) (usb y v))) := by
      rw [decide_eq_decide]; omega
    rw [e] at k
    exact k
  · simp only [gv]
    refine t_lean hs hv hy hx ?_
    simp only [gv]
    have e : decide (isg (icr (usb b v) (usb x v)) < isg (icr (usb b v) (usb y v)) ∨ isg (icr (usb b v) (usb x v)) = isg (icr (usb b v) (usb y v)) ∧ icr (usb x v) (usb y v) < 0) = decide (isg (icr (usb y v) (usb x v)) = 1) := by
      rw [decide_eq_decide, icr_swap (usb x v) (usb y v)]
      rcases isg_cases (icr (usb y v) (usb x v)) with ⟨g1, g2⟩ | ⟨g1, g2⟩ | ⟨g1, g2⟩ <;> omega
    rw [e] at k
    exact k
def optW (s : Sc) (v : U2) : Option U2 → D
  | none => .non
  | some u => spD (vw s v u)
theorem r_met_first : ∀ ds S Q E, FL.sp_met_first ds S Q E → b_met_first (mends Q E) (mstart 7 ds) S := by
  rintro _ S Q E ⟨s, m, z, ws, f, d, rfl, hs, dr, hm, hz, hf, hd, k⟩
  have lw := dr.len
  have lp : (pltW s ws).length = ws.length := plt_len s ws
  obtain ⟨G, eG, hG⟩ := hd.itx
  have uf := uface_ok dr hz hf
  unfold b_met_first
  simp only [ML.q_mstart, ML.q_mends, List.map_cons, List.map_nil, List.replicate, List.cons_append, List.nil_append]
  simp only [gv]
  refine ⟨pltW s ws, f, rfl, by rw [lp]; exact hf, by omega, ?_⟩
  rw [wface_plt hf]
  simp only [gv]
  refine t_way (v := (uface ws f).2) (x := (uface ws f).1) hs uf.2 uf.1 ?_
  simp only [gv]
  refine ⟨f, rfl, by omega, ?_⟩
  simp only [gv, eG]
  have eb : behindU ws f = (((waysAt ws (uface ws f).2).filter fun g => !decide (g = opp f)).foldl (stepB ws f) (opp f, none)).1 := by rw [← waysB_at]; rfl
  rw [eb] at k
  have hW : ∀ g ∈ waysAt ws (uface ws f).2, g < 2 * ws.length ∧ (uface ws g).1 = (uface ws f).2 := fun g hg => mem_waysAt.mp hg
  have ow : ∀ i : Nat, (∀ e, ((((waysAt ws (uface ws f).2).take i).filter fun g => !decide (g = opp f)).foldl (stepB ws f) (opp f, none)).2 = some e → UOk (2 ^ 20) e) := by
    intro i
    have gen : ∀ (M : List Nat) (s : Nat × Option U2), (∀ g ∈ M, g < 2 * ws.length) → (∀ e, s.2 = some e → UOk (2 ^ 20) e) → ∀ e, (M.foldl (stepB ws f) s).2 = some e → UOk (2 ^ 20) e := by
      intro M
      induction M with
      | nil => intro s _ h; exact h
      | cons x M ih =>
        intro s hM h
        rw [List.foldl_cons]
        have ux := uface_ok dr hz (hM x List.mem_cons_self)
        refine ih _ (fun g hg => hM g (List.mem_cons_of_mem _ hg)) fun e he => ?_
        obtain ⟨s1, s2⟩ := s
        cases s2 with
        | none => cases he; exact ux.2
        | some y =>
          simp only [stepB] at he
          split at he
          · cases he; exact ux.2
          · exact h e he
    exact gen _ _ (fun g hg => (hW g (List.mem_of_mem_take (List.mem_filter.mp hg).1)).1) (fun e he => by cases he)
  generalize waysAt ws (uface ws f).2 = M at *
  refine wfor_inv (fun i σ S' => @KP ⟨(∃ a b, σ = [some (.tup ((pltW s ws).map wlD)), some (.int (f : Nat)), some d, some (spD (af s (ofU (uface ws f).1))), some (spD (af s (ofU (uface ws f).2))), some (spD (vw s (uface ws f).2 (uface ws f).1)), some (.int ((((M.take i).filter fun g => !decide (g = opp f)).foldl (stepB ws f) (opp f, none)).1 : Nat)), some (optW s (uface ws f).2 (((M.take i).filter fun g => !decide (g = opp f)).foldl (stepB ws f) (opp f, none)).2), a, b]) ∧ S' = S⟩) ⟨⟨_, _, rfl⟩, rfl⟩ ?_ ?_
  · rintro i dd σ S2 hdd ⟨⟨a, b, rfl⟩, rfl⟩
    rw [List.getElem?_map] at hdd
    cases ei : M[i]? with
    | none => rw [ei] at hdd; cases hdd
    | some g =>
      rw [ei] at hdd; cases hdd
      obtain ⟨hg, hgb⟩ := hW g (List.mem_of_getElem? ei)
      have ug := uface_ok dr hz hg
      have tk : M.take (i + 1) = M.take i ++ [g] := by rw [List.take_add_one, ei]; rfl
      have owi := ow i
      refine ⟨hG _ hd, ?_⟩
      rw [tk, List.filter_append, List.foldl_append]
      generalize ((M.take i).filter fun g => !decide (g = opp f)).foldl (stepB ws f) (opp f, none) = t at *
      obtain ⟨t1, t2⟩ := t
      simp only [gv, nD]
      refine ⟨pltW s ws, g, rfl, by rw [lp]; exact hg, by omega, ?_⟩
      rw [wface_plt hg, show uface ws g = ((uface ws f).2, (uface ws g).2) from Prod.ext hgb rfl]
      simp only [gv]
      refine t_way hs uf.2 ug.2 ?_
      simp only [gv]
      refine ⟨f, rfl, by omega, ?_⟩
      simp only [gv]
      refine ⟨fun h1 => ?_, fun h1 => ?_⟩
      · have ne : g ≠ opp f := fun z => h1 (by rw [z])
        have fl : ([g].filter fun g => !decide (g = opp f)) = [g] := by simp [ne]
        rw [fl, List.foldl_cons, List.foldl_nil]
        cases t2 with
        | none =>
          simp only [gv, optW]
          exact KP.mk ⟨⟨some (.int (g : Nat)), some (spD (vw s (uface ws f).2 (uface ws g).2)), rfl⟩, rfl⟩
        | some e =>
          simp only [gv, optW]
          refine ⟨s, (uface ws f).2, (uface ws f).1, (uface ws g).2, e, rfl, hs, uf.2, uf.1, ug.2, owi e rfl, ?_⟩
          simp only [gv]
          have eq : stepB ws f (t1, some e) g = if cyc (usb (uface ws f).1 (uface ws f).2) (usb (uface ws g).2 (uface ws f).2) (usb e (uface ws f).2) then (g, some (uface ws g).2) else (t1, some e) := rfl
          refine ⟨fun h => ?_, fun h => ?_⟩
          · simp only [gv]
            rw [eq, if_pos h]
            exact KP.mk ⟨⟨some (.int (g : Nat)), some (spD (vw s (uface ws f).2 (uface ws g).2)), rfl⟩, rfl⟩
          · simp only [gv]
            rw [eq, if_neg h]
            exact KP.mk ⟨⟨some (.int (g : Nat)), some (spD (vw s (uface ws f).2 (uface ws g).2)), rfl⟩, rfl⟩
      · have ee : g = opp f := by omega
        have fl : ([g].filter fun g => !decide (g = opp f)) = [] := by simp [ee]
        rw [fl, List.foldl_nil]
        simp only [gv]
        exact KP.mk ⟨⟨some (.int (g : Nat)), some (spD (vw s (uface ws f).2 (uface ws g).2)), rfl⟩, rfl⟩
  · rintro σ S2 ⟨⟨a, b, rfl⟩, rfl⟩
    rw [List.length_map, List.take_length]
    refine ⟨hG _ hd, ?_⟩
    simp only [gv]
    exact k
theorem ext0_ne {S S' : Sto} {p : Addr} {o : MO} (h : S p = none) (x : Ext0 S S') : Ext0 S (put S' p o) := fun q u e => by
  rw [put_ne (fun z => by rw [z, h] at e; cases e)]; exact x q u e
theorem r_faces_by_begin : ∀ ds S Q E, FL.sp_faces_by_begin ds S Q E → b_faces_by_begin (mends Q E) (mstart 2 ds) S := by
  rintro _ S Q E ⟨s, m, z, ws, rfl, hs, dr, hm, hz, k⟩
  have lw := dr.len
  have lp : (pltW s ws).length = ws.length := plt_len s ws
  unfold b_faces_by_begin
  simp only [ML.q_mstart, ML.q_mends, List.map_cons, List.map_nil, List.replicate, List.cons_append, List.nil_append]
  simp only [gv]
  intro q hq
  rw [lp]
  refine ⟨by omega, ?_⟩
  rw [show (2 * (ws.length : Int)).toNat = 2 * ws.length by omega]
  refine rng_inv (fun i σ S' => @KP ⟨∃ es : List (U2 × Addr), (∃ a, σ = [some (.tup ((pltW s ws).map wlD)), some (.ref q), a]) ∧ Ext0 S S' ∧ S' q = some (.dS (dictU s es)) ∧ es.length ≤ i ∧ (∀ e ∈ es, S' e.2 = some (.lst ((waysTo ws i e.1).map nD)) ∧ e.2 ≠ q ∧ S e.2 = none) ∧ es.Pairwise (fun a b => a.1 ≠ b.1 ∧ a.2 ≠ b.2) ∧ ∀ f, f < i → ∃ e ∈ es, e.1 = (uface ws f).1⟩) ⟨[], ⟨_, rfl⟩, ext0_put hq, put_same, by simp, (fun e he => by cases he), .nil, fun f hf => absurd hf (by omega)⟩ ?_ ?_
  · rintro f σ S1 hf ⟨es, ⟨a, rfl⟩, x1, hq1, hl, hes, hp, hc⟩
    have hf' : f < 2 * ws.length := hf
    simp only [gv]
    refine ⟨⟨_, by rw [hq1]; rfl⟩, pltW s ws, f, rfl, by rw [lp]; exact hf', by omega, ?_⟩
    rw [wface_plt hf']
    simp only [gv]
    intro r hr
    have rq : q ≠ r := sne hq1 hr
    have hq2 : put S1 r (.lst []) q = some (.dS (dictU s es)) := by rw [put_ne rq]; exact hq1
    simp only [gv, hq2, k4Of_sp]
    rw [show kP (afw s (ofW (uface ws f))).1 = kU s (uface ws f).1 from rfl]
    have ld : (dictU s es).length = es.length := List.length_map ..
    have inj : ∀ e ∈ es, ∀ e' ∈ es, e.1 = e'.1 ∨ e.2 = e'.2 → e = e' := by
      intro e he e' he' h
      by_cases z : e = e'
      · exact z
      · exfalso
        obtain ⟨i, hi, ei⟩ := List.getElem_of_mem he
        obtain ⟨j, hj, ej⟩ := List.getElem_of_mem he'
        rcases Nat.lt_trichotomy i j with c | c | c
        · have p1 := List.pairwise_iff_getElem.mp hp i j hi hj c
          rw [ei, ej] at p1
          rcases h with h | h
          · exact p1.1 h
          · exact p1.2 h
        · subst c; exact z (ei.symm.trans ej)
        · have p1 := List.pairwise_iff_getElem.mp hp j i hj hi c
          rw [ei, ej] at p1
          rcases h with h | h
          · exact p1.1 h.symm
          · exact p1.2 h.symm
    by_cases hex : ∃ e ∈ es, e.1 = (uface ws f).1
    · obtain ⟨e, he, ev, eV⟩ := dictU_some hs hex
      obtain ⟨he1, heq, heS⟩ := hes e he
      have er : e.2 ≠ r := fun z => by rw [z, hr] at he1; cases he1
      refine ⟨by rw [ld, sizeLine_eq]; omega, fun v hv => ?_, fun hn => by rw [eV] at hn; cases hn⟩
      rw [eV] at hv; cases hv
      have he2 : put S1 r (.lst []) e.2 = some (.lst ((waysTo ws f e.1).map nD)) := by rw [put_ne er]; exact he1
      have wl : (waysTo ws f e.1).length ≤ f := by
        have := List.length_filter_le (fun g => decide ((uface ws g).1 = e.1)) (List.range f)
        rw [List.length_range] at this; exact this
      refine ⟨of_eq_true (isLst_ref he2), ?_⟩
      simp only [gv, he2]
      have up : ∀ x o, x ≠ e.2 → S1 x = some o → put (put S1 r (.lst [])) e.2 (.lst ((waysTo ws f e.1).map nD ++ [.int (f : Nat)])) x = some o := fun x o xe h => by
        rw [put_ne xe, put_ne (fun z => by rw [z, hr] at h; cases h)]; exact h
      refine ⟨by rw [sizeLine_eq]; omega, KP.mk ⟨es, ⟨_, rfl⟩, fun x o h => up x o (fun z => by rw [z, heS] at h; cases h) (x1 x o h), up q _ (Ne.symm heq) hq1, by omega, fun e' he' => ?_, hp, fun g hg => ?_⟩⟩
      · obtain ⟨k1, k2, k3⟩ := hes e' he'
        refine ⟨?_, k2, k3⟩
        rw [waysTo_succ]
        by_cases z : e' = e
        · rw [z, put_same, if_pos ev.symm, List.map_append]; rfl
        · rw [if_neg (fun y => z (inj e' he' e he (.inl (y.symm.trans ev.symm)))), List.append_nil]
          exact up _ _ (fun y => z (inj e' he' e he (.inr y))) k1
      · rcases Nat.lt_or_ge g f with h | h
        · exact hc g h
        · exact ⟨e, he, by rw [ev, show g = f by omega]⟩
    · have hno : ∀ e ∈ es, e.1 ≠ (uface ws f).1 := fun e he z => hex ⟨e, he, z⟩
      refine ⟨by rw [ld, sizeLine_eq]; omega, fun v hv => (by rw [dictU_none hs hno] at hv; cases hv), fun _ => ?_⟩
      have hr3 : put (put S1 r (.lst [])) q (.dS (dictU s es ++ [(kU s (uface ws f).1, .ref r)])) r = some (.lst []) := by rw [put_ne (Ne.symm rq), put_same]
      refine ⟨of_eq_true (isLst_ref hr3), ?_⟩
      simp only [gv, hr3]
      have hrS : S r = none := by
        cases c : S r with
        | none => rfl
        | some o => rw [x1 r o c] at hr; cases hr
      have w0 : waysTo ws f (uface ws f).1 = [] := by
        unfold waysTo
        rw [List.filter_eq_nil_iff]
        intro g hg
        obtain ⟨e, he, e1⟩ := hc g (List.mem_range.mp hg)
        rw [decide_eq_true_eq]
        exact fun z => hno e he (e1.trans z)
      generalize hS3 : put (put S1 r (.lst [])) q (.dS (dictU s es ++ [(kU s (uface ws f).1, .ref r)])) = S3 at *
      have up : ∀ x o, x ≠ q → S1 x = some o → put S3 r (.lst [.int (f : Nat)]) x = some o := fun x o xq h => by
        have xr : x ≠ r := fun z => by rw [z, hr] at h; cases h
        rw [put_ne xr, ← hS3, put_ne xq, put_ne xr]; exact h
      refine KP.mk ⟨es ++ [((uface ws f).1, r)], ⟨_, rfl⟩, fun x o h => up x o (fun z => by rw [z, hq] at h; cases h) (x1 x o h), ?_, by rw [List.length_append, List.length_singleton]; omega, fun e' he' => ?_, ?_, fun g hg => ?_⟩
      · rw [put_ne rq, ← hS3, put_same]
        unfold dictU
        rw [List.map_append]; rfl
      · rcases List.mem_append.mp he' with h | h
        · obtain ⟨k1, k2, k3⟩ := hes e' h
          refine ⟨?_, k2, k3⟩
          rw [waysTo_succ, if_neg (fun y => hno e' h y.symm), List.append_nil]
          exact up _ _ k2 k1
        · rw [List.mem_singleton.mp h]
          refine ⟨?_, Ne.symm rq, hrS⟩
          rw [put_same, waysTo_succ, if_pos rfl, w0]; rfl
      · rw [List.pairwise_append]
        refine ⟨hp, List.pairwise_singleton _ _, fun a ha b hb => ?_⟩
        rw [List.mem_singleton.mp hb]
        exact ⟨hno a ha, fun z => by have z : a.2 = r := z; rw [← z, (hes a ha).1] at hr; cases hr⟩
      · rcases Nat.lt_or_ge g f with h | h
        · obtain ⟨e, he, e1⟩ := hc g h
          exact ⟨e, List.mem_append_left _ he, e1⟩
        · exact ⟨_, List.mem_append_right _ (List.mem_singleton.mpr rfl), by rw [show g = f by omega]⟩
  · rintro σ S1 ⟨es, ⟨a, rfl⟩, x1, hq1, hl, hes, hp, hc⟩
    simp only [gv]
    exact k q es S1 x1 ⟨hq1, fun e he => (hes e he).1, hc⟩
theorem begins_at {s : Sc} {m : Nat} {z : Int} {ws : List UW} {S : Sto} {q : Addr} {es : List (U2 × Addr)} (hs : ScOk s) (dr : Drawn m z ws) (b : Begins s ws S q es) {f : Nat} (hf : f < 2 * ws.length) :
    ∃ r, valD (dictU s es) (kU s (uface ws f).2) = some (.ref r) ∧ S r = some (.lst ((waysAt ws (uface ws f).2).map nD)) := by
  obtain ⟨e, he, e1⟩ := b.2.2 (opp f) (opp_lt hf)
  rw [uface_opp] at e1
  obtain ⟨e', he', e2, e3⟩ := dictU_some hs ⟨e, he, e1⟩
  have e2 : e'.1 = (uface ws f).2 := e2
  exact ⟨e'.2, e3, by rw [← e2]; exact b.2.1 e' he'⟩
theorem r_behind : ∀ ds S Q E, FL.sp_behind ds S Q E → b_behind (mends Q E) (mstart 0 ds) S := by
  rintro _ S Q E ⟨s, m, z, ws, f, rfl, hs, dr, hm, hz, hf, k⟩
  have lw := dr.len
  have lp : (pltW s ws).length = ws.length := plt_len s ws
  unfold b_behind
  simp only [ML.q_mstart, ML.q_mends, List.map_cons, List.map_nil, List.replicate, List.cons_append, List.nil_append]
  simp only [gv]
  refine ⟨s, m, z, ws, rfl, hs, dr, hm, hz, fun q es S1 x1 hb => ?_⟩
  simp only [gv]
  refine ⟨pltW s ws, f, rfl, by rw [lp]; exact hf, by omega, ?_⟩
  rw [wface_plt hf]
  simp only [gv, k4Of_sp, hb.1]
  rw [show kP (afw s (ofW (uface ws f))).2 = kU s (uface ws f).2 from rfl]
  obtain ⟨r, eV, hr⟩ := begins_at hs dr hb hf
  rw [eV]
  simp only [gv]
  refine ⟨s, m, z, ws, f, _, rfl, hs, dr, hm, hz, hf, .ref hr, ?_⟩
  simp only [gv]
  exact k S1 x1
def goneD (G : List Nat) : List (Key × D) := G.map fun (g : Nat) => ((.inl (g : Int) : Key), (.bl true : D))
theorem gone_in (G : List Nat) (f : Nat) : (valD (goneD G) (.inl (f : Int))).isSome = decide (f ∈ G) := by
  induction G with
  | nil => simp [goneD, valD]
  | cons g G ih =>
    unfold goneD valD at *
    rw [List.map_cons, List.find?_cons]
    by_cases h : g = f
    · simp [h]
    · have h1 : ¬ ((.inl (g : Int) : Key) = .inl (f : Int)) := fun z => h (by injection z with z; omega)
      simp only [h1, decide_false]
      rw [ih, decide_eq_decide]
      simp [Ne.symm h]
theorem gone_put {G : List Nat} {f : Nat} (h : f ∉ G) : putD (goneD G) (.inl (f : Int)) (.bl true) = goneD (G ++ [f]) := by
  unfold putD
  have e : (goneD G).any (fun kv => decide (kv.1 = .inl (f : Int))) = false := by
    rw [List.any_eq_false]
    intro x hx
    obtain ⟨g, hg, rfl⟩ := List.mem_map.mp hx
    have h1 : ¬ ((.inl (g : Int) : Key) = .inl (f : Int)) := fun z => by
      injection z with z
      have e : g = f := by omega
      exact h (by rw [← e]; exact hg)
    simp [h1]
  rw [e, if_neg (by decide)]
  unfold goneD
  rw [List.map_append]; rfl
/-- rings gone along: each face in them comes behind one in them -/
def Back (ws : List UW) (G : List Nat) : Prop := ∀ y ∈ G, y < 2 * ws.length ∧ ∃ x ∈ G, behindU ws x = y
theorem full_back {ws : List UW} {f : Nat} {L : List Nat} (h : Full ws f L) : Back ws L := by
  obtain ⟨r, g, hg, e⟩ := h
  intro y hy
  refine ⟨r.lt y hy, ?_⟩
  obtain ⟨j, hj, ej⟩ := List.getElem_of_mem hy
  cases j with
  | zero =>
    have h0 := r.hd
    rw [List.head?_eq_getElem?, List.getElem?_eq_getElem hj, ej] at h0
    exact ⟨g, List.mem_of_getLast? hg, e.trans (Option.some.inj h0).symm⟩
  | succ j =>
    have e1 : L[j]? = some L[j] := List.getElem?_eq_getElem (by omega)
    have e2 := r.nx j L[j] y e1 (by rw [List.getElem?_eq_getElem hj, ej])
    exact ⟨L[j], List.getElem_mem _, e2.symm⟩
theorem Rgs.back {ws : List UW} : ∀ {i : Nat} {rs : List (List Nat)}, Rgs ws i rs → Back ws rs.flatten
  | _, _, .zero => fun y hy => by cases hy
  | _, _, .old a _ => Rgs.back a
  | _, _, .new (rs := rs) (L := L) a _ f => fun y hy => by
    rw [List.flatten_append] at hy
    rcases List.mem_append.mp hy with h | h
    · obtain ⟨h1, x, hx, e⟩ := Rgs.back a y h
      exact ⟨h1, x, by rw [List.flatten_append]; exact List.mem_append_left _ hx, e⟩
    · have hL : y ∈ L := by simpa using h
      obtain ⟨h1, x, hx, e⟩ := full_back f y hL
      exact ⟨h1, x, by rw [List.flatten_append]; exact List.mem_append_right _ (by simpa using hx), e⟩
/-- gone along from a face on: the first face that is gone is the one with which it began -/
theorem row_closes {m : Nat} {z : Int} {ws : List UW} (dr : Drawn m z ws) {G L : List Nat} {f g : Nat} (hb : Back ws G) (r : Row ws f L) (dj : ∀ x ∈ L, x ∉ G) (hg : L.getLast? = some g) (hin : behindU ws g ∈ G ++ L) : behindU ws g = f := by
  have gm := List.mem_of_getLast? hg
  have gl := r.lt g gm
  rcases List.mem_append.mp hin with h | h
  · obtain ⟨_, x, hx, e⟩ := hb _ h
    have := behind_inj dr (hb x hx).1 gl e
    subst this
    exact absurd hx (dj _ gm)
  · obtain ⟨j, hj, ej⟩ := List.getElem_of_mem h
    cases j with
    | zero =>
      have h0 := r.hd
      rw [List.head?_eq_getElem?, List.getElem?_eq_getElem hj, ej] at h0
      exact Option.some.inj h0
    | succ j =>
      have e1 : L[j]? = some L[j] := List.getElem?_eq_getElem (by omega)
      have e2 := r.nx j L[j] _ e1 (by rw [List.getElem?_eq_getElem hj, ej])
      have e3 := behind_inj dr gl (r.lt _ (List.getElem_mem _)) e2
      rw [List.getLast?_eq_getElem?, List.getElem?_eq_getElem (by omega)] at hg
      have := List.pairwise_iff_getElem.mp r.nd j (L.length - 1) (by omega) (by omega) (by omega)
      exact absurd (e3.symm.trans (Option.some.inj hg).symm) this
theorem r_rings_of : ∀ ds S Q E, FL.sp_rings_of ds S Q E → b_rings_of (mends Q E) (mstart 6 ds) S := by
  rintro _ S Q E ⟨s, m, z, ws, rfl, hs, dr, hm, hz, k⟩
  have lw := dr.len
  have lp : (pltW s ws).length = ws.length := plt_len s ws
  unfold b_rings_of
  simp only [ML.q_mstart, ML.q_mends, List.map_cons, List.map_nil, List.replicate, List.cons_append, List.nil_append]
  simp only [gv]
  refine ⟨s, m, z, ws, rfl, hs, dr, hm, hz, fun q es S1 x1 hb => ?_⟩
  simp only [gv]
  intro p hp
  have hbk := hb.1
  have qp : q ≠ p := sne hb.1 hp
  intro g hg
  have hp2 : put S1 p (.lst []) p = some (.lst []) := put_same
  have pg : p ≠ g := sne hp2 hg
  have hg1 : S1 g = none := by
    rw [put_ne (Ne.symm pg)] at hg; exact hg
  have hS : ∀ x, S1 x = none → S x = none := fun x h => by
    cases c : S x with
    | none => rfl
    | some o => rw [x1 x o c] at h; cases h
  rw [lp]
  refine ⟨by omega, ?_⟩
  rw [show (2 * (ws.length : Int)).toNat = 2 * ws.length by omega]
  have hgp : put (put S1 p (.lst [])) g (.dK []) p = some (.lst []) := by rw [put_ne pg]; exact hp2
  have hgg : put (put S1 p (.lst [])) g (.dK []) g = some (.dK []) := put_same
  have hup : ∀ x o, S1 x = some o → put (put S1 p (.lst [])) g (.dK []) x = some o := fun x o h => by
    rw [put_ne (fun z => by rw [z, hg1] at h; cases h), put_ne (fun z => by rw [z, hp] at h; cases h)]; exact h
  generalize put (put S1 p (.lst [])) g (.dK []) = S2 at *
  refine rng_inv (fun i σ S' => @KP ⟨∃ rs : List (Addr × List Nat), (∃ a b c, σ = [some (.tup ((pltW s ws).map wlD)), some (.ref q), some (.ref p), some (.ref g), a, b, c]) ∧ (∀ x o, S1 x = some o → S' x = some o) ∧ Rgs ws i (rs.map (·.2)) ∧ S' g = some (.dK (goneD (rs.map (·.2)).flatten)) ∧ (rs.map (·.2)).flatten.length ≤ 200 * i ∧ S' p = some (.lst (rs.map fun r => .ref r.1)) ∧ rs.length ≤ i ∧ (∀ r ∈ rs, S' r.1 = some (.lst (r.2.map nD)) ∧ r.1 ≠ p ∧ r.1 ≠ g ∧ Ring ws r.2 ∧ r.2.length ≤ 2 * ws.length)⟩) ⟨[], ⟨_, _, _, rfl⟩, hup, .zero, hgg, by simp, hgp, by simp, (fun r hr => by cases hr)⟩ ?_ ?_
  · rintro f σ S3 hf ⟨rs, ⟨a, b, c, rfl⟩, x3, hR, hg3, lG, hp3, hl, hrs⟩
    have hf' : f < 2 * ws.length := hf
    have hB := hR.back
    simp only [gv]
    intro r hr
    have gr : g ≠ r := sne hg3 hr
    have pr : p ≠ r := sne hp3 hr
    generalize hG : (rs.map (·.2)).flatten = G at *
    refine while_rule (fun n σ S' => @KP ⟨∃ (L : List Nat) (h : Nat), n = 2 * ws.length + 1 - L.length ∧ (L = [] ∧ h = f ∨ Row ws f L ∧ ∃ y, L.getLast? = some y ∧ h = behindU ws y) ∧ (∀ x ∈ L, x ∉ G) ∧ σ = [some (.tup ((pltW s ws).map wlD)), some (.ref q), some (.ref p), some (.ref g), some (.int (f : Nat)), some (.ref r), some (.int (h : Nat))] ∧ S' r = some (.lst (L.map nD)) ∧ S' g = some (.dK (goneD (G ++ L))) ∧ (∀ x o, x ≠ r → x ≠ g → S3 x = some o → S' x = some o)⟩) ⟨2 * ws.length + 1, KP.mk ⟨[], f, by simp, .inl ⟨rfl, rfl⟩, (fun x hx => by cases hx), rfl, put_same, by rw [put_ne gr, List.append_nil]; exact hg3, fun x o xr xg e => by rw [put_ne xr]; exact e⟩⟩ ?_
    rintro n σ S4 ⟨L, h, rfl, hL, dj, rfl, hr4, hg4, x4⟩
    have hl2 : L.length ≤ 2 * ws.length := by
      rcases hL with ⟨e, _⟩ | ⟨rw', _⟩
      · rw [e]; simp
      · exact rw'.len
    have hh : h < 2 * ws.length := by
      rcases hL with ⟨_, e⟩ | ⟨rw', y, hy, e⟩
      · rw [e]; exact hf'
      · rw [e]; exact (behind_lt dr (rw'.lt _ (List.mem_of_getLast? hy))).1
    simp only [gv, hg4, gone_in]
    refine ⟨fun hn => ?_, fun hn => ?_⟩
    · have hnew : h ∉ G ++ L := by simpa using hn
      have hrow : Row ws f (L ++ [h]) := by
        rcases hL with ⟨e1, e2⟩ | ⟨rw', y, hy, e⟩
        · rw [e1, e2]; exact Row.one ws hf'
        · rw [e]
          refine rw'.step dr hy fun z => hnew ?_
          rw [e, z]
          refine List.mem_append_right _ ?_
          have h0 := rw'.hd
          cases L with
          | nil => cases h0
          | cons a L => cases h0; exact List.mem_cons_self
      have l3 := hrow.len
      rw [List.length_append, List.length_singleton] at l3
      simp only [gv]
      refine ⟨of_eq_true (isLst_ref hr4), ?_⟩
      simp only [gv, hr4]
      refine ⟨by rw [sizeLine_eq]; omega, ?_⟩
      have hg5 : put S4 r (.lst (L.map nD ++ [.int (h : Nat)])) g = some (.dK (goneD (G ++ L))) := by rw [put_ne gr]; exact hg4
      simp only [gv, hg5]
      have lgo : (goneD (G ++ L)).length = G.length + L.length := by unfold goneD; rw [List.length_map, List.length_append]
      refine ⟨by rw [lgo, sizeLine_eq]; omega, ?_⟩
      rw [gone_put hnew]
      have up5 : ∀ x o, S1 x = some o → put (put S4 r (.lst (L.map nD ++ [.int (h : Nat)]))) g (.dK (goneD (G ++ L ++ [h]))) x = some o := fun x o e => by
        have xg : x ≠ g := fun z => by rw [z, hg1] at e; cases e
        have xr : x ≠ r := fun z => by rw [z] at e; rw [x3 r o e] at hr; cases hr
        rw [put_ne xg, put_ne xr]; exact x4 x o xr xg (x3 x o e)
      refine ⟨pltW s ws, h, rfl, by rw [lp]; exact hh, by omega, ?_⟩
      rw [wface_plt hh]
      simp only [gv, k4Of_sp, up5 q _ hbk]
      rw [show kP (afw s (ofW (uface ws h))).2 = kU s (uface ws h).2 from rfl]
      obtain ⟨rr, eV, hrr⟩ := begins_at hs dr hb hh
      rw [eV]
      simp only [gv]
      refine ⟨s, m, z, ws, h, _, rfl, hs, dr, hm, hz, hh, .ref (up5 _ _ hrr), ?_⟩
      simp only [gv]
      refine ⟨2 * ws.length + 1 - (L ++ [h]).length, by rw [List.length_append, List.length_singleton]; omega, KP.mk ⟨L ++ [h], behindU ws h, rfl, .inr ⟨hrow, h, by simp, rfl⟩, fun x hx => ?_, rfl, ?_, ?_, fun x o xr xg e => ?_⟩⟩
      · rcases List.mem_append.mp hx with c | c
        · exact dj x c
        · rw [List.mem_singleton.mp c]; exact fun z => hnew (List.mem_append_left _ z)
      · rw [put_ne (Ne.symm gr), put_same, List.map_append]; rfl
      · rw [put_same, List.append_assoc]
      · rw [put_ne xg, put_ne xr]; exact x4 x o xr xg e
    · have hold : h ∈ G ++ L := by
        have hn' : ¬ h ∈ G → h ∈ L := by simpa using hn
        rw [List.mem_append]
        by_cases c : h ∈ G
        · exact .inl c
        · exact .inr (hn' c)
      simp only [gv]
      rw [look_ref hr4]
      refine ⟨eqOk_n0, ?_⟩
      rw [deq_n0]
      have up4 : ∀ x o, S1 x = some o → S4 x = some o := fun x o e => by
        have xg : x ≠ g := fun z => by rw [z, hg1] at e; cases e
        have xr : x ≠ r := fun z => by rw [z] at e; rw [x3 r o e] at hr; cases hr
        exact x4 x o xr xg (x3 x o e)
      have hp4 := x4 p _ pr pg hp3
      have hrs4 : ∀ v ∈ rs, S4 v.1 = some (.lst (v.2.map nD)) ∧ v.1 ≠ p ∧ v.1 ≠ g ∧ Ring ws v.2 ∧ v.2.length ≤ 2 * ws.length := fun v hv => by
        obtain ⟨k1, k2, k3, k4⟩ := hrs v hv
        exact ⟨x4 _ _ (fun z => by rw [z, hr] at k1; cases k1) k3 k1, k2, k3, k4⟩
      rcases hL with ⟨e1, e2⟩ | ⟨rw', y, hy, e⟩
      · subst e1
        subst e2
        rw [List.append_nil] at hg4 hold
        simp only [gv, List.isEmpty_nil]
        exact KP.mk ⟨rs, ⟨_, _, _, rfl⟩, up4, .old hR (by rw [hG]; exact hold), by rw [hG]; exact hg4, by rw [hG]; omega, hp4, by omega, hrs4⟩
      · have ne : L ≠ [] := fun z => by rw [z] at hy; cases hy
        have cl := row_closes dr hB rw' dj hy (by rw [← e]; exact hold)
        have fu : Full ws f L := ⟨rw', y, hy, cl⟩
        have nf : f ∉ G := by
          have h0 := rw'.hd
          cases L with
          | nil => cases h0
          | cons a L => cases h0; exact dj _ List.mem_cons_self
        have em : L.isEmpty = false := by cases L with
          | nil => exact absurd rfl ne
          | cons _ _ => rfl
        rw [em]
        simp only [gv]
        refine ⟨of_eq_true (isLst_ref hp4), ?_⟩
        simp only [gv, hp4]
        have eF : ((rs ++ [(r, L)]).map (·.2)).flatten = G ++ L := by rw [List.map_append, List.flatten_append, hG]; simp
        refine ⟨by rw [sizeLine_eq]; omega, KP.mk ⟨rs ++ [(r, L)], ⟨_, _, _, rfl⟩, fun x o e => ?_, ?_, ?_, ?_, ?_, by rw [List.length_append, List.length_singleton]; omega, fun v hv => ?_⟩⟩
        · rw [put_ne (fun z => by rw [z, hp] at e; cases e)]; exact up4 x o e
        · rw [List.map_append]; exact .new hR (by rw [hG]; exact nf) fu
        · rw [put_ne (Ne.symm pg), eF]; exact hg4
        · rw [eF, List.length_append]; omega
        · rw [put_same, List.map_append]; rfl
        · rcases List.mem_append.mp hv with c | c
          · obtain ⟨k1, k2, k3⟩ := hrs4 v c
            exact ⟨by rw [put_ne k2]; exact k1, k2, k3⟩
          · rw [List.mem_singleton.mp c]
            exact ⟨by rw [put_ne (Ne.symm pr)]; exact hr4, Ne.symm pr, Ne.symm gr, rw'.ring dr hy cl, hl2⟩
  · rintro σ S3 ⟨rs, ⟨a, b, c, rfl⟩, x3, hR, hg3, lG, hp3, hl, hrs⟩
    simp only [gv]
    exact k p rs S3 (fun x o e => x3 x o (x1 x o e)) hp3 hl (fun r hr => ⟨(hrs r hr).1, (hrs r hr).2.2.2.1, (hrs r hr).2.2.2.2⟩) hR
end FL

namespace Lk17
open PySem PySem.Spec L2 ML FL
theorem rises {ms : List Int} (h : ms.Pairwise (· < ·)) : ∀ (d i : Nat) (x y : Int), ms[i]? = some x → ms[i + d]? = some y → x + d ≤ y
  | 0, i, x, y, h1, h2 => by rw [Nat.add_zero, h1] at h2; cases h2; omega
  | d + 1, i, x, y, h1, h2 => by
    have l2 := (List.getElem?_eq_some_iff.mp h2).1
    have e : ms[i + d]? = some (ms[i + d]'(by omega)) := List.getElem?_eq_getElem (by omega)
    have ih := rises h d i x _ h1 e
    have e2 := List.pairwise_iff_getElem.mp h (i + d) (i + (d + 1)) (by omega) l2 (by omega)
    rw [List.getElem?_eq_getElem l2] at h2
    cases h2
    omega
/-- rising numbers, as many as there are below a bound, are all -/
theorem all_below {N : Nat} {ms : List Int} (h : ms.Pairwise (· < ·)) (hl : ms.length = N) (hb : ∀ x ∈ ms, 0 ≤ x ∧ x < N) : ms = (List.range N).map fun (k : Nat) => (k : Int) := by
  refine List.ext_getElem? fun i => ?_
  rw [List.getElem?_map]
  by_cases hi : i < N
  · have e : ms[i]? = some (ms[i]'(by omega)) := List.getElem?_eq_getElem (by omega)
    have e0 : ms[0]? = some (ms[0]'(by omega)) := List.getElem?_eq_getElem (by omega)
    have e1 : ms[i + (N - 1 - i)]? = some (ms[N - 1]'(by omega)) := by
      rw [show i + (N - 1 - i) = N - 1 by omega]; exact List.getElem?_eq_getElem (by omega)
    have a := rises h i 0 _ _ e0 (by rw [Nat.zero_add]; exact e)
    have b := rises h (N - 1 - i) i _ _ e e1
    have c0 := hb _ (List.getElem_mem (l := ms) (n := 0) (by omega))
    have c1 := hb _ (List.getElem_mem (l := ms) (n := N - 1) (by omega))
    rw [e, List.getElem?_range hi]
    show some _ = some _
    rw [show ms[i]'(by omega) = (i : Int) by omega]
  · rw [List.getElem?_eq_none (by omega), List.getElem?_eq_none (by rw [List.length_range]; omega)]; rfl
theorem sorted_behind {m : Nat} {z : Int} {ws : List UW} (dr : Drawn m z ws) {ms : List Int} (p : ms.Perm (((List.range (2 * ws.length)).map fun f => (behindU ws f : Int)))) (h : ms.Pairwise (· ≤ ·)) : ms = (List.range (2 * ws.length)).map fun (k : Nat) => (k : Int) := by
  have nd : ((List.range (2 * ws.length)).map fun f => (behindU ws f : Int)).Nodup := by
    refine List.Pairwise.map _ (R := fun a b => a ≠ b ∧ a < 2 * ws.length ∧ b < 2 * ws.length) (fun a b h e => h.1 (behind_inj dr h.2.1 h.2.2 (by omega))) ?_
    refine List.Pairwise.imp_of_mem ?_ (List.nodup_range (n := 2 * ws.length))
    intro a b ha hb h
    exact ⟨h, List.mem_range.mp ha, List.mem_range.mp hb⟩
  have nm : ms.Nodup := p.nodup_iff.mpr nd
  refine all_below ?_ (by rw [p.length_eq]; simp) fun x hx => ?_
  · refine (h.and nm).imp fun {a b} q => ?_
    have q1 : a ≤ b := q.1
    have q2 : a ≠ b := q.2
    omega
  · have := p.mem_iff.mp hx
    obtain ⟨f, hf, rfl⟩ := List.mem_map.mp this
    have := (behind_lt dr (List.mem_range.mp hf)).1
    omega
end Lk17

set_option maxRecDepth 100000
set_option maxHeartbeats 0
namespace Lk17
open PySem PySem.Spec L2 ML
open PyProof.Rows hiding St
def top (i : Nat) : Stmt := PySem.Challenge.pw_spotlook_k17_what_comes_behind_a_face.main.body.getD i (.Pass ⟨0, 0, 0, 0⟩)
structure Txt (K : PySem.W.Frag) (mg : Str → Option Value) : Prop where
  f_abs : mg "abs" = none
  f_all : mg "all" = none
  f_bool : mg "bool" = none
  f_int : mg "int" = none
  f_isinstance : mg "isinstance" = none
  f_len : mg "len" = none
  f_list : mg "list" = none
  f_max : mg "max" = none
  f_min : mg "min" = none
  f_range : mg "range" = none
  f_sorted : mg "sorted" = none
  f_tuple : mg "tuple" = none
  k_bool : kitTab K "bool"
section
variable {P : Program} {w : World} {K : PySem.W.Frag} {mg : Str → Option Value} {base : Heap}
abbrev s_divisor : Stmt := top 4
theorem sc_divisor : FnScope ["one", "other"] ["one", "other"] (defScope s_divisor) := ⟨rfl, rfl, rfl, by decide +kernel, rfl, by decide +kernel, by decide +kernel⟩
abbrev b_divisor : MS := FL.b_divisor
theorem l_divisor : ∀ ds S Q E, FL.sp_divisor ds S Q E → ds.length = ["one", "other"].length := FL.l_divisor
theorem r_divisor : ∀ ds S Q E, FL.sp_divisor ds S Q E → b_divisor (mends Q E) (mstart 0 ds) S := FL.r_divisor
theorem d_divisor {f : Addr} {cdv : Value} {A : Around} {outer : List Env} {s : Shared} {H : Hp} {E : XK} (T : Txt K mg)  (hr : Room 0 (cxM P w K mg base ["one", "other"] "divisor" s_divisor f cdv A outer s H E).A) :
    PSs (cxM P w K mg base ["one", "other"] "divisor" s_divisor f cdv A outer s H E) (defBody s_divisor) (upS K (wM E) b_divisor) :=
  (scons (swhile poM (tcmp (op_neA hr.units) ol_ne (ev 1) eint) (sone (spar (i := 0) (j := 1) rfl sc_divisor.nd (acons (ev 1) (acons (emod (ev 0) (ev 1)) anil)))))
    (sone (sret (ev 0))))
abbrev s_ends_of_face : Stmt := top 13
theorem sc_ends_of_face : FnScope ["plot", "face", "first", "second"] ["plot", "face"] (defScope s_ends_of_face) := ⟨rfl, rfl, rfl, by decide +kernel, rfl, by decide +kernel, by decide +kernel⟩
abbrev b_ends_of_face : MS := FL.b_ends_of_face
theorem l_ends_of_face : ∀ ds S Q E, FL.sp_ends_of_face ds S Q E → ds.length = ["plot", "face"].length := FL.l_ends_of_face
theorem r_ends_of_face : ∀ ds S Q E, FL.sp_ends_of_face ds S Q E → b_ends_of_face (mends Q E) (mstart 2 ds) S := FL.r_ends_of_face
theorem d_ends_of_face {f : Addr} {cdv : Value} {A : Around} {outer : List Env} {s : Shared} {H : Hp} {E : XK} (T : Txt K mg)  (hr : Room 0 (cxM P w K mg base ["plot", "face", "first", "second"] "ends_of_face" s_ends_of_face f cdv A outer s H E).A) :
    PSs (cxM P w K mg base ["plot", "face", "first", "second"] "ends_of_face" s_ends_of_face f cdv A outer s H E) (defBody s_ends_of_face) (upS K (wM E) b_ends_of_face) :=
  (scons (sasg (eix (ev 0) (ediv (ev 1) eint)) (gtp rfl (gcn (gnm (i := 2) sc_ends_of_face.nd) (gcn (gnm (i := 3) sc_ends_of_face.nd) gnl))))
    (scons (sif (tcmp (op_eqA hr.units) ol_eq (emod (ev 1) eint) eint) (sone (sret (etup (acons (ev 3) (acons (ev 2) anil))))) snil)
    (sone (sret (etup (acons (ev 2) (acons (ev 3) anil)))))))
abbrev s_other_face : Stmt := top 14
theorem sc_other_face : FnScope ["face"] ["face"] (defScope s_other_face) := ⟨rfl, rfl, rfl, by decide +kernel, rfl, by decide +kernel, by decide +kernel⟩
abbrev b_other_face : MS := FL.b_other_face
theorem l_other_face : ∀ ds S Q E, FL.sp_other_face ds S Q E → ds.length = ["face"].length := FL.l_other_face
theorem r_other_face : ∀ ds S Q E, FL.sp_other_face ds S Q E → b_other_face (mends Q E) (mstart 0 ds) S := FL.r_other_face
theorem d_other_face {f : Addr} {cdv : Value} {A : Around} {outer : List Env} {s : Shared} {H : Hp} {E : XK} (T : Txt K mg)  (hr : Room 0 (cxM P w K mg base ["face"] "other_face" s_other_face f cdv A outer s H E).A) :
    PSs (cxM P w K mg base ["face"] "other_face" s_other_face f cdv A outer s H E) (defBody s_other_face) (upS K (wM E) b_other_face) :=
  (sone (sret (esub (eadd (ev 0) eint) (emul eint (emod (ev 0) eint)))))
abbrev s_law_cell_at : Stmt := top 21
theorem sc_law_cell_at : FnScope ["_law_script", "_law_k"] ["_law_script", "_law_k"] (defScope s_law_cell_at) := ⟨rfl, rfl, rfl, by decide +kernel, rfl, by decide +kernel, by decide +kernel⟩
abbrev b_law_cell_at : MS := FL.b_cell_at
theorem l_law_cell_at : ∀ ds S Q E, FL.sp_cell_at ds S Q E → ds.length = ["_law_script", "_law_k"].length := FL.l_cell_at
theorem r_law_cell_at : ∀ ds S Q E, FL.sp_cell_at ds S Q E → b_law_cell_at (mends Q E) (mstart 0 ds) S := FL.r_cell_at
theorem d_law_cell_at {f : Addr} {cdv : Value} {A : Around} {outer : List Env} {s : Shared} {H : Hp} {E : XK} (T : Txt K mg)  (hr : Room 0 (cxM P w K mg base ["_law_script", "_law_k"] "_law_cell_at" s_law_cell_at f cdv A outer s H E).A) :
    PSs (cxM P w K mg base ["_law_script", "_law_k"] "_law_cell_at" s_law_cell_at f cdv A outer s H E) (defBody s_law_cell_at) (upS K (wM E) b_law_cell_at) :=
  (scons (sif (tcmp (oa_lt (u65 hr)) la_lt (ev 1) (eblt call_len cl_len T.f_len (acons (ev 0) anil) PySem.boot_len)) (sone (sret (eix (ev 0) (ev 1)))) snil)
    (sone (sret eint)))
abbrev s_law_take : Stmt := top 22
theorem sc_law_take : FnScope ["_law_row", "_law_base", "_law_rest", "_law_number"] ["_law_row", "_law_base"] (defScope s_law_take) := ⟨rfl, rfl, rfl, by decide +kernel, rfl, by decide +kernel, by decide +kernel⟩
abbrev b_law_take : MS := FL.b_take
theorem l_law_take : ∀ ds S Q E, FL.sp_take ds S Q E → ds.length = ["_law_row", "_law_base"].length := FL.l_take
theorem r_law_take : ∀ ds S Q E, FL.sp_take ds S Q E → b_law_take (mends Q E) (mstart 2 ds) S := FL.r_take
theorem d_law_take {f : Addr} {cdv : Value} {A : Around} {outer : List Env} {s : Shared} {H : Hp} {E : XK} (T : Txt K mg)  (hr : Room 0 (cxM P w K mg base ["_law_row", "_law_base", "_law_rest", "_law_number"] "_law_take" s_law_take f cdv A outer s H E).A) :
    PSs (cxM P w K mg base ["_law_row", "_law_base", "_law_rest", "_law_number"] "_law_take" s_law_take f cdv A outer s H E) (defBody s_law_take) (upS K (wM E) b_law_take) :=
  (scons (sasg (eadd (eix (ev 0) eint) eint) (gsb (ev 0) eint))
    (scons (sif (tcmp (oa_ge (u65 hr)) la_ge (eix (ev 0) eint) (epow eint eint)) (scons (sset (i := 2) sc_law_take.nd (esub (eix (ev 0) eint) (epow eint eint)))
    (scons (sasg (eadd (epow eint eint) (ediv (ev 2) (ev 1))) (gsb (ev 0) eint))
    (sone (sret (emod (ev 2) (ev 1)))))) snil)
    (scons (sset (i := 3) sc_law_take.nd (emod (eadd (eadd (eadd (emul (eix (ev 0) eint) eint) (emul (emul eint (eix (ev 0) eint)) (eix (ev 0) eint))) (emul eint (eix (ev 0) eint))) eint) eint))
    (scons (sset (i := 3) sc_law_take.nd (emod (eadd (eadd (emul (ev 3) (ev 3)) (emul eint (ev 3))) (eix (ev 0) eint)) eint))
    (sone (sret (emod (ediv (ev 3) eint) (ev 1))))))))
abbrev s_law_low : Stmt := top 23
theorem sc_law_low : FnScope ["_law_top", "_law_bottom", "_law_one", "_law_other"] ["_law_top", "_law_bottom"] (defScope s_law_low) := ⟨rfl, rfl, rfl, by decide +kernel, rfl, by decide +kernel, by decide +kernel⟩
abbrev b_law_low : MS := FL.b_low
theorem l_law_low : ∀ ds S Q E, FL.sp_low ds S Q E → ds.length = ["_law_top", "_law_bottom"].length := FL.l_low
theorem r_law_low : ∀ ds S Q E, FL.sp_low ds S Q E → b_law_low (mends Q E) (mstart 2 ds) S := FL.r_low
theorem d_law_low {f : Addr} {cdv : Value} {A : Around} {outer : List Env} {s : Shared} {H : Hp} {E : XK} (T : Txt K mg)  (hr : Room 0 (cxM P w K mg base ["_law_top", "_law_bottom", "_law_one", "_law_other"] "_law_low" s_law_low f cdv A outer s H E).A) :
    PSs (cxM P w K mg base ["_law_top", "_law_bottom", "_law_one", "_law_other"] "_law_low" s_law_low f cdv A outer s H E) (defBody s_law_low) (upS K (wM E) b_law_low) :=
  (scons (sset (i := 2) sc_law_low.nd (eblt call_abs cl_abs T.f_abs (acons (ev 0) anil)))
    (scons (sset (i := 3) sc_law_low.nd (eblt call_abs cl_abs T.f_abs (acons (ev 1) anil)))
    (scons (swhile poM (tcmp (op_neA hr.units) ol_ne (ev 3) eint) (sone (spar (i := 2) (j := 3) rfl sc_law_low.nd (acons (ev 3) (acons (emod (ev 2) (ev 3)) anil)))))
    (scons (sif (tcmp (oa_lt (u65 hr)) la_lt (ev 1) eint) (sone (sset (i := 2) sc_law_low.nd (eneg (ev 2)))) snil)
    (sone (sret (etup (acons (ediv (ev 0) (ev 2)) (acons (ediv (ev 1) (ev 2)) anil)))))))))
abbrev s_law_turn : Stmt := top 27
theorem sc_law_turn : FnScope ["_law_one", "_law_two", "_law_three", "_law_far", "_law_beside", "_law_found"] ["_law_one", "_law_two", "_law_three"] (defScope s_law_turn) := ⟨rfl, rfl, rfl, by decide +kernel, rfl, by decide +kernel, by decide +kernel⟩
abbrev b_law_turn : MS := FL.b_turn
theorem l_law_turn : ∀ ds S Q E, FL.sp_turn ds S Q E → ds.length = ["_law_one", "_law_two", "_law_three"].length := FL.l_turn
theorem r_law_turn : ∀ ds S Q E, FL.sp_turn ds S Q E → b_law_turn (mends Q E) (mstart 3 ds) S := FL.r_turn
theorem d_law_turn {f : Addr} {cdv : Value} {A : Around} {outer : List Env} {s : Shared} {H : Hp} {E : XK} (T : Txt K mg)  (hr : Room 0 (cxM P w K mg base ["_law_one", "_law_two", "_law_three", "_law_far", "_law_beside", "_law_found"] "_law_turn" s_law_turn f cdv A outer s H E).A) :
    PSs (cxM P w K mg base ["_law_one", "_law_two", "_law_three", "_law_far", "_law_beside", "_law_found"] "_law_turn" s_law_turn f cdv A outer s H E) (defBody s_law_turn) (upS K (wM E) b_law_turn) :=
  (scons (sset (i := 3) sc_law_turn.nd (etup (acons (esub (eix (ev 1) eint) (eix (ev 0) eint)) (acons (esub (eix (ev 1) eint) (eix (ev 0) eint)) anil))))
    (scons (sset (i := 4) sc_law_turn.nd (etup (acons (esub (eix (ev 2) eint) (eix (ev 0) eint)) (acons (esub (eix (ev 2) eint) (eix (ev 0) eint)) anil))))
    (scons (sset (i := 5) sc_law_turn.nd (esub (emul (eix (ev 3) eint) (eix (ev 4) eint)) (emul (eix (ev 3) eint) (eix (ev 4) eint))))
    (sone (sret (esub (etyp call_int1 cl_int T.f_int (acons (ecmp (oa_gt (u65 hr)) la_gt (ev 5) eint) anil)) (etyp call_int1 cl_int T.f_int (acons (ecmp (oa_lt (u65 hr)) la_lt (ev 5) eint) anil))))))))
abbrev s_law_ends : Stmt := top 31
theorem sc_law_ends : FnScope ["_law_shuts", "_law_face"] ["_law_shuts", "_law_face"] (defScope s_law_ends) := ⟨rfl, rfl, rfl, by decide +kernel, rfl, by decide +kernel, by decide +kernel⟩
abbrev b_law_ends : MS := FL.b_uends
theorem l_law_ends : ∀ ds S Q E, FL.sp_uends ds S Q E → ds.length = ["_law_shuts", "_law_face"].length := FL.l_uends
theorem r_law_ends : ∀ ds S Q E, FL.sp_uends ds S Q E → b_law_ends (mends Q E) (mstart 0 ds) S := FL.r_uends
theorem d_law_ends {f : Addr} {cdv : Value} {A : Around} {outer : List Env} {s : Shared} {H : Hp} {E : XK} (T : Txt K mg)  (hr : Room 0 (cxM P w K mg base ["_law_shuts", "_law_face"] "_law_ends" s_law_ends f cdv A outer s H E).A) :
    PSs (cxM P w K mg base ["_law_shuts", "_law_face"] "_law_ends" s_law_ends f cdv A outer s H E) (defBody s_law_ends) (upS K (wM E) b_law_ends) :=
  (sone (sret (eix (elstF (acons (eix (ev 0) (ediv (ev 1) eint)) (acons (erev2 (eix (ev 0) (ediv (ev 1) eint))) anil))) (emod (ev 1) eint))))
abbrev s_fraction : Stmt := top 5
theorem sc_fraction : FnScope ["top", "bottom", "by"] ["top", "bottom"] (defScope s_fraction) := ⟨rfl, rfl, rfl, by decide +kernel, rfl, by decide +kernel, by decide +kernel⟩
abbrev b_fraction : MS := FL.b_fraction
theorem l_fraction : ∀ ds S Q E, FL.sp_low ds S Q E → ds.length = ["top", "bottom"].length := FL.l_fraction
theorem r_fraction : ∀ ds S Q E, FL.sp_low ds S Q E → b_fraction (mends Q E) (mstart 1 ds) S := FL.r_fraction
theorem d_fraction {f : Addr} {cdv : Value} {A : Around} {outer : List Env} {s : Shared} {H : Hp} {E : XK} (T : Txt K mg) (h_divisor : Has P w K mg base "divisor" ["one", "other"] 1 FL.sp_divisor) (hr : Room 1 (cxM P w K mg base ["top", "bottom", "by"] "fraction" s_fraction f cdv A outer s H E).A) :
    PSs (cxM P w K mg base ["top", "bottom", "by"] "fraction" s_fraction f cdv A outer s H E) (defBody s_fraction) (upS K (wM E) b_fraction) :=
  (scons (sif (tcmp (op_eqA hr.units) ol_eq (ev 1) eint) (sone snever) snil)
    (scons (sset (i := 2) sc_fraction.nd (ecall (h_divisor.mono (k := 1) (by decide)) hr tkM (acons (eblt call_abs cl_abs T.f_abs (acons (ev 0) anil)) (acons (eblt call_abs cl_abs T.f_abs (acons (ev 1) anil)) anil))))
    (scons (sif (tcmp (oa_lt (u65 hr)) la_lt (ev 1) eint) (sone (sset (i := 2) sc_fraction.nd (eneg (ev 2)))) snil)
    (sone (sret (etup (acons (ediv (ev 0) (ev 2)) (acons (ediv (ev 1) (ev 2)) anil))))))))
abbrev s_faces_by_begin : Stmt := top 15
theorem sc_faces_by_begin : FnScope ["plot", "found", "face"] ["plot"] (defScope s_faces_by_begin) := ⟨rfl, rfl, rfl, by decide +kernel, rfl, by decide +kernel, by decide +kernel⟩
abbrev b_faces_by_begin : MS := FL.b_faces_by_begin
theorem l_faces_by_begin : ∀ ds S Q E, FL.sp_faces_by_begin ds S Q E → ds.length = ["plot"].length := FL.l_faces_by_begin
theorem r_faces_by_begin : ∀ ds S Q E, FL.sp_faces_by_begin ds S Q E → b_faces_by_begin (mends Q E) (mstart 2 ds) S := FL.r_faces_by_begin
theorem d_faces_by_begin {f : Addr} {cdv : Value} {A : Around} {outer : List Env} {s : Shared} {H : Hp} {E : XK} (T : Txt K mg) (h_ends_of_face : Has P w K mg base "ends_of_face" ["plot", "face"] 1 FL.sp_ends_of_face) (hr : Room 1 (cxM P w K mg base ["plot", "found", "face"] "faces_by_begin" s_faces_by_begin f cdv A outer s H E).A) :
    PSs (cxM P w K mg base ["plot", "found", "face"] "faces_by_begin" s_faces_by_begin f cdv A outer s H E) (defBody s_faces_by_begin) (upS K (wM E) b_faces_by_begin) :=
  (scons (sset (i := 1) sc_faces_by_begin.nd esnew)
    (scons (sfor poM rfl (ir1 T.f_range (acons (emul eint (eblt call_len cl_len T.f_len (acons (ev 0) anil) PySem.boot_len)) anil)) (gnm (i := 2) sc_faces_by_begin.nd) (sone (sexpr (emt PySem.F.slot_list_append PySem.F.type_list_append mt_append ml_append (essetd (u65 hr) (ev 1) (eix (ecall (h_ends_of_face.mono (k := 1) (by decide)) hr tkM (acons (ev 0) (acons (ev 2) anil))) eint) (elst anil)) (acons (ev 2) anil)))))
    (sone (sret (ev 1)))))
abbrev s_law_scale : Stmt := top 24
theorem sc_law_scale : FnScope ["_law_row", "_law_top", "_law_bottom", "_law_far"] ["_law_row"] (defScope s_law_scale) := ⟨rfl, rfl, rfl, by decide +kernel, rfl, by decide +kernel, by decide +kernel⟩
abbrev b_law_scale : MS := FL.b_scale
theorem l_law_scale : ∀ ds S Q E, FL.sp_scale ds S Q E → ds.length = ["_law_row"].length := FL.l_scale
theorem r_law_scale : ∀ ds S Q E, FL.sp_scale ds S Q E → b_law_scale (mends Q E) (mstart 3 ds) S := FL.r_scale
theorem d_law_scale {f : Addr} {cdv : Value} {A : Around} {outer : List Env} {s : Shared} {H : Hp} {E : XK} (T : Txt K mg) (h_law_take : Has P w K mg base "_law_take" ["_law_row", "_law_base"] 1 FL.sp_take) (hr : Room 1 (cxM P w K mg base ["_law_row", "_law_top", "_law_bottom", "_law_far"] "_law_scale" s_law_scale f cdv A outer s H E).A) :
    PSs (cxM P w K mg base ["_law_row", "_law_top", "_law_bottom", "_law_far"] "_law_scale" s_law_scale f cdv A outer s H E) (defBody s_law_scale) (upS K (wM E) b_law_scale) :=
  (scons (spar (i := 1) (j := 2) rfl sc_law_scale.nd (acons (eadd eint (ecall (h_law_take.mono (k := 1) (by decide)) hr tkM (acons (ev 0) (acons eint anil)))) (acons (eadd eint (ecall (h_law_take.mono (k := 1) (by decide)) hr tkM (acons (ev 0) (acons eint anil)))) anil)))
    (scons (sifJ (tcmp (op_eqA hr.units) ol_eq (ecall (h_law_take.mono (k := 1) (by decide)) hr tkM (acons (ev 0) (acons eint anil))) eint) (sone (spar (i := 1) (j := 2) rfl sc_law_scale.nd (acons (eadd eint (ecall (h_law_take.mono (k := 1) (by decide)) hr tkM (acons (ev 0) (acons (epow eint eint) anil)))) (acons (eadd eint (ecall (h_law_take.mono (k := 1) (by decide)) hr tkM (acons (ev 0) (acons (epow eint eint) anil)))) anil)))) snil)
    (scons (sset (i := 3) sc_law_scale.nd (eix (elstF (acons eint (acons (epow eint eint) anil))) (etyp call_int1 cl_int T.f_int (acons (ecmp (op_eqA hr.units) ol_eq (ecall (h_law_take.mono (k := 1) (by decide)) hr tkM (acons (ev 0) (acons eint anil))) eint) anil))))
    (sone (sret (etup (acons (ev 1) (acons (ev 2) (acons (emul (ev 3) (esub (ecall (h_law_take.mono (k := 1) (by decide)) hr tkM (acons (ev 0) (acons eint anil))) eint)) (acons (emul (ev 3) (esub (ecall (h_law_take.mono (k := 1) (by decide)) hr tkM (acons (ev 0) (acons eint anil))) eint)) anil))))))))))
abbrev s_law_spot : Stmt := top 25
theorem sc_law_spot : FnScope ["_law_scale_here", "_law_unit", "_law_top", "_law_bottom", "_law_x", "_law_y"] ["_law_scale_here", "_law_unit"] (defScope s_law_spot) := ⟨rfl, rfl, rfl, by decide +kernel, rfl, by decide +kernel, by decide +kernel⟩
abbrev b_law_spot : MS := FL.b_uspot
theorem l_law_spot : ∀ ds S Q E, FL.sp_uspot ds S Q E → ds.length = ["_law_scale_here", "_law_unit"].length := FL.l_uspot
theorem r_law_spot : ∀ ds S Q E, FL.sp_uspot ds S Q E → b_law_spot (mends Q E) (mstart 4 ds) S := FL.r_uspot
theorem d_law_spot {f : Addr} {cdv : Value} {A : Around} {outer : List Env} {s : Shared} {H : Hp} {E : XK} (T : Txt K mg) (h_law_low : Has P w K mg base "_law_low" ["_law_top", "_law_bottom"] 1 FL.sp_low) (hr : Room 1 (cxM P w K mg base ["_law_scale_here", "_law_unit", "_law_top", "_law_bottom", "_law_x", "_law_y"] "_law_spot" s_law_spot f cdv A outer s H E).A) :
    PSs (cxM P w K mg base ["_law_scale_here", "_law_unit", "_law_top", "_law_bottom", "_law_x", "_law_y"] "_law_spot" s_law_spot f cdv A outer s H E) (defBody s_law_spot) (upS K (wM E) b_law_spot) :=
  (scons (sasg (ev 0) (gtp rfl (gcn (gnm (i := 2) sc_law_spot.nd) (gcn (gnm (i := 3) sc_law_spot.nd) (gcn (gnm (i := 4) sc_law_spot.nd) (gcn (gnm (i := 5) sc_law_spot.nd) gnl))))))
    (sone (sret (etup (acons (ecall (h_law_low.mono (k := 1) (by decide)) hr tkM (acons (eadd (emul (eix (ev 1) eint) (ev 2)) (ev 4)) (acons (ev 3) anil))) (acons (ecall (h_law_low.mono (k := 1) (by decide)) hr tkM (acons (eadd (emul (eix (ev 1) eint) (ev 2)) (ev 5)) (acons (ev 3) anil))) anil))))))
abbrev s_law_on : Stmt := top 28
theorem sc_law_on : FnScope ["_law_shut", "_law_spot_here"] ["_law_shut", "_law_spot_here"] (defScope s_law_on) := ⟨rfl, rfl, rfl, by decide +kernel, rfl, by decide +kernel, by decide +kernel⟩
abbrev b_law_on : MS := FL.b_on
theorem l_law_on : ∀ ds S Q E, FL.sp_on ds S Q E → ds.length = ["_law_shut", "_law_spot_here"].length := FL.l_on
theorem r_law_on : ∀ ds S Q E, FL.sp_on ds S Q E → b_law_on (mends Q E) (mstart 0 ds) S := FL.r_on
theorem d_law_on {f : Addr} {cdv : Value} {A : Around} {outer : List Env} {s : Shared} {H : Hp} {E : XK} (T : Txt K mg) (h_law_turn : Has P w K mg base "_law_turn" ["_law_one", "_law_two", "_law_three"] 1 FL.sp_turn) (hr : Room 1 (cxM P w K mg base ["_law_shut", "_law_spot_here"] "_law_on" s_law_on f cdv A outer s H E).A) :
    PSs (cxM P w K mg base ["_law_shut", "_law_spot_here"] "_law_on" s_law_on f cdv A outer s H E) (defBody s_law_on) (upS K (wM E) b_law_on) :=
  (sone (sret (eand (echain (oa_le (u65 hr)) (oa_le (u65 hr)) la_le la_le (eix (ev 0) eint) (ev 1) (eix (ev 0) eint)) (eone (ecmp (op_eqA hr.units) ol_eq (ecall (h_law_turn.mono (k := 1) (by decide)) hr tkM (acons (eix (ev 0) eint) (acons (eix (ev 0) eint) (acons (ev 1) anil)))) eint)))))
abbrev s_law_sooner : Stmt := top 32
theorem sc_law_sooner : FnScope ["_law_back", "_law_one", "_law_other", "_law_spot_here", "_law_quarters", "_law_way"] ["_law_back", "_law_one", "_law_other"] (defScope s_law_sooner) := ⟨rfl, rfl, rfl, by decide +kernel, rfl, by decide +kernel, by decide +kernel⟩
abbrev b_law_sooner : MS := FL.b_usooner
theorem l_law_sooner : ∀ ds S Q E, FL.sp_usooner ds S Q E → ds.length = ["_law_back", "_law_one", "_law_other"].length := FL.l_usooner
theorem r_law_sooner : ∀ ds S Q E, FL.sp_usooner ds S Q E → b_law_sooner (mends Q E) (mstart 3 ds) S := FL.r_usooner
theorem d_law_sooner {f : Addr} {cdv : Value} {A : Around} {outer : List Env} {s : Shared} {H : Hp} {E : XK} (T : Txt K mg) (h_law_turn : Has P w K mg base "_law_turn" ["_law_one", "_law_two", "_law_three"] 1 FL.sp_turn) (hr : Room 1 (cxM P w K mg base ["_law_back", "_law_one", "_law_other", "_law_spot_here", "_law_quarters", "_law_way"] "_law_sooner" s_law_sooner f cdv A outer s H E).A) :
    PSs (cxM P w K mg base ["_law_back", "_law_one", "_law_other", "_law_spot_here", "_law_quarters", "_law_way"] "_law_sooner" s_law_sooner f cdv A outer s H E) (defBody s_law_sooner) (upS K (wM E) b_law_sooner) :=
  (scons (sset (i := 3) sc_law_sooner.nd (eix (ev 0) eint))
    (scons (ssetLc (i := 4) (own := [("_law_way", 5)]) rfl sc_law_sooner.nd (is (etup (acons (ev 1) (acons (ev 2) anil)))) (blkOk_by (by first | decide +kernel | kernel_rfl | rfl)) (fun _ _ _ _ _ => (gonm sc_law_sooner.nd (i := 5) (by decide))) (fun _ _ _ _ _ => tsNil) (fun _ _ _ _ _ => (eadd eint (ecall (h_law_turn.mono (k := 1) (by decide)) hr takes0 (acons (ev 3) (acons (eix (ev 0) eint) (acons (ev 5) anil)))))))
    (scons (sif (tcmp (op_neA hr.units) ol_ne (eix (ev 4) eint) (eix (ev 4) eint)) (sone (sret (ecmp (oa_lt (u65 hr)) la_lt (eix (ev 4) eint) (eix (ev 4) eint)))) snil)
    (sone (sret (ecmp (oa_lt (u65 hr)) la_lt (ecall (h_law_turn.mono (k := 1) (by decide)) hr tkM (acons (ev 3) (acons (ev 1) (acons (ev 2) anil)))) eint))))))
abbrev s_law_squares : Stmt := top 36
theorem sc_law_squares : FnScope ["_law_row", "_law_many", "_law_shuts", "_law_k", "_law_found", "_law_number"] ["_law_row"] (defScope s_law_squares) := ⟨rfl, rfl, rfl, by decide +kernel, rfl, by decide +kernel, by decide +kernel⟩
abbrev b_law_squares : MS := FL.b_squares
theorem l_law_squares : ∀ ds S Q E, FL.sp_squares ds S Q E → ds.length = ["_law_row"].length := FL.l_squares
theorem r_law_squares : ∀ ds S Q E, FL.sp_squares ds S Q E → b_law_squares (mends Q E) (mstart 5 ds) S := FL.r_squares
theorem d_law_squares {f : Addr} {cdv : Value} {A : Around} {outer : List Env} {s : Shared} {H : Hp} {E : XK} (T : Txt K mg) (h_law_take : Has P w K mg base "_law_take" ["_law_row", "_law_base"] 1 FL.sp_take) (hr : Room 1 (cxM P w K mg base ["_law_row", "_law_many", "_law_shuts", "_law_k", "_law_found", "_law_number"] "_law_squares" s_law_squares f cdv A outer s H E).A) :
    PSs (cxM P w K mg base ["_law_row", "_law_many", "_law_shuts", "_law_k", "_law_found", "_law_number"] "_law_squares" s_law_squares f cdv A outer s H E) (defBody s_law_squares) (upS K (wM E) b_law_squares) :=
  (scons (sset (i := 1) sc_law_squares.nd (eadd eint (ecall (h_law_take.mono (k := 1) (by decide)) hr tkM (acons (ev 0) (acons eint anil)))))
    (scons (sset (i := 2) sc_law_squares.nd (elstF (acons (etup (acons (etup (acons (ev 1) (acons eint anil))) (acons (etup (acons (ev 1) (acons eint anil))) anil))) anil)))
    (scons (sfor poM rfl (ir1 T.f_range (acons (ev 1) anil)) (gnm (i := 3) sc_law_squares.nd) (sone (sset (i := 2) sc_law_squares.nd (eadd (ev 2) (elstF (acons (etup (acons (etup (acons (ev 3) (acons eint anil))) (acons (etup (acons (eadd (ev 3) eint) (acons eint anil))) anil))) (acons (etup (acons (etup (acons (ev 3) (acons eint anil))) (acons (etup (acons (eadd (ev 3) eint) (acons eint anil))) anil))) (acons (etup (acons (etup (acons (ev 3) (acons eint anil))) (acons (etup (acons (ev 3) (acons eint anil))) anil))) anil))))))))
    (scons (sset (i := 4) sc_law_squares.nd (elst anil))
    (scons (sfor poM rfl (ir1 T.f_range (acons (eblt call_len cl_len T.f_len (acons (ev 2) anil) PySem.boot_len) anil)) (gnm (i := 5) sc_law_squares.nd) (sone (sexpr (emt PySem.F.slot_list_insert PySem.F.type_list_insert mt_insert ml_insert (ev 4) (acons (ecall (h_law_take.mono (k := 1) (by decide)) hr tkM (acons (ev 0) (acons (eadd (ev 5) eint) anil))) (acons (eix (ev 2) (ev 5)) anil))))))
    (sone (sret (ev 4))))))))
abbrev s_less : Stmt := top 6
theorem sc_less : FnScope ["one", "other"] ["one", "other"] (defScope s_less) := ⟨rfl, rfl, rfl, by decide +kernel, rfl, by decide +kernel, by decide +kernel⟩
abbrev b_less : MS := FL.b_less
theorem l_less : ∀ ds S Q E, FL.sp_less ds S Q E → ds.length = ["one", "other"].length := FL.l_less
theorem r_less : ∀ ds S Q E, FL.sp_less ds S Q E → b_less (mends Q E) (mstart 0 ds) S := FL.r_less
theorem d_less {f : Addr} {cdv : Value} {A : Around} {outer : List Env} {s : Shared} {H : Hp} {E : XK} (T : Txt K mg) (h_fraction : Has P w K mg base "fraction" ["top", "bottom"] 2 FL.sp_low) (hr : Room 2 (cxM P w K mg base ["one", "other"] "less" s_less f cdv A outer s H E).A) :
    PSs (cxM P w K mg base ["one", "other"] "less" s_less f cdv A outer s H E) (defBody s_less) (upS K (wM E) b_less) :=
  (sone (sret (ecall (h_fraction.mono (k := 2) (by decide)) hr tkM (acons (esub (emul (eix (ev 0) eint) (eix (ev 1) eint)) (emul (eix (ev 1) eint) (eix (ev 0) eint))) (acons (emul (eix (ev 0) eint) (eix (ev 1) eint)) anil)))))
abbrev s_times : Stmt := top 7
theorem sc_times : FnScope ["one", "other"] ["one", "other"] (defScope s_times) := ⟨rfl, rfl, rfl, by decide +kernel, rfl, by decide +kernel, by decide +kernel⟩
abbrev b_times : MS := FL.b_times
theorem l_times : ∀ ds S Q E, FL.sp_times ds S Q E → ds.length = ["one", "other"].length := FL.l_times
theorem r_times : ∀ ds S Q E, FL.sp_times ds S Q E → b_times (mends Q E) (mstart 0 ds) S := FL.r_times
theorem d_times {f : Addr} {cdv : Value} {A : Around} {outer : List Env} {s : Shared} {H : Hp} {E : XK} (T : Txt K mg) (h_fraction : Has P w K mg base "fraction" ["top", "bottom"] 2 FL.sp_low) (hr : Room 2 (cxM P w K mg base ["one", "other"] "times" s_times f cdv A outer s H E).A) :
    PSs (cxM P w K mg base ["one", "other"] "times" s_times f cdv A outer s H E) (defBody s_times) (upS K (wM E) b_times) :=
  (sone (sret (ecall (h_fraction.mono (k := 2) (by decide)) hr tkM (acons (emul (eix (ev 0) eint) (eix (ev 1) eint)) (acons (emul (eix (ev 0) eint) (eix (ev 1) eint)) anil)))))
abbrev s_law_made : Stmt := top 26
theorem sc_law_made : FnScope ["_law_scale_here", "_law_shuts", "_law_first", "_law_second"] ["_law_scale_here", "_law_shuts"] (defScope s_law_made) := ⟨rfl, rfl, rfl, by decide +kernel, rfl, by decide +kernel, by decide +kernel⟩
abbrev b_law_made : MS := FL.b_made
theorem l_law_made : ∀ ds S Q E, FL.sp_made ds S Q E → ds.length = ["_law_scale_here", "_law_shuts"].length := FL.l_made
theorem r_law_made : ∀ ds S Q E, FL.sp_made ds S Q E → b_law_made (mends Q E) (mstart 2 ds) S := FL.r_made
theorem d_law_made {f : Addr} {cdv : Value} {A : Around} {outer : List Env} {s : Shared} {H : Hp} {E : XK} (T : Txt K mg) (h_law_spot : Has P w K mg base "_law_spot" ["_law_scale_here", "_law_unit"] 2 FL.sp_uspot) (hr : Room 2 (cxM P w K mg base ["_law_scale_here", "_law_shuts", "_law_first", "_law_second"] "_law_made" s_law_made f cdv A outer s H E).A) :
    PSs (cxM P w K mg base ["_law_scale_here", "_law_shuts", "_law_first", "_law_second"] "_law_made" s_law_made f cdv A outer s H E) (defBody s_law_made) (upS K (wM E) b_law_made) :=
  (sone (sret (etyp call_tuple_of cl_tuple T.f_tuple (acons (ecompF (own := [("_law_first", 2), ("_law_second", 3)]) rfl sc_law_made.nd (is (ev 1)) (blkOk_by (by first | decide +kernel | kernel_rfl | rfl)) (fun _ _ _ _ _ => (gotp rfl (gocn (gonm sc_law_made.nd (i := 2) (by decide)) (gocn (gonm sc_law_made.nd (i := 3) (by decide)) gonl)))) (fun _ _ _ _ _ => tsNil) (fun _ _ _ _ _ => (etup (acons (ecall (h_law_spot.mono (k := 2) (by decide)) hr takes0 (acons (ev 0) (acons (ev 2) anil))) (acons (ecall (h_law_spot.mono (k := 2) (by decide)) hr takes0 (acons (ev 0) (acons (ev 3) anil))) anil))))) anil))))
abbrev s_law_fair : Stmt := top 29
theorem sc_law_fair : FnScope ["_law_one", "_law_other", "_law_shut", "_law_beside", "_law_spot_here", "_law_sides", "_law_others"] ["_law_one", "_law_other"] (defScope s_law_fair) := ⟨rfl, rfl, rfl, by decide +kernel, rfl, by decide +kernel, by decide +kernel⟩
abbrev b_law_fair : MS := FL.b_fair
theorem l_law_fair : ∀ ds S Q E, FL.sp_fair ds S Q E → ds.length = ["_law_one", "_law_other"].length := FL.l_fair
theorem r_law_fair : ∀ ds S Q E, FL.sp_fair ds S Q E → b_law_fair (mends Q E) (mstart 5 ds) S := FL.r_fair
theorem d_law_fair {f : Addr} {cdv : Value} {A : Around} {outer : List Env} {s : Shared} {H : Hp} {E : XK} (T : Txt K mg) (h_law_turn : Has P w K mg base "_law_turn" ["_law_one", "_law_two", "_law_three"] 1 FL.sp_turn) (h_law_on : Has P w K mg base "_law_on" ["_law_shut", "_law_spot_here"] 2 FL.sp_on) (hr : Room 2 (cxM P w K mg base ["_law_one", "_law_other", "_law_shut", "_law_beside", "_law_spot_here", "_law_sides", "_law_others"] "_law_fair" s_law_fair f cdv A outer s H E).A) :
    PSs (cxM P w K mg base ["_law_one", "_law_other", "_law_shut", "_law_beside", "_law_spot_here", "_law_sides", "_law_others"] "_law_fair" s_law_fair f cdv A outer s H E) (defBody s_law_fair) (upS K (wM E) b_law_fair) :=
  (scons (sif (tcmp (op_eqA hr.units) ol_eq (ev 0) (ev 1)) (sone (sret ebl)) snil)
    (scons (sfor poM rfl (is (etup (acons (etup (acons (ev 0) (acons (ev 1) anil))) (acons (etup (acons (ev 1) (acons (ev 0) anil))) anil)))) (gtp rfl (gcn (gnm (i := 2) sc_law_fair.nd) (gcn (gnm (i := 3) sc_law_fair.nd) gnl))) (sone (sfor poM rfl (is (ev 3)) (gnm (i := 4) sc_law_fair.nd) (sone (sif (L2.PW.pt (wand (tcmp (op_notInA (u65 hr)) ol_notIn (ev 4) (ev 2)) (wand1 (ttru (ecall (h_law_on.mono (k := 2) (by decide)) hr tkM (acons (ev 2) (acons (ev 4) anil))))))) (sone (sret ebl)) snil)))))
    (scons (ssetLc (i := 5) (own := [("_law_spot_here", 4)]) rfl sc_law_fair.nd (is (ev 1)) (blkOk_by (by first | decide +kernel | kernel_rfl | rfl)) (fun _ _ _ _ _ => (gonm sc_law_fair.nd (i := 4) (by decide))) (fun _ _ _ _ _ => tsNil) (fun _ _ _ _ _ => (ecall (h_law_turn.mono (k := 2) (by decide)) hr takes0 (acons (eix (ev 0) eint) (acons (eix (ev 0) eint) (acons (ev 4) anil))))))
    (scons (ssetLc (i := 6) (own := [("_law_spot_here", 4)]) rfl sc_law_fair.nd (is (ev 0)) (blkOk_by (by first | decide +kernel | kernel_rfl | rfl)) (fun _ _ _ _ _ => (gonm sc_law_fair.nd (i := 4) (by decide))) (fun _ _ _ _ _ => tsNil) (fun _ _ _ _ _ => (ecall (h_law_turn.mono (k := 2) (by decide)) hr takes0 (acons (eix (ev 1) eint) (acons (eix (ev 1) eint) (acons (ev 4) anil))))))
    (sone (sret (eor (ecmp (oa_ge (u65 hr)) la_ge (emul (eix (ev 5) eint) (eix (ev 5) eint)) eint) (eone (ecmp (oa_ge (u65 hr)) la_ge (emul (eix (ev 6) eint) (eix (ev 6) eint)) eint)))))))))
abbrev s_law_behind : Stmt := top 33
theorem sc_law_behind : FnScope ["_law_shuts", "_law_face", "_law_start", "_law_spot_here", "_law_found", "_law_some", "_law_one", "_law_best", "_law_way"] ["_law_shuts", "_law_face"] (defScope s_law_behind) := ⟨rfl, rfl, rfl, by decide +kernel, rfl, by decide +kernel, by decide +kernel⟩
abbrev b_law_behind : MS := FL.b_ubehind
theorem l_law_behind : ∀ ds S Q E, FL.sp_ubehind ds S Q E → ds.length = ["_law_shuts", "_law_face"].length := FL.l_ubehind
theorem r_law_behind : ∀ ds S Q E, FL.sp_ubehind ds S Q E → b_law_behind (mends Q E) (mstart 7 ds) S := FL.r_ubehind
theorem d_law_behind {f : Addr} {cdv : Value} {A : Around} {outer : List Env} {s : Shared} {H : Hp} {E : XK} (T : Txt K mg) (h_law_sooner : Has P w K mg base "_law_sooner" ["_law_back", "_law_one", "_law_other"] 2 FL.sp_usooner) (h_law_ends : Has P w K mg base "_law_ends" ["_law_shuts", "_law_face"] 1 FL.sp_uends) (hr : Room 2 (cxM P w K mg base ["_law_shuts", "_law_face", "_law_start", "_law_spot_here", "_law_found", "_law_some", "_law_one", "_law_best", "_law_way"] "_law_behind" s_law_behind f cdv A outer s H E).A) :
    PSs (cxM P w K mg base ["_law_shuts", "_law_face", "_law_start", "_law_spot_here", "_law_found", "_law_some", "_law_one", "_law_best", "_law_way"] "_law_behind" s_law_behind f cdv A outer s H E) (defBody s_law_behind) (upS K (wM E) b_law_behind) :=
  (scons (sasg (ecall (h_law_ends.mono (k := 2) (by decide)) hr tkM (acons (ev 0) (acons (ev 1) anil))) (gtp rfl (gcn (gnm (i := 2) sc_law_behind.nd) (gcn (gnm (i := 3) sc_law_behind.nd) gnl))))
    (scons (sset (i := 4) sc_law_behind.nd (esub (eadd (ev 1) eint) (emul eint (emod (ev 1) eint))))
    (scons (ssetLc (i := 5) (own := [("_law_one", 6)]) rfl sc_law_behind.nd (ir1 T.f_range (acons (emul eint (eblt call_len cl_len T.f_len (acons (ev 0) anil) PySem.boot_len)) anil)) (blkOk_by (by first | decide +kernel | kernel_rfl | rfl)) (fun _ _ _ _ _ => (gonm sc_law_behind.nd (i := 6) (by decide))) (fun _ _ _ _ _ => (pts_one (L2.PW.pt (wand (tcmp (op_eqA hr.units) ol_eq (eix (ecall (h_law_ends.mono (k := 2) (by decide)) hr takes0 (acons (ev 0) (acons (ev 6) anil))) eint) (ev 3)) (wand1 (tcmp (op_neA hr.units) ol_ne (ev 6) (ev 4))))))) (fun _ _ _ _ _ => (ev 6)))
    (scons (sset (i := 7) sc_law_behind.nd enon)
    (scons (sfor poM rfl (is (ev 5)) (gnm (i := 6) sc_law_behind.nd) (scons (sset (i := 8) sc_law_behind.nd (eix (ecall (h_law_ends.mono (k := 2) (by decide)) hr tkM (acons (ev 0) (acons (ev 6) anil))) eint))
    (sone (sif (L2.PW.pt (wor (tcmp op_isN ol_isN (ev 7) enon) (wor1 (ttru (ecall (h_law_sooner.mono (k := 2) (by decide)) hr tkM (acons (etup (acons (ev 3) (acons (ev 2) anil))) (acons (ev 8) (acons (ev 7) anil)))))))) (scons (sset (i := 7) sc_law_behind.nd (ev 8))
    (sone (sset (i := 4) sc_law_behind.nd (ev 6)))) snil))))
    (sone (sret (ev 4))))))))
abbrev s_along : Stmt := top 9
theorem sc_along : FnScope ["wall", "first", "second"] ["wall"] (defScope s_along) := ⟨rfl, rfl, rfl, by decide +kernel, rfl, by decide +kernel, by decide +kernel⟩
abbrev b_along : MS := FL.b_along
theorem l_along : ∀ ds S Q E, FL.sp_along ds S Q E → ds.length = ["wall"].length := FL.l_along
theorem r_along : ∀ ds S Q E, FL.sp_along ds S Q E → b_along (mends Q E) (mstart 2 ds) S := FL.r_along
theorem d_along {f : Addr} {cdv : Value} {A : Around} {outer : List Env} {s : Shared} {H : Hp} {E : XK} (T : Txt K mg) (h_less : Has P w K mg base "less" ["one", "other"] 3 FL.sp_less) (hr : Room 3 (cxM P w K mg base ["wall", "first", "second"] "along" s_along f cdv A outer s H E).A) :
    PSs (cxM P w K mg base ["wall", "first", "second"] "along" s_along f cdv A outer s H E) (defBody s_along) (upS K (wM E) b_along) :=
  (scons (sasg (ev 0) (gtp rfl (gcn (gnm (i := 1) sc_along.nd) (gcn (gnm (i := 2) sc_along.nd) gnl))))
    (sone (sret (etup (acons (ecall (h_less.mono (k := 3) (by decide)) hr tkM (acons (eix (ev 2) eint) (acons (eix (ev 1) eint) anil))) (acons (ecall (h_less.mono (k := 3) (by decide)) hr tkM (acons (eix (ev 2) eint) (acons (eix (ev 1) eint) anil))) anil))))))
abbrev s_crossed : Stmt := top 10
theorem sc_crossed : FnScope ["one", "other"] ["one", "other"] (defScope s_crossed) := ⟨rfl, rfl, rfl, by decide +kernel, rfl, by decide +kernel, by decide +kernel⟩
abbrev b_crossed : MS := FL.b_crossed
theorem l_crossed : ∀ ds S Q E, FL.sp_crossed ds S Q E → ds.length = ["one", "other"].length := FL.l_crossed
theorem r_crossed : ∀ ds S Q E, FL.sp_crossed ds S Q E → b_crossed (mends Q E) (mstart 0 ds) S := FL.r_crossed
theorem d_crossed {f : Addr} {cdv : Value} {A : Around} {outer : List Env} {s : Shared} {H : Hp} {E : XK} (T : Txt K mg) (h_less : Has P w K mg base "less" ["one", "other"] 3 FL.sp_less) (h_times : Has P w K mg base "times" ["one", "other"] 3 FL.sp_times) (hr : Room 3 (cxM P w K mg base ["one", "other"] "crossed" s_crossed f cdv A outer s H E).A) :
    PSs (cxM P w K mg base ["one", "other"] "crossed" s_crossed f cdv A outer s H E) (defBody s_crossed) (upS K (wM E) b_crossed) :=
  (sone (sret (ecall (h_less.mono (k := 3) (by decide)) hr tkM (acons (ecall (h_times.mono (k := 3) (by decide)) hr tkM (acons (eix (ev 0) eint) (acons (eix (ev 1) eint) anil))) (acons (ecall (h_times.mono (k := 3) (by decide)) hr tkM (acons (eix (ev 0) eint) (acons (eix (ev 1) eint) anil))) anil)))))
abbrev s_law_shuts_here : Stmt := top 30
theorem sc_law_shuts_here : FnScope ["_law_row", "_law_most", "_law_size", "_law_shuts", "_law_turn_here", "_law_one", "_law_other", "_law_shut", "_law_beside"] ["_law_row", "_law_most", "_law_size"] (defScope s_law_shuts_here) := ⟨rfl, rfl, rfl, by decide +kernel, rfl, by decide +kernel, by decide +kernel⟩
abbrev b_law_shuts_here : MS := FL.b_shuts_here
theorem l_law_shuts_here : ∀ ds S Q E, FL.sp_shuts_here ds S Q E → ds.length = ["_law_row", "_law_most", "_law_size"].length := FL.l_shuts_here
theorem r_law_shuts_here : ∀ ds S Q E, FL.sp_shuts_here ds S Q E → b_law_shuts_here (mends Q E) (mstart 6 ds) S := FL.r_shuts_here
theorem d_law_shuts_here {f : Addr} {cdv : Value} {A : Around} {outer : List Env} {s : Shared} {H : Hp} {E : XK} (T : Txt K mg) (h_law_take : Has P w K mg base "_law_take" ["_law_row", "_law_base"] 1 FL.sp_take) (h_law_fair : Has P w K mg base "_law_fair" ["_law_one", "_law_other"] 3 FL.sp_fair) (hr : Room 3 (cxM P w K mg base ["_law_row", "_law_most", "_law_size", "_law_shuts", "_law_turn_here", "_law_one", "_law_other", "_law_shut", "_law_beside"] "_law_shuts_here" s_law_shuts_here f cdv A outer s H E).A) :
    PSs (cxM P w K mg base ["_law_row", "_law_most", "_law_size", "_law_shuts", "_law_turn_here", "_law_one", "_law_other", "_law_shut", "_law_beside"] "_law_shuts_here" s_law_shuts_here f cdv A outer s H E) (defBody s_law_shuts_here) (upS K (wM E) b_law_shuts_here) :=
  (scons (sset (i := 3) sc_law_shuts_here.nd (elst anil))
    (scons (sfor poM rfl (ir1 T.f_range (acons (ecall (h_law_take.mono (k := 3) (by decide)) hr tkM (acons (ev 0) (acons (eadd (ev 1) eint) anil))) anil)) (gnm (i := 4) sc_law_shuts_here.nd) (scons (sset (i := 5) sc_law_shuts_here.nd (etup (acons (ecall (h_law_take.mono (k := 3) (by decide)) hr tkM (acons (ev 0) (acons (ev 2) anil))) (acons (ecall (h_law_take.mono (k := 3) (by decide)) hr tkM (acons (ev 0) (acons (ev 2) anil))) anil))))
    (scons (sset (i := 6) sc_law_shuts_here.nd (etup (acons (ecall (h_law_take.mono (k := 3) (by decide)) hr tkM (acons (ev 0) (acons (ev 2) anil))) (acons (ecall (h_law_take.mono (k := 3) (by decide)) hr tkM (acons (ev 0) (acons (ev 2) anil))) anil))))
    (scons (sifJ (L2.PW.pt (wand (tcmp (op_neA hr.units) ol_ne (ev 3) (elstF anil)) (wand1 (tcmp (oa_gt (u65 hr)) la_gt (ecall (h_law_take.mono (k := 3) (by decide)) hr tkM (acons (ev 0) (acons eint anil))) eint)))) (sone (sset (i := 5) sc_law_shuts_here.nd (eix (eix (ev 3) (ecall (h_law_take.mono (k := 3) (by decide)) hr tkM (acons (ev 0) (acons (eblt call_len cl_len T.f_len (acons (ev 3) anil) PySem.boot_len) anil)))) (ecall (h_law_take.mono (k := 3) (by decide)) hr tkM (acons (ev 0) (acons eint anil)))))) snil)
    (scons (sset (i := 7) sc_law_shuts_here.nd (etup (acons (eblt (ca_min rfl (u65 hr)) cl_minA T.f_min (acons (ev 5) (acons (ev 6) anil))) (acons (eblt (ca_max rfl (u65 hr)) cl_maxA T.f_max (acons (ev 5) (acons (ev 6) anil))) anil))))
    (sone (sifJ (L2.PW.pt (wand (tcmp (op_neA hr.units) ol_ne (ev 5) (ev 6)) (wand1 (ttru (eblt (cr_all rfl) cl_all T.f_all (acons (ecompF (own := [("_law_beside", 8)]) rfl sc_law_shuts_here.nd (is (ev 3)) (blkOk_by (by first | decide +kernel | kernel_rfl | rfl)) (fun _ _ _ _ _ => (gonm sc_law_shuts_here.nd (i := 8) (by decide))) (fun _ _ _ _ _ => tsNil) (fun _ _ _ _ _ => (ecall (h_law_fair.mono (k := 3) (by decide)) hr takes0 (acons (ev 7) (acons (ev 8) anil))))) anil)))))) (sone (sexpr (emt PySem.F.slot_list_append PySem.F.type_list_append mt_append ml_append (ev 3) (acons (ev 7) anil)))) snil)))))))
    (sone (sret (ev 3)))))
abbrev s_leaning : Stmt := top 11
theorem sc_leaning : FnScope ["one", "other", "found"] ["one", "other"] (defScope s_leaning) := ⟨rfl, rfl, rfl, by decide +kernel, rfl, by decide +kernel, by decide +kernel⟩
abbrev b_leaning : MS := FL.b_leaning
theorem l_leaning : ∀ ds S Q E, FL.sp_leaning ds S Q E → ds.length = ["one", "other"].length := FL.l_leaning
theorem r_leaning : ∀ ds S Q E, FL.sp_leaning ds S Q E → b_leaning (mends Q E) (mstart 1 ds) S := FL.r_leaning
theorem d_leaning {f : Addr} {cdv : Value} {A : Around} {outer : List Env} {s : Shared} {H : Hp} {E : XK} (T : Txt K mg) (h_crossed : Has P w K mg base "crossed" ["one", "other"] 4 FL.sp_crossed) (hr : Room 4 (cxM P w K mg base ["one", "other", "found"] "leaning" s_leaning f cdv A outer s H E).A) :
    PSs (cxM P w K mg base ["one", "other", "found"] "leaning" s_leaning f cdv A outer s H E) (defBody s_leaning) (upS K (wM E) b_leaning) :=
  (scons (sset (i := 2) sc_leaning.nd (ecall (h_crossed.mono (k := 4) (by decide)) hr tkM (acons (ev 0) (acons (ev 1) anil))))
    (sone (sret (esub (etyp call_int1 cl_int T.f_int (acons (ecmp (oa_gt (u65 hr)) la_gt (eix (ev 2) eint) eint) anil)) (etyp call_int1 cl_int T.f_int (acons (ecmp (oa_lt (u65 hr)) la_lt (eix (ev 2) eint) eint) anil))))))
abbrev s_quarter_to : Stmt := top 16
theorem sc_quarter_to : FnScope ["back", "way"] ["back", "way"] (defScope s_quarter_to) := ⟨rfl, rfl, rfl, by decide +kernel, rfl, by decide +kernel, by decide +kernel⟩
abbrev b_quarter_to : MS := FL.b_quarter_to
theorem l_quarter_to : ∀ ds S Q E, FL.sp_quarter_to ds S Q E → ds.length = ["back", "way"].length := FL.l_quarter_to
theorem r_quarter_to : ∀ ds S Q E, FL.sp_quarter_to ds S Q E → b_quarter_to (mends Q E) (mstart 0 ds) S := FL.r_quarter_to
theorem d_quarter_to {f : Addr} {cdv : Value} {A : Around} {outer : List Env} {s : Shared} {H : Hp} {E : XK} (T : Txt K mg) (h_leaning : Has P w K mg base "leaning" ["one", "other"] 5 FL.sp_leaning) (hr : Room 5 (cxM P w K mg base ["back", "way"] "quarter_to" s_quarter_to f cdv A outer s H E).A) :
    PSs (cxM P w K mg base ["back", "way"] "quarter_to" s_quarter_to f cdv A outer s H E) (defBody s_quarter_to) (upS K (wM E) b_quarter_to) :=
  (sone (sret (eadd eint (ecall (h_leaning.mono (k := 5) (by decide)) hr tkM (acons (ev 0) (acons (ev 1) anil))))))
abbrev s_is_met_sooner : Stmt := top 17
theorem sc_is_met_sooner : FnScope ["back", "one", "other"] ["back", "one", "other"] (defScope s_is_met_sooner) := ⟨rfl, rfl, rfl, by decide +kernel, rfl, by decide +kernel, by decide +kernel⟩
abbrev b_is_met_sooner : MS := FL.b_is_met_sooner
theorem l_is_met_sooner : ∀ ds S Q E, FL.sp_is_met_sooner ds S Q E → ds.length = ["back", "one", "other"].length := FL.l_is_met_sooner
theorem r_is_met_sooner : ∀ ds S Q E, FL.sp_is_met_sooner ds S Q E → b_is_met_sooner (mends Q E) (mstart 0 ds) S := FL.r_is_met_sooner
theorem d_is_met_sooner {f : Addr} {cdv : Value} {A : Around} {outer : List Env} {s : Shared} {H : Hp} {E : XK} (T : Txt K mg) (h_leaning : Has P w K mg base "leaning" ["one", "other"] 5 FL.sp_leaning) (h_quarter_to : Has P w K mg base "quarter_to" ["back", "way"] 6 FL.sp_quarter_to) (hr : Room 6 (cxM P w K mg base ["back", "one", "other"] "is_met_sooner" s_is_met_sooner f cdv A outer s H E).A) :
    PSs (cxM P w K mg base ["back", "one", "other"] "is_met_sooner" s_is_met_sooner f cdv A outer s H E) (defBody s_is_met_sooner) (upS K (wM E) b_is_met_sooner) :=
  (scons (sif (tcmp (op_neA hr.units) ol_ne (ecall (h_quarter_to.mono (k := 6) (by decide)) hr tkM (acons (ev 0) (acons (ev 1) anil))) (ecall (h_quarter_to.mono (k := 6) (by decide)) hr tkM (acons (ev 0) (acons (ev 2) anil)))) (sone (sret (ecmp (oa_lt (u65 hr)) la_lt (ecall (h_quarter_to.mono (k := 6) (by decide)) hr tkM (acons (ev 0) (acons (ev 1) anil))) (ecall (h_quarter_to.mono (k := 6) (by decide)) hr tkM (acons (ev 0) (acons (ev 2) anil)))))) snil)
    (sone (sret (ecmp (op_eqA hr.units) ol_eq (ecall (h_leaning.mono (k := 6) (by decide)) hr tkM (acons (ev 2) (acons (ev 1) anil))) eint))))
abbrev s_met_first : Stmt := top 18
theorem sc_met_first : FnScope ["plot", "face", "faces", "begin", "spot", "back", "found", "best", "other", "way"] ["plot", "face", "faces"] (defScope s_met_first) := ⟨rfl, rfl, rfl, by decide +kernel, rfl, by decide +kernel, by decide +kernel⟩
abbrev b_met_first : MS := FL.b_met_first
theorem l_met_first : ∀ ds S Q E, FL.sp_met_first ds S Q E → ds.length = ["plot", "face", "faces"].length := FL.l_met_first
theorem r_met_first : ∀ ds S Q E, FL.sp_met_first ds S Q E → b_met_first (mends Q E) (mstart 7 ds) S := FL.r_met_first
theorem d_met_first {f : Addr} {cdv : Value} {A : Around} {outer : List Env} {s : Shared} {H : Hp} {E : XK} (T : Txt K mg) (h_is_met_sooner : Has P w K mg base "is_met_sooner" ["back", "one", "other"] 7 FL.sp_is_met_sooner) (h_other_face : Has P w K mg base "other_face" ["face"] 1 FL.sp_other_face) (h_along : Has P w K mg base "along" ["wall"] 4 FL.sp_along) (h_ends_of_face : Has P w K mg base "ends_of_face" ["plot", "face"] 1 FL.sp_ends_of_face) (hr : Room 7 (cxM P w K mg base ["plot", "face", "faces", "begin", "spot", "back", "found", "best", "other", "way"] "met_first" s_met_first f cdv A outer s H E).A) :
    PSs (cxM P w K mg base ["plot", "face", "faces", "begin", "spot", "back", "found", "best", "other", "way"] "met_first" s_met_first f cdv A outer s H E) (defBody s_met_first) (upS K (wM E) b_met_first) :=
  (scons (sasg (ecall (h_ends_of_face.mono (k := 7) (by decide)) hr tkM (acons (ev 0) (acons (ev 1) anil))) (gtp rfl (gcn (gnm (i := 3) sc_met_first.nd) (gcn (gnm (i := 4) sc_met_first.nd) gnl))))
    (scons (sset (i := 5) sc_met_first.nd (ecall (h_along.mono (k := 7) (by decide)) hr tkM (acons (etup (acons (ev 4) (acons (ev 3) anil))) anil)))
    (scons (sset (i := 6) sc_met_first.nd (ecall (h_other_face.mono (k := 7) (by decide)) hr tkM (acons (ev 1) anil)))
    (scons (sset (i := 7) sc_met_first.nd enon)
    (scons (sfor poM rfl (is (ev 2)) (gnm (i := 8) sc_met_first.nd) (scons (sset (i := 9) sc_met_first.nd (ecall (h_along.mono (k := 7) (by decide)) hr tkM (acons (ecall (h_ends_of_face.mono (k := 7) (by decide)) hr tkM (acons (ev 0) (acons (ev 8) anil))) anil)))
    (sone (sif (L2.PW.pt (wand (tcmp (op_neA hr.units) ol_ne (ev 8) (ecall (h_other_face.mono (k := 7) (by decide)) hr tkM (acons (ev 1) anil))) (wand1 (L2.PW.pt (wor (tcmp op_isN ol_isN (ev 7) enon) (wor1 (ttru (ecall (h_is_met_sooner.mono (k := 7) (by decide)) hr tkM (acons (ev 5) (acons (ev 9) (acons (ev 7) anil))))))))))) (scons (sset (i := 6) sc_met_first.nd (ev 8))
    (sone (sset (i := 7) sc_met_first.nd (ev 9)))) snil))))
    (sone (sret (ev 6))))))))
abbrev s_behind : Stmt := top 19
theorem sc_behind : FnScope ["plot", "face"] ["plot", "face"] (defScope s_behind) := ⟨rfl, rfl, rfl, by decide +kernel, rfl, by decide +kernel, by decide +kernel⟩
abbrev b_behind : MS := FL.b_behind
theorem l_behind : ∀ ds S Q E, FL.sp_behind ds S Q E → ds.length = ["plot", "face"].length := FL.l_behind
theorem r_behind : ∀ ds S Q E, FL.sp_behind ds S Q E → b_behind (mends Q E) (mstart 0 ds) S := FL.r_behind
theorem d_behind {f : Addr} {cdv : Value} {A : Around} {outer : List Env} {s : Shared} {H : Hp} {E : XK} (T : Txt K mg) (h_met_first : Has P w K mg base "met_first" ["plot", "face", "faces"] 8 FL.sp_met_first) (h_faces_by_begin : Has P w K mg base "faces_by_begin" ["plot"] 2 FL.sp_faces_by_begin) (h_ends_of_face : Has P w K mg base "ends_of_face" ["plot", "face"] 1 FL.sp_ends_of_face) (hr : Room 8 (cxM P w K mg base ["plot", "face"] "behind" s_behind f cdv A outer s H E).A) :
    PSs (cxM P w K mg base ["plot", "face"] "behind" s_behind f cdv A outer s H E) (defBody s_behind) (upS K (wM E) b_behind) :=
  (sone (sret (ecall (h_met_first.mono (k := 8) (by decide)) hr tkM (acons (ev 0) (acons (ev 1) (acons (esget (u65 hr) (ecall (h_faces_by_begin.mono (k := 8) (by decide)) hr tkM (acons (ev 0) anil)) (eix (ecall (h_ends_of_face.mono (k := 8) (by decide)) hr tkM (acons (ev 0) (acons (ev 1) anil))) eint)) anil))))))
abbrev s_law : Stmt := top 37
theorem sc_law : FnScope ["_law_script", "_law_k", "_law_row", "_law_scale_here", "_law_shuts", "_law_plot", "_law_found", "_law_face"] ["_law_script"] (defScope s_law) := ⟨rfl, rfl, rfl, by decide +kernel, rfl, by decide +kernel, by decide +kernel⟩
def b_law : MS := (mSeq (mFor (iR1 (mCons (mBlt bMaxA (mCons (mC (.int 1)) (mCons (mBlt bMinA (mCons (mC (.int 4)) (mCons (mBlt bLen (mCons (mVar 0) mNil)) mNil))) mNil))) mNil)) (gNm 1) (mSeq (mSet 2 (mLst (mCons (mCall FL.sp_cell_at (mCons (mVar 0) (mCons (mVar 1) mNil))) (mCons (mC (.int 0)) mNil))))
  (mSeq (mSet 3 (mCall FL.sp_scale (mCons (mVar 2) mNil)))
  (mSeq (mSet 4 (mCall FL.sp_shuts_here (mCons (mVar 2) (mCons (mC (.int 9)) (mCons (mC (.int 5)) mNil)))))
  (mSeq (mIfJ (mTst (mOp rEqM (mCall FL.sp_take (mCons (mVar 2) (mCons (mC (.int 10)) mNil))) (mC (.int 0)))) (mSet 4 (mCall FL.sp_squares (mCons (mVar 2) mNil))) mNext)
  (mSeq (mSet 5 (mCall FL.sp_made (mCons (mVar 3) (mCons (mVar 4) mNil))))
  (mSeq (mSet 6 (mComp (iR1 (mCons (mOp rMul (mC (.int 2)) (mBlt bLen (mCons (mVar 4) mNil))) mNil)) (gNm 7) mYes (mCall FL.sp_behind (mCons (mVar 5) (mCons (mVar 7) mNil))) [7]))
  (mSeq (mIfS (mTst (mOp rNeM (mVar 6) (mCompF (iR1 (mCons (mOp rMul (mC (.int 2)) (mBlt bLen (mCons (mVar 4) mNil))) mNil)) (gNm 7) mYes (mCall FL.sp_ubehind (mCons (mVar 4) (mCons (mVar 7) mNil))) [7]))) (mRet (mC (.bl false))) mNext)
  (mIfS (mOr (mTst (mOp rNeM (mBlt bSortI (mCons (mVar 6) mNil)) (mListR (mOp rMul (mC (.int 2)) (mBlt bLen (mCons (mVar 4) mNil)))))) (mTst (mOp rInB (mC (.bl true)) (mCompF (iS (mVar 6)) (gNm 7) mYes (mIsi "bool" (mVar 7)) [7])))) (mRet (mC (.bl false))) mNext)))))))))
  (mRet (mC (.bl true))))
theorem d_law {f : Addr} {cdv : Value} {A : Around} {outer : List Env} {s : Shared} {H : Hp} {E : XK} (T : Txt K mg) (h_law_behind : Has P w K mg base "_law_behind" ["_law_shuts", "_law_face"] 3 FL.sp_ubehind) (h_behind : Has P w K mg base "behind" ["plot", "face"] 9 FL.sp_behind) (h_law_made : Has P w K mg base "_law_made" ["_law_scale_here", "_law_shuts"] 3 FL.sp_made) (h_law_take : Has P w K mg base "_law_take" ["_law_row", "_law_base"] 1 FL.sp_take) (h_law_squares : Has P w K mg base "_law_squares" ["_law_row"] 2 FL.sp_squares) (h_law_shuts_here : Has P w K mg base "_law_shuts_here" ["_law_row", "_law_most", "_law_size"] 4 FL.sp_shuts_here) (h_law_scale : Has P w K mg base "_law_scale" ["_law_row"] 2 FL.sp_scale) (h_law_cell_at : Has P w K mg base "_law_cell_at" ["_law_script", "_law_k"] 1 FL.sp_cell_at) (hr : Room 9 (cxM P w K mg base ["_law_script", "_law_k", "_law_row", "_law_scale_here", "_law_shuts", "_law_plot", "_law_found", "_law_face"] "law" s_law f cdv A outer s H E).A) :
    PSs (cxM P w K mg base ["_law_script", "_law_k", "_law_row", "_law_scale_here", "_law_shuts", "_law_plot", "_law_found", "_law_face"] "law" s_law f cdv A outer s H E) (defBody s_law) (upS K (wM E) b_law) :=
  (scons (sfor poM rfl (ir1 T.f_range (acons (eblt (ca_max rfl (u65 hr)) cl_maxA T.f_max (acons eint (acons (eblt (ca_min rfl (u65 hr)) cl_minA T.f_min (acons eint (acons (eblt call_len cl_len T.f_len (acons (ev 0) anil) PySem.boot_len) anil))) anil))) anil)) (gnm (i := 1) sc_law.nd) (scons (sset (i := 2) sc_law.nd (elst (acons (ecall (h_law_cell_at.mono (k := 9) (by decide)) hr tkM (acons (ev 0) (acons (ev 1) anil))) (acons eint anil))))
    (scons (sset (i := 3) sc_law.nd (ecall (h_law_scale.mono (k := 9) (by decide)) hr tkM (acons (ev 2) anil)))
    (scons (sset (i := 4) sc_law.nd (ecall (h_law_shuts_here.mono (k := 9) (by decide)) hr tkM (acons (ev 2) (acons eint (acons eint anil)))))
    (scons (sifJ (tcmp (op_eqA hr.units) ol_eq (ecall (h_law_take.mono (k := 9) (by decide)) hr tkM (acons (ev 2) (acons eint anil))) eint) (sone (sset (i := 4) sc_law.nd (ecall (h_law_squares.mono (k := 9) (by decide)) hr tkM (acons (ev 2) anil)))) snil)
    (scons (sset (i := 5) sc_law.nd (ecall (h_law_made.mono (k := 9) (by decide)) hr tkM (acons (ev 3) (acons (ev 4) anil))))
    (scons (ssetLc (i := 6) (own := [("_law_face", 7)]) rfl sc_law.nd (ir1 T.f_range (acons (emul eint (eblt call_len cl_len T.f_len (acons (ev 4) anil) PySem.boot_len)) anil)) (blkOk_by (by first | decide +kernel | kernel_rfl | rfl)) (fun _ _ _ _ _ => (gonm sc_law.nd (i := 7) (by decide))) (fun _ _ _ _ _ => tsNil) (fun _ _ _ _ _ => (ecall (h_behind.mono (k := 9) (by decide)) hr takes0 (acons (ev 5) (acons (ev 7) anil)))))
    (scons (sif (tcmp (op_neA hr.units) ol_ne (ev 6) (ecompF (own := [("_law_face", 7)]) rfl sc_law.nd (ir1 T.f_range (acons (emul eint (eblt call_len cl_len T.f_len (acons (ev 4) anil) PySem.boot_len)) anil)) (blkOk_by (by first | decide +kernel | kernel_rfl | rfl)) (fun _ _ _ _ _ => (gonm sc_law.nd (i := 7) (by decide))) (fun _ _ _ _ _ => tsNil) (fun _ _ _ _ _ => (ecall (h_law_behind.mono (k := 9) (by decide)) hr takes0 (acons (ev 4) (acons (ev 7) anil)))))) (sone (sret ebl)) snil)
    (sone (sif (L2.PW.pt (wor (tcmp (op_neA hr.units) ol_ne (eblt cr_sortedI cl_sortI T.f_sorted (acons (ev 6) anil)) (elistR rfl T.f_list T.f_range (emul eint (eblt call_len cl_len T.f_len (acons (ev 4) anil) PySem.boot_len)))) (wor1 (tcmp op_in_seq ol_inB ebl (ecompF (own := [("_law_face", 7)]) rfl sc_law.nd (is (ev 6)) (blkOk_by (by first | decide +kernel | kernel_rfl | rfl)) (fun _ _ _ _ _ => (gonm sc_law.nd (i := 7) (by decide))) (fun _ _ _ _ _ => tsNil) (fun _ _ _ _ _ => (eisi T.k_bool T.f_isinstance T.f_bool (ev 7)))))))) (sone (sret ebl)) snil))))))))))
    (sone (sret ebl)))
end
end Lk17

-- FLQ     
set_option maxRecDepth 100000
set_option maxHeartbeats 4000000
namespace Lk17
open PySem PySem.Spec L2 ML FL
local macro_rules | `(tactic| simp $c:optConfig $[$d:discharger]? only [gv] $[$l:location]?) => `(tactic| simp $c $[$d]? only [↓ML.q_mSeq, ↓ML.q_mC, ↓ML.q_mOp, ↓ML.q_mUn, ↓ML.q_mTst, ↓ML.q_mNot, ↓ML.q_mNotV, ↓ML.q_mRet, ↓ML.q_mRetN, ↓ML.q_mExpr, ↓ML.q_mNext, ↓ML.q_mBreak, ↓ML.q_mCont, ↓ML.q_mAsg, ↓ML.q_gSb, ↓ML.q_mTup, ↓ML.q_mLst, ↓ML.q_mLstF, ↓ML.q_mCons, ↓ML.q_mNil, ↓ML.q_mBlt, ↓ML.q_rEqM, ↓ML.q_rNeM, ↓ML.q_iR1, ↓ML.q_iR2, ↓ML.q_iEn, ↓ML.q_iZp, ↓ML.q_mMt, ↓ML.q_mMt0, ↓ML.q_mYes, ↓ML.q_mCut, ↓ML.q_oNo, ↓ML.q_oSo, ↓ML.l_mCall, ↓ML.l_mAnd, ↓ML.l_mOr, ↓ML.l_mAndV, ↓ML.l_mOrV, ↓ML.l_mIf, ↓ML.l_mIfS, ↓ML.l_mChain, ↓ML.l_mVar, ↓ML.l_mFor, ↓ML.l_mWhile, ↓ML.l_mComp, ↓ML.l_mCompF, ↓ML.l_optP, ↓ML.l_Go, ↓ML.Hold_v, ↓ML.l_mSet, ↓ML.l_gNm, ↓ML.l_mPar, ↓ML.l_rIxM, ↓ML.l_rSetM, ↓ML.l_rInt, ↓ML.l_rInt0, ↓ML.l_rAdd_int, ↓ML.l_rAdd_str, ↓ML.l_rAdd_tup, ↓ML.l_rNeg, ↓ML.l_rIsN, ↓ML.l_rNotN, ↓ML.l_rIsBM, ↓ML.l_mTru, ↓ML.l_bLen, ↓ML.l_bAbs, ↓ML.l_bMax2, ↓ML.l_bMin2, ↓ML.l_bInt_i, ↓ML.l_bInt_b, ↓ML.l_bTuple, ↓ML.l_bListF, ↓ML.l_bList, ↓ML.l_mIsi, ↓ML.l_iL, ↓ML.l_iT, ↓ML.l_gTp, ↓ML.l_gLs, ↓ML.l_gCn, ↓ML.l_gNl, ↓ML.l_mtAppend, ML.Hold_v, ML.l_mVar_z, ML.l_mVar_s, ML.OptP_some, ML.Go_eq, ML.IteP_true, ML.IteP_false, ML.lstOf_ref', ML.lstOf_lst, ML.lstOf_scr, ML.lstOf_tup, ML.ownOf_ref', ML.ownOf_lst, ML.seqOf_tup', ML.seqOf_lst', ML.seqOf_scr', ML.seqOf_ref', ML.olP_lst, ML.tupOf_tup, ML.ixL_lit, ML.ixL_cast, ML.ixL_m1, ML.setAt_lit, ML.setAt_cast, ML.truD_bl, ML.truD_int, ML.truD_tup, ML.truD_lst, ML.truD_scr, ML.truD_non, ML.lenD_tup, ML.lenD_lst, ML.lenD_scr, ML.lenD_ref, ML.tyD_non, ML.tyD_bl, ML.tyD_int, ML.tyD_str, ML.tyD_tup, ML.tyD_lst, ML.szl, ML.szlt, ML.cpow_lit, ML.mulok_rl, ML.mulok_ll, ML.divok_l, ML.put_same, ML.put_put, ML.q_wipeM, ML.deq_int, ML.deq_bl, ML.deq_str, ML.deq_non, ML.eqOk_int, ML.eqOk_bl, ML.isTy_NoneType_int, ML.isTy_NoneType_bool, ML.isTy_NoneType_tuple, ML.isTy_NoneType_list, ML.isTy_NoneType_str, ML.isTy_bool_int, ML.isTy_bool_bool, ML.isTy_bool_tuple, ML.isTy_bool_list, ML.isTy_bool_str, ML.isTy_int_int, ML.isTy_int_bool, ML.isTy_int_tuple, ML.isTy_int_list, ML.isTy_int_str, ML.isTy_str_int, ML.isTy_str_bool, ML.isTy_str_tuple, ML.isTy_str_list, ML.isTy_str_str, ML.isTy_tuple_int, ML.isTy_tuple_bool, ML.isTy_tuple_tuple, ML.isTy_tuple_list, ML.isTy_tuple_str, ML.isTy_list_int, ML.isTy_list_bool, ML.isTy_list_tuple, ML.isTy_list_list, ML.isTy_list_str, ML.isTy_dict_int, ML.isTy_dict_bool, ML.isTy_dict_tuple, ML.isTy_dict_list, ML.isTy_dict_str, FL.tup_fr, FL.tup_sp, FL.tup_wl, FL.tupOf_fr, FL.tupOf_sp, FL.tupOf_wl, FL.nz0, FL.nz1, FL.nz2, FL.nz3, FL.look_non, FL.look_int, FL.look_bl, FL.look_str, FL.look_tup, FL.look_lst, FL.look_scr, FL.seqOf_fr, FL.seqOf_sp, FL.seqOf_wl, FL.look_fr, FL.look_sp, FL.look_wl, FL.eqOk_fr, FL.eqOk_sp, FL.eqOk_wl, FL.deq_fr, FL.deq_sp, FL.deq_wl, FL.tyD_fr, FL.tyD_sp, FL.tyD_wl, FL.isN_fr, FL.isN_sp, FL.isN_wl, FL.lenD_sp, FL.lenD_wl, FL.rAdd_wl_tup, List.length_map, List.map_cons, List.map_nil, List.replicate, List.set_cons_zero, List.set_cons_succ, List.getElem?_cons_zero, List.getElem?_cons_succ, List.cons_append, List.nil_append, List.length_cons, List.length_nil, Option.bind_some, Option.map_some, ↓reduceIte, Nat.reduceAdd, Nat.reduceSub, Nat.reduceLT, Nat.reduceLeDiff, Nat.zero_add, decide_eq_true_eq, Bool.not_eq_true, ne_eq, reduceCtorEq, not_false_eq_true, true_and, and_true, Bool.false_eq_true, Bool.not_true, Bool.not_false, decide_true, decide_false, not_true_eq_false, eq_self, Bool.not_eq_eq_eq_not, if_true, if_false, decide_eq_false_iff_not, ML.ncast, Int.reduceToNat, Int.reducePow, Int.reduceAdd, Int.reduceSub, Int.reduceMul, Int.reduceNeg, Int.reduceLT, Int.reduceLE, Int.reduceEq, Nat.reduceEqDiff, Int.zero_add, gt_iff_lt, beq_self_eq_true, Bool.true_beq, Bool.false_beq, Bool.and_true, Bool.and_false, Bool.true_and, Bool.false_and, ↓ML.l_mtInsert, ↓ML.l_mtReverse, ↓ML.l_mtClear, ↓ML.l_bSortU, ↓ML.q_mMt0, ↓ML.l_bMaxL, ↓ML.l_bMinL, ↓ML.l_aLt_int, ↓ML.l_aLt_u, ↓ML.l_aGt_int, ↓ML.l_aGt_u, ↓ML.l_aLe_int, ↓ML.l_aLe_u, ↓ML.l_aGe_int, ↓ML.l_aGe_u, ↓ML.l_bMaxA_int, ↓ML.l_bMaxA_u, ↓ML.l_bMinA_int, ↓ML.l_bMinA_u, ML.tup_u, ML.tupOf_u, ML.seqOf_u, ML.sqI_u, ML.look_u, ML.isN_u, ML.lenD_u, ML.tyD_u, ML.tup_uw, ML.tupOf_uw, ML.seqOf_uw, ML.sqI_uw, ML.look_uw, ML.isN_uw, ML.lenD_uw, ML.tyD_uw, ML.eqOk_u, ML.eqOk_uw, ML.deq_u, ML.deq_uw, ML.in_uw, ↓ML.l_mRaise, ↓ML.l_mTry, ↓ML.l_mIsE, ↓ML.l_mIsV, ↓ML.l_mtCount, ↓ML.l_rAddS_rl, ↓ML.l_rAddS_ll, ML.excD_ref, ML.excOf_exc, ML.blsOf_nil, ML.blsOf_cons, ML.endM_nx, ML.endM_rt, ↓ML.l_mYes, ↓ML.l_iS, ↓ML.l_mIfJ, ↓ML.l_mJ, ↓ML.CrollP_nil, ↓ML.CrollP_cons, ↓ML.CrA_at, ↓ML.FrollP_nil, ↓ML.FrollP_cons, ML.isN_non, ML.isN_int, ML.isN_bl, ML.isN_str, ML.isN_tup, ML.isN_lst, ML.isN_ref, ML.sqI_tup, ML.sqI_lst, ML.sqI_scr, ML.sqI_ref, ML.sqI_at, ML.rngD_0, ML.rngD_1, ML.rngD_2, ML.rngD_3, ML.rngD_4, ML.rngD_6, ML.q_wipeM_nil, ML.q_wipeM_cons, FL.sqI_sp, FL.sqI_wl, FL.l_rAdd_rl, FL.l_rAdd_ll, FL.l_rAdd_lr, FL.l_rAdd_rr, FL.in_ints, FL.in_lu, ↓ML.l_mListR, ↓ML.l_mDIn, ↓ML.l_mDPut, ↓ML.l_mDNew, ML.dtD_ref, ML.dtO_dT, ML.keysD_nil, ML.keysD_int, ↓ML.l_mRev2, ↓ML.l_bSum, ↓ML.l_iEnT, ↓ML.l_mSortSet, ↓ML.l_mSNew, ↓ML.l_mSGet, ↓ML.l_mSSetd, ↓ML.l_mKNew, ↓ML.l_mKIn, ↓ML.l_mKGet, ↓ML.l_mKPut, ML.dsD_ref, ML.dsO_dS, ML.dkD_ref, ML.dkO_dK, ML.keyD_i, ↓ML.l_bSortI] $[$l]?)
local macro_rules | `(tactic| simp $c:optConfig $[$d:discharger]? only [gv, $ls,*] $[$l:location]?) => `(tactic| simp $c $[$d]? only [↓ML.q_mSeq, ↓ML.q_mC, ↓ML.q_mOp, ↓ML.q_mUn, ↓ML.q_mTst, ↓ML.q_mNot, ↓ML.q_mNotV, ↓ML.q_mRet, ↓ML.q_mRetN, ↓ML.q_mExpr, ↓ML.q_mNext, ↓ML.q_mBreak, ↓ML.q_mCont, ↓ML.q_mAsg, ↓ML.q_gSb, ↓ML.q_mTup, ↓ML.q_mLst, ↓ML.q_mLstF, ↓ML.q_mCons, ↓ML.q_mNil, ↓ML.q_mBlt, ↓ML.q_rEqM, ↓ML.q_rNeM, ↓ML.q_iR1, ↓ML.q_iR2, ↓ML.q_iEn, ↓ML.q_iZp, ↓ML.q_mMt, ↓ML.q_mMt0, ↓ML.q_mYes, ↓ML.q_mCut, ↓ML.q_oNo, ↓ML.q_oSo, ↓ML.l_mCall, ↓ML.l_mAnd, ↓ML.l_mOr, ↓ML.l_mAndV, ↓ML.l_mOrV, ↓ML.l_mIf, ↓ML.l_mIfS, ↓ML.l_mChain, ↓ML.l_mVar, ↓ML.l_mFor, ↓ML.l_mWhile, ↓ML.l_mComp, ↓ML.l_mCompF, ↓ML.l_optP, ↓ML.l_Go, ↓ML.Hold_v, ↓ML.l_mSet, ↓ML.l_gNm, ↓ML.l_mPar, ↓ML.l_rIxM, ↓ML.l_rSetM, ↓ML.l_rInt, ↓ML.l_rInt0, ↓ML.l_rAdd_int, ↓ML.l_rAdd_str, ↓ML.l_rAdd_tup, ↓ML.l_rNeg, ↓ML.l_rIsN, ↓ML.l_rNotN, ↓ML.l_rIsBM, ↓ML.l_mTru, ↓ML.l_bLen, ↓ML.l_bAbs, ↓ML.l_bMax2, ↓ML.l_bMin2, ↓ML.l_bInt_i, ↓ML.l_bInt_b, ↓ML.l_bTuple, ↓ML.l_bListF, ↓ML.l_bList, ↓ML.l_mIsi, ↓ML.l_iL, ↓ML.l_iT, ↓ML.l_gTp, ↓ML.l_gLs, ↓ML.l_gCn, ↓ML.l_gNl, ↓ML.l_mtAppend, ML.Hold_v, ML.l_mVar_z, ML.l_mVar_s, ML.OptP_some, ML.Go_eq, ML.IteP_true, ML.IteP_false, ML.lstOf_ref', ML.lstOf_lst, ML.lstOf_scr, ML.lstOf_tup, ML.ownOf_ref', ML.ownOf_lst, ML.seqOf_tup', ML.seqOf_lst', ML.seqOf_scr', ML.seqOf_ref', ML.olP_lst, ML.tupOf_tup, ML.ixL_lit, ML.ixL_cast, ML.ixL_m1, ML.setAt_lit, ML.setAt_cast, ML.truD_bl, ML.truD_int, ML.truD_tup, ML.truD_lst, ML.truD_scr, ML.truD_non, ML.lenD_tup, ML.lenD_lst, ML.lenD_scr, ML.lenD_ref, ML.tyD_non, ML.tyD_bl, ML.tyD_int, ML.tyD_str, ML.tyD_tup, ML.tyD_lst, ML.szl, ML.szlt, ML.cpow_lit, ML.mulok_rl, ML.mulok_ll, ML.divok_l, ML.put_same, ML.put_put, ML.q_wipeM, ML.deq_int, ML.deq_bl, ML.deq_str, ML.deq_non, ML.eqOk_int, ML.eqOk_bl, ML.isTy_NoneType_int, ML.isTy_NoneType_bool, ML.isTy_NoneType_tuple, ML.isTy_NoneType_list, ML.isTy_NoneType_str, ML.isTy_bool_int, ML.isTy_bool_bool, ML.isTy_bool_tuple, ML.isTy_bool_list, ML.isTy_bool_str, ML.isTy_int_int, ML.isTy_int_bool, ML.isTy_int_tuple, ML.isTy_int_list, ML.isTy_int_str, ML.isTy_str_int, ML.isTy_str_bool, ML.isTy_str_tuple, ML.isTy_str_list, ML.isTy_str_str, ML.isTy_tuple_int, ML.isTy_tuple_bool, ML.isTy_tuple_tuple, ML.isTy_tuple_list, ML.isTy_tuple_str, ML.isTy_list_int, ML.isTy_list_bool, ML.isTy_list_tuple, ML.isTy_list_list, ML.isTy_list_str, ML.isTy_dict_int, ML.isTy_dict_bool, ML.isTy_dict_tuple, ML.isTy_dict_list, ML.isTy_dict_str, FL.tup_fr, FL.tup_sp, FL.tup_wl, FL.tupOf_fr, FL.tupOf_sp, FL.tupOf_wl, FL.nz0, FL.nz1, FL.nz2, FL.nz3, FL.look_non, FL.look_int, FL.look_bl, FL.look_str, FL.look_tup, FL.look_lst, FL.look_scr, FL.seqOf_fr, FL.seqOf_sp, FL.seqOf_wl, FL.look_fr, FL.look_sp, FL.look_wl, FL.eqOk_fr, FL.eqOk_sp, FL.eqOk_wl, FL.deq_fr, FL.deq_sp, FL.deq_wl, FL.tyD_fr, FL.tyD_sp, FL.tyD_wl, FL.isN_fr, FL.isN_sp, FL.isN_wl, FL.lenD_sp, FL.lenD_wl, FL.rAdd_wl_tup, List.length_map, List.map_cons, List.map_nil, List.replicate, List.set_cons_zero, List.set_cons_succ, List.getElem?_cons_zero, List.getElem?_cons_succ, List.cons_append, List.nil_append, List.length_cons, List.length_nil, Option.bind_some, Option.map_some, ↓reduceIte, Nat.reduceAdd, Nat.reduceSub, Nat.reduceLT, Nat.reduceLeDiff, Nat.zero_add, decide_eq_true_eq, Bool.not_eq_true, ne_eq, reduceCtorEq, not_false_eq_true, true_and, and_true, Bool.false_eq_true, Bool.not_true, Bool.not_false, decide_true, decide_false, not_true_eq_false, eq_self, Bool.not_eq_eq_eq_not, if_true, if_false, decide_eq_false_iff_not, ML.ncast, Int.reduceToNat, Int.reducePow, Int.reduceAdd, Int.reduceSub, Int.reduceMul, Int.reduceNeg, Int.reduceLT, Int.reduceLE, Int.reduceEq, Nat.reduceEqDiff, Int.zero_add, gt_iff_lt, beq_self_eq_true, Bool.true_beq, Bool.false_beq, Bool.and_true, Bool.and_false, Bool.true_and, Bool.false_and, ↓ML.l_mtInsert, ↓ML.l_mtReverse, ↓ML.l_mtClear, ↓ML.l_bSortU, ↓ML.q_mMt0, ↓ML.l_bMaxL, ↓ML.l_bMinL, ↓ML.l_aLt_int, ↓ML.l_aLt_u, ↓ML.l_aGt_int, ↓ML.l_aGt_u, ↓ML.l_aLe_int, ↓ML.l_aLe_u, ↓ML.l_aGe_int, ↓ML.l_aGe_u, ↓ML.l_bMaxA_int, ↓ML.l_bMaxA_u, ↓ML.l_bMinA_int, ↓ML.l_bMinA_u, ML.tup_u, ML.tupOf_u, ML.seqOf_u, ML.sqI_u, ML.look_u, ML.isN_u, ML.lenD_u, ML.tyD_u, ML.tup_uw, ML.tupOf_uw, ML.seqOf_uw, ML.sqI_uw, ML.look_uw, ML.isN_uw, ML.lenD_uw, ML.tyD_uw, ML.eqOk_u, ML.eqOk_uw, ML.deq_u, ML.deq_uw, ML.in_uw, ↓ML.l_mRaise, ↓ML.l_mTry, ↓ML.l_mIsE, ↓ML.l_mIsV, ↓ML.l_mtCount, ↓ML.l_rAddS_rl, ↓ML.l_rAddS_ll, ML.excD_ref, ML.excOf_exc, ML.blsOf_nil, ML.blsOf_cons, ML.endM_nx, ML.endM_rt, ↓ML.l_mYes, ↓ML.l_iS, ↓ML.l_mIfJ, ↓ML.l_mJ, ↓ML.CrollP_nil, ↓ML.CrollP_cons, ↓ML.CrA_at, ↓ML.FrollP_nil, ↓ML.FrollP_cons, ML.isN_non, ML.isN_int, ML.isN_bl, ML.isN_str, ML.isN_tup, ML.isN_lst, ML.isN_ref, ML.sqI_tup, ML.sqI_lst, ML.sqI_scr, ML.sqI_ref, ML.sqI_at, ML.rngD_0, ML.rngD_1, ML.rngD_2, ML.rngD_3, ML.rngD_4, ML.rngD_6, ML.q_wipeM_nil, ML.q_wipeM_cons, FL.sqI_sp, FL.sqI_wl, FL.l_rAdd_rl, FL.l_rAdd_ll, FL.l_rAdd_lr, FL.l_rAdd_rr, FL.in_ints, FL.in_lu, ↓ML.l_mListR, ↓ML.l_mDIn, ↓ML.l_mDPut, ↓ML.l_mDNew, ML.dtD_ref, ML.dtO_dT, ML.keysD_nil, ML.keysD_int, ↓ML.l_mRev2, ↓ML.l_bSum, ↓ML.l_iEnT, ↓ML.l_mSortSet, ↓ML.l_mSNew, ↓ML.l_mSGet, ↓ML.l_mSSetd, ↓ML.l_mKNew, ↓ML.l_mKIn, ↓ML.l_mKGet, ↓ML.l_mKPut, ML.dsD_ref, ML.dsO_dS, ML.dkD_ref, ML.dkO_dK, ML.keyD_i, ↓ML.l_bSortI, $ls,*] $[$l]?)
-- counts /tmp/scratch/dev/N_k17.json
theorem l_law : ∀ ds S Q E, spLaw ds S Q E → ds.length = ["n"].length := by
  rintro _ _ _ _ ⟨n, rfl, _⟩; rfl

theorem r_law : ∀ ds S Q E, spLaw ds S Q E → b_law (mends Q E) (mstart 7 ds) S := by
  rintro _ S Q E ⟨ns, rfl, hl, q⟩
  unfold b_law
  simp only [ML.q_mstart, ML.q_mends, List.map_cons, List.map_nil, List.replicate, List.cons_append, List.nil_append]
  simp only [gv]
  refine ⟨by split <;> omega, ?_⟩
  refine rng_inv (fun i σ S' => @KP ⟨∃ a b c d e f g, σ = [some (.scr (ns.map .int)), a, b, c, d, e, f, g]⟩) ⟨_, _, _, _, _, _, _, rfl⟩ ?_ ?_
  · rintro i σ S1 - ⟨a, b, c, d, e, f, g, rfl⟩
    simp only [gv]
    refine t_cell fun c0 => ?_
    simp only [gv]
    intro p hp
    refine t_scale (n := 0) put_same (by decide) fun s c1 n1 hs hn1 => ?_
    simp only [gv]
    refine t_shuts (most := 9) rfl put_same (by omega) (by decide) (by decide) (by decide) fun ws0 r0 c2 n2 S2 dr0 hn2 hr0 rp0 ext hp2 hr2 => ?_
    simp only [gv]
    refine t_take hp2 (by decide) (by decide) (by omega) fun x c3 x0 x1 => ?_
    have hp3 : put S2 p (rowO c3 (n2 + 1 : Nat)) p = some (rowO c3 (n2 + 1 : Nat)) := put_same
    simp only [gv]
    refine jf (fun (σ : MSt) (S' : Sto) => ∃ (m : Nat) (z : Int) (ws : List UW) (r : Addr), Drawn m z ws ∧ m ≤ 40 ∧ z ≤ 14 ∧ S' r = some (.lst (ws.map uwD)) ∧ ∃ a b c, σ = [some (.scr (ns.map .int)), some (.int (i : Nat)), some (.ref p), some (scD s), some (.ref r), a, b, c]) (fun hx => ?_) (fun hx => ?_) ?_
    · simp only [gv]
      refine ⟨p, c3, n2 + 1, rfl, hp3, by omega, fun ws r c4 n4 S4 dr hn4 rp ext4 hp4 hr4 => ?_⟩
      simp only [gv]
      exact ⟨40, 14, ws, r, dr, by decide, by decide, hr4, _, _, _, rfl⟩
    · simp only [gv]
      exact ⟨9, 5, ws0, r0, dr0, by decide, by decide, by rw [put_ne rp0]; exact hr2, _, _, _, rfl⟩
    rintro σ S3 ⟨m, z, ws, r, dr, hm, hz, hr3, a, b, c, rfl⟩
    simp only [gv]
    have lw : ws.length ≤ 40 := Nat.le_trans dr.len hm
    have hz5 : z ≤ 500 := by omega
    refine t_made (ws := ws) hs (.ref hr3) (by omega) (fun w hw => (dr.wok hz5 hw).mono (by decide)) ?_
    rw [plt_enc]
    simp only [gv, hr3]
    refine ⟨by omega, fun u hu => ?_⟩
    rw [show (2 * (ws.length : Int)).toNat = 2 * ws.length by omega]
    have ru : r ≠ u := sne hr3 hu
    refine comp_grow (S0 := S3) (fun g : Nat => .int (0 + (g : Nat))) (fun g => nD (behindU ws g)) (fun _ => true) (List.range (2 * ws.length)) rfl (by rw [List.length_range]; omega) put_same Grow.rfl.put (fun _ _ => trivial) ?_ ?_
    · intro f acc S4 Q1 Q2 hf g4 hu4 q1 q2
      simp only [gv]
      refine ⟨s, m, z, ws, f, rfl, hs, dr, by omega, hz5, List.mem_range.mp hf, fun S5 x5 => ?_⟩
      simp only [gv]
      exact q1 rfl S5 x5
    · intro S4 g4 hu4
      have hr4 := g4 r _ ru hr3
      have ef : ((List.range (2 * ws.length)).filter fun _ => true) = List.range (2 * ws.length) := List.filter_eq_self.mpr fun _ _ => rfl
      rw [ef] at hu4
      simp only [gv, hr4]
      refine ⟨by omega, fun v hv => ?_⟩
      rw [show (2 * (ws.length : Int)).toNat = 2 * ws.length by omega]
      have uv : u ≠ v := sne hu4 hv
      have rv : r ≠ v := sne hr4 hv
      refine comp_grow (S0 := S4) (fun g : Nat => .int (0 + (g : Nat))) (fun g => nD (behindU ws g)) (fun _ => true) (List.range (2 * ws.length)) rfl (by rw [List.length_range]; omega) put_same Grow.rfl.put (fun _ _ => trivial) ?_ ?_
      · intro f acc S5 Q1 Q2 hf g5 hv5 q1 q2
        have hr5 := g5 r _ rv hr4
        simp only [gv]
        refine ⟨.ref r, m, z, ws, f, rfl, .ref hr5, dr, by omega, hz5, List.mem_range.mp hf, fun S6 x6 => ?_⟩
        simp only [gv]
        exact q1 rfl S6 x6
      · intro S5 g5 hv5
        try rw [ef]
        have hr5 := g5 r _ rv hr4
        have hu5 := g5 u _ uv hu4
        have e2 : (List.range (2 * ws.length)).map (fun g => nD (behindU ws g)) = ((List.range (2 * ws.length)).map (behindU ws)).map nD := by rw [List.map_map]; rfl
        have hu6 : ML.del S5 v u = some (.lst (((List.range (2 * ws.length)).map (behindU ws)).map nD)) := by rw [← e2]; unfold ML.del; rw [if_neg uv]; exact hu5
        have hr6 : ML.del S5 v r = some (.lst (ws.map uwD)) := by unfold ML.del; rw [if_neg rv]; exact hr5
        simp only [gv]
        generalize ML.del S5 v = S6 at *
        rw [look_ref hu6, e2]
        refine ⟨eqOk_ln, ?_⟩
        rw [deq_ln]
        simp only [gv, decide_true]
        have e3 : (((List.range (2 * ws.length)).map (behindU ws)).map nD) = ((List.range (2 * ws.length)).map fun f => (behindU ws f : Int)).map .int := by rw [List.map_map, List.map_map]; rfl
        refine sortIP (ns := (List.range (2 * ws.length)).map fun f => (behindU ws f : Int)) (by rw [lstOf_ref', hu6, e3]; exact olP_lst) (by rw [List.length_map, List.length_range]; omega) fun ms pm hp => ?_
        have e4 := sorted_behind dr pm hp
        subst e4
        simp only [gv, hr6]
        refine ⟨by omega, ?_⟩
        rw [show (2 * (ws.length : Int)).toNat = 2 * ws.length by omega]
        have e5 : rngD 0 (2 * ws.length) = (List.range (2 * ws.length)).map nD := List.map_congr_left fun i _ => by unfold nD; rw [Int.zero_add]
        have e6 : ((List.range (2 * ws.length)).map fun (k : Nat) => (k : Int)).map D.int = (List.range (2 * ws.length)).map nD := by rw [List.map_map]; rfl
        rw [e5, e6]
        refine ⟨eqOk_ln, ?_⟩
        rw [deq_ln]
        simp only [gv, decide_true, sqI_at hu6]
        intro y hy
        have uy : u ≠ y := sne hu6 hy
        refine comp_map nD (fun _ => .bl false) ((List.range (2 * ws.length)).map (behindU ws)) rfl (by rw [List.length_map, List.length_range]; omega) (fun acc => by show olP _ = _; rw [put_ne uy, hu6]; rfl) ?_ ?_
        · intro f acc Q1 hf q1
          simp only [gv, nD]
          exact q1
        · simp only [gv, del_put hy]
          have e7 : (((List.range (2 * ws.length)).map (behindU ws)).map fun _ => D.bl false) = (((List.range (2 * ws.length)).map (behindU ws)).map fun _ => false).map .bl := by rw [List.map_map, List.map_map, List.map_map]; rfl
          have e8 : ((((List.range (2 * ws.length)).map (behindU ws)).map fun _ => false).any fun c => c == true) = false := by rw [List.any_eq_false]; intro x hx; obtain ⟨_, _, rfl⟩ := List.mem_map.mp hx; decide
          rw [e7, l_rInB, e8]
          simp only [gv]
          exact KP.mk ⟨_, _, _, _, _, _, _, rfl⟩
  · rintro σ S1 ⟨a, b, c, d, e, f, g, rfl⟩
    simp only [gv]; exact q _
end Lk17

set_option maxRecDepth 100000
set_option maxHeartbeats 0
namespace Lk17
open PySem PySem.Spec L2 ML
open PyProof.Rows hiding St
section
variable {P : Program} {w : World} {K : PySem.W.Frag} {mg : Str → Option Value} {base : Heap}
abbrev FnP (K : PySem.W.Frag) (x : Str) (st : Stmt) (f : Addr) (fd : FuncData) : Prop := FunD K x x (defArgs st) (defBody st) (defScope st) [] [] f fd
theorem fn_divisor {f : Addr} {fd : FuncData} (T : Txt K mg) (F : FnP K "divisor" s_divisor f fd)  : FnOk P w K mg base (L2.CX P w) 1 f fd ["one", "other"] (upSp K FL.sp_divisor) :=
  fn_mk (N := ["one", "other"]) F sc_divisor rfl l_divisor (fun _ _ _ _ _ _ hr => d_divisor T  hr) r_divisor
theorem h_divisor {f : Addr} {fd : FuncData} (T : Txt K mg) (F : FnP K "divisor" s_divisor f fd) (g : mg "divisor" = some (.ref f))  : Has P w K mg base "divisor" ["one", "other"] 1 FL.sp_divisor :=
  ⟨f, fd, g, F.kp, F.bindsN fun _ _ _ _ _ _ us hl => match us, hl with | [_, _], _ => rfl, fn_divisor T F ⟩
theorem fn_ends_of_face {f : Addr} {fd : FuncData} (T : Txt K mg) (F : FnP K "ends_of_face" s_ends_of_face f fd)  : FnOk P w K mg base (L2.CX P w) 1 f fd ["plot", "face"] (upSp K FL.sp_ends_of_face) :=
  fn_mk (N := ["plot", "face", "first", "second"]) F sc_ends_of_face rfl l_ends_of_face (fun _ _ _ _ _ _ hr => d_ends_of_face T  hr) r_ends_of_face
theorem h_ends_of_face {f : Addr} {fd : FuncData} (T : Txt K mg) (F : FnP K "ends_of_face" s_ends_of_face f fd) (g : mg "ends_of_face" = some (.ref f))  : Has P w K mg base "ends_of_face" ["plot", "face"] 1 FL.sp_ends_of_face :=
  ⟨f, fd, g, F.kp, F.bindsN fun _ _ _ _ _ _ us hl => match us, hl with | [_, _], _ => rfl, fn_ends_of_face T F ⟩
theorem fn_other_face {f : Addr} {fd : FuncData} (T : Txt K mg) (F : FnP K "other_face" s_other_face f fd)  : FnOk P w K mg base (L2.CX P w) 1 f fd ["face"] (upSp K FL.sp_other_face) :=
  fn_mk (N := ["face"]) F sc_other_face rfl l_other_face (fun _ _ _ _ _ _ hr => d_other_face T  hr) r_other_face
theorem h_other_face {f : Addr} {fd : FuncData} (T : Txt K mg) (F : FnP K "other_face" s_other_face f fd) (g : mg "other_face" = some (.ref f))  : Has P w K mg base "other_face" ["face"] 1 FL.sp_other_face :=
  ⟨f, fd, g, F.kp, F.bindsN fun _ _ _ _ _ _ us hl => match us, hl with | [_], _ => rfl, fn_other_face T F ⟩
theorem fn_law_cell_at {f : Addr} {fd : FuncData} (T : Txt K mg) (F : FnP K "_law_cell_at" s_law_cell_at f fd)  : FnOk P w K mg base (L2.CX P w) 1 f fd ["_law_script", "_law_k"] (upSp K FL.sp_cell_at) :=
  fn_mk (N := ["_law_script", "_law_k"]) F sc_law_cell_at rfl l_law_cell_at (fun _ _ _ _ _ _ hr => d_law_cell_at T  hr) r_law_cell_at
theorem h_law_cell_at {f : Addr} {fd : FuncData} (T : Txt K mg) (F : FnP K "_law_cell_at" s_law_cell_at f fd) (g : mg "_law_cell_at" = some (.ref f))  : Has P w K mg base "_law_cell_at" ["_law_script", "_law_k"] 1 FL.sp_cell_at :=
  ⟨f, fd, g, F.kp, F.bindsN fun _ _ _ _ _ _ us hl => match us, hl with | [_, _], _ => rfl, fn_law_cell_at T F ⟩
theorem fn_law_take {f : Addr} {fd : FuncData} (T : Txt K mg) (F : FnP K "_law_take" s_law_take f fd)  : FnOk P w K mg base (L2.CX P w) 1 f fd ["_law_row", "_law_base"] (upSp K FL.sp_take) :=
  fn_mk (N := ["_law_row", "_law_base", "_law_rest", "_law_number"]) F sc_law_take rfl l_law_take (fun _ _ _ _ _ _ hr => d_law_take T  hr) r_law_take
theorem h_law_take {f : Addr} {fd : FuncData} (T : Txt K mg) (F : FnP K "_law_take" s_law_take f fd) (g : mg "_law_take" = some (.ref f))  : Has P w K mg base "_law_take" ["_law_row", "_law_base"] 1 FL.sp_take :=
  ⟨f, fd, g, F.kp, F.bindsN fun _ _ _ _ _ _ us hl => match us, hl with | [_, _], _ => rfl, fn_law_take T F ⟩
theorem fn_law_low {f : Addr} {fd : FuncData} (T : Txt K mg) (F : FnP K "_law_low" s_law_low f fd)  : FnOk P w K mg base (L2.CX P w) 1 f fd ["_law_top", "_law_bottom"] (upSp K FL.sp_low) :=
  fn_mk (N := ["_law_top", "_law_bottom", "_law_one", "_law_other"]) F sc_law_low rfl l_law_low (fun _ _ _ _ _ _ hr => d_law_low T  hr) r_law_low
theorem h_law_low {f : Addr} {fd : FuncData} (T : Txt K mg) (F : FnP K "_law_low" s_law_low f fd) (g : mg "_law_low" = some (.ref f))  : Has P w K mg base "_law_low" ["_law_top", "_law_bottom"] 1 FL.sp_low :=
  ⟨f, fd, g, F.kp, F.bindsN fun _ _ _ _ _ _ us hl => match us, hl with | [_, _], _ => rfl, fn_law_low T F ⟩
theorem fn_law_turn {f : Addr} {fd : FuncData} (T : Txt K mg) (F : FnP K "_law_turn" s_law_turn f fd)  : FnOk P w K mg base (L2.CX P w) 1 f fd ["_law_one", "_law_two", "_law_three"] (upSp K FL.sp_turn) :=
  fn_mk (N := ["_law_one", "_law_two", "_law_three", "_law_far", "_law_beside", "_law_found"]) F sc_law_turn rfl l_law_turn (fun _ _ _ _ _ _ hr => d_law_turn T  hr) r_law_turn
theorem h_law_turn {f : Addr} {fd : FuncData} (T : Txt K mg) (F : FnP K "_law_turn" s_law_turn f fd) (g : mg "_law_turn" = some (.ref f))  : Has P w K mg base "_law_turn" ["_law_one", "_law_two", "_law_three"] 1 FL.sp_turn :=
  ⟨f, fd, g, F.kp, F.bindsN fun _ _ _ _ _ _ us hl => match us, hl with | [_, _, _], _ => rfl, fn_law_turn T F ⟩
theorem fn_law_ends {f : Addr} {fd : FuncData} (T : Txt K mg) (F : FnP K "_law_ends" s_law_ends f fd)  : FnOk P w K mg base (L2.CX P w) 1 f fd ["_law_shuts", "_law_face"] (upSp K FL.sp_uends) :=
  fn_mk (N := ["_law_shuts", "_law_face"]) F sc_law_ends rfl l_law_ends (fun _ _ _ _ _ _ hr => d_law_ends T  hr) r_law_ends
theorem h_law_ends {f : Addr} {fd : FuncData} (T : Txt K mg) (F : FnP K "_law_ends" s_law_ends f fd) (g : mg "_law_ends" = some (.ref f))  : Has P w K mg base "_law_ends" ["_law_shuts", "_law_face"] 1 FL.sp_uends :=
  ⟨f, fd, g, F.kp, F.bindsN fun _ _ _ _ _ _ us hl => match us, hl with | [_, _], _ => rfl, fn_law_ends T F ⟩
theorem fn_fraction {f : Addr} {fd : FuncData} (T : Txt K mg) (F : FnP K "fraction" s_fraction f fd) (h_divisor : Has P w K mg base "divisor" ["one", "other"] 1 FL.sp_divisor) : FnOk P w K mg base (L2.CX P w) 2 f fd ["top", "bottom"] (upSp K FL.sp_low) :=
  fn_mk (N := ["top", "bottom", "by"]) F sc_fraction rfl l_fraction (fun _ _ _ _ _ _ hr => d_fraction T h_divisor hr) r_fraction
theorem h_fraction {f : Addr} {fd : FuncData} (T : Txt K mg) (F : FnP K "fraction" s_fraction f fd) (g : mg "fraction" = some (.ref f)) (h_divisor : Has P w K mg base "divisor" ["one", "other"] 1 FL.sp_divisor) : Has P w K mg base "fraction" ["top", "bottom"] 2 FL.sp_low :=
  ⟨f, fd, g, F.kp, F.bindsN fun _ _ _ _ _ _ us hl => match us, hl with | [_, _], _ => rfl, fn_fraction T F h_divisor⟩
theorem fn_faces_by_begin {f : Addr} {fd : FuncData} (T : Txt K mg) (F : FnP K "faces_by_begin" s_faces_by_begin f fd) (h_ends_of_face : Has P w K mg base "ends_of_face" ["plot", "face"] 1 FL.sp_ends_of_face) : FnOk P w K mg base (L2.CX P w) 2 f fd ["plot"] (upSp K FL.sp_faces_by_begin) :=
  fn_mk (N := ["plot", "found", "face"]) F sc_faces_by_begin rfl l_faces_by_begin (fun _ _ _ _ _ _ hr => d_faces_by_begin T h_ends_of_face hr) r_faces_by_begin
theorem h_faces_by_begin {f : Addr} {fd : FuncData} (T : Txt K mg) (F : FnP K "faces_by_begin" s_faces_by_begin f fd) (g : mg "faces_by_begin" = some (.ref f)) (h_ends_of_face : Has P w K mg base "ends_of_face" ["plot", "face"] 1 FL.sp_ends_of_face) : Has P w K mg base "faces_by_begin" ["plot"] 2 FL.sp_faces_by_begin :=
  ⟨f, fd, g, F.kp, F.bindsN fun _ _ _ _ _ _ us hl => match us, hl with | [_], _ => rfl, fn_faces_by_begin T F h_ends_of_face⟩
theorem fn_law_scale {f : Addr} {fd : FuncData} (T : Txt K mg) (F : FnP K "_law_scale" s_law_scale f fd) (h_law_take : Has P w K mg base "_law_take" ["_law_row", "_law_base"] 1 FL.sp_take) : FnOk P w K mg base (L2.CX P w) 2 f fd ["_law_row"] (upSp K FL.sp_scale) :=
  fn_mk (N := ["_law_row", "_law_top", "_law_bottom", "_law_far"]) F sc_law_scale rfl l_law_scale (fun _ _ _ _ _ _ hr => d_law_scale T h_law_take hr) r_law_scale
theorem h_law_scale {f : Addr} {fd : FuncData} (T : Txt K mg) (F : FnP K "_law_scale" s_law_scale f fd) (g : mg "_law_scale" = some (.ref f)) (h_law_take : Has P w K mg base "_law_take" ["_law_row", "_law_base"] 1 FL.sp_take) : Has P w K mg base "_law_scale" ["_law_row"] 2 FL.sp_scale :=
  ⟨f, fd, g, F.kp, F.bindsN fun _ _ _ _ _ _ us hl => match us, hl with | [_], _ => rfl, fn_law_scale T F h_law_take⟩
theorem fn_law_spot {f : Addr} {fd : FuncData} (T : Txt K mg) (F : FnP K "_law_spot" s_law_spot f fd) (h_law_low : Has P w K mg base "_law_low" ["_law_top", "_law_bottom"] 1 FL.sp_low) : FnOk P w K mg base (L2.CX P w) 2 f fd ["_law_scale_here", "_law_unit"] (upSp K FL.sp_uspot) :=
  fn_mk (N := ["_law_scale_here", "_law_unit", "_law_top", "_law_bottom", "_law_x", "_law_y"]) F sc_law_spot rfl l_law_spot (fun _ _ _ _ _ _ hr => d_law_spot T h_law_low hr) r_law_spot
theorem h_law_spot {f : Addr} {fd : FuncData} (T : Txt K mg) (F : FnP K "_law_spot" s_law_spot f fd) (g : mg "_law_spot" = some (.ref f)) (h_law_low : Has P w K mg base "_law_low" ["_law_top", "_law_bottom"] 1 FL.sp_low) : Has P w K mg base "_law_spot" ["_law_scale_here", "_law_unit"] 2 FL.sp_uspot :=
  ⟨f, fd, g, F.kp, F.bindsN fun _ _ _ _ _ _ us hl => match us, hl with | [_, _], _ => rfl, fn_law_spot T F h_law_low⟩
theorem fn_law_on {f : Addr} {fd : FuncData} (T : Txt K mg) (F : FnP K "_law_on" s_law_on f fd) (h_law_turn : Has P w K mg base "_law_turn" ["_law_one", "_law_two", "_law_three"] 1 FL.sp_turn) : FnOk P w K mg base (L2.CX P w) 2 f fd ["_law_shut", "_law_spot_here"] (upSp K FL.sp_on) :=
  fn_mk (N := ["_law_shut", "_law_spot_here"]) F sc_law_on rfl l_law_on (fun _ _ _ _ _ _ hr => d_law_on T h_law_turn hr) r_law_on
theorem h_law_on {f : Addr} {fd : FuncData} (T : Txt K mg) (F : FnP K "_law_on" s_law_on f fd) (g : mg "_law_on" = some (.ref f)) (h_law_turn : Has P w K mg base "_law_turn" ["_law_one", "_law_two", "_law_three"] 1 FL.sp_turn) : Has P w K mg base "_law_on" ["_law_shut", "_law_spot_here"] 2 FL.sp_on :=
  ⟨f, fd, g, F.kp, F.bindsN fun _ _ _ _ _ _ us hl => match us, hl with | [_, _], _ => rfl, fn_law_on T F h_law_turn⟩
theorem fn_law_sooner {f : Addr} {fd : FuncData} (T : Txt K mg) (F : FnP K "_law_sooner" s_law_sooner f fd) (h_law_turn : Has P w K mg base "_law_turn" ["_law_one", "_law_two", "_law_three"] 1 FL.sp_turn) : FnOk P w K mg base (L2.CX P w) 2 f fd ["_law_back", "_law_one", "_law_other"] (upSp K FL.sp_usooner) :=
  fn_mk (N := ["_law_back", "_law_one", "_law_other", "_law_spot_here", "_law_quarters", "_law_way"]) F sc_law_sooner rfl l_law_sooner (fun _ _ _ _ _ _ hr => d_law_sooner T h_law_turn hr) r_law_sooner
theorem h_law_sooner {f : Addr} {fd : FuncData} (T : Txt K mg) (F : FnP K "_law_sooner" s_law_sooner f fd) (g : mg "_law_sooner" = some (.ref f)) (h_law_turn : Has P w K mg base "_law_turn" ["_law_one", "_law_two", "_law_three"] 1 FL.sp_turn) : Has P w K mg base "_law_sooner" ["_law_back", "_law_one", "_law_other"] 2 FL.sp_usooner :=
  ⟨f, fd, g, F.kp, F.bindsN fun _ _ _ _ _ _ us hl => match us, hl with | [_, _, _], _ => rfl, fn_law_sooner T F h_law_turn⟩
theorem fn_law_squares {f : Addr} {fd : FuncData} (T : Txt K mg) (F : FnP K "_law_squares" s_law_squares f fd) (h_law_take : Has P w K mg base "_law_take" ["_law_row", "_law_base"] 1 FL.sp_take) : FnOk P w K mg base (L2.CX P w) 2 f fd ["_law_row"] (upSp K FL.sp_squares) :=
  fn_mk (N := ["_law_row", "_law_many", "_law_shuts", "_law_k", "_law_found", "_law_number"]) F sc_law_squares rfl l_law_squares (fun _ _ _ _ _ _ hr => d_law_squares T h_law_take hr) r_law_squares
theorem h_law_squares {f : Addr} {fd : FuncData} (T : Txt K mg) (F : FnP K "_law_squares" s_law_squares f fd) (g : mg "_law_squares" = some (.ref f)) (h_law_take : Has P w K mg base "_law_take" ["_law_row", "_law_base"] 1 FL.sp_take) : Has P w K mg base "_law_squares" ["_law_row"] 2 FL.sp_squares :=
  ⟨f, fd, g, F.kp, F.bindsN fun _ _ _ _ _ _ us hl => match us, hl with | [_], _ => rfl, fn_law_squares T F h_law_take⟩
theorem fn_less {f : Addr} {fd : FuncData} (T : Txt K mg) (F : FnP K "less" s_less f fd) (h_fraction : Has P w K mg base "fraction" ["top", "bottom"] 2 FL.sp_low) : FnOk P w K mg base (L2.CX P w) 3 f fd ["one", "other"] (upSp K FL.sp_less) :=
  fn_mk (N := ["one", "other"]) F sc_less rfl l_less (fun _ _ _ _ _ _ hr => d_less T h_fraction hr) r_less
theorem h_less {f : Addr} {fd : FuncData} (T : Txt K mg) (F : FnP K "less" s_less f fd) (g : mg "less" = some (.ref f)) (h_fraction : Has P w K mg base "fraction" ["top", "bottom"] 2 FL.sp_low) : Has P w K mg base "less" ["one", "other"] 3 FL.sp_less :=
  ⟨f, fd, g, F.kp, F.bindsN fun _ _ _ _ _ _ us hl => match us, hl with | [_, _], _ => rfl, fn_less T F h_fraction⟩
theorem fn_times {f : Addr} {fd : FuncData} (T : Txt K mg) (F : FnP K "times" s_times f fd) (h_fraction : Has P w K mg base "fraction" ["top", "bottom"] 2 FL.sp_low) : FnOk P w K mg base (L2.CX P w) 3 f fd ["one", "other"] (upSp K FL.sp_times) :=
  fn_mk (N := ["one", "other"]) F sc_times rfl l_times (fun _ _ _ _ _ _ hr => d_times T h_fraction hr) r_times
theorem h_times {f : Addr} {fd : FuncData} (T : Txt K mg) (F : FnP K "times" s_times f fd) (g : mg "times" = some (.ref f)) (h_fraction : Has P w K mg base "fraction" ["top", "bottom"] 2 FL.sp_low) : Has P w K mg base "times" ["one", "other"] 3 FL.sp_times :=
  ⟨f, fd, g, F.kp, F.bindsN fun _ _ _ _ _ _ us hl => match us, hl with | [_, _], _ => rfl, fn_times T F h_fraction⟩
theorem fn_law_made {f : Addr} {fd : FuncData} (T : Txt K mg) (F : FnP K "_law_made" s_law_made f fd) (h_law_spot : Has P w K mg base "_law_spot" ["_law_scale_here", "_law_unit"] 2 FL.sp_uspot) : FnOk P w K mg base (L2.CX P w) 3 f fd ["_law_scale_here", "_law_shuts"] (upSp K FL.sp_made) :=
  fn_mk (N := ["_law_scale_here", "_law_shuts", "_law_first", "_law_second"]) F sc_law_made rfl l_law_made (fun _ _ _ _ _ _ hr => d_law_made T h_law_spot hr) r_law_made
theorem h_law_made {f : Addr} {fd : FuncData} (T : Txt K mg) (F : FnP K "_law_made" s_law_made f fd) (g : mg "_law_made" = some (.ref f)) (h_law_spot : Has P w K mg base "_law_spot" ["_law_scale_here", "_law_unit"] 2 FL.sp_uspot) : Has P w K mg base "_law_made" ["_law_scale_here", "_law_shuts"] 3 FL.sp_made :=
  ⟨f, fd, g, F.kp, F.bindsN fun _ _ _ _ _ _ us hl => match us, hl with | [_, _], _ => rfl, fn_law_made T F h_law_spot⟩
theorem fn_law_fair {f : Addr} {fd : FuncData} (T : Txt K mg) (F : FnP K "_law_fair" s_law_fair f fd) (h_law_turn : Has P w K mg base "_law_turn" ["_law_one", "_law_two", "_law_three"] 1 FL.sp_turn) (h_law_on : Has P w K mg base "_law_on" ["_law_shut", "_law_spot_here"] 2 FL.sp_on) : FnOk P w K mg base (L2.CX P w) 3 f fd ["_law_one", "_law_other"] (upSp K FL.sp_fair) :=
  fn_mk (N := ["_law_one", "_law_other", "_law_shut", "_law_beside", "_law_spot_here", "_law_sides", "_law_others"]) F sc_law_fair rfl l_law_fair (fun _ _ _ _ _ _ hr => d_law_fair T h_law_turn h_law_on hr) r_law_fair
theorem h_law_fair {f : Addr} {fd : FuncData} (T : Txt K mg) (F : FnP K "_law_fair" s_law_fair f fd) (g : mg "_law_fair" = some (.ref f)) (h_law_turn : Has P w K mg base "_law_turn" ["_law_one", "_law_two", "_law_three"] 1 FL.sp_turn) (h_law_on : Has P w K mg base "_law_on" ["_law_shut", "_law_spot_here"] 2 FL.sp_on) : Has P w K mg base "_law_fair" ["_law_one", "_law_other"] 3 FL.sp_fair :=
  ⟨f, fd, g, F.kp, F.bindsN fun _ _ _ _ _ _ us hl => match us, hl with | [_, _], _ => rfl, fn_law_fair T F h_law_turn h_law_on⟩
theorem fn_law_behind {f : Addr} {fd : FuncData} (T : Txt K mg) (F : FnP K "_law_behind" s_law_behind f fd) (h_law_sooner : Has P w K mg base "_law_sooner" ["_law_back", "_law_one", "_law_other"] 2 FL.sp_usooner) (h_law_ends : Has P w K mg base "_law_ends" ["_law_shuts", "_law_face"] 1 FL.sp_uends) : FnOk P w K mg base (L2.CX P w) 3 f fd ["_law_shuts", "_law_face"] (upSp K FL.sp_ubehind) :=
  fn_mk (N := ["_law_shuts", "_law_face", "_law_start", "_law_spot_here", "_law_found", "_law_some", "_law_one", "_law_best", "_law_way"]) F sc_law_behind rfl l_law_behind (fun _ _ _ _ _ _ hr => d_law_behind T h_law_sooner h_law_ends hr) r_law_behind
theorem h_law_behind {f : Addr} {fd : FuncData} (T : Txt K mg) (F : FnP K "_law_behind" s_law_behind f fd) (g : mg "_law_behind" = some (.ref f)) (h_law_sooner : Has P w K mg base "_law_sooner" ["_law_back", "_law_one", "_law_other"] 2 FL.sp_usooner) (h_law_ends : Has P w K mg base "_law_ends" ["_law_shuts", "_law_face"] 1 FL.sp_uends) : Has P w K mg base "_law_behind" ["_law_shuts", "_law_face"] 3 FL.sp_ubehind :=
  ⟨f, fd, g, F.kp, F.bindsN fun _ _ _ _ _ _ us hl => match us, hl with | [_, _], _ => rfl, fn_law_behind T F h_law_sooner h_law_ends⟩
theorem fn_along {f : Addr} {fd : FuncData} (T : Txt K mg) (F : FnP K "along" s_along f fd) (h_less : Has P w K mg base "less" ["one", "other"] 3 FL.sp_less) : FnOk P w K mg base (L2.CX P w) 4 f fd ["wall"] (upSp K FL.sp_along) :=
  fn_mk (N := ["wall", "first", "second"]) F sc_along rfl l_along (fun _ _ _ _ _ _ hr => d_along T h_less hr) r_along
theorem h_along {f : Addr} {fd : FuncData} (T : Txt K mg) (F : FnP K "along" s_along f fd) (g : mg "along" = some (.ref f)) (h_less : Has P w K mg base "less" ["one", "other"] 3 FL.sp_less) : Has P w K mg base "along" ["wall"] 4 FL.sp_along :=
  ⟨f, fd, g, F.kp, F.bindsN fun _ _ _ _ _ _ us hl => match us, hl with | [_], _ => rfl, fn_along T F h_less⟩
theorem fn_crossed {f : Addr} {fd : FuncData} (T : Txt K mg) (F : FnP K "crossed" s_crossed f fd) (h_less : Has P w K mg base "less" ["one", "other"] 3 FL.sp_less) (h_times : Has P w K mg base "times" ["one", "other"] 3 FL.sp_times) : FnOk P w K mg base (L2.CX P w) 4 f fd ["one", "other"] (upSp K FL.sp_crossed) :=
  fn_mk (N := ["one", "other"]) F sc_crossed rfl l_crossed (fun _ _ _ _ _ _ hr => d_crossed T h_less h_times hr) r_crossed
theorem h_crossed {f : Addr} {fd : FuncData} (T : Txt K mg) (F : FnP K "crossed" s_crossed f fd) (g : mg "crossed" = some (.ref f)) (h_less : Has P w K mg base "less" ["one", "other"] 3 FL.sp_less) (h_times : Has P w K mg base "times" ["one", "other"] 3 FL.sp_times) : Has P w K mg base "crossed" ["one", "other"] 4 FL.sp_crossed :=
  ⟨f, fd, g, F.kp, F.bindsN fun _ _ _ _ _ _ us hl => match us, hl with | [_, _], _ => rfl, fn_crossed T F h_less h_times⟩
theorem fn_law_shuts_here {f : Addr} {fd : FuncData} (T : Txt K mg) (F : FnP K "_law_shuts_here" s_law_shuts_here f fd) (h_law_take : Has P w K mg base "_law_take" ["_law_row", "_law_base"] 1 FL.sp_take) (h_law_fair : Has P w K mg base "_law_fair" ["_law_one", "_law_other"] 3 FL.sp_fair) : FnOk P w K mg base (L2.CX P w) 4 f fd ["_law_row", "_law_most", "_law_size"] (upSp K FL.sp_shuts_here) :=
  fn_mk (N := ["_law_row", "_law_most", "_law_size", "_law_shuts", "_law_turn_here", "_law_one", "_law_other", "_law_shut", "_law_beside"]) F sc_law_shuts_here rfl l_law_shuts_here (fun _ _ _ _ _ _ hr => d_law_shuts_here T h_law_take h_law_fair hr) r_law_shuts_here
theorem h_law_shuts_here {f : Addr} {fd : FuncData} (T : Txt K mg) (F : FnP K "_law_shuts_here" s_law_shuts_here f fd) (g : mg "_law_shuts_here" = some (.ref f)) (h_law_take : Has P w K mg base "_law_take" ["_law_row", "_law_base"] 1 FL.sp_take) (h_law_fair : Has P w K mg base "_law_fair" ["_law_one", "_law_other"] 3 FL.sp_fair) : Has P w K mg base "_law_shuts_here" ["_law_row", "_law_most", "_law_size"] 4 FL.sp_shuts_here :=
  ⟨f, fd, g, F.kp, F.bindsN fun _ _ _ _ _ _ us hl => match us, hl with | [_, _, _], _ => rfl, fn_law_shuts_here T F h_law_take h_law_fair⟩
theorem fn_leaning {f : Addr} {fd : FuncData} (T : Txt K mg) (F : FnP K "leaning" s_leaning f fd) (h_crossed : Has P w K mg base "crossed" ["one", "other"] 4 FL.sp_crossed) : FnOk P w K mg base (L2.CX P w) 5 f fd ["one", "other"] (upSp K FL.sp_leaning) :=
  fn_mk (N := ["one", "other", "found"]) F sc_leaning rfl l_leaning (fun _ _ _ _ _ _ hr => d_leaning T h_crossed hr) r_leaning
theorem h_leaning {f : Addr} {fd : FuncData} (T : Txt K mg) (F : FnP K "leaning" s_leaning f fd) (g : mg "leaning" = some (.ref f)) (h_crossed : Has P w K mg base "crossed" ["one", "other"] 4 FL.sp_crossed) : Has P w K mg base "leaning" ["one", "other"] 5 FL.sp_leaning :=
  ⟨f, fd, g, F.kp, F.bindsN fun _ _ _ _ _ _ us hl => match us, hl with | [_, _], _ => rfl, fn_leaning T F h_crossed⟩
theorem fn_quarter_to {f : Addr} {fd : FuncData} (T : Txt K mg) (F : FnP K "quarter_to" s_quarter_to f fd) (h_leaning : Has P w K mg base "leaning" ["one", "other"] 5 FL.sp_leaning) : FnOk P w K mg base (L2.CX P w) 6 f fd ["back", "way"] (upSp K FL.sp_quarter_to) :=
  fn_mk (N := ["back", "way"]) F sc_quarter_to rfl l_quarter_to (fun _ _ _ _ _ _ hr => d_quarter_to T h_leaning hr) r_quarter_to
theorem h_quarter_to {f : Addr} {fd : FuncData} (T : Txt K mg) (F : FnP K "quarter_to" s_quarter_to f fd) (g : mg "quarter_to" = some (.ref f)) (h_leaning : Has P w K mg base "leaning" ["one", "other"] 5 FL.sp_leaning) : Has P w K mg base "quarter_to" ["back", "way"] 6 FL.sp_quarter_to :=
  ⟨f, fd, g, F.kp, F.bindsN fun _ _ _ _ _ _ us hl => match us, hl with | [_, _], _ => rfl, fn_quarter_to T F h_leaning⟩
theorem fn_is_met_sooner {f : Addr} {fd : FuncData} (T : Txt K mg) (F : FnP K "is_met_sooner" s_is_met_sooner f fd) (h_leaning : Has P w K mg base "leaning" ["one", "other"] 5 FL.sp_leaning) (h_quarter_to : Has P w K mg base "quarter_to" ["back", "way"] 6 FL.sp_quarter_to) : FnOk P w K mg base (L2.CX P w) 7 f fd ["back", "one", "other"] (upSp K FL.sp_is_met_sooner) :=
  fn_mk (N := ["back", "one", "other"]) F sc_is_met_sooner rfl l_is_met_sooner (fun _ _ _ _ _ _ hr => d_is_met_sooner T h_leaning h_quarter_to hr) r_is_met_sooner
theorem h_is_met_sooner {f : Addr} {fd : FuncData} (T : Txt K mg) (F : FnP K "is_met_sooner" s_is_met_sooner f fd) (g : mg "is_met_sooner" = some (.ref f)) (h_leaning : Has P w K mg base "leaning" ["one", "other"] 5 FL.sp_leaning) (h_quarter_to : Has P w K mg base "quarter_to" ["back", "way"] 6 FL.sp_quarter_to) : Has P w K mg base "is_met_sooner" ["back", "one", "other"] 7 FL.sp_is_met_sooner :=
  ⟨f, fd, g, F.kp, F.bindsN fun _ _ _ _ _ _ us hl => match us, hl with | [_, _, _], _ => rfl, fn_is_met_sooner T F h_leaning h_quarter_to⟩
theorem fn_met_first {f : Addr} {fd : FuncData} (T : Txt K mg) (F : FnP K "met_first" s_met_first f fd) (h_is_met_sooner : Has P w K mg base "is_met_sooner" ["back", "one", "other"] 7 FL.sp_is_met_sooner) (h_other_face : Has P w K mg base "other_face" ["face"] 1 FL.sp_other_face) (h_along : Has P w K mg base "along" ["wall"] 4 FL.sp_along) (h_ends_of_face : Has P w K mg base "ends_of_face" ["plot", "face"] 1 FL.sp_ends_of_face) : FnOk P w K mg base (L2.CX P w) 8 f fd ["plot", "face", "faces"] (upSp K FL.sp_met_first) :=
  fn_mk (N := ["plot", "face", "faces", "begin", "spot", "back", "found", "best", "other", "way"]) F sc_met_first rfl l_met_first (fun _ _ _ _ _ _ hr => d_met_first T h_is_met_sooner h_other_face h_along h_ends_of_face hr) r_met_first
theorem h_met_first {f : Addr} {fd : FuncData} (T : Txt K mg) (F : FnP K "met_first" s_met_first f fd) (g : mg "met_first" = some (.ref f)) (h_is_met_sooner : Has P w K mg base "is_met_sooner" ["back", "one", "other"] 7 FL.sp_is_met_sooner) (h_other_face : Has P w K mg base "other_face" ["face"] 1 FL.sp_other_face) (h_along : Has P w K mg base "along" ["wall"] 4 FL.sp_along) (h_ends_of_face : Has P w K mg base "ends_of_face" ["plot", "face"] 1 FL.sp_ends_of_face) : Has P w K mg base "met_first" ["plot", "face", "faces"] 8 FL.sp_met_first :=
  ⟨f, fd, g, F.kp, F.bindsN fun _ _ _ _ _ _ us hl => match us, hl with | [_, _, _], _ => rfl, fn_met_first T F h_is_met_sooner h_other_face h_along h_ends_of_face⟩
theorem fn_behind {f : Addr} {fd : FuncData} (T : Txt K mg) (F : FnP K "behind" s_behind f fd) (h_met_first : Has P w K mg base "met_first" ["plot", "face", "faces"] 8 FL.sp_met_first) (h_faces_by_begin : Has P w K mg base "faces_by_begin" ["plot"] 2 FL.sp_faces_by_begin) (h_ends_of_face : Has P w K mg base "ends_of_face" ["plot", "face"] 1 FL.sp_ends_of_face) : FnOk P w K mg base (L2.CX P w) 9 f fd ["plot", "face"] (upSp K FL.sp_behind) :=
  fn_mk (N := ["plot", "face"]) F sc_behind rfl l_behind (fun _ _ _ _ _ _ hr => d_behind T h_met_first h_faces_by_begin h_ends_of_face hr) r_behind
theorem h_behind {f : Addr} {fd : FuncData} (T : Txt K mg) (F : FnP K "behind" s_behind f fd) (g : mg "behind" = some (.ref f)) (h_met_first : Has P w K mg base "met_first" ["plot", "face", "faces"] 8 FL.sp_met_first) (h_faces_by_begin : Has P w K mg base "faces_by_begin" ["plot"] 2 FL.sp_faces_by_begin) (h_ends_of_face : Has P w K mg base "ends_of_face" ["plot", "face"] 1 FL.sp_ends_of_face) : Has P w K mg base "behind" ["plot", "face"] 9 FL.sp_behind :=
  ⟨f, fd, g, F.kp, F.bindsN fun _ _ _ _ _ _ us hl => match us, hl with | [_, _], _ => rfl, fn_behind T F h_met_first h_faces_by_begin h_ends_of_face⟩
theorem fn_law {f : Addr} {fd : FuncData} (T : Txt K mg) (F : FnP K "law" s_law f fd) (h_law_behind : Has P w K mg base "_law_behind" ["_law_shuts", "_law_face"] 3 FL.sp_ubehind) (h_behind : Has P w K mg base "behind" ["plot", "face"] 9 FL.sp_behind) (h_law_made : Has P w K mg base "_law_made" ["_law_scale_here", "_law_shuts"] 3 FL.sp_made) (h_law_take : Has P w K mg base "_law_take" ["_law_row", "_law_base"] 1 FL.sp_take) (h_law_squares : Has P w K mg base "_law_squares" ["_law_row"] 2 FL.sp_squares) (h_law_shuts_here : Has P w K mg base "_law_shuts_here" ["_law_row", "_law_most", "_law_size"] 4 FL.sp_shuts_here) (h_law_scale : Has P w K mg base "_law_scale" ["_law_row"] 2 FL.sp_scale) (h_law_cell_at : Has P w K mg base "_law_cell_at" ["_law_script", "_law_k"] 1 FL.sp_cell_at) : FnOk P w K mg base (L2.CX P w) 10 f fd ["_law_script"] (upSp K spLaw) :=
  fn_mk (N := ["_law_script", "_law_k", "_law_row", "_law_scale_here", "_law_shuts", "_law_plot", "_law_found", "_law_face"]) F sc_law rfl l_law (fun _ _ _ _ _ _ hr => d_law T h_law_behind h_behind h_law_made h_law_take h_law_squares h_law_shuts_here h_law_scale h_law_cell_at hr) r_law
end
def mkD (x : Str) (s : Stmt) : He.DefD := ⟨(x, none), x, x, defArgs s, defBody s, defScope s, [], []⟩
def fn0 : List He.DefD := [mkD "divisor" s_divisor, mkD "ends_of_face" s_ends_of_face, mkD "other_face" s_other_face, mkD "_law_cell_at" s_law_cell_at, mkD "_law_take" s_law_take, mkD "_law_low" s_law_low, mkD "_law_turn" s_law_turn, mkD "_law_ends" s_law_ends, mkD "fraction" s_fraction, mkD "faces_by_begin" s_faces_by_begin, mkD "_law_scale" s_law_scale, mkD "_law_spot" s_law_spot, mkD "_law_on" s_law_on, mkD "_law_sooner" s_law_sooner, mkD "_law_squares" s_law_squares, mkD "less" s_less, mkD "times" s_times, mkD "_law_made" s_law_made, mkD "_law_fair" s_law_fair, mkD "_law_behind" s_law_behind, mkD "along" s_along, mkD "crossed" s_crossed, mkD "_law_shuts_here" s_law_shuts_here, mkD "leaning" s_leaning, mkD "quarter_to" s_quarter_to, mkD "is_met_sooner" s_is_met_sooner, mkD "met_first" s_met_first, mkD "behind" s_behind, mkD "law" s_law]
def fn : List He.DefD := fn0
def fa0 : List He.Fa := [.glo "divisor", .glo "ends_of_face", .glo "other_face", .glo "_law_cell_at", .glo "_law_take", .glo "_law_low", .glo "_law_turn", .glo "_law_ends", .glo "fraction", .glo "faces_by_begin", .glo "_law_scale", .glo "_law_spot", .glo "_law_on", .glo "_law_sooner", .glo "_law_squares", .glo "less", .glo "times", .glo "_law_made", .glo "_law_fair", .glo "_law_behind", .glo "along", .glo "crossed", .glo "_law_shuts_here", .glo "leaning", .glo "quarter_to", .glo "is_met_sooner", .glo "met_first", .glo "behind", .glo "law", .free "abs"]
def fa1 : List He.Fa := [.free "all", .free "bool", .free "int", .free "isinstance", .free "len", .free "list", .free "max", .free "min", .free "range", .free "sorted", .free "tuple"]
def fa : List He.Fa := fa0 ++ fa1
abbrev names : List Str := (["SpotError", "NoFraction", "divisor", "fraction", "less", "times", "along", "crossed", "leaning", "ends_of_face", "other_face", "faces_by_begin", "quarter_to", "is_met_sooner", "met_first", "behind", "_law_cell_at", "_law_take", "_law_low", "_law_scale", "_law_spot", "_law_made", "_law_turn", "_law_on", "_law_fair", "_law_shuts_here", "_law_ends", "_law_sooner", "_law_behind", "_law_rings"] : List Str) ++ (["_law_twice", "_law_squares"] : List Str)
abbrev R : PySem.W.OpenRow := PySem.W.OpenLaw.row PySem.Challenge.rw_spotlook_k17_what_comes_behind_a_face
abbrev hk : PySem.W.Hook := hookK 5 fa fn ["bool"]
def ob (s : PySem.W.SharedT) : AlK := obsKG 5 fa fn ["bool"] (HandSHeadRun.getT s)
theorem ob_eq (s : PySem.W.SharedT) : ob s = hk.obs s.abs := obsKG_eq (HandSHeadRun.getT_eq s)
theorem run (w : World) : HandSHeadRun.RunEq R (PySem.W.view R.prog [37]) hk ob 2560 names w := by
  intro os
  kernel_rfl
theorem facts {P : Program} {w : World} {K : PySem.W.Frag} {h : Heap} {mg : Str → Option Value} {f : Addr} (X : K.In h) (G : h.Ns mainGlobals mg) (hfa : mg ("law" : Str) = some (.ref f)) (c0 : SaysK fa fn ["bool"] K) :
    ∃ fd : FuncData, (∀ (s : Shared) (v : Value), BindsTo s fd ⟨[v], []⟩ [("_law_script", v)]) ∧ ∀ base : Heap, K.In base → base.Ns mainGlobals mg → FnOk P w K mg base (L2.CX P w) 10 f fd ["_law_script"] (upSp K spLaw) := by
  have c := c0.says
  obtain ⟨fd_divisor, F_divisor⟩ := c.def_ 0 (d := mkD "divisor" s_divisor) rfl
  have g_divisor := He.glo_ok X G (c.fact 0 (f := .glo "divisor") rfl)
  obtain ⟨fd_ends_of_face, F_ends_of_face⟩ := c.def_ 1 (d := mkD "ends_of_face" s_ends_of_face) rfl
  have g_ends_of_face := He.glo_ok X G (c.fact 1 (f := .glo "ends_of_face") rfl)
  obtain ⟨fd_other_face, F_other_face⟩ := c.def_ 2 (d := mkD "other_face" s_other_face) rfl
  have g_other_face := He.glo_ok X G (c.fact 2 (f := .glo "other_face") rfl)
  obtain ⟨fd_law_cell_at, F_law_cell_at⟩ := c.def_ 3 (d := mkD "_law_cell_at" s_law_cell_at) rfl
  have g_law_cell_at := He.glo_ok X G (c.fact 3 (f := .glo "_law_cell_at") rfl)
  obtain ⟨fd_law_take, F_law_take⟩ := c.def_ 4 (d := mkD "_law_take" s_law_take) rfl
  have g_law_take := He.glo_ok X G (c.fact 4 (f := .glo "_law_take") rfl)
  obtain ⟨fd_law_low, F_law_low⟩ := c.def_ 5 (d := mkD "_law_low" s_law_low) rfl
  have g_law_low := He.glo_ok X G (c.fact 5 (f := .glo "_law_low") rfl)
  obtain ⟨fd_law_turn, F_law_turn⟩ := c.def_ 6 (d := mkD "_law_turn" s_law_turn) rfl
  have g_law_turn := He.glo_ok X G (c.fact 6 (f := .glo "_law_turn") rfl)
  obtain ⟨fd_law_ends, F_law_ends⟩ := c.def_ 7 (d := mkD "_law_ends" s_law_ends) rfl
  have g_law_ends := He.glo_ok X G (c.fact 7 (f := .glo "_law_ends") rfl)
  obtain ⟨fd_fraction, F_fraction⟩ := c.def_ 8 (d := mkD "fraction" s_fraction) rfl
  have g_fraction := He.glo_ok X G (c.fact 8 (f := .glo "fraction") rfl)
  obtain ⟨fd_faces_by_begin, F_faces_by_begin⟩ := c.def_ 9 (d := mkD "faces_by_begin" s_faces_by_begin) rfl
  have g_faces_by_begin := He.glo_ok X G (c.fact 9 (f := .glo "faces_by_begin") rfl)
  obtain ⟨fd_law_scale, F_law_scale⟩ := c.def_ 10 (d := mkD "_law_scale" s_law_scale) rfl
  have g_law_scale := He.glo_ok X G (c.fact 10 (f := .glo "_law_scale") rfl)
  obtain ⟨fd_law_spot, F_law_spot⟩ := c.def_ 11 (d := mkD "_law_spot" s_law_spot) rfl
  have g_law_spot := He.glo_ok X G (c.fact 11 (f := .glo "_law_spot") rfl)
  obtain ⟨fd_law_on, F_law_on⟩ := c.def_ 12 (d := mkD "_law_on" s_law_on) rfl
  have g_law_on := He.glo_ok X G (c.fact 12 (f := .glo "_law_on") rfl)
  obtain ⟨fd_law_sooner, F_law_sooner⟩ := c.def_ 13 (d := mkD "_law_sooner" s_law_sooner) rfl
  have g_law_sooner := He.glo_ok X G (c.fact 13 (f := .glo "_law_sooner") rfl)
  obtain ⟨fd_law_squares, F_law_squares⟩ := c.def_ 14 (d := mkD "_law_squares" s_law_squares) rfl
  have g_law_squares := He.glo_ok X G (c.fact 14 (f := .glo "_law_squares") rfl)
  obtain ⟨fd_less, F_less⟩ := c.def_ 15 (d := mkD "less" s_less) rfl
  have g_less := He.glo_ok X G (c.fact 15 (f := .glo "less") rfl)
  obtain ⟨fd_times, F_times⟩ := c.def_ 16 (d := mkD "times" s_times) rfl
  have g_times := He.glo_ok X G (c.fact 16 (f := .glo "times") rfl)
  obtain ⟨fd_law_made, F_law_made⟩ := c.def_ 17 (d := mkD "_law_made" s_law_made) rfl
  have g_law_made := He.glo_ok X G (c.fact 17 (f := .glo "_law_made") rfl)
  obtain ⟨fd_law_fair, F_law_fair⟩ := c.def_ 18 (d := mkD "_law_fair" s_law_fair) rfl
  have g_law_fair := He.glo_ok X G (c.fact 18 (f := .glo "_law_fair") rfl)
  obtain ⟨fd_law_behind, F_law_behind⟩ := c.def_ 19 (d := mkD "_law_behind" s_law_behind) rfl
  have g_law_behind := He.glo_ok X G (c.fact 19 (f := .glo "_law_behind") rfl)
  obtain ⟨fd_along, F_along⟩ := c.def_ 20 (d := mkD "along" s_along) rfl
  have g_along := He.glo_ok X G (c.fact 20 (f := .glo "along") rfl)
  obtain ⟨fd_crossed, F_crossed⟩ := c.def_ 21 (d := mkD "crossed" s_crossed) rfl
  have g_crossed := He.glo_ok X G (c.fact 21 (f := .glo "crossed") rfl)
  obtain ⟨fd_law_shuts_here, F_law_shuts_here⟩ := c.def_ 22 (d := mkD "_law_shuts_here" s_law_shuts_here) rfl
  have g_law_shuts_here := He.glo_ok X G (c.fact 22 (f := .glo "_law_shuts_here") rfl)
  obtain ⟨fd_leaning, F_leaning⟩ := c.def_ 23 (d := mkD "leaning" s_leaning) rfl
  have g_leaning := He.glo_ok X G (c.fact 23 (f := .glo "leaning") rfl)
  obtain ⟨fd_quarter_to, F_quarter_to⟩ := c.def_ 24 (d := mkD "quarter_to" s_quarter_to) rfl
  have g_quarter_to := He.glo_ok X G (c.fact 24 (f := .glo "quarter_to") rfl)
  obtain ⟨fd_is_met_sooner, F_is_met_sooner⟩ := c.def_ 25 (d := mkD "is_met_sooner" s_is_met_sooner) rfl
  have g_is_met_sooner := He.glo_ok X G (c.fact 25 (f := .glo "is_met_sooner") rfl)
  obtain ⟨fd_met_first, F_met_first⟩ := c.def_ 26 (d := mkD "met_first" s_met_first) rfl
  have g_met_first := He.glo_ok X G (c.fact 26 (f := .glo "met_first") rfl)
  obtain ⟨fd_behind, F_behind⟩ := c.def_ 27 (d := mkD "behind" s_behind) rfl
  have g_behind := He.glo_ok X G (c.fact 27 (f := .glo "behind") rfl)
  obtain ⟨fd_law, F_law⟩ := c.def_ 28 (d := mkD "law" s_law) rfl
  have g_law := He.glo_ok X G (c.fact 28 (f := .glo "law") rfl)
  have T : Txt K mg := { f_abs := He.free_ok X G (c.fact 29 (f := .free "abs") rfl), f_all := He.free_ok X G (c.fact 30 (f := .free "all") rfl), f_bool := He.free_ok X G (c.fact 31 (f := .free "bool") rfl), f_int := He.free_ok X G (c.fact 32 (f := .free "int") rfl), f_isinstance := He.free_ok X G (c.fact 33 (f := .free "isinstance") rfl), f_len := He.free_ok X G (c.fact 34 (f := .free "len") rfl), f_list := He.free_ok X G (c.fact 35 (f := .free "list") rfl), f_max := He.free_ok X G (c.fact 36 (f := .free "max") rfl), f_min := He.free_ok X G (c.fact 37 (f := .free "min") rfl), f_range := He.free_ok X G (c.fact 38 (f := .free "range") rfl), f_sorted := He.free_ok X G (c.fact 39 (f := .free "sorted") rfl), f_tuple := He.free_ok X G (c.fact 40 (f := .free "tuple") rfl), k_bool := c0.kit "bool" (by decide) }
  have e := hfa.symm.trans g_law
  cases e
  have b := FunD.bindsA (ps := ["_law_script"]) F_law fun _ _ _ _ _ _ us hl => match us, hl with | [_], _ => rfl
  refine ⟨fd_law, fun s v => b s [v] rfl, fun base _ _ => ?_⟩
  have H_divisor := h_divisor (P := P) (w := w) (base := base) T F_divisor g_divisor 
  have H_ends_of_face := h_ends_of_face (P := P) (w := w) (base := base) T F_ends_of_face g_ends_of_face 
  have H_other_face := h_other_face (P := P) (w := w) (base := base) T F_other_face g_other_face 
  have H_law_cell_at := h_law_cell_at (P := P) (w := w) (base := base) T F_law_cell_at g_law_cell_at 
  have H_law_take := h_law_take (P := P) (w := w) (base := base) T F_law_take g_law_take 
  have H_law_low := h_law_low (P := P) (w := w) (base := base) T F_law_low g_law_low 
  have H_law_turn := h_law_turn (P := P) (w := w) (base := base) T F_law_turn g_law_turn 
  have H_law_ends := h_law_ends (P := P) (w := w) (base := base) T F_law_ends g_law_ends 
  have H_fraction := h_fraction (P := P) (w := w) (base := base) T F_fraction g_fraction H_divisor
  have H_faces_by_begin := h_faces_by_begin (P := P) (w := w) (base := base) T F_faces_by_begin g_faces_by_begin H_ends_of_face
  have H_law_scale := h_law_scale (P := P) (w := w) (base := base) T F_law_scale g_law_scale H_law_take
  have H_law_spot := h_law_spot (P := P) (w := w) (base := base) T F_law_spot g_law_spot H_law_low
  have H_law_on := h_law_on (P := P) (w := w) (base := base) T F_law_on g_law_on H_law_turn
  have H_law_sooner := h_law_sooner (P := P) (w := w) (base := base) T F_law_sooner g_law_sooner H_law_turn
  have H_law_squares := h_law_squares (P := P) (w := w) (base := base) T F_law_squares g_law_squares H_law_take
  have H_less := h_less (P := P) (w := w) (base := base) T F_less g_less H_fraction
  have H_times := h_times (P := P) (w := w) (base := base) T F_times g_times H_fraction
  have H_law_made := h_law_made (P := P) (w := w) (base := base) T F_law_made g_law_made H_law_spot
  have H_law_fair := h_law_fair (P := P) (w := w) (base := base) T F_law_fair g_law_fair H_law_turn H_law_on
  have H_law_behind := h_law_behind (P := P) (w := w) (base := base) T F_law_behind g_law_behind H_law_sooner H_law_ends
  have H_along := h_along (P := P) (w := w) (base := base) T F_along g_along H_less
  have H_crossed := h_crossed (P := P) (w := w) (base := base) T F_crossed g_crossed H_less H_times
  have H_law_shuts_here := h_law_shuts_here (P := P) (w := w) (base := base) T F_law_shuts_here g_law_shuts_here H_law_take H_law_fair
  have H_leaning := h_leaning (P := P) (w := w) (base := base) T F_leaning g_leaning H_crossed
  have H_quarter_to := h_quarter_to (P := P) (w := w) (base := base) T F_quarter_to g_quarter_to H_leaning
  have H_is_met_sooner := h_is_met_sooner (P := P) (w := w) (base := base) T F_is_met_sooner g_is_met_sooner H_leaning H_quarter_to
  have H_met_first := h_met_first (P := P) (w := w) (base := base) T F_met_first g_met_first H_is_met_sooner H_other_face H_along H_ends_of_face
  have H_behind := h_behind (P := P) (w := w) (base := base) T F_behind g_behind H_met_first H_faces_by_begin H_ends_of_face
  exact fn_law T F_law H_law_behind H_behind H_law_made H_law_take H_law_squares H_law_shuts_here H_law_scale H_law_cell_at
end Lk17
open PySem PySem.W PySem.Calls PyProof.Rows
theorem PySem.Challenge.cw_spotlook_k17_what_comes_behind_a_face_holds : PySem.Challenge.rw_spotlook_k17_what_comes_behind_a_face.Holds := by
  w_on; o_law
  refine HandSHeadRun.head_any (r := Lk17.R) (q := view Lk17.R.prog [37]) (H := Lk17.hk) (ob := Lk17.ob) (M := 2560) (loose := Lk17.names) (d := HandSHeadRun.topDef Lk17.R.prog 37) (kwd := []) Lk17.ob_eq
    (by kernel_rfl) (fun s => by kernel_rfl) Lk17.run (by kernel_rfl) (by kernel_rfl) (by kernel_rfl) (by rfl) (by first | assumption | decide +kernel) (by decide +kernel) ⟨rfl, rfl, rfl, rfl, rfl, by decide +kernel⟩ ?hw ?hc
  case hw => w_witness2
  case hc =>
    refine ML.law_end (k := 10) (x := "_law_script") rfl (by kernel_rfl) ⟨rfl, by decide, by decide⟩ ?_
    intro w mg fa h Y G hmg0
    obtain ⟨K, KX, c⟩ := Y
    have hmg : mg ("law" : PySem.Str) = some (.ref fa) := by
      have e : (HandSHeadRun.topDef Lk17.R.prog 37).name = ("law" : PySem.Str) := by kernel_rfl
      rw [← e]
      exact hmg0
    obtain ⟨fd, hb, hF⟩ := Lk17.facts (P := PySem.Challenge.rw_spotlook_k17_what_comes_behind_a_face.prog) (w := w) KX G hmg c
    exact ⟨K, fd, KX, hb, hF⟩
