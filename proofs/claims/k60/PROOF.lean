import PyProof.Rows.All
import Wide.All
import OpenK.AllK
import Wide.FinOn
import KE.KStateDown
import HandS.ForMost
import HandS.ForExc
import HandS.Wide
import HandS.IsInst
import HandS.Deep
import HandS.Conv
import HandS.Flow
import HandS.Defaults
import HandS.Rev
import HandS.Small
import HandS.Head0
import HandS.Head1
import HandS.Head2
import HandS.HeadEnd
import HandS.HeadHook1
import HandS.HeadHook2
import KE.KDictKeyed
import KE.KeyNested
import HandS.Style
import HandS.TupLe
import HandS.TupSets
import PyProof.ReprRoads
import HandS.Exc
import HandS.ExcOwn
import HandS.ExcIs
import HandS.ExcValue
import HandS.SetFor
import KE.KExcStr
import PyProof.Draws
import PyProof.EnumMake
import HandS.SortInts
import HandS.SetKeys
import KE.DatumOrd
import PyProof.ReprLen
import PySem.Challenge.RW_spotlook_k60_plots_moved_mirrored_turned
set_option Elab.async false
set_option linter.all false
set_option maxRecDepth 100000
/-! A layer of trees over the hand layer: tuples and lists that nobody changes any more are plain data (D), the lists that may change stand in a store (Sto). -/
namespace ML
open PySem PySem.Spec L2
open PyProof.Rows hiding St
/-- data: a value with all tuples (and all lists that stay as they are) opened -/
inductive D where
  | non | bl (b : Bool) | int (i : Int) | str (x : Str) | tup (ds : List D) | lst (ds : List D) | scr (ds : List D) | ref (a : Addr)
/-- what may change -/
inductive MO where
  | lst (ds : List D)
  | dK (kvs : List (Key × D))
  | ins (C : Str) (fs : List (Str × D))
  | exc (C : Str) (fs : Option (List (Str × D)))
  | dT (kvs : List (List Key × D))
  | dS (kvs : List (((Int × Int) × (Int × Int)) × D))
abbrev Sto := Addr → Option MO
def put (S : Sto) (a : Addr) (o : MO) : Sto := fun b => if b = a then some o else S b
theorem put_same {S : Sto} {a : Addr} {o : MO} : put S a o a = some o := if_pos rfl
theorem put_ne {S : Sto} {a b : Addr} {o : MO} (h : b ≠ a) : put S a o b = S b := if_neg h
theorem put_put {S : Sto} {a : Addr} {o u : MO} : put (put S a o) a u = put S a u := by
  funext b; unfold put; split <;> rfl
theorem sne {S : Sto} {a b : Addr} {o : MO} (h : S a = some o) (h' : S b = none) : a ≠ b := by
  intro e; subst e; rw [h] at h'; cases h'
mutual
inductive RD (K : PySem.W.Frag) (H : Hp) (S : Sto) : V → D → Prop
  | non : RD K H S .non .non
  | bl (b : Bool) : RD K H S (.bl b) (.bl b)
  | int (i : Int) : RD K H S (.int i) (.int i)
  | str (x : Str) : RD K H S (.str x) (.str x)
  | ref (a : Addr) : RD K H S (.ref a) (.ref a)
  | tup {a : Addr} {vs : List V} {ds : List D} : Rd H a (.tup vs) → S a = none → RDs K H S vs ds → RD K H S (.ref a) (.tup ds)
  | lst {a : Addr} {vs : List V} {ds : List D} : H a = some (.lst vs) → S a = none → RDs K H S vs ds → RD K H S (.ref a) (.lst ds)
  | scr {a : Addr} {o : Obj} {vs : List V} {ds : List D} : H a = some (.frz o (.lst vs)) → S a = none → RDs K H S vs ds → RD K H S (.ref a) (.scr ds)
  | ktup {a : Addr} {o : Obj} {its : Array Value} {n : Nat} {vs : List V} {ds : List D} : K.lookup a = some o → o.cls = .type "tuple" → o.data = .seq its n → its.size ≤ sizeLine → Vals vs its.toList → RDs K H S vs ds → RD K H S (.ref a) (.tup ds)
  | klst {a : Addr} {o : Obj} {its : Array Value} {n : Nat} {vs : List V} {ds : List D} : K.lookup a = some o → o.cls = .type "list" → o.dict = none → o.data = .seq its n → its.size ≤ sizeLine → Vals vs its.toList → RDs K H S vs ds → RD K H S (.ref a) (.scr ds)
inductive RDs (K : PySem.W.Frag) (H : Hp) (S : Sto) : List V → List D → Prop
  | nil : RDs K H S [] []
  | cons {v : V} {d : D} {vs : List V} {ds : List D} : RD K H S v d → RDs K H S vs ds → RDs K H S (v :: vs) (d :: ds)
end
/-- all that does not change stays -/
def Ext (H : Hp) (S : Sto) (H' : Hp) (S' : Sto) : Prop := ∀ a o, H a = some o → S a = none → H' a = some o ∧ S' a = none
theorem Ext.refl {H : Hp} {S : Sto} : Ext H S H S := fun _ _ h n => ⟨h, n⟩
theorem Ext.trans {H H1 H2 : Hp} {S S1 S2 : Sto} (a : Ext H S H1 S1) (b : Ext H1 S1 H2 S2) : Ext H S H2 S2 := fun c o h n =>
  let ⟨h1, n1⟩ := a c o h n
  b c o h1 n1
section
variable {K : PySem.W.Frag} {H H' : Hp} {S S' : Sto}
theorem Ext.rd (e : Ext H S H' S') {a : Addr} {u : HO} (h : Rd H a u) (n : S a = none) : Rd H' a u ∧ S' a = none := by
  rcases h with h | ⟨o, h⟩
  · exact ⟨.inl (e _ _ h n).1, (e _ _ h n).2⟩
  · exact ⟨.inr ⟨o, (e _ _ h n).1⟩, (e _ _ h n).2⟩
mutual
theorem RD.ext (e : Ext H S H' S') : ∀ {v : V} {d : D}, RD K H S v d → RD K H' S' v d
  | _, _, .non => .non
  | _, _, .bl b => .bl b
  | _, _, .int i => .int i
  | _, _, .str x => .str x
  | _, _, .ref a => .ref a
  | _, _, .tup h n r => .tup (e.rd h n).1 (e.rd h n).2 (RDs.ext e r)
  | _, _, .lst h n r => .lst (e _ _ h n).1 (e _ _ h n).2 (RDs.ext e r)
  | _, _, .scr h n r => .scr (e _ _ h n).1 (e _ _ h n).2 (RDs.ext e r)
  | _, _, .ktup a b c d f r => .ktup a b c d f (RDs.ext e r)
  | _, _, .klst a b b' c d f r => .klst a b b' c d f (RDs.ext e r)
theorem RDs.ext (e : Ext H S H' S') : ∀ {vs : List V} {ds : List D}, RDs K H S vs ds → RDs K H' S' vs ds
  | _, _, .nil => .nil
  | _, _, .cons h r => .cons (RD.ext e h) (RDs.ext e r)
end
theorem RDs.length : ∀ {vs : List V} {ds : List D}, RDs K H S vs ds → vs.length = ds.length
  | _, _, .nil => rfl
  | _, _, .cons _ r => congrArg (· + 1) (RDs.length r)
theorem RDs.get : ∀ {vs : List V} {ds : List D} {i : Nat} {d : D}, RDs K H S vs ds → ds[i]? = some d → ∃ v, vs[i]? = some v ∧ RD K H S v d
  | _, _, _, _, .nil, e => by simp at e
  | _, _, 0, _, .cons r _, e => by simp at e; subst e; exact ⟨_, rfl, r⟩
  | _, _, i + 1, d, .cons _ r, e => by
    obtain ⟨v, h1, h2⟩ := RDs.get (i := i) (d := d) r (by simpa using e)
    exact ⟨v, by simpa using h1, h2⟩
theorem RDs.append : ∀ {vs ws : List V} {ds es : List D}, RDs K H S vs ds → RDs K H S ws es → RDs K H S (vs ++ ws) (ds ++ es)
  | _, _, _, _, .nil, s => s
  | _, _, _, _, .cons h r, s => .cons h (RDs.append r s)
theorem RDs.take : ∀ {vs : List V} {ds : List D} (n : Nat), RDs K H S vs ds → RDs K H S (vs.take n) (ds.take n)
  | _, _, 0, _ => by simp only [List.take_zero]; exact .nil
  | _, _, _ + 1, .nil => by simp only [List.take_nil]; exact .nil
  | _, _, n + 1, .cons h r => by simp only [List.take_succ_cons]; exact .cons h (RDs.take n r)
theorem RDs.drop : ∀ {vs : List V} {ds : List D} (n : Nat), RDs K H S vs ds → RDs K H S (vs.drop n) (ds.drop n)
  | _, _, 0, r => by simpa only [List.drop_zero] using r
  | _, _, _ + 1, .nil => by simp only [List.drop_nil]; exact .nil
  | _, _, n + 1, .cons _ r => by simp only [List.drop_succ_cons]; exact RDs.drop n r
theorem RDs.set {v : V} {d : D} (h : RD K H S v d) : ∀ {vs : List V} {ds : List D} (i : Nat), RDs K H S vs ds → RDs K H S (vs.set i v) (ds.set i d)
  | _, _, _, .nil => .nil
  | _, _, 0, .cons _ r => .cons h r
  | _, _, i + 1, .cons q r => .cons q (RDs.set h i r)
theorem RDs.reverse : ∀ {vs : List V} {ds : List D}, RDs K H S vs ds → RDs K H S vs.reverse ds.reverse
  | _, _, .nil => .nil
  | _, _, .cons h r => by simp only [List.reverse_cons]; exact RDs.append (RDs.reverse r) (.cons h .nil)
theorem RDs.dropLast : ∀ {vs : List V} {ds : List D}, RDs K H S vs ds → RDs K H S vs.dropLast ds.dropLast
  | _, _, .nil => .nil
  | _, _, .cons _ .nil => .nil
  | _, _, .cons h (.cons h2 r) => by simp only [List.dropLast_cons₂]; exact .cons h (RDs.dropLast (.cons h2 r))
theorem RDs.of_ints : ∀ {ns : List Int}, RDs K H S (ns.map V.int) (ns.map .int)
  | [] => .nil
  | n :: _ => .cons (.int n) RDs.of_ints
theorem RDs.bls : ∀ {vs : List V} {ns : List Bool}, RDs K H S vs (ns.map .bl) → vs = ns.map V.bl
  | _, [], .nil => rfl
  | _, _ :: _, .cons h r => by cases h; rw [RDs.bls r]; rfl
end
/-- pairs of a dict, attributes of an instance -/
inductive RKs {κ : Type} (K : PySem.W.Frag) (H : Hp) (S : Sto) : List (κ × V) → List (κ × D) → Prop
  | nil : RKs K H S [] []
  | cons {k : κ} {v : V} {d : D} {vs : List (κ × V)} {ds : List (κ × D)} : RD K H S v d → RKs K H S vs ds → RKs K H S ((k, v) :: vs) ((k, d) :: ds)
theorem RKs.ext {κ : Type} {K : PySem.W.Frag} {H H' : Hp} {S S' : Sto} (e : Ext H S H' S') : ∀ {vs : List (κ × V)} {ds : List (κ × D)}, RKs K H S vs ds → RKs K H' S' vs ds
  | _, _, .nil => .nil
  | _, _, .cons h r => .cons (h.ext e) (RKs.ext e r)
theorem RKs.length {κ : Type} {K : PySem.W.Frag} {H : Hp} {S : Sto} : ∀ {vs : List (κ × V)} {ds : List (κ × D)}, RKs K H S vs ds → vs.length = ds.length
  | _, _, .nil => rfl
  | _, _, .cons _ r => congrArg (· + 1) (RKs.length r)
/-! ### exceptions -/
/-- an own exception: its class, its fields (none: it has no dict) -/
structure MX where
  C : Str
  fs : Option (List (Str × D))
def RX (K : PySem.W.Frag) (H : Hp) (S : Sto) (x : MX) (cls : Value) (d : Option Addr) : Prop :=
  cls = .ref (He.ga K x.C) ∧ match x.fs with
    | none => d = none
    | some fs => ∃ dd vs, d = some dd ∧ H dd = some (.xd vs) ∧ S dd = none ∧ RKs K H S vs fs
theorem RX.ext {K : PySem.W.Frag} {H H' : Hp} {S S' : Sto} {x : MX} {cls : Value} {d : Option Addr} (e : Ext H S H' S') (r : RX K H S x cls d) : RX K H' S' x cls d := by
  obtain ⟨C, fs⟩ := x
  cases fs with
  | none => exact r
  | some fs =>
    obtain ⟨h1, dd, vs, h2, h3, h4, h5⟩ := r
    exact ⟨h1, dd, vs, h2, (e _ _ h3 h4).1, (e _ _ h3 h4).2, h5.ext e⟩
/-- an exception object, kept: its class, its dict -/
def ExS (cls : Value) (d : Option Addr) (a : Addr) : HO := .ext fun h => ∃ (oe : Obj) (vs : Array Value), h.get? a = some oe ∧ Zc cls d oe ∧ oe.data = .fields vs
/-! ### dicts whose keys are spots: pairs of pairs of whole numbers -/
abbrev K4 := (Int × Int) × (Int × Int)
def nkey (k : K4) : NestedKey := .tup [.tup [.num k.1.1, .num k.1.2], .tup [.num k.2.1, .num k.2.2]]
def hash4 (k : K4) : Int := reduceHash (Builtin.Tuple.tupleHashOf [reduceHash (Builtin.Tuple.tupleHashOf [hashInt k.1.1, hashInt k.1.2]), reduceHash (Builtin.Tuple.tupleHashOf [hashInt k.2.1, hashInt k.2.2])])
def entry4 (x : K4 × Addr × Value) : DictEntry := ⟨hash4 x.1, .ref x.2.1, x.2.2⟩
def DicS (xs : List (K4 × Addr × Value)) (a : Addr) : HO := .ext fun h => ∃ o es ep, h.get? a = some o ∧ o.ExactDict ∧ o.data = .dict es ep ∧ es.toList = xs.map entry4 ∧ (xs.map (·.1)).Nodup
def k4D (k : K4) : D := .tup [.tup [.int k.1.1, .int k.1.2], .tup [.int k.2.1, .int k.2.2]]
/-- what stands in such a dict -/
def R4 (K : PySem.W.Frag) (H : Hp) (S : Sto) : List (K4 × D) → List (K4 × Addr × Value) → Prop :=
  Paired fun p q => p.1 = q.1 ∧ RD K H S (.ref q.2.1) (k4D p.1) ∧ ∃ v, RelV v q.2.2 ∧ RD K H S v p.2
theorem R4.ext {K : PySem.W.Frag} {H H' : Hp} {S S' : Sto} (e : Ext H S H' S') {kvs : List (K4 × D)} {xs : List (K4 × Addr × Value)} (r : R4 K H S kvs xs) : R4 K H' S' kvs xs :=
  Paired.mapP r fun _ _ ⟨h1, h2, v, h3, h4⟩ => ⟨h1, h2.ext e, v, h3, h4.ext e⟩
def RO (K : PySem.W.Frag) (H : Hp) (S : Sto) (a : Addr) : MO → Prop
  | .lst ds => ∃ vs, H a = some (.lst vs) ∧ RDs K H S vs ds
  | .dK kvs => ∃ vs, H a = some (.dK vs) ∧ RKs K H S vs kvs
  | .ins C fs => ∃ dx vs, H a = some (.ins (He.ga K C) dx vs) ∧ RKs K H S vs fs
  | .dT kvs => ∃ vs, H a = some (.dT vs) ∧ RKs K H S vs kvs
  | .dS kvs => ∃ xs, H a = some (DicS xs a) ∧ (a == sysModules) = false ∧ R4 K H S kvs xs
  | .exc C fs => ∃ d, H a = some (ExS (.ref (He.ga K C)) d a) ∧ RX K H S ⟨C, fs⟩ (.ref (He.ga K C)) d
/-- the store is held -/
def RSto (K : PySem.W.Frag) (H : Hp) (S : Sto) : Prop := ∀ a o, S a = some o → RO K H S a o
section
variable {K : PySem.W.Frag} {H H' : Hp} {S S' : Sto}
theorem RSto.there (s : RSto K H S) {a : Addr} {o : MO} (h : S a = some o) : ∃ u, H a = some u := by
  have q := s a o h
  cases o with
  | lst ds => obtain ⟨vs, e, _⟩ := q; exact ⟨_, e⟩
  | dK kvs => obtain ⟨vs, e, _⟩ := q; exact ⟨_, e⟩
  | ins C fs => obtain ⟨dx, vs, e, _⟩ := q; exact ⟨_, e⟩
  | exc C fs => obtain ⟨d, e, _⟩ := q; exact ⟨_, e⟩
  | dT kvs => obtain ⟨vs, e, _⟩ := q; exact ⟨_, e⟩
  | dS kvs => obtain ⟨xs, e, _⟩ := q; exact ⟨_, e⟩
theorem RSto.fresh (s : RSto K H S) {a : Addr} (h : H a = none) : S a = none := by
  cases q : S a with
  | none => rfl
  | some o =>
    obtain ⟨u, e⟩ := s.there q
    rw [h] at e; cases e
theorem RO.ext (e : Ext H S H' S') {a : Addr} {o : MO} (h : RO K H S a o) (k : H' a = H a) : RO K H' S' a o := by
  cases o with
  | lst ds => obtain ⟨vs, e1, r⟩ := h; exact ⟨vs, k.trans e1, r.ext e⟩
  | dK kvs => obtain ⟨vs, e1, r⟩ := h; exact ⟨vs, k.trans e1, r.ext e⟩
  | ins C fs => obtain ⟨dx, vs, e1, r⟩ := h; exact ⟨dx, vs, k.trans e1, r.ext e⟩
  | exc C fs => obtain ⟨d, e1, r⟩ := h; exact ⟨d, k.trans e1, r.ext e⟩
  | dT kvs => obtain ⟨vs, e1, r⟩ := h; exact ⟨vs, k.trans e1, r.ext e⟩
  | dS kvs => obtain ⟨xs, e1, e2, r⟩ := h; exact ⟨xs, k.trans e1, e2, r.ext e⟩
/-- a new object, not tracked in the store -/
theorem Ext.new (s : RSto K H S) {p : Addr} {u : HO} (h : H p = none) : Ext H S (upd H p u) S := fun a o e n => ⟨by rw [upd_ne (ne_of_none e h)]; exact e, n⟩
theorem RSto.new (s : RSto K H S) {p : Addr} {u : HO} (h : H p = none) : RSto K (upd H p u) S := fun a o e => by
  have ne : a ≠ p := fun z => by rw [z, s.fresh h] at e; cases e
  exact (s a o e).ext (Ext.new s h) (upd_ne ne)
/-- a new object, tracked -/
theorem Ext.newS (s : RSto K H S) {p : Addr} {u : HO} {o : MO} (h : H p = none) : Ext H S (upd H p u) (put S p o) := fun a o e n => by
  have ne := ne_of_none e h
  exact ⟨by rw [upd_ne ne]; exact e, by rw [put_ne ne]; exact n⟩
theorem RSto.newS (s : RSto K H S) {p : Addr} {u : HO} {o : MO} (h : H p = none) (r : RO K (upd H p u) (put S p o) p o) : RSto K (upd H p u) (put S p o) := fun a o' e => by
  by_cases ne : a = p
  · subst ne; rw [put_same] at e; cases e; exact r
  · rw [put_ne ne] at e
    exact (s a o' e).ext (Ext.newS s h) (upd_ne ne)
/-- an object of the store is changed -/
theorem Ext.chg {p : Addr} {u : HO} {o o' : MO} (h : S p = some o') : Ext H S (upd H p u) (put S p o) := fun a o e n => by
  have ne : a ≠ p := fun z => by rw [z, h] at n; cases n
  exact ⟨by rw [upd_ne ne]; exact e, by rw [put_ne ne]; exact n⟩
theorem RSto.chg (s : RSto K H S) {p : Addr} {u : HO} {o o' : MO} (h : S p = some o') (r : RO K (upd H p u) (put S p o) p o) : RSto K (upd H p u) (put S p o) := fun a o' e => by
  by_cases ne : a = p
  · subst ne; rw [put_same] at e; cases e; exact r
  · rw [put_ne ne] at e
    exact (s a o' e).ext (Ext.chg h) (upd_ne ne)
/-- the items of a list that may be read: of the store, or one that stays -/
def lstOf (S : Sto) : D → Option (List D)
  | .lst ds => some ds
  | .scr ds => some ds
  | .ref p => match S p with
    | some (.lst ds) => some ds
    | _ => none
  | _ => none
/-- the same of a list that the program made -/
def ownOf (S : Sto) : D → Option (List D)
  | .lst ds => some ds
  | .ref p => match S p with
    | some (.lst ds) => some ds
    | _ => none
  | _ => none
theorem lst_store {S : Sto} {p : Addr} {ds : List D} (h : (match S p with
    | some (.lst ds) => some ds
    | _ => none) = some ds) : S p = some (.lst ds) := by
  cases e : S p with
  | none => rw [e] at h; cases h
  | some o =>
    rw [e] at h
    cases o with
    | lst xs => cases h; rfl
    | _ => cases h
theorem own_sq (s : RSto K H S) {v : V} {d : D} {ds : List D} (r : RD K H S v d) (h : ownOf S d = some ds) : ∃ a vs, v = .ref a ∧ H a = some (.lst vs) ∧ RDs K H S vs ds := by
  cases d with
  | lst xs => cases h; cases r with | lst h n r => exact ⟨_, _, rfl, h, r⟩
  | ref p =>
    cases r
    obtain ⟨vs, e1, r⟩ := s p _ (lst_store h)
    exact ⟨p, vs, rfl, e1, r⟩
  | _ => cases h
theorem lst_sq (s : RSto K H S) {v : V} {d : D} {ds : List D} (r : RD K H S v d) (h : lstOf S d = some ds) : ∃ a vs, v = .ref a ∧ SqL K H a vs ∧ RDs K H S vs ds := by
  cases d with
  | lst xs => cases h; cases r with | lst h n r => exact ⟨_, _, rfl, .inl (.inl h), r⟩
  | scr xs =>
    cases h
    cases r with
    | scr h n r => exact ⟨_, _, rfl, .inl (.inr ⟨_, h⟩), r⟩
    | klst h1 h2 h3 h4 h5 h6 r => exact ⟨_, _, rfl, .inr ⟨_, _, _, h1, h2, h3, h4, h5, h6⟩, r⟩
  | ref p =>
    cases r
    obtain ⟨vs, e1, r⟩ := s p _ (lst_store h)
    exact ⟨p, vs, rfl, .inl (.inl e1), r⟩
  | _ => cases h
theorem RD.tupSq {v : V} {ds : List D} (r : RD K H S v (.tup ds)) : ∃ a vs, v = .ref a ∧ SqT K H a vs ∧ RDs K H S vs ds := by
  cases r with
  | tup h n r => exact ⟨_, _, rfl, .inl h, r⟩
  | ktup h1 h2 h3 h4 h5 r => exact ⟨_, _, rfl, .inr ⟨_, _, _, h1, h2, h3, h4, h5⟩, r⟩
end
/-! ### slots -/
abbrev MSt := List (Option D)
inductive RSt (K : PySem.W.Frag) (H : Hp) (S : Sto) : St → MSt → Prop
  | nil : RSt K H S [] []
  | vac {o : Option V} {σ : St} {m : MSt} : RSt K H S σ m → RSt K H S (o :: σ) (Option.none :: m)
  | val {v : V} {d : D} {σ : St} {m : MSt} : RD K H S v d → RSt K H S σ m → RSt K H S (Option.some v :: σ) (Option.some d :: m)
section
variable {K : PySem.W.Frag} {H H' : Hp} {S S' : Sto}
theorem RSt.ext (e : Ext H S H' S') : ∀ {σ : St} {m : MSt}, RSt K H S σ m → RSt K H' S' σ m
  | _, _, .nil => .nil
  | _, _, .vac r => .vac (RSt.ext e r)
  | _, _, .val h r => .val (h.ext e) (RSt.ext e r)
theorem RSt.get : ∀ {σ : St} {m : MSt} {i : Nat} {d : D}, RSt K H S σ m → m[i]? = some (some d) → ∃ v, σ[i]? = some (some v) ∧ RD K H S v d
  | _, _, _, _, .nil, e => by simp at e
  | _, _, 0, _, .vac _, e => by simp at e
  | _, _, 0, _, .val h _, e => by simp at e; subst e; exact ⟨_, rfl, h⟩
  | _, _, i + 1, d, .vac r, e => by
    obtain ⟨v, h1, h2⟩ := RSt.get (i := i) (d := d) r (by simpa using e)
    exact ⟨v, by simpa using h1, h2⟩
  | _, _, i + 1, d, .val _ r, e => by
    obtain ⟨v, h1, h2⟩ := RSt.get (i := i) (d := d) r (by simpa using e)
    exact ⟨v, by simpa using h1, h2⟩
theorem RSt.set {v : V} {d : D} (h : RD K H S v d) : ∀ {σ : St} {m : MSt} (i : Nat), RSt K H S σ m → RSt K H S (σ.set i (some v)) (m.set i (some d))
  | _, _, _, .nil => .nil
  | _, _, 0, .vac r => .val h r
  | _, _, 0, .val _ r => .val h r
  | _, _, i + 1, .vac r => .vac (RSt.set h i r)
  | _, _, i + 1, .val q r => .val q (RSt.set h i r)
theorem RSt.unset : ∀ {σ : St} {m : MSt} (i : Nat) (o : Option V), RSt K H S σ m → RSt K H S (σ.set i o) (m.set i none)
  | _, _, _, _, .nil => .nil
  | _, _, 0, _, .vac r => .vac r
  | _, _, 0, _, .val _ r => .vac r
  | _, _, i + 1, o, .vac r => .vac (RSt.unset i o r)
  | _, _, i + 1, o, .val q r => .val q (RSt.unset i o r)
theorem RSt.nones : ∀ n : Nat, RSt K H S (List.replicate n Option.none) (List.replicate n Option.none)
  | 0 => .nil
  | n + 1 => .vac (RSt.nones n)
theorem RSt.start {vs : List V} {ds : List D} (n : Nat) (r : RDs K H S vs ds) : RSt K H S (vs.map Option.some ++ List.replicate n Option.none) (ds.map Option.some ++ List.replicate n Option.none) := by
  induction vs generalizing ds with
  | nil => cases r; exact RSt.nones n
  | cons v vs ih =>
    cases r with
    | cons h r => exact .val h (ih r)
end
/-! ### readings over the store, and what they are below -/
abbrev MQ := D → Sto → Prop
abbrev MXQ := MX → Sto → Prop
abbrev ME := MSt → Sto → MQ → MXQ → Prop
abbrev MT := MSt → Sto → (Bool → Sto → Prop) → MXQ → Prop
abbrev MA := MSt → Sto → (List D → Sto → Prop) → MXQ → Prop
structure MEnds where
  nx : MSt → Sto → Prop
  rt : MQ
  bk : MSt → Sto → Prop := fun _ _ => False
  ct : MSt → Sto → Prop := fun _ _ => False
  ex : MX → MSt → Sto → Prop := fun _ _ _ => False
abbrev MS := MEnds → MSt → Sto → Prop
/-- a def's promise -/
abbrev MSp := List D → Sto → MQ → MXQ → Prop
section
variable (K : PySem.W.Frag) (H : Hp) (S : Sto)
def Ref (Qm : MQ) (Q : V → Hp → Prop) : Prop := ∀ d S' v H', Qm d S' → Ext H S H' S' → RSto K H' S' → RD K H' S' v d → Q v H'
def RefA (Qm : List D → Sto → Prop) (Q : List V → Hp → Prop) : Prop := ∀ ds S' vs H', Qm ds S' → Ext H S H' S' → RSto K H' S' → RDs K H' S' vs ds → Q vs H'
def RefT (Qm : Bool → Sto → Prop) (Q : Bool → Hp → Prop) : Prop := ∀ b S' H', Qm b S' → Ext H S H' S' → RSto K H' S' → Q b H'
def RefN (Qm : MSt → Sto → Prop) (Q : St → Hp → Prop) : Prop := ∀ m S' σ H', Qm m S' → Ext H S H' S' → RSto K H' S' → RSt K H' S' σ m → Q σ H'
def RefX (Em : MXQ) (E : XK) : Prop := ∀ x S' cls d H', Em x S' → Ext H S H' S' → RSto K H' S' → RX K H' S' x cls d → E cls d H'
def RefW (Em : MX → MSt → Sto → Prop) (W : WX) : Prop := ∀ x m S' cls d σ H', Em x m S' → Ext H S H' S' → RSto K H' S' → RSt K H' S' σ m → RX K H' S' x cls d → W cls d σ H'
structure RefE (Dm : MEnds) (D : Ends) (W : WX) : Prop where
  nx : RefN K H S Dm.nx D.nx
  rt : Ref K H S Dm.rt D.rt
  bk : RefN K H S Dm.bk D.bk
  ct : RefN K H S Dm.ct D.ct
  ex : RefW K H S Dm.ex W
end
section
variable {K : PySem.W.Frag} {H H' : Hp} {S S' : Sto}
theorem Ref.ext {Qm : MQ} {Q : V → Hp → Prop} (r : Ref K H S Qm Q) (e : Ext H S H' S') : Ref K H' S' Qm Q := fun d S1 v H1 q e1 s h => r d S1 v H1 q (e.trans e1) s h
theorem RefA.ext {Qm : List D → Sto → Prop} {Q : List V → Hp → Prop} (r : RefA K H S Qm Q) (e : Ext H S H' S') : RefA K H' S' Qm Q := fun d S1 v H1 q e1 s h => r d S1 v H1 q (e.trans e1) s h
theorem RefT.ext {Qm : Bool → Sto → Prop} {Q : Bool → Hp → Prop} (r : RefT K H S Qm Q) (e : Ext H S H' S') : RefT K H' S' Qm Q := fun d S1 H1 q e1 s => r d S1 H1 q (e.trans e1) s
theorem RefN.ext {Qm : MSt → Sto → Prop} {Q : St → Hp → Prop} (r : RefN K H S Qm Q) (e : Ext H S H' S') : RefN K H' S' Qm Q := fun d S1 v H1 q e1 s h => r d S1 v H1 q (e.trans e1) s h
theorem RefX.ext {Em : MXQ} {E : XK} (r : RefX K H S Em E) (e : Ext H S H' S') : RefX K H' S' Em E := fun x S1 c d H1 q e1 s h => r x S1 c d H1 q (e.trans e1) s h
theorem RefW.ext {Em : MX → MSt → Sto → Prop} {W : WX} (r : RefW K H S Em W) (e : Ext H S H' S') : RefW K H' S' Em W := fun x m S1 c d σ H1 q e1 s h1 h => r x m S1 c d σ H1 q (e.trans e1) s h1 h
theorem RefE.ext {Dm : MEnds} {D : Ends} {W : WX} (r : RefE K H S Dm D W) (e : Ext H S H' S') : RefE K H' S' Dm D W := ⟨r.nx.ext e, r.rt.ext e, r.bk.ext e, r.ct.ext e, r.ex.ext e⟩
end
section
variable (K : PySem.W.Frag) (W : WX)
def upE (m : ME) : TE := fun σ H Q => ∃ mσ S Qm Em, RSt K H S σ mσ ∧ RSto K H S ∧ m mσ S Qm Em ∧ Ref K H S Qm Q ∧ RefX K H S Em (fun c d H' => W c d σ H')
def upT (m : MT) : TT := fun σ H Q => ∃ mσ S Qm Em, RSt K H S σ mσ ∧ RSto K H S ∧ m mσ S Qm Em ∧ RefT K H S Qm Q ∧ RefX K H S Em (fun c d H' => W c d σ H')
def upA (m : MA) : TA := fun σ H Q => ∃ mσ S Qm Em, RSt K H S σ mσ ∧ RSto K H S ∧ m mσ S Qm Em ∧ RefA K H S Qm Q ∧ RefX K H S Em (fun c d H' => W c d σ H')
def upS (m : MS) : TS := fun D σ H => ∃ mσ S Dm, RSt K H S σ mσ ∧ RSto K H S ∧ m Dm mσ S ∧ RefE K H S Dm D W
end
def upSp (K : PySem.W.Frag) (sp : MSp) : Sp := fun vs H Q E => ∃ ds S Qm Em, RDs K H S vs ds ∧ RSto K H S ∧ sp ds S Qm Em ∧ Ref K H S Qm Q ∧ RefX K H S Em E
end ML
namespace L2
open PySem PySem.Spec
section
variable {X : Cx}
theorem PE.to {e : Expr} {t t' : TE} (h : PE X e t) (i : ∀ σ H Q, t' σ H Q → t σ H Q) : PE X e t' := ⟨fun pins s σ H Q I q => h.run pins s σ H Q I (i σ H Q q)⟩
theorem PT.to {e : Expr} {t t' : TT} (h : PT X e t) (i : ∀ σ H Q, t' σ H Q → t σ H Q) : PT X e t' := ⟨fun pins s σ H Q I q => h.run pins s σ H Q I (i σ H Q q)⟩
theorem PW.to {e : Expr} {t t' : TT} (h : PW X e t) (i : ∀ σ H Q, t' σ H Q → t σ H Q) : PW X e t' := ⟨fun w pins s σ H Q I q => h.run w pins s σ H Q I (i σ H Q q)⟩
theorem PA.to {e : List Expr} {t t' : TA} (h : PA X e t) (i : ∀ σ H Q, t' σ H Q → t σ H Q) : PA X e t' := ⟨fun pos pins s σ H Q I q => h.run pos pins s σ H Q I (i σ H Q q)⟩
theorem PS.to {st : Stmt} {t t' : TS} (h : PS X st t) (i : ∀ D σ H, t' D σ H → t D σ H) : PS X st t' := ⟨fun pins s σ H D I q => h.run pins s σ H D I (i D σ H q)⟩
theorem PSs.to {st : List Stmt} {t t' : TS} (h : PSs X st t) (i : ∀ D σ H, t' D σ H → t D σ H) : PSs X st t' := ⟨fun pins s σ H D I q => h.run pins s σ H D I (i D σ H q)⟩
end
end L2
set_option maxRecDepth 100000
namespace ML
open PySem PySem.Spec L2
open PyProof.Rows hiding St
section
variable {X : Cx} {W : WX} {a b c e : Expr} {ma mb mc m : ME} {pos : Pos}
/-! ### names, constants -/
def mVar (i : Nat) : ME := fun σ S Q _ => match σ[i]? with
  | some (some d) => Q d S
  | _ => False
theorem mVar_at {i : Nat} {σ : MSt} {S : Sto} {Q : MQ} {E : MXQ} (h : mVar i σ S Q E) : ∃ d, σ[i]? = some (some d) ∧ Q d S := by
  unfold mVar at h
  split at h
  · next d e => exact ⟨d, e, h⟩
  · exact h.elim
theorem ev (i : Nat) {x : Str} {pos : Pos} (hN : X.N[i]? = some x := by rfl) (hv : Vis X.env.scope x := by first | exact Or.inl rfl | exact Or.inr (Or.inl rfl) | exact Or.inr (Or.inr rfl)) (hd : (x == ("__debug__" : Str)) = false := by decide)
    (hcd : (x == ("__classdict__" : Str)) = false := by decide) : PE X (.Name x pos) (upE X.K W (mVar i)) := (pv i hN hv hd hcd).to fun σ H Q ⟨m, S, Qm, Em, h1, h2, h3, h4, _⟩ => by
  obtain ⟨d, e, q⟩ := mVar_at h3
  obtain ⟨v, e1, r⟩ := h1.get e
  exact ⟨v, e1, h4 d S v H q Ext.refl h2 r⟩
def mC (d : D) : ME := fun _ S Q _ => Q d S
theorem mC_to {v : V} {d : D} (r : ∀ K H S, RD K H S v d) : ∀ σ H Q, upE X.K W (mC d) σ H Q → tC v σ H Q := fun σ H Q ⟨m, S, Qm, Em, h1, h2, h3, h4, _⟩ => h4 d S v H h3 Ext.refl h2 (r _ _ _)
theorem eint {i j pos} : PE X (.Constant (.int i) j pos) (upE X.K W (mC (.int i))) := pe_int.to (mC_to fun _ _ _ => .int i)
theorem ebl {i j pos} : PE X (.Constant (.bool i) j pos) (upE X.K W (mC (.bl i))) := pe_bl.to (mC_to fun _ _ _ => .bl i)
/-- a module's own tuple -/
theorem eglobT {x : Str} {f : Addr} {d : D} {pos : Pos} (r : ∀ H S, RD X.K H S (.ref f) d) (hm : X.mg x = some (.ref f)) (hg : Gl X x := by rfl) (hd : (x == ("__debug__" : Str)) = false := by decide) : PE X (.Name x pos) (upE X.K W (mC d)) :=
  (pe_glob (v := .ref f) hg hm rfl hd).to fun σ H Q ⟨m, S, Qm, Em, h1, h2, h3, h4, _⟩ => h4 d S (.ref f) H h3 Ext.refl h2 (r _ _)
/-! ### two values -/
abbrev R2m := D → D → Sto → MQ → Prop
def OpL (K : PySem.W.Frag) (r : R2) (rm : R2m) : Prop := ∀ (H : Hp) (S : Sto) (x y : V) (d e : D) (Qm : MQ) (Q : VK), RSto K H S → RD K H S x d → RD K H S y e → rm d e S Qm → Ref K H S Qm Q → r x y H Q
def mOp (rm : R2m) (ma mb : ME) : ME := fun σ S Q E => ma σ S (fun d S1 => mb σ S1 (fun e S2 => rm d e S2 Q) E) E
theorem op_to {r : R2} {rm : R2m} (hl : OpL X.K r rm) (σ : L2.St) (H : Hp) (Q : VK) (h : upE X.K W (mOp rm ma mb) σ H Q) : tOp r (upE X.K W ma) (upE X.K W mb) σ H Q := by
  obtain ⟨m, S, Qm, Em, h1, h2, h3, h4, h5⟩ := h
  refine ⟨m, S, _, Em, h1, h2, h3, fun d S1 x H1 q1 e1 s1 r1 => ⟨m, S1, _, Em, h1.ext e1, s1, q1, fun e S2 y H2 q2 e2 s2 r2 => ?_, h5.ext e1⟩, h5⟩
  exact hl H2 S2 x y d e Qm Q s2 (r1.ext e2) r2 q2 (h4.ext (e1.trans e2))
theorem eop {op : Operator} {r : R2} {rm : R2m} (ho : OpR X (binaryOp op) r) (hl : OpL X.K r rm) (ha : PE X a (upE X.K W ma)) (hb : PE X b (upE X.K W mb)) : PE X (.BinOp a op b pos) (upE X.K W (mOp rm ma mb)) := (pe_op ho ha hb).to (op_to hl)
/-- two ints to a value -/
def rInt (C : Int → Int → Prop) (g : Int → Int → D) : R2m := fun d e S Q => match d, e with
  | .int i, .int j => C i j ∧ Q (g i j) S
  | _, _ => False
def rInt0 (g : Int → Int → D) : R2m := fun d e S Q => match d, e with
  | .int i, .int j => Q (g i j) S
  | _, _ => False
theorem rInt_at {C : Int → Int → Prop} {g : Int → Int → D} {d e : D} {S : Sto} {Q : MQ} (h : rInt C g d e S Q) : ∃ i j, d = .int i ∧ e = .int j ∧ C i j ∧ Q (g i j) S := by
  unfold rInt at h
  split at h
  · exact ⟨_, _, rfl, rfl, h⟩
  · exact h.elim
theorem rInt0_at {g : Int → Int → D} {d e : D} {S : Sto} {Q : MQ} (h : rInt0 g d e S Q) : ∃ i j, d = .int i ∧ e = .int j ∧ Q (g i j) S := by
  unfold rInt0 at h
  split at h
  · exact ⟨_, _, rfl, rfl, h⟩
  · exact h.elim
theorem opl_int {K : PySem.W.Frag} {C : Int → Int → Prop} {g : Int → Int → V} {gm : Int → Int → D} (r : ∀ i j H S, RD K H S (g i j) (gm i j)) : OpL K (rI C g) (rInt C gm) := fun H S x y d e Qm Q s rx ry h k => by
  obtain ⟨i, j, rfl, rfl, hc, q⟩ := rInt_at h
  cases rx; cases ry
  exact ⟨i, j, rfl, rfl, hc, k _ S _ H q Ext.refl s (r ..)⟩
theorem opl_int0 {K : PySem.W.Frag} {g : Int → Int → V} {gm : Int → Int → D} (r : ∀ i j H S, RD K H S (g i j) (gm i j)) : OpL K (rI0 g) (rInt0 gm) := fun H S x y d e Qm Q s rx ry h k => by
  obtain ⟨i, j, rfl, rfl, q⟩ := rInt0_at h
  cases rx; cases ry
  exact ⟨i, j, rfl, rfl, k _ S _ H q Ext.refl s (r ..)⟩
abbrev rSub : R2m := rInt0 fun i j => .int (i - j)
abbrev rMul : R2m := rInt IntMulOk fun i j => .int (i * j)
def DivOk (i j : Int) : Prop := j ≠ 0 ∧ Builtin.divisionGoesByPylong i j = false
abbrev rDiv : R2m := rInt DivOk fun i j => .int (i.fdiv j)
abbrev rMod : R2m := rInt (fun _ j => j ≠ 0) fun i j => .int (i.fmod j)
abbrev rPow : R2m := rInt CPow fun i j => .int (i ^ j.toNat)
theorem esub (ha : PE X a (upE X.K W ma)) (hb : PE X b (upE X.K W mb)) : PE X (.BinOp a .Sub b pos) (upE X.K W (mOp rSub ma mb)) := eop op_sub (opl_int0 fun _ _ _ _ => .int _) ha hb
theorem emul (ha : PE X a (upE X.K W ma)) (hb : PE X b (upE X.K W mb)) : PE X (.BinOp a .Mult b pos) (upE X.K W (mOp rMul ma mb)) :=
  eop (opI (C := IntMulOk) fun _ _ _ _ _ _ _ hc q => mul_int q hc) (opl_int fun _ _ _ _ => .int _) ha hb
theorem ediv (ha : PE X a (upE X.K W ma)) (hb : PE X b (upE X.K W mb)) : PE X (.BinOp a .FloorDiv b pos) (upE X.K W (mOp rDiv ma mb)) :=
  eop (opI (C := DivOk) fun _ _ _ _ _ _ _ hc q => floordiv_int hc.1 q (.inl hc.2)) (opl_int fun _ _ _ _ => .int _) ha hb
theorem emod (ha : PE X a (upE X.K W ma)) (hb : PE X b (upE X.K W mb)) : PE X (.BinOp a .Mod b pos) (upE X.K W (mOp rMod ma mb)) := eop op_modN (opl_int fun _ _ _ _ => .int _) ha hb
theorem epow (ha : PE X a (upE X.K W ma)) (hb : PE X b (upE X.K W mb)) : PE X (.BinOp a .Pow b pos) (upE X.K W (mOp rPow ma mb)) := eop op_pow (opl_int fun _ _ _ _ => .int _) ha hb
/-- +: ints, texts, lists that the program made (a new one that stays), tuples -/
def rAdd : R2m := fun d e S Q => match d, e with
  | .int i, .int j => Q (.int (i + j)) S
  | .str x, .str y => x.length + y.length ≤ sizeLine ∧ Q (.str (x ++ y)) S
  | .tup xs, .tup ys => (xs ≠ [] ∧ xs.length + ys.length ≤ sizeLine) ∧ Q (.tup (xs ++ ys)) S
  | d, e => match ownOf S d, ownOf S e with
    | some xs, some ys => xs.length + ys.length ≤ sizeLine ∧ Q (.lst (xs ++ ys)) S
    | _, _ => False
theorem op_addAll : OpR X (binaryOp .Add) (fun x y H Q => rI0 (fun i j => .int (i + j)) x y H Q ∨ ((∃ i j, x = .str i ∧ y = .str j ∧ i.length + j.length ≤ sizeLine ∧ Q (.str (i ++ j)) H) ∨ (rCatT X.K x y H Q ∨ rCat x y H Q))) := op_add.or (op_add_str.or (op_catT.or op_cat))
theorem rAdd_at {d e : D} {S : Sto} {Q : MQ} (h : rAdd d e S Q) : (∃ i j, d = .int i ∧ e = .int j ∧ Q (.int (i + j)) S) ∨ (∃ x y, d = .str x ∧ e = .str y ∧ x.length + y.length ≤ sizeLine ∧ Q (.str (x ++ y)) S) ∨
    (∃ xs ys, d = .tup xs ∧ e = .tup ys ∧ (xs ≠ [] ∧ xs.length + ys.length ≤ sizeLine) ∧ Q (.tup (xs ++ ys)) S) ∨ ∃ xs ys, ownOf S d = some xs ∧ ownOf S e = some ys ∧ xs.length + ys.length ≤ sizeLine ∧ Q (.lst (xs ++ ys)) S := by
  unfold rAdd at h
  split at h
  · exact .inl ⟨_, _, rfl, rfl, h⟩
  · exact .inr (.inl ⟨_, _, rfl, rfl, h⟩)
  · exact .inr (.inr (.inl ⟨_, _, rfl, rfl, h⟩))
  · split at h
    · next e1 e2 => exact .inr (.inr (.inr ⟨_, _, e1, e2, h⟩))
    · exact h.elim
theorem eadd (ha : PE X a (upE X.K W ma)) (hb : PE X b (upE X.K W mb)) : PE X (.BinOp a .Add b pos) (upE X.K W (mOp rAdd ma mb)) := by
  refine eop op_addAll (fun H S x y d e Qm Q s rx ry h k => ?_) ha hb
  rcases rAdd_at h with ⟨i, j, rfl, rfl, q⟩ | ⟨i, j, rfl, rfl, hz, q⟩ | ⟨xs, ys, rfl, rfl, ⟨hne, hz⟩, q⟩ | ⟨xs, ys, e1, e2, hz, q⟩
  · cases rx; cases ry
    exact .inl ⟨i, j, rfl, rfl, k _ S _ H q Ext.refl s (.int _)⟩
  · cases rx; cases ry
    exact .inr (.inl ⟨i, j, rfl, rfl, hz, k _ S _ H q Ext.refl s (.str _)⟩)
  · obtain ⟨p, vs, rfl, h1, r1⟩ := rx.tupSq
    obtain ⟨p2, ws, rfl, h2, r2⟩ := ry.tupSq
    have l1 := r1.length
    have l2 := r2.length
    refine .inr (.inr (.inl ⟨p, p2, vs, ws, rfl, rfl, h1, h2, fun z => hne (List.length_eq_zero_iff.mp (by rw [← l1, z]; rfl)), by omega, ?_⟩))
    refine ⟨fun z => ?_, fun _ q' hq => k _ S _ _ q (Ext.new s hq) (s.new hq) (.tup (.inl upd_same) (s.fresh hq) ((r1.append r2).ext (Ext.new s hq)))⟩
    subst z
    cases r2
    rw [List.append_nil] at q
    exact k _ S _ H q Ext.refl s rx
  · obtain ⟨p, vs, rfl, h1, r1⟩ := own_sq s rx e1
    obtain ⟨p2, ws, rfl, h2, r2⟩ := own_sq s ry e2
    have l1 := r1.length
    have l2 := r2.length
    refine .inr (.inr (.inr ⟨p, p2, vs, ws, rfl, rfl, h1, h2, by omega, fun q' hq => ?_⟩))
    exact k _ S _ _ q (Ext.new s hq) (s.new hq) (.lst upd_same (s.fresh hq) ((r1.append r2).ext (Ext.new s hq)))
/-! ### one value -/
def UnL (K : PySem.W.Frag) (r : V → Hp → VK → Prop) (rm : D → Sto → MQ → Prop) : Prop := ∀ (H : Hp) (S : Sto) (x : V) (d : D) (Qm : MQ) (Q : VK), RSto K H S → RD K H S x d → rm d S Qm → Ref K H S Qm Q → r x H Q
def mUn (rm : D → Sto → MQ → Prop) (ma : ME) : ME := fun σ S Q E => ma σ S (fun d S1 => rm d S1 Q) E
theorem eun {op : UnaryOp} {r : V → Hp → VK → Prop} {rm : D → Sto → MQ → Prop} (ho : UnR X (unaryOp op) r) (hl : UnL X.K r rm) (ha : PE X a (upE X.K W ma)) : PE X (.UnaryOp op a pos) (upE X.K W (mUn rm ma)) :=
  (pe_un ho ha).to fun σ H Q ⟨m, S, Qm, Em, h1, h2, h3, h4, h5⟩ => ⟨m, S, _, Em, h1, h2, h3, fun d S1 x H1 q1 e1 s1 r1 => hl H1 S1 x d Qm Q s1 r1 q1 (h4.ext e1), h5⟩
def rNeg : D → Sto → MQ → Prop := fun d S Q => match d with
  | .int i => Q (.int (-i)) S
  | _ => False
theorem eneg (ha : PE X a (upE X.K W ma)) : PE X (.UnaryOp .USub a pos) (upE X.K W (mUn rNeg ma)) := eun un_neg (fun H S x d Qm Q s r h k => by
  unfold rNeg at h
  split at h
  · cases r; exact ⟨_, rfl, k _ S _ H h Ext.refl s (.int _)⟩
  · exact h.elim) ha
/-! ### comparisons -/
abbrev rLt : R2m := rInt0 fun i j => .bl (decide (i < j))
abbrev rLe : R2m := rInt0 fun i j => .bl (decide (i ≤ j))
abbrev rGt : R2m := rInt0 fun i j => .bl (decide (j < i))
abbrev rGe : R2m := rInt0 fun i j => .bl (decide (j ≤ i))
theorem ecmp {op : CmpOp} {r : R2} {rm : R2m} (ho : OpR X (compareOp op) r) (hl : OpL X.K r rm) (ha : PE X a (upE X.K W ma)) (hb : PE X b (upE X.K W mb)) (hm : behindInMarks op b = false := by first | exact nomark _ | with_unfolding_all rfl) :
    PE X (.Compare a [op] [b] pos) (upE X.K W (mOp rm ma mb)) := (pe_cmpR ho ha hb hm).to (op_to hl)
/-- a value that is a truth, as a test -/
def mTst (m : ME) : MT := fun σ S Q E => m σ S (fun d S1 => match d with
  | .bl k => Q k S1
  | _ => False) E
theorem tst_to {t : TE} (i : ∀ σ H Q, upE X.K W m σ H Q → t σ H Q) (σ : L2.St) (H : Hp) (Q : Bool → Hp → Prop) (h : upT X.K W (mTst m) σ H Q) : tTest t σ H Q := by
  obtain ⟨mσ, S, Qm, Em, h1, h2, h3, h4, h5⟩ := h
  refine i σ H _ ⟨mσ, S, _, Em, h1, h2, h3, fun d S1 x H1 q1 e1 s1 r1 => ?_, h5⟩
  cases d with
  | bl k => cases r1; exact ⟨k, rfl, h4 k S1 H1 q1 e1 s1⟩
  | _ => exact q1.elim
theorem tcmp {op : CmpOp} {r : R2} {rm : R2m} (ho : OpR X (compareOp op) r) (hl : OpL X.K r rm) (ha : PE X a (upE X.K W ma)) (hb : PE X b (upE X.K W mb)) (hm : behindInMarks op b = false := by first | exact nomark _ | with_unfolding_all rfl) :
    PT X (.Compare a [op] [b] pos) (upT X.K W (mTst (mOp rm ma mb))) := (pt_cmpR ho ha hb hm).to (tst_to (op_to hl))
/-- a op b op2 c -/
def mChain (r r' : R2m) (ma mb mc : ME) : ME := fun σ S Q E => ma σ S (fun x S1 => mb σ S1 (fun y S2 => r x y S2 fun z S3 => match z with
  | .bl k => if k = true then mc σ S3 (fun w S4 => r' y w S4 Q) E else Q (.bl false) S3
  | _ => False) E) E
/-- is None -/
def isN : D → Bool
  | .non => true
  | _ => false
def rIsN : R2m := fun d e S Q => match e with
  | .non => Q (.bl (isN d)) S
  | _ => False
def rNotN : R2m := fun d e S Q => match e with
  | .non => Q (.bl (!isN d)) S
  | _ => False
/-! ### and, or, not, if -/
variable {tA tB' tA' : MT} {rest : List Expr}
def mAnd (t u : MT) : MT := fun σ S Q E => t σ S (fun c S1 => if c = true then u σ S1 Q E else Q false S1) E
def mOr (t u : MT) : MT := fun σ S Q E => t σ S (fun c S1 => if c = true then Q true S1 else u σ S1 Q E) E
def mNot (t : MT) : MT := fun σ S Q E => t σ S (fun c S1 => Q (!c) S1) E
theorem wand1 (ha : PT X a (upT X.K W tA)) : PW X (.BoolOp .And [a] pos) (upT X.K W tA) := pw_and1 ha
theorem wor1 (ha : PT X a (upT X.K W tA)) : PW X (.BoolOp .Or [a] pos) (upT X.K W tA) := pw_or1 ha
theorem wand (ha : PT X a (upT X.K W tA)) (hb : PW X (.BoolOp .And (b :: rest) pos) (upT X.K W tB')) : PW X (.BoolOp .And (a :: b :: rest) pos) (upT X.K W (mAnd tA tB')) :=
  (pw_and ha hb).to fun σ H Q ⟨m, S, Qm, Em, h1, h2, h3, h4, h5⟩ => ⟨m, S, _, Em, h1, h2, h3, fun k S1 H1 q1 e1 s1 => by
    cases k with
    | true => rw [if_pos rfl]; exact ⟨m, S1, Qm, Em, h1.ext e1, s1, by simpa using q1, h4.ext e1, h5.ext e1⟩
    | false => rw [if_neg Bool.false_ne_true]; exact h4 false S1 H1 (by simpa using q1) e1 s1, h5⟩
theorem wor (ha : PT X a (upT X.K W tA)) (hb : PW X (.BoolOp .Or (b :: rest) pos) (upT X.K W tB')) : PW X (.BoolOp .Or (a :: b :: rest) pos) (upT X.K W (mOr tA tB')) :=
  (pw_or ha hb).to fun σ H Q ⟨m, S, Qm, Em, h1, h2, h3, h4, h5⟩ => ⟨m, S, _, Em, h1, h2, h3, fun k S1 H1 q1 e1 s1 => by
    cases k with
    | false => rw [if_neg Bool.false_ne_true]; exact ⟨m, S1, Qm, Em, h1.ext e1, s1, by simpa using q1, h4.ext e1, h5.ext e1⟩
    | true => rw [if_pos rfl]; exact h4 true S1 H1 (by simpa using q1) e1 s1, h5⟩
theorem tnot (ha : PT X a (upT X.K W tA)) : PT X (.UnaryOp .Not a pos) (upT X.K W (mNot tA)) :=
  (pt_not ha).to fun σ H Q ⟨m, S, Qm, Em, h1, h2, h3, h4, h5⟩ => ⟨m, S, _, Em, h1, h2, h3, fun k S1 H1 q1 e1 s1 => h4 (!k) S1 H1 q1 e1 s1, h5⟩
/-- as values -/
def mAndV (ma mb : ME) : ME := fun σ S Q E => ma σ S (fun d S1 => match d with
  | .bl k => if k = true then mb σ S1 Q E else Q (.bl false) S1
  | _ => False) E
def mOrV (ma mb : ME) : ME := fun σ S Q E => ma σ S (fun d S1 => match d with
  | .bl k => if k = true then Q (.bl true) S1 else mb σ S1 Q E
  | _ => False) E
def mNotV (ma : ME) : ME := fun σ S Q E => ma σ S (fun d S1 => match d with
  | .bl k => Q (.bl (!k)) S1
  | _ => False) E
theorem eone {op} (h : PE X a (upE X.K W ma)) : PE X (.BoolOp op [a] pos) (upE X.K W ma) := pe_one h
theorem eand (ha : PE X a (upE X.K W ma)) (hb : PE X (.BoolOp .And (b :: rest) pos) (upE X.K W mb)) : PE X (.BoolOp .And (a :: b :: rest) pos) (upE X.K W (mAndV ma mb)) :=
  (pe_and ha hb).to fun σ H Q ⟨m, S, Qm, Em, h1, h2, h3, h4, h5⟩ => ⟨m, S, _, Em, h1, h2, h3, fun d S1 v H1 q1 e1 s1 r1 => by
    cases d with
    | bl k =>
      cases r1
      refine ⟨k, rfl, ?_⟩
      cases k with
      | true => rw [if_pos rfl]; exact ⟨m, S1, Qm, Em, h1.ext e1, s1, by simpa using q1, h4.ext e1, h5.ext e1⟩
      | false => rw [if_neg Bool.false_ne_true]; exact h4 _ S1 _ H1 (show Qm (.bl false) S1 by simpa using q1) e1 s1 (.bl false)
    | _ => exact q1.elim, h5⟩
theorem enot (ha : PE X a (upE X.K W ma)) : PE X (.UnaryOp .Not a pos) (upE X.K W (mNotV ma)) :=
  (pe_not ha).to fun σ H Q ⟨m, S, Qm, Em, h1, h2, h3, h4, h5⟩ => ⟨m, S, _, Em, h1, h2, h3, fun d S1 v H1 q1 e1 s1 r1 => by
    cases d with
    | bl k => cases r1; exact ⟨k, rfl, h4 _ S1 _ H1 q1 e1 s1 (.bl _)⟩
    | _ => exact q1.elim, h5⟩
def mIf (t : MT) (ma mb : ME) : ME := fun σ S Q E => t σ S (fun c S1 => if c = true then ma σ S1 Q E else mb σ S1 Q E) E
/-- any value's truth -/
def truD (S : Sto) : D → Option Bool
  | .non => some false
  | .bl b => some b
  | .int i => some (i != 0)
  | .str y => if y.length ≤ sizeLine then some ((y.length : Int) != 0) else none
  | .tup ds => some (!ds.isEmpty)
  | .lst ds => some (!ds.isEmpty)
  | .scr ds => some (!ds.isEmpty)
  | .ref p => match S p with
    | some (.lst ds) => some (!ds.isEmpty)
    | some (.dK kvs) => some (!kvs.isEmpty)
    | _ => none
def mTru (m : ME) : MT := fun σ S Q E => m σ S (fun d S1 => match truD S1 d with
  | some k => Q k S1
  | none => False) E
theorem emp_rds {K : PySem.W.Frag} {H : Hp} {S : Sto} {vs : List V} {ds : List D} (r : RDs K H S vs ds) : (!vs.isEmpty) = !ds.isEmpty := by cases r <;> rfl
theorem emp_rks {κ : Type} {K : PySem.W.Frag} {H : Hp} {S : Sto} {vs : List (κ × V)} {ds : List (κ × D)} (r : RKs K H S vs ds) : (!vs.isEmpty) = !ds.isEmpty := by cases r <;> rfl
theorem truD_ok {K : PySem.W.Frag} {H : Hp} {S : Sto} {v : V} {d : D} {k : Bool} (s : RSto K H S) (r : RD K H S v d) (h : truD S d = some k) : TruV K v H k := by
  cases r with
  | non => cases h; rfl
  | bl b => cases h; rfl
  | int i => cases h; rfl
  | str x =>
    simp only [truD] at h
    split at h
    · next z => cases h; exact ⟨z, rfl⟩
    · cases h
  | tup h1 n r => cases h; exact .inr (.inl ⟨_, .inl h1, (emp_rds r).symm⟩)
  | lst h1 n r => cases h; exact .inl ⟨_, .inl (.inl h1), (emp_rds r).symm⟩
  | scr h1 n r => cases h; exact .inl ⟨_, .inl (.inr ⟨_, h1⟩), (emp_rds r).symm⟩
  | ktup h1 h2 h3 h4 h5 r => cases h; exact .inr (.inl ⟨_, .inr ⟨_, _, _, h1, h2, h3, h4, h5⟩, (emp_rds r).symm⟩)
  | klst h1 h2 h3 h4 h5 h6 r => cases h; exact .inl ⟨_, .inr ⟨_, _, _, h1, h2, h3, h4, h5, h6⟩, (emp_rds r).symm⟩
  | ref p =>
    simp only [truD] at h
    cases e : S p with
    | none => rw [e] at h; cases h
    | some o =>
      rw [e] at h
      have q := s p o e
      cases o with
      | lst ds => obtain ⟨vs, e1, r⟩ := q; cases h; exact .inl ⟨_, .inl (.inl e1), (emp_rds r).symm⟩
      | dK kvs => obtain ⟨vs, e1, r⟩ := q; cases h; exact .inr (.inr ⟨_, e1, (emp_rks r).symm⟩)
      | ins C fs => cases h
      | exc C fs => cases h
      | dT kvs => cases h
      | dS kvs => cases h
theorem ttru (ha : PE X a (upE X.K W ma)) (he : ∀ whole, isTrue a X.env whole = (do let v ← whole; standAt a.pos; holding [v] (truthy v)) := by intro _; rfl) : PT X a (upT X.K W (mTru ma)) :=
  (pt_truth ha he).to fun σ H Q ⟨m, S, Qm, Em, h1, h2, h3, h4, h5⟩ => ⟨m, S, _, Em, h1, h2, h3, fun d S1 v H1 q1 e1 s1 r1 => by
    dsimp only at q1
    cases e : truD S1 d with
    | none => rw [e] at q1; exact q1.elim
    | some k => rw [e] at q1; exact ⟨k, truD_ok s1 r1 e, h4 k S1 H1 q1 e1 s1⟩, h5⟩
/-! ### lists of arguments, displays, calls -/
variable {es : List Expr} {mas : MA}
def mNil : MA := fun _ S Q _ => Q [] S
def mCons (m : ME) (r : MA) : MA := fun σ S Q E => m σ S (fun d S1 => r σ S1 (fun ds S2 => Q (d :: ds) S2) E) E
theorem anil : PA X [] (upA X.K W mNil) := pa_nil.to fun σ H Q ⟨m, S, Qm, Em, h1, h2, h3, h4, h5⟩ => h4 [] S [] H h3 Ext.refl h2 .nil
theorem acons (ha : PE X e (upE X.K W m)) (hr : PA X es (upA X.K W mas)) (hs : starEach (e :: es) X.env = (false, eval e X.env) :: starEach es X.env := by rfl) : PA X (e :: es) (upA X.K W (mCons m mas)) :=
  (pa_cons ha hr hs).to fun σ H Q ⟨m, S, Qm, Em, h1, h2, h3, h4, h5⟩ => ⟨m, S, _, Em, h1, h2, h3, fun d S1 v H1 q1 e1 s1 r1 => ⟨m, S1, _, Em, h1.ext e1, s1, q1, fun ds S2 vs H2 q2 e2 s2 r2 =>
    h4 (d :: ds) S2 (v :: vs) H2 q2 (e1.trans e2) s2 (.cons (r1.ext e2) r2), h5.ext e1⟩, h5⟩
/-- (a, b, ..) -/
def mTup (t : MA) : ME := fun σ S Q E => t σ S (fun ds S1 => ds.length ≤ sizeLine ∧ Q (.tup ds) S1) E
theorem etup {x1} (h : PA X es (upA X.K W mas)) : PE X (.Tuple es x1 pos) (upE X.K W (mTup mas)) :=
  (pe_tup h).to fun σ H Q ⟨m, S, Qm, Em, h1, h2, h3, h4, h5⟩ => ⟨m, S, _, Em, h1, h2, h3, fun ds S1 vs H1 q1 e1 s1 r1 => ⟨by rw [r1.length]; exact q1.1, fun p hp =>
    h4 _ S1 _ _ q1.2 (e1.trans (Ext.new s1 hp)) (s1.new hp) (.tup (.inl upd_same) (s1.fresh hp) (r1.ext (Ext.new s1 hp)))⟩, h5⟩
/-- [a, b, ..], a list that stays -/
def mLstF (t : MA) : ME := fun σ S Q E => t σ S (fun ds S1 => ds.length ≤ sizeLine ∧ Q (.lst ds) S1) E
theorem elstF (h : PA X es (upA X.K W mas)) : PE X (.List es pos) (upE X.K W (mLstF mas)) :=
  (pe_lst h).to fun σ H Q ⟨m, S, Qm, Em, h1, h2, h3, h4, h5⟩ => ⟨m, S, _, Em, h1, h2, h3, fun ds S1 vs H1 q1 e1 s1 r1 => ⟨by rw [r1.length]; exact q1.1, fun p hp =>
    h4 _ S1 _ _ q1.2 (e1.trans (Ext.new s1 hp)) (s1.new hp) (.lst upd_same (s1.fresh hp) (r1.ext (Ext.new s1 hp)))⟩, h5⟩
/-- [a, b, ..], a list of the store -/
def mLst (t : MA) : ME := fun σ S Q E => t σ S (fun ds S1 => ds.length ≤ sizeLine ∧ ∀ p, S1 p = none → Q (.ref p) (put S1 p (.lst ds))) E
theorem elst (h : PA X es (upA X.K W mas)) : PE X (.List es pos) (upE X.K W (mLst mas)) :=
  (pe_lst h).to fun σ H Q ⟨m, S, Qm, Em, h1, h2, h3, h4, h5⟩ => ⟨m, S, _, Em, h1, h2, h3, fun ds S1 vs H1 q1 e1 s1 r1 => ⟨by rw [r1.length]; exact q1.1, fun p hp =>
    h4 _ (put S1 p (.lst ds)) _ _ (q1.2 p (s1.fresh hp)) (e1.trans (Ext.newS s1 hp)) (s1.newS hp ⟨vs, upd_same, r1.ext (Ext.newS s1 hp)⟩) (.ref p)⟩, h5⟩
/-- what is known of a def of the module -/
structure Has (P : Program) (w : World) (K : PySem.W.Frag) (mg : Str → Option Value) (base : Heap) (x : Str) (ps : List Str) (k : Nat) (sp : MSp) : Prop where
  ex : ∃ f fd, mg x = some (.ref f) ∧ PySem.W.keepIn K (.ref f) = true ∧ Binds K fd ps [] ∧ FnOk P w K mg base (L2.CX P w) k f fd ps (upSp K sp)
theorem Has.mono {P : Program} {w : World} {K : PySem.W.Frag} {mg : Str → Option Value} {base : Heap} {x : Str} {ps : List Str} {j k : Nat} {sp : MSp} (h : Has P w K mg base x ps j sp) (l : j ≤ k) : Has P w K mg base x ps k sp :=
  let ⟨f, fd, a, b, c, d⟩ := h.ex
  ⟨f, fd, a, b, c, d.mono l⟩
/-- a promise that asks more -/
theorem Has.imp {P : Program} {w : World} {K : PySem.W.Frag} {mg : Str → Option Value} {base : Heap} {x : Str} {ps : List Str} {k : Nat} {sp sp' : MSp} (h : Has P w K mg base x ps k sp) (i : ∀ ds S Q E, sp' ds S Q E → sp ds S Q E) : Has P w K mg base x ps k sp' :=
  let ⟨f, fd, a, b, c, d⟩ := h.ex
  ⟨f, fd, a, b, c, d.imp fun vs H Q E ⟨ds, S, Qm, Em, h1, h2, h3, h4⟩ => ⟨ds, S, Qm, Em, h1, h2, i _ _ _ _ h3, h4⟩⟩
def mCall (sp : MSp) (t : MA) : ME := fun σ S Q E => t σ S (fun ds S1 => sp ds S1 Q E) E
theorem ecall {k : Nat} {x : Str} {ps : List Str} {sp : MSp} {p : Pos} (F : Has X.prog X.w X.K X.mg X.base x ps k sp) (hr : Room k X.A) (tk : Takes X W) (ha : PA X (e :: es) (upA X.K W mas)) (hg : Gl X x := by rfl)
    (hdb : (x == ("__debug__" : Str)) = false := by decide) (he : starEach (e :: es) X.env = (false, eval e X.env) :: starEach es X.env := by rfl) (hpl : (backTo pos (starEach es X.env)).any (·.1) = false := by rfl) :
    PE X (.Call (.Name x p) (e :: es) [] pos) (upE X.K W (mCall sp mas)) := by
  obtain ⟨f, fd, hm, hk, hb, G⟩ := F.ex
  refine (pe_callS (E := WE W) G hr hg hm hk hb (fun σ => passAt tk σ) ha hdb he hpl).to fun σ H Q ⟨m, S, Qm, Em, h1, h2, h3, h4, h5⟩ => ?_
  exact ⟨m, S, _, Em, h1, h2, h3, fun ds S1 vs H1 q1 e1 s1 r1 => ⟨ds, S1, Qm, Em, r1, s1, q1, h4.ext e1, h5.ext e1⟩, h5⟩
/-! ### calls of built-ins -/
def CaL (K : PySem.W.Frag) (r : List V → Hp → VK → Prop) (rm : List D → Sto → MQ → Prop) : Prop := ∀ (H : Hp) (S : Sto) (xs : List V) (ds : List D) (Qm : MQ) (Q : VK), RSto K H S → RDs K H S xs ds → rm ds S Qm → Ref K H S Qm Q → r xs H Q
def mBlt (rm : List D → Sto → MQ → Prop) (t : MA) : ME := fun σ S Q E => t σ S (fun ds S1 => rm ds S1 Q) E
theorem eblt {id : String} {r : List V → Hp → VK → Prop} {rm : List D → Sto → MQ → Prop} {x : Str} {p : Pos} (hc : CallR X (.builtin id) r) (hl : CaL X.K r rm) (hm : X.mg x = none) (ha : PA X (e :: es) (upA X.K W mas)) (hv : bootBuiltins x = some (.builtin id) := by decide +kernel) (hg : Gl X x := by rfl)
    (hn : x ≠ "__name__" := by decide) (hdb : (x == ("__debug__" : Str)) = false := by decide)
    (he : starEach (e :: es) X.env = (false, eval e X.env) :: starEach es X.env := by rfl) (hpl : (backTo pos (starEach es X.env)).any (·.1) = false := by rfl) : PE X (.Call (.Name x p) (e :: es) [] pos) (upE X.K W (mBlt rm mas)) :=
  (pe_callB hc hg hm hv ha hn hdb he hpl).to fun σ H Q ⟨m, S, Qm, Em, h1, h2, h3, h4, h5⟩ => ⟨m, S, _, Em, h1, h2, h3, fun ds S1 xs H1 q1 e1 s1 r1 => hl H1 S1 xs ds Qm Q s1 r1 q1 (h4.ext e1), h5⟩
theorem etyp {T : String} {r : List V → Hp → VK → Prop} {rm : List D → Sto → MQ → Prop} {x : Str} {p : Pos} (hc : CallR X (.type T) r) (hl : CaL X.K r rm) (hm : X.mg x = none) (ha : PA X (e :: es) (upA X.K W mas)) (hv : bootBuiltins x = some (.type T) := by decide +kernel) (hg : Gl X x := by rfl)
    (hn : x ≠ "__name__" := by decide) (hdb : (x == ("__debug__" : Str)) = false := by decide)
    (he : starEach (e :: es) X.env = (false, eval e X.env) :: starEach es X.env := by rfl) (hpl : (backTo pos (starEach es X.env)).any (·.1) = false := by rfl) : PE X (.Call (.Name x p) (e :: es) [] pos) (upE X.K W (mBlt rm mas)) :=
  (pe_callTy hc hg hm hv ha hn hdb he hpl).to fun σ H Q ⟨m, S, Qm, Em, h1, h2, h3, h4, h5⟩ => ⟨m, S, _, Em, h1, h2, h3, fun ds S1 xs H1 q1 e1 s1 r1 => hl H1 S1 xs ds Qm Q s1 r1 q1 (h4.ext e1), h5⟩
theorem rds1 {K : PySem.W.Frag} {H : Hp} {S : Sto} {xs : List V} {d : D} (r : RDs K H S xs [d]) : ∃ v, xs = [v] ∧ RD K H S v d := by
  cases r with | cons h r => cases r; exact ⟨_, rfl, h⟩
theorem rds2 {K : PySem.W.Frag} {H : Hp} {S : Sto} {xs : List V} {d e : D} (r : RDs K H S xs [d, e]) : ∃ v w, xs = [v, w] ∧ RD K H S v d ∧ RD K H S w e := by
  cases r with | cons h r => obtain ⟨w, rfl, h2⟩ := rds1 r; exact ⟨_, _, rfl, h, h2⟩
/-- len -/
def lenD (S : Sto) : D → Option Nat
  | .tup ds => some ds.length
  | .str x => if x.length ≤ sizeLine then some x.length else none
  | d => (lstOf S d).map List.length
def bLen : List D → Sto → MQ → Prop := fun ds S Q => match ds with
  | [d] => match lenD S d with
    | some n => Q (.int n) S
    | none => False
  | _ => False
theorem lenD_ok {K : PySem.W.Frag} {H : Hp} {S : Sto} {v : V} {d : D} {n : Nat} (s : RSto K H S) (r : RD K H S v d) (h : lenD S d = some n) : LenV K v H n := by
  unfold lenD at h
  split at h
  · obtain ⟨a, vs, rfl, h1, r1⟩ := r.tupSq
    cases h
    exact .inr ⟨vs, h1, r1.length.symm⟩
  · next x =>
    cases r
    split at h
    · next z => cases h; exact ⟨z, rfl⟩
    · cases h
  · cases e : lstOf S d with
    | none => rw [e] at h; cases h
    | some ds =>
      rw [e] at h; cases h
      obtain ⟨a, vs, rfl, h1, r1⟩ := lst_sq s r e
      exact .inl ⟨vs, h1, r1.length.symm⟩
theorem cl_len : CaL X.K (fun xs H Q => ∃ x n, xs = [x] ∧ LenV X.K x H n ∧ Q (.int n) H) bLen := fun H S xs ds Qm Q s r h k => by
  unfold bLen at h
  split at h
  · next d =>
    obtain ⟨v, rfl, r1⟩ := rds1 r
    cases e : lenD S d with
    | none => rw [e] at h; exact h.elim
    | some n => rw [e] at h; exact ⟨v, n, rfl, lenD_ok s r1 e, k _ S _ H h Ext.refl s (.int _)⟩
  · exact h.elim
def bAbs : List D → Sto → MQ → Prop := fun ds S Q => match ds with
  | [.int i] => Q (.int (if i < 0 then -i else i)) S
  | _ => False
theorem cl_abs : CaL X.K (fun xs H Q => ∃ i, xs = [.int i] ∧ Q (.int (if i < 0 then -i else i)) H) bAbs := fun H S xs ds Qm Q s r h k => by
  unfold bAbs at h
  split at h
  · obtain ⟨v, rfl, r1⟩ := rds1 r
    cases r1
    exact ⟨_, rfl, k _ S _ H h Ext.refl s (.int _)⟩
  · exact h.elim
def bMax2 : List D → Sto → MQ → Prop := fun ds S Q => match ds with
  | [.int i, .int j] => Q (.int (if j > i then j else i)) S
  | _ => False
def bMin2 : List D → Sto → MQ → Prop := fun ds S Q => match ds with
  | [.int i, .int j] => Q (.int (if j < i then j else i)) S
  | _ => False
def bInt : List D → Sto → MQ → Prop := fun ds S Q => match ds with
  | [.int i] => Q (.int i) S
  | [.bl k] => Q (.int (if k then 1 else 0)) S
  | _ => False
theorem cl_int : CaL X.K (fun xs H Q => (∃ i, xs = [.int i] ∧ Q (.int i) H) ∨ ∃ k, xs = [.bl k] ∧ Q (.int (if k then 1 else 0)) H) bInt := fun H S xs ds Qm Q s r h k => by
  unfold bInt at h
  split at h
  · obtain ⟨v, rfl, r1⟩ := rds1 r
    cases r1
    exact .inl ⟨_, rfl, k _ S _ H h Ext.refl s (.int _)⟩
  · obtain ⟨v, rfl, r1⟩ := rds1 r
    cases r1
    exact .inr ⟨_, rfl, k _ S _ H h Ext.refl s (.int _)⟩
  · exact h.elim
/-- tuple(a list or a tuple); list(..): a list that stays -/
def bTuple : List D → Sto → MQ → Prop := fun ds S Q => match ds with
  | [.tup xs] => Q (.tup xs) S
  | [d] => match lstOf S d with
    | some xs => Q (.tup xs) S
    | none => False
  | _ => False
theorem cl_tuple : CaL X.K (fun xs H Q => ∃ p ys, xs = [.ref p] ∧ ((SqL X.K H p ys ∧ ∀ l, H l = none → Q (.ref l) (upd H l (.tup ys))) ∨ (SqT X.K H p ys ∧ Q (.ref p) H))) bTuple := fun H S xs ds Qm Q s r h k => by
  unfold bTuple at h
  split at h
  · obtain ⟨v, rfl, r1⟩ := rds1 r
    obtain ⟨a, vs, rfl, h1, r2⟩ := r1.tupSq
    exact ⟨a, vs, rfl, .inr ⟨h1, k _ S _ H h Ext.refl s r1⟩⟩
  · next d hd =>
    obtain ⟨v, rfl, r1⟩ := rds1 r
    cases e : lstOf S d with
    | none => rw [e] at h; exact h.elim
    | some ys =>
      rw [e] at h
      obtain ⟨a, vs, rfl, h1, r2⟩ := lst_sq s r1 e
      exact ⟨a, vs, rfl, .inl ⟨h1, fun l hl => k _ S _ _ h (Ext.new s hl) (s.new hl) (.tup (.inl upd_same) (s.fresh hl) (r2.ext (Ext.new s hl)))⟩⟩
  · exact h.elim
def seqOf (S : Sto) : D → Option (List D)
  | .tup ds => some ds
  | d => lstOf S d
theorem seq_sq {K : PySem.W.Frag} {H : Hp} {S : Sto} (s : RSto K H S) {v : V} {d : D} {ds : List D} (r : RD K H S v d) (h : seqOf S d = some ds) : ∃ a vs, v = .ref a ∧ (SqL K H a vs ∨ SqT K H a vs) ∧ RDs K H S vs ds := by
  unfold seqOf at h
  split at h
  · cases h
    obtain ⟨a, vs, rfl, h1, r2⟩ := r.tupSq
    exact ⟨a, vs, rfl, .inr h1, r2⟩
  · obtain ⟨a, vs, rfl, h1, r2⟩ := lst_sq s r h
    exact ⟨a, vs, rfl, .inl h1, r2⟩
def bListF : List D → Sto → MQ → Prop := fun ds S Q => match ds with
  | [d] => match seqOf S d with
    | some xs => Q (.lst xs) S
    | none => False
  | _ => False
theorem cl_listF : CaL X.K (fun xs H Q => ∃ p ys, xs = [.ref p] ∧ (SqL X.K H p ys ∨ SqT X.K H p ys) ∧ ∀ l, H l = none → Q (.ref l) (upd H l (.lst ys))) bListF := fun H S xs ds Qm Q s r h k => by
  unfold bListF at h
  split at h
  · next d =>
    obtain ⟨v, rfl, r1⟩ := rds1 r
    cases e : seqOf S d with
    | none => rw [e] at h; exact h.elim
    | some ys =>
      rw [e] at h
      obtain ⟨a, vs, rfl, h1, r2⟩ := seq_sq s r1 e
      exact ⟨a, vs, rfl, h1, fun l hl => k _ S _ _ h (Ext.new s hl) (s.new hl) (.lst upd_same (s.fresh hl) (r2.ext (Ext.new s hl)))⟩
  · exact h.elim
def bList : List D → Sto → MQ → Prop := fun ds S Q => match ds with
  | [d] => match seqOf S d with
    | some xs => ∀ p, S p = none → Q (.ref p) (put S p (.lst xs))
    | none => False
  | _ => False
/-- all, any of a list of truths -/
def blsOf : List D → Option (List Bool)
  | [] => some []
  | .bl b :: r => (blsOf r).map (b :: ·)
  | _ => none
theorem blsOf_eq : ∀ {ds : List D} {bs : List Bool}, blsOf ds = some bs → ds = bs.map .bl
  | [], bs, h => by cases h; rfl
  | .bl b :: r, bs, h => by
    cases e : blsOf r with
    | none => rw [show blsOf (.bl b :: r) = (blsOf r).map (b :: ·) from rfl, e] at h; cases h
    | some cs => rw [show blsOf (.bl b :: r) = (blsOf r).map (b :: ·) from rfl, e] at h; cases h; rw [blsOf_eq e]; rfl
  | .non :: _, _, h => by cases h
  | .int _ :: _, _, h => by cases h
  | .str _ :: _, _, h => by cases h
  | .tup _ :: _, _, h => by cases h
  | .lst _ :: _, _, h => by cases h
  | .scr _ :: _, _, h => by cases h
  | .ref _ :: _, _, h => by cases h
theorem blsOf_map (bs : List Bool) : blsOf (bs.map .bl) = some bs := by
  induction bs with
  | nil => rfl
  | cons b r ih => show (blsOf (r.map .bl)).map (b :: ·) = _; rw [ih]; rfl
def bAll : List D → Sto → MQ → Prop := fun ds S Q => match ds with
  | [d] => match (lstOf S d).bind blsOf with
    | some bs => Q (.bl (bs.all id)) S
    | none => False
  | _ => False
/-! ### subscripts, slices -/
def ixL {α : Type} (xs : List α) (i : Int) : Option α := match i with
  | .ofNat n => xs[n]?
  | .negSucc n => if n < xs.length then xs[xs.length - (n + 1)]? else none
theorem ixL_at {α : Type} {xs : List α} {i : Int} {v : α} (h : ixL xs i = some v) : atI xs i = some v := by
  unfold ixL at h
  split at h
  · exact atI_nat h
  · next n =>
    split at h
    · next hl =>
      unfold atI ixN
      rw [if_neg (by omega), if_pos (by omega)]
      have e : (Int.negSucc n + (xs.length : Int)).toNat = xs.length - (n + 1) := by omega
      rw [Option.bind_some, e]; exact h
    · cases h
def rIxM : R2m := fun d e S Q => match e with
  | .int i => match seqOf S d with
    | some xs => match ixL xs i with
      | some x => Q x S
      | none => False
    | none => False
  | _ => False
theorem atI_rds {K : PySem.W.Frag} {H : Hp} {S : Sto} {vs : List V} {ds : List D} {i : Int} {d : D} (r : RDs K H S vs ds) (h : atI ds i = some d) : ∃ v, atI vs i = some v ∧ RD K H S v d := by
  unfold atI at h ⊢
  rw [r.length]
  cases e : ixN ds.length i with
  | none => rw [e] at h; cases h
  | some j => rw [e, Option.bind_some] at h; rw [Option.bind_some]; exact r.get h
theorem ol_ix : OpL X.K (fun x y H Q => rIxL X.K x y H Q ∨ rIxT X.K x y H Q) rIxM := fun H S x y d e Qm Q s rx ry h k => by
  unfold rIxM at h
  split at h
  · next i =>
    cases ry
    cases e1 : seqOf S d with
    | none => rw [e1] at h; exact h.elim
    | some xs =>
      rw [e1] at h
      cases e2 : ixL xs i with
      | none => simp only [e2] at h
      | some z =>
        simp only [e2] at h
        obtain ⟨a, vs, rfl, h1, r1⟩ := seq_sq s rx e1
        obtain ⟨v, e3, r2⟩ := atI_rds r1 (ixL_at e2)
        rcases h1 with h1 | h1
        · exact .inl ⟨a, vs, i, v, rfl, rfl, h1, e3, k _ S _ H h Ext.refl s r2⟩
        · exact .inr ⟨a, vs, i, v, rfl, rfl, h1, e3, k _ S _ H h Ext.refl s r2⟩
  · exact h.elim
theorem eix (ha : PE X a (upE X.K W ma)) (hb : PE X b (upE X.K W mb)) (hs : PlainIx b := by exact fun _ _ => rfl) : PE X (.Subscript a b pos) (upE X.K W (mOp rIxM ma mb)) := (pe_ix (ix_list.or ix_tup) ha hb hs).to (op_to ol_ix)
end
end ML
set_option maxRecDepth 100000
namespace ML
open PySem PySem.Spec L2
open PyProof.Rows hiding St
/-! ### targets -/
abbrev MG := D → MSt → Sto → (MSt → Sto → Prop) → MXQ → Prop
abbrev MGs := List D → MSt → Sto → (MSt → Sto → Prop) → MXQ → Prop
section
variable (K : PySem.W.Frag) (W : WX)
def upG (g : MG) : TG := fun v σ H Q => ∃ d mσ S Qm Em, RD K H S v d ∧ RSt K H S σ mσ ∧ RSto K H S ∧ g d mσ S Qm Em ∧ RefN K H S Qm Q ∧ RefX K H S Em (fun c d H' => W c d σ H')
def upGs (g : MGs) : TGs := fun vs σ H Q => ∃ ds mσ S Qm Em, RDs K H S vs ds ∧ RSt K H S σ mσ ∧ RSto K H S ∧ g ds mσ S Qm Em ∧ RefN K H S Qm Q ∧ RefX K H S Em (fun c d H' => W c d σ H')
end
section
variable {X : Cx} {W : WX} {a b c e tg : Expr} {ma mb mc m : ME} {pos : Pos} {g : MG} {gs : MGs}
theorem _root_.L2.PG.to {t t' : TG} (h : PG X tg t) (i : ∀ v σ H Q, t' v σ H Q → t v σ H Q) : PG X tg t' := ⟨fun pins s σ H v u Q I r q => h.run pins s σ H v u Q I r (i v σ H Q q)⟩
def gNm (i : Nat) : MG := fun d σ S Q _ => Q (σ.set i (some d)) S
theorem gnm {i : Nat} {x : Str} (hN : X.N.Nodup) (hi : X.N[i]? = some x := by rfl) (hx : Loc X.env.scope x := by first | exact Or.inl rfl | exact Or.inr rfl) (hf : X.fn x = true ∨ X.env.scope.names.lookup x = some .local := by first | exact .inl rfl | exact .inr rfl | assumption) :
    PG X (.Name x pos) (upG X.K W (gNm i)) := L2.PG.to (pg_name hN hi hx hf) fun v σ H Q ⟨d, m, S, Qm, Em, r, h1, h2, h3, h4, _⟩ => h4 _ S _ H h3 Ext.refl h2 (h1.set r i)
def gNl : MGs := fun ds σ S Q _ => match ds with
  | [] => Q σ S
  | _ => False
def gCn (g : MG) (gs : MGs) : MGs := fun ds σ S Q E => match ds with
  | d :: r => g d σ S (fun σ' S' => gs r σ' S' Q E) E
  | [] => False
theorem gnl : PGs X [] (upGs X.K W gNl) := ⟨fun pins s σ H vs us Q I r ⟨ds, m, S, Qm, Em, r1, h1, h2, h3, h4, _⟩ => by
  cases ds with
  | nil => cases r1; exact pgs_nil.run pins s σ H [] us Q I r ⟨rfl, h4 m S σ H h3 Ext.refl h2 h1⟩
  | cons _ _ => exact h3.elim⟩
theorem gcn {es : List Expr} (h1 : PG X e (upG X.K W g)) (h2 : PGs X es (upGs X.K W gs)) (hs : (assignEach (e :: es) X.env).map (·.2) = assign e X.env :: (assignEach es X.env).map (·.2) := by rfl)
    (hx : ∀ d σ S Q E E', g d σ S Q E → g d σ S Q E' := by intro _ _ _ _ _ _ h; exact h) (hx' : ∀ d σ S Q E E', gs d σ S Q E → gs d σ S Q E' := by intro _ _ _ _ _ _ h; exact h) : PGs X (e :: es) (upGs X.K W (gCn g gs)) :=
  ⟨fun pins s σ H vs us Q I r ⟨ds, m, S, Qm, Em, r1, k1, k2, k3, k4, k5⟩ => (pgs_cons h1 h2 hs).run pins s σ H vs us Q I r (by
    cases ds with
    | nil => exact k3.elim
    | cons d ds =>
      cases r1 with
      | cons rd rds =>
        refine ⟨_, _, rfl, d, m, S, _, _, rd, k1, k2, hx _ _ _ _ _ (fun _ _ => False) k3, fun m' S' σ' H' q e s' st => ?_, fun x S' c d H' z => z.elim⟩
        exact ⟨ds, m', S', Qm, fun _ _ => False, rds.ext e, st, s', hx' _ _ _ _ _ _ q, k4.ext e, fun x S' c d H' z => z.elim⟩)⟩
def gTp (n : Nat) (gs : MGs) : MG := fun d σ S Q E => match d with
  | .tup ds => ds.length = n ∧ gs ds σ S Q E
  | _ => False
theorem gtp {es : List Expr} {k n : Nat} (hc : X.calm = true) (h : PGs X es (upGs X.K W gs)) (hn : (assignEach es X.env).length = n := by rfl) (hst : (assignEach es X.env).findIdx? (·.1) = none := by rfl) : PG X (.Tuple es k pos) (upG X.K W (gTp n gs)) :=
  L2.PG.to (pg_tup hc h hn hst) fun v σ H Q ⟨d, m, S, Qm, Em, r, h1, h2, h3, h4, h5⟩ => by
    cases d with
    | tup ds =>
      obtain ⟨a, vs, rfl, hq, rs⟩ := r.tupSq
      exact ⟨a, vs, rfl, hq, rs.length.trans h3.1, ds, m, S, Qm, Em, rs, h1, h2, h3.2, h4, h5⟩
    | _ => exact h3.elim
/-- a, b = a list -/
def gLs (n : Nat) (gs : MGs) : MG := fun d σ S Q E => match lstOf S d with
  | some ds => ds.length = n ∧ gs ds σ S Q E
  | none => False
/-- xs[i] = v, a list of the store -/
def setAt {α : Type} (xs : List α) (i : Int) (v : α) : Option (List α) := match i with
  | .ofNat n => if n < xs.length then some (xs.set n v) else none
  | .negSucc n => if n < xs.length then some (xs.set (xs.length - (n + 1)) v) else none
def rSetM (o i v : D) (S : Sto) (Q : Sto → Prop) : Prop := match o, i with
  | .ref p, .int k => match S p with
    | some (.lst xs) => match setAt xs k v with
      | some ys => Q (put S p (.lst ys))
      | none => False
    | _ => False
  | _, _ => False
theorem setAt_ix {α β : Type} {xs ys : List α} {zs : List β} {i : Int} {v : α} (hl : zs.length = xs.length) (h : setAt xs i v = some ys) : ∃ j, ixN zs.length i = some j ∧ ys = xs.set j v := by
  unfold setAt at h
  rw [hl]
  split at h
  · next n =>
    split at h
    · next hn =>
      cases h
      refine ⟨n, ?_, rfl⟩
      unfold ixN
      rw [if_pos (by show (0 : Int) ≤ (n : Int); omega), if_pos (by show (n : Int) < _; omega)]
      rfl
    · cases h
  · next n =>
    split at h
    · next hn =>
      cases h
      refine ⟨xs.length - (n + 1), ?_, rfl⟩
      unfold ixN
      rw [if_neg (by omega), if_pos (by omega)]
      congr 1; omega
    · cases h
def gSb (mo mi : ME) : MG := fun v σ S Q E => mo σ S (fun o S1 => mi σ S1 (fun i S2 => rSetM o i v S2 (fun S3 => Q σ S3)) E) E
theorem gsb {o i : Expr} {mo mi : ME} (ho : PE X o (upE X.K W mo)) (hi : PE X i (upE X.K W mi)) (ha : ∀ v, assign (.Subscript o i pos) X.env v = (do
      let ov ← holding [v] (eval o X.env)
      let iv ← holding [v, ov] (eval i X.env)
      standAt pos
      holding [v, ov, iv] (setItem ov iv v)
      release [v, ov, iv] []) := by intro _; rfl) : PG X (.Subscript o i pos) (upG X.K W (gSb mo mi)) :=
  L2.PG.to (pg_sub ho hi set_list ha) fun v σ H Q ⟨d, m, S, Qm, Em, r, h1, h2, h3, h4, h5⟩ => by
    refine ⟨m, S, _, Em, h1, h2, h3, fun o S1 ov H1 q1 e1 s1 r1 => ⟨m, S1, _, Em, h1.ext e1, s1, q1, fun i S2 iv H2 q2 e2 s2 r2 => ?_, h5.ext e1⟩, h5⟩
    have r1' := r1.ext e2
    have rv := r.ext (e1.trans e2)
    replace q2 : rSetM o i d S2 (fun S3 => Qm m S3) := q2
    unfold rSetM at q2
    split at q2
    · next p k =>
      cases e : S2 p with
      | none => rw [e] at q2; exact q2.elim
      | some mo =>
        rw [e] at q2
        cases mo with
        | lst xs =>
          dsimp only at q2
          cases e3 : setAt xs k d with
          | none => rw [e3] at q2; exact q2.elim
          | some ys =>
            rw [e3] at q2
            cases r1'; cases r2
            obtain ⟨vs, hv, rs⟩ := s2 p _ e
            obtain ⟨j, hj, ey⟩ := setAt_ix rs.length e3
            subst ey
            have ec : Ext H2 S2 (upd H2 p (.lst (vs.set j v))) (put S2 p (.lst (xs.set j d))) := Ext.chg e
            exact ⟨p, vs, k, j, rfl, rfl, hv, hj, h4 m _ σ _ q2 (e1.trans (e2.trans ec)) (s2.chg e ⟨_, upd_same, (rs.set rv j).ext ec⟩) (h1.ext (e1.trans (e2.trans ec)))⟩
        | _ => exact q2.elim
    · exact q2.elim
/-! ### statements -/
variable {st : Stmt} {rest : List Stmt} {mt mu : MS}
def xAt (D : MEnds) (σ : MSt) : MXQ := fun x S => D.ex x σ S
theorem xAt_ref {K : PySem.W.Frag} {H : Hp} {S : Sto} {σ : L2.St} {m : MSt} {Dm : MEnds} {W : WX} (h : RSt K H S σ m) (w : RefW K H S Dm.ex W) : RefX K H S (xAt Dm m) (fun c d H' => W c d σ H') :=
  fun x S' c d H' q e s r => w x m S' c d σ H' q e s (h.ext e) r
def mNext : MS := fun D σ S => D.nx σ S
def mSeq (t u : MS) : MS := fun D σ S => t { D with nx := u D } σ S
theorem snil : PSs X [] (upS X.K W mNext) := L2.PSs.to pss_nil fun D σ H ⟨m, S, Dm, h1, h2, h3, h4⟩ => h4.nx m S σ H h3 Ext.refl h2 h1
theorem scons (h1 : PS X st (upS X.K W mt)) (h2 : PSs X rest (upS X.K W mu)) : PSs X (st :: rest) (upS X.K W (mSeq mt mu)) := L2.PSs.to (pss_cons h1 h2) fun D σ H ⟨m, S, Dm, k1, k2, k3, k4⟩ =>
  ⟨m, S, { Dm with nx := mu Dm }, k1, k2, k3, ⟨fun m' S' σ' H' q e s r => ⟨m', S', Dm, r, s, q, k4.ext e⟩, k4.rt, k4.bk, k4.ct, k4.ex⟩⟩
theorem sone (h1 : PS X st (upS X.K W mt)) : PSs X [st] (upS X.K W mt) := pss_one h1
def mBreak : MS := fun D σ S => D.bk σ S
def mCont : MS := fun D σ S => D.ct σ S
def mExpr (m : ME) : MS := fun D σ S => m σ S (fun _ S1 => D.nx σ S1) (xAt D σ)
theorem sexpr (he : PE X e (upE X.K W m)) (hs : swapsWith e none pos.line X.env = pure false := by rfl) : PS X (.Expr e pos) (upS X.K W (mExpr m)) := L2.PS.to (ps_expr he hs) fun D σ H ⟨m, S, Dm, h1, h2, h3, h4⟩ =>
  ⟨m, S, _, _, h1, h2, h3, fun d S' v H' q e s r => h4.nx m S' σ H' q e s (h1.ext e), xAt_ref h1 h4.ex⟩
def mRet (m : ME) : MS := fun D σ S => m σ S D.rt (xAt D σ)
theorem sret (he : PE X e (upE X.K W m)) : PS X (.Return (some e) pos) (upS X.K W (mRet m)) := L2.PS.to (ps_ret he) fun D σ H ⟨m, S, Dm, h1, h2, h3, h4⟩ => ⟨m, S, _, _, h1, h2, h3, h4.rt, xAt_ref h1 h4.ex⟩
def mRetN : MS := fun D _ S => D.rt .non S
def mIfS (c : MT) (t u : MS) : MS := fun D σ S => c σ S (fun b S1 => if b = true then t D σ S1 else u D σ S1) (xAt D σ)
theorem sif {tc : MT} {as bs : List Stmt} (hc : PT X c (upT X.K W tc)) (ha : PSs X as (upS X.K W mt)) (hb : PSs X bs (upS X.K W mu)) : PS X (.If c as bs pos) (upS X.K W (mIfS tc mt mu)) := L2.PS.to (ps_if hc ha hb) fun D σ H ⟨m, S, Dm, h1, h2, h3, h4⟩ =>
  ⟨m, S, _, _, h1, h2, h3, fun k S1 H1 q e s => by
    cases k with
    | true => rw [if_pos rfl]; exact ⟨m, S1, Dm, h1.ext e, s, by simpa using q, h4.ext e⟩
    | false => rw [if_neg Bool.false_ne_true]; exact ⟨m, S1, Dm, h1.ext e, s, by simpa using q, h4.ext e⟩, xAt_ref h1 h4.ex⟩
/-- never come to -/
def mNever : MS := fun _ _ _ => False
theorem snever : PS X st (upS X.K W mNever) := ⟨fun _ _ _ _ _ _ ⟨_, _, _, _, _, h, _⟩ => h.elim⟩
def mAsg (m : ME) (g : MG) : MS := fun D σ S => m σ S (fun d S1 => g d σ S1 D.nx (xAt D σ)) (xAt D σ)
theorem sasg (he : PE X e (upE X.K W m)) (hg : PG X tg (upG X.K W g)) (hs : swapsWithSole [tg] e pos.line X.env = pure false := by rfl) (hw : swappedStores [tg] e X.env = pure none := by rfl)
    (h1 : (assignEach [tg] X.env).map (·.2) = [assign tg X.env] := by rfl) : PS X (.Assign [tg] e pos) (upS X.K W (mAsg m g)) := L2.PS.to (ps_asg he hg hs hw h1) fun D σ H ⟨m, S, Dm, h1, h2, h3, h4⟩ =>
  ⟨m, S, _, _, h1, h2, h3, fun d S1 v H1 q e s r => ⟨d, m, S1, _, _, r, h1.ext e, s, q, h4.nx.ext e, (xAt_ref h1 h4.ex).ext e⟩, xAt_ref h1 h4.ex⟩
def mSet (i : Nat) (m : ME) : MS := fun D σ S => m σ S (fun d S1 => D.nx (σ.set i (some d)) S1) (xAt D σ)
theorem sset {i : Nat} {x : Str} {pos' : Pos} (hN : X.N.Nodup) (he : PE X e (upE X.K W m)) (hi : X.N[i]? = some x := by rfl) (hx : Loc X.env.scope x := by first | exact Or.inl rfl | exact Or.inr rfl) (hs : swapsWith e (some (.Name x pos')) pos.line X.env = pure false := by rfl)
    (hf : X.fn x = true ∨ X.env.scope.names.lookup x = some .local := by first | exact .inl rfl | exact .inr rfl | assumption) : PS X (.Assign [.Name x pos'] e pos) (upS X.K W (mSet i m)) := L2.PS.to (ps_set hN hi hx he hs hf) fun D σ H ⟨m, S, Dm, h1, h2, h3, h4⟩ =>
  ⟨m, S, _, _, h1, h2, h3, fun d S1 v H1 q e s r => h4.nx _ S1 _ H1 q e s ((h1.ext e).set r i), xAt_ref h1 h4.ex⟩
def mPar (i j : Nat) (t : MA) : MS := fun D σ S => t σ S (fun ds S1 => match ds with
  | [d, e] => D.nx ((σ.set i (some d)).set j (some e)) S1
  | _ => False) (xAt D σ)
theorem spar {i j : Nat} {x y : Str} {mas : MA} {px py pt : Pos} {kt k2 pt2} (hc : X.calm = true) (hN : X.N.Nodup) (ha : PA X [a, b] (upA X.K W mas)) (hi : X.N[i]? = some x := by rfl) (hj : X.N[j]? = some y := by rfl) (hij : i ≠ j := by decide)
    (hx : X.env.scope.names.lookup x = some .local := by rfl) (hy : X.env.scope.names.lookup y = some .local := by rfl)
    (hw : swappedStores [.Tuple [.Name x px, .Name y py] kt pt] (.Tuple [a, b] k2 pt2) X.env = pure (some [x, y]) := by rfl)
    (hs : swapsWithSole [.Tuple [.Name x px, .Name y py] kt pt] (.Tuple [a, b] k2 pt2) pos.line X.env = pure false := by rfl) :
    PS X (.Assign [.Tuple [.Name x px, .Name y py] kt pt] (.Tuple [a, b] k2 pt2) pos) (upS X.K W (mPar i j mas)) := L2.PS.to (ps_par hc hN hi hj hij hx hy ha hw hs) fun D σ H ⟨m, S, Dm, h1, h2, h3, h4⟩ =>
  ⟨m, S, _, _, h1, h2, h3, fun ds S1 vs H1 q e s r => by
    dsimp only at q
    split at q
    · obtain ⟨v, w, rfl, r1, r2⟩ := rds2 r
      exact ⟨v, w, rfl, h4.nx _ S1 _ H1 q e s (((h1.ext e).set r1 i).set r2 j)⟩
    · exact q.elim, xAt_ref h1 h4.ex⟩
/-! ### while -/
/-- I: what holds between the turns, with a measure -/
def mWhile (c : MT) (tb : MS) : MS := fun D σ S => ∃ I : Nat → MSt → Sto → Prop, (∃ n, I n σ S) ∧ ∀ n σ S, I n σ S →
  c σ S (fun b S1 => if b = true then tb { D with nx := fun σ' S' => ∃ m, m < n ∧ I m σ' S', ct := fun σ' S' => ∃ m, m < n ∧ I m σ' S', bk := D.nx } σ S1 else D.nx σ S1) (xAt D σ)
theorem swhile {tc : MT} {tb : MS} {body : List Stmt} (hp : PassesOwn (model X.prog X.w) X.A X.env X.xe) (hc : PT X c (upT X.K W tc)) (hb : PSs X body (upS X.K W tb)) : PS X (.While c body [] pos) (upS X.K W (mWhile tc tb)) :=
  L2.PS.to (ps_while hp hc hb) fun D σ H ⟨m, S, Dm, h1, h2, ⟨I, ⟨n0, i0⟩, turn⟩, h4⟩ => by
    refine ⟨fun n σ' H' => ∃ m' S', RSt X.K H' S' σ' m' ∧ RSto X.K H' S' ∧ Ext H S H' S' ∧ I n m' S', ⟨n0, m, S, h1, h2, Ext.refl, i0⟩, ?_⟩
    rintro n σ1 H1 ⟨m1, S1, k1, k2, k3, k4⟩
    have D4 := h4.ext k3
    refine ⟨m1, S1, _, _, k1, k2, turn n m1 S1 k4, fun k S2 H2 q e s => ?_, xAt_ref k1 D4.ex⟩
    cases k with
    | true =>
      have q' : tb { Dm with nx := fun σ' S' => ∃ m, m < n ∧ I m σ' S', ct := fun σ' S' => ∃ m, m < n ∧ I m σ' S', bk := Dm.nx } m1 S2 := by simpa using q
      rw [if_pos rfl]
      have N : RefN X.K H2 S2 (fun σ' S' => ∃ m, m < n ∧ I m σ' S') (fun σ' H' => ∃ m', m' < n ∧ ∃ m'' S', RSt X.K H' S' σ' m'' ∧ RSto X.K H' S' ∧ Ext H S H' S' ∧ I m' m'' S') :=
        fun m3 S3 σ3 H3 ⟨n3, l3, i3⟩ e3 s3 r3 => ⟨n3, l3, m3, S3, r3, s3, k3.trans (e.trans e3), i3⟩
      exact ⟨fun σ' H' => ∃ m', m' < n ∧ ∃ m'' S', RSt X.K H' S' σ' m'' ∧ RSto X.K H' S' ∧ Ext H S H' S' ∧ I m' m'' S', fun σ' H' z => z, m1, S2, _, k1.ext e, s, q', ⟨N, D4.rt.ext e, D4.nx.ext e, N, D4.ex.ext e⟩⟩
    | false =>
      have q' : Dm.nx m1 S2 := by simpa using q
      rw [if_neg Bool.false_ne_true]
      exact D4.nx m1 S2 σ1 H2 q' e s (k1.ext e)
/-! ### what a loop walks -/
abbrev MI := MSt → Sto → (List D → (Sto → Prop) → Sto → Prop) → MXQ → Prop
/-- J yields the items, as long as G holds of the store -/
structure ItOk (K : PySem.W.Frag) (H0 : Hp) (S0 : Sto) (J : It) (items : List D) (G : Sto → Prop) : Prop where
  go : ∀ (i : Nat) (H : Hp) (S : Sto), Ext H0 S0 H S → RSto K H S → G S → i < items.length → J.go i H
  yld : ∀ (i : Nat) (H : Hp) (S : Sto) (v : V) (H' : Hp) (d : D), Ext H0 S0 H S → RSto K H S → G S → items[i]? = some d → J.yld i H v H' → Ext H S H' S ∧ RSto K H' S ∧ RD K H' S v d
  stop : ∀ (i : Nat) (H : Hp) (S : Sto), Ext H0 S0 H S → RSto K H S → G S → items.length ≤ i → J.stop i H
def RefI (K : PySem.W.Frag) (H : Hp) (S : Sto) (Rm : List D → (Sto → Prop) → Sto → Prop) (R : It → Hp → Prop) : Prop := ∀ items G S' J H', Rm items G S' → Ext H S H' S' → RSto K H' S' → ItOk K H' S' J items G → R J H'
theorem RefI.ext {K : PySem.W.Frag} {H H' : Hp} {S S' : Sto} {Rm : List D → (Sto → Prop) → Sto → Prop} {R : It → Hp → Prop} (r : RefI K H S Rm R) (e : Ext H S H' S') : RefI K H' S' Rm R := fun items G S1 J H1 q e1 s k => r items G S1 J H1 q (e.trans e1) s k
def upI (K : PySem.W.Frag) (W : WX) (mi : MI) : TI := fun σ H R => ∃ mσ S Rm Em, RSt K H S σ mσ ∧ RSto K H S ∧ mi mσ S Rm Em ∧ RefI K H S Rm R ∧ RefX K H S Em (fun c d H' => W c d σ H')
theorem _root_.L2.PI.to {iter : Expr} {t t' : TI} (h : PI X tg iter t) (i : ∀ σ H R, t' σ H R → t σ H R) : PI X tg iter t' := ⟨fun pins s σ H R I q => h.run pins s σ H R I (i σ H R q)⟩
/-- I: what holds ahead of each turn -/
def wfor (G : Sto → Prop) (g : MG) (mb : MS) (D : MEnds) (items : List ML.D) (σ : MSt) (S : Sto) : Prop := ∃ I : Nat → MSt → Sto → Prop, I 0 σ S ∧ ∀ i σ S, i ≤ items.length → I i σ S → G S ∧ match items[i]? with
  | some d => g d σ S (fun σ' S' => mb { D with nx := I (i + 1), ct := I (i + 1), bk := D.nx } σ' S') (xAt D σ)
  | none => D.nx σ S
def mFor (mi : MI) (g : MG) (mb : MS) : MS := fun D σ S => mi σ S (fun items G S1 => wfor G g mb D items σ S1) (xAt D σ)
theorem sfor {iter : Expr} {body : List Stmt} {mi : MI} {mb : MS} (hp : PassesOwn (model X.prog X.w) X.A X.env X.xe) (hc : X.calm = true) (hi : PI X tg iter (upI X.K W mi)) (hg : PG X tg (upG X.K W g)) (hb : PSs X body (upS X.K W mb))
    (hs : ∀ x, foldedSetIterable iter X.env x = pure x := by intro _; rfl) : PS X (.For tg iter body [] pos) (upS X.K W (mFor mi g mb)) :=
  L2.PS.to (ps_for hp hc hi hg hb hs) fun D σ H ⟨m, S, Dm, h1, h2, h3, h4⟩ => by
    refine ⟨m, S, _, _, h1, h2, h3, fun items G S1 J H1 q e1 s1 it => ?_, xAt_ref h1 h4.ex⟩
    obtain ⟨I, i0, turn⟩ := q
    refine ⟨fun i n σ' H' => n = items.length - i ∧ i ≤ items.length ∧ ∃ m' S', RSt X.K H' S' σ' m' ∧ RSto X.K H' S' ∧ Ext H1 S1 H' S' ∧ I i m' S', ⟨items.length, by simp, Nat.zero_le _, m, S1, h1.ext e1, s1, Ext.refl, i0⟩, ?_⟩
    rintro i n σ2 H2 ⟨rfl, hle, m2, S2, k1, k2, k3, k4⟩
    have D4 := h4.ext (e1.trans k3)
    obtain ⟨gS, k4⟩ := turn i m2 S2 hle k4
    by_cases hlt : i < items.length
    · rw [List.getElem?_eq_getElem hlt] at k4
      refine .inr ⟨it.go i H2 S2 k3 k2 gS hlt, fun σ' H' => ∃ m' S', RSt X.K H' S' σ' m' ∧ RSto X.K H' S' ∧ Ext H1 S1 H' S' ∧ I (i + 1) m' S', fun σ' H' z => ⟨items.length - (i + 1), by omega, rfl, hlt, z⟩, fun v H3 y => ?_⟩
      obtain ⟨e3, s3, r3⟩ := it.yld i H2 S2 v H3 _ k3 k2 gS (List.getElem?_eq_getElem hlt) y
      refine ⟨_, m2, S2, _, _, r3, k1.ext e3, s3, k4, fun m4 S4 σ4 H4 q4 e4 s4 r4 => ?_, (xAt_ref k1 D4.ex).ext e3⟩
      have e34 := e3.trans e4
      have N : RefN X.K H4 S4 (I (i + 1)) (fun σ' H' => ∃ m' S', RSt X.K H' S' σ' m' ∧ RSto X.K H' S' ∧ Ext H1 S1 H' S' ∧ I (i + 1) m' S') :=
        fun m5 S5 σ5 H5 q5 e5 s5 r5 => ⟨m5, S5, r5, s5, k3.trans (e34.trans e5), q5⟩
      exact ⟨m4, S4, _, r4, s4, q4, ⟨N, D4.rt.ext e34, D4.nx.ext e34, N, D4.ex.ext e34⟩⟩
    · rw [List.getElem?_eq_none (by omega)] at k4
      exact .inl ⟨it.stop i H2 S2 k3 k2 gS (by omega), D4.nx m2 S2 σ2 H2 k4 Ext.refl k2 k1⟩
/-- turn by turn -/
def wroll (G : Sto → Prop) (g : MG) (mb : MS) (D : MEnds) : List ML.D → MSt → Sto → Prop
  | [], σ, S => G S ∧ D.nx σ S
  | d :: ds, σ, S => G S ∧ g d σ S (fun σ' S' => mb { D with nx := wroll G g mb D ds, ct := wroll G g mb D ds, bk := D.nx } σ' S') (xAt D σ)
theorem wfor_roll {G : Sto → Prop} {mb : MS} {D : MEnds} {items : List ML.D} {σ : MSt} {S : Sto} (h : wroll G g mb D items σ S) : wfor G g mb D items σ S := by
  refine ⟨fun i => wroll G g mb D (items.drop i), by simpa using h, fun i σ S hi h => ?_⟩
  dsimp only at h ⊢
  by_cases hlt : i < items.length
  · have hd : items.drop i = items[i] :: items.drop (i + 1) := List.drop_eq_getElem_cons hlt
    rw [hd] at h
    rw [List.getElem?_eq_getElem hlt]
    exact h
  · have e : i = items.length := by omega
    subst e
    rw [List.drop_length] at h
    rw [List.getElem?_eq_none (by omega)]
    exact h
/-- a list, a tuple -/
def iL (m : ME) : MI := fun σ S R E => m σ S (fun d S1 => match lstOf S1 d with
  | some ds => R ds (fun S' => lstOf S' d = some ds) S1
  | none => False) E
def iT (m : ME) : MI := fun σ S R E => m σ S (fun d S1 => match d with
  | .tup ds => R ds (fun _ => True) S1
  | _ => False) E
theorem itok_list {K : PySem.W.Frag} {H : Hp} {S : Sto} {d : D} {v : V} {ds : List D} (s : RSto K H S) (r : RD K H S v d) (h : lstOf S d = some ds) : ∃ a, v = .ref a ∧ (∃ xs, SqL K H a xs) ∧ ItOk K H S (Itl K a) ds (fun S' => lstOf S' d = some ds) := by
  obtain ⟨a, vs, rfl, hq, _⟩ := lst_sq s r h
  refine ⟨a, rfl, ⟨vs, hq⟩, fun i H' S' e s' g hi => ?_, fun i H' S' v H'' x e s' g hx y => ?_, fun i H' S' e s' g hi => ?_⟩
  · obtain ⟨a', vs', ea, hq', rs'⟩ := lst_sq s' (r.ext e) g
    cases ea
    exact ⟨vs', vs'[i]'(by rw [rs'.length]; exact hi), hq', List.getElem?_eq_getElem _⟩
  · obtain ⟨a', vs', ea, hq', rs'⟩ := lst_sq s' (r.ext e) g
    cases ea
    obtain ⟨rfl, y⟩ := y
    obtain ⟨w, hw, rw'⟩ := rs'.get hx
    have : v = w := Option.some.inj ((y _ hq').symm.trans hw)
    subst this
    exact ⟨Ext.refl, s', rw'⟩
  · obtain ⟨a', vs', ea, hq', rs'⟩ := lst_sq s' (r.ext e) g
    cases ea
    exact ⟨vs', hq', by rw [rs'.length]; exact hi⟩
theorem itok_tup {K : PySem.W.Frag} {H : Hp} {S : Sto} {v : V} {ds : List D} (s : RSto K H S) (r : RD K H S v (.tup ds)) : ∃ a, v = .ref a ∧ (∃ xs, SqT K H a xs) ∧ ItOk K H S (Itt K a) ds (fun _ => True) := by
  obtain ⟨a, vs, rfl, hq, _⟩ := r.tupSq
  refine ⟨a, rfl, ⟨vs, hq⟩, fun i H' S' e s' g hi => ?_, fun i H' S' v H'' x e s' g hx y => ?_, fun i H' S' e s' g hi => ?_⟩
  · obtain ⟨a', vs', ea, hq', rs'⟩ := (r.ext e).tupSq
    cases ea
    exact ⟨vs', vs'[i]'(by rw [rs'.length]; exact hi), hq', List.getElem?_eq_getElem _⟩
  · obtain ⟨a', vs', ea, hq', rs'⟩ := (r.ext e).tupSq
    cases ea
    obtain ⟨rfl, y⟩ := y
    obtain ⟨w, hw, rw'⟩ := rs'.get hx
    have : v = w := Option.some.inj ((y _ hq').symm.trans hw)
    subst this
    exact ⟨Ext.refl, s', rw'⟩
  · obtain ⟨a', vs', ea, hq', rs'⟩ := (r.ext e).tupSq
    cases ea
    exact ⟨vs', hq', by rw [rs'.length]; exact hi⟩
theorem it {l : Expr} (h : PE X l (upE X.K W m)) : PI X tg l (upI X.K W (iT m)) := L2.PI.to (pi_tup h) fun σ H R ⟨m, S, Rm, Em, h1, h2, h3, h4, h5⟩ =>
  ⟨m, S, _, Em, h1, h2, h3, fun d S1 v H1 q e s r => by
    cases d with
    | tup ds =>
      obtain ⟨a, rfl, hx, it⟩ := itok_tup s r
      exact ⟨a, rfl, hx, h4 ds _ S1 _ H1 q e s it⟩
    | _ => exact q.elim, h5⟩
/-- range -/
def rngD (lo : Int) (n : Nat) : List D := (List.range n).map fun i => .int (lo + (i : Nat))
theorem rngD_get {lo : Int} {n i : Nat} {d : D} (h : (rngD lo n)[i]? = some d) : d = .int (lo + (i : Nat)) := by
  unfold rngD at h
  rw [List.getElem?_map] at h
  by_cases hi : i < n
  · rw [List.getElem?_eq_getElem (by simpa using hi), List.getElem_range] at h; cases h; rfl
  · rw [List.getElem?_eq_none (by simpa using Nat.le_of_not_lt hi)] at h; cases h
theorem rngD_len (lo : Int) (n : Nat) : (rngD lo n).length = n := by unfold rngD; rw [List.length_map, List.length_range]
theorem itok_rng {K : PySem.W.Frag} {H : Hp} {S : Sto} (lo : Int) (n : Nat) : ItOk K H S (Itr lo n) (rngD lo n) (fun _ => True) :=
  ⟨fun i H' S' e s' g hi => by rw [rngD_len] at hi; exact hi, fun i H' S' v H'' x e s' g hx ⟨y1, y2⟩ => by subst y1 y2; rw [rngD_get hx]; exact ⟨Ext.refl, s', .int _⟩, fun i H' S' e s' g hi => by rw [rngD_len] at hi; exact hi⟩
def iR1 (t : MA) : MI := fun σ S R E => t σ S (fun ds S1 => match ds with
  | [.int j] => (-(2 ^ 62) ≤ j ∧ j < 2 ^ 62) ∧ R (rngD 0 j.toNat) (fun _ => True) S1
  | _ => False) E
def iR2 (t : MA) : MI := fun σ S R E => t σ S (fun ds S1 => match ds with
  | [.int i, .int j] => (-(2 ^ 62) ≤ i ∧ i < 2 ^ 62 ∧ -(2 ^ 62) ≤ j ∧ j < 2 ^ 62) ∧ R (rngD i (j - i).toNat) (fun _ => True) S1
  | _ => False) E
theorem ir1 {mas : MA} {p : Pos} (hm : X.mg "range" = none) (ha : PA X [a] (upA X.K W mas)) (hg : Gl X "range" := by rfl) (hs : starEach [a] X.env = [(false, eval a X.env)] := by rfl) : PI X tg (.Call (.Name "range" p) [a] [] pos) (upI X.K W (iR1 mas)) :=
  L2.PI.to (pi_range1 hg hm ha hs) fun σ H R ⟨m, S, Rm, Em, h1, h2, h3, h4, h5⟩ => ⟨m, S, _, Em, h1, h2, h3, fun ds S1 vs H1 q e s r => by
    dsimp only at q
    split at q
    · obtain ⟨v, rfl, r1⟩ := rds1 r
      cases r1
      exact ⟨_, rfl, q.1.1, q.1.2, h4 _ _ S1 _ H1 q.2 e s (itok_rng _ _)⟩
    · exact q.elim, h5⟩
/-- two values in a new pair -/
theorem pair_new {K : PySem.W.Frag} {H : Hp} {S : Sto} {T : Addr} {v w : V} {d e : D} (s : RSto K H S) (hT : H T = none) (r1 : RD K H S v d) (r2 : RD K H S w e) : Ext H S (upd H T (.tup [v, w])) S ∧ RSto K (upd H T (.tup [v, w])) S ∧ RD K (upd H T (.tup [v, w])) S (.ref T) (.tup [d, e]) := by
  have x := Ext.new (u := .tup [v, w]) s hT
  exact ⟨x, s.new hT, .tup (.inl upd_same) (s.fresh hT) (.cons (r1.ext x) (.cons (r2.ext x) .nil))⟩
/-- enumerate(a list) -/
def enumD (ds : List D) : List D := ds.zipIdx.map fun p => .tup [.int (p.2 : Nat), p.1]
def iEn (t : MA) : MI := fun σ S R E => t σ S (fun ds S1 => match ds with
  | [d] => match lstOf S1 d with
    | some xs => R (enumD xs) (fun S' => lstOf S' d = some xs) S1
    | none => False
  | _ => False) E
/-- zip of two lists -/
def zipD (xs ys : List D) : List D := List.zipWith (fun x y => .tup [x, y]) xs ys
theorem zipD_get {xs ys : List D} {i : Nat} {d : D} (h : (zipD xs ys)[i]? = some d) : ∃ x y, xs[i]? = some x ∧ ys[i]? = some y ∧ d = .tup [x, y] := by
  unfold zipD at h
  rw [List.getElem?_zipWith] at h
  cases e1 : xs[i]? with
  | none => rw [e1] at h; cases h
  | some x =>
    cases e2 : ys[i]? with
    | none => rw [e1, e2] at h; cases h
    | some y => rw [e1, e2] at h; cases h; exact ⟨x, y, rfl, rfl, rfl⟩
def iZp (t : MA) : MI := fun σ S R E => t σ S (fun ds S1 => match ds with
  | [d, e] => match lstOf S1 d, lstOf S1 e with
    | some xs, some ys => R (zipD xs ys) (fun S' => lstOf S' d = some xs ∧ lstOf S' e = some ys) S1
    | _, _ => False
  | _ => False) E
theorem izp {mas : MA} {p tpos : Pos} {elts : List Expr} {kk : Nat} {e2 : Expr} (hm : X.mg "zip" = none) (ha : PA X [e, e2] (upA X.K W mas)) (hg : Gl X "zip" := by rfl)
    (hs : starEach [e, e2] X.env = (false, eval e X.env) :: starEach [e2] X.env := by rfl) (hs2 : (backTo pos (starEach [e2] X.env)).any (·.1) = false := by rfl) :
    PI X (.Tuple elts kk tpos) (.Call (.Name "zip" p) [e, e2] [] pos) (upI X.K W (iZp mas)) :=
  L2.PI.to (pi_zip hg hm ha hs hs2) fun σ H R ⟨m, S, Rm, Em, h1, h2, h3, h4, h5⟩ => ⟨m, S, _, Em, h1, h2, h3, fun ds S1 vs H1 q e1 s r => by
    dsimp only at q
    split at q
    · next d e =>
      obtain ⟨v, w, rfl, r1, r2⟩ := rds2 r
      split at q
      · next xs ys e3 e4 =>
        obtain ⟨a, us, rfl, hq, ru⟩ := lst_sq s r1 e3
        obtain ⟨b, ws, rfl, hq2, rw2⟩ := lst_sq s r2 e4
        refine ⟨a, b, us, ws, rfl, hq, hq2, h4 _ _ S1 _ H1 q e1 s ⟨fun i H' S' e s' g hi => ?_, fun i H' S' v H'' x e s' g hx y => ?_, fun i H' S' e s' g hi => ?_⟩⟩
        · obtain ⟨a', vs', ea, hq', rs'⟩ := lst_sq s' (r1.ext e) g.1
          cases ea
          obtain ⟨b', ws', eb, hq2', rs2'⟩ := lst_sq s' (r2.ext e) g.2
          cases eb
          have hi' : i < xs.length ∧ i < ys.length := by unfold zipD at hi; rw [List.length_zipWith] at hi; omega
          exact ⟨vs', ws', vs'[i]'(by rw [rs'.length]; exact hi'.1), ws'[i]'(by rw [rs2'.length]; exact hi'.2), hq', hq2', List.getElem?_eq_getElem _, List.getElem?_eq_getElem _⟩
        · obtain ⟨a', vs', ea, hq', rs'⟩ := lst_sq s' (r1.ext e) g.1
          cases ea
          obtain ⟨b', ws', eb, hq2', rs2'⟩ := lst_sq s' (r2.ext e) g.2
          cases eb
          obtain ⟨T, w, w2, rfl, hT, rfl, hy, hy2⟩ := y
          obtain ⟨z, z2, hz, hz2, rfl⟩ := zipD_get hx
          obtain ⟨w', hw, rw'⟩ := rs'.get hz
          obtain ⟨w2', hw2, rw2'⟩ := rs2'.get hz2
          have t1 : w = w' := Option.some.inj ((hy _ hq').symm.trans hw)
          have t2 : w2 = w2' := Option.some.inj ((hy2 _ hq2').symm.trans hw2)
          subst t1 t2
          exact pair_new s' hT rw' rw2'
        · obtain ⟨a', vs', ea, hq', rs'⟩ := lst_sq s' (r1.ext e) g.1
          cases ea
          obtain ⟨b', ws', eb, hq2', rs2'⟩ := lst_sq s' (r2.ext e) g.2
          cases eb
          refine ⟨vs', ws', hq', hq2', ?_⟩
          unfold zipD at hi
          rw [List.length_zipWith] at hi
          rw [rs'.length, rs2'.length]
          omega
      · exact q.elim
    · exact q.elim, h5⟩
end
/-! ### a def keeps its promise -/
/-- the wish of a def about exceptions -/
abbrev wM (E : XK) : WX := fun cls d _ H => E cls d H
abbrev cxM (P : Program) (w : World) (K : PySem.W.Frag) (mg : Str → Option Value) (base : Heap) (N : List Str) (qual : Str) (st : Stmt) (f : Addr) (cdv : Value) (A : Around) (outer : List Env) (s : Shared) (H : Hp) (E : XK) : Cx :=
  cxOf (L2.CX P w) P w K mg base N qual (defScope st) f cdv A outer s H E
theorem tkM {P : Program} {w : World} {K : PySem.W.Frag} {mg : Str → Option Value} {base : Heap} {N : List Str} {qual : Str} {st : Stmt} {f : Addr} {cdv : Value} {A : Around} {outer : List Env} {s : Shared} {H : Hp} {E : XK} :
    Takes (cxM P w K mg base N qual st f cdv A outer s H E) (wM E) := takes_of rfl rfl rfl rfl
theorem poM {P : Program} {w : World} {K : PySem.W.Frag} {mg : Str → Option Value} {base : Heap} {N : List Str} {qual : Str} {st : Stmt} {f : Addr} {cdv : Value} {A : Around} {outer : List Env} {s : Shared} {H : Hp} {E : XK} :
    PassesOwn (model P w) (cxM P w K mg base N qual st f cdv A outer s H E).A (cxM P w K mg base N qual st f cdv A outer s H E).env (cxM P w K mg base N qual st f cdv A outer s H E).xe := passes_of rfl
/-- the slots at a def's entry -/
def mstart (n : Nat) (ds : List D) : MSt := ds.map some ++ List.replicate n none
def mends (Q : MQ) (E : MXQ) : MEnds := { nx := fun _ S' => Q .non S', rt := Q, ex := fun x _ S' => E x S' }
/-- a def keeps its promise: its body by the rules, and the reading -/
theorem fn_mk {P : Program} {w : World} {K : PySem.W.Frag} {mg : Str → Option Value} {base : Heap} {x qual : Str} {st : Stmt} {f : Addr} {fd : FuncData} {N ps : List Str} {k n : Nat} {sp : MSp} {body : MS}
    (F : FunD K x qual (defArgs st) (defBody st) (defScope st) [] [] f fd) (S : FnScope N ps (defScope st)) (hn : N.length - ps.length = n)
    (len : ∀ ds S Q E, sp ds S Q E → ds.length = ps.length)
    (hbody : ∀ (cdv : Value) (A : Around) (outer : List Env) (s : Shared) (H : Hp) (E : XK), Room k (cxM P w K mg base N qual st f cdv A outer s H E).A → PSs (cxM P w K mg base N qual st f cdv A outer s H E) (defBody st) (upS K (wM E) body))
    (read : ∀ ds S Q E, sp ds S Q E → body (mends Q E) (mstart n ds) S) : FnOk P w K mg base (L2.CX P w) (k + 1) f fd ps (upSp K sp) := by
  refine F.ok S (fun vs H Q E ⟨ds, S, Qm, Em, h1, h2, h3, h4⟩ => by rw [h1.length]; exact len ds S Qm Em h3) fun cdv A outer s H vs Q E hr hsp => ?_
  refine ⟨_, hbody cdv A outer s H E hr, ?_⟩
  obtain ⟨ds, S, Qm, Em, h1, h2, h3, h4, h5⟩ := hsp
  have hl : vs.length = ps.length := by rw [h1.length]; exact len ds S Qm Em h3
  refine ⟨_, S, _, ?_, h2, read ds S Qm Em h3, ⟨fun m S' σ H' q e s r => h4 .non S' .non H' q e s .non, h4, fun _ _ _ _ z => z.elim, fun _ _ _ _ z => z.elim, fun x m S' c d σ H' q e s r rx => h5 x S' c d H' q e s rx⟩⟩
  unfold L2.start
  rw [hl, hn]
  exact RSt.start _ h1
/-! ### the law -/
def spLaw : MSp := fun ds _ Q _ => ∃ ns : List Int, ds = [.scr (ns.map .int)] ∧ ns.length ≤ 63 ∧ ∀ S', Q (.bl true) S'
theorem law_sp {K : PySem.W.Frag} {H : Hp} {a : Addr} {ns : List Int} (hl : ns.length ≤ 63) (hO : Only H) (hS : SqL K H a (ns.map V.int)) : upSp K spLaw [.ref a] H (fun v _ => v = .bl true) fun _ _ _ => False := by
  have r : RD K H (fun _ => none) (.ref a) (.scr (ns.map .int)) := by
    rcases hS with (h | ⟨o, h⟩) | ⟨o, its, n, h1, h2, h3, h4, h5, h6⟩
    · rcases hO a with z | ⟨o, xs, z⟩
      · rw [h] at z; cases z
      · rw [h] at z; cases z
    · exact .scr h rfl RDs.of_ints
    · exact .klst h1 h2 h3 h4 h5 h6 RDs.of_ints
  refine ⟨[.scr (ns.map .int)], fun _ => none, fun d _ => d = .bl true, fun _ _ => False, .cons r .nil, ?_, ⟨ns, rfl, hl, fun _ => rfl⟩, ?_, ?_⟩
  · intro _ _ e; cases e
  · intro d S' v H' q _ _ r
    have q' : d = .bl true := q
    rw [q'] at r
    cases r; rfl
  · intro x S' cls d H' q _ _ _; exact q
theorem law_cx {P : Program} {w : World} (H : Hp) (s : Shared) (e : Value) (s' : Shared) (h : L2.CX P w [] H s (fun _ _ _ => False) e s') : False := by
  obtain ⟨_, _, _, _, _, _, _, _, _, _, _, _, z⟩ := h
  exact z.elim
end ML
set_option maxRecDepth 100000
namespace ML
open PySem PySem.Spec L2
open PyProof.Rows hiding St
/-! ### equality of data -/
mutual
def D.py : D → PyData
  | .non => .none
  | .bl b => .bool b
  | .int i => .int i
  | .str x => .str x
  | .tup ds => .tuple (D.pys ds)
  | .lst ds => .list (D.pys ds)
  | .scr ds => .list (D.pys ds)
  | .ref _ => .none
def D.pys : List D → List PyData
  | [] => []
  | d :: ds => D.py d :: D.pys ds
end
mutual
/-- no address, no truth within; texts as the model's equality wants them -/
def D.plain : D → Bool
  | .non => true
  | .bl _ => false
  | .int _ => true
  | .str x => PyData.strOk x
  | .tup ds => D.plains ds
  | .lst ds => D.plains ds
  | .scr ds => D.plains ds
  | .ref _ => false
def D.plains : List D → Bool
  | [] => true
  | d :: ds => D.plain d && D.plains ds
end
mutual
def D.deq : D → D → Bool
  | .non, .non => true
  | .bl a, .bl b => a == b
  | .int a, .int b => a == b
  | .str a, .str b => a == b
  | .tup a, .tup b => D.deqs a b
  | .lst a, .lst b => D.deqs a b
  | .lst a, .scr b => D.deqs a b
  | .scr a, .lst b => D.deqs a b
  | .scr a, .scr b => D.deqs a b
  | _, _ => false
def D.deqs : List D → List D → Bool
  | [], [] => true
  | a :: as, b :: bs => D.deq a b && D.deqs as bs
  | _, _ => false
end
mutual
def D.dep : D → Nat
  | .tup ds => D.deps ds + 1
  | .lst ds => D.deps ds + 1
  | .scr ds => D.deps ds + 1
  | _ => 0
def D.deps : List D → Nat
  | [] => 0
  | d :: ds => max (D.dep d) (D.deps ds)
end
mutual
theorem D.dep_py : ∀ d : D, (D.py d).depth = D.dep d
  | .non => rfl
  | .bl _ => rfl
  | .int _ => rfl
  | .str _ => rfl
  | .tup ds => by rw [D.py, PyData.depth, D.dep, D.deps_py ds]
  | .lst ds => by rw [D.py, PyData.depth, D.dep, D.deps_py ds]
  | .scr ds => by rw [D.py, PyData.depth, D.dep, D.deps_py ds]
  | .ref _ => rfl
theorem D.deps_py : ∀ ds : List D, PyData.depthAll (D.pys ds) = D.deps ds
  | [] => rfl
  | d :: ds => by rw [D.pys, PyData.depthAll, D.deps, D.dep_py d, D.deps_py ds]
end
mutual
theorem D.lay_py : ∀ d : D, D.plain d = true → (D.py d).canLay0 = true
  | .non, _ => by rw [D.py, PyData.canLay0]
  | .bl _, h => by cases h
  | .int _, _ => by rw [D.py, PyData.canLay0]
  | .str x, h => by rw [D.py, PyData.canLay0]; exact h
  | .tup ds, h => by rw [D.py, PyData.canLay0]; exact D.lays_py ds h
  | .lst ds, h => by rw [D.py, PyData.canLay0]; exact D.lays_py ds h
  | .scr ds, h => by rw [D.py, PyData.canLay0]; exact D.lays_py ds h
  | .ref _, h => by cases h
theorem D.lays_py : ∀ ds : List D, D.plains ds = true → PyData.canLayAll0 (D.pys ds) = true
  | [], _ => by rw [D.pys, PyData.canLayAll0]
  | d :: ds, h => by
    obtain ⟨h1, h2⟩ := Bool.and_eq_true_iff.mp (show (D.plain d && D.plains ds) = true from h)
    rw [D.pys, PyData.canLayAll0, D.lay_py d h1, D.lays_py ds h2]; rfl
end
mutual
theorem D.eqv_py : ∀ d e : D, D.plain d = true → D.plain e = true → PyData.eqv (D.py d) (D.py e) = D.deq d e
  | .bl _, _, h, _ => by cases h
  | .ref _, _, h, _ => by cases h
  | .non, e, _, h => by cases e <;> first | (cases h; done) | simp [D.py, PyData.eqv, D.deq]
  | .int _, e, _, h => by cases e <;> first | (cases h; done) | simp [D.py, PyData.eqv, D.deq]
  | .str _, e, _, h => by cases e <;> first | (cases h; done) | simp [D.py, PyData.eqv, D.deq]
  | .tup ds, e, h1, h => by
    cases e with
    | tup es => rw [D.py, D.py, PyData.eqv, D.deq]; exact D.eqvs_py ds es h1 h
    | bl _ => cases h
    | ref _ => cases h
    | _ => simp [D.py, PyData.eqv, D.deq]
  | .lst ds, e, h1, h => by
    cases e with
    | lst es => rw [D.py, D.py, PyData.eqv, D.deq]; exact D.eqvs_py ds es h1 h
    | scr es => rw [D.py, D.py, PyData.eqv, D.deq]; exact D.eqvs_py ds es h1 h
    | bl _ => cases h
    | ref _ => cases h
    | _ => simp [D.py, PyData.eqv, D.deq]
  | .scr ds, e, h1, h => by
    cases e with
    | lst es => rw [D.py, D.py, PyData.eqv, D.deq]; exact D.eqvs_py ds es h1 h
    | scr es => rw [D.py, D.py, PyData.eqv, D.deq]; exact D.eqvs_py ds es h1 h
    | bl _ => cases h
    | ref _ => cases h
    | _ => simp [D.py, PyData.eqv, D.deq]
theorem D.eqvs_py : ∀ ds es : List D, D.plains ds = true → D.plains es = true → PyData.eqvAll (D.pys ds) (D.pys es) = D.deqs ds es
  | [], [], _, _ => by rw [D.pys, PyData.eqvAll, D.deqs]
  | [], _ :: _, _, _ => by simp [D.pys, PyData.eqvAll, D.deqs]
  | _ :: _, [], _, _ => by simp [D.pys, PyData.eqvAll, D.deqs]
  | d :: ds, e :: es, h1, h2 => by
    obtain ⟨a1, a2⟩ := Bool.and_eq_true_iff.mp (show (D.plain d && D.plains ds) = true from h1)
    obtain ⟨b1, b2⟩ := Bool.and_eq_true_iff.mp (show (D.plain e && D.plains es) = true from h2)
    rw [D.pys, D.pys, PyData.eqvAll, D.deqs, D.eqv_py d e a1 b1, D.eqvs_py ds es a2 b2]
end
theorem D.shaped_py {d : D} (h : D.plain d = true) (hd : D.dep d ≤ 64) : SeqAt.shaped (D.py d) = true := by
  unfold SeqAt.shaped
  rw [D.lay_py d h, D.dep_py d, decide_eq_true hd]; rfl
mutual
theorem RD.dp {K : PySem.W.Frag} {H : Hp} {S : Sto} : ∀ {v : V} {d : D}, RD K H S v d → D.plain d = true → Dp K H v (D.py d)
  | _, _, .non, _ => by rw [D.py]; exact .non
  | _, _, .bl _, h => by cases h
  | _, _, .int i, _ => by rw [D.py]; exact .int i
  | _, _, .str x, _ => by rw [D.py]; exact .str x
  | _, _, .ref _, h => by cases h
  | _, _, .tup h n r, k => by rw [D.py]; exact .tup (.inl h) (RDs.dp r k)
  | _, _, .lst h n r, k => by rw [D.py]; exact .lst (.inl (.inl h)) (RDs.dp r k)
  | _, _, .scr h n r, k => by rw [D.py]; exact .lst (.inl (.inr ⟨_, h⟩)) (RDs.dp r k)
  | _, _, .ktup h1 h2 h3 h4 h5 r, k => by rw [D.py]; exact .tup (.inr ⟨_, _, _, h1, h2, h3, h4, h5⟩) (RDs.dp r k)
  | _, _, .klst h1 h2 h3 h4 h5 h6 r, k => by rw [D.py]; exact .lst (.inr ⟨_, _, _, h1, h2, h3, h4, h5, h6⟩) (RDs.dp r k)
theorem RDs.dp {K : PySem.W.Frag} {H : Hp} {S : Sto} : ∀ {vs : List V} {ds : List D}, RDs K H S vs ds → D.plains ds = true → DpAll K H vs (D.pys ds)
  | _, _, .nil, _ => by rw [D.pys]; exact .nil
  | _, _, .cons (d := d) (ds := ds) h r, k => by
    obtain ⟨a1, a2⟩ := Bool.and_eq_true_iff.mp (show (D.plain d && D.plains ds) = true from k)
    rw [D.pys]; exact .cons (RD.dp h a1) (RDs.dp r a2)
end
/-- a list of the store is looked at as it stands -/
def look (S : Sto) : D → D
  | .ref p => match S p with
    | some (.lst ds) => .lst ds
    | _ => .ref p
  | d => d
theorem look_dp {K : PySem.W.Frag} {H : Hp} {S : Sto} {v : V} {d : D} (s : RSto K H S) (r : RD K H S v d) (h : D.plain (look S d) = true) : Dp K H v (D.py (look S d)) := by
  cases d with
  | ref p =>
    cases r
    simp only [look] at h ⊢
    cases e : S p with
    | none => rw [e] at h; cases h
    | some o =>
      rw [e] at h
      cases o with
      | lst ds =>
        obtain ⟨vs, e1, r1⟩ := s p _ e
        simp only
        rw [D.py]
        exact .lst (.inl (.inl e1)) (r1.dp h)
      | _ => cases h
  | _ => exact r.dp h
def eqOk (d e : D) : Bool := match d, e with
  | .bl _, .bl _ => true
  | d, e => D.plain d && D.plain e && decide (D.dep d ≤ 64) && decide (D.dep e ≤ 64)
theorem eqOk_at {d e : D} (h : eqOk d e = true) : (∃ a b, d = .bl a ∧ e = .bl b) ∨ (D.plain d = true ∧ D.plain e = true ∧ D.dep d ≤ 64 ∧ D.dep e ≤ 64) := by
  unfold eqOk at h
  split at h
  · exact .inl ⟨_, _, rfl, rfl⟩
  · simp only [Bool.and_eq_true, decide_eq_true_eq] at h
    exact .inr ⟨h.1.1.1, h.1.1.2, h.1.2, h.2⟩
def rEqM : R2m := fun d e S Q => eqOk (look S d) (look S e) = true ∧ Q (.bl (D.deq (look S d) (look S e))) S
def rNeM : R2m := fun d e S Q => eqOk (look S d) (look S e) = true ∧ Q (.bl (!D.deq (look S d) (look S e))) S
section
variable {X : Cx} {W : WX} {a b c e tg : Expr} {ma mb mc m : ME} {pos : Pos}
theorem look_bl {S : Sto} {d : D} {a : Bool} (h : look S d = .bl a) : d = .bl a := by
  cases d with
  | ref p => simp only [look] at h; split at h <;> cases h
  | _ => exact h
theorem ol_eq : OpL X.K (fun x y H Q => rEq x y H Q ∨ rEqD X.K x y H Q) rEqM := fun H S x y d e Qm Q s rx ry ⟨h1, h2⟩ k => by
  rcases eqOk_at h1 with ⟨p, q, e1, e2⟩ | ⟨p1, p2, d1, d2⟩
  · rw [e1, e2] at h2
    cases look_bl e1; cases look_bl e2
    cases rx; cases ry
    refine .inl ⟨rfl, k _ S _ H h2 Ext.refl s ?_⟩
    rw [dec_bl]; rw [D.deq]; exact .bl _
  · refine .inr ⟨_, _, look_dp s rx p1, look_dp s ry p2, D.shaped_py p1 d1, D.shaped_py p2 d2, k _ S _ H h2 Ext.refl s ?_⟩
    rw [D.eqv_py _ _ p1 p2]; exact .bl _
theorem ol_ne : OpL X.K (fun x y H Q => rNe x y H Q ∨ rNeD X.K x y H Q) rNeM := fun H S x y d e Qm Q s rx ry ⟨h1, h2⟩ k => by
  rcases eqOk_at h1 with ⟨p, q, e1, e2⟩ | ⟨p1, p2, d1, d2⟩
  · rw [e1, e2] at h2
    cases look_bl e1; cases look_bl e2
    cases rx; cases ry
    refine .inl ⟨rfl, k _ S _ H h2 Ext.refl s ?_⟩
    rw [dec_bl]; rw [D.deq]; exact .bl _
  · refine .inr ⟨_, _, look_dp s rx p1, look_dp s ry p2, D.shaped_py p1 d1, D.shaped_py p2 d2, k _ S _ H h2 Ext.refl s ?_⟩
    rw [D.eqv_py _ _ p1 p2]; exact .bl _
theorem op_eqA (hu : X.A.units + 64 < cLine) : OpR X (compareOp .Eq) (fun x y H Q => rEq x y H Q ∨ rEqD X.K x y H Q) := op_eq.or (op_eqD hu)
theorem op_neA (hu : X.A.units + 64 < cLine) : OpR X (compareOp .NotEq) (fun x y H Q => rNe x y H Q ∨ rNeD X.K x y H Q) := op_ne.or (op_neD hu)
/-! ### in -/
theorem op_notInDT (hu : X.A.units + 65 < cLine) : OpR X (compareOp .NotIn) (fun x y H Q => ∃ d ds, Dp X.K H x d ∧ Dp X.K H y (.tuple ds) ∧ SeqAt.shaped d = true ∧ SeqAt.shaped (.tuple ds) = true ∧ Q (.bl (!ds.any fun z => PyData.eqv z d)) H) := by
  intro pins s σ H x y v u Q I rx ry h
  have ⟨d, ds, hd, he, sd, se, q⟩ := h
  have ⟨as, r1⟩ := Dp.reads I d x v hd rx
  have ⟨bs, r2⟩ := Dp.reads I (.tuple ds) y u he ry
  have hm : min (PyData.depthAll ds) d.depth ≤ d.depth := Nat.min_le_right _ _
  have hd64 := SeqAt.depth_of_shaped sd
  exact SeqAt.notIn_tuple_reads r2 r1 (SeqAt.canLay_of_shaped se) (SeqAt.canLay_of_shaped sd) (by omega) ⟨.bl _, H, I, rfl, q⟩
def memD (d : D) (ds : List D) : Bool := ds.any fun z => D.deq z d
theorem memD_py {d : D} {ds : List D} (h : D.plain d = true) (hs : D.plains ds = true) : ((D.pys ds).any fun z => PyData.eqv z (D.py d)) = memD d ds := by
  induction ds with
  | nil => rw [D.pys]; rfl
  | cons e es ih =>
    obtain ⟨a1, a2⟩ := Bool.and_eq_true_iff.mp (show (D.plain e && D.plains es) = true from hs)
    rw [D.pys]
    show (PyData.eqv (D.py e) (D.py d) || (D.pys es).any _) = (D.deq e d || memD d es)
    rw [D.eqv_py e d a1 h, ih a2]
/-- x in a list or a tuple -/
def rInM (neg : Bool) : R2m := fun d e S Q => match look S e with
  | .tup ds => (D.plain d = true ∧ D.plains ds = true ∧ D.dep d ≤ 64 ∧ D.deps ds ≤ 63) ∧ Q (.bl (if neg then !memD d ds else memD d ds)) S
  | .lst ds => (D.plain d = true ∧ D.plains ds = true ∧ D.dep d ≤ 64 ∧ D.deps ds ≤ 63) ∧ Q (.bl (if neg then !memD d ds else memD d ds)) S
  | .scr ds => (D.plain d = true ∧ D.plains ds = true ∧ D.dep d ≤ 64 ∧ D.deps ds ≤ 63) ∧ Q (.bl (if neg then !memD d ds else memD d ds)) S
  | _ => False
theorem rInM_at {neg : Bool} {d e : D} {S : Sto} {Q : MQ} (h : rInM neg d e S Q) : ∃ ds, (look S e = .tup ds ∨ look S e = .lst ds ∨ look S e = .scr ds) ∧ (D.plain d = true ∧ D.plains ds = true ∧ D.dep d ≤ 64 ∧ D.deps ds ≤ 63) ∧ Q (.bl (if neg then !memD d ds else memD d ds)) S := by
  unfold rInM at h
  split at h
  · next ds q => exact ⟨ds, .inl q, h⟩
  · next ds q => exact ⟨ds, .inr (.inl q), h⟩
  · next ds q => exact ⟨ds, .inr (.inr q), h⟩
  · exact h.elim
theorem ol_notIn : OpL X.K (fun x y H Q => rNotInD X.K x y H Q ∨ ∃ d ds, Dp X.K H x d ∧ Dp X.K H y (.tuple ds) ∧ SeqAt.shaped d = true ∧ SeqAt.shaped (.tuple ds) = true ∧ Q (.bl (!ds.any fun z => PyData.eqv z d)) H) (rInM true) := fun H S x y d e Qm Q s rx ry h k => by
  obtain ⟨ds, hl, ⟨p1, p2, d1, d2⟩, q⟩ := rInM_at h
  have pl : D.plain (look S e) = true := by rcases hl with z | z | z <;> (rw [z]; exact p2)
  have dl : D.dep (look S e) ≤ 64 := by rcases hl with z | z | z <;> (rw [z, D.dep]; omega)
  have dp := look_dp s ry pl
  have sh := D.shaped_py pl dl
  have fin : ∀ K', RD K' H S (.bl (!(D.pys ds).any fun z => PyData.eqv z (D.py d))) (.bl (!memD d ds)) := fun _ => by rw [memD_py p1 p2]; exact .bl _
  rcases hl with z | z | z
  · rw [z, D.py] at dp sh
    exact .inr ⟨_, _, rx.dp p1, dp, D.shaped_py p1 d1, sh, k _ S _ H q Ext.refl s (fin _)⟩
  · rw [z, D.py] at dp sh
    exact .inl ⟨_, _, rx.dp p1, dp, D.shaped_py p1 d1, sh, k _ S _ H q Ext.refl s (fin _)⟩
  · rw [z, D.py] at dp sh
    exact .inl ⟨_, _, rx.dp p1, dp, D.shaped_py p1 d1, sh, k _ S _ H q Ext.refl s (fin _)⟩
theorem op_notInA (hu : X.A.units + 65 < cLine) : OpR X (compareOp .NotIn) (fun x y H Q => rNotInD X.K x y H Q ∨ ∃ d ds, Dp X.K H x d ∧ Dp X.K H y (.tuple ds) ∧ SeqAt.shaped d = true ∧ SeqAt.shaped (.tuple ds) = true ∧ Q (.bl (!ds.any fun z => PyData.eqv z d)) H) := (op_notInD hu).or (op_notInDT hu)
/-! ### is True, is False -/
def rIsBM (neg : Bool) : R2m := fun d e S Q => match d, e with
  | .bl p, .bl q => Q (.bl (if neg then !decide (p = q) else decide (p = q))) S
  | _, _ => False
/-! ### isinstance with built-in types -/
def tyD (S : Sto) : D → Option String
  | .non => some "NoneType"
  | .bl _ => some "bool"
  | .int _ => some "int"
  | .str _ => some "str"
  | .tup _ => some "tuple"
  | .lst _ => some "list"
  | .scr _ => some "list"
  | .ref p => match S p with
    | some (.lst _) => some "list"
    | some (.dK _) => some "dict"
    | _ => none
/-- isinstance of these types by these -/
def isTy (t u : String) : Bool := t == u || (t == "bool" && u == "int")
def mIsi (u : String) (m : ME) : ME := fun σ S Q E => m σ S (fun d S1 => match tyD S1 d with
  | some t => Q (.bl (isTy t u)) S1
  | none => False) E
/-! ### slices -/
def cutD (xs : List D) (lo hi : Option Int) : List D := (xs.drop (HT.sIx xs.length 0 lo)).take (HT.sIx xs.length xs.length hi - HT.sIx xs.length 0 lo)
theorem cut_rds {K : PySem.W.Frag} {H : Hp} {S : Sto} {vs : List V} {ds : List D} (r : RDs K H S vs ds) (lo hi : Option Int) : RDs K H S (cutV vs lo hi) (cutD ds lo hi) := by
  unfold cutV cutD
  rw [r.length]
  exact (r.drop _).take _
abbrev MO' := MSt → Sto → (Option Int → Sto → Prop) → MXQ → Prop
def upO (K : PySem.W.Frag) (W : WX) (m : MO') : TO := fun σ H Q => ∃ mσ S Qm Em, RSt K H S σ mσ ∧ RSto K H S ∧ m mσ S Qm Em ∧ (∀ o S' H', Qm o S' → Ext H S H' S' → RSto K H' S' → Q o H') ∧ RefX K H S Em (fun c d H' => W c d σ H')
def oNo : MO' := fun _ S Q _ => Q none S
def oSo (m : ME) : MO' := fun σ S Q E => m σ S (fun d S1 => match d with
  | .int i => Q (some i) S1
  | _ => False) E
theorem PO_to {oe : Option Expr} {t t' : TO} (h : PO X oe t) (i : ∀ σ H Q, t' σ H Q → t σ H Q) : PO X oe t' := by
  constructor
  intros
  apply h.run
  · assumption
  · exact i _ _ _ (by assumption)
theorem ono : PO X none (upO X.K W oNo) := PO_to po_none fun σ H Q ⟨m, S, Qm, Em, h1, h2, h3, h4, h5⟩ => h4 none S H h3 Ext.refl h2
theorem oso (h : PE X e (upE X.K W m)) : PO X (some e) (upO X.K W (oSo m)) := PO_to (po_some h) fun σ H Q ⟨m, S, Qm, Em, h1, h2, h3, h4, h5⟩ => ⟨m, S, _, Em, h1, h2, h3, fun d S1 v H1 q e s r => by
  cases d with
  | int i => cases r; exact ⟨i, rfl, h4 _ S1 H1 q e s⟩
  | _ => exact q.elim, h5⟩
/-- xs[lo:hi] of a list: a new one, which stays; of a tuple (not the whole of it) -/
def mCut (m : ME) (lo hi : MO') : ME := fun σ S Q E => m σ S (fun d S1 => lo σ S1 (fun l S2 => hi σ S2 (fun u S3 => match d with
  | .tup xs => ¬ (HT.sIx xs.length 0 l = 0 ∧ HT.sIx xs.length xs.length u = xs.length) ∧ Q (.tup (cutD xs l u)) S3
  | d => match lstOf S3 d with
    | some xs => Q (.lst (cutD xs l u)) S3
    | none => False) E) E) E
theorem ecut {lo hi : Option Expr} {ml mh : MO'} {p2 : Pos} (he : PE X e (upE X.K W m)) (hl : PO X lo (upO X.K W ml)) (hu : PO X hi (upO X.K W mh)) : PE X (.Subscript e (.Slice lo hi none p2) pos) (upE X.K W (mCut m ml mh)) :=
  (pe_slice (sl_tup.or sl_list) he hl hu).to fun σ H Q ⟨m, S, Qm, Em, h1, h2, h3, h4, h5⟩ => by
    refine ⟨m, S, _, Em, h1, h2, h3, fun d S1 v H1 q1 e1 s1 r1 => ⟨m, S1, _, Em, h1.ext e1, s1, q1, fun l S2 H2 q2 e2 s2 => ⟨m, S2, _, Em, h1.ext (e1.trans e2), s2, q2, fun u S3 H3 q3 e3 s3 => ?_, h5.ext (e1.trans e2)⟩, h5.ext e1⟩, h5⟩
    have r3 := r1.ext (e2.trans e3)
    have e123 := e1.trans (e2.trans e3)
    split at q3
    · next xs =>
      obtain ⟨a, vs, rfl, hq, rs⟩ := r3.tupSq
      refine .inl ⟨a, vs, rfl, hq, by rw [rs.length]; exact q3.1, fun p hp => ?_⟩
      exact h4 _ S3 _ _ q3.2 (e123.trans (Ext.new s3 hp)) (s3.new hp) (.tup (.inl upd_same) (s3.fresh hp) ((cut_rds rs l u).ext (Ext.new s3 hp)))
    · cases e : lstOf S3 d with
      | none => rw [e] at q3; exact q3.elim
      | some xs =>
        rw [e] at q3
        obtain ⟨a, vs, rfl, hq, rs⟩ := lst_sq s3 r3 e
        exact .inr ⟨a, vs, rfl, hq, fun p hp => h4 _ S3 _ _ q3 (e123.trans (Ext.new s3 hp)) (s3.new hp) (.lst upd_same (s3.fresh hp) ((cut_rds rs l u).ext (Ext.new s3 hp)))⟩
/-! ### methods of lists -/
/-- the receiver is a list -/
def isLst (S : Sto) (d : D) : Prop := ∃ xs, lstOf S d = some xs
abbrev RMm := D → List D → Sto → MQ → Prop
def MtL (K : PySem.W.Frag) (r : V → List V → Hp → VK → Prop) (rm : RMm) : Prop := ∀ (H : Hp) (S : Sto) (x : V) (xs : List V) (d : D) (ds : List D) (Qm : MQ) (Q : VK), RSto K H S → RD K H S x d → RDs K H S xs ds → rm d ds S Qm → Ref K H S Qm Q → r x xs H Q
def mMt (rm : RMm) (mo : ME) (t : MA) : ME := fun σ S Q E => mo σ S (fun d S1 => isLst S1 d ∧ t σ S1 (fun ds S2 => rm d ds S2 Q) E) E
def mMt0 (rm : RMm) (mo : ME) : ME := fun σ S Q E => mo σ S (fun d S1 => isLst S1 d ∧ rm d [] S1 Q) E
theorem isLst_ty {K : PySem.W.Frag} {H : Hp} {S : Sto} {v : V} {d : D} (s : RSto K H S) (r : RD K H S v d) (h : isLst S d) : tyV K "list" v H := by
  obtain ⟨xs, e⟩ := h
  obtain ⟨a, vs, rfl, hq, _⟩ := lst_sq s r e
  exact .inl ⟨rfl, vs, hq⟩
theorem emt {id : String} {name : Str} {r : V → List V → Hp → VK → Prop} {rm : RMm} {o : Expr} {mo : ME} {es : List Expr} {mas : MA} {apos cpos : Pos} (slot : Slot "list" name id) (hty : typeOf (.builtin id) = pure (.type "method_descriptor")) (hm : MtR X id r) (hl : MtL X.K r rm) (ho : PE X o (upE X.K W mo)) (ha : PA X (e :: es) (upA X.K W mas))
    (hbase : attributeBase o name X.env (eval o X.env) = eval o X.env := by rfl)
    (hfew : ((backTo cpos (starEach (e :: es) X.env)).all (fun x => !x.1) && (backToKw cpos (keywordEach [] X.env)).all (fun x => x.1.isSome)
      && decide ((e :: es).length + ([] : List Keyword).length + (if ([] : List Keyword).isEmpty then 0 else 1) < 30)) = true := by rfl)
    (hline : (apos.endLine == cpos.line) = true := by rfl) (hs : starEach (e :: es) X.env = (false, eval e X.env) :: starEach es X.env := by rfl) (hplain : (backTo cpos (starEach es X.env)).any (·.1) = false := by rfl) :
    PE X (.Call (.Attribute o name apos) (e :: es) [] cpos) (upE X.K W (mMt rm mo mas)) :=
  (pe_bm PySem.F.plainAttrs_list slot hty hm ho ha hbase hfew hline hs hplain).to fun σ H Q ⟨m, S, Qm, Em, h1, h2, h3, h4, h5⟩ =>
    ⟨m, S, _, Em, h1, h2, h3, fun d S1 v H1 q1 e1 s1 r1 => ⟨isLst_ty s1 r1 q1.1, m, S1, _, Em, h1.ext e1, s1, q1.2, fun ds S2 vs H2 q2 e2 s2 r2 => hl H2 S2 v vs d ds Qm Q s2 (r1.ext e2) r2 q2 (h4.ext (e1.trans e2)), h5.ext e1⟩, h5⟩
/-- a list of the store becomes another one -/
theorem chg_lst {K : PySem.W.Frag} {H : Hp} {S : Sto} {p : Addr} {xs ys : List D} {vs : List V} (s : RSto K H S) (e : S p = some (.lst xs)) (r : RDs K H S vs ys) : Ext H S (upd H p (.lst vs)) (put S p (.lst ys)) ∧ RSto K (upd H p (.lst vs)) (put S p (.lst ys)) :=
  ⟨Ext.chg e, s.chg e ⟨vs, upd_same, r.ext (Ext.chg e)⟩⟩
def mtAppend : RMm := fun d ds S Q => match d, ds with
  | .ref p, [y] => match S p with
    | some (.lst xs) => xs.length < sizeLine ∧ Q .non (put S p (.lst (xs ++ [y])))
    | _ => False
  | _, _ => False
theorem ml_append : MtL X.K rAppend mtAppend := fun H S x vs d ds Qm Q s rx rs h k => by
  unfold mtAppend at h
  split at h
  · next p y =>
    cases rx
    obtain ⟨w, rfl, rw1⟩ := rds1 rs
    split at h
    · next xs e =>
      obtain ⟨us, eu, ru⟩ := s p _ e
      obtain ⟨x1, x2⟩ := chg_lst s e (ru.append (.cons rw1 .nil))
      exact ⟨p, us, w, rfl, rfl, eu, by rw [ru.length]; exact h.1, k _ _ _ _ h.2 x1 x2 .non⟩
    · exact h.elim
  · exact h.elim
def mtInsert : RMm := fun d ds S Q => match d, ds with
  | .ref p, [.int i, y] => match S p with
    | some (.lst xs) => (xs.length < sizeLine ∧ 0 ≤ i ∧ i < 2 ^ 63) ∧ Q .non (put S p (.lst (xs.take i.toNat ++ [y] ++ xs.drop i.toNat)))
    | _ => False
  | _, _ => False
theorem ml_insert : MtL X.K (fun x vs H Q => ∃ (l : Addr) (xs : List V) (i : Int) (y : V), x = .ref l ∧ vs = [.int i, y] ∧ H l = some (.lst xs) ∧ xs.length < sizeLine ∧ 0 ≤ i ∧ i < 2 ^ 63 ∧ Q .non (upd H l (.lst (xs.take i.toNat ++ [y] ++ xs.drop i.toNat)))) mtInsert := fun H S x vs d ds Qm Q s rx rs h k => by
  unfold mtInsert at h
  split at h
  · next p i y =>
    cases rx
    obtain ⟨v, w, rfl, rv, rw1⟩ := rds2 rs
    cases rv
    split at h
    · next xs e =>
      obtain ⟨us, eu, ru⟩ := s p _ e
      obtain ⟨x1, x2⟩ := chg_lst s e (((ru.take i.toNat).append (.cons rw1 .nil)).append (ru.drop i.toNat))
      exact ⟨p, us, i, w, rfl, rfl, eu, by rw [ru.length]; exact h.1.1, h.1.2.1, h.1.2.2, k _ _ _ _ h.2 x1 x2 .non⟩
    · exact h.elim
  · exact h.elim
/-- pop(): the last one; pop(i) -/
def mtPop : RMm := fun d ds S Q => match d, ds with
  | .ref p, [] => match S p with
    | some (.lst xs) => match xs[xs.length - 1]? with
      | some y => Q y (put S p (.lst xs.dropLast))
      | none => False
    | _ => False
  | _, _ => False
def mtPop0 : RMm := fun d ds S Q => match d, ds with
  | .ref p, [.int 0] => match S p with
    | some (.lst (y :: xs)) => Q y (put S p (.lst xs))
    | _ => False
  | _, _ => False
def mtReverse : RMm := fun d ds S Q => match d, ds with
  | .ref p, [] => match S p with
    | some (.lst xs) => Q .non (put S p (.lst xs.reverse))
    | _ => False
  | _, _ => False
def mtClear : RMm := fun d ds S Q => match d, ds with
  | .ref p, [] => match S p with
    | some (.lst xs) => Q .non (put S p (.lst []))
    | _ => False
  | _, _ => False
def mtExtend : RMm := fun d ds S Q => match d, ds with
  | .ref p, [y] => match S p, ownOf S y with
    | some (.lst xs), some ys => xs.length + ys.length ≤ sizeLine ∧ Q .non (put S p (.lst (xs ++ ys)))
    | _, _ => False
  | _, _ => False
/-- index: the first place of an equal one -/
def idxD (d : D) : List D → Option Nat
  | [] => none
  | e :: es => if D.deq e d = true then some 0 else (idxD d es).map (· + 1)
def mtIndex : RMm := fun d ds S Q => match ds with
  | [y] => match lstOf S d with
    | some xs => (D.plain y = true ∧ D.plains xs = true ∧ D.dep y ≤ 64 ∧ D.deps xs ≤ 63) ∧ match idxD y xs with
      | some j => Q (.int (j : Nat)) S
      | none => False
    | none => False
  | _ => False
theorem lst_dp {K : PySem.W.Frag} {H : Hp} {S : Sto} {v : V} {d : D} {xs : List D} (s : RSto K H S) (r : RD K H S v d) (h : lstOf S d = some xs) (p : D.plains xs = true) : ∃ a, v = .ref a ∧ Dp K H (.ref a) (.list (D.pys xs)) := by
  obtain ⟨a, vs, rfl, hq, rs⟩ := lst_sq s r h
  exact ⟨a, rfl, .lst hq (rs.dp p)⟩
end
end ML
set_option maxRecDepth 100000
namespace ML
open PySem PySem.Spec L2
open PyProof.Rows hiding St
theorem u65 {k : Nat} {A : Around} (r : Room k A) : A.units + 65 < cLine := by have := r.un; omega
section
variable {X : Cx} {W : WX} {a b c e tg : Expr} {ma mb mc m : ME} {pos : Pos} {g : MG}
/-! ### comprehensions -/
def wipeM (σ : MSt) : List Nat → MSt
  | [] => σ
  | v :: vs => (wipeM σ vs).set v none
theorem wipe_rst {K : PySem.W.Frag} {H : Hp} {S : Sto} {σ : L2.St} {m : MSt} (r : RSt K H S σ m) : ∀ vs : List Nat, RSt K H S (wipe σ vs) (wipeM m vs)
  | [] => r
  | v :: vs => (wipe_rst r vs).unset v none
theorem wipe_get {σ : L2.St} {i : Nat} : ∀ {vs : List Nat}, i < σ.length → (wipe σ vs)[i]? = if i ∈ vs then some none else σ[i]?
  | [], _ => by simp [wipe]
  | v :: vs, h => by
    unfold wipe
    by_cases hv : v = i
    · subst hv
      rw [List.getElem?_set_self (by rw [wipe_length]; exact h)]
      simp
    · rw [List.getElem?_set_ne hv, wipe_get h]
      simp [Ne.symm hv]
theorem wipe_ext {σ τ : L2.St} {vs : List Nat} (hl : σ.length = τ.length) (h : ∀ i, i ∉ vs → σ[i]? = τ[i]?) : wipe σ vs = wipe τ vs := by
  apply List.ext_getElem?
  intro i
  by_cases hi : i < σ.length
  · rw [wipe_get hi, wipe_get (by omega)]
    split
    · rfl
    · next hn => exact h i hn
  · rw [List.getElem?_eq_none (by rw [wipe_length]; omega), List.getElem?_eq_none (by rw [wipe_length]; omega)]
theorem wipe_idem {σ : L2.St} {vs : List Nat} : wipe (wipe σ vs) vs = wipe σ vs :=
  wipe_ext (wipe_length _ _) fun i hi => by
    by_cases hl : i < σ.length
    · rw [wipe_get hl, if_neg hi]
    · rw [List.getElem?_eq_none (by rw [wipe_length]; omega), List.getElem?_eq_none (by omega)]
theorem wipe_set {σ : L2.St} {vs : List Nat} {i : Nat} {o : Option V} (h : i ∈ vs) : wipe (σ.set i o) vs = wipe σ vs :=
  wipe_ext (List.length_set ..) fun j hj => List.getElem?_set_ne (fun e => by subst e; exact hj h)
/-- a target that stores the names at vs alone, and raises nothing -/
def upGo (K : PySem.W.Frag) (vs : List Nat) (g : MG) : TG := fun v σ H Q => ∃ d mσ S Qm, RD K H S v d ∧ RSt K H S σ mσ ∧ RSto K H S ∧ g d mσ S Qm (fun _ _ => False) ∧ ∀ m S' σ' H', Qm m S' → Ext H S H' S' → RSto K H' S' → RSt K H' S' σ' m → wipe σ' vs = wipe σ vs → Q σ' H'
theorem gonm {i : Nat} {x : Str} {vs : List Nat} (hN : X.N.Nodup) (hv : i ∈ vs) (hi : X.N[i]? = some x := by rfl) (hx : Loc X.env.scope x := by first | exact Or.inl rfl | exact Or.inr rfl) (hf : X.fn x = true ∨ X.env.scope.names.lookup x = some .local := by first | exact .inr rfl | exact .inl rfl | assumption) :
    PG X (.Name x pos) (upGo X.K vs (gNm i)) := (pg_name hN hi hx hf).to fun v σ H Q ⟨d, m, S, Qm, r, h1, h2, h3, h4⟩ => h4 _ S _ H h3 Ext.refl h2 (h1.set r i) (wipe_set hv)
def upGos (K : PySem.W.Frag) (vs : List Nat) (g : MGs) : TGs := fun us σ H Q => ∃ ds mσ S Qm, RDs K H S us ds ∧ RSt K H S σ mσ ∧ RSto K H S ∧ g ds mσ S Qm (fun _ _ => False) ∧ ∀ m S' σ' H', Qm m S' → Ext H S H' S' → RSto K H' S' → RSt K H' S' σ' m → wipe σ' vs = wipe σ vs → Q σ' H'
theorem gonl {vs : List Nat} : PGs X [] (upGos X.K vs gNl) := by
  constructor
  intro pins s σ H us ws Q I r ⟨ds, m, S, Qm, r1, h1, h2, h3, h4⟩
  cases ds with
  | nil => cases r1; exact pgs_nil.run pins s σ H [] ws Q I r ⟨rfl, h4 m S σ H h3 Ext.refl h2 h1 rfl⟩
  | cons _ _ => exact h3.elim
theorem gocn {vs : List Nat} {gs : MGs} {es : List Expr} (h1 : PG X e (upGo X.K vs g)) (h2 : PGs X es (upGos X.K vs gs)) (hs : (assignEach (e :: es) X.env).map (·.2) = assign e X.env :: (assignEach es X.env).map (·.2) := by rfl) : PGs X (e :: es) (upGos X.K vs (gCn g gs)) := by
  constructor
  intro pins s σ H us ws Q I r ⟨ds, m, S, Qm, r1, k1, k2, k3, k4⟩
  refine (pgs_cons h1 h2 hs).run pins s σ H us ws Q I r ?_
  cases ds with
  | nil => exact k3.elim
  | cons d ds =>
    cases r1 with
    | cons rd rds =>
      refine ⟨_, _, rfl, d, m, S, _, rd, k1, k2, k3, fun m' S' σ' H' q e s' st w1 => ?_⟩
      exact ⟨ds, m', S', Qm, rds.ext e, st, s', q, fun m2 S2 σ2 H2 q2 e2 s2 r2 w2 => k4 m2 S2 σ2 H2 q2 (e.trans e2) s2 r2 (w2.trans w1)⟩
theorem gotp {vs : List Nat} {gs : MGs} {es : List Expr} {k n : Nat} (hc : X.calm = true) (h : PGs X es (upGos X.K vs gs)) (hn : (assignEach es X.env).length = n := by rfl) (hst : (assignEach es X.env).findIdx? (·.1) = none := by rfl) : PG X (.Tuple es k pos) (upGo X.K vs (gTp n gs)) :=
  (pg_tup hc h hn hst).to fun v σ H Q ⟨d, m, S, Qm, r, h1, h2, h3, h4⟩ => by
    cases d with
    | tup ds =>
      obtain ⟨a, us, rfl, hq, rs⟩ := r.tupSq
      exact ⟨a, us, rfl, hq, rs.length.trans h3.1, ds, m, S, Qm, rs, h1, h2, h3.2, h4⟩
    | _ => exact h3.elim
abbrev W0 : WX := fun _ _ _ _ => False
def mYes : MT := fun _ S Q _ => Q true S
theorem tsNil : PTs X [] (upT X.K W0 mYes) := by
  constructor
  intro pins s σ H Q I ⟨m, S, Qm, Em, h1, h2, h3, h4, _⟩
  exact pts_nil.run pins s σ H Q I (h4 true S H h3 Ext.refl h2)
def noX : MXQ := fun _ _ => False
def wlc (G : Sto → Prop) (g : MG) (mt : MT) (me : ME) (p : Addr) (own : List Nat) (σ : MSt) (fin : List D → Sto → Prop) (items : List D) (S : Sto) : Prop := ∃ I : Nat → Sto → Prop, I 0 S ∧ ∀ i S, i ≤ items.length → I i S → G S ∧ match items[i]? with
  | some d => g d (wipeM σ own) S (fun σ2 S2 => mt σ2 S2 (fun k S3 => if k = true then me σ2 S3 (fun y S4 => ∃ acc, S4 p = some (.lst acc) ∧ acc.length < sizeLine ∧ I (i + 1) (put S4 p (.lst (acc ++ [y])))) noX else I (i + 1) S3) noX) noX
  | none => ∃ acc, S p = some (.lst acc) ∧ fin acc S
def del (S : Sto) (p : Addr) : Sto := fun b => if b = p then none else S b
theorem del_put {S : Sto} {p : Addr} {o : MO} (h : S p = none) : del (put S p o) p = S := by
  funext b; unfold del put
  by_cases e : b = p
  · subst e; rw [if_pos rfl, h]
  · rw [if_neg e, if_neg e]
/-- a new list of the store; one that stays -/
def mComp (mi : MI) (g : MG) (mt : MT) (me : ME) (own : List Nat) : ME := fun σ S Q E => mi σ S (fun items G S1 => ∀ p, S1 p = none → wlc G g mt me p own σ (fun _ S2 => Q (.ref p) S2) items (put S1 p (.lst []))) E
def mCompF (mi : MI) (g : MG) (mt : MT) (me : ME) (own : List Nat) : ME := fun σ S Q E => mi σ S (fun items G S1 => ∀ p, S1 p = none → wlc G g mt me p own σ (fun acc S2 => Q (.lst acc) (del S2 p)) items (put S1 p (.lst []))) E
/-- what the rule below wants, from the reading -/
theorem lc_to {mt : MT} {me : ME} {vs : List Nat} {K : PySem.W.Frag} {σ : L2.St} {m : MSt} {H1 : Hp} {S1 : Sto} {J : It} {items : List D} {G : Sto → Prop} {Dp : Addr} {Q : VK} {fin : List D → Sto → Prop} (h1 : RSt K H1 S1 σ m) (s1 : RSto K H1 S1) (it : ItOk K H1 S1 J items G)
    (hD : H1 Dp = none) (h : wlc G g mt me Dp vs m fin items (put S1 Dp (.lst [])))
    (hf : ∀ acc H S, fin acc S → S Dp = some (.lst acc) → Ext H1 S1 H S → RSto K H S → Q (.ref Dp) H) :
    ∃ W : Nat → Nat → Hp → Prop, (∃ n, W 0 n (upd H1 Dp (.lst []))) ∧ ∀ i n H, W i n H → (J.stop i H ∧ Q (.ref Dp) H) ∨ (J.go i H ∧ ∃ Nx : Hp → Prop, (∀ H', Nx H' → ∃ m', m' < n ∧ W (i + 1) m' H') ∧ ∀ x H', J.yld i H x H' →
      upGo K vs g x (wipe σ vs) H' fun σ2 H2 => wipe σ2 vs = wipe σ vs ∧ upT K W0 mt σ2 H2 fun b H3 => if b = true then upE K W0 me σ2 H3 fun y H4 => ∃ acc, H4 Dp = some (.lst acc) ∧ acc.length < sizeLine ∧ Nx (upd H4 Dp (.lst (acc ++ [y]))) else Nx H3) := by
  have x0 : Ext H1 S1 (upd H1 Dp (.lst [])) (put S1 Dp (.lst [])) := Ext.newS s1 hD
  obtain ⟨I, i0, turn⟩ := h
  refine ⟨fun i n H => n = items.length - i ∧ i ≤ items.length ∧ ∃ S, RSto K H S ∧ Ext H1 S1 H S ∧ I i S, ⟨items.length, by simp, Nat.zero_le _, _, s1.newS (o := .lst []) hD ⟨[], upd_same, .nil⟩, x0, i0⟩, ?_⟩
  rintro i n H ⟨rfl, hle, S, s, e, q⟩
  obtain ⟨gS, q⟩ := turn i S hle q
  by_cases hlt : i < items.length
  · rw [List.getElem?_eq_getElem hlt] at q
    refine .inr ⟨it.go i H S e s gS hlt, fun H' => ∃ S', RSto K H' S' ∧ Ext H1 S1 H' S' ∧ I (i + 1) S', fun H' z => ⟨items.length - (i + 1), by omega, rfl, hlt, z⟩, fun v H2 y => ?_⟩
    obtain ⟨e2, s2, r2⟩ := it.yld i H S v H2 _ e s gS (List.getElem?_eq_getElem hlt) y
    refine ⟨_, wipeM m vs, S, _, r2, wipe_rst (h1.ext (e.trans e2)) vs, s2, q, fun m3 S3 σ3 H3 q3 e3 s3 r3 w3 => ⟨w3.trans wipe_idem, m3, S3, _, noX, r3, s3, q3, fun k S4 H4 q4 e4 s4 => ?_, fun _ _ _ _ _ z => z.elim⟩⟩
    have e1234 := e.trans (e2.trans (e3.trans e4))
    cases k with
    | true =>
      rw [if_pos rfl] at q4
      show (if true = true then _ else _)
      rw [if_pos rfl]
      refine ⟨m3, S4, _, noX, r3.ext e4, s4, q4, fun d S5 w5 H5 q5 e5 s5 r5 => ?_, fun _ _ _ _ _ z => z.elim⟩
      obtain ⟨acc, ea, hz, q6⟩ := q5
      obtain ⟨us, eu, ru⟩ := s5 _ _ ea
      obtain ⟨x1, x2⟩ := chg_lst s5 ea (ru.append (.cons r5 .nil))
      exact ⟨us, eu, by rw [ru.length]; exact hz, _, x2, e1234.trans (e5.trans x1), q6⟩
    | false =>
      rw [if_neg Bool.false_ne_true] at q4
      show (if false = true then _ else _)
      rw [if_neg Bool.false_ne_true]
      exact ⟨S4, s4, e1234, q4⟩
  · rw [List.getElem?_eq_none (by omega)] at q
    obtain ⟨acc, ea, q⟩ := q
    exact .inl ⟨it.stop i H S e s gS (by omega), hf acc H S q ea e s⟩
theorem rsto_del {K : PySem.W.Frag} {H : Hp} {S : Sto} {p : Addr} (s : RSto K H S) : Ext H S H (del S p) := fun a o h n => ⟨h, by unfold del; split <;> first | rfl | exact n⟩
theorem rsto_del' {K : PySem.W.Frag} {H : Hp} {S : Sto} {p : Addr} (s : RSto K H S) : RSto K H (del S p) := fun a o e => by
  unfold del at e
  split at e
  · cases e
  · exact (s a o e).ext (rsto_del s) rfl
theorem ecompF {elt iter : Expr} {ifs : List Expr} {scope : Scope} {own : List (Str × Nat)} {mi : MI} {mt : MT} {me : ME} (hc : X.calm = true) (hN : X.N.Nodup) (hi : PI X tg iter (upI X.K W mi)) (ok : BlkOk X.N X.env.scope scope own)
    (hg : ∀ (s : Shared) (H : Hp) (C : Addr) (cl : List (Str × Addr)) (fp : List Addr), PG (X.blk s H scope (compEnvC scope cl C X.env) fp) tg (upGo X.K (own.map (·.2)) g)) (ht : ∀ (s : Shared) (H : Hp) (C : Addr) (cl : List (Str × Addr)) (fp : List Addr), PTs (X.blk s H scope (compEnvC scope cl C X.env) fp) ifs (upT X.K W0 mt))
    (he : ∀ (s : Shared) (H : Hp) (C : Addr) (cl : List (Str × Addr)) (fp : List Addr), PE (X.blk s H scope (compEnvC scope cl C X.env) fp) elt (upE X.K W0 me)) (hs : ∀ x, foldedSetIterable iter X.env x = pure x := by intro _; rfl) :
    PE X (.ListComp elt [⟨tg, iter, ifs, 0⟩] scope pos) (upE X.K W (mCompF mi g mt me (own.map (·.2)))) :=
  (pe_lc hc hN hi ok hg ht he hs).to fun σ H Q ⟨m, S, Qm, Em, h1, h2, h3, h4, h5⟩ => ⟨m, S, _, Em, h1, h2, h3, fun items G S1 J H1 q e1 s1 it Dp hD =>
    lc_to (h1.ext e1) s1 it hD (q Dp (s1.fresh hD)) fun acc H' S' f ea e' s' => by
      obtain ⟨us, eu, ru⟩ := s' _ _ ea
      exact h4 _ (del S' Dp) _ H' f (e1.trans (e'.trans (rsto_del s'))) (rsto_del' s') (.lst eu (if_pos rfl) (ru.ext (rsto_del s'))), h5⟩
end
/-! ### the head's facts, with what isinstance answers -/
def kitB (K : PySem.W.Frag) (u : String) : Bool := (["NoneType", "bool", "int", "str", "tuple", "list", "dict"] : List String).all fun t => decide (PySem.W.kitOne K (.type t) (.type u) = some (isTy t u))
abbrev AlK : Type := He.AlD × Bool
def obsK (fa : List He.Fa) (fn : List He.DefD) (ks : List String) (K : PySem.W.Frag) : AlK := (He.obsD fa fn K, ks.all (kitB K))
structure SaysK (fa : List He.Fa) (fn : List He.DefD) (ks : List String) (K : PySem.W.Frag) : Prop where
  says : He.SaysD fa fn K
  kits : ks.all (kitB K) = true
def obsKG (n : Nat) (fa : List He.Fa) (fn : List He.DefD) (ks : List String) (g : Addr → Option Obj) : AlK := obsK fa fn ks (He.frG g (He.asD g n))
end ML
namespace ML
open PySem PySem.Spec L2
/-! ### side conditions -/
theorem mulok_r {i j : Int} (h1 : -(2 ^ 64) < j) (h2 : j < 2 ^ 64) : IntMulOk i j := .of_right (intBits_le_64 h1 h2)
theorem mulok_l {i j : Int} (h1 : -(2 ^ 64) < i) (h2 : i < 2 ^ 64) : IntMulOk i j := .of_left (intBits_le_64 h1 h2)
theorem mulok_w {i j : Int} {a b : Nat} (ha : i.natAbs < 2 ^ a) (hb : j.natAbs < 2 ^ b) (h0 : 0 < a) (h1 : 0 < b) (h : a + b ≤ 1000000) : IntMulOk i j := (wide_mul ha hb h0 h1 h).ok
theorem divok_s {i j : Int} (h0 : j ≠ 0) (h : j.natAbs < 1073741824) : DivOk i j := ⟨h0, PyProof.noPylong_small h⟩
theorem divok_w {i j : Int} {b : Nat} (h0 : j ≠ 0) (hb : j.natAbs < 2 ^ b) (h1 : 0 < b) (h : b ≤ 9000) : DivOk i j := ⟨h0, PyProof.noPylong_of_log2 (Nat.lt_of_lt_of_le (PySem.Flt.log2_lt_of h1 hb) h)⟩
theorem fdiv_pos {i j : Int} (h : 0 ≤ j) : i.fdiv j = i / j := Int.fdiv_eq_ediv_of_nonneg i h
theorem fmod_pos {i j : Int} (h : 0 ≤ j) : i.fmod j = i % j := Int.fmod_eq_emod_of_nonneg i h
theorem line_le {n : Nat} (h : n ≤ 1000) : n ≤ sizeLine := by rw [sizeLine_eq]; omega
theorem line_lt {n : Nat} (h : n ≤ 1000) : n < sizeLine := by rw [sizeLine_eq]; omega
theorem isTy_NoneType_int : isTy "NoneType" "int" = false := by decide
theorem isTy_NoneType_bool : isTy "NoneType" "bool" = false := by decide
theorem isTy_NoneType_tuple : isTy "NoneType" "tuple" = false := by decide
theorem isTy_NoneType_list : isTy "NoneType" "list" = false := by decide
theorem isTy_NoneType_str : isTy "NoneType" "str" = false := by decide
theorem isTy_bool_int : isTy "bool" "int" = true := by decide
theorem isTy_bool_bool : isTy "bool" "bool" = true := by decide
theorem isTy_bool_tuple : isTy "bool" "tuple" = false := by decide
theorem isTy_bool_list : isTy "bool" "list" = false := by decide
theorem isTy_bool_str : isTy "bool" "str" = false := by decide
theorem isTy_int_int : isTy "int" "int" = true := by decide
theorem isTy_int_bool : isTy "int" "bool" = false := by decide
theorem isTy_int_tuple : isTy "int" "tuple" = false := by decide
theorem isTy_int_list : isTy "int" "list" = false := by decide
theorem isTy_int_str : isTy "int" "str" = false := by decide
theorem isTy_str_int : isTy "str" "int" = false := by decide
theorem isTy_str_bool : isTy "str" "bool" = false := by decide
theorem isTy_str_tuple : isTy "str" "tuple" = false := by decide
theorem isTy_str_list : isTy "str" "list" = false := by decide
theorem isTy_str_str : isTy "str" "str" = true := by decide
theorem isTy_tuple_int : isTy "tuple" "int" = false := by decide
theorem isTy_tuple_bool : isTy "tuple" "bool" = false := by decide
theorem isTy_tuple_tuple : isTy "tuple" "tuple" = true := by decide
theorem isTy_tuple_list : isTy "tuple" "list" = false := by decide
theorem isTy_tuple_str : isTy "tuple" "str" = false := by decide
theorem isTy_list_int : isTy "list" "int" = false := by decide
theorem isTy_list_bool : isTy "list" "bool" = false := by decide
theorem isTy_list_tuple : isTy "list" "tuple" = false := by decide
theorem isTy_list_list : isTy "list" "list" = true := by decide
theorem isTy_list_str : isTy "list" "str" = false := by decide
theorem isTy_dict_int : isTy "dict" "int" = false := by decide
theorem isTy_dict_bool : isTy "dict" "bool" = false := by decide
theorem isTy_dict_tuple : isTy "dict" "tuple" = false := by decide
theorem isTy_dict_list : isTy "dict" "list" = false := by decide
theorem isTy_dict_str : isTy "dict" "str" = false := by decide
theorem deq_int {a b : Int} : D.deq (.int a) (.int b) = decide (a = b) := by rw [D.deq, Bool.beq_eq_decide_eq]
theorem deq_bl {a b : Bool} : D.deq (.bl a) (.bl b) = (a == b) := by rw [D.deq]
theorem deq_str {a b : Str} : D.deq (.str a) (.str b) = decide (a = b) := by rw [D.deq, Bool.beq_eq_decide_eq]
theorem deq_non : D.deq .non .non = true := by rw [D.deq]
theorem eqOk_int {a b : Int} : eqOk (.int a) (.int b) = true := by simp [eqOk, D.plain, D.dep]
theorem eqOk_bl {a b : Bool} : eqOk (.bl a) (.bl b) = true := rfl
theorem wfor_inv {G : Sto → Prop} {g : MG} {mb : MS} {D : MEnds} {items : List ML.D} {σ : MSt} {S : Sto} (I : Nat → MSt → Sto → Prop) (h0 : I 0 σ S)
    (hs : ∀ i d σ S, items[i]? = some d → I i σ S → G S ∧ g d σ S (fun σ' S' => mb { D with nx := I (i + 1), ct := I (i + 1), bk := D.nx } σ' S') (xAt D σ)) (hd : ∀ σ S, I items.length σ S → G S ∧ D.nx σ S) : wfor G g mb D items σ S := by
  refine ⟨I, h0, fun i σ S hi h => ?_⟩
  cases e : items[i]? with
  | some d => exact hs i d σ S e h
  | none =>
    have : i = items.length := by have := List.getElem?_eq_none_iff.mp e; omega
    subst this; exact hd σ S h
theorem rng_inv {lo : Int} {n : Nat} {g : MG} {mb : MS} {D : MEnds} {σ : MSt} {S : Sto} (I : Nat → MSt → Sto → Prop) (h0 : I 0 σ S)
    (hs : ∀ i σ S, i < n → I i σ S → g (.int (lo + (i : Nat))) σ S (fun σ' S' => mb { D with nx := I (i + 1), ct := I (i + 1), bk := D.nx } σ' S') (xAt D σ)) (hd : ∀ σ S, I n σ S → D.nx σ S) : wfor (fun _ => True) g mb D (rngD lo n) σ S :=
  wfor_inv I h0 (fun i d σ S e h => by
    have hi : i < n := by
      have := (List.getElem?_eq_some_iff.mp e).1
      rwa [rngD_len] at this
    rw [rngD_get e]; exact ⟨trivial, hs i σ S hi h⟩) fun σ S h => ⟨trivial, hd σ S (by rwa [rngD_len] at h)⟩
end ML
namespace ML
open PySem PySem.Spec L2
theorem q_mSeq : type_of% @mSeq.eq_def := by intros; exact Eq.trans (mSeq.eq_def ..) (Eq.refl _)
theorem q_mSet : type_of% @mSet.eq_def := by intros; exact Eq.trans (mSet.eq_def ..) (Eq.refl _)
theorem q_mC : type_of% @mC.eq_def := by intros; exact Eq.trans (mC.eq_def ..) (Eq.refl _)
theorem q_mVar : type_of% @mVar.eq_def := by intros; exact Eq.trans (mVar.eq_def ..) (Eq.refl _)
theorem q_mOp : type_of% @mOp.eq_def := by intros; exact Eq.trans (mOp.eq_def ..) (Eq.refl _)
theorem q_mUn : type_of% @mUn.eq_def := by intros; exact Eq.trans (mUn.eq_def ..) (Eq.refl _)
theorem q_mTst : type_of% @mTst.eq_def := by intros; exact Eq.trans (mTst.eq_def ..) (Eq.refl _)
theorem q_mTru : type_of% @mTru.eq_def := by intros; exact Eq.trans (mTru.eq_def ..) (Eq.refl _)
theorem q_mIfS : type_of% @mIfS.eq_def := by intros; exact Eq.trans (mIfS.eq_def ..) (Eq.refl _)
theorem q_mIf : type_of% @mIf.eq_def := by intros; exact Eq.trans (mIf.eq_def ..) (Eq.refl _)
theorem q_mAnd : type_of% @mAnd.eq_def := by intros; exact Eq.trans (mAnd.eq_def ..) (Eq.refl _)
theorem q_mOr : type_of% @mOr.eq_def := by intros; exact Eq.trans (mOr.eq_def ..) (Eq.refl _)
theorem q_mNot : type_of% @mNot.eq_def := by intros; exact Eq.trans (mNot.eq_def ..) (Eq.refl _)
theorem q_mAndV : type_of% @mAndV.eq_def := by intros; exact Eq.trans (mAndV.eq_def ..) (Eq.refl _)
theorem q_mOrV : type_of% @mOrV.eq_def := by intros; exact Eq.trans (mOrV.eq_def ..) (Eq.refl _)
theorem q_mNotV : type_of% @mNotV.eq_def := by intros; exact Eq.trans (mNotV.eq_def ..) (Eq.refl _)
theorem q_mRet : type_of% @mRet.eq_def := by intros; exact Eq.trans (mRet.eq_def ..) (Eq.refl _)
theorem q_mRetN : type_of% @mRetN.eq_def := by intros; exact Eq.trans (mRetN.eq_def ..) (Eq.refl _)
theorem q_mExpr : type_of% @mExpr.eq_def := by intros; exact Eq.trans (mExpr.eq_def ..) (Eq.refl _)
theorem q_mNext : type_of% @mNext.eq_def := by intros; exact Eq.trans (mNext.eq_def ..) (Eq.refl _)
theorem q_mBreak : type_of% @mBreak.eq_def := by intros; exact Eq.trans (mBreak.eq_def ..) (Eq.refl _)
theorem q_mCont : type_of% @mCont.eq_def := by intros; exact Eq.trans (mCont.eq_def ..) (Eq.refl _)
theorem q_mAsg : type_of% @mAsg.eq_def := by intros; exact Eq.trans (mAsg.eq_def ..) (Eq.refl _)
theorem q_mPar : type_of% @mPar.eq_def := by intros; exact Eq.trans (mPar.eq_def ..) (Eq.refl _)
theorem q_gNm : type_of% @gNm.eq_def := by intros; exact Eq.trans (gNm.eq_def ..) (Eq.refl _)
theorem q_gLs : type_of% @gLs.eq_def := by intros; exact Eq.trans (gLs.eq_def ..) (Eq.refl _)
theorem q_gCn : type_of% @gCn.eq_def := by intros; exact Eq.trans (gCn.eq_def ..) (Eq.refl _)
theorem q_gNl : type_of% @gNl.eq_def := by intros; exact Eq.trans (gNl.eq_def ..) (Eq.refl _)
theorem q_gSb : type_of% @gSb.eq_def := by intros; exact Eq.trans (gSb.eq_def ..) (Eq.refl _)
theorem q_mTup : type_of% @mTup.eq_def := by intros; exact Eq.trans (mTup.eq_def ..) (Eq.refl _)
theorem q_mLst : type_of% @mLst.eq_def := by intros; exact Eq.trans (mLst.eq_def ..) (Eq.refl _)
theorem q_mLstF : type_of% @mLstF.eq_def := by intros; exact Eq.trans (mLstF.eq_def ..) (Eq.refl _)
theorem q_mCons : type_of% @mCons.eq_def := by intros; exact Eq.trans (mCons.eq_def ..) (Eq.refl _)
theorem q_mNil : type_of% @mNil.eq_def := by intros; exact Eq.trans (mNil.eq_def ..) (Eq.refl _)
theorem q_mCall : type_of% @mCall.eq_def := by intros; exact Eq.trans (mCall.eq_def ..) (Eq.refl _)
theorem q_mBlt : type_of% @mBlt.eq_def := by intros; exact Eq.trans (mBlt.eq_def ..) (Eq.refl _)
theorem q_bLen : type_of% @bLen.eq_def := by intros; exact Eq.trans (bLen.eq_def ..) (Eq.refl _)
theorem q_bAbs : type_of% @bAbs.eq_def := by intros; exact Eq.trans (bAbs.eq_def ..) (Eq.refl _)
theorem q_bMax2 : type_of% @bMax2.eq_def := by intros; exact Eq.trans (bMax2.eq_def ..) (Eq.refl _)
theorem q_bMin2 : type_of% @bMin2.eq_def := by intros; exact Eq.trans (bMin2.eq_def ..) (Eq.refl _)
theorem q_bInt : type_of% @bInt.eq_def := by intros; exact Eq.trans (bInt.eq_def ..) (Eq.refl _)
theorem q_bTuple : type_of% @bTuple.eq_def := by intros; exact Eq.trans (bTuple.eq_def ..) (Eq.refl _)
theorem q_bList : type_of% @bList.eq_def := by intros; exact Eq.trans (bList.eq_def ..) (Eq.refl _)
theorem q_bListF : type_of% @bListF.eq_def := by intros; exact Eq.trans (bListF.eq_def ..) (Eq.refl _)
theorem q_bAll : type_of% @bAll.eq_def := by intros; exact Eq.trans (bAll.eq_def ..) (Eq.refl _)
theorem q_lenD : type_of% @lenD.eq_def := by intros; exact Eq.trans (lenD.eq_def ..) (Eq.refl _)
theorem q_truD : type_of% @truD.eq_def := by intros; exact Eq.trans (truD.eq_def ..) (Eq.refl _)
theorem q_lstOf : type_of% @lstOf.eq_def := by intros; exact Eq.trans (lstOf.eq_def ..) (Eq.refl _)
theorem q_ownOf : type_of% @ownOf.eq_def := by intros; exact Eq.trans (ownOf.eq_def ..) (Eq.refl _)
theorem q_rInt : type_of% @rInt.eq_def := by intros; exact Eq.trans (rInt.eq_def ..) (Eq.refl _)
theorem q_rInt0 : type_of% @rInt0.eq_def := by intros; exact Eq.trans (rInt0.eq_def ..) (Eq.refl _)
theorem q_rSub : type_of% @rSub.eq_def := by intros; exact Eq.trans (rSub.eq_def ..) (Eq.refl _)
theorem q_rMul : type_of% @rMul.eq_def := by intros; exact Eq.trans (rMul.eq_def ..) (Eq.refl _)
theorem q_rDiv : type_of% @rDiv.eq_def := by intros; exact Eq.trans (rDiv.eq_def ..) (Eq.refl _)
theorem q_rMod : type_of% @rMod.eq_def := by intros; exact Eq.trans (rMod.eq_def ..) (Eq.refl _)
theorem q_rPow : type_of% @rPow.eq_def := by intros; exact Eq.trans (rPow.eq_def ..) (Eq.refl _)
theorem q_rAdd : type_of% @rAdd.eq_def := by intros; exact Eq.trans (rAdd.eq_def ..) (Eq.refl _)
theorem q_rLt : type_of% @rLt.eq_def := by intros; exact Eq.trans (rLt.eq_def ..) (Eq.refl _)
theorem q_rLe : type_of% @rLe.eq_def := by intros; exact Eq.trans (rLe.eq_def ..) (Eq.refl _)
theorem q_rGt : type_of% @rGt.eq_def := by intros; exact Eq.trans (rGt.eq_def ..) (Eq.refl _)
theorem q_rGe : type_of% @rGe.eq_def := by intros; exact Eq.trans (rGe.eq_def ..) (Eq.refl _)
theorem q_rNeg : type_of% @rNeg.eq_def := by intros; exact Eq.trans (rNeg.eq_def ..) (Eq.refl _)
theorem q_rIxM : type_of% @rIxM.eq_def := by intros; exact Eq.trans (rIxM.eq_def ..) (Eq.refl _)
theorem q_ixL : type_of% @ixL.eq_def := by intros; exact Eq.trans (ixL.eq_def ..) (Eq.refl _)
theorem q_rIsN : type_of% @rIsN.eq_def := by intros; exact Eq.trans (rIsN.eq_def ..) (Eq.refl _)
theorem q_rNotN : type_of% @rNotN.eq_def := by intros; exact Eq.trans (rNotN.eq_def ..) (Eq.refl _)
theorem q_isN : type_of% @isN.eq_def := by intros; exact Eq.trans (isN.eq_def ..) (Eq.refl _)
theorem q_rEqM : type_of% @rEqM.eq_def := by intros; exact Eq.trans (rEqM.eq_def ..) (Eq.refl _)
theorem q_rNeM : type_of% @rNeM.eq_def := by intros; exact Eq.trans (rNeM.eq_def ..) (Eq.refl _)
theorem q_rInM : type_of% @rInM.eq_def := by intros; exact Eq.trans (rInM.eq_def ..) (Eq.refl _)
theorem q_mIsi : type_of% @mIsi.eq_def := by intros; exact Eq.trans (mIsi.eq_def ..) (Eq.refl _)
theorem q_tyD : type_of% @tyD.eq_def := by intros; exact Eq.trans (tyD.eq_def ..) (Eq.refl _)
theorem q_mCut : type_of% @mCut.eq_def := by intros; exact Eq.trans (mCut.eq_def ..) (Eq.refl _)
theorem q_oNo : type_of% @oNo.eq_def := by intros; exact Eq.trans (oNo.eq_def ..) (Eq.refl _)
theorem q_oSo : type_of% @oSo.eq_def := by intros; exact Eq.trans (oSo.eq_def ..) (Eq.refl _)
theorem q_mMt : type_of% @mMt.eq_def := by intros; exact Eq.trans (mMt.eq_def ..) (Eq.refl _)
theorem q_mMt0 : type_of% @mMt0.eq_def := by intros; exact Eq.trans (mMt0.eq_def ..) (Eq.refl _)
theorem q_mtAppend : type_of% @mtAppend.eq_def := by intros; exact Eq.trans (mtAppend.eq_def ..) (Eq.refl _)
theorem q_mtInsert : type_of% @mtInsert.eq_def := by intros; exact Eq.trans (mtInsert.eq_def ..) (Eq.refl _)
theorem q_mtPop : type_of% @mtPop.eq_def := by intros; exact Eq.trans (mtPop.eq_def ..) (Eq.refl _)
theorem q_mtPop0 : type_of% @mtPop0.eq_def := by intros; exact Eq.trans (mtPop0.eq_def ..) (Eq.refl _)
theorem q_mtReverse : type_of% @mtReverse.eq_def := by intros; exact Eq.trans (mtReverse.eq_def ..) (Eq.refl _)
theorem q_mtClear : type_of% @mtClear.eq_def := by intros; exact Eq.trans (mtClear.eq_def ..) (Eq.refl _)
theorem q_mtExtend : type_of% @mtExtend.eq_def := by intros; exact Eq.trans (mtExtend.eq_def ..) (Eq.refl _)
theorem q_mtIndex : type_of% @mtIndex.eq_def := by intros; exact Eq.trans (mtIndex.eq_def ..) (Eq.refl _)
theorem q_rSetM : type_of% @rSetM.eq_def := by intros; exact Eq.trans (rSetM.eq_def ..) (Eq.refl _)
theorem q_setAt : type_of% @setAt.eq_def := by intros; exact Eq.trans (setAt.eq_def ..) (Eq.refl _)
theorem q_mends : type_of% @mends.eq_def := by intros; exact Eq.trans (mends.eq_def ..) (Eq.refl _)
theorem q_mstart : type_of% @mstart.eq_def := by intros; exact Eq.trans (mstart.eq_def ..) (Eq.refl _)
theorem q_mFor : type_of% @mFor.eq_def := by intros; exact Eq.trans (mFor.eq_def ..) (Eq.refl _)
theorem q_iL : type_of% @iL.eq_def := by intros; exact Eq.trans (iL.eq_def ..) (Eq.refl _)
theorem q_iT : type_of% @iT.eq_def := by intros; exact Eq.trans (iT.eq_def ..) (Eq.refl _)
theorem q_iR1 : type_of% @iR1.eq_def := by intros; exact Eq.trans (iR1.eq_def ..) (Eq.refl _)
theorem q_iR2 : type_of% @iR2.eq_def := by intros; exact Eq.trans (iR2.eq_def ..) (Eq.refl _)
theorem q_iEn : type_of% @iEn.eq_def := by intros; exact Eq.trans (iEn.eq_def ..) (Eq.refl _)
theorem q_iZp : type_of% @iZp.eq_def := by intros; exact Eq.trans (iZp.eq_def ..) (Eq.refl _)
theorem q_mChain : type_of% @mChain.eq_def := by intros; exact Eq.trans (mChain.eq_def ..) (Eq.refl _)
theorem q_mYes : type_of% @mYes.eq_def := by intros; exact Eq.trans (mYes.eq_def ..) (Eq.refl _)
theorem q_mCompF : type_of% @mCompF.eq_def := by intros; exact Eq.trans (mCompF.eq_def ..) (Eq.refl _)
theorem q_mComp : type_of% @mComp.eq_def := by intros; exact Eq.trans (mComp.eq_def ..) (Eq.refl _)
theorem q_wipeM : type_of% @wipeM.eq_def := by intros; exact Eq.trans (wipeM.eq_def ..) (Eq.refl _)
theorem q_rIsBM : type_of% @rIsBM.eq_def := by intros; exact Eq.trans (rIsBM.eq_def ..) (Eq.refl _)
theorem q_xAt : type_of% @xAt.eq_def := by intros; exact Eq.trans (xAt.eq_def ..) (Eq.refl _)
end ML
set_option maxRecDepth 100000
namespace ML
open PySem PySem.Spec L2
open PyProof.Rows hiding St
end ML
set_option maxRecDepth 100000
namespace ML
open PySem PySem.Spec L2
/-! ### readings opened lazily: at a call, a branch, a loop the opening stops; what is held as an instance is left alone -/
class Hold (α : Type) where
  v : α
theorem Hold_v {α : Type} {x : α} : (Hold.mk x).v = x := Eq.trans rfl rfl
def CallP (sp : MSp) (ds : List D) (S : Sto) [Q : Hold MQ] [E : Hold MXQ] : Prop := sp ds S Q.v E.v
def IteP (c : Prop) [A : Hold Prop] [B : Hold Prop] : Prop := (c → A.v) ∧ (¬ c → B.v)
theorem IteP_true {A B : Hold Prop} : @IteP True A B = A.v := propext ⟨fun h => h.1 trivial, fun h => ⟨fun _ => h, fun z => (z trivial).elim⟩⟩
theorem IteP_false {A B : Hold Prop} : @IteP False A B = B.v := propext ⟨fun h => h.2 id, fun h => ⟨fun z => z.elim, fun _ => h⟩⟩
theorem IteP_bool {b : Bool} {A B : Prop} : (if b = true then A else B) = @IteP (b = true) ⟨A⟩ ⟨B⟩ := by
  cases b
  · rw [if_neg Bool.false_ne_true]; exact propext ⟨fun h => ⟨fun z => (Bool.false_ne_true z).elim, fun _ => h⟩, fun h => h.2 Bool.false_ne_true⟩
  · rw [if_pos rfl]; exact propext ⟨fun h => ⟨fun _ => h, fun z => (z rfl).elim⟩, fun h => h.1 rfl⟩
theorem l_mCall {sp : MSp} {t : MA} {σ : MSt} {S : Sto} {Q : MQ} {E : MXQ} : mCall sp t σ S Q E = t σ S (fun ds S1 => @CallP sp ds S1 ⟨Q⟩ ⟨E⟩) E := Eq.trans rfl rfl
theorem l_mAnd {t u : MT} {σ : MSt} {S : Sto} {Q : Bool → Sto → Prop} {E : MXQ} : mAnd t u σ S Q E = t σ S (fun c S1 => @IteP (c = true) ⟨u σ S1 Q E⟩ ⟨Q false S1⟩) E := by
  unfold mAnd; simp only [IteP_bool]
theorem l_mOr {t u : MT} {σ : MSt} {S : Sto} {Q : Bool → Sto → Prop} {E : MXQ} : mOr t u σ S Q E = t σ S (fun c S1 => @IteP (c = true) ⟨Q true S1⟩ ⟨u σ S1 Q E⟩) E := by
  unfold mOr; simp only [IteP_bool]
theorem l_mAndV {ma mb : ME} {σ : MSt} {S : Sto} {Q : MQ} {E : MXQ} : mAndV ma mb σ S Q E = ma σ S (fun d S1 => match d with
  | .bl k => @IteP (k = true) ⟨mb σ S1 Q E⟩ ⟨Q (.bl false) S1⟩
  | _ => False) E := by
  unfold mAndV
  apply congrArg (fun f => ma σ S f E)
  funext d S1
  cases d <;> first | rfl | exact IteP_bool
theorem l_mOrV {ma mb : ME} {σ : MSt} {S : Sto} {Q : MQ} {E : MXQ} : mOrV ma mb σ S Q E = ma σ S (fun d S1 => match d with
  | .bl k => @IteP (k = true) ⟨Q (.bl true) S1⟩ ⟨mb σ S1 Q E⟩
  | _ => False) E := by
  unfold mOrV
  apply congrArg (fun f => ma σ S f E)
  funext d S1
  cases d <;> first | rfl | exact IteP_bool
theorem l_mIf {t : MT} {ma mb : ME} {σ : MSt} {S : Sto} {Q : MQ} {E : MXQ} : mIf t ma mb σ S Q E = t σ S (fun c S1 => @IteP (c = true) ⟨ma σ S1 Q E⟩ ⟨mb σ S1 Q E⟩) E := by unfold mIf; simp only [IteP_bool]
theorem l_mChain {r r' : R2m} {ma mb mc : ME} {σ : MSt} {S : Sto} {Q : MQ} {E : MXQ} : mChain r r' ma mb mc σ S Q E = ma σ S (fun x S1 => mb σ S1 (fun y S2 => r x y S2 fun z S3 => match z with
  | .bl k => @IteP (k = true) ⟨mc σ S3 (fun w S4 => r' y w S4 Q) E⟩ ⟨Q (.bl false) S3⟩
  | _ => False) E) E := by
  unfold mChain
  apply congrArg (fun f => ma σ S f E)
  funext x S1
  apply congrArg (fun f => mb σ S1 f E)
  funext y S2
  apply congrArg (fun f => r x y S2 f)
  funext d S3
  cases d <;> first | rfl | exact IteP_bool
theorem l_mIfS {c : MT} {t u : MS} {D : MEnds} {σ : MSt} {S : Sto} : mIfS c t u D σ S = c σ S (fun b S1 => @IteP (b = true) ⟨t D σ S1⟩ ⟨u D σ S1⟩) (xAt D σ) := by unfold mIfS; simp only [IteP_bool]
/-! ### options, names, values -/
def OptP {α : Type} (o : Option α) [k : Hold (α → Prop)] : Prop := match o with
  | some x => k.v x
  | none => False
def optP {α : Type} (o : Option α) (k : α → Prop) : Prop := @OptP α o ⟨k⟩
theorem l_optP {α : Type} {o : Option α} {k : α → Prop} : optP o k = @OptP α o ⟨k⟩ := Eq.trans rfl rfl
theorem OptP_some {α : Type} {x : α} {k : Hold (α → Prop)} : @OptP α (some x) k = k.v x := Eq.trans rfl rfl
def GoP (σ : MSt) (S : Sto) [k : Hold (MSt → Sto → Prop)] : Prop := k.v σ S
def Go (k : MSt → Sto → Prop) (σ : MSt) (S : Sto) : Prop := @GoP σ S ⟨k⟩
theorem l_Go {k : MSt → Sto → Prop} {σ : MSt} {S : Sto} : Go k σ S = @GoP σ S ⟨k⟩ := Eq.trans rfl rfl
def VarP (i : Nat) (σ : MSt) (S : Sto) [Q : Hold MQ] : Prop := match σ[i]? with
  | some (some d) => Q.v d S
  | _ => False
theorem l_mVar {i : Nat} {σ : MSt} {S : Sto} {Q : MQ} {E : MXQ} : mVar i σ S Q E = @VarP i σ S ⟨Q⟩ := Eq.trans rfl rfl
def ForP (items : List D) (σ : MSt) (S : Sto) [G : Hold (Sto → Prop)] [g : Hold MG] [mb : Hold MS] [De : Hold MEnds] : Prop := wfor G.v g.v mb.v De.v items σ S
theorem l_mFor {mi : MI} {g : MG} {mb : MS} {De : MEnds} {σ : MSt} {S : Sto} : mFor mi g mb De σ S = mi σ S (fun items G S1 => @ForP items σ S1 ⟨G⟩ ⟨g⟩ ⟨mb⟩ ⟨De⟩) (xAt De σ) := Eq.trans rfl rfl
def WhileP (σ : MSt) (S : Sto) [c : Hold MT] [mb : Hold MS] [De : Hold MEnds] : Prop := mWhile c.v mb.v De.v σ S
theorem l_mWhile {c : MT} {mb : MS} {De : MEnds} {σ : MSt} {S : Sto} : mWhile c mb De σ S = @WhileP σ S ⟨c⟩ ⟨mb⟩ ⟨De⟩ := Eq.trans rfl rfl
def CompP (items : List D) (σ : MSt) (S : Sto) (p : Addr) (own : List Nat) [G : Hold (Sto → Prop)] [g : Hold MG] [mt : Hold MT] [me : Hold ME] [fin : Hold (List D → Sto → Prop)] : Prop := wlc G.v g.v mt.v me.v p own σ fin.v items S
theorem l_mComp {mi : MI} {g : MG} {mt : MT} {me : ME} {own : List Nat} {σ : MSt} {S : Sto} {Q : MQ} {E : MXQ} : mComp mi g mt me own σ S Q E = mi σ S (fun items G S1 => ∀ p, S1 p = none → @CompP items σ (put S1 p (.lst [])) p own ⟨G⟩ ⟨g⟩ ⟨mt⟩ ⟨me⟩ ⟨fun _ S2 => Q (.ref p) S2⟩) E := Eq.trans rfl rfl
theorem l_mCompF {mi : MI} {g : MG} {mt : MT} {me : ME} {own : List Nat} {σ : MSt} {S : Sto} {Q : MQ} {E : MXQ} : mCompF mi g mt me own σ S Q E = mi σ S (fun items G S1 => ∀ p, S1 p = none → @CompP items σ (put S1 p (.lst [])) p own ⟨G⟩ ⟨g⟩ ⟨mt⟩ ⟨me⟩ ⟨fun acc S2 => Q (.lst acc) (del S2 p)⟩) E := Eq.trans rfl rfl
theorem Go_eq {k : Hold (MSt → Sto → Prop)} {σ : MSt} {S : Sto} : @GoP σ S k = k.v σ S := Eq.trans rfl rfl
theorem l_mVar_z {d : D} {σ : MSt} {S : Sto} {Q : Hold MQ} : @VarP 0 (some d :: σ) S Q = Q.v d S := Eq.trans rfl rfl
theorem l_mVar_s {i : Nat} {x : Option D} {σ : MSt} {S : Sto} {Q : Hold MQ} : @VarP (i + 1) (x :: σ) S Q = @VarP i σ S Q := Eq.trans rfl rfl
theorem l_mSet {i : Nat} {m : ME} {D : MEnds} {σ : MSt} {S : Sto} : mSet i m D σ S = m σ S (fun d S1 => Go D.nx (σ.set i (some d)) S1) (xAt D σ) := Eq.trans rfl rfl
theorem l_gNm {i : Nat} {d : D} {σ : MSt} {S : Sto} {Q : MSt → Sto → Prop} {E : MXQ} : gNm i d σ S Q E = Go Q (σ.set i (some d)) S := Eq.trans rfl rfl
theorem l_mPar {i j : Nat} {t : MA} {De : MEnds} {σ : MSt} {S : Sto} : mPar i j t De σ S = t σ S (fun ds S1 => match ds with
  | [d, e] => Go De.nx ((σ.set i (some d)).set j (some e)) S1
  | _ => False) (xAt De σ) := by
  unfold mPar
  apply congrArg (fun f => t σ S f (xAt De σ))
  funext ds S1
  rcases ds with _ | ⟨a, _ | ⟨b, _ | ⟨c, r⟩⟩⟩ <;> rfl
def olP : Option MO → Option (List D)
  | some (.lst ds) => some ds
  | _ => none
theorem olP_lst {ds : List D} : olP (some (.lst ds)) = some ds := Eq.trans rfl rfl
theorem lstOf_ref' {S : Sto} {p : Addr} : lstOf S (.ref p) = olP (S p) := by
  cases e : S p with
  | none => simp only [lstOf, olP, e]
  | some o => cases o <;> simp only [lstOf, olP, e]
theorem lstOf_lst {S : Sto} {ds : List D} : lstOf S (.lst ds) = some ds := Eq.trans rfl rfl
theorem lstOf_scr {S : Sto} {ds : List D} : lstOf S (.scr ds) = some ds := Eq.trans rfl rfl
theorem lstOf_tup {S : Sto} {ds : List D} : lstOf S (.tup ds) = none := Eq.trans rfl rfl
theorem ownOf_ref' {S : Sto} {p : Addr} : ownOf S (.ref p) = olP (S p) := by
  cases e : S p with
  | none => simp only [ownOf, olP, e]
  | some o => cases o <;> simp only [ownOf, olP, e]
theorem ownOf_lst {S : Sto} {ds : List D} : ownOf S (.lst ds) = some ds := Eq.trans rfl rfl
theorem seqOf_tup' {S : Sto} {ds : List D} : seqOf S (.tup ds) = some ds := Eq.trans rfl rfl
theorem seqOf_lst' {S : Sto} {ds : List D} : seqOf S (.lst ds) = some ds := Eq.trans rfl rfl
theorem seqOf_scr' {S : Sto} {ds : List D} : seqOf S (.scr ds) = some ds := Eq.trans rfl rfl
theorem seqOf_ref' {S : Sto} {p : Addr} : seqOf S (.ref p) = olP (S p) := by rw [← lstOf_ref']; rfl
def tupOf : D → Option (List D)
  | .tup ds => some ds
  | _ => none
theorem tupOf_tup {ds : List D} : tupOf (.tup ds) = some ds := Eq.trans rfl rfl
theorem l_rIxM {d : D} {i : Int} {S : Sto} {Q : MQ} : rIxM d (.int i) S Q = optP (seqOf S d) fun xs => optP (ixL xs i) fun x => Q x S := by
  simp only [rIxM, optP, OptP]
  cases seqOf S d with
  | none => rfl
  | some xs =>
    dsimp only
    cases ixL xs i <;> rfl
theorem ixL_lit {α : Type} {xs : List α} {n : Nat} : ixL xs (no_index (OfNat.ofNat n : Int)) = xs[(OfNat.ofNat n : Nat)]? := Eq.trans rfl rfl
theorem ixL_cast {α : Type} {xs : List α} {n : Nat} : ixL xs ((n : Nat) : Int) = xs[n]? := Eq.trans rfl rfl
theorem ixL_m1 {α : Type} {x : α} {xs : List α} : ixL (x :: xs) (-1) = (x :: xs)[xs.length]? := by
  show ixL (x :: xs) (.negSucc 0) = _
  simp [ixL]
theorem setAt_lit {α : Type} {xs : List α} {n : Nat} {v : α} : setAt xs (no_index (OfNat.ofNat n : Int)) v = if (OfNat.ofNat n : Nat) < xs.length then some (xs.set (OfNat.ofNat n : Nat) v) else none := Eq.trans rfl rfl
theorem setAt_cast {α : Type} {xs : List α} {n : Nat} {v : α} : setAt xs ((n : Nat) : Int) v = if n < xs.length then some (xs.set n v) else none := Eq.trans rfl rfl
theorem l_rSetM {p : Addr} {k : Int} {v : D} {S : Sto} {Q : Sto → Prop} : rSetM (.ref p) (.int k) v S Q = optP (olP (S p)) fun xs => optP (setAt xs k v) fun ys => Q (put S p (.lst ys)) := by
  simp only [rSetM, optP, OptP, olP]
  cases S p with
  | none => rfl
  | some o =>
    cases o with
    | lst xs => dsimp only; cases setAt xs k v <;> rfl
    | _ => rfl
theorem l_rInt {C : Int → Int → Prop} {g : Int → Int → D} {i j : Int} {S : Sto} {Q : MQ} : rInt C g (.int i) (.int j) S Q = (C i j ∧ Q (g i j) S) := Eq.trans rfl rfl
theorem l_rInt0 {g : Int → Int → D} {i j : Int} {S : Sto} {Q : MQ} : rInt0 g (.int i) (.int j) S Q = Q (g i j) S := Eq.trans rfl rfl
theorem l_rAdd_int {i j : Int} {S : Sto} {Q : MQ} : rAdd (.int i) (.int j) S Q = Q (.int (i + j)) S := Eq.trans rfl rfl
theorem l_rAdd_str {i j : Str} {S : Sto} {Q : MQ} : rAdd (.str i) (.str j) S Q = (i.length + j.length ≤ sizeLine ∧ Q (.str (i ++ j)) S) := Eq.trans rfl rfl
theorem l_rAdd_tup {i j : List D} {S : Sto} {Q : MQ} : rAdd (.tup i) (.tup j) S Q = ((i ≠ [] ∧ i.length + j.length ≤ sizeLine) ∧ Q (.tup (i ++ j)) S) := Eq.trans rfl rfl
theorem l_rNeg {i : Int} {S : Sto} {Q : MQ} : rNeg (.int i) S Q = Q (.int (-i)) S := Eq.trans rfl rfl
theorem l_rIsN {d : D} {S : Sto} {Q : MQ} : rIsN d .non S Q = Q (.bl (isN d)) S := Eq.trans rfl rfl
theorem l_rNotN {d : D} {S : Sto} {Q : MQ} : rNotN d .non S Q = Q (.bl (!isN d)) S := Eq.trans rfl rfl
theorem l_rIsBM {neg a b : Bool} {S : Sto} {Q : MQ} : rIsBM neg (.bl a) (.bl b) S Q = Q (.bl (if neg then !decide (a = b) else decide (a = b))) S := Eq.trans rfl rfl
theorem l_mTru {m : ME} {σ : MSt} {S : Sto} {Q : Bool → Sto → Prop} {E : MXQ} : mTru m σ S Q E = m σ S (fun d S1 => optP (truD S1 d) fun k => Q k S1) E := by
  unfold mTru optP OptP
  apply congrArg (fun f => m σ S f E)
  funext d S1
  cases truD S1 d <;> rfl
theorem truD_bl {S : Sto} {b : Bool} : truD S (.bl b) = some b := Eq.trans rfl rfl
theorem truD_int {S : Sto} {i : Int} : truD S (.int i) = some (i != 0) := Eq.trans rfl rfl
theorem truD_tup {S : Sto} {ds : List D} : truD S (.tup ds) = some (!ds.isEmpty) := Eq.trans rfl rfl
theorem truD_lst {S : Sto} {ds : List D} : truD S (.lst ds) = some (!ds.isEmpty) := Eq.trans rfl rfl
theorem truD_scr {S : Sto} {ds : List D} : truD S (.scr ds) = some (!ds.isEmpty) := Eq.trans rfl rfl
theorem truD_non {S : Sto} : truD S .non = some false := Eq.trans rfl rfl
theorem l_bLen {d : D} {S : Sto} {Q : MQ} : bLen [d] S Q = optP (lenD S d) fun n => Q (.int n) S := by
  simp only [bLen, optP, OptP]; cases lenD S d <;> rfl
theorem lenD_tup {S : Sto} {ds : List D} : lenD S (.tup ds) = some ds.length := Eq.trans rfl rfl
theorem lenD_lst {S : Sto} {ds : List D} : lenD S (.lst ds) = some ds.length := Eq.trans rfl rfl
theorem lenD_scr {S : Sto} {ds : List D} : lenD S (.scr ds) = some ds.length := Eq.trans rfl rfl
theorem lenD_ref {S : Sto} {p : Addr} : lenD S (.ref p) = (olP (S p)).map List.length := by rw [← lstOf_ref']; rfl
theorem l_bAbs {i : Int} {S : Sto} {Q : MQ} : bAbs [.int i] S Q = Q (.int (i.natAbs : Nat)) S := by
  have e : (if i < 0 then -i else i) = (i.natAbs : Int) := by split <;> omega
  simp only [bAbs, e]
theorem l_bMax2 {i j : Int} {S : Sto} {Q : MQ} : bMax2 [.int i, .int j] S Q = Q (.int (if j > i then j else i)) S := Eq.trans rfl rfl
theorem l_bMin2 {i j : Int} {S : Sto} {Q : MQ} : bMin2 [.int i, .int j] S Q = Q (.int (if j < i then j else i)) S := Eq.trans rfl rfl
theorem l_bInt_i {i : Int} {S : Sto} {Q : MQ} : bInt [.int i] S Q = Q (.int i) S := Eq.trans rfl rfl
theorem l_bInt_b {k : Bool} {S : Sto} {Q : MQ} : bInt [.bl k] S Q = Q (.int (if k then 1 else 0)) S := Eq.trans rfl rfl
theorem l_bTuple {d : D} {S : Sto} {Q : MQ} : bTuple [d] S Q = optP (seqOf S d) fun xs => Q (.tup xs) S := by
  cases d with
  | tup xs => rfl
  | _ =>
    simp only [bTuple, optP, OptP, seqOf]
    split <;> simp_all
theorem l_bListF {d : D} {S : Sto} {Q : MQ} : bListF [d] S Q = optP (seqOf S d) fun xs => Q (.lst xs) S := by
  simp only [bListF, optP, OptP]; cases seqOf S d <;> rfl
theorem l_bList {d : D} {S : Sto} {Q : MQ} : bList [d] S Q = optP (seqOf S d) fun xs => ∀ p, S p = none → Q (.ref p) (put S p (.lst xs)) := by
  simp only [bList, optP, OptP]; cases seqOf S d <;> rfl
theorem l_mIsi {u : String} {m : ME} {σ : MSt} {S : Sto} {Q : MQ} {E : MXQ} : mIsi u m σ S Q E = m σ S (fun d S1 => optP (tyD S1 d) fun t => Q (.bl (isTy t u)) S1) E := by
  unfold mIsi optP OptP
  apply congrArg (fun f => m σ S f E)
  funext d S1
  cases tyD S1 d <;> rfl
theorem tyD_non {S : Sto} : tyD S .non = some "NoneType" := Eq.trans rfl rfl
theorem tyD_bl {S : Sto} {b : Bool} : tyD S (.bl b) = some "bool" := Eq.trans rfl rfl
theorem tyD_int {S : Sto} {b : Int} : tyD S (.int b) = some "int" := Eq.trans rfl rfl
theorem tyD_str {S : Sto} {b : Str} : tyD S (.str b) = some "str" := Eq.trans rfl rfl
theorem tyD_tup {S : Sto} {b : List D} : tyD S (.tup b) = some "tuple" := Eq.trans rfl rfl
theorem tyD_lst {S : Sto} {b : List D} : tyD S (.lst b) = some "list" := Eq.trans rfl rfl
theorem l_iL {m : ME} {σ : MSt} {S : Sto} {R : List D → (Sto → Prop) → Sto → Prop} {E : MXQ} : iL m σ S R E = m σ S (fun d S1 => optP (lstOf S1 d) fun ds => R ds (fun S' => lstOf S' d = some ds) S1) E := by
  unfold iL optP OptP
  apply congrArg (fun f => m σ S f E)
  funext d S1
  cases lstOf S1 d <;> rfl
theorem l_iT {m : ME} {σ : MSt} {S : Sto} {R : List D → (Sto → Prop) → Sto → Prop} {E : MXQ} : iT m σ S R E = m σ S (fun d S1 => optP (tupOf d) fun ds => R ds (fun _ => True) S1) E := by
  unfold iT optP OptP tupOf
  apply congrArg (fun f => m σ S f E)
  funext d S1
  cases d <;> rfl
theorem l_gTp {n : Nat} {gs : MGs} {d : D} {σ : MSt} {S : Sto} {Q : MSt → Sto → Prop} {E : MXQ} : gTp n gs d σ S Q E = optP (tupOf d) fun ds => ds.length = n ∧ gs ds σ S Q E := by cases d <;> rfl
theorem l_gLs {n : Nat} {gs : MGs} {d : D} {σ : MSt} {S : Sto} {Q : MSt → Sto → Prop} {E : MXQ} : gLs n gs d σ S Q E = optP (lstOf S d) fun ds => ds.length = n ∧ gs ds σ S Q E := by
  unfold gLs optP OptP; cases lstOf S d <;> rfl
theorem l_gCn {g : MG} {gs : MGs} {d : D} {r : List D} {σ : MSt} {S : Sto} {Q : MSt → Sto → Prop} {E : MXQ} : gCn g gs (d :: r) σ S Q E = g d σ S (fun σ' S' => gs r σ' S' Q E) E := Eq.trans rfl rfl
theorem l_gNl {σ : MSt} {S : Sto} {Q : MSt → Sto → Prop} {E : MXQ} : gNl [] σ S Q E = Go Q σ S := Eq.trans rfl rfl
theorem l_mtAppend {p : Addr} {y : D} {S : Sto} {Q : MQ} : mtAppend (.ref p) [y] S Q = optP (olP (S p)) fun xs => xs.length < sizeLine ∧ Q .non (put S p (.lst (xs ++ [y]))) := by
  simp only [mtAppend, optP, OptP, olP]
  cases S p with
  | none => rfl
  | some o => cases o <;> rfl
theorem isLst_ref {S : Sto} {p : Addr} {ds : List D} (h : S p = some (.lst ds)) : isLst S (.ref p) = True := eq_true ⟨ds, by simp only [lstOf, h]⟩
theorem szl {n : Nat} (h : n ≤ 1000) : (n ≤ sizeLine) = True := eq_true (line_le h)
theorem szlt {n : Nat} (h : n ≤ 1000) : (n < sizeLine) = True := eq_true (line_lt h)
theorem cpow_lit {i j : Int} (h : 0 ≤ j) (h2 : j ≤ 1000000) (h3 : -1000 ≤ i) (h4 : i ≤ 1000) : CPow i j = True := eq_true ⟨h, h2, by omega⟩
theorem mulok_rl {i j : Int} (h1 : -18446744073709551616 < j) (h2 : j < 18446744073709551616) : IntMulOk i j = True := eq_true (mulok_r (by omega) (by omega))
theorem mulok_ll {i j : Int} (h1 : -18446744073709551616 < i) (h2 : i < 18446744073709551616) : IntMulOk i j = True := eq_true (mulok_l (by omega) (by omega))
theorem divok_l {i j : Int} (h1 : 0 < j) (h2 : j < 1073741824) : DivOk i j = True := eq_true (divok_s (by omega) (by omega))
end ML
set_option maxRecDepth 100000
namespace ML
open PySem PySem.Spec L2
open PyProof.Rows hiding St
section
variable {X : Cx} {W : WX} {tg : Expr} {g : MG} {pos : Pos}
/-- name = [.. for ..], stored at once -/
theorem ssetLc {i : Nat} {y : Str} {py spos : Pos} {elt iter : Expr} {ifs : List Expr} {scope : Scope} {own : List (Str × Nat)} {mi : MI} {mt : MT} {me : ME} (hc : X.calm = true) (hN : X.N.Nodup) (hi : PI X tg iter (upI X.K W mi)) (ok : BlkOk X.N X.env.scope scope own)
    (hg : ∀ (s : Shared) (H : Hp) (C : Addr) (cl : List (Str × Addr)) (fp : List Addr), PG (X.blk s H scope (compEnvC scope cl C X.env) fp) tg (upGo X.K (own.map (·.2)) g)) (ht : ∀ (s : Shared) (H : Hp) (C : Addr) (cl : List (Str × Addr)) (fp : List Addr), PTs (X.blk s H scope (compEnvC scope cl C X.env) fp) ifs (upT X.K W0 mt))
    (he : ∀ (s : Shared) (H : Hp) (C : Addr) (cl : List (Str × Addr)) (fp : List Addr), PE (X.blk s H scope (compEnvC scope cl C X.env) fp) elt (upE X.K W0 me)) (hy : X.N[i]? = some y := by rfl) (hyl : X.env.scope.names.lookup y = some .local := by rfl)
    (hsw : swapsWith (.ListComp elt [⟨tg, iter, ifs, 0⟩] scope pos) (some (.Name y py)) spos.line X.env = pure true := by exact sw_true rfl rfl rfl rfl) (hs : ∀ x, foldedSetIterable iter X.env x = pure x := by intro _; rfl) :
    PS X (.Assign [.Name y py] (.ListComp elt [⟨tg, iter, ifs, 0⟩] scope pos) spos) (upS X.K W (mSet i (mComp mi g mt me (own.map (·.2))))) :=
  L2.PS.to (ps_setLc hc hN hy hyl hsw hi ok hg ht he hs) fun D σ H ⟨m, S, Dm, h1, h2, h3, h4⟩ =>
    ⟨m, S, _, _, h1, h2, h3, fun items G S1 J H1 q e1 s1 it Dp hD =>
      lc_to (Q := fun x H1 => gName i x σ H1 D.nx) (h1.ext e1) s1 it hD (q Dp (s1.fresh hD)) fun acc H' S' f ea e' s' => h4.nx _ S' _ H' f (e1.trans e') s' ((h1.ext (e1.trans e')).set (.ref Dp) i), xAt_ref h1 h4.ex⟩
end
/-- the next turn of a comprehension -/
def CompNext (p : Addr) (J : Nat → List D → Sto → Prop) (i : Nat) (y : D) (S4 : Sto) : Prop := ∃ acc, S4 p = some (.lst acc) ∧ acc.length < sizeLine ∧ ∃ acc', put S4 p (.lst (acc ++ [y])) p = some (.lst acc') ∧ J (i + 1) acc' (put S4 p (.lst (acc ++ [y])))
theorem CompNext.mk {p : Addr} {J : Nat → List D → Sto → Prop} {i : Nat} {y : D} {S4 : Sto} {acc : List D} (h : S4 p = some (.lst acc)) (hl : acc.length < sizeLine) (hj : J (i + 1) (acc ++ [y]) (put S4 p (.lst (acc ++ [y])))) : CompNext p J i y S4 := ⟨acc, h, hl, acc ++ [y], put_same, hj⟩
theorem comp_inv {items : List D} {σ : MSt} {S : Sto} {p : Addr} {own : List Nat} {G : Sto → Prop} {g : MG} {me : ME} {fin : List D → Sto → Prop} (J : Nat → List D → Sto → Prop) (hS : S p = some (.lst [])) (h0 : J 0 [] S)
    (hs : ∀ i d acc S', items[i]? = some d → J i acc S' → S' p = some (.lst acc) → G S' ∧ g d (wipeM σ own) S' (fun σ2 S2 => me σ2 S2 (fun y S4 => CompNext p J i y S4) noX) noX)
    (hd : ∀ acc S', J items.length acc S' → S' p = some (.lst acc) → G S' ∧ fin acc S') : @CompP items σ S p own ⟨G⟩ ⟨g⟩ ⟨mYes⟩ ⟨me⟩ ⟨fin⟩ := by
  refine ⟨fun i S' => ∃ acc, S' p = some (.lst acc) ∧ J i acc S', ⟨[], hS, h0⟩, fun i S' hi ⟨acc, ha, hj⟩ => ?_⟩
  cases e : items[i]? with
  | none =>
    have : i = items.length := by have := List.getElem?_eq_none_iff.mp e; omega
    subst this
    obtain ⟨h1, h2⟩ := hd acc S' hj ha
    exact ⟨h1, acc, ha, h2⟩
  | some d =>
    obtain ⟨h1, h2⟩ := hs i d acc S' e hj ha
    refine ⟨h1, ?_⟩
    have ee : (fun (σ2 : MSt) (S2 : Sto) => mYes σ2 S2 (fun k S3 => if k = true then me σ2 S3 (fun y S4 => ∃ acc, S4 p = some (.lst acc) ∧ acc.length < sizeLine ∧ ∃ acc_1, put S4 p (.lst (acc ++ [y])) p = some (.lst acc_1) ∧ J (i + 1) acc_1 (put S4 p (.lst (acc ++ [y])))) noX
        else ∃ acc, S3 p = some (.lst acc) ∧ J (i + 1) acc S3) noX) = fun σ2 S2 => me σ2 S2 (fun y S4 => CompNext p J i y S4) noX := by
      funext σ2 S2
      simp only [mYes, if_true, CompNext]
    exact Eq.mp (congrArg (fun f => g d (wipeM σ own) S' f noX) ee.symm) h2
theorem comp_rng {lo : Int} {n : Nat} {σ : MSt} {S : Sto} {p : Addr} {own : List Nat} {g : MG} {me : ME} {fin : List D → Sto → Prop} (J : Nat → List D → Sto → Prop) (hS : S p = some (.lst [])) (h0 : J 0 [] S)
    (hs : ∀ i acc S', i < n → J i acc S' → S' p = some (.lst acc) → g (.int (lo + (i : Nat))) (wipeM σ own) S' (fun σ2 S2 => me σ2 S2 (fun y S4 => CompNext p J i y S4) noX) noX)
    (hd : ∀ acc S', J n acc S' → S' p = some (.lst acc) → fin acc S') : @CompP (rngD lo n) σ S p own ⟨fun _ => True⟩ ⟨g⟩ ⟨mYes⟩ ⟨me⟩ ⟨fin⟩ :=
  comp_inv J hS h0 (fun i d acc S' e hj ha => by
    have hi : i < n := by
      have := (List.getElem?_eq_some_iff.mp e).1
      rwa [rngD_len] at this
    rw [rngD_get e]
    exact ⟨trivial, hs i acc S' hi hj ha⟩) fun acc S' hj ha => ⟨trivial, hd acc S' (by rwa [rngD_len] at hj) ha⟩
/-- each turn only tells a value -/
theorem comp_pure {items : List D} {σ : MSt} {S : Sto} {p : Addr} {own : List Nat} {G : Sto → Prop} {g : MG} {me : ME} {fin : List D → Sto → Prop} (f : Nat → D) (hz : items.length ≤ 1000) (hG : ∀ acc, G (put S p (.lst acc)))
    (h : ∀ i d acc (Q : MQ), items[i]? = some d → Q (f i) (put S p (.lst acc)) → g d (wipeM σ own) (put S p (.lst acc)) (fun σ2 S2 => me σ2 S2 Q noX) noX)
    (hf : fin ((List.range items.length).map f) (put S p (.lst ((List.range items.length).map f)))) : @CompP items σ (put S p (.lst [])) p own ⟨G⟩ ⟨g⟩ ⟨mYes⟩ ⟨me⟩ ⟨fin⟩ := by
  refine comp_inv (fun i acc S' => acc = (List.range i).map f ∧ S' = put S p (.lst acc)) put_same ⟨rfl, rfl⟩ ?_ ?_
  · rintro i d acc S' e ⟨rfl, rfl⟩ -
    have hi : i < items.length := (List.getElem?_eq_some_iff.mp e).1
    refine ⟨hG _, h i d _ _ e ?_⟩
    refine CompNext.mk put_same (line_lt (by simp only [List.length_map, List.length_range]; omega)) ⟨?_, by rw [put_put]⟩
    rw [List.range_succ, List.map_append]; rfl
  · rintro acc S' ⟨rfl, rfl⟩ -
    exact ⟨hG _, hf⟩
theorem comp_prng {lo : Int} {n : Nat} {σ : MSt} {S : Sto} {p : Addr} {own : List Nat} {g : MG} {me : ME} {fin : List D → Sto → Prop} (f : Nat → D) (hz : n ≤ 1000)
    (h : ∀ i acc (Q : MQ), i < n → Q (f i) (put S p (.lst acc)) → g (.int (lo + (i : Nat))) (wipeM σ own) (put S p (.lst acc)) (fun σ2 S2 => me σ2 S2 Q noX) noX)
    (hf : fin ((List.range n).map f) (put S p (.lst ((List.range n).map f)))) : @CompP (rngD lo n) σ (put S p (.lst [])) p own ⟨fun _ => True⟩ ⟨g⟩ ⟨mYes⟩ ⟨me⟩ ⟨fin⟩ :=
  comp_pure f (by rwa [rngD_len]) (fun _ => trivial) (fun i d acc Q e q => by
    have hi : i < n := by
      have := (List.getElem?_eq_some_iff.mp e).1
      rwa [rngD_len] at this
    rw [rngD_get e]
    exact h i acc Q hi q) (by rwa [rngD_len])
end ML
set_option maxRecDepth 100000
namespace ML
open PySem PySem.Spec L2
open PyProof.Rows hiding St
/-! ### a loop over a list or a tuple -/
section
variable {X : Cx} {W : WX} {tg : Expr} {m : ME}
theorem pi_sq {l : Expr} {tl : TE} (hl : PE X l tl) : PI X tg l (fun σ H R => tl σ H fun x H1 => ∃ a, x = .ref a ∧ (((∃ xs, SqL X.K H1 a xs) ∧ R (Itl X.K a) H1) ∨ ((∃ xs, SqT X.K H1 a xs) ∧ R (Itt X.K a) H1))) := by
  constructor
  intro pins s σ H R I h
  apply thn (hl.run pins s σ H _ I h)
  rintro v s1 ⟨x, H1, I1, r1, a, rfl, q1⟩
  obtain rfl : v = Value.ref a := r1
  have top : ∀ b ∈ [s1.heap.objs.size], FpOk X pins H1 b := by
    intro b hb
    obtain rfl := List.mem_singleton.mp hb
    exact I1.fpOk (Nat.le_refl _) (I1.hok.fresh (Nat.le_refl _))
  rcases q1 with ⟨⟨xs, hq⟩, q⟩ | ⟨⟨xs, hq⟩, q⟩
  · have ⟨its, _, p, _⟩ := I1.list hq
    apply wpAny_pyIter_list p.isList
    exact ⟨_, [s1.heap.objs.size], _, _, H1, rfl, I1.kept (t' := s1.toks) (fun _ _ e => Heap.get?_push_of_some _ e), turn_list a _, ⟨_, Heap.get?_push_size _ rfl, rfl, rfl⟩, top, q⟩
  · have ⟨its, _, p, _⟩ := I1.tuple hq
    apply wpAny_pyIter_tuple (show s1.heap.IsTuple a its.toArray from p)
    exact ⟨_, [s1.heap.objs.size], _, _, H1, rfl, I1.kept (t' := s1.toks) (fun _ _ e => Heap.get?_push_of_some _ e), turn_tuple a _, ⟨_, Heap.get?_push_size _ rfl, rfl, rfl⟩, top, q⟩
def iS (m : ME) : MI := fun σ S R E => m σ S (fun d S1 => match d with
  | .tup ds => R ds (fun _ => True) S1
  | d => match lstOf S1 d with
    | some ds => R ds (fun S' => lstOf S' d = some ds) S1
    | none => False) E
theorem is {l : Expr} (h : PE X l (upE X.K W m)) : PI X tg l (upI X.K W (iS m)) := L2.PI.to (pi_sq h) fun σ H R ⟨m, S, Rm, Em, h1, h2, h3, h4, h5⟩ =>
  ⟨m, S, _, Em, h1, h2, h3, fun d S1 v H1 q e s r => by
    have key : ∀ ds, lstOf S1 d = some ds → Rm ds (fun S' => lstOf S' d = some ds) S1 → ∃ a, v = .ref a ∧ (((∃ xs, SqL X.K H1 a xs) ∧ R (Itl X.K a) H1) ∨ ((∃ xs, SqT X.K H1 a xs) ∧ R (Itt X.K a) H1)) := fun ds e2 q => by
      obtain ⟨a, e1, hx, it⟩ := itok_list s r e2
      exact ⟨a, e1, .inl ⟨hx, h4 ds _ S1 _ H1 q e s it⟩⟩
    cases d with
    | tup ds =>
      obtain ⟨a, rfl, hx, it⟩ := itok_tup s r
      exact ⟨a, rfl, .inr ⟨hx, h4 _ _ S1 _ H1 q e s it⟩⟩
    | lst ds => exact key ds rfl q
    | scr ds => exact key ds rfl q
    | ref p =>
      dsimp only at q
      cases e2 : lstOf S1 (.ref p) with
      | none => rw [e2] at q; exact q.elim
      | some ds => rw [e2] at q; exact key ds e2 q
    | _ => exact q.elim, h5⟩
end
def sqI (S : Sto) : D → Option (List D × (Sto → Prop))
  | .tup ds => some (ds, fun _ => True)
  | .lst ds => some (ds, fun _ => True)
  | .scr ds => some (ds, fun _ => True)
  | .ref p => (olP (S p)).map fun ds => (ds, fun S' => olP (S' p) = some ds)
  | _ => none
theorem l_iS {m : ME} {σ : MSt} {S : Sto} {R : List D → (Sto → Prop) → Sto → Prop} {E : MXQ} : iS m σ S R E = m σ S (fun d S1 => optP (sqI S1 d) fun r => R r.1 r.2 S1) E := by
  unfold iS
  apply congrArg (fun f => m σ S f E)
  funext d S1
  cases d with
  | ref p =>
    simp only [lstOf_ref', optP, OptP, sqI]
    cases e : olP (S1 p) <;> simp
  | lst ds => simp only [lstOf, optP, OptP, sqI]
  | scr ds => simp only [lstOf, optP, OptP, sqI]
  | tup ds => simp only [optP, OptP, sqI]
  | _ => simp only [lstOf, optP, OptP, sqI]
theorem sqI_tup {S : Sto} {ds : List D} : sqI S (.tup ds) = some (ds, fun _ => True) := Eq.trans rfl rfl
theorem sqI_lst {S : Sto} {ds : List D} : sqI S (.lst ds) = some (ds, fun _ => True) := Eq.trans rfl rfl
theorem sqI_scr {S : Sto} {ds : List D} : sqI S (.scr ds) = some (ds, fun _ => True) := Eq.trans rfl rfl
theorem sqI_ref {S : Sto} {p : Addr} {ds : List D} : sqI (put S p (.lst ds)) (.ref p) = some (ds, fun S' => olP (S' p) = some ds) := by
  simp only [sqI, put_same, olP, Option.map_some]
theorem sqI_at {S : Sto} {p : Addr} {ds : List D} (h : S p = some (.lst ds)) : sqI S (.ref p) = some (ds, fun S' => olP (S' p) = some ds) := by
  simp only [sqI, h, olP, Option.map_some]
/-! ### comprehensions, loops turn by turn -/
def croll (G : Sto → Prop) (g : MG) (mt : MT) (me : ME) (p : Addr) (own : List Nat) (σ : MSt) (fin : List D → Sto → Prop) : List D → Sto → Prop
  | [], S => G S ∧ ∃ acc, S p = some (.lst acc) ∧ fin acc S
  | d :: ds, S => G S ∧ g d (wipeM σ own) S (fun σ2 S2 => mt σ2 S2 (fun k S3 => if k = true then me σ2 S3 (fun y S4 => ∃ acc, S4 p = some (.lst acc) ∧ acc.length < sizeLine ∧ croll G g mt me p own σ fin ds (put S4 p (.lst (acc ++ [y])))) noX else croll G g mt me p own σ fin ds S3) noX) noX
def CrA (y : D) (S : Sto) (p : Addr) [k : Hold (Sto → Prop)] : Prop := ∃ acc, S p = some (.lst acc) ∧ acc.length < sizeLine ∧ k.v (put S p (.lst (acc ++ [y])))
theorem CrA_at {y : D} {S : Sto} {p : Addr} {acc : List D} {k : Hold (Sto → Prop)} : @CrA y (put S p (.lst acc)) p k = (acc.length < sizeLine ∧ k.v (put S p (.lst (acc ++ [y])))) := by
  unfold CrA
  apply propext
  constructor
  · rintro ⟨a, h1, h2, h3⟩
    rw [put_same] at h1
    cases h1
    rw [put_put] at h3
    exact ⟨h2, h3⟩
  · rintro ⟨h1, h2⟩
    exact ⟨acc, put_same, h1, by rw [put_put]; exact h2⟩
structure CrK where
  G : Sto → Prop
  g : MG
  mt : MT
  me : ME
  p : Addr
  own : List Nat
  σ : MSt
  fin : List D → Sto → Prop
def CrollP (items : List D) (S : Sto) [k : Hold CrK] : Prop := croll k.v.G k.v.g k.v.mt k.v.me k.v.p k.v.own k.v.σ k.v.fin items S
theorem CrollP_nil {S : Sto} {G : Sto → Prop} {g : MG} {mt : MT} {me : ME} {p : Addr} {own : List Nat} {σ : MSt} {fin : List D → Sto → Prop} {acc : List D} : @CrollP [] (put S p (.lst acc)) ⟨⟨G, g, mt, me, p, own, σ, fin⟩⟩ = (G (put S p (.lst acc)) ∧ fin acc (put S p (.lst acc))) := by
  apply propext
  constructor
  · rintro ⟨h, a, h1, h2⟩
    have h3 : put S p (.lst acc) p = some (.lst a) := h1
    rw [put_same] at h3; cases h3
    exact ⟨h, h2⟩
  · rintro ⟨h1, h2⟩; exact ⟨h1, acc, put_same, h2⟩
theorem CrollP_cons {d : D} {ds : List D} {S : Sto} {G : Sto → Prop} {g : MG} {mt : MT} {me : ME} {p : Addr} {own : List Nat} {σ : MSt} {fin : List D → Sto → Prop} : @CrollP (d :: ds) S ⟨⟨G, g, mt, me, p, own, σ, fin⟩⟩ =
    (G S ∧ g d (wipeM σ own) S (fun σ2 S2 => mt σ2 S2 (fun k S3 => @IteP (k = true) ⟨me σ2 S3 (fun y S4 => @CrA y S4 p ⟨fun S5 => @CrollP ds S5 ⟨⟨G, g, mt, me, p, own, σ, fin⟩⟩⟩) noX⟩ ⟨@CrollP ds S3 ⟨⟨G, g, mt, me, p, own, σ, fin⟩⟩⟩) noX) noX) := by
  simp only [CrollP, croll, IteP_bool]
  rfl
theorem l_mYes {σ : MSt} {S : Sto} {Q : Bool → Sto → Prop} {E : MXQ} : mYes σ S Q E = Q true S := Eq.trans rfl rfl
/-- a loop over known items, turn by turn -/
structure FoK where
  G : Sto → Prop
  g : MG
  mb : MS
  D : MEnds
def FrollP (items : List D) (σ : MSt) (S : Sto) [k : Hold FoK] : Prop := wroll k.v.G k.v.g k.v.mb k.v.D items σ S
theorem FrollP_nil {σ : MSt} {S : Sto} {G : Sto → Prop} {g : MG} {mb : MS} {De : MEnds} : @FrollP [] σ S ⟨⟨G, g, mb, De⟩⟩ = (G S ∧ Go De.nx σ S) := Eq.trans rfl rfl
theorem FrollP_cons {d : D} {ds : List D} {σ : MSt} {S : Sto} {G : Sto → Prop} {g : MG} {mb : MS} {De : MEnds} : @FrollP (d :: ds) σ S ⟨⟨G, g, mb, De⟩⟩ =
    (G S ∧ g d σ S (fun σ' S' => mb { De with nx := fun σ S => @FrollP ds σ S ⟨⟨G, g, mb, De⟩⟩, ct := fun σ S => @FrollP ds σ S ⟨⟨G, g, mb, De⟩⟩, bk := De.nx } σ' S') (xAt De σ)) := Eq.trans rfl rfl
theorem for_roll {items : List D} {σ : MSt} {S : Sto} {G : Sto → Prop} {g : MG} {mb : MS} {De : MEnds} (h : @FrollP items σ S ⟨⟨G, g, mb, De⟩⟩) : @ForP items σ S ⟨G⟩ ⟨g⟩ ⟨mb⟩ ⟨De⟩ := wfor_roll h
/-! ### if, its ways come together: what holds behind it is said -/
def mIfJ (c : MT) (t u : MS) : MS := fun De σ S => c σ S (fun b S1 => ∃ J : MSt → Sto → Prop, (if b = true then t { De with nx := J } σ S1 else u { De with nx := J } σ S1) ∧ ∀ σ' S', J σ' S' → De.nx σ' S') (xAt De σ)
section
variable {X : Cx} {W : WX} {c : Expr} {mt mu : MS} {pos : Pos}
theorem sifJ {tc : MT} {as bs : List Stmt} (hc : PT X c (upT X.K W tc)) (ha : PSs X as (upS X.K W mt)) (hb : PSs X bs (upS X.K W mu)) : PS X (.If c as bs pos) (upS X.K W (mIfJ tc mt mu)) := L2.PS.to (ps_if hc ha hb) fun D σ H ⟨m, S, Dm, h1, h2, h3, h4⟩ =>
  ⟨m, S, _, _, h1, h2, h3, fun k S1 H1 q e s => by
    obtain ⟨J, q, hJ⟩ := q
    have r : RefE X.K H1 S1 { Dm with nx := J } D W := ⟨fun m' S' σ' H' z e' s' r' => h4.nx m' S' σ' H' (hJ _ _ z) (e.trans e') s' r', (h4.ext e).rt, (h4.ext e).bk, (h4.ext e).ct, (h4.ext e).ex⟩
    cases k with
    | true => rw [if_pos rfl]; exact ⟨m, S1, _, h1.ext e, s, by simpa using q, r⟩
    | false => rw [if_neg Bool.false_ne_true]; exact ⟨m, S1, _, h1.ext e, s, by simpa using q, r⟩, xAt_ref h1 h4.ex⟩
end
def JfP (c : Prop) (σ : MSt) (S : Sto) [t : Hold MS] [u : Hold MS] [De : Hold MEnds] : Prop := ∃ J : MSt → Sto → Prop, ((c → t.v { De.v with nx := J } σ S) ∧ (¬ c → u.v { De.v with nx := J } σ S)) ∧ ∀ σ' S', J σ' S' → De.v.nx σ' S'
theorem l_mIfJ {c : MT} {t u : MS} {De : MEnds} {σ : MSt} {S : Sto} : mIfJ c t u De σ S = c σ S (fun b S1 => @JfP (b = true) σ S1 ⟨t⟩ ⟨u⟩ ⟨De⟩) (xAt De σ) := by
  unfold mIfJ
  apply congrArg (fun f => c σ S f (xAt De σ))
  funext b S1
  have e : ∀ J : MSt → Sto → Prop, (if b = true then t { De with nx := J } σ S1 else u { De with nx := J } σ S1) = ((b = true → t { De with nx := J } σ S1) ∧ (¬ b = true → u { De with nx := J } σ S1)) := fun J => IteP_bool
  simp only [e]
  rfl
theorem jf {c : Prop} {σ : MSt} {S : Sto} {t u : MS} {De : MEnds} (J : MSt → Sto → Prop) (h1 : c → t { De with nx := J } σ S) (h2 : ¬ c → u { De with nx := J } σ S) (k : ∀ σ' S', J σ' S' → Go De.nx σ' S') : @JfP c σ S ⟨t⟩ ⟨u⟩ ⟨De⟩ := ⟨J, ⟨h1, h2⟩, k⟩
/-- a row behind which what holds is said -/
def mJ (t : MS) : MS := fun De σ S => ∃ J : MSt → Sto → Prop, t { De with nx := J } σ S ∧ ∀ σ' S', J σ' S' → De.nx σ' S'
def JP (σ : MSt) (S : Sto) [t : Hold MS] [De : Hold MEnds] : Prop := ∃ J : MSt → Sto → Prop, t.v { De.v with nx := J } σ S ∧ ∀ σ' S', J σ' S' → De.v.nx σ' S'
theorem l_mJ {t : MS} {De : MEnds} {σ : MSt} {S : Sto} : mJ t De σ S = @JP σ S ⟨t⟩ ⟨De⟩ := Eq.trans rfl rfl
theorem isN_non : isN .non = true := Eq.trans rfl rfl
theorem isN_int {i : Int} : isN (.int i) = false := Eq.trans rfl rfl
theorem isN_bl {i : Bool} : isN (.bl i) = false := Eq.trans rfl rfl
theorem isN_str {i : Str} : isN (.str i) = false := Eq.trans rfl rfl
theorem isN_tup {i : List D} : isN (.tup i) = false := Eq.trans rfl rfl
theorem isN_lst {i : List D} : isN (.lst i) = false := Eq.trans rfl rfl
theorem isN_ref {i : Addr} : isN (.ref i) = false := Eq.trans rfl rfl
theorem rngD_0 {lo : Int} : rngD lo 0 = [] := rfl
theorem rngD_1 {lo : Int} : rngD lo 1 = [.int lo] := by simp [rngD, List.range, List.range.loop]
theorem rngD_2 {lo : Int} : rngD lo 2 = [.int lo, .int (lo + 1)] := by simp [rngD, List.range, List.range.loop]
theorem rngD_3 {lo : Int} : rngD lo 3 = [.int lo, .int (lo + 1), .int (lo + 2)] := by simp [rngD, List.range, List.range.loop]
theorem rngD_4 {lo : Int} : rngD lo 4 = [.int lo, .int (lo + 1), .int (lo + 2), .int (lo + 3)] := by simp [rngD, List.range, List.range.loop]
theorem rngD_6 {lo : Int} : rngD lo 6 = [.int lo, .int (lo + 1), .int (lo + 2), .int (lo + 3), .int (lo + 4), .int (lo + 5)] := by simp [rngD, List.range, List.range.loop]
theorem q_wipeM_nil {σ : MSt} : wipeM σ [] = σ := rfl
theorem q_wipeM_cons {σ : MSt} {v : Nat} {vs : List Nat} : wipeM σ (v :: vs) = (wipeM σ vs).set v none := rfl
end ML
set_option maxRecDepth 100000
/-! ### max, min of two values that are compared by what stands in the heap -/
namespace PySem
/-- x op y tells b wherever what stood stands -/
def CmpAt (prog : Program) (w : World) (A : Around) (s0 : Heap) (op : CmpOp) (x y : Value) (b : Bool) : Prop :=
  ∀ (s : Shared) (Q E : Value → Shared → Prop), (∀ c o, s0.get? c = some o → s.heap.get? c = some o) → Q (.bool b) s → wpAny (model prog w) A (richCompare op x y) Q E s
section
variable {prog : Program} {w : World} {A : Around} {E : Value → Shared → Prop} {s : Shared}
theorem two_loop_max {a b : Value} {k : Bool} {I S ax : Addr} {h0 : Heap} {n0 : Nat} (hh : A.handled = none) (hne : ax ≠ I) (hSI : S ≠ I) (hSa : S ≠ ax) (hc : CmpAt prog w A.in1 h0 .Gt b a k) {R : Result → Shared → Prop} (lt : ∀ c o, h0.get? c = some o → c ≠ I ∧ c ≠ S)
    (hk0 : ∀ c o, h0.get? c = some o → s.heap.get? c = some o) (hI : s.heap.IsTupleIter I ax 0) (hT : s.heap.IsTuple ax #[a, b]) (hS : s.heap.get? S = some { cls := .type "list", dict := none, data := .seq #[] n0, slots := #[] })
    (hR : ∀ h' tk, (∀ c o, h0.get? c = some o → h'.get? c = some o) → R (.ok (.ret (if k = true then b else a))) { s with heap := h', toks := tk }) :
    codeAny (model prog w) A (.builtin "max.loop" ⟨[.ref I, .none, .ref S], []⟩) R s := by
  have W := Walks.tuple (prog := prog) (w := w) (A := A.in1) hh I ax hne #[a, b]
  have hw : S ∉ [I] := by simp [hSI]
  have hname : (toString "max" ++ toString ".loop" : String) = "max.loop" := by decide
  have ni : ∀ c o, h0.get? c = some o → c ∉ [I] := fun c o e => by simp [(lt c o e).1]
  apply codeAny_builtin F.entry_max_loop; rw [Around.under_plainId F.plain_max_loop _]; show wpAny _ A.in1 (_ >>= _) _ _ s
  refine wpAny_bind (wpAny_seqItems hS rfl ?_); show wpAny _ A.in1 (tryCatch (pyNext (.ref I)) _ >>= _) _ _ s
  refine wpAny_bind (wpAny_tryCatch (W.item 0 s _ _ (by simp) ⟨hI, hT⟩ fun v1 h1 t1 p1 st1 k1 => ?_))
  have e1 : v1 = a := by simpa using p1.symm
  have hS1 := k1 S _ hw hS
  show wpAny _ A.in1 (updateSeq S (fun _ => #[v1, v1]) >>= _) _ _ _
  apply wpAny_bind; refine wpAny_updateSeq hS1 rfl ?_; rw [hname]
  refine wpAny_pure ⟨plainId_quiet F.plain_max_loop _, ?_⟩
  have hS2 := Heap.get?_update_self (Obj.mapSeq fun _ => #[v1, v1]) hS1 rfl
  have st2 := W.frame 1 _ (h1.update S (Obj.mapSeq fun _ => #[v1, v1])) st1 fun c hc o e => (Heap.get?_update_other _ _ (fun z : S = c => by
    rw [← z] at hc; simp [hSI, hSa] at hc)).trans e
  have k2 : ∀ c o, h0.get? c = some o → (h1.update S (Obj.mapSeq fun _ => #[v1, v1])).get? c = some o := fun c o e => (Heap.get?_update_other _ _ (Ne.symm (lt c o e).2)).trans (k1 c o (ni c o e) (hk0 c o e))
  generalize h1.update S (Obj.mapSeq fun _ => #[v1, v1]) = h2 at hS2 st2 k2
  apply codeAny_builtin F.entry_max_loop; rw [Around.under_plainId F.plain_max_loop _]; show wpAny _ A.in1 (_ >>= _) _ _ _
  refine wpAny_bind (wpAny_seqItems hS2 rfl ?_); show wpAny _ A.in1 (tryCatch (pyNext (.ref I)) _ >>= _) _ _ _
  refine wpAny_bind (wpAny_tryCatch (W.item 1 _ _ _ (by simp) st2 fun v2 h3 t3 p2 st3 k3 => ?_))
  have e2 : v2 = b := by simpa using p2.symm
  have hS3 := k3 S _ hw hS2
  have k4 : ∀ c o, h0.get? c = some o → h3.get? c = some o := fun c o e => k3 c o (ni c o e) (k2 c o e)
  show wpAny _ A.in1 (tryCatch (holding [v2, v2] (richCompare .Gt v2 v1 >>= _)) _ >>= _) _ _ _
  subst e1 e2
  refine wpAny_bind (wpAny_tryCatch (wpAny_holding (wpAny_bind (hc _ _ _ k4 ?_))))
  refine wpAny_bind (wpAny_holding (wpAny_truthy_bool ?_)); refine wpAny_bind (wpAny_letGo (wpAny_pure ?_))
  have fin : ∀ (h4 : Heap) (t4 m4 : Nat) (vb : Value), h4.IsTupleIter I ax 2 ∧ h4.IsTuple ax #[v1, v2] → h4.get? S = some { cls := .type "list", dict := none, data := .seq #[vb, vb] m4, slots := #[] } → (∀ c o, h0.get? c = some o → h4.get? c = some o) →
      (∀ h' tk, (∀ c o, h0.get? c = some o → h'.get? c = some o) → R (.ok (.ret vb)) { s with heap := h', toks := tk }) → codeAny (model prog w) A (.builtin "max.loop" ⟨[.ref I, .none, .ref S], []⟩) R { s with heap := h4, toks := t4 } := fun h4 t4 m4 vb st4 hS4 k4 hR => by
    apply codeAny_builtin F.entry_max_loop; rw [Around.under_plainId F.plain_max_loop _]; show wpAny _ A.in1 (_ >>= _) _ _ _
    refine wpAny_bind (wpAny_seqItems hS4 rfl ?_); show wpAny _ A.in1 (tryCatch (pyNext (.ref I)) _ >>= _) _ _ _
    refine wpAny_bind (wpAny_tryCatch (W.done _ _ _ st4 fun h5 t5 k5 => ?_))
    have hS5 := k5 S _ hw hS4
    show wpAny _ A.in1 (updateSeq S (fun _ => #[]) >>= _) _ _ _
    apply wpAny_bind; refine wpAny_updateSeq hS5 rfl (wpAny_bind (wpAny_letGo (wpAny_pure ?_)))
    exact hR _ t5 fun c o e => (Heap.get?_update_other _ _ (Ne.symm (lt c o e).2)).trans (k5 c o (ni c o e) (k4 c o e))
  cases k with
  | true =>
    simp only [if_true] at hR ⊢
    apply wpAny_bind; refine wpAny_updateSeq hS3 rfl (wpAny_bind (wpAny_letGo ?_)); rw [hname]
    refine wpAny_pure ⟨plainId_quiet F.plain_max_loop _, fin _ _ _ v2 ?_ (Heap.get?_update_self _ hS3 rfl) (fun c o e => (Heap.get?_update_other _ _ (Ne.symm (lt c o e).2)).trans (k4 c o e)) hR⟩
    exact W.frame 2 _ _ st3 fun c hc o e => (Heap.get?_update_other _ _ (fun z : S = c => by
      rw [← z] at hc; simp [hSI, hSa] at hc)).trans e
  | false =>
    simp only [Bool.false_eq_true, if_false] at hR ⊢
    refine wpAny_bind (wpAny_letGo ?_); rw [hname]
    exact wpAny_pure ⟨plainId_quiet F.plain_max_loop _, fin _ _ _ v1 st3 hS3 k4 hR⟩
theorem call_max_at {a b : Value} {k : Bool} {Q : Value → Shared → Prop} (hh : A.handled = none) (hc : CmpAt prog w A.in1 s.heap .Gt b a k)
    (h : ∀ h' tk, (∀ c o, s.heap.get? c = some o → h'.get? c = some o) → Q (if k = true then b else a) { s with heap := h', toks := tk }) : wpAny (model prog w) A (call (.builtin "max") [a, b]) Q E s := by
  have hT : (s.heap.push { cls := .type "tuple", data := .seq #[a, b] }).IsTuple s.heap.objs.size #[a, b] := ⟨_, Heap.get?_push_size _ rfl, rfl, 0, rfl⟩
  have hname : (toString "max" ++ toString ".loop" : String) = "max.loop" := by decide
  have z1 : (s.heap.push { cls := .type "tuple", data := .seq #[a, b] }).objs.size = s.heap.objs.size + 1 := Heap.size_push ..
  apply call_function_tree F.kind_max F.plain_max F.entry_max (F.args_max2 _ _)
  show wpAny _ A.in1 (Builtin.Builtins.bindParams "max" ["key", "default"] 0 ⟨[], []⟩ >>= _) _ _ s
  apply wpAny_bind; apply wpAny_of_eq (show Builtin.Builtins.bindParams "max" ["key", "default"] 0 ⟨[], []⟩ = pure [none, none] from rfl)
  show wpAny _ A.in1 (newTuple [a, b] >>= _) _ _ s
  apply wpAny_bind; refine wpAny_newObj_type ?_; apply wpAny_bind; apply wpAny_pyIter_tuple hT
  apply wpAny_bind; refine wpAny_newObj_type ?_
  rw [hname]
  refine wpAny_pure ⟨plainId_quiet F.plain_max_loop _, two_loop_max (h0 := s.heap) (ax := s.heap.objs.size) hh ?_ ?_ ?_ hc (fun c o e => ?_) (fun c o e => ?_) ?_ ?_ (Heap.get?_push_size _ rfl) h⟩
  · exact Nat.ne_of_lt (show s.heap.objs.size < (s.heap.push _).objs.size by simp only [Heap.size_push]; omega)
  · exact Nat.ne_of_gt (show (s.heap.push _).objs.size < ((s.heap.push _).push _).objs.size by simp only [Heap.size_push]; omega)
  · exact Nat.ne_of_gt (show s.heap.objs.size < ((s.heap.push _).push _).objs.size by simp only [Heap.size_push]; omega)
  · have lz := Heap.lt_size e
    exact ⟨Nat.ne_of_lt (show c < (s.heap.push _).objs.size by simp only [Heap.size_push]; exact Nat.lt_succ_of_lt lz), Nat.ne_of_lt (show c < ((s.heap.push _).push _).objs.size by simp only [Heap.size_push]; exact Nat.lt_succ_of_lt (Nat.lt_succ_of_lt lz))⟩
  · exact Heap.get?_push_of_some _ (Heap.get?_push_of_some _ (Heap.get?_push_of_some _ e))
  · exact ⟨_, Heap.get?_push_of_some _ (Heap.get?_push_size _ rfl), rfl, rfl⟩
  · exact (hT.push _).push _
end
section
variable {prog : Program} {w : World} {A : Around} {E : Value → Shared → Prop} {s : Shared}
theorem two_loop_min {a b : Value} {k : Bool} {I S ax : Addr} {h0 : Heap} {n0 : Nat} (hh : A.handled = none) (hne : ax ≠ I) (hSI : S ≠ I) (hSa : S ≠ ax) (hc : CmpAt prog w A.in1 h0 .Lt b a k) {R : Result → Shared → Prop} (lt : ∀ c o, h0.get? c = some o → c ≠ I ∧ c ≠ S)
    (hk0 : ∀ c o, h0.get? c = some o → s.heap.get? c = some o) (hI : s.heap.IsTupleIter I ax 0) (hT : s.heap.IsTuple ax #[a, b]) (hS : s.heap.get? S = some { cls := .type "list", dict := none, data := .seq #[] n0, slots := #[] })
    (hR : ∀ h' tk, (∀ c o, h0.get? c = some o → h'.get? c = some o) → R (.ok (.ret (if k = true then b else a))) { s with heap := h', toks := tk }) :
    codeAny (model prog w) A (.builtin "min.loop" ⟨[.ref I, .none, .ref S], []⟩) R s := by
  have W := Walks.tuple (prog := prog) (w := w) (A := A.in1) hh I ax hne #[a, b]
  have hw : S ∉ [I] := by simp [hSI]
  have hname : (toString "min" ++ toString ".loop" : String) = "min.loop" := by decide
  have ni : ∀ c o, h0.get? c = some o → c ∉ [I] := fun c o e => by simp [(lt c o e).1]
  apply codeAny_builtin F.entry_min_loop; rw [Around.under_plainId F.plain_min_loop _]; show wpAny _ A.in1 (_ >>= _) _ _ s
  refine wpAny_bind (wpAny_seqItems hS rfl ?_); show wpAny _ A.in1 (tryCatch (pyNext (.ref I)) _ >>= _) _ _ s
  refine wpAny_bind (wpAny_tryCatch (W.item 0 s _ _ (by simp) ⟨hI, hT⟩ fun v1 h1 t1 p1 st1 k1 => ?_))
  have e1 : v1 = a := by simpa using p1.symm
  have hS1 := k1 S _ hw hS
  show wpAny _ A.in1 (updateSeq S (fun _ => #[v1, v1]) >>= _) _ _ _
  apply wpAny_bind; refine wpAny_updateSeq hS1 rfl ?_; rw [hname]
  refine wpAny_pure ⟨plainId_quiet F.plain_min_loop _, ?_⟩
  have hS2 := Heap.get?_update_self (Obj.mapSeq fun _ => #[v1, v1]) hS1 rfl
  have st2 := W.frame 1 _ (h1.update S (Obj.mapSeq fun _ => #[v1, v1])) st1 fun c hc o e => (Heap.get?_update_other _ _ (fun z : S = c => by
    rw [← z] at hc; simp [hSI, hSa] at hc)).trans e
  have k2 : ∀ c o, h0.get? c = some o → (h1.update S (Obj.mapSeq fun _ => #[v1, v1])).get? c = some o := fun c o e => (Heap.get?_update_other _ _ (Ne.symm (lt c o e).2)).trans (k1 c o (ni c o e) (hk0 c o e))
  generalize h1.update S (Obj.mapSeq fun _ => #[v1, v1]) = h2 at hS2 st2 k2
  apply codeAny_builtin F.entry_min_loop; rw [Around.under_plainId F.plain_min_loop _]; show wpAny _ A.in1 (_ >>= _) _ _ _
  refine wpAny_bind (wpAny_seqItems hS2 rfl ?_); show wpAny _ A.in1 (tryCatch (pyNext (.ref I)) _ >>= _) _ _ _
  refine wpAny_bind (wpAny_tryCatch (W.item 1 _ _ _ (by simp) st2 fun v2 h3 t3 p2 st3 k3 => ?_))
  have e2 : v2 = b := by simpa using p2.symm
  have hS3 := k3 S _ hw hS2
  have k4 : ∀ c o, h0.get? c = some o → h3.get? c = some o := fun c o e => k3 c o (ni c o e) (k2 c o e)
  show wpAny _ A.in1 (tryCatch (holding [v2, v2] (richCompare .Lt v2 v1 >>= _)) _ >>= _) _ _ _
  subst e1 e2
  refine wpAny_bind (wpAny_tryCatch (wpAny_holding (wpAny_bind (hc _ _ _ k4 ?_))))
  refine wpAny_bind (wpAny_holding (wpAny_truthy_bool ?_)); refine wpAny_bind (wpAny_letGo (wpAny_pure ?_))
  have fin : ∀ (h4 : Heap) (t4 m4 : Nat) (vb : Value), h4.IsTupleIter I ax 2 ∧ h4.IsTuple ax #[v1, v2] → h4.get? S = some { cls := .type "list", dict := none, data := .seq #[vb, vb] m4, slots := #[] } → (∀ c o, h0.get? c = some o → h4.get? c = some o) →
      (∀ h' tk, (∀ c o, h0.get? c = some o → h'.get? c = some o) → R (.ok (.ret vb)) { s with heap := h', toks := tk }) → codeAny (model prog w) A (.builtin "min.loop" ⟨[.ref I, .none, .ref S], []⟩) R { s with heap := h4, toks := t4 } := fun h4 t4 m4 vb st4 hS4 k4 hR => by
    apply codeAny_builtin F.entry_min_loop; rw [Around.under_plainId F.plain_min_loop _]; show wpAny _ A.in1 (_ >>= _) _ _ _
    refine wpAny_bind (wpAny_seqItems hS4 rfl ?_); show wpAny _ A.in1 (tryCatch (pyNext (.ref I)) _ >>= _) _ _ _
    refine wpAny_bind (wpAny_tryCatch (W.done _ _ _ st4 fun h5 t5 k5 => ?_))
    have hS5 := k5 S _ hw hS4
    show wpAny _ A.in1 (updateSeq S (fun _ => #[]) >>= _) _ _ _
    apply wpAny_bind; refine wpAny_updateSeq hS5 rfl (wpAny_bind (wpAny_letGo (wpAny_pure ?_)))
    exact hR _ t5 fun c o e => (Heap.get?_update_other _ _ (Ne.symm (lt c o e).2)).trans (k5 c o (ni c o e) (k4 c o e))
  cases k with
  | true =>
    simp only [if_true] at hR ⊢
    apply wpAny_bind; refine wpAny_updateSeq hS3 rfl (wpAny_bind (wpAny_letGo ?_)); rw [hname]
    refine wpAny_pure ⟨plainId_quiet F.plain_min_loop _, fin _ _ _ v2 ?_ (Heap.get?_update_self _ hS3 rfl) (fun c o e => (Heap.get?_update_other _ _ (Ne.symm (lt c o e).2)).trans (k4 c o e)) hR⟩
    exact W.frame 2 _ _ st3 fun c hc o e => (Heap.get?_update_other _ _ (fun z : S = c => by
      rw [← z] at hc; simp [hSI, hSa] at hc)).trans e
  | false =>
    simp only [Bool.false_eq_true, if_false] at hR ⊢
    refine wpAny_bind (wpAny_letGo ?_); rw [hname]
    exact wpAny_pure ⟨plainId_quiet F.plain_min_loop _, fin _ _ _ v1 st3 hS3 k4 hR⟩
theorem call_min_at {a b : Value} {k : Bool} {Q : Value → Shared → Prop} (hh : A.handled = none) (hc : CmpAt prog w A.in1 s.heap .Lt b a k)
    (h : ∀ h' tk, (∀ c o, s.heap.get? c = some o → h'.get? c = some o) → Q (if k = true then b else a) { s with heap := h', toks := tk }) : wpAny (model prog w) A (call (.builtin "min") [a, b]) Q E s := by
  have hT : (s.heap.push { cls := .type "tuple", data := .seq #[a, b] }).IsTuple s.heap.objs.size #[a, b] := ⟨_, Heap.get?_push_size _ rfl, rfl, 0, rfl⟩
  have hname : (toString "min" ++ toString ".loop" : String) = "min.loop" := by decide
  have z1 : (s.heap.push { cls := .type "tuple", data := .seq #[a, b] }).objs.size = s.heap.objs.size + 1 := Heap.size_push ..
  apply call_function_tree F.kind_min F.plain_min F.entry_min (F.args_min2 _ _)
  show wpAny _ A.in1 (Builtin.Builtins.bindParams "min" ["key", "default"] 0 ⟨[], []⟩ >>= _) _ _ s
  apply wpAny_bind; apply wpAny_of_eq (show Builtin.Builtins.bindParams "min" ["key", "default"] 0 ⟨[], []⟩ = pure [none, none] from rfl)
  show wpAny _ A.in1 (newTuple [a, b] >>= _) _ _ s
  apply wpAny_bind; refine wpAny_newObj_type ?_; apply wpAny_bind; apply wpAny_pyIter_tuple hT
  apply wpAny_bind; refine wpAny_newObj_type ?_
  rw [hname]
  refine wpAny_pure ⟨plainId_quiet F.plain_min_loop _, two_loop_min (h0 := s.heap) (ax := s.heap.objs.size) hh ?_ ?_ ?_ hc (fun c o e => ?_) (fun c o e => ?_) ?_ ?_ (Heap.get?_push_size _ rfl) h⟩
  · exact Nat.ne_of_lt (show s.heap.objs.size < (s.heap.push _).objs.size by simp only [Heap.size_push]; omega)
  · exact Nat.ne_of_gt (show (s.heap.push _).objs.size < ((s.heap.push _).push _).objs.size by simp only [Heap.size_push]; omega)
  · exact Nat.ne_of_gt (show s.heap.objs.size < ((s.heap.push _).push _).objs.size by simp only [Heap.size_push]; omega)
  · have lz := Heap.lt_size e
    exact ⟨Nat.ne_of_lt (show c < (s.heap.push _).objs.size by simp only [Heap.size_push]; exact Nat.lt_succ_of_lt lz), Nat.ne_of_lt (show c < ((s.heap.push _).push _).objs.size by simp only [Heap.size_push]; exact Nat.lt_succ_of_lt (Nat.lt_succ_of_lt lz))⟩
  · exact Heap.get?_push_of_some _ (Heap.get?_push_of_some _ (Heap.get?_push_of_some _ e))
  · exact ⟨_, Heap.get?_push_of_some _ (Heap.get?_push_size _ rfl), rfl, rfl⟩
  · exact (hT.push _).push _
end
end PySem
namespace ML
open PySem PySem.Spec L2
open PyProof.Rows hiding St
abbrev U2 := Int × Int
def ult (p q : U2) : Prop := p.1 < q.1 ∨ (p.1 = q.1 ∧ p.2 < q.2)
def ule (p q : U2) : Prop := p.1 < q.1 ∨ (p.1 = q.1 ∧ p.2 ≤ q.2)
instance : DecidableRel ult := fun a b => by unfold ult; infer_instance
instance : DecidableRel ule := fun a b => by unfold ule; infer_instance
/-- a pair of ints -/
def uD (p : U2) : D := .tup [.int p.1, .int p.2]
theorem ints2 {us : List Value} {p : U2} (r : Vals [V.int p.1, V.int p.2] us) : ∃ t u, us = [.int p.1 t, .int p.2 u] := by
  obtain ⟨a, b, rfl, r1, r2⟩ := vals2 r
  obtain ⟨t, rfl⟩ : ∃ t, a = .int p.1 t := r1
  obtain ⟨u, rfl⟩ : ∃ t, b = .int p.2 t := r2
  exact ⟨t, u, rfl⟩
theorem eq2 {A : Around} {s : Shared} {p q : U2} {t u t' u' : Tok} : ∀ j (h1 : j < (#[Value.int p.1 t, Value.int p.2 u] : Array Value).size) (h2 : j < (#[Value.int q.1 t', Value.int q.2 u'] : Array Value).size),
    SeqAt.EqAt A s (#[Value.int p.1 t, Value.int p.2 u] : Array Value)[j] (#[Value.int q.1 t', Value.int q.2 u'] : Array Value)[j] (if j = 0 then decide (p.1 = q.1) else decide (p.2 = q.2)) := by
  intro j h1 h2
  have e : ∀ a b : Int, (a == b) = decide (a = b) := fun a b => Bool.beq_eq_decide_eq a b
  rcases j with _ | _ | j
  · have := SeqAt.EqAt.int_int (A := A) (s := s) p.1 t q.1 t'
    rw [e] at this
    simpa using this
  · have := SeqAt.EqAt.int_int (A := A) (s := s) p.2 u q.2 u'
    rw [e] at this
    simpa using this
  · simp at h1; omega
theorem rc_lt {A : Around} {s : Shared} {l b : Addr} {p q : U2} {t u t' u' : Tok} (hl : s.heap.IsTuple l #[.int p.1 t, .int p.2 u]) (hb : s.heap.IsTuple b #[.int q.1 t', .int q.2 u']) (hu : A.units < cLine) : Ob.RcOp .Lt A s (.ref l) (.ref b) (decide (ult p q)) := by
  have R := Ob.RcOp.tuples_lt (A := A) (s := s) (e := fun j => if j = 0 then decide (p.1 = q.1) else decide (p.2 = q.2)) (r := fun j => if j = 0 then decide (p.1 < q.1) else decide (p.2 < q.2)) hl hb hu eq2 (fun j h1 h2 _ => by
    rcases j with _ | _ | j
    · simpa using Ob.RcOp.lt_int (A := A.in1) (s := s) p.1 q.1 t t'
    · simpa using Ob.RcOp.lt_int (A := A.in1) (s := s) p.2 q.2 u u'
    · simp at h1; omega)
  have e : (decide (ult p q)) = Ob.lexAt (fun j => if j = 0 then decide (p.1 = q.1) else decide (p.2 = q.2)) (fun j => if j = 0 then decide (p.1 < q.1) else decide (p.2 < q.2)) false 0 2 := by
    rw [Ob.lexAt_succ, Ob.lexAt_succ, Ob.lexAt_zero]
    simp only [if_true, if_false, Nat.zero_add, Nat.one_ne_zero, decide_eq_true_eq]
    apply Bool.eq_iff_iff.mpr
    by_cases h1 : p.1 = q.1 <;> by_cases h2 : p.2 = q.2 <;> simp only [h1, h2, if_true, if_false, decide_eq_true_eq, ult, ule, Bool.false_eq_true, true_and, false_and, or_false, Int.lt_irrefl, Int.le_refl, false_or, iff_self]
    all_goals grind
  rw [e]
  simpa using R
def tuplt (K : PySem.W.Frag) : R2 := fun x y H Q => ∃ (a b : Addr) (p q : U2), x = .ref a ∧ y = .ref b ∧ SqT K H a [.int p.1, .int p.2] ∧ SqT K H b [.int q.1, .int q.2] ∧ Q (.bl (decide (ult p q))) H
theorem opT_lt {X : Cx} (hu : X.A.units < cLine) : OpR X (compareOp .Lt) (tuplt X.K) := by
  rintro pins s σ H x y v u Q I rx ry ⟨a, b, p, q, rfl, rfl, ha, hb, k⟩
  obtain rfl : v = Value.ref a := rx
  obtain rfl : u = Value.ref b := ry
  obtain ⟨its, r1, p1, _⟩ := I.tuple ha
  obtain ⟨its2, r2, p2, _⟩ := I.tuple hb
  obtain ⟨t, u, rfl⟩ := ints2 r1
  obtain ⟨t', u', rfl⟩ := ints2 r2
  exact rc_lt p1 p2 hu X.prog X.w X.xe _ ⟨.bl _, H, I, rfl, k⟩
theorem rc_gt {A : Around} {s : Shared} {l b : Addr} {p q : U2} {t u t' u' : Tok} (hl : s.heap.IsTuple l #[.int p.1 t, .int p.2 u]) (hb : s.heap.IsTuple b #[.int q.1 t', .int q.2 u']) (hu : A.units < cLine) : Ob.RcOp .Gt A s (.ref l) (.ref b) (decide (ult q p)) := by
  have R := Ob.RcOp.tuples_gt (A := A) (s := s) (e := fun j => if j = 0 then decide (p.1 = q.1) else decide (p.2 = q.2)) (r := fun j => if j = 0 then decide (q.1 < p.1) else decide (q.2 < p.2)) hl hb hu eq2 (fun j h1 h2 _ => by
    rcases j with _ | _ | j
    · simpa using Ob.RcOp.gt_int (A := A.in1) (s := s) p.1 q.1 t t'
    · simpa using Ob.RcOp.gt_int (A := A.in1) (s := s) p.2 q.2 u u'
    · simp at h1; omega)
  have e : (decide (ult q p)) = Ob.lexAt (fun j => if j = 0 then decide (p.1 = q.1) else decide (p.2 = q.2)) (fun j => if j = 0 then decide (q.1 < p.1) else decide (q.2 < p.2)) false 0 2 := by
    rw [Ob.lexAt_succ, Ob.lexAt_succ, Ob.lexAt_zero]
    simp only [if_true, if_false, Nat.zero_add, Nat.one_ne_zero, decide_eq_true_eq]
    apply Bool.eq_iff_iff.mpr
    by_cases h1 : p.1 = q.1 <;> by_cases h2 : p.2 = q.2 <;> simp only [h1, h2, if_true, if_false, decide_eq_true_eq, ult, ule, Bool.false_eq_true, true_and, false_and, or_false, Int.lt_irrefl, Int.le_refl, false_or, iff_self]
    all_goals grind
  rw [e]
  simpa using R
def tupgt (K : PySem.W.Frag) : R2 := fun x y H Q => ∃ (a b : Addr) (p q : U2), x = .ref a ∧ y = .ref b ∧ SqT K H a [.int p.1, .int p.2] ∧ SqT K H b [.int q.1, .int q.2] ∧ Q (.bl (decide (ult q p))) H
theorem opT_gt {X : Cx} (hu : X.A.units < cLine) : OpR X (compareOp .Gt) (tupgt X.K) := by
  rintro pins s σ H x y v u Q I rx ry ⟨a, b, p, q, rfl, rfl, ha, hb, k⟩
  obtain rfl : v = Value.ref a := rx
  obtain rfl : u = Value.ref b := ry
  obtain ⟨its, r1, p1, _⟩ := I.tuple ha
  obtain ⟨its2, r2, p2, _⟩ := I.tuple hb
  obtain ⟨t, u, rfl⟩ := ints2 r1
  obtain ⟨t', u', rfl⟩ := ints2 r2
  exact rc_gt p1 p2 hu X.prog X.w X.xe _ ⟨.bl _, H, I, rfl, k⟩
theorem rc_le {A : Around} {s : Shared} {l b : Addr} {p q : U2} {t u t' u' : Tok} (hl : s.heap.IsTuple l #[.int p.1 t, .int p.2 u]) (hb : s.heap.IsTuple b #[.int q.1 t', .int q.2 u']) (hu : A.units < cLine) : Ob.RcOp .LtE A s (.ref l) (.ref b) (decide (ule p q)) := by
  have R := Ob.RcOp.tuples_le (A := A) (s := s) (e := fun j => if j = 0 then decide (p.1 = q.1) else decide (p.2 = q.2)) (r := fun j => if j = 0 then decide (p.1 ≤ q.1) else decide (p.2 ≤ q.2)) hl hb hu eq2 (fun j h1 h2 _ => by
    rcases j with _ | _ | j
    · simpa using Ob.RcOp.le_int (A := A.in1) (s := s) p.1 q.1 t t'
    · simpa using Ob.RcOp.le_int (A := A.in1) (s := s) p.2 q.2 u u'
    · simp at h1; omega)
  have e : (decide (ule p q)) = Ob.lexAt (fun j => if j = 0 then decide (p.1 = q.1) else decide (p.2 = q.2)) (fun j => if j = 0 then decide (p.1 ≤ q.1) else decide (p.2 ≤ q.2)) true 0 2 := by
    rw [Ob.lexAt_succ, Ob.lexAt_succ, Ob.lexAt_zero]
    simp only [if_true, if_false, Nat.zero_add, Nat.one_ne_zero, decide_eq_true_eq]
    apply Bool.eq_iff_iff.mpr
    by_cases h1 : p.1 = q.1 <;> by_cases h2 : p.2 = q.2 <;> simp only [h1, h2, if_true, if_false, decide_eq_true_eq, ult, ule, Bool.false_eq_true, true_and, false_and, or_false, Int.lt_irrefl, Int.le_refl, false_or, iff_self]
    all_goals grind
  rw [e]
  simpa using R
def tuple (K : PySem.W.Frag) : R2 := fun x y H Q => ∃ (a b : Addr) (p q : U2), x = .ref a ∧ y = .ref b ∧ SqT K H a [.int p.1, .int p.2] ∧ SqT K H b [.int q.1, .int q.2] ∧ Q (.bl (decide (ule p q))) H
theorem opT_le {X : Cx} (hu : X.A.units < cLine) : OpR X (compareOp .LtE) (tuple X.K) := by
  rintro pins s σ H x y v u Q I rx ry ⟨a, b, p, q, rfl, rfl, ha, hb, k⟩
  obtain rfl : v = Value.ref a := rx
  obtain rfl : u = Value.ref b := ry
  obtain ⟨its, r1, p1, _⟩ := I.tuple ha
  obtain ⟨its2, r2, p2, _⟩ := I.tuple hb
  obtain ⟨t, u, rfl⟩ := ints2 r1
  obtain ⟨t', u', rfl⟩ := ints2 r2
  exact rc_le p1 p2 hu X.prog X.w X.xe _ ⟨.bl _, H, I, rfl, k⟩
theorem ct_max {X : Cx} (hc : X.calm = true) (hu : X.A.units + 65 < cLine) : CallR X (.builtin "max") (fun xs H Q => ∃ (a b : Addr) (p q : U2), xs = [.ref a, .ref b] ∧ SqT X.K H a [.int p.1, .int p.2] ∧ SqT X.K H b [.int q.1, .int q.2] ∧ Q (if ult p q then .ref b else .ref a) H) := by
  rintro pins s σ H xs us Q I r ⟨a, b, p, q, rfl, ha, hb, k⟩
  obtain ⟨u, w', rfl, r1, r2⟩ := vals2 r
  obtain rfl : u = Value.ref a := r1
  obtain rfl : w' = Value.ref b := r2
  obtain ⟨its, v1, p1, _⟩ := I.tuple ha
  obtain ⟨its2, v2, p2, _⟩ := I.tuple hb
  obtain ⟨t, u, rfl⟩ := ints2 v1
  obtain ⟨t', u', rfl⟩ := ints2 v2
  refine call_max_at (k := decide (ult p q)) (I.ok.hd hc) (fun s' Q' E' kp q' => ?_) fun h' tk kp => ⟨_, H, I.kept kp, ?_, k⟩
  · have p1' : s'.heap.IsTuple a #[.int p.1 t, .int p.2 u] := (by obtain ⟨o, e, c⟩ := p1; exact ⟨o, kp _ _ e, c⟩)
    have p2' : s'.heap.IsTuple b #[.int q.1 t', .int q.2 u'] := (by obtain ⟨o, e, c⟩ := p2; exact ⟨o, kp _ _ e, c⟩)
    exact rc_gt p2' p1' (show X.A.units + 1 < cLine by omega) X.prog X.w _ _ q'
  · by_cases h : ult p q
    · simp only [h, decide_true, if_true]; rfl
    · simp only [h, decide_false, if_false, Bool.false_eq_true]; rfl
theorem ct_min {X : Cx} (hc : X.calm = true) (hu : X.A.units + 65 < cLine) : CallR X (.builtin "min") (fun xs H Q => ∃ (a b : Addr) (p q : U2), xs = [.ref a, .ref b] ∧ SqT X.K H a [.int p.1, .int p.2] ∧ SqT X.K H b [.int q.1, .int q.2] ∧ Q (if ult q p then .ref b else .ref a) H) := by
  rintro pins s σ H xs us Q I r ⟨a, b, p, q, rfl, ha, hb, k⟩
  obtain ⟨u, w', rfl, r1, r2⟩ := vals2 r
  obtain rfl : u = Value.ref a := r1
  obtain rfl : w' = Value.ref b := r2
  obtain ⟨its, v1, p1, _⟩ := I.tuple ha
  obtain ⟨its2, v2, p2, _⟩ := I.tuple hb
  obtain ⟨t, u, rfl⟩ := ints2 v1
  obtain ⟨t', u', rfl⟩ := ints2 v2
  refine call_min_at (k := decide (ult q p)) (I.ok.hd hc) (fun s' Q' E' kp q' => ?_) fun h' tk kp => ⟨_, H, I.kept kp, ?_, k⟩
  · have p1' : s'.heap.IsTuple a #[.int p.1 t, .int p.2 u] := (by obtain ⟨o, e, c⟩ := p1; exact ⟨o, kp _ _ e, c⟩)
    have p2' : s'.heap.IsTuple b #[.int q.1 t', .int q.2 u'] := (by obtain ⟨o, e, c⟩ := p2; exact ⟨o, kp _ _ e, c⟩)
    exact rc_lt p2' p1' (show X.A.units + 1 < cLine by omega) X.prog X.w _ _ q'
  · by_cases h : ult q p
    · simp only [h, decide_true, if_true]; rfl
    · simp only [h, decide_false, if_false, Bool.false_eq_true]; rfl
end ML
namespace ML
open PySem PySem.Spec L2
open PyProof.Rows hiding St
section
variable {X : Cx}
theorem rd_int {K : PySem.W.Frag} {H : Hp} {S : Sto} {v : V} {i : Int} (r : RD K H S v (.int i)) : v = .int i := by cases r; rfl
theorem rds_u {K : PySem.W.Frag} {H : Hp} {S : Sto} {vs : List V} {a b : Int} (r : RDs K H S vs [.int a, .int b]) : vs = [.int a, .int b] := by
  obtain ⟨v, w, rfl, r1, r2⟩ := rds2 r
  rw [rd_int r1, rd_int r2]
def aLt : R2m := fun d e S Q => match d, e with
  | .int i, .int j => Q (.bl (decide (i < j))) S
  | .tup [.int a, .int b], .tup [.int c, .int e] => Q (.bl (decide (ult (a, b) (c, e)))) S
  | _, _ => False
theorem oa_lt (hu : X.A.units + 65 < cLine) : OpR X (compareOp .Lt) (fun x y H Q => rI0 (fun i j => .bl (decide (i < j))) x y H Q ∨ tuplt X.K x y H Q) := op_lt.or (opT_lt (by omega))
theorem la_lt : OpL X.K (fun x y H Q => rI0 (fun i j => .bl (decide (i < j))) x y H Q ∨ tuplt X.K x y H Q) aLt := by
  intro H S x y d e Qm Q s rx ry h k
  unfold aLt at h
  split at h
  · cases rx; cases ry
    exact .inl ⟨_, _, rfl, rfl, k _ S _ H h Ext.refl s (.bl _)⟩
  · obtain ⟨p, vs, rfl, h1, r1⟩ := rx.tupSq
    obtain ⟨p2, ws, rfl, h2, r2⟩ := ry.tupSq
    rw [rds_u r1] at h1
    rw [rds_u r2] at h2
    exact .inr ⟨p, p2, (_, _), (_, _), rfl, rfl, h1, h2, k _ S _ H h Ext.refl s (.bl _)⟩
  · exact h.elim
theorem l_aLt_int {i j : Int} {S : Sto} {Q : MQ} : aLt (.int i) (.int j) S Q = Q (.bl (decide (i < j))) S := Eq.trans rfl rfl
theorem l_aLt_u {p q : U2} {S : Sto} {Q : MQ} : aLt (uD p) (uD q) S Q = Q (.bl (decide (ult p q))) S := Eq.trans rfl rfl
def aGt : R2m := fun d e S Q => match d, e with
  | .int i, .int j => Q (.bl (decide (j < i))) S
  | .tup [.int a, .int b], .tup [.int c, .int e] => Q (.bl (decide (ult (c, e) (a, b)))) S
  | _, _ => False
theorem oa_gt (hu : X.A.units + 65 < cLine) : OpR X (compareOp .Gt) (fun x y H Q => rI0 (fun i j => .bl (decide (j < i))) x y H Q ∨ tupgt X.K x y H Q) := op_gt.or (opT_gt (by omega))
theorem la_gt : OpL X.K (fun x y H Q => rI0 (fun i j => .bl (decide (j < i))) x y H Q ∨ tupgt X.K x y H Q) aGt := by
  intro H S x y d e Qm Q s rx ry h k
  unfold aGt at h
  split at h
  · cases rx; cases ry
    exact .inl ⟨_, _, rfl, rfl, k _ S _ H h Ext.refl s (.bl _)⟩
  · obtain ⟨p, vs, rfl, h1, r1⟩ := rx.tupSq
    obtain ⟨p2, ws, rfl, h2, r2⟩ := ry.tupSq
    rw [rds_u r1] at h1
    rw [rds_u r2] at h2
    exact .inr ⟨p, p2, (_, _), (_, _), rfl, rfl, h1, h2, k _ S _ H h Ext.refl s (.bl _)⟩
  · exact h.elim
theorem l_aGt_int {i j : Int} {S : Sto} {Q : MQ} : aGt (.int i) (.int j) S Q = Q (.bl (decide (j < i))) S := Eq.trans rfl rfl
theorem l_aGt_u {p q : U2} {S : Sto} {Q : MQ} : aGt (uD p) (uD q) S Q = Q (.bl (decide (ult q p))) S := Eq.trans rfl rfl
def aLe : R2m := fun d e S Q => match d, e with
  | .int i, .int j => Q (.bl (decide (i ≤ j))) S
  | .tup [.int a, .int b], .tup [.int c, .int e] => Q (.bl (decide (ule (a, b) (c, e)))) S
  | _, _ => False
theorem oa_le (hu : X.A.units + 65 < cLine) : OpR X (compareOp .LtE) (fun x y H Q => rI0 (fun i j => .bl (decide (i ≤ j))) x y H Q ∨ tuple X.K x y H Q) := op_le.or (opT_le (by omega))
theorem la_le : OpL X.K (fun x y H Q => rI0 (fun i j => .bl (decide (i ≤ j))) x y H Q ∨ tuple X.K x y H Q) aLe := by
  intro H S x y d e Qm Q s rx ry h k
  unfold aLe at h
  split at h
  · cases rx; cases ry
    exact .inl ⟨_, _, rfl, rfl, k _ S _ H h Ext.refl s (.bl _)⟩
  · obtain ⟨p, vs, rfl, h1, r1⟩ := rx.tupSq
    obtain ⟨p2, ws, rfl, h2, r2⟩ := ry.tupSq
    rw [rds_u r1] at h1
    rw [rds_u r2] at h2
    exact .inr ⟨p, p2, (_, _), (_, _), rfl, rfl, h1, h2, k _ S _ H h Ext.refl s (.bl _)⟩
  · exact h.elim
theorem l_aLe_int {i j : Int} {S : Sto} {Q : MQ} : aLe (.int i) (.int j) S Q = Q (.bl (decide (i ≤ j))) S := Eq.trans rfl rfl
theorem l_aLe_u {p q : U2} {S : Sto} {Q : MQ} : aLe (uD p) (uD q) S Q = Q (.bl (decide (ule p q))) S := Eq.trans rfl rfl
def aGe : R2m := fun d e S Q => match d, e with
  | .int i, .int j => Q (.bl (decide (j ≤ i))) S
  | .tup [.int a, .int b], .tup [.int c, .int e] => Q (.bl (decide (ule (c, e) (a, b)))) S
  | _, _ => False
theorem l_aGe_int {i j : Int} {S : Sto} {Q : MQ} : aGe (.int i) (.int j) S Q = Q (.bl (decide (j ≤ i))) S := Eq.trans rfl rfl
theorem l_aGe_u {p q : U2} {S : Sto} {Q : MQ} : aGe (uD p) (uD q) S Q = Q (.bl (decide (ule q p))) S := Eq.trans rfl rfl
def bMaxA : List D → Sto → MQ → Prop := fun ds S Q => match ds with
  | [.int i, .int j] => Q (.int (if j > i then j else i)) S
  | [.tup [.int a, .int b], .tup [.int c, .int e]] => Q (if ult (a, b) (c, e) then .tup [.int c, .int e] else .tup [.int a, .int b]) S
  | _ => False
theorem ca_max (hc : X.calm = true) (hu : X.A.units + 65 < cLine) : CallR X (.builtin "max") (fun xs H Q => (∃ i j, xs = [.int i, .int j] ∧ Q (.int (if j > i then j else i)) H) ∨ ∃ (a b : Addr) (p q : U2), xs = [.ref a, .ref b] ∧ SqT X.K H a [.int p.1, .int p.2] ∧ SqT X.K H b [.int q.1, .int q.2] ∧ Q (if ult p q then .ref b else .ref a) H) := by
  rintro pins s σ H xs us Q I r (h | h)
  · exact call_max2 hc pins s σ H xs us Q I r h
  · exact ct_max hc hu pins s σ H xs us Q I r h
theorem cl_maxA : CaL X.K (fun xs H Q => (∃ i j, xs = [.int i, .int j] ∧ Q (.int (if j > i then j else i)) H) ∨ ∃ (a b : Addr) (p q : U2), xs = [.ref a, .ref b] ∧ SqT X.K H a [.int p.1, .int p.2] ∧ SqT X.K H b [.int q.1, .int q.2] ∧ Q (if ult p q then .ref b else .ref a) H) bMaxA := by
  intro H S xs ds Qm Q s r h k
  unfold bMaxA at h
  split at h
  · obtain ⟨v, w, rfl, r1, r2⟩ := rds2 r
    cases r1; cases r2
    exact .inl ⟨_, _, rfl, k _ S _ H h Ext.refl s (.int _)⟩
  · next a b c e =>
    obtain ⟨v, w, rfl, r1, r2⟩ := rds2 r
    obtain ⟨p, vs, rfl, h1, q1⟩ := r1.tupSq
    obtain ⟨p2, ws, rfl, h2, q2⟩ := r2.tupSq
    rw [rds_u q1] at h1
    rw [rds_u q2] at h2
    refine .inr ⟨p, p2, (a, b), (c, e), rfl, h1, h2, ?_⟩
    split
    · next z => rw [if_pos z] at h; exact k _ S _ H h Ext.refl s r2
    · next z => rw [if_neg z] at h; exact k _ S _ H h Ext.refl s r1
  · exact h.elim
theorem l_bMaxA_int {i j : Int} {S : Sto} {Q : MQ} : bMaxA [.int i, .int j] S Q = Q (.int (if j > i then j else i)) S := Eq.trans rfl rfl
theorem l_bMaxA_u {p q : U2} {S : Sto} {Q : MQ} : bMaxA [uD p, uD q] S Q = Q (uD (if ult p q then q else p)) S := by
  have e : (if ult p q then uD q else uD p) = uD (if ult p q then q else p) := by split <;> rfl
  show Q (if ult p q then uD q else uD p) S = _
  rw [e]
def bMinA : List D → Sto → MQ → Prop := fun ds S Q => match ds with
  | [.int i, .int j] => Q (.int (if j < i then j else i)) S
  | [.tup [.int a, .int b], .tup [.int c, .int e]] => Q (if ult (c, e) (a, b) then .tup [.int c, .int e] else .tup [.int a, .int b]) S
  | _ => False
theorem ca_min (hc : X.calm = true) (hu : X.A.units + 65 < cLine) : CallR X (.builtin "min") (fun xs H Q => (∃ i j, xs = [.int i, .int j] ∧ Q (.int (if j < i then j else i)) H) ∨ ∃ (a b : Addr) (p q : U2), xs = [.ref a, .ref b] ∧ SqT X.K H a [.int p.1, .int p.2] ∧ SqT X.K H b [.int q.1, .int q.2] ∧ Q (if ult q p then .ref b else .ref a) H) := by
  rintro pins s σ H xs us Q I r (h | h)
  · exact call_min2 hc pins s σ H xs us Q I r h
  · exact ct_min hc hu pins s σ H xs us Q I r h
theorem cl_minA : CaL X.K (fun xs H Q => (∃ i j, xs = [.int i, .int j] ∧ Q (.int (if j < i then j else i)) H) ∨ ∃ (a b : Addr) (p q : U2), xs = [.ref a, .ref b] ∧ SqT X.K H a [.int p.1, .int p.2] ∧ SqT X.K H b [.int q.1, .int q.2] ∧ Q (if ult q p then .ref b else .ref a) H) bMinA := by
  intro H S xs ds Qm Q s r h k
  unfold bMinA at h
  split at h
  · obtain ⟨v, w, rfl, r1, r2⟩ := rds2 r
    cases r1; cases r2
    exact .inl ⟨_, _, rfl, k _ S _ H h Ext.refl s (.int _)⟩
  · next a b c e =>
    obtain ⟨v, w, rfl, r1, r2⟩ := rds2 r
    obtain ⟨p, vs, rfl, h1, q1⟩ := r1.tupSq
    obtain ⟨p2, ws, rfl, h2, q2⟩ := r2.tupSq
    rw [rds_u q1] at h1
    rw [rds_u q2] at h2
    refine .inr ⟨p, p2, (a, b), (c, e), rfl, h1, h2, ?_⟩
    split
    · next z => rw [if_pos z] at h; exact k _ S _ H h Ext.refl s r2
    · next z => rw [if_neg z] at h; exact k _ S _ H h Ext.refl s r1
  · exact h.elim
theorem l_bMinA_int {i j : Int} {S : Sto} {Q : MQ} : bMinA [.int i, .int j] S Q = Q (.int (if j < i then j else i)) S := Eq.trans rfl rfl
theorem l_bMinA_u {p q : U2} {S : Sto} {Q : MQ} : bMinA [uD p, uD q] S Q = Q (uD (if ult q p then q else p)) S := by
  have e : (if ult q p then uD q else uD p) = uD (if ult q p then q else p) := by split <;> rfl
  show Q (if ult q p then uD q else uD p) S = _
  rw [e]
end
/-- pairs of ints, walls of such: as values -/
theorem tup_u {a b : Int} : D.tup [.int a, .int b] = uD (a, b) := Eq.trans rfl rfl
theorem tupOf_u {p : U2} : tupOf (uD p) = some [.int p.1, .int p.2] := Eq.trans rfl rfl
theorem seqOf_u {S : Sto} {p : U2} : seqOf S (uD p) = some [.int p.1, .int p.2] := Eq.trans rfl rfl
theorem sqI_u {S : Sto} {p : U2} : sqI S (uD p) = some ([.int p.1, .int p.2], fun _ => True) := Eq.trans rfl rfl
theorem look_u {S : Sto} {p : U2} : look S (uD p) = uD p := Eq.trans rfl rfl
theorem isN_u {p : U2} : isN (uD p) = false := Eq.trans rfl rfl
theorem lenD_u {S : Sto} {p : U2} : lenD S (uD p) = some 2 := Eq.trans rfl rfl
theorem tyD_u {S : Sto} {p : U2} : tyD S (uD p) = some "tuple" := Eq.trans rfl rfl
abbrev UW := U2 × U2
def uwD (w : UW) : D := .tup [uD w.1, uD w.2]
theorem tup_uw {a b : U2} : D.tup [uD a, uD b] = uwD (a, b) := Eq.trans rfl rfl
theorem tupOf_uw {p : UW} : tupOf (uwD p) = some [uD p.1, uD p.2] := Eq.trans rfl rfl
theorem seqOf_uw {S : Sto} {p : UW} : seqOf S (uwD p) = some [uD p.1, uD p.2] := Eq.trans rfl rfl
theorem sqI_uw {S : Sto} {p : UW} : sqI S (uwD p) = some ([uD p.1, uD p.2], fun _ => True) := Eq.trans rfl rfl
theorem look_uw {S : Sto} {p : UW} : look S (uwD p) = uwD p := Eq.trans rfl rfl
theorem isN_uw {p : UW} : isN (uwD p) = false := Eq.trans rfl rfl
theorem lenD_uw {S : Sto} {p : UW} : lenD S (uwD p) = some 2 := Eq.trans rfl rfl
theorem tyD_uw {S : Sto} {p : UW} : tyD S (uwD p) = some "tuple" := Eq.trans rfl rfl
theorem plain_u (p : U2) : D.plain (uD p) = true := by simp [uD, D.plain, D.plains]
theorem plain_uw (p : UW) : D.plain (uwD p) = true := by simp [uwD, D.plain, D.plains, plain_u]
theorem dep_u (p : U2) : D.dep (uD p) = 1 := by simp [uD, D.dep, D.deps]
theorem dep_uw (p : UW) : D.dep (uwD p) = 2 := by simp [uwD, D.dep, D.deps, dep_u]
theorem eqOk_of' {d e : D} (h1 : D.plain d = true) (h2 : D.plain e = true) (h3 : D.dep d ≤ 64) (h4 : D.dep e ≤ 64) : eqOk d e = true := by
  unfold eqOk
  split
  · rfl
  · simp [h1, h2, h3, h4]
theorem eqOk_u {p q : U2} : eqOk (uD p) (uD q) = true := eqOk_of' (plain_u p) (plain_u q) (by rw [dep_u]; decide) (by rw [dep_u]; decide)
theorem eqOk_uw {p q : UW} : eqOk (uwD p) (uwD q) = true := eqOk_of' (plain_uw p) (plain_uw q) (by rw [dep_uw]; decide) (by rw [dep_uw]; decide)
theorem deq_u {p q : U2} : D.deq (uD p) (uD q) = decide (p = q) := by
  simp only [uD, D.deq, D.deqs, Bool.and_true]
  rw [Bool.eq_iff_iff]
  simp only [Bool.and_eq_true, beq_iff_eq, decide_eq_true_eq]
  exact ⟨fun ⟨a, b⟩ => Prod.ext a b, fun h => by subst h; exact ⟨rfl, rfl⟩⟩
theorem deq_uw {p q : UW} : D.deq (uwD p) (uwD q) = decide (p = q) := by
  simp only [uwD, D.deq, D.deqs, Bool.and_true, deq_u]
  rw [Bool.eq_iff_iff]
  simp only [Bool.and_eq_true, decide_eq_true_eq]
  exact ⟨fun ⟨a, b⟩ => Prod.ext a b, fun h => by subst h; exact ⟨rfl, rfl⟩⟩
end ML
set_option maxRecDepth 100000
namespace ML
open PySem PySem.Spec L2
open PyProof.Rows hiding St
theorem ncast {n : Nat} : ((no_index (OfNat.ofNat n : Nat) : Nat) : Int) = (no_index (OfNat.ofNat n : Int)) := rfl
/-- a proposition that simp leaves alone -/
def KP [p : Hold Prop] : Prop := p.v
theorem KP.mk {p : Prop} (h : p) : @KP ⟨p⟩ := h
/-! ### comprehensions over the images of a list -/
theorem comp_map {α : Type} {σ : MSt} {S : Sto} {p : Addr} {own : List Nat} {G : Sto → Prop} {g : MG} {me : ME} {fin : List D → Sto → Prop} {items : List D} (enc res : α → D) (xs : List α) (hi : items = xs.map enc) (hz : xs.length ≤ 1000) (hG : ∀ acc, G (put S p (.lst acc)))
    (h : ∀ a acc (Q : MQ), a ∈ xs → Q (res a) (put S p (.lst acc)) → g (enc a) (wipeM σ own) (put S p (.lst acc)) (fun σ2 S2 => me σ2 S2 Q noX) noX)
    (hf : fin (xs.map res) (put S p (.lst (xs.map res)))) : @CompP items σ (put S p (.lst [])) p own ⟨G⟩ ⟨g⟩ ⟨mYes⟩ ⟨me⟩ ⟨fin⟩ := by
  subst hi
  refine comp_inv (fun i acc S' => acc = (xs.take i).map res ∧ S' = put S p (.lst acc)) put_same ⟨by simp, rfl⟩ ?_ ?_
  · rintro i d acc S' e ⟨rfl, rfl⟩ -
    rw [List.getElem?_map] at e
    cases ea : xs[i]? with
    | none => rw [ea] at e; cases e
    | some a =>
      rw [ea] at e; cases e
      have hlt : i < xs.length := (List.getElem?_eq_some_iff.mp ea).1
      have hm : a ∈ xs := List.mem_of_getElem? ea
      refine ⟨hG _, h a _ _ hm ?_⟩
      refine CompNext.mk put_same (line_lt (by simp only [List.length_map, List.length_take]; omega)) ⟨?_, by rw [put_put]⟩
      rw [List.take_add_one, ea, List.map_append]; rfl
  · rintro acc S' ⟨rfl, rfl⟩ -
    refine ⟨hG _, ?_⟩
    rw [List.length_map, List.take_length]; exact hf
/-! ### what is walked: a list or a tuple -/
/-- the same as the three kinds -/
inductive SeqK (S : Sto) : D → List D → Prop
  | lst {ds : List D} : SeqK S (.lst ds) ds
  | tup {ds : List D} : SeqK S (.tup ds) ds
  | ref {q : Addr} {ds : List D} : S q = some (.lst ds) → SeqK S (.ref q) ds
theorem SeqK.seq {S : Sto} {d : D} {ds : List D} (h : SeqK S d ds) : seqOf S d = some ds := by
  cases h with
  | lst => rfl
  | tup => rfl
  | ref h => rw [seqOf_ref', h]; rfl
theorem SeqK.it {S : Sto} {d : D} {ds : List D} (h : SeqK S d ds) : ∃ G : Sto → Prop, sqI S d = some (ds, G) ∧ G S ∧ ∀ p o, S p = none → G (put S p o) := by
  cases h with
  | lst => exact ⟨_, rfl, trivial, fun _ _ _ => trivial⟩
  | tup => exact ⟨_, rfl, trivial, fun _ _ _ => trivial⟩
  | ref h => exact ⟨_, sqI_at h, by rw [h]; rfl, fun p o hp => by rw [put_ne (sne h hp), h]; rfl⟩
theorem SeqK.len {S : Sto} {d : D} {ds : List D} (h : SeqK S d ds) : lenD S d = some ds.length := by
  cases h with
  | lst => rfl
  | tup => rfl
  | ref h => rw [lenD_ref, h]; rfl
theorem SeqK.put {S : Sto} {d : D} {ds : List D} (h : SeqK S d ds) {p : Addr} {o : MO} (hp : S p = none) : SeqK (put S p o) d ds := by
  cases h with
  | lst => exact .lst
  | tup => exact .tup
  | ref h => exact .ref (by rw [put_ne (sne h hp)]; exact h)
/-- a list (not a tuple) against [] -/
theorem plains_map {α : Type} {f : α → D} {xs : List α} (h : ∀ a, D.plain (f a) = true) : D.plains (xs.map f) = true := by
  induction xs with
  | nil => rfl
  | cons a xs ih => show (D.plain (f a) && D.plains (xs.map f)) = true; rw [h, ih]; rfl
theorem deps_map {α : Type} {f : α → D} {xs : List α} {n : Nat} (h : ∀ a, D.dep (f a) ≤ n) : D.deps (xs.map f) ≤ n := by
  induction xs with
  | nil => exact Nat.zero_le _
  | cons a xs ih => show max (D.dep (f a)) (D.deps (xs.map f)) ≤ n; have := h a; omega
theorem in_uw {neg : Bool} {p : U2} {w : UW} {S : Sto} {Q : MQ} : rInM neg (uD p) (uwD w) S Q = Q (.bl (if neg then !(decide (w.1 = p) || decide (w.2 = p)) else (decide (w.1 = p) || decide (w.2 = p)))) S := by
  have e : look S (uwD w) = .tup [uD w.1, uD w.2] := rfl
  have m : memD (uD p) [uD w.1, uD w.2] = (decide (w.1 = p) || decide (w.2 = p)) := by
    show (D.deq (uD w.1) (uD p) || (D.deq (uD w.2) (uD p) || false)) = _
    rw [deq_u, deq_u, Bool.or_false]
  have c : D.plain (uD p) = true ∧ D.plains [uD w.1, uD w.2] = true ∧ D.dep (uD p) ≤ 64 ∧ D.deps [uD w.1, uD w.2] ≤ 63 :=
    ⟨plain_u p, plain_uw w, by rw [dep_u]; decide, by have := dep_uw w; rw [uwD, D.dep] at this; omega⟩
  simp only [rInM, e, m]
  exact propext ⟨fun h => h.2, fun h => ⟨c, h⟩⟩
end ML
set_option maxRecDepth 100000
namespace ML
open PySem PySem.Spec L2
open PyProof.Rows hiding St
section
variable {X : Cx}
/-! ### max, min of a list of ints -/
def bMaxL : List D → Sto → MQ → Prop := fun ds S Q => ∃ (d : D) (ns : List Int), ds = [d] ∧ lstOf S d = some (ns.map .int) ∧ 0 < ns.length ∧ ∀ m, m ∈ ns → (∀ y, y ∈ ns → y ≤ m) → Q (.int m) S
def bMinL : List D → Sto → MQ → Prop := fun ds S Q => ∃ (d : D) (ns : List Int), ds = [d] ∧ lstOf S d = some (ns.map .int) ∧ 0 < ns.length ∧ ∀ m, m ∈ ns → (∀ y, y ∈ ns → m ≤ y) → Q (.int m) S
end
def MaxP (ds : List D) (S : Sto) [Q : Hold MQ] : Prop := bMaxL ds S Q.v
def MinP (ds : List D) (S : Sto) [Q : Hold MQ] : Prop := bMinL ds S Q.v
theorem l_bMaxL {ds : List D} {S : Sto} {Q : MQ} : bMaxL ds S Q = @MaxP ds S ⟨Q⟩ := Eq.trans rfl rfl
theorem l_bMinL {ds : List D} {S : Sto} {Q : MQ} : bMinL ds S Q = @MinP ds S ⟨Q⟩ := Eq.trans rfl rfl
end ML
set_option maxRecDepth 100000
namespace ML
open PySem PySem.Spec L2
open PyProof.Rows hiding St
/-! ### sorted, of pairs of ints -/
section
variable {X : Cx}
/-- sorted: a list that stays -/
def bSortU : List D → Sto → MQ → Prop := fun ds S Q => ∃ (d : D) (us : List U2), ds = [d] ∧ lstOf S d = some (us.map uD) ∧ us.length < 64 ∧ (∀ u ∈ us, 0 ≤ u.1 ∧ u.1 < 1048576 ∧ 0 ≤ u.2 ∧ u.2 < 1048576) ∧
  ∀ vs : List U2, vs.Perm us → vs.Pairwise ule → Q (.lst (vs.map uD)) S
end
def SortP (ds : List D) (S : Sto) [Q : Hold MQ] : Prop := bSortU ds S Q.v
theorem l_bSortU {ds : List D} {S : Sto} {Q : MQ} : bSortU ds S Q = @SortP ds S ⟨Q⟩ := Eq.trans rfl rfl
theorem l_mtInsert {p : Addr} {n : Nat} {y : D} {S : Sto} {Q : MQ} : mtInsert (.ref p) [.int (n : Nat), y] S Q = optP (olP (S p)) fun xs => (xs.length < sizeLine ∧ 0 ≤ ((n : Nat) : Int) ∧ ((n : Nat) : Int) < 2 ^ 63) ∧ Q .non (put S p (.lst (xs.take n ++ [y] ++ xs.drop n))) := by
  simp only [mtInsert, optP, OptP, olP]
  cases S p with
  | none => rfl
  | some o => cases o <;> simp
theorem l_mtReverse {p : Addr} {S : Sto} {Q : MQ} : mtReverse (.ref p) [] S Q = optP (olP (S p)) fun xs => Q .non (put S p (.lst xs.reverse)) := by
  simp only [mtReverse, optP, OptP, olP]
  cases S p with
  | none => rfl
  | some o => cases o <;> rfl
theorem l_mtClear {p : Addr} {S : Sto} {Q : MQ} : mtClear (.ref p) [] S Q = optP (olP (S p)) fun xs => Q .non (put S p (.lst [])) := by
  simp only [mtClear, optP, OptP, olP]
  cases S p with
  | none => rfl
  | some o => cases o <;> rfl
end ML
set_option maxRecDepth 100000
namespace ML
open PySem PySem.Spec L2
/-! ### comprehensions whose turns make new things -/
/-- all but p stands as it stood -/
def Grow (p : Addr) (S S' : Sto) : Prop := ∀ q o, q ≠ p → S q = some o → S' q = some o
theorem Grow.put {p : Addr} {S S' : Sto} {o : MO} (h : Grow p S S') : Grow p S (put S' p o) := fun q u hq e => by rw [put_ne hq]; exact h q u hq e
def Ext0 (S S' : Sto) : Prop := ∀ q o, S q = some o → S' q = some o
theorem Grow.ext {p : Addr} {S S' S'' : Sto} (h : Grow p S S') (k : Ext0 S' S'') : Grow p S S'' := fun q u hq e => k q u (h q u hq e)
end ML
set_option maxRecDepth 100000
namespace ML
open PySem PySem.Spec L2
open PyProof.Rows hiding St
/-! ### defs that show things: nothing is being shown around them -/
structure ShowOk (P : Program) (w : World) (K : PySem.W.Frag) (mg : Str → Option Value) (base : Heap) (k : Nat) (f : Addr) (fd : FuncData) (ps : List Str) (sp : Sp) : Prop where
  many : ∀ vs H Q E, sp vs H Q E → vs.length = ps.length
  runs : ∀ (A : Around), A.guards = some [] → Room k A → ∀ (outer : List Env) (s : Shared) (H : Hp), Env0 P w K mg base A outer s H → ∀ (args : Args) (us : List Value) (vs : List V), BindsTo s fd args (ps.zip us) → Vals vs us → ∀ (Q : VK) (E : XK), sp vs H Q E → codeAny (model P w) A (.call (.ref f) args) (CR (L2.CX P w) outer P w H s Q E) s
theorem ShowOk.of {P : Program} {w : World} {K : PySem.W.Frag} {mg : Str → Option Value} {base : Heap} {k : Nat} {f : Addr} {fd : FuncData} {ps : List Str} {sp : Sp} (F : FnOk P w K mg base (L2.CX P w) k f fd ps sp) : ShowOk P w K mg base k f fd ps sp :=
  ⟨F.len, fun A _ hr outer s H e args us vs b r Q E h => F.run A outer s H args us vs Q E hr e b r h⟩
theorem show_mk {P : Program} {w : World} {K : PySem.W.Frag} {mg : Str → Option Value} {base : Heap} {x qual : Str} {st : Stmt} {f : Addr} {fd : FuncData} {N ps : List Str} {k n : Nat} {sp : MSp} {body : MS}
    (F : FunD K x qual (defArgs st) (defBody st) (defScope st) [] [] f fd) (S : FnScope N ps (defScope st)) (hn : N.length - ps.length = n)
    (len : ∀ ds S Q E, sp ds S Q E → ds.length = ps.length)
    (hbody : ∀ (cdv : Value) (A : Around) (outer : List Env) (s : Shared) (H : Hp) (E : XK), A.guards = some [] → Room k (cxM P w K mg base N qual st f cdv A outer s H E).A → PSs (cxM P w K mg base N qual st f cdv A outer s H E) (defBody st) (upS K (wM E) body))
    (read : ∀ ds S Q E, sp ds S Q E → body (mends Q E) (mstart n ds) S) : ShowOk P w K mg base (k + 1) f fd ps (upSp K sp) := by
  obtain ⟨oc, od, dV, kV, doc, pm, an, cdv, ct, osl, rfl, lk, hcd, _, _⟩ := F.ex
  have many : ∀ vs H Q E, upSp K sp vs H Q E → vs.length = ps.length := fun vs H Q E ⟨ds, S, Qm, Em, h1, h2, h3, h4⟩ => by rw [h1.length]; exact len ds S Qm Em h3
  refine ⟨many, fun A hg hr outer s H e0 args us vs hb r Q E hsp => ?_⟩
  have hl := many _ _ _ _ hsp
  have kin : K.In s.heap := e0.mod.kin.keeps fun b o e => (e0.bs b o e).1
  have nol : s.heap.NoLimit := e0.mod.nolimit.keeps fun b o e => (e0.bs b o e).1
  have kinds : ∀ y ∈ ps.zip us, (defScope st).names.lookup y.1 = some .local ∨ ((defScope st).names.lookup y.1 = some .cell ∧ ((cellsFrom (s.heap.objs.size + 1) (defScope st).names []).lookup y.1).isSome = true) := by
    rintro ⟨m, v⟩ hy
    exact (S.par m (List.of_mem_zip hy).1).imp id fun q => ⟨q, PySem.W.cellsFrom_some _ _ _ (.inl q)⟩
  refine codeAny_call_function (hroom := hr.depth) (ho := kin _ _ lk) rfl S.co S.gen rfl (PySem.W.codeRec_of kin hcd) (hb _ _ _ _ (wpAny_newFunctionEnv_cells S.kind kinds fun env he s1 x => ?_))
  subst he
  refine ⟨nol.keeps x.toInCall.keep, codeAny_func ?_⟩
  have I := inv_start (CX := L2.CX P w) (E := E) S hr.hd e0 hl r x
  have B := hbody cdv A outer s H E hg (hr.deeper _)
  obtain ⟨ds, S0, Qm, Em, h1, h2, h3, h4, h5⟩ := hsp
  have hl2 : vs.length = ps.length := hl
  have rd : upS K (wM E) body { nx := fun _ H' => Q .non H', rt := Q } (L2.start N vs) H := by
    refine ⟨_, S0, _, ?_, h2, read ds S0 Qm Em h3, ⟨fun m S' σ H' q e s r => h4 .non S' .non H' q e s .non, h4, fun _ _ _ _ z => z.elim, fun _ _ _ _ z => z.elim, fun x m S' c d σ H' q e s r rx => h5 x S' c d H' q e s rx⟩⟩
    unfold L2.start
    rw [hl2, hn]
    exact RSt.start _ h1
  refine wpAny_mono (B.run [] s1 (L2.start N vs) H _ I rd) (fun fl s' hs => ?_) fun _ _ z => z
  cases fl with
  | ret u => exact let ⟨v, _, H', J, rv, q⟩ := hs; ⟨v, H', J.os, J.bare, J.base, J.hok, rv, q⟩
  | next => exact let ⟨_, H', J, q⟩ := hs; ⟨V.non, H', J.os, J.bare, J.base, J.hok, rfl, q⟩
  | brk => exact let ⟨_, _, _, q⟩ := hs; q.elim
  | cont => exact let ⟨_, _, _, q⟩ := hs; q.elim
structure HasS (P : Program) (w : World) (K : PySem.W.Frag) (mg : Str → Option Value) (base : Heap) (x : Str) (ps : List Str) (k : Nat) (sp : MSp) : Prop where
  ex : ∃ f fd, mg x = some (.ref f) ∧ PySem.W.keepIn K (.ref f) = true ∧ Binds K fd ps [] ∧ ShowOk P w K mg base k f fd ps (upSp K sp)
theorem Has.s {P : Program} {w : World} {K : PySem.W.Frag} {mg : Str → Option Value} {base : Heap} {x : Str} {ps : List Str} {k : Nat} {sp : MSp} (h : Has P w K mg base x ps k sp) : HasS P w K mg base x ps k sp :=
  let ⟨f, fd, a, b, c, d⟩ := h.ex
  ⟨f, fd, a, b, c, .of d⟩
theorem HasS.mono {P : Program} {w : World} {K : PySem.W.Frag} {mg : Str → Option Value} {base : Heap} {x : Str} {ps : List Str} {j k : Nat} {sp : MSp} (h : HasS P w K mg base x ps j sp) (l : j ≤ k) : HasS P w K mg base x ps k sp :=
  let ⟨f, fd, a, b, c, d⟩ := h.ex
  ⟨f, fd, a, b, c, d.many, fun A hg hr => d.runs A hg (hr.mono l)⟩
section
variable {X : Cx} {W : WX} {e : Expr} {es : List Expr} {mas : MA} {pos : Pos}
/-- a call of a def that shows things -/
theorem ecallS {k : Nat} {x : Str} {ps : List Str} {sp : MSp} {p : Pos} (F : HasS X.prog X.w X.K X.mg X.base x ps k sp) (hgu : X.A.guards = some []) (hr : Room k X.A) (tk : Takes X W) (ha : PA X (e :: es) (upA X.K W mas)) (hg : Gl X x := by rfl)
    (hdb : (x == ("__debug__" : Str)) = false := by decide) (he : starEach (e :: es) X.env = (false, eval e X.env) :: starEach es X.env := by rfl) (hpl : (backTo pos (starEach es X.env)).any (·.1) = false := by rfl) :
    PE X (.Call (.Name x p) (e :: es) [] pos) (upE X.K W (mCall sp mas)) := by
  obtain ⟨f, fd, hm, hk, hb, G⟩ := F.ex
  refine ⟨fun pins s σ H Q I h => ?_⟩
  obtain ⟨m, S, Qm, Em, h1, h2, h3, h4, h5⟩ := h
  have ar := ha.run pos pins s σ H (fun vs H1 => upSp X.K sp vs H1 Q (WE W σ)) I ⟨m, S, _, Em, h1, h2, h3, fun ds S1 vs H1 q1 e1 s1 r1 => ⟨ds, S1, Qm, Em, r1, s1, q1, h4.ext e1, h5.ext e1⟩, h5⟩
  refine wpAny_Call_Name_kw (ld_glob I hg hm (PySem.W.callWith_K (h₀ := X.base) I.ok.mod.kin hk (thn ar fun us s1 hh => ?_) he hpl) hdb)
  obtain ⟨vs, H1, I1, r, q⟩ := hh
  refine ⟨I1.kIn, ?_⟩
  have el : us.length = ps.length := r.length.symm.trans (G.many _ _ _ _ q)
  have bt : BindsTo s1 fd ⟨us, []⟩ (ps.zip us) := by
    have := hb s1 us I1.kIn (by rw [List.append_nil]; exact el)
    rwa [List.append_nil] at this
  refine wpAny_call (codeAny_mono (G.runs X.A hgu hr X.stack s1 H1 I1.env0 ⟨us, []⟩ us vs bt r Q (WE W σ) q) fun res s' hq => ?_)
  rcases res with er | fl
  · exact passAt tk σ pins H1 s1 er s' I1 hq
  · cases fl with
    | ret u => exact I1.after hq
    | next => exact hq.elim
    | brk => exact hq.elim
    | cont => exact hq.elim
end
/-! ### the law, shown or not -/
theorem law_callS {P : Program} {w : World} {K : PySem.W.Frag} {mg mb : Str → Option Value} {k : Nat} {fa a : Addr} {fd : FuncData} {x : Str} {s1 : Shared} {vs : List Value} {ns : List Int} (n63 : ns.length ≤ 63) (rm : Room k callerA) (gens0 : s1.gens = #[])
    (inK : K.In s1.heap) (gl : s1.heap.Ns mainGlobals mg) (bl : s1.heap.Ns builtinsNs mb) (bb : ∀ y : Str, y ≠ "__name__" → mb y = bootBuiltins y) (nol : s1.heap.NoLimit) (scr : s1.heap.get? a = some { cls := .type "list", data := .seq vs.toArray }) (intsA : IntsAre vs ns)
    (bnd : ∀ (s : Shared) (u : Value), BindsTo s fd ⟨[u], []⟩ [(x, u)]) (F : ∀ base : Heap, K.In base → base.Ns mainGlobals mg → ShowOk P w K mg base k fa fd [x] (upSp K spLaw)) :
    codeAny (model P w) callerA (.call (.ref fa) ⟨[.ref a], []⟩) (fun r s' => r = .ok (.ret (.bool true)) ∧ OldK s1.heap s'.heap ∧ s'.os = s1.os ∧ AllBare s'.gens) s1 := by
  have hl : ns.length ≤ sizeLine := by rw [sizeLine_eq]; omega
  have vals := vals_ints intsA
  have main : ∀ H : Hp, Only H → (∀ b, H b ≠ none → b = a ∧ K.lookup a = none) → HOk P w H s1.heap → SqL K H a (ns.map V.int) → codeAny (model P w) callerA (.call (.ref fa) ⟨[.ref a], []⟩) (fun r s' => r = .ok (.ret (.bool true)) ∧ OldK s1.heap s'.heap ∧ s'.os = s1.os ∧ AllBare s'.gens) s1 := by
    intro H only own hok sq
    have free : ∀ {b : Addr}, (b = a → K.lookup a = none → False) → H b = none := fun {b} h => by
      by_cases z : H b = none
      · exact z
      · exact (h (own b z).1 (own b z).2).elim
    have space : ∀ {b : Addr} {m : Str → Option Value}, s1.heap.Ns b m → (hidT s1.heap H).Ns b m := by
      rintro b m ⟨o, es, ep, e, d, r⟩
      refine ⟨o, es, ep, hidT_get e (free fun z _ => ?_), d, r⟩
      rw [z, scr] at e
      cases e
      exact nomatch (show Data.seq vs.toArray _ = Data.dict es ep from d)
    have hidK : K.In (hidT s1.heap H) := fun b o e => hidT_get (inK b o e) (free fun z y => by rw [z, y] at e; cases e)
    obtain ⟨lim, l1, l2⟩ := nol
    have env : Env0 P w K mg (hidT s1.heap H) callerA [] s1 H := { frames := rfl, mod := ⟨hidK, space gl, ⟨mb, space bl, bb⟩, ⟨lim, space l1, l2⟩⟩, bs := fun _ _ e => of_hidT e, bsz := Nat.le_of_eq (hidT_size _ _), funs := trivial, frf := fun _ z => (nomatch z), hok := hok, bare := .of_eq gens0 }
    refine codeAny_mono ((F _ hidK (space gl)).runs callerA rfl rm [] s1 H env ⟨[.ref a], []⟩ [.ref a] [.ref a] (bnd s1 (.ref a)) (.cons rfl .nil) _ _ (law_sp n63 only sq)) fun r s' got => ?_
    rcases r with er | fl
    · exact (law_cx H s1 er s' got).elim
    · cases fl with
      | ret u =>
        obtain ⟨v, H', os, bare, un, hok', rv, tru⟩ := got
        have tru' : v = V.bl true := tru
        rw [tru'] at rv
        have eu : u = Value.bool true := rv
        refine ⟨by rw [eu], OldK.of_keep fun b o e => ?_, os, bare⟩
        rcases only b with z | ⟨ob, xs, z⟩
        · exact un.keep b o e z (fun y => nomatch y) (by simp)
        · have e1 := (hok b _ z).1
          rw [e] at e1
          rw [Option.some.inj e1]
          exact (hok' b _ (un.frzs b ob _ z)).1
      | next => exact got.elim
      | brk => exact got.elim
      | cont => exact got.elim
  by_cases hk : K.lookup a = none
  · refine main (fun b => if b = a then some (.frz { cls := .type "list", data := .seq vs.toArray } (.lst (ns.map V.int))) else none) ?_ ?_ ?_ (.inl (.inr ⟨{ cls := .type "list", data := .seq vs.toArray }, if_pos rfl⟩))
    · intro b
      show (if b = a then _ else _) = _ ∨ ∃ o xs, (if b = a then _ else _) = _
      split
      · exact .inr ⟨_, _, rfl⟩
      · exact .inl rfl
    · intro b z
      by_cases e : b = a
      · exact ⟨e, hk⟩
      · exact (z (if_neg e)).elim
    · intro b u z
      by_cases e : b = a
      · have z2 := (if_pos e).symm.trans z
        cases z2
        rw [e]
        exact ⟨scr, by rw [List.length_map]; exact hl, vs, _, vals, scr⟩
      · have z2 := (if_neg e).symm.trans z
        cases z2
  · cases eo : K.lookup a with
    | none => exact (hk eo).elim
    | some o =>
      have e2 := inK a o eo
      rw [scr] at e2
      rw [← Option.some.inj e2] at eo
      exact main (fun _ => none) (fun _ => .inl rfl) (fun b z => (z rfl).elim) (fun b u z => nomatch (show (none : Option HO) = some u from z)) (.inr ⟨_, vs.toArray, _, eo, rfl, rfl, rfl, by rw [List.size_toArray, intsA.length]; exact hl, by simpa using vals⟩)
/-- the goal that the head leaves, for a law that shows things -/
theorem law_endS {l : PySem.W.OpenLaw} {k : Nat} {q : Program} {loose : List Str} {XP : (Str → Option Value) → Heap → Prop} {YP : World → Heap → Prop} {d : DefRec} {x : Str} (hn : l.most = some 63) (hdf : d.params.defaults = []) (hr : Room k callerA)
    (F : ∀ (w : World) (mg : Str → Option Value) (fa : Addr) (h : Heap), YP w h → h.Ns mainGlobals mg → mg d.name = some (.ref fa) → ∃ (K : PySem.W.Frag) (fd : FuncData), K.In h ∧ (∀ (s : Shared) (u : Value), BindsTo s fd ⟨[u], []⟩ [(x, u)]) ∧
      ∀ base : Heap, K.In base → base.Ns mainGlobals mg → ShowOk l.prog w K mg base k fa fd [x] (upSp K spLaw)) : PySem.W.WalkO q loose XP YP l.row.toRowW d [] (fun f vs => PySem.call f vs) := by
  apply Att.attach_call hn hdf
  intro w _ s1 mg _ fa _ _ _ _ a vs ns G Y _ _ _ hmg hobj hints hlen hg
  have ⟨K, fd, KX, hb, hF⟩ := F w mg fa _ Y G.T.g hmg
  exact law_callS hlen hr hg KX G.T.g G.T.b G.T.builtins G.T.nolimit hobj hints hb hF
end ML
set_option maxRecDepth 100000
namespace ML
open PySem PySem.Spec L2
open PyProof.Rows hiding St
/-! ### repr of lists and tuples -/
section
variable {X : Cx}
def rShow (K : PySem.W.Frag) : List V → Hp → VK → Prop := fun xs H Q => ∃ (a : Addr) (d : PyData), xs = [.ref a] ∧ Dp K H (.ref a) d ∧ d.showable = true ∧ d.hasDict = false ∧ d.depth ≤ 60 ∧ d.shown.length ≤ sizeLine ∧ Q (.str d.shown) H
theorem call_show (hg : X.A.guards = some []) (hu : X.A.units + 65 < cLine) : CallR X (.builtin "repr") (rShow X.K) := by
  intro pins s σ H xs us Q I r h
  obtain ⟨a, d, rfl, hd, hs, hn, hz, hl, q⟩ := h
  obtain ⟨u, rfl, ru⟩ := vals1 r
  obtain ⟨as, rr⟩ := Dp.reads I d (.ref a) u hd ru
  cases (show u = Value.ref a from ru)
  exact repr_of_reads' rr hs (fun z => by rw [hn] at z; cases z) hg (by omega) (fun _ _ e => e) (fun h' t tk k => ⟨.str d.shown, H, I.kept (t' := tk) k, ⟨t, rfl⟩, q⟩) hl
end
/-- how it is shown -/
def reprD (d : D) : Str := (D.py d).shown
end ML
set_option maxRecDepth 100000
namespace ML
open PySem PySem.Spec L2
open PyProof.Rows hiding St
/-! ### the head's facts, with a module's own tuples of numbers -/
def tupsB (ts : List (Str × List Int)) (K : PySem.W.Frag) : Bool := ts.all fun p => He.tupB K p.1 (p.2.map He.Dv.int)
theorem ktup_ok {K : PySem.W.Frag} {x : Str} {is : List Int} (h : He.tupB K x (is.map He.Dv.int) = true) (H : Hp) (S : Sto) : RD K H S (.ref (He.ga K x)) (.tup (is.map D.int)) := by
  have e : (is.map He.Dv.int).map (He.Dv.v K) = is.map V.int := by rw [List.map_map]; rfl
  have z := He.tupB_ok h (fun _ => none)
  rw [e] at z
  rcases z with (z | ⟨o, z⟩) | ⟨o, its, n, h1, h2, h3, h4, h5⟩
  · exact nomatch (show (none : Option HO) = some _ from z)
  · exact nomatch (show (none : Option HO) = some _ from z)
  · exact .ktup h1 h2 h3 h4 h5 RDs.of_ints
theorem tups_at {ts : List (Str × List Int)} {K : PySem.W.Frag} (h : tupsB ts K = true) (p : Str × List Int) (hp : p ∈ ts) : ∀ H S, RD K H S (.ref (He.ga K p.1)) (.tup (p.2.map D.int)) := fun H S => ktup_ok (List.all_eq_true.mp h p hp) H S
end ML
set_option maxRecDepth 100000
set_option maxHeartbeats 2000000
/-! # an exception that is kept behind its except clause -/
namespace L2
open PySem PySem.Spec PyProof.Rows
end L2
namespace ML
open PySem PySem.Spec L2
open PyProof.Rows hiding St
/-- which own exceptions are of which class -/
def subE (c d : Str) : Bool := decide (c = d) || decide (d ∈ (["SpotError", "ValueError", "Exception", "BaseException"] : List Str))
def excCB (K : PySem.W.Frag) (D : Addr) : Bool := decide (PySem.W.findIn K (.ref D) "__getattribute__" = some (some (.builtin "BaseException.__getattribute__"))) && (decide (PySem.W.findIn K (.ref D) "__getattr__" = some none) && (decide (PySem.W.subIn K (.ref D) (.type "BaseException") = some true) && (PySem.W.hasDictIn K D &&
  (decide (PySem.W.findIn K (.ref D) "__class__" = some (some (.builtin "object.__class__"))) && (decide (PySem.W.specialIn K (.builtin "object.__class__") "__get__" = some (some (.builtin "getset_descriptor.__get__"))) && (decide (PySem.W.takesIn K (.builtin "object.__class__") = some true) && decide (PySem.W.mroIn K D (.type "object") = some true)))))))
def excB1 (K : PySem.W.Frag) (ns : List Str) (C : Str) : Bool := excCB K (He.ga K C) && (decide (PySem.W.kitOne K (.ref (He.ga K C)) (.type "ValueError") = some true) && (decide (PySem.W.findIn K (.ref (He.ga K C)) "__str__" = some (some (.builtin "BaseException.__str__"))) && ns.all fun y => decide (PySem.W.kitOne K (.ref (He.ga K C)) (.ref (He.ga K y)) = some (subE C y)) && decide (PySem.W.exmOne K (.ref (He.ga K C)) (.ref (He.ga K y)) = some (subE C y))))
def excsB (ns : List Str) (K : PySem.W.Frag) : Bool := ns.all (excB1 K ns)
/-- an exception that is made with a text and raised -/
def mRaise (C : Str) : MS := fun D σ S => D.ex ⟨C, none⟩ σ S
section
variable {X : Cx} {W : WX} {a : Expr} {pos : Pos} {m : ME}
/-- try .. except C as n: what is caught is an object of the store behind it -/
def endM (D : MEnds) (i : Nat) : MEnds := { nx := fun σ S => D.nx (σ.set i none) S, rt := D.rt, bk := fun σ S => D.bk (σ.set i none) S, ct := fun σ S => D.ct (σ.set i none) S }
def mTry (ns : List Str) (c : Str) (i : Nat) (mb ms : MS) : MS := fun D σ S => mb { D with ex := fun x σ' S' => x.C ∈ ns ∧ (subE x.C c = true → ∀ p, S' p = none → ms (endM D i) (σ'.set i (some (.ref p))) (put S' p (.exc x.C x.fs))) ∧ (subE x.C c = false → D.ex x σ' S') } σ S
/-- isinstance of a kept exception -/
def excOf : Option MO → Option Str
  | some (.exc C none) => some C
  | _ => none
def excD (S : Sto) : D → Option Str
  | .ref p => excOf (S p)
  | _ => none
def mIsE (ns : List Str) (x : Str) (m : ME) : ME := fun σ S Q E => m σ S (fun d S1 => match excD S1 d with
  | some C => C ∈ ns ∧ Q (.bl (subE C x)) S1
  | none => False) E
/-- .. by ValueError -/
def mIsV (ns : List Str) (m : ME) : ME := fun σ S Q E => m σ S (fun d S1 => match excD S1 d with
  | some C => C ∈ ns ∧ Q (.bl true) S1
  | none => False) E
/-- a + b of lists, a list of the store -/
def rAddS : R2m := fun d e S Q => match ownOf S d, ownOf S e with
  | some xs, some ys => xs.length + ys.length ≤ sizeLine ∧ ∀ p, S p = none → Q (.ref p) (put S p (.lst (xs ++ ys)))
  | _, _ => False
def mtCount : RMm := fun d ds S Q => match ds with
  | [.bl k] => match (lstOf S d).bind blsOf with
    | some bs => Q (.int (bs.count k : Nat)) S
    | none => False
  | _ => False
end
/-! ### how these open -/
theorem l_mRaise {C : Str} {D : MEnds} {σ : MSt} {S : Sto} : mRaise C D σ S = D.ex ⟨C, none⟩ σ S := Eq.trans rfl rfl
def TryP (x : MX) (σ : MSt) (S : Sto) (ns : List Str) (c : Str) (i : Nat) [ms : Hold MS] [De : Hold MEnds] : Prop := x.C ∈ ns ∧ (subE x.C c = true → ∀ p, S p = none → ms.v (endM De.v i) (σ.set i (some (.ref p))) (put S p (.exc x.C x.fs))) ∧ (subE x.C c = false → De.v.ex x σ S)
theorem l_mTry {ns : List Str} {c : Str} {i : Nat} {mb ms : MS} {D : MEnds} {σ : MSt} {S : Sto} : mTry ns c i mb ms D σ S = mb { D with ex := fun x σ' S' => @TryP x σ' S' ns c i ⟨ms⟩ ⟨D⟩ } σ S := Eq.trans rfl rfl
theorem l_mIsE {ns : List Str} {x : Str} {m : ME} {σ : MSt} {S : Sto} {Q : MQ} {E : MXQ} : mIsE ns x m σ S Q E = m σ S (fun d S1 => optP (excD S1 d) fun C => C ∈ ns ∧ Q (.bl (subE C x)) S1) E := by
  unfold mIsE optP OptP
  apply congrArg (fun f => m σ S f E)
  funext d S1
  cases excD S1 d <;> rfl
theorem l_mIsV {ns : List Str} {m : ME} {σ : MSt} {S : Sto} {Q : MQ} {E : MXQ} : mIsV ns m σ S Q E = m σ S (fun d S1 => optP (excD S1 d) fun C => C ∈ ns ∧ Q (.bl true) S1) E := by
  unfold mIsV optP OptP
  apply congrArg (fun f => m σ S f E)
  funext d S1
  cases excD S1 d <;> rfl
theorem excD_ref {S : Sto} {p : Addr} : excD S (.ref p) = excOf (S p) := Eq.trans rfl rfl
theorem excOf_exc {C : Str} : excOf (some (.exc C none)) = some C := Eq.trans rfl rfl
theorem l_rAddS_rl {p : Addr} {ys : List D} {S : Sto} {Q : MQ} : rAddS (.ref p) (.lst ys) S Q = optP (olP (S p)) fun xs => xs.length + ys.length ≤ sizeLine ∧ ∀ q, S q = none → Q (.ref q) (put S q (.lst (xs ++ ys))) := by
  simp only [rAddS, ownOf_ref', ownOf_lst, optP, OptP]
  cases olP (S p) <;> rfl
theorem l_rAddS_ll {xs ys : List D} {S : Sto} {Q : MQ} : rAddS (.lst xs) (.lst ys) S Q = (xs.length + ys.length ≤ sizeLine ∧ ∀ q, S q = none → Q (.ref q) (put S q (.lst (xs ++ ys)))) := Eq.trans rfl rfl
theorem l_mtCount {d : D} {k : Bool} {S : Sto} {Q : MQ} : mtCount d [.bl k] S Q = optP ((lstOf S d).bind blsOf) fun bs => Q (.int (bs.count k : Nat)) S := by
  simp only [mtCount, optP, OptP]
  cases (lstOf S d).bind blsOf <;> rfl
theorem blsOf_nil : blsOf [] = some [] := Eq.trans rfl rfl
theorem blsOf_cons {b : Bool} {r : List D} : blsOf (.bl b :: r) = (blsOf r).map (b :: ·) := Eq.trans rfl rfl
theorem endM_nx {De : MEnds} {i : Nat} {σ : MSt} {S : Sto} : (endM De i).nx σ S = De.nx (σ.set i none) S := Eq.trans rfl rfl
theorem endM_rt {De : MEnds} {i : Nat} : (endM De i).rt = De.rt := Eq.trans rfl rfl
/-! ### the head's facts, with tuples of numbers and exception classes -/
def obsX (n : Nat) (fa : List He.Fa) (fn : List He.DefD) (ks : List String) (ts : List (Str × List Int)) (ns : List Str) (g : Addr → Option Obj) : AlK × Bool := (obsKG n fa fn ks g, tupsB ts (He.frG g (He.asD g n)) && excsB ns (He.frG g (He.asD g n)))
def hookX (n : Nat) (fa : List He.Fa) (fn : List He.DefD) (ks : List String) (ts : List (Str × List Int)) (ns : List Str) : PySem.W.Hook where
  α := AlK × Bool
  obs := fun s => obsX n fa fn ks ts ns s.heap.get?
  val := fun _ => ((He.valD fn, true), true)
  says := fun _ h => ∃ K : PySem.W.Frag, K.In h ∧ SaysK fa fn ks K ∧ (tupsB ts K && excsB ns K) = true
  of := fun _ _ e => ⟨_, He.frG_in, ⟨congrArg (fun z : AlK × Bool => z.1.1) e, congrArg (fun z : AlK × Bool => z.1.2) e⟩, congrArg (fun z : AlK × Bool => z.2) e⟩
  keeps := fun _ _ _ ⟨K, hK, c⟩ k => ⟨K, PySem.W.Frag.In.keeps hK k, c⟩
theorem obsX_eq {n : Nat} {fa : List He.Fa} {fn : List He.DefD} {ks : List String} {ts : List (Str × List Int)} {ns : List Str} {g : Addr → Option Obj} {s : Shared} (h : ∀ a, g a = s.heap.get? a) : obsX n fa fn ks ts ns g = (hookX n fa fn ks ts ns).obs s := by
  have e : g = s.heap.get? := funext h
  subst e; rfl
end ML
namespace Lk60
section
set_option maxRecDepth 100000
set_option maxHeartbeats 0
open PySem PySem.Spec L2 ML
open PyProof.Rows hiding St
def top (i : Nat) : Stmt := PySem.Challenge.pw_spotlook_k60_plots_moved_mirrored_turned.main.body.getD i (.Pass ⟨0, 0, 0, 0⟩)
abbrev s_divisor : Stmt := top 5
abbrev s_is_less : Stmt := top 9
abbrev s_in_order : Stmt := top 21
abbrev s_law_pot : Stmt := top 23
abbrev s_law_take : Stmt := top 24
abbrev s_law_side : Stmt := top 25
abbrev s_law_frac : Stmt := top 33
abbrev s_law_same : Stmt := top 37
abbrev s_law_moved_spot : Stmt := top 38
abbrev s_fraction : Stmt := top 6
abbrev s_is_ahead : Stmt := top 11
abbrev s_law_on : Stmt := top 26
abbrev s_law_new_spot : Stmt := top 28
abbrev s_law_frame : Stmt := top 34
abbrev s_law_given : Stmt := top 35
abbrev s_law_moved_shuts : Stmt := top 39
abbrev s_law_order : Stmt := top 41
abbrev s_law_squares : Stmt := top 43
abbrev s_plus : Stmt := top 7
abbrev s_less : Stmt := top 8
abbrev s_wall_of : Stmt := top 12
abbrev s_law_apart : Stmt := top 27
abbrev s_law_some_spot : Stmt := top 29
abbrev s_law_square : Stmt := top 30
abbrev s_law_plot : Stmt := top 36
abbrev s_law_frames : Stmt := top 40
abbrev s_mirrored_spot : Stmt := top 15
abbrev s_turned_spot : Stmt := top 16
abbrev s_moved_spot : Stmt := top 17
abbrev s_law_laid : Stmt := top 31
abbrev s_law_right : Stmt := top 42
abbrev s_moved : Stmt := top 18
abbrev s_mirrored : Stmt := top 19
abbrev s_turned : Stmt := top 20
abbrev s_law_shuts_here : Stmt := top 32
abbrev s_law : Stmt := top 44
def mkD (x : Str) (s : Stmt) : He.DefD := ⟨(x, none), x, x, defArgs s, defBody s, defScope s, [], []⟩
def fn0 : List He.DefD := [mkD "divisor" s_divisor, mkD "is_less" s_is_less, mkD "in_order" s_in_order, mkD "_law_pot" s_law_pot, mkD "_law_take" s_law_take, mkD "_law_side" s_law_side, mkD "_law_frac" s_law_frac, mkD "_law_same" s_law_same, mkD "_law_moved_spot" s_law_moved_spot, mkD "fraction" s_fraction, mkD "is_ahead" s_is_ahead, mkD "_law_on" s_law_on, mkD "_law_new_spot" s_law_new_spot, mkD "_law_frame" s_law_frame, mkD "_law_given" s_law_given, mkD "_law_moved_shuts" s_law_moved_shuts, mkD "_law_order" s_law_order, mkD "_law_squares" s_law_squares, mkD "plus" s_plus, mkD "less" s_less, mkD "wall_of" s_wall_of, mkD "_law_apart" s_law_apart, mkD "_law_some_spot" s_law_some_spot, mkD "_law_square" s_law_square, mkD "_law_plot" s_law_plot, mkD "_law_frames" s_law_frames, mkD "mirrored_spot" s_mirrored_spot, mkD "turned_spot" s_turned_spot, mkD "moved_spot" s_moved_spot, mkD "_law_laid" s_law_laid]
def fn1 : List He.DefD := [mkD "_law_right" s_law_right, mkD "moved" s_moved, mkD "mirrored" s_mirrored, mkD "turned" s_turned, mkD "_law_shuts_here" s_law_shuts_here, mkD "law" s_law]
def fn : List He.DefD := fn0 ++ fn1
def fa0 : List He.Fa := [.glo "divisor", .glo "is_less", .glo "in_order", .glo "_law_pot", .glo "_law_take", .glo "_law_side", .glo "_law_frac", .glo "_law_same", .glo "_law_moved_spot", .glo "fraction", .glo "is_ahead", .glo "_law_on", .glo "_law_new_spot", .glo "_law_frame", .glo "_law_given", .glo "_law_moved_shuts", .glo "_law_order", .glo "_law_squares", .glo "plus", .glo "less", .glo "wall_of", .glo "_law_apart", .glo "_law_some_spot", .glo "_law_square", .glo "_law_plot", .glo "_law_frames", .glo "mirrored_spot", .glo "turned_spot", .glo "moved_spot", .glo "_law_laid"]
def fa1 : List He.Fa := [.glo "_law_right", .glo "moved", .glo "mirrored", .glo "turned", .glo "_law_shuts_here", .glo "law", .free "abs", .free "int", .free "len", .free "list", .free "max", .free "min", .free "range", .free "repr", .free "tuple", .free "zip", .glo "NOUGHT"]
def fa : List He.Fa := fa0 ++ fa1
abbrev names : List Str := (["SpotError", "NoFraction", "NoWall", "divisor", "fraction", "plus", "less", "is_less", "is_ahead", "wall_of", "NOUGHT", "mirrored_spot", "turned_spot", "moved_spot", "moved", "mirrored", "turned", "in_order", "_law_pot", "_law_take", "_law_side", "_law_on", "_law_apart", "_law_new_spot", "_law_some_spot", "_law_square", "_law_laid", "_law_shuts_here", "_law_frac", "_law_frame"] : List Str) ++ (["_law_given", "_law_plot", "_law_same", "_law_moved_spot", "_law_moved_shuts", "_law_frames", "_law_order", "_law_right", "_law_squares"] : List Str)
abbrev R : PySem.W.OpenRow := PySem.W.OpenLaw.row PySem.Challenge.rw_spotlook_k60_plots_moved_mirrored_turned
abbrev hk : PySem.W.Hook := hookX 5 fa fn [] [("NOUGHT", [0, 1])] []
def ob (s : PySem.W.SharedT) : AlK × Bool := obsX 5 fa fn [] [("NOUGHT", [0, 1])] [] (HandSHeadRun.getT s)
theorem ob_eq (s : PySem.W.SharedT) : ob s = hk.obs s.abs := obsX_eq (HandSHeadRun.getT_eq s)
theorem run (w : World) : HandSHeadRun.RunEq R (PySem.W.view R.prog [44]) hk ob 3400 names w := by
  intro os
  kernel_rfl
end
end Lk60
set_option maxRecDepth 100000
/-! # list(range(n)), dicts whose keys are tuples of numbers -/
namespace ML
open PySem PySem.Spec L2
open PyProof.Rows hiding St
section
variable {X : Cx} {W : WX} {e o : Expr} {es : List Expr} {pos : Pos} {m mo mv : ME} {mas : MA}
/-- list(range(n)), a list that stays -/
def mListR (m : ME) : ME := fun σ S Q E => m σ S (fun d S1 => match d with
  | .int n => (0 ≤ n ∧ n ≤ 16777216) ∧ Q (.lst (rngD 0 n.toNat)) S1
  | _ => False) E
theorem l_mListR {σ : MSt} {S : Sto} {Q : MQ} {E : MXQ} : mListR m σ S Q E = m σ S (fun d S1 => match d with
  | .int n => (0 ≤ n ∧ n ≤ 16777216) ∧ Q (.lst (rngD 0 n.toNat)) S1
  | _ => False) E := Eq.trans rfl rfl
/-! ### dicts -/
def keyD : D → Option Key
  | .int i => some (.inl i)
  | .str x => some (.inr x)
  | _ => none
def keysD : List D → Option (List Key)
  | [] => some []
  | d :: r => match keyD d, keysD r with
    | some k, some ks => some (k :: ks)
    | _, _ => none
def valD {κ : Type} [DecidableEq κ] (kvs : List (κ × D)) (k : κ) : Option D := (kvs.find? fun kv => decide (kv.1 = k)).map (·.2)
def putD {κ : Type} [DecidableEq κ] (kvs : List (κ × D)) (k : κ) (v : D) : List (κ × D) :=
  if (kvs.any fun kv => decide (kv.1 = k)) = true then kvs.map (fun kv => if kv.1 = k then (kv.1, v) else kv) else kvs ++ [(k, v)]
theorem RKs.any {κ : Type} {K : PySem.W.Frag} {H : Hp} {S : Sto} (f : κ → Bool) : ∀ {vs : List (κ × V)} {ds : List (κ × D)}, RKs K H S vs ds → (vs.any fun kv => f kv.1) = ds.any fun kv => f kv.1
  | _, _, .nil => rfl
  | _, _, .cons _ r => by rw [List.any_cons, List.any_cons, RKs.any f r]
theorem RKs.valV {κ : Type} [DecidableEq κ] {K : PySem.W.Frag} {H : Hp} {S : Sto} (k : κ) : ∀ {vs : List (κ × V)} {ds : List (κ × D)}, RKs K H S vs ds → (L2.valV vs k).isSome = (valD ds k).isSome
  | _, _, .nil => rfl
  | _, _, .cons (k := j) h r => by
    have ih := RKs.valV k r
    unfold L2.valV valD at *
    rw [List.find?_cons, List.find?_cons]
    by_cases e : j = k
    · simp [e]
    · simpa [e] using ih
theorem RKs.snoc {κ : Type} {K : PySem.W.Frag} {H : Hp} {S : Sto} {k : κ} {v : V} {d : D} (h : RD K H S v d) : ∀ {vs : List (κ × V)} {ds : List (κ × D)}, RKs K H S vs ds → RKs K H S (vs ++ [(k, v)]) (ds ++ [(k, d)])
  | _, _, .nil => .cons h .nil
  | _, _, .cons h2 r => .cons h2 (RKs.snoc h r)
theorem RKs.over {κ : Type} [DecidableEq κ] {K : PySem.W.Frag} {H : Hp} {S : Sto} {k : κ} {v : V} {d : D} (h : RD K H S v d) : ∀ {vs : List (κ × V)} {ds : List (κ × D)}, RKs K H S vs ds → RKs K H S (vs.map fun kv => if kv.1 = k then (kv.1, v) else kv) (ds.map fun kv => if kv.1 = k then (kv.1, d) else kv)
  | _, _, .nil => .nil
  | _, _, .cons (k := j) h2 r => by
    rw [List.map_cons, List.map_cons]
    by_cases e : j = k
    · simp only [e, if_true]; exact .cons h (RKs.over h r)
    · simp only [e, if_false]; exact .cons h2 (RKs.over h r)
theorem RKs.put {κ : Type} [DecidableEq κ] {K : PySem.W.Frag} {H : Hp} {S : Sto} {k : κ} {v : V} {d : D} (h : RD K H S v d) {vs : List (κ × V)} {ds : List (κ × D)} (r : RKs K H S vs ds) : RKs K H S (putK vs k v) (putD ds k d) := by
  unfold putK putD
  rw [RKs.any (fun j => decide (j = k)) r]
  split
  · exact r.over h
  · exact r.snoc h
def dtO : Option MO → Option (List (List Key × D))
  | some (.dT k) => some k
  | _ => none
def dtD (S : Sto) : D → Option (List (List Key × D))
  | .ref p => dtO (S p)
  | _ => none
theorem dtO_dT {kvs : List (List Key × D)} : dtO (some (.dT kvs)) = some kvs := Eq.trans rfl rfl
theorem dtD_ref {S : Sto} {p : Addr} : dtD S (.ref p) = dtO (S p) := Eq.trans rfl rfl
/-- {} -/
def mDNew : ME := fun _ S Q _ => ∀ p, S p = none → Q (.ref p) (put S p (.dT []))
/-- (a, b, ..) in d -/
def mDIn (neg : Bool) (t : MA) (mo : ME) : ME := fun σ S Q E => t σ S (fun ds S1 => ds.length ≤ sizeLine ∧ mo σ S1 (fun d S2 => optP (keysD ds) fun ks => optP (dtD S2 d) fun kvs => Q (.bl (if neg then !(valD kvs ks).isSome else (valD kvs ks).isSome)) S2) E) E
/-- d[(a, b, ..)] = v -/
def mDPut (mv mo : ME) (t : MA) : MS := fun De σ S => mv σ S (fun v S1 => mo σ S1 (fun d S2 => t σ S2 (fun ds S3 => ds.length ≤ sizeLine ∧ optP (keysD ds) fun ks => match d with
  | .ref p => optP (dtO (S3 p)) fun kvs => kvs.length < sizeLine ∧ Go De.nx σ (put S3 p (.dT (putD kvs ks v)))
  | _ => False) (xAt De σ)) (xAt De σ)) (xAt De σ)
theorem l_mDIn {neg : Bool} {σ : MSt} {S : Sto} {Q : MQ} {E : MXQ} : mDIn neg mas mo σ S Q E = mas σ S (fun ds S1 => ds.length ≤ sizeLine ∧ mo σ S1 (fun d S2 => optP (keysD ds) fun ks => optP (dtD S2 d) fun kvs => Q (.bl (if neg then !(valD kvs ks).isSome else (valD kvs ks).isSome)) S2) E) E := Eq.trans rfl rfl
theorem l_mDPut {De : MEnds} {σ : MSt} {S : Sto} : mDPut mv mo mas De σ S = mv σ S (fun v S1 => mo σ S1 (fun d S2 => mas σ S2 (fun ds S3 => ds.length ≤ sizeLine ∧ optP (keysD ds) fun ks => match d with
  | .ref p => optP (dtO (S3 p)) fun kvs => kvs.length < sizeLine ∧ Go De.nx σ (put S3 p (.dT (putD kvs ks v)))
  | _ => False) (xAt De σ)) (xAt De σ)) (xAt De σ) := Eq.trans rfl rfl
theorem l_mDNew {σ : MSt} {S : Sto} {Q : MQ} {E : MXQ} : mDNew σ S Q E = ∀ p, S p = none → Q (.ref p) (put S p (.dT [])) := Eq.trans rfl rfl
theorem keysD_nil : keysD [] = some [] := Eq.trans rfl rfl
theorem keysD_int {i : Int} {r : List D} : keysD (.int i :: r) = (keysD r).map (.inl i :: ·) := by
  simp only [keysD, keyD]
  cases keysD r <;> rfl
end
end ML
set_option maxRecDepth 100000
set_option maxHeartbeats 2000000
/-! # enumerate(tuple) -/
namespace PySem
open Sem (wp)
open AutoSeq1 (wpAny_loadPart')
section
variable {prog : Program} {w : World} {A : Around} {E : Value → Shared → Prop} {s : Shared}
theorem nextTup_item {it t : Addr} {i : Nat} {items} {x : Value} {Q : Value → Shared → Prop} (hit : s.heap.IsTupleIter it t i) (ht : s.heap.IsTuple t items) (hx : items[i]? = some x) (hQ : ∀ h', h'.IsTupleIter it t (i + 1) → Heap.SameBut it s.heap h' → Q x { s with heap := h' }) : wpAny (model prog w) A (Builtin.SmallTypes.nextOf (.ref it)) Q E s := by
  obtain ⟨o, ho, hc, hd⟩ := id hit; obtain ⟨ol, hol, _, nl, hdl⟩ := ht
  unfold Builtin.SmallTypes.nextOf
  refine wpAny_bind (wpAny_callSpecial?_slot (name := Str.ofString "__next__") hit.typeIs F.slot_tuple_iterator_next (wpAny_call_entry F.slot_tuple_iterator_next hit.typeIs F.entry_tuple_iterator_next ?_ (F.args_tuple_iterator_next_1 _)))
  show wpAny _ _ (field (.ref it) 0 >>= _) _ _ s; refine wpAny_bind (wpAny_field ho hd (x := .ref t) rfl ?_)
  show wpAny _ _ (if (Value.ref t == Value.none) = true then _ else _) _ _ s; rw [if_neg (show ¬ ((Value.ref t == Value.none) = true) from Bool.false_ne_true)]
  show wpAny _ _ (field (.ref it) 1 >>= _) _ _ s; refine wpAny_bind (wpAny_field ho hd (x := .int i 0) rfl ?_)
  show wpAny _ _ (seqItems? (.ref t) >>= _) _ _ s; refine wpAny_bind (wpAny_seqItems hol hdl ?_)
  simp only [Int.toNat_natCast, hx]; refine wpAny_bind (wpAny_setField ho hd (by simp) (wpAny_pure ⟨x, rfl, wpAny_pure (hQ _ ?_ (Heap.SameBut.update ..))⟩))
  exact ⟨_, Heap.get?_update_self _ ho (Obj.isFreed_of_fields (Obj.data_mapFields hd _)), (Obj.cls_mapFields ..).trans hc, by rw [Obj.data_mapFields hd]; simp [rawInt]⟩
theorem nextTup_end {it t : Addr} {i : Nat} {items} {Q : Value → Shared → Prop} (hh : A.handled = none) (hit : s.heap.IsTupleIter it t i) (ht : s.heap.IsTuple t items) (hx : items[i]? = none)
    (hE : ∀ h' e, Heap.ExtBut it s.heap h' → (∃ o, h'.get? e = some o ∧ o.cls = .type "StopIteration") → E (.ref e) { s with heap := h' }) : wpAny (model prog w) A (Builtin.SmallTypes.nextOf (.ref it)) Q E s := by
  obtain ⟨o, ho, hc, hd⟩ := id hit; obtain ⟨ol, hol, _, nl, hdl⟩ := ht
  unfold Builtin.SmallTypes.nextOf
  refine wpAny_bind (wpAny_callSpecial?_slot (name := Str.ofString "__next__") hit.typeIs F.slot_tuple_iterator_next (wpAny_call_entry F.slot_tuple_iterator_next hit.typeIs F.entry_tuple_iterator_next ?_ (F.args_tuple_iterator_next_1 _)))
  show wpAny _ _ (field (.ref it) 0 >>= _) _ _ s; refine wpAny_bind (wpAny_field ho hd (x := .ref t) rfl ?_)
  show wpAny _ _ (if (Value.ref t == Value.none) = true then _ else _) _ _ s; rw [if_neg (show ¬ ((Value.ref t == Value.none) = true) from Bool.false_ne_true)]
  show wpAny _ _ (field (.ref it) 1 >>= _) _ _ s; refine wpAny_bind (wpAny_field ho hd (x := .int i 0) rfl ?_)
  show wpAny _ _ (seqItems? (.ref t) >>= _) _ _ s; refine wpAny_bind (wpAny_seqItems hol hdl ?_)
  simp only [Int.toNat_natCast, hx]; refine wpAny_bind (wpAny_rule (wpAny_bind (wpAny_setField ho hd (by simp) ?_)))
  show wpAny _ _ (newExc (.type "StopIteration") [] >>= _) _ _ _; refine wpAny_bind ?_
  simp only [newExc, newTuple]; refine wpAny_bind (wpAny_newObj_type ?_ (by size_fits))
  refine wpAny_bind (m := firstArgMember _ _) (wpAny_of_eq (a := Value.none) (by first | rfl | (simp only [firstArgMember]; rfl)) ?_); refine wpAny_newObj_type ?_ (by size_fits)
  simp only [raiseNew]; refine wpAny_bind (wpAny_handled ?_)
  first | rw [show A.in1.handled = none from hh] | rw [hh]
  refine wpAny_bind (wpAny_pure (wpAny_throw ?_)); exact hE _ _ (((Heap.SameBut.update ..).extBut.push _).push _) ⟨_, Heap.get?_push_size _ rfl, rfl⟩
end
theorem Draws.tup {prog : Program} {w : World} {A : Around} (hh : A.handled = none) (it t : Addr) (hne : t ≠ it) (items : Array Value) : Draws prog w A it [it, t] items.size (fun i v => items[i]? = some v) (fun i h => h.IsTupleIter it t i ∧ h.IsTuple t items) where
  live := fun _ _ st => let ⟨o, ho, _⟩ := st.1; ⟨o, ho⟩
  frame := fun _ _ _ st hk => ⟨let ⟨o, ho, r⟩ := st.1; ⟨o, hk it (by simp) o ho, r⟩, let ⟨o, ho, r⟩ := st.2; ⟨o, hk t (by simp) o ho, r⟩⟩
  item := fun i s Q E hi st hQ => nextTup_item st.1 st.2 (x := items[i]) (by simp [hi]) fun h' hit' hs' => hQ _ h' s.toks (by simp [hi]) ⟨hit', let ⟨o, ho, r⟩ := st.2; ⟨o, hs'.extBut _ _ hne ho, r⟩⟩ hs'
  done := fun s Q E st hE => nextTup_end hh st.1 st.2 (by simp) hE
end PySem
namespace L2
open PySem PySem.Spec PyProof.Rows
end L2
namespace ML
open PySem PySem.Spec L2
open PyProof.Rows hiding St
section
variable {X : Cx} {W : WX} {e : Expr} {pos : Pos}
def iEnT (t : MA) : MI := fun σ S R E => t σ S (fun ds S1 => match ds with
  | [d] => match tupOf d with
    | some xs => R (enumD xs) (fun _ => True) S1
    | none => False
  | _ => False) E
theorem l_iEnT {mas : MA} {σ : MSt} {S : Sto} {R : List D → (Sto → Prop) → Sto → Prop} {E : MXQ} : iEnT mas σ S R E = mas σ S (fun ds S1 => match ds with
  | [d] => optP (tupOf d) fun xs => R (enumD xs) (fun _ => True) S1
  | _ => False) E := by
  unfold iEnT optP OptP
  apply congrArg (fun f => mas σ S f E)
  funext ds S1
  rcases ds with _ | ⟨d, _ | ⟨_, _⟩⟩
  · rfl
  · cases h : tupOf d with
    | none => simp only [h]
    | some x => simp only [h]
  · rfl
/-! ### sorted(set(a list of pairs of numbers)) -/
def tu : List Int → U2
  | [x, y] => (x, y)
  | _ => (0, 0)
def bSortSet : List D → Sto → MQ → Prop := fun ds S Q => ∃ (d : D) (us : List U2), ds = [d] ∧ lstOf S d = some (us.map uD) ∧ us.length < 64 ∧ (∀ u ∈ us, 0 ≤ u.1 ∧ u.1 < 1048576 ∧ 0 ≤ u.2 ∧ u.2 < 1048576) ∧
  ∀ vs : List U2, vs.Nodup → (∀ u, u ∈ vs ↔ u ∈ us) → vs.Pairwise ule → Q (.lst (vs.map uD)) S
def mSortSet (m : ME) : ME := fun σ S Q E => m σ S (fun d S1 => bSortSet [d] S1 Q) E
def SortSetP (ds : List D) (S : Sto) [Q : Hold MQ] : Prop := bSortSet ds S Q.v
theorem l_mSortSet {m : ME} {σ : MSt} {S : Sto} {Q : MQ} {E : MXQ} : mSortSet m σ S Q E = m σ S (fun d S1 => @SortSetP [d] S1 ⟨Q⟩) E := Eq.trans rfl rfl
end
end ML
set_option maxRecDepth 100000
set_option maxHeartbeats 2000000
/-! # (a, b)[::-1], sum of a list of numbers -/
namespace L2
open PySem PySem.Spec PyProof.Rows
end L2
namespace ML
open PySem PySem.Spec L2
open PyProof.Rows hiding St
section
variable {X : Cx} {W : WX} {e : Expr} {pos : Pos} {m : ME}
/-- t[::-1] of a pair -/
def mRev2 (m : ME) : ME := fun σ S Q E => m σ S (fun d S1 => match tupOf d with
  | some [x, y] => Q (.tup [y, x]) S1
  | _ => False) E
theorem l_mRev2 {σ : MSt} {S : Sto} {Q : MQ} {E : MXQ} : mRev2 m σ S Q E = m σ S (fun d S1 => match tupOf d with
  | some [x, y] => Q (.tup [y, x]) S1
  | _ => False) E := Eq.trans rfl rfl
/-- sum of a list of numbers -/
def intsOf : List D → Option (List Int)
  | [] => some []
  | .int i :: r => (intsOf r).map (i :: ·)
  | _ :: _ => none
def bSum : List D → Sto → MQ → Prop := fun ds S Q => match ds with
  | [d] => optP ((lstOf S d).bind intsOf) fun ns => Q (.int ns.sum) S
  | _ => False
theorem l_bSum {d : D} {S : Sto} {Q : MQ} : bSum [d] S Q = optP ((lstOf S d).bind intsOf) fun ns => Q (.int ns.sum) S := Eq.trans rfl rfl
end
end ML
set_option maxRecDepth 100000
/-! # dicts whose keys are spots; dicts whose keys are numbers -/
namespace ML
open PySem PySem.Spec L2
open PyProof.Rows hiding St
theorem nkey_inj {a b : K4} (h : nkey a = nkey b) : a = b := by
  obtain ⟨⟨a1, a2⟩, a3, a4⟩ := a
  obtain ⟨⟨b1, b2⟩, b3, b4⟩ := b
  simp only [nkey] at h
  injection h with h
  injection h with h1 h2
  injection h2 with h2 _
  injection h1 with h1
  injection h2 with h2
  injection h1 with h1 h3
  injection h2 with h2 h4
  injection h3 with h3 _
  injection h4 with h4 _
  injection h1 with h1
  injection h2 with h2
  injection h3 with h3
  injection h4 with h4
  rw [h1, h2, h3, h4]
theorem nkey_depth (k : K4) : (nkey k).depth ≤ 8 := by
  simp only [nkey, NestedKey.depth, NestedKey.depthAll]; decide
theorem nkey_hash (w : World) (k : K4) : (nkey k).hash w = hash4 k := by
  simp only [nkey, hash4, NestedKey.hash, NestedKey.hashes]
/-- the kind of key -/
def spotKind (prog : Program) (w : World) : HeapKind prog w K4 where
  is := fun h k a => (nestedKind prog w).is h (nkey k) a
  hash := hash4
  draws := fun k => (nestedKind prog w).draws (nkey k)
  room := fun A => (nestedKind prog w).room A
  inj := fun hx hy => nkey_inj ((nestedKind prog w).inj hx hy)
  keeps := fun x ho hd hs => (nestedKind prog w).keeps x ho hd hs
  pyHash := fun {A E s k a Q} hu hk h => (nestedKind prog w).pyHash hu hk (by
    show Q (NestedKey.hash w (nkey k)) _
    rw [nkey_hash]; exact h)
  eqBool := fun {A E s x y a b Q} hu hx hy h => (nestedKind prog w).eqBool hu hx hy (by
    have e : decide (nkey x = nkey y) = decide (x = y) := by
      rw [decide_eq_decide]; exact ⟨nkey_inj, fun z => by rw [z]⟩
    rw [e]; exact h)
  quiet := fun {A E s k a Q} hk h => (nestedKind prog w).quiet hk h
/-! ### over the hand layer -/
/-- v is the key k -/
def KeyV (K : PySem.W.Frag) (H : Hp) (k : K4) (v : V) : Prop := ∃ p p1 p2, v = .ref p ∧ SqT K H p [.ref p1, .ref p2] ∧ SqT K H p1 [.int k.1.1, .int k.1.2] ∧ SqT K H p2 [.int k.2.1, .int k.2.2]
section
variable {X : Cx} {pins : List (Addr × Obj)} {σ : L2.St} {H : Hp} {s : Shared} {a p : Addr} {k : K4} {A : Around} {E : Value → Shared → Prop}
theorem two_at {a b : V} {its : List Value} (r : Vals [a, b] its) : ∃ u v, its = [u, v] ∧ RelV a u ∧ RelV b v := by
  cases r with
  | cons r1 r => cases r with
    | cons r2 r => cases r; exact ⟨_, _, rfl, r1, r2⟩
theorem ints_is (I : Inv X pins σ H s) {i j : Int} (h : SqT X.K H p [.int i, .int j]) : NestedIs s.heap (.tup [.num i, .num j]) (.ref p) := by
  obtain ⟨its, r, ⟨o, e1, e2, n, e3⟩, _⟩ := I.tuple h
  obtain ⟨u, v, rfl, r1, r2⟩ := two_at r
  obtain ⟨t1, rfl⟩ := r1
  obtain ⟨t2, rfl⟩ := r2
  exact .tup e1 e2 e3 (.cons (.int _ _) (.cons (.int _ _) .nil))
theorem key_is (I : Inv X pins σ H s) (h : KeyV X.K H k (.ref p)) : (spotKind X.prog X.w).is s.heap k p := by
  obtain ⟨p', p1, p2, e, h0, h1, h2⟩ := h
  cases e
  obtain ⟨its, r, ⟨o, e1, e2, n, e3⟩, _⟩ := I.tuple h0
  obtain ⟨u, v, rfl, r1, r2⟩ := two_at r
  obtain rfl : u = Value.ref p1 := r1
  obtain rfl : v = Value.ref p2 := r2
  exact ⟨.tup e1 e2 e3 (.cons (ints_is I h1) (.cons (ints_is I h2) .nil)), nkey_depth k⟩
/-- the dict at a, its keys seen -/
structure DSat (K : PySem.W.Frag) (H : Hp) (a : Addr) (xs : List (K4 × Addr × Value)) : Prop where
  at' : H a = some (DicS xs a)
  sys : (a == sysModules) = false
  key : ∀ x ∈ xs, KeyV K H x.1 (.ref x.2.1)
theorem DSat.of (I : Inv X pins σ H s) {xs : List (K4 × Addr × Value)} (d : DSat X.K H a xs) : s.heap.DictOfH (spotKind X.prog X.w) a xs := by
  obtain ⟨⟨o, es, ep, h1, h2, h3, h4, h5⟩, _⟩ := I.hok a _ d.at'
  exact ⟨o, es, ep, h1, h2, h3, h4, fun x hx => key_is I (d.key x hx), h5⟩
theorem DSat.type (I : Inv X pins σ H s) {xs : List (K4 × Addr × Value)} (d : DSat X.K H a xs) :
    s.TypeIs (.ref a) "dict" ∧ (∀ b, Value.ref a = .ref b → ∃ ob, s.heap.get? b = some ob ∧ ob.dict = none) := by
  have dd := d.of I
  refine ⟨dd.typeIs, fun b q => ?_⟩
  cases q
  obtain ⟨ob, _, _, h1, h2, _⟩ := dd
  exact ⟨ob, h1, h2.2.1⟩
end
end ML
namespace ML
open PySem PySem.Spec L2
open PyProof.Rows hiding St
/-! ### readings -/
def k4Of : D → Option K4
  | .tup [.tup [.int a, .int b], .tup [.int c, .int d]] => some ((a, b), (c, d))
  | _ => none
theorem RD.key {K : PySem.W.Frag} {H : Hp} {S : Sto} {k : K4} {v : V} (r : RD K H S v (k4D k)) : ∃ p, v = .ref p ∧ KeyV K H k v := by
  obtain ⟨a, vs, rfl, h1, r1⟩ := RD.tupSq r
  cases r1 with
  | cons ra r1 => cases r1 with
    | cons rb r1 =>
      cases r1
      obtain ⟨p1, vs1, rfl, h2, r2⟩ := RD.tupSq ra
      obtain ⟨p2, vs2, rfl, h3, r3⟩ := RD.tupSq rb
      cases r2 with
      | cons x1 r2 => cases r2 with
        | cons x2 r2 =>
          cases r2
          cases r3 with
          | cons y1 r3 => cases r3 with
            | cons y2 r3 =>
              cases r3
              cases x1; cases x2; cases y1; cases y2
              exact ⟨a, rfl, a, p1, p2, rfl, h1, h2, h3⟩
def dsO : Option MO → Option (List (K4 × D))
  | some (.dS k) => some k
  | _ => none
def dsD (S : Sto) : D → Option (List (K4 × D))
  | .ref p => dsO (S p)
  | _ => none
theorem dsO_dS {kvs : List (K4 × D)} : dsO (some (.dS kvs)) = some kvs := Eq.trans rfl rfl
theorem dsD_ref {S : Sto} {p : Addr} : dsD S (.ref p) = dsO (S p) := Eq.trans rfl rfl
section
variable {K : PySem.W.Frag} {H : Hp} {S : Sto}
theorem R4.length {kvs : List (K4 × D)} {xs : List (K4 × Addr × Value)} (r : R4 K H S kvs xs) : kvs.length = xs.length := Paired.length r
theorem R4.val (k : K4) : ∀ {kvs : List (K4 × D)} {xs : List (K4 × Addr × Value)}, R4 K H S kvs xs → (∀ v, valD kvs k = some v → ∃ u w, atKey xs k = some u ∧ RelV w u.2 ∧ RD K H S w v) ∧ (valD kvs k = none ↔ atKey xs k = none)
  | _, _, .nil => ⟨fun v h => (by cases h), fun _ => rfl, fun _ => rfl⟩
  | p :: ps, q :: qs, .cons ⟨h1, h2, w, h3, h4⟩ r => by
    have ih := R4.val k r
    unfold valD atKey at *
    rw [List.find?_cons, List.find?_cons]
    by_cases e : p.1 = k
    · have e2 : q.1 = k := h1.symm.trans e
      simp only [e, e2, decide_true]
      exact ⟨fun v hv => by cases hv; exact ⟨_, w, rfl, h3, h4⟩, by simp⟩
    · have e2 : ¬ q.1 = k := fun z => e (h1.trans z)
      simp only [e, e2, decide_false]
      exact ih
theorem R4.snoc {k : K4} {p : Addr} {v : V} {u : Value} {d : D} (hk : RD K H S (.ref p) (k4D k)) (hv : RelV v u) (hd : RD K H S v d) : ∀ {kvs : List (K4 × D)} {xs : List (K4 × Addr × Value)}, R4 K H S kvs xs → R4 K H S (kvs ++ [(k, d)]) (xs ++ [(k, p, u)])
  | _, _, .nil => .cons ⟨rfl, hk, v, hv, hd⟩ .nil
  | _, _, .cons h r => .cons h (R4.snoc hk hv hd r)
end
section
variable {X : Cx} {W : WX} {e o i f : Expr} {pos : Pos} {mo mi mx : ME} {A : Around}
/-- {} -/
def mSNew : ME := fun _ S Q _ => ∀ p, S p = none → Q (.ref p) (put S p (.dS []))
/-- d[k] -/
def mSGet (mo mi : ME) : ME := fun σ S Q E => mo σ S (fun d S1 => mi σ S1 (fun y S2 => optP (k4Of y) fun k => optP (dsD S2 d) fun kvs => optP (valD kvs k) fun v => Q v S2) E) E
/-- d.setdefault(k, z) -/
def mSSetd (mo mi mx : ME) : ME := fun σ S Q E => mo σ S (fun d S1 => (∃ kvs, dsD S1 d = some kvs) ∧ mi σ S1 (fun y S2 => mx σ S2 (fun z S3 => optP (k4Of y) fun k => match d with
  | .ref p => optP (dsO (S3 p)) fun kvs => kvs.length < sizeLine ∧ (∀ v, valD kvs k = some v → Q v S3) ∧ (valD kvs k = none → Q z (put S3 p (.dS (kvs ++ [(k, z)]))))
  | _ => False) E) E) E
theorem l_mSNew {σ : MSt} {S : Sto} {Q : MQ} {E : MXQ} : mSNew σ S Q E = ∀ p, S p = none → Q (.ref p) (put S p (.dS [])) := Eq.trans rfl rfl
theorem l_mSGet {σ : MSt} {S : Sto} {Q : MQ} {E : MXQ} : mSGet mo mi σ S Q E = mo σ S (fun d S1 => mi σ S1 (fun y S2 => optP (k4Of y) fun k => optP (dsD S2 d) fun kvs => optP (valD kvs k) fun v => Q v S2) E) E := Eq.trans rfl rfl
theorem l_mSSetd {σ : MSt} {S : Sto} {Q : MQ} {E : MXQ} : mSSetd mo mi mx σ S Q E = mo σ S (fun d S1 => (∃ kvs, dsD S1 d = some kvs) ∧ mi σ S1 (fun y S2 => mx σ S2 (fun z S3 => optP (k4Of y) fun k => match d with
  | .ref p => optP (dsO (S3 p)) fun kvs => kvs.length < sizeLine ∧ (∀ v, valD kvs k = some v → Q v S3) ∧ (valD kvs k = none → Q z (put S3 p (.dS (kvs ++ [(k, z)]))))
  | _ => False) E) E) E := Eq.trans rfl rfl
/-! ### dicts whose keys are numbers -/
def dkO : Option MO → Option (List (Key × D))
  | some (.dK k) => some k
  | _ => none
def dkD (S : Sto) : D → Option (List (Key × D))
  | .ref p => dkO (S p)
  | _ => none
theorem dkO_dK {kvs : List (Key × D)} : dkO (some (.dK kvs)) = some kvs := Eq.trans rfl rfl
theorem dkD_ref {S : Sto} {p : Addr} : dkD S (.ref p) = dkO (S p) := Eq.trans rfl rfl
theorem RKs.val {κ : Type} [DecidableEq κ] {K : PySem.W.Frag} {H : Hp} {S : Sto} (k : κ) : ∀ {vs : List (κ × V)} {ds : List (κ × D)}, RKs K H S vs ds → ∀ d, valD ds k = some d → ∃ v, L2.valV vs k = some v ∧ RD K H S v d
  | _, _, .nil, d, h => by cases h
  | _, _, .cons (k := j) hr r, d, h => by
    have ih := RKs.val k r d
    unfold L2.valV valD at *
    rw [List.find?_cons] at h ⊢
    by_cases e : j = k
    · simp only [e, decide_true] at h ⊢
      cases h; exact ⟨_, rfl, hr⟩
    · simp only [e, decide_false] at h ⊢
      exact ih h
/-- {} -/
def mKNew : ME := fun _ S Q _ => ∀ p, S p = none → Q (.ref p) (put S p (.dK []))
/-- k in d -/
def mKIn (neg : Bool) (mi mo : ME) : ME := fun σ S Q E => mi σ S (fun y S1 => mo σ S1 (fun d S2 => optP (keyD y) fun k => optP (dkD S2 d) fun kvs => Q (.bl (if neg then !(valD kvs k).isSome else (valD kvs k).isSome)) S2) E) E
/-- d[k], a number's -/
def mKGet (mo mi : ME) : ME := fun σ S Q E => mo σ S (fun d S1 => mi σ S1 (fun y S2 => optP (keyD y) fun k => optP (dkD S2 d) fun kvs => optP (valD kvs k) fun v => Q v S2) E) E
/-- d[k] = v -/
def mKPut (mv mo mi : ME) : MS := fun De σ S => mv σ S (fun v S1 => mo σ S1 (fun d S2 => mi σ S2 (fun y S3 => optP (keyD y) fun k => match d with
  | .ref p => optP (dkO (S3 p)) fun kvs => kvs.length < sizeLine ∧ Go De.nx σ (put S3 p (.dK (putD kvs k v)))
  | _ => False) (xAt De σ)) (xAt De σ)) (xAt De σ)
theorem l_mKNew {σ : MSt} {S : Sto} {Q : MQ} {E : MXQ} : mKNew σ S Q E = ∀ p, S p = none → Q (.ref p) (put S p (.dK [])) := Eq.trans rfl rfl
theorem l_mKIn {neg : Bool} {σ : MSt} {S : Sto} {Q : MQ} {E : MXQ} : mKIn neg mi mo σ S Q E = mi σ S (fun y S1 => mo σ S1 (fun d S2 => optP (keyD y) fun k => optP (dkD S2 d) fun kvs => Q (.bl (if neg then !(valD kvs k).isSome else (valD kvs k).isSome)) S2) E) E := Eq.trans rfl rfl
theorem l_mKGet {σ : MSt} {S : Sto} {Q : MQ} {E : MXQ} : mKGet mo mi σ S Q E = mo σ S (fun d S1 => mi σ S1 (fun y S2 => optP (keyD y) fun k => optP (dkD S2 d) fun kvs => optP (valD kvs k) fun v => Q v S2) E) E := Eq.trans rfl rfl
theorem l_mKPut {mv : ME} {De : MEnds} {σ : MSt} {S : Sto} : mKPut mv mo mi De σ S = mv σ S (fun v S1 => mo σ S1 (fun d S2 => mi σ S2 (fun y S3 => optP (keyD y) fun k => match d with
  | .ref p => optP (dkO (S3 p)) fun kvs => kvs.length < sizeLine ∧ Go De.nx σ (put S3 p (.dK (putD kvs k v)))
  | _ => False) (xAt De σ)) (xAt De σ)) (xAt De σ) := Eq.trans rfl rfl
theorem keyD_i {i : Int} : keyD (.int i) = some (.inl i) := Eq.trans rfl rfl
end
end ML
set_option maxRecDepth 100000
/-! # sorted of a list of numbers -/
namespace ML
open PySem PySem.Spec L2
open PyProof.Rows hiding St
section
variable {X : Cx}
/-- sorted: a list that stays -/
def bSortI : List D → Sto → MQ → Prop := fun ds S Q => ∃ (d : D) (ns : List Int), ds = [d] ∧ lstOf S d = some (ns.map .int) ∧ ns.length ≤ 10000 ∧
  ∀ ms : List Int, ms.Perm ns → ms.Pairwise (· ≤ ·) → Q (.lst (ms.map .int)) S
end
def SortIP (ds : List D) (S : Sto) [Q : Hold MQ] : Prop := bSortI ds S Q.v
theorem l_bSortI {ds : List D} {S : Sto} {Q : MQ} : bSortI ds S Q = @SortIP ds S ⟨Q⟩ := Eq.trans rfl rfl
/-! ### True in a list of truths -/
theorem inV_bls (b : Bool) (bs : List Bool) : inV (.bl b) (bs.map V.bl) = bs.any fun c => c == b := by
  unfold inV
  rw [List.any_map]; rfl
/-! ### == of lists of lists of the store -/
mutual
/-- e is d with all lists of the store opened -/
inductive Deep (S : Sto) : D → D → Prop
  | same {d : D} : D.plain d = true → Deep S d d
  | ref {p : Addr} {ds es : List D} : S p = some (.lst ds) → Deeps S ds es → Deep S (.ref p) (.lst es)
  | lst {ds es : List D} : Deeps S ds es → Deep S (.lst ds) (.lst es)
  | tup {ds es : List D} : Deeps S ds es → Deep S (.tup ds) (.tup es)
inductive Deeps (S : Sto) : List D → List D → Prop
  | nil : Deeps S [] []
  | cons {d e : D} {ds es : List D} : Deep S d e → Deeps S ds es → Deeps S (d :: ds) (e :: es)
end
def rNeX : R2m := fun d e S Q => ∃ d' e', Deep S d d' ∧ Deep S e e' ∧ (D.plain d' = true ∧ D.plain e' = true ∧ D.dep d' ≤ 64 ∧ D.dep e' ≤ 64) ∧ Q (.bl (!D.deq d' e')) S
def NeXP (d e : D) (S : Sto) [Q : Hold MQ] : Prop := rNeX d e S Q.v
theorem l_rNeX {d e : D} {S : Sto} {Q : MQ} : rNeX d e S Q = @NeXP d e S ⟨Q⟩ := Eq.trans rfl rfl
end ML
set_option maxRecDepth 100000
namespace ML
open PySem PySem.Spec L2
/-! ### dicts whose keys are numbers: get with a default, setdefault -/
end ML
set_option maxRecDepth 100000
namespace ML
open PySem PySem.Spec L2
variable {X : Cx} {W : WX} {A : Around} {o i e f a : Expr} {pos : Pos} {mo mi mx : ME}
/-! ### [x] * n, a list of the store -/
def repD (n : Nat) (ds : List D) : List D := (List.replicate n ds).flatten
def rRepS : R2m := fun d e S Q => match ownOf S d, e with
  | some xs, .int k => (0 ≤ k ∧ k < 2 ^ 62 ∧ xs.length * k.toNat ≤ sizeLine) ∧ ∀ p, S p = none → Q (.ref p) (put S p (.lst (repD k.toNat xs)))
  | _, _ => False
theorem l_rRepS_l {xs : List D} {k : Int} {S : Sto} {Q : MQ} : rRepS (.lst xs) (.int k) S Q = ((0 ≤ k ∧ k < 2 ^ 62 ∧ xs.length * k.toNat ≤ sizeLine) ∧ ∀ p, S p = none → Q (.ref p) (put S p (.lst (repD k.toNat xs)))) := Eq.trans rfl rfl
/-! ### a list of the store in a list of such -/
def rInX (neg : Bool) : R2m := fun d e S Q => ∃ (d' : D) (es : List D), Deep S d d' ∧ Deep S e (.lst es) ∧ (D.plain d' = true ∧ D.plains es = true ∧ D.dep d' ≤ 64 ∧ D.deps es ≤ 63) ∧ Q (.bl (if neg then !memD d' es else memD d' es)) S
def InXP (neg : Bool) (d e : D) (S : Sto) [Q : Hold MQ] : Prop := rInX neg d e S Q.v
theorem l_rInX {neg : Bool} {d e : D} {S : Sto} {Q : MQ} : rInX neg d e S Q = @InXP neg d e S ⟨Q⟩ := Eq.trans rfl rfl
/-- where it stands -/
def mtIndexX : RMm := fun d ds S Q => match ds with
  | [y] => ∃ (y' : D) (es : List D) (j : Nat), Deep S y y' ∧ Deep S d (.lst es) ∧ (D.plain y' = true ∧ D.plains es = true ∧ D.dep y' ≤ 64 ∧ D.deps es ≤ 63) ∧ idxD y' es = some j ∧ Q (.int (j : Nat)) S
  | _ => False
def IdxXP (d : D) (ds : List D) (S : Sto) [Q : Hold MQ] : Prop := mtIndexX d ds S Q.v
theorem l_mtIndexX {d : D} {ds : List D} {S : Sto} {Q : MQ} : mtIndexX d ds S Q = @IdxXP d ds S ⟨Q⟩ := Eq.trans rfl rfl
end ML
set_option maxRecDepth 100000
namespace ML
open PySem PySem.Spec L2
/-! ### min, max of a list of pairs of numbers -/
theorem lt_u (p q : U2) : W.DatumOrd.lt (α := Int × Int) p q = decide (ult p q) := by
  show (if p.1 = q.1 then decide (p.2 < q.2) else decide (p.1 < q.1)) = _
  by_cases h : p.1 = q.1
  · rw [if_pos h, decide_eq_decide]; unfold ult; omega
  · rw [if_neg h, decide_eq_decide]; unfold ult; omega
theorem foldMin : ∀ (xs : List U2) (x : U2), (W.minOf (α := Int × Int) x xs ∈ x :: xs) ∧ ∀ y ∈ x :: xs, ule (W.minOf (α := Int × Int) x xs) y
  | [], x => ⟨List.mem_cons_self, fun y hy => by
    rw [List.mem_singleton.mp hy]
    show ule x x
    unfold ule; omega⟩
  | y :: xs, x => by
    have e : W.minOf (α := Int × Int) x (y :: xs) = W.minOf (α := Int × Int) (if ult y x then y else x) xs := by
      unfold W.minOf
      rw [List.foldl_cons, lt_u]
      simp only [decide_eq_true_eq]
    obtain ⟨i1, i2⟩ := foldMin xs (if ult y x then y else x)
    rw [e]
    generalize W.minOf (α := Int × Int) (if ult y x then y else x) xs = r at *
    by_cases c : ult y x
    · rw [if_pos c] at i1 i2
      refine ⟨by rcases List.mem_cons.mp i1 with q | q <;> simp [q], fun w hw => ?_⟩
      have q0 := i2 y List.mem_cons_self
      rcases List.mem_cons.mp hw with q | q
      · rw [q]; unfold ult ule at *; omega
      · rcases List.mem_cons.mp q with q | q
        · rw [q]; exact q0
        · exact i2 w (List.mem_cons_of_mem _ q)
    · rw [if_neg c] at i1 i2
      refine ⟨by rcases List.mem_cons.mp i1 with q | q <;> simp [q], fun w hw => ?_⟩
      have q0 := i2 x List.mem_cons_self
      rcases List.mem_cons.mp hw with q | q
      · rw [q]; exact q0
      · rcases List.mem_cons.mp q with q | q
        · rw [q]; unfold ult ule at *; omega
        · exact i2 w (List.mem_cons_of_mem _ q)
theorem foldMax : ∀ (xs : List U2) (x : U2), (W.maxOf (α := Int × Int) x xs ∈ x :: xs) ∧ ∀ y ∈ x :: xs, ule y (W.maxOf (α := Int × Int) x xs)
  | [], x => ⟨List.mem_cons_self, fun y hy => by
    rw [List.mem_singleton.mp hy]
    show ule x x
    unfold ule; omega⟩
  | y :: xs, x => by
    have e : W.maxOf (α := Int × Int) x (y :: xs) = W.maxOf (α := Int × Int) (if ult x y then y else x) xs := by
      unfold W.maxOf
      rw [List.foldl_cons, lt_u]
      simp only [decide_eq_true_eq]
    obtain ⟨i1, i2⟩ := foldMax xs (if ult x y then y else x)
    rw [e]
    generalize W.maxOf (α := Int × Int) (if ult x y then y else x) xs = r at *
    by_cases c : ult x y
    · rw [if_pos c] at i1 i2
      refine ⟨by rcases List.mem_cons.mp i1 with q | q <;> simp [q], fun w hw => ?_⟩
      have q0 := i2 y List.mem_cons_self
      rcases List.mem_cons.mp hw with q | q
      · rw [q]; unfold ult ule at *; omega
      · rcases List.mem_cons.mp q with q | q
        · rw [q]; exact q0
        · exact i2 w (List.mem_cons_of_mem _ q)
    · rw [if_neg c] at i1 i2
      refine ⟨by rcases List.mem_cons.mp i1 with q | q <;> simp [q], fun w hw => ?_⟩
      have q0 := i2 x List.mem_cons_self
      rcases List.mem_cons.mp hw with q | q
      · rw [q]; exact q0
      · rcases List.mem_cons.mp q with q | q
        · rw [q]; unfold ult ule at *; omega
        · exact i2 w (List.mem_cons_of_mem _ q)
/-- a list of the store, whose things are pairs -/
def PairsAt (K : PySem.W.Frag) (H : Hp) (a : Addr) (xs : List V) (us : List U2) : Prop := SqL K H a xs ∧ Dp K H (.ref a) (.list (us.map (W.Datum.toD (α := Int × Int)))) ∧ us ≠ []
def rMinU (K : PySem.W.Frag) : List V → Hp → VK → Prop := fun vs H Q => ∃ (a : Addr) (xs : List V) (us : List U2), vs = [.ref a] ∧ PairsAt K H a xs us ∧ ∀ (i : Nat) (x : V) (m : U2), xs[i]? = some x → us[i]? = some m → (∀ y ∈ us, ule m y) → Q x H
def rMaxU (K : PySem.W.Frag) : List V → Hp → VK → Prop := fun vs H Q => ∃ (a : Addr) (xs : List V) (us : List U2), vs = [.ref a] ∧ PairsAt K H a xs us ∧ ∀ (i : Nat) (x : V) (m : U2), xs[i]? = some x → us[i]? = some m → (∀ y ∈ us, ule y m) → Q x H
theorem vals_get : ∀ {xs : List V} {its : List Value} {i : Nat} {v : Value}, Vals xs its → its[i]? = some v → ∃ x, xs[i]? = some x ∧ RelV x v
  | _, _, i, v, .nil, h => by simp at h
  | _, _, 0, v, .cons r rs, h => by simp at h; subst h; exact ⟨_, rfl, r⟩
  | _, _, i + 1, v, .cons r rs, h => by
    obtain ⟨x, hx, rx⟩ := vals_get rs (by simpa using h)
    exact ⟨x, by simpa using hx, rx⟩
theorem readsAll_get {h : Heap} : ∀ {vs : List Value} {ds : List PyData} {as : List Addr} {i : Nat} {v : Value}, ReadsAll h vs ds as → vs[i]? = some v → ∃ d bs, ds[i]? = some d ∧ Reads h v d bs
  | _, _, _, i, v, .nil, h => by simp at h
  | _, _, _, 0, v, .cons r rs, h => by simp at h; subst h; exact ⟨_, _, rfl, r⟩
  | _, _, _, i + 1, v, .cons r rs, h => by
    obtain ⟨d, bs, hd, rd⟩ := readsAll_get rs (by simpa using h)
    exact ⟨d, bs, by simpa using hd, rd⟩
theorem toD_inj {a b : U2} (h : W.Datum.toD (α := Int × Int) a = W.Datum.toD (α := Int × Int) b) : a = b := by
  have h : PyData.tuple [.int a.1, .int a.2] = PyData.tuple [.int b.1, .int b.2] := h
  injection h with h
  injection h with h1 h2
  injection h1 with h1
  injection h2 with h2 _
  injection h2 with h2
  exact Prod.ext h1 h2
section
variable {X : Cx}
theorem pairs_reads {pins : List (Addr × Obj)} {σ : L2.St} {H : Hp} {s : Shared} {a : Addr} {xs : List V} {us : List U2} (I : L2.Inv X pins σ H s) (h : PairsAt X.K H a xs us) :
    ∃ its : List Value, Vals xs its ∧ s.heap.IsList a its.toArray ∧ ∃ as, ReadsAll s.heap its (us.map (W.Datum.toD (α := Int × Int))) as := by
  obtain ⟨h1, h2, h3⟩ := h
  obtain ⟨its, rv, hl, _⟩ := I.list h1
  obtain ⟨as, rd⟩ := Dp.reads I _ _ (.ref a) h2 rfl
  refine ⟨its, rv, hl.isList, ?_⟩
  cases rd with
  | list ho hc hd ra =>
    obtain ⟨⟨cls, dd, data, sl⟩, n, ho', hc', hdn, hd'⟩ := hl
    rw [ho'] at ho
    cases ho
    simp only at hd hd'
    rw [hd'] at hd
    cases hd
    exact ⟨_, ra⟩
theorem cr_minU (hc : X.calm = true) (hu : X.A.units + 65 < cLine) : CallR X (.builtin "min") (rMinU X.K) := by
  intro pins s σ H vs us Q I r h
  obtain ⟨a, xs, ps, rfl, hp, q⟩ := h
  obtain ⟨its, rv, hl, as, ra⟩ := pairs_reads I hp
  rw [Vals.ref1 r]
  cases ps with
  | nil => exact absurd rfl hp.2.2
  | cons u ps =>
    refine W.min_list_datum (α := Int × Int) (x := u) (xs := ps) (I.ok.hd hc) hl ⟨as, ra⟩ (by show X.A.units + 1 + 1 < cLine; omega) fun i v h' tk hi hv hk => ?_
    have hi : its[i]? = some v := by simpa using hi
    obtain ⟨x, hx, rx⟩ := vals_get rv hi
    obtain ⟨d, bs, hd, rd⟩ := readsAll_get ra hi
    obtain ⟨cs, rm⟩ := hv
    have e := (Reads.unique rm _ _ (PyProof.Rows.Reads.keeps hk rd)).1
    rw [List.getElem?_map] at hd
    cases hu : (u :: ps)[i]? with
    | none => rw [hu] at hd; cases hd
    | some m =>
      rw [hu] at hd; cases hd
      have em := toD_inj e
      refine ⟨x, H, I.kept hk, rx, q i x m hx hu fun y hy => ?_⟩
      rw [← em]; exact (foldMin ps u).2 y hy
theorem cr_maxU (hc : X.calm = true) (hu : X.A.units + 65 < cLine) : CallR X (.builtin "max") (rMaxU X.K) := by
  intro pins s σ H vs us Q I r h
  obtain ⟨a, xs, ps, rfl, hp, q⟩ := h
  obtain ⟨its, rv, hl, as, ra⟩ := pairs_reads I hp
  rw [Vals.ref1 r]
  cases ps with
  | nil => exact absurd rfl hp.2.2
  | cons u ps =>
    refine W.max_list_datum (α := Int × Int) (x := u) (xs := ps) (I.ok.hd hc) hl ⟨as, ra⟩ (by show X.A.units + 1 + 1 < cLine; omega) fun i v h' tk hi hv hk => ?_
    have hi : its[i]? = some v := by simpa using hi
    obtain ⟨x, hx, rx⟩ := vals_get rv hi
    obtain ⟨d, bs, hd, rd⟩ := readsAll_get ra hi
    obtain ⟨cs, rm⟩ := hv
    have e := (Reads.unique rm _ _ (PyProof.Rows.Reads.keeps hk rd)).1
    rw [List.getElem?_map] at hd
    cases hu : (u :: ps)[i]? with
    | none => rw [hu] at hd; cases hd
    | some m =>
      rw [hu] at hd; cases hd
      have em := toD_inj e
      refine ⟨x, H, I.kept hk, rx, q i x m hx hu fun y hy => ?_⟩
      rw [← em]; exact (foldMax ps u).2 y hy
def bMinU : List D → Sto → MQ → Prop := fun ds S Q => ∃ (d : D) (us : List U2), ds = [d] ∧ lstOf S d = some (us.map uD) ∧ us ≠ [] ∧ ∀ m, m ∈ us → (∀ y ∈ us, ule m y) → Q (uD m) S
def bMaxU : List D → Sto → MQ → Prop := fun ds S Q => ∃ (d : D) (us : List U2), ds = [d] ∧ lstOf S d = some (us.map uD) ∧ us ≠ [] ∧ ∀ m, m ∈ us → (∀ y ∈ us, ule y m) → Q (uD m) S
theorem pys_u : ∀ us : List U2, D.pys (us.map uD) = us.map (W.Datum.toD (α := Int × Int))
  | [] => by rw [List.map_nil, D.pys]; rfl
  | u :: us => by
    rw [List.map_cons, D.pys, pys_u us, List.map_cons]
    congr 1
theorem plains_u : ∀ us : List U2, D.plains (us.map uD) = true
  | [] => rfl
  | u :: us => by
    show (D.plain (uD u) && D.plains (us.map uD)) = true
    rw [plains_u us]; rfl
theorem pairs_at {H : Hp} {S : Sto} {v : V} {d : D} {us : List U2} (s : RSto X.K H S) (r : RD X.K H S v d) (h : lstOf S d = some (us.map uD)) (ne : us ≠ []) : ∃ a xs, v = .ref a ∧ PairsAt X.K H a xs us ∧ RDs X.K H S xs (us.map uD) := by
  obtain ⟨a, vs, rfl, hq, rs⟩ := lst_sq s r h
  obtain ⟨a', ea, dp⟩ := lst_dp s r h (plains_u us)
  cases ea
  rw [pys_u] at dp
  exact ⟨a, vs, rfl, ⟨hq, dp, ne⟩, rs⟩
theorem rds_get {K : PySem.W.Frag} {H : Hp} {S : Sto} : ∀ {vs : List V} {ds : List D} {i : Nat} {v : V} {d : D}, RDs K H S vs ds → vs[i]? = some v → ds[i]? = some d → RD K H S v d
  | _, _, i, v, d, .nil, h, _ => by simp at h
  | _, _, 0, v, d, .cons r rs, h, k => by simp at h k; subst h; subst k; exact r
  | _, _, i + 1, v, d, .cons r rs, h, k => rds_get (i := i) rs (by simpa using h) (by simpa using k)
theorem cl_minU : CaL X.K (rMinU X.K) bMinU := by
  rintro H S xs ds Qm Q s r ⟨d, us, rfl, hl, h0, h⟩ k
  obtain ⟨v, rfl, r1⟩ := rds1 r
  obtain ⟨a, vs, rfl, hp, rs⟩ := pairs_at s r1 hl h0
  refine ⟨a, vs, us, rfl, hp, fun i x m hx hm mn => ?_⟩
  exact k _ S _ H (h m (List.mem_of_getElem? hm) mn) Ext.refl s (rds_get rs hx (by rw [List.getElem?_map, hm]; rfl))
theorem cl_maxU : CaL X.K (rMaxU X.K) bMaxU := by
  rintro H S xs ds Qm Q s r ⟨d, us, rfl, hl, h0, h⟩ k
  obtain ⟨v, rfl, r1⟩ := rds1 r
  obtain ⟨a, vs, rfl, hp, rs⟩ := pairs_at s r1 hl h0
  refine ⟨a, vs, us, rfl, hp, fun i x m hx hm mn => ?_⟩
  exact k _ S _ H (h m (List.mem_of_getElem? hm) mn) Ext.refl s (rds_get rs hx (by rw [List.getElem?_map, hm]; rfl))
end
def MinUP (ds : List D) (S : Sto) [Q : Hold MQ] : Prop := bMinU ds S Q.v
def MaxUP (ds : List D) (S : Sto) [Q : Hold MQ] : Prop := bMaxU ds S Q.v
theorem l_bMinU {ds : List D} {S : Sto} {Q : MQ} : bMinU ds S Q = @MinUP ds S ⟨Q⟩ := Eq.trans rfl rfl
theorem l_bMaxU {ds : List D} {S : Sto} {Q : MQ} : bMaxU ds S Q = @MaxUP ds S ⟨Q⟩ := Eq.trans rfl rfl
theorem minUP {d : D} {us : List U2} {S : Sto} {Q : MQ} (hl : lstOf S d = some (us.map uD)) (h0 : us ≠ []) (k : ∀ m, m ∈ us → (∀ y ∈ us, ule m y) → Q (uD m) S) : @MinUP [d] S ⟨Q⟩ := ⟨d, us, rfl, hl, h0, k⟩
theorem maxUP {d : D} {us : List U2} {S : Sto} {Q : MQ} (hl : lstOf S d = some (us.map uD)) (h0 : us ≠ []) (k : ∀ m, m ∈ us → (∀ y ∈ us, ule y m) → Q (uD m) S) : @MaxUP [d] S ⟨Q⟩ := ⟨d, us, rfl, hl, h0, k⟩
end ML
set_option maxRecDepth 100000
/-! # a list with truths in it, against the empty list -/
namespace ML
open PySem PySem.Spec L2
mutual
def D.pb : D → Bool
  | .non => true
  | .bl _ => true
  | .int _ => true
  | .str x => PyData.strOk x
  | .tup ds => D.pbs ds
  | .lst ds => D.pbs ds
  | .scr ds => D.pbs ds
  | .ref _ => false
def D.pbs : List D → Bool
  | [] => true
  | d :: ds => D.pb d && D.pbs ds
end
mutual
theorem RD.dpb {K : PySem.W.Frag} {H : Hp} {S : Sto} : ∀ {v : V} {d : D}, RD K H S v d → D.pb d = true → Dp K H v (D.py d)
  | _, _, .non, _ => by rw [D.py]; exact .non
  | _, _, .bl b, _ => by rw [D.py]; exact .bl b
  | _, _, .int i, _ => by rw [D.py]; exact .int i
  | _, _, .str x, _ => by rw [D.py]; exact .str x
  | _, _, .ref _, h => by cases h
  | _, _, .tup h n r, k => by rw [D.py]; exact .tup (.inl h) (RDs.dpb r k)
  | _, _, .lst h n r, k => by rw [D.py]; exact .lst (.inl (.inl h)) (RDs.dpb r k)
  | _, _, .scr h n r, k => by rw [D.py]; exact .lst (.inl (.inr ⟨_, h⟩)) (RDs.dpb r k)
  | _, _, .ktup h1 h2 h3 h4 h5 r, k => by rw [D.py]; exact .tup (.inr ⟨_, _, _, h1, h2, h3, h4, h5⟩) (RDs.dpb r k)
  | _, _, .klst h1 h2 h3 h4 h5 h6 r, k => by rw [D.py]; exact .lst (.inr ⟨_, _, _, h1, h2, h3, h4, h5, h6⟩) (RDs.dpb r k)
theorem RDs.dpb {K : PySem.W.Frag} {H : Hp} {S : Sto} : ∀ {vs : List V} {ds : List D}, RDs K H S vs ds → D.pbs ds = true → DpAll K H vs (D.pys ds)
  | _, _, .nil, _ => by rw [D.pys]; exact .nil
  | _, _, .cons (d := d) (ds := ds) h r, k => by
    obtain ⟨a1, a2⟩ := Bool.and_eq_true_iff.mp (show (D.pb d && D.pbs ds) = true from k)
    rw [D.pys]; exact .cons (RD.dpb h a1) (RDs.dpb r a2)
end
theorem pbs_map {α : Type} {f : α → D} (h : ∀ a, D.pb (f a) = true) : ∀ xs : List α, D.pbs (xs.map f) = true
  | [] => rfl
  | a :: xs => Bool.and_eq_true_iff.mpr ⟨h a, pbs_map h xs⟩
end ML
set_option maxRecDepth 100000
/-! # data alike; what is shown, its length -/
namespace ML
open PySem PySem.Spec L2
mutual
theorem deq_refl : ∀ d : D, D.plain d = true → D.deq d d = true
  | .non, _ => by rw [D.deq]
  | .bl _, h => by cases h
  | .int _, _ => by rw [D.deq]; simp
  | .str _, _ => by rw [D.deq]; simp
  | .ref _, h => by cases h
  | .tup ds, h => by rw [D.deq]; exact deqs_refl ds h
  | .lst ds, h => by rw [D.deq]; exact deqs_refl ds h
  | .scr ds, h => by rw [D.deq]; exact deqs_refl ds h
theorem deqs_refl : ∀ ds : List D, D.plains ds = true → D.deqs ds ds = true
  | [], _ => by rw [D.deqs]
  | d :: ds, h => by
    obtain ⟨a, b⟩ := Bool.and_eq_true_iff.mp (show (D.plain d && D.plains ds) = true from h)
    rw [D.deqs, deq_refl d a, deqs_refl ds b]; rfl
end
/-! ### what is shown -/
mutual
/-- small numbers, short texts -/
def D.sml : D → Bool
  | .int i => decide (i.natAbs.log2 < 1920)
  | .tup ds => D.smls ds
  | .lst ds => D.smls ds
  | .scr ds => D.smls ds
  | .str _ => true
  | .non => true
  | .bl _ => true
  | .ref _ => true
def D.smls : List D → Bool
  | [] => true
  | d :: ds => D.sml d && D.smls ds
end
mutual
/-- so many signs at most -/
def D.wt : D → Nat
  | .int _ => 2000
  | .str x => 10 * x.length + 10
  | .tup ds => D.wts ds + 10
  | .lst ds => D.wts ds + 10
  | .scr ds => D.wts ds + 10
  | .non => 10
  | .bl _ => 10
  | .ref _ => 10
def D.wts : List D → Nat
  | [] => 0
  | d :: ds => D.wt d + 2 + D.wts ds
end
theorem pys_length : ∀ ds : List D, (D.pys ds).length = ds.length
  | [] => by rw [D.pys]; rfl
  | d :: ds => by rw [D.pys, List.length_cons, List.length_cons, pys_length ds]
mutual
theorem shown_wt : ∀ d : D, D.pb d = true → D.sml d = true → (D.py d).shown.length ≤ D.wt d
  | .non, _, _ => by rw [D.py, D.wt]; decide
  | .bl b, _, _ => by rw [D.py, D.wt]; cases b <;> decide
  | .ref _, h, _ => by cases h
  | .int i, _, h => by
    have hi : i.natAbs.log2 < 1920 := of_decide_eq_true h
    have := PyProof.Rows.int_text_len_1921 hi
    rw [D.py, D.wt, PyData.shown]
    exact Nat.le_trans this (by decide)
  | .str x, h, _ => by
    have hx : ∀ c ∈ x.cps.toList, c < 16 ^ 8 := fun c hc => by
      have h' : PyData.strOk x = true := h
      unfold PyData.strOk at h'
      have := Array.all_eq_true_iff_forall_mem.mp h' c (by simpa using hc)
      have := of_decide_eq_true this
      omega
    have e := StrLaws.reprText_len x hx
    rw [D.py, D.wt, PyData.shown]
    omega
  | .tup ds, h, k => by
    have h1 := shown_wts ds h k
    have h2 := tupleText_len_le (PyData.shownAll (D.pys ds))
    have h3 := PyData.shownAll_length (D.pys ds)
    rw [D.py, D.wt, PyData.shown]
    rw [pys_length] at h3
    omega
  | .lst ds, h, k => by
    have h1 := shown_wts ds h k
    have h2 := listText_len_le (PyData.shownAll (D.pys ds))
    have h3 := PyData.shownAll_length (D.pys ds)
    rw [D.py, D.wt, PyData.shown]
    rw [pys_length] at h3
    omega
  | .scr ds, h, k => by
    have h1 := shown_wts ds h k
    have h2 := listText_len_le (PyData.shownAll (D.pys ds))
    have h3 := PyData.shownAll_length (D.pys ds)
    rw [D.py, D.wt, PyData.shown]
    rw [pys_length] at h3
    omega
theorem shown_wts : ∀ ds : List D, D.pbs ds = true → D.smls ds = true → ((PyData.shownAll (D.pys ds)).map (·.length)).sum + 2 * ds.length ≤ D.wts ds
  | [], _, _ => by rw [D.pys, D.wts, PyData.shownAll]; decide
  | d :: ds, h, k => by
    obtain ⟨a1, a2⟩ := Bool.and_eq_true_iff.mp (show (D.pb d && D.pbs ds) = true from h)
    obtain ⟨b1, b2⟩ := Bool.and_eq_true_iff.mp (show (D.sml d && D.smls ds) = true from k)
    have e1 := shown_wt d a1 b1
    have e2 := shown_wts ds a2 b2
    rw [D.pys, D.wts, PyData.shownAll, List.map_cons, List.sum_cons, List.length_cons]
    omega
end
mutual
theorem showable_sml : ∀ d : D, D.pb d = true → D.sml d = true → (D.py d).showable = true
  | .non, _, _ => by rw [D.py, PyData.showable]
  | .bl b, _, _ => by rw [D.py, PyData.showable]
  | .ref _, h, _ => by cases h
  | .int i, _, h => by rw [D.py, PyData.showable]; exact h
  | .str x, _, _ => by rw [D.py, PyData.showable]
  | .tup ds, h, k => by rw [D.py, PyData.showable]; exact showable_smls ds h k
  | .lst ds, h, k => by rw [D.py, PyData.showable]; exact showable_smls ds h k
  | .scr ds, h, k => by rw [D.py, PyData.showable]; exact showable_smls ds h k
theorem showable_smls : ∀ ds : List D, D.pbs ds = true → D.smls ds = true → PyData.showableAll (D.pys ds) = true
  | [], _, _ => by rw [D.pys, PyData.showableAll]
  | d :: ds, h, k => by
    obtain ⟨a1, a2⟩ := Bool.and_eq_true_iff.mp (show (D.pb d && D.pbs ds) = true from h)
    obtain ⟨b1, b2⟩ := Bool.and_eq_true_iff.mp (show (D.sml d && D.smls ds) = true from k)
    rw [D.pys, PyData.showableAll, showable_sml d a1 b1, showable_smls ds a2 b2]; rfl
end
mutual
theorem noDict_pb : ∀ d : D, D.pb d = true → PyData.hasDict (D.py d) = false
  | .non, _ => by rw [D.py, PyData.hasDict]
  | .bl _, _ => by rw [D.py, PyData.hasDict]
  | .int _, _ => by rw [D.py, PyData.hasDict]
  | .str _, _ => by rw [D.py, PyData.hasDict]
  | .ref _, h => by cases h
  | .tup ds, h => by rw [D.py, PyData.hasDict]; exact noDict_pbs ds h
  | .lst ds, h => by rw [D.py, PyData.hasDict]; exact noDict_pbs ds h
  | .scr ds, h => by rw [D.py, PyData.hasDict]; exact noDict_pbs ds h
theorem noDict_pbs : ∀ ds : List D, D.pbs ds = true → PyData.hasDictAll (D.pys ds) = false
  | [], _ => by rw [D.pys, PyData.hasDictAll]
  | d :: ds, h => by
    obtain ⟨a1, a2⟩ := Bool.and_eq_true_iff.mp (show (D.pb d && D.pbs ds) = true from h)
    rw [D.pys, PyData.hasDictAll, noDict_pb d a1, noDict_pbs ds a2]; rfl
end
/-! ### all lists of the store opened, truths let -/
mutual
inductive Opn (S : Sto) : D → D → Prop
  | same {d : D} : D.pb d = true → Opn S d d
  | ref {p : Addr} {ds es : List D} : S p = some (.lst ds) → Opns S ds es → Opn S (.ref p) (.lst es)
  | lst {ds es : List D} : Opns S ds es → Opn S (.lst ds) (.lst es)
  | tup {ds es : List D} : Opns S ds es → Opn S (.tup ds) (.tup es)
inductive Opns (S : Sto) : List D → List D → Prop
  | nil : Opns S [] []
  | cons {d e : D} {ds es : List D} : Opn S d e → Opns S ds es → Opns S (d :: ds) (e :: es)
end
mutual
theorem opn_dp {K : PySem.W.Frag} {H : Hp} {S : Sto} (s : RSto K H S) : ∀ {v : V} {d e : D}, RD K H S v d → Opn S d e → Dp K H v (D.py e)
  | _, _, _, r, .same h => r.dpb h
  | _, _, _, r, .ref e dd => by
    cases r
    obtain ⟨vs, e1, r1⟩ := s _ _ e
    rw [D.py]
    exact .lst (.inl (.inl e1)) (opns_dp s r1 dd)
  | _, _, _, r, .lst dd => by
    cases r with
    | lst h1 n r1 => rw [D.py]; exact .lst (.inl (.inl h1)) (opns_dp s r1 dd)
  | _, _, _, r, .tup dd => by
    obtain ⟨a, vs, rfl, h1, r1⟩ := RD.tupSq r
    rw [D.py]; exact .tup h1 (opns_dp s r1 dd)
theorem opns_dp {K : PySem.W.Frag} {H : Hp} {S : Sto} (s : RSto K H S) : ∀ {vs : List V} {ds es : List D}, RDs K H S vs ds → Opns S ds es → DpAll K H vs (D.pys es)
  | _, _, _, .nil, .nil => by rw [D.pys]; exact .nil
  | _, _, _, .cons r rs, .cons d dd => by rw [D.pys]; exact .cons (opn_dp s r d) (opns_dp s rs dd)
end
mutual
theorem opn_pb {S : Sto} : ∀ {d e : D}, Opn S d e → D.pb e = true
  | _, _, .same h => h
  | _, _, .ref _ dd => by rw [D.pb]; exact opns_pb dd
  | _, _, .lst dd => by rw [D.pb]; exact opns_pb dd
  | _, _, .tup dd => by rw [D.pb]; exact opns_pb dd
theorem opns_pb {S : Sto} : ∀ {ds es : List D}, Opns S ds es → D.pbs es = true
  | _, _, .nil => rfl
  | _, _, .cons d dd => Bool.and_eq_true_iff.mpr ⟨opn_pb d, opns_pb dd⟩
end
/-- repr, of what stands in the store too -/
def rShowA (K : PySem.W.Frag) : List V → Hp → VK → Prop := fun xs H Q => rShow K xs H Q ∨ ((∃ i, xs = [.int i] ∧ i.natAbs.log2 < 1920 ∧ Q (.str (toString i)) H) ∨ ((∃ x, xs = [.str x] ∧ (reprText x).length ≤ sizeLine ∧ Q (.str (reprText x)) H) ∨ ((∃ b, xs = [.bl b] ∧ Q (.str (if b then "True" else "False")) H) ∨ (xs = [.non] ∧ Q (.str "None") H))))
theorem call_showA {X : Cx} (hg : X.A.guards = some []) (hu : X.A.units + 65 < cLine) : CallR X (.builtin "repr") (rShowA X.K) := by
  refine (call_show hg hu).or (CallR.or ?_ (CallR.or ?_ (CallR.or ?_ ?_)))
  · intro pins s σ H xs us Q I r h
    obtain ⟨i, rfl, hz, q⟩ := h
    obtain ⟨u, rfl, t, rfl⟩ := vals1 r
    exact PySem.P.repr_of_int hz ⟨.str _, H, I.tok _, ⟨_, rfl⟩, q⟩
  · intro pins s σ H xs us Q I r h
    obtain ⟨x, rfl, hz, q⟩ := h
    obtain ⟨u, rfl, t, rfl⟩ := vals1 r
    exact PySem.P.repr_of_str ⟨.str _, H, I.tok _, ⟨_, rfl⟩, q⟩ hz
  · intro pins s σ H xs us Q I r h
    obtain ⟨b, rfl, q⟩ := h
    obtain ⟨u, rfl, rfl⟩ := vals1 r
    exact PySem.P.repr_of_bool ⟨.str _, H, I.tok _, ⟨_, rfl⟩, q⟩
  · intro pins s σ H xs us Q I r h
    obtain ⟨rfl, q⟩ := h
    obtain ⟨u, rfl, rfl⟩ := vals1 r
    exact PySem.P.repr_of_none ⟨.str _, H, I.tok _, ⟨_, rfl⟩, q⟩
def bReprO : List D → Sto → MQ → Prop := fun ds S Q => ∃ d e : D, ds = [d] ∧ Opn S d e ∧ D.dep e ≤ 60 ∧ D.sml e = true ∧ D.wt e ≤ 16000000 ∧ Q (.str (reprD e)) S
theorem cl_reprO {K : PySem.W.Frag} : CaL K (rShowA K) bReprO := fun H S xs ds Qm Q s r ⟨d, e, he, ho, hd, hs, hw, q⟩ k => by
  subst he
  obtain ⟨v, rfl, r1⟩ := rds1 r
  have dp := opn_dp s r1 ho
  have pb := opn_pb ho
  have sz := shown_wt _ pb hs
  have done : ∀ a : Addr, v = .ref a → rShowA K [v] H Q := fun a ha => by
    subst ha
    exact .inl ⟨a, _, rfl, dp, showable_sml _ pb hs, noDict_pb _ pb, by rw [D.dep_py]; exact hd, by rw [sizeLine_eq]; omega, k _ S _ H q Ext.refl s (.str _)⟩
  cases e with
  | tup es => rw [D.py] at dp; cases dp; exact done _ rfl
  | lst es => rw [D.py] at dp; cases dp; exact done _ rfl
  | scr es => rw [D.py] at dp; cases dp; exact done _ rfl
  | int i =>
    rw [D.py] at dp; cases dp
    exact .inr (.inl ⟨i, rfl, of_decide_eq_true hs, k _ S _ H (by have := q; unfold reprD at this; rwa [D.py, PyData.shown] at this) Ext.refl s (.str _)⟩)
  | str x =>
    rw [D.py] at dp; cases dp
    rw [D.py, PyData.shown] at sz
    exact .inr (.inr (.inl ⟨x, rfl, by rw [sizeLine_eq]; omega, k _ S _ H (by have := q; unfold reprD at this; rwa [D.py, PyData.shown] at this) Ext.refl s (.str _)⟩))
  | bl b =>
    rw [D.py] at dp; cases dp
    exact .inr (.inr (.inr (.inl ⟨b, rfl, k _ S _ H (by have := q; unfold reprD at this; rw [D.py, PyData.shown] at this; cases b <;> exact this) Ext.refl s (.str _)⟩)))
  | non =>
    rw [D.py] at dp; cases dp
    exact .inr (.inr (.inr (.inr ⟨rfl, k _ S _ H (by have := q; unfold reprD at this; rwa [D.py, PyData.shown] at this) Ext.refl s (.str _)⟩)))
  | ref a => cases pb
def ReprP (ds : List D) (S : Sto) [Q : Hold MQ] : Prop := bReprO ds S Q.v
theorem l_bReprO {ds : List D} {S : Sto} {Q : MQ} : bReprO ds S Q = @ReprP ds S ⟨Q⟩ := Eq.trans rfl rfl
theorem reprP {d e : D} {S : Sto} {Q : MQ} (ho : Opn S d e) (h : D.dep e ≤ 60 ∧ D.sml e = true ∧ D.wt e ≤ 16000000) (k : Q (.str (reprD e)) S) : @ReprP [d] S ⟨Q⟩ := ⟨d, e, rfl, ho, h.1, h.2.1, h.2.2, k⟩
/-! ### == of two texts -/
def rEqS : R2m := fun d e S Q => match d, e with
  | .str x, .str y => Q (.bl (decide (x = y))) S
  | _, _ => False
theorem ol_eqS {X : Cx} : OpL X.K (fun x y H Q => rEq x y H Q ∨ rEqD X.K x y H Q) rEqS := fun H S x y d e Qm Q s rx ry h k => by
  cases d with
  | str x =>
    cases e with
    | str y =>
      cases rx; cases ry
      refine .inl ⟨rfl, ?_⟩
      have : decide (V.str x = V.str y) = decide (x = y) := by simp
      rw [this]
      exact k _ S _ H h Ext.refl s (.bl _)
    | _ => exact h.elim
  | _ => exact h.elim
theorem l_rEqS {x y : Str} {S : Sto} {Q : MQ} : rEqS (.str x) (.str y) S Q = Q (.bl (decide (x = y))) S := Eq.trans rfl rfl
/-! ### a truth not in a list of truths -/
def rNinB : R2m := fun d e S Q => match d with
  | .bl b => match (lstOf S e).bind blsOf with
    | some bs => Q (.bl (!bs.any fun c => c == b)) S
    | none => False
  | _ => False
theorem ol_ninB {X : Cx} : OpL X.K (rIn X.K true) rNinB := fun H S x y d e Qm Q s rx ry h k => by
  cases d with
  | bl b =>
    cases rx
    cases hb : (lstOf S e).bind blsOf with
    | none =>
      have h' : (match (lstOf S e).bind blsOf with
        | some bs => Qm (.bl (!bs.any fun c => c == b)) S
        | none => False) := h
      rw [hb] at h'; exact h'.elim
    | some bs =>
      have h' : (match (lstOf S e).bind blsOf with
        | some bs => Qm (.bl (!bs.any fun c => c == b)) S
        | none => False) := h
      rw [hb] at h'
      have q : Qm (.bl (!bs.any fun c => c == b)) S := h'
      obtain ⟨ds, hl, hd⟩ := Option.bind_eq_some_iff.mp hb
      obtain ⟨a, vs, rfl, hq, rs⟩ := lst_sq s ry hl
      rw [blsOf_eq hd] at rs
      rw [rs.bls] at hq
      refine ⟨a, _, rfl, .inl hq, rfl, by rw [List.all_map]; exact List.all_eq_true.mpr fun _ _ => rfl, ?_⟩
      rw [if_pos rfl, inV_bls]
      exact k _ S _ H q Ext.refl s (.bl _)
  | _ => exact h.elim
theorem l_rNinB {b : Bool} {bs : List Bool} {S : Sto} {Q : MQ} : rNinB (.bl b) (.lst (bs.map .bl)) S Q = Q (.bl (!bs.any fun c => c == b)) S := by
  simp only [rNinB, lstOf, Option.bind_some, blsOf_map]
end ML
namespace FL
open PySem PySem.Spec L2 ML
/-- a fraction in lowest terms, as the program writes it -/
def fr (q : Rat) : D := .tup [.int q.num, .int (q.den : Nat)]
abbrev Pt := Rat × Rat
def spD (s : Pt) : D := .tup [fr s.1, fr s.2]
abbrev Wl := Pt × Pt
def wlD (w : Wl) : D := .tup [spD w.1, spD w.2]
/-- how many bits top and bottom need -/
def sz (q : Rat) : Nat := max q.num.natAbs.log2 q.den.log2 + 1
def SzS (n : Nat) (s : Pt) : Prop := sz s.1 ≤ n ∧ sz s.2 ≤ n
def ahead (a b : Pt) : Prop := a.1 < b.1 ∨ (a.1 = b.1 ∧ a.2 < b.2)
instance : DecidableRel ahead := fun a b => by unfold ahead; infer_instance
def alng (w : Wl) : Pt := (w.2.1 - w.1.1, w.2.2 - w.1.2)
def crs (u v : Pt) : Rat := u.1 * v.2 - u.2 * v.1
def sgn (q : Rat) : Int := if 0 < q then 1 else if q < 0 then -1 else 0
def side (w : Wl) (s : Pt) : Int := sgn (crs (alng w) (alng (w.1, s)))
def liesOn (w : Wl) (s : Pt) : Prop := ¬ ahead s w.1 ∧ ¬ ahead w.2 s ∧ side w s = 0
instance : Decidable (liesOn w s) := by unfold liesOn; infer_instance
def spansW (w : Wl) (s : Pt) : Prop := ¬ ahead s w.1 ∧ ahead s w.2
instance : Decidable (spansW w s) := by unfold spansW; infer_instance
def sp_low : MSp := fun ds S Q _ => ∃ t b : Int, ds = [.int t, .int b] ∧ b ≠ 0 ∧ b.natAbs.log2 < 9000 ∧ Q (fr (Rat.divInt t b)) S
def sp_divisor : MSp := fun ds S Q _ => ∃ a b : Nat, ds = [.int a, .int b] ∧ Q (.int (Nat.gcd a b : Nat)) S
def two (f : Rat → Rat → Rat) : MSp := fun ds S Q _ => ∃ p q : Rat, ds = [fr p, fr q] ∧ sz p + sz q < 8000 ∧ Q (fr (f p q)) S
abbrev sp_plus : MSp := two (· + ·)
abbrev sp_less : MSp := two (· - ·)
abbrev sp_times : MSp := two (· * ·)
def sp_over : MSp := fun ds S Q _ => ∃ p q : Rat, ds = [fr p, fr q] ∧ sz p + sz q < 8000 ∧ q ≠ 0 ∧ Q (fr (p / q)) S
abbrev sp_law_less : MSp := two (· - ·)
def sp_is_less : MSp := fun ds S Q _ => ∃ p q : Rat, ds = [fr p, fr q] ∧ sz p + sz q < 8000 ∧ Q (.bl (decide (p < q))) S
def sp_is_ahead : MSp := fun ds S Q _ => ∃ a b : Pt, ds = [spD a, spD b] ∧ (∃ n, SzS n a ∧ SzS n b ∧ n < 4000) ∧ Q (.bl (decide (ahead a b))) S
def sp_along : MSp := fun ds S Q _ => ∃ w : Wl, ds = [wlD w] ∧ (∃ n, SzS n w.1 ∧ SzS n w.2 ∧ n < 4000) ∧ Q (spD (alng w)) S
def sp_crossed : MSp := fun ds S Q _ => ∃ u v : Pt, ds = [spD u, spD v] ∧ (∃ n, SzS n u ∧ SzS n v ∧ n < 1900) ∧ Q (fr (crs u v)) S
def sp_leaning : MSp := fun ds S Q _ => ∃ u v : Pt, ds = [spD u, spD v] ∧ (∃ n, SzS n u ∧ SzS n v ∧ n < 1900) ∧ Q (.int (sgn (crs u v))) S
def sp_side_of : MSp := fun ds S Q _ => ∃ (w : Wl) (s : Pt), ds = [wlD w, spD s] ∧ (∃ n, SzS n w.1 ∧ SzS n w.2 ∧ SzS n s ∧ n < 900) ∧ Q (.int (side w s)) S
def sp_lies_on : MSp := fun ds S Q _ => ∃ (w : Wl) (s : Pt), ds = [wlD w, spD s] ∧ (∃ n, SzS n w.1 ∧ SzS n w.2 ∧ SzS n s ∧ n < 900) ∧ Q (.bl (decide (liesOn w s))) S
def sp_spans : MSp := fun ds S Q _ => ∃ (w : Wl) (s : Pt), ds = [wlD w, spD s] ∧ (∃ n, SzS n w.1 ∧ SzS n w.2 ∧ SzS n s ∧ n < 4000) ∧ Q (.bl (decide (spansW w s))) S
/-! ### bits -/
theorem sz_pos (q : Rat) : 1 ≤ sz q := by unfold sz; omega
theorem sz_num (q : Rat) : q.num.natAbs < 2 ^ sz q := by
  unfold sz
  exact Nat.lt_of_lt_of_le Nat.lt_log2_self (Nat.pow_le_pow_right (by decide) (by omega))
theorem sz_den (q : Rat) : q.den < 2 ^ sz q := by
  unfold sz
  exact Nat.lt_of_lt_of_le Nat.lt_log2_self (Nat.pow_le_pow_right (by decide) (by omega))
theorem log2_lt' {a n : Nat} (h : a < 2 ^ n) (hn : 0 < n) : a.log2 < n := by
  by_cases z : a = 0
  · subst z; simpa using hn
  · exact (Nat.log2_lt z).mpr h
theorem log2_mono {a b : Nat} (h : a ≤ b) : a.log2 ≤ b.log2 := by
  have := log2_lt' (Nat.lt_of_le_of_lt h (Nat.lt_log2_self (n := b))) (by omega)
  omega
theorem sz_le {q : Rat} {n : Nat} (hn : 0 < n) (h1 : q.num.natAbs < 2 ^ n) (h2 : q.den < 2 ^ n) : sz q ≤ n := by
  have := log2_lt' h1 hn
  have := log2_lt' h2 hn
  unfold sz; omega
theorem sz_divInt {t b : Int} {n : Nat} (hn : 0 < n) (h1 : t.natAbs < 2 ^ n) (h2 : b.natAbs < 2 ^ n) : sz (Rat.divInt t b) ≤ n := by
  refine sz_le hn ?_ ?_
  · rw [Rat.num_divInt, Int.natAbs_ediv_of_dvd]
    · refine Nat.lt_of_le_of_lt (Nat.div_le_self _ _) ?_
      rw [Int.natAbs_mul]
      rcases Int.lt_trichotomy b 0 with h | h | h
      · rw [Int.sign_eq_neg_one_of_neg h]; simpa using h1
      · subst h; simp; exact Nat.two_pow_pos n
      · rw [Int.sign_eq_one_of_pos h]; simpa using h1
    · exact Int.dvd_mul_of_dvd_right (Int.gcd_dvd_right ..)
  · rw [Rat.den_divInt]
    split
    · exact Nat.one_lt_two_pow (by omega)
    · exact Nat.lt_of_le_of_lt (Nat.div_le_self _ _) h2
theorem natAbs_mul_lt {i j : Int} {a b : Nat} (h1 : i.natAbs < 2 ^ a) (h2 : j.natAbs < 2 ^ b) : (i * j).natAbs < 2 ^ (a + b) := by
  rw [Int.natAbs_mul, Nat.pow_add]
  exact Nat.mul_lt_mul'' h1 h2
theorem natAbs_add_lt {i j : Int} {a : Nat} (h1 : i.natAbs < 2 ^ a) (h2 : j.natAbs < 2 ^ a) : (i + j).natAbs < 2 ^ (a + 1) := by
  rw [Nat.pow_succ]; omega
theorem den_abs (q : Rat) : ((q.den : Nat) : Int).natAbs < 2 ^ sz q := by simpa using sz_den q
theorem sz_add (p q : Rat) : sz (p + q) ≤ sz p + sz q + 1 := by
  rw [Rat.add_def', ← Rat.divInt_ofNat]
  refine sz_divInt (by omega) (natAbs_add_lt (natAbs_mul_lt (sz_num p) (den_abs q)) ?_) ?_
  · rw [Nat.add_comm (sz p)]; exact natAbs_mul_lt (sz_num q) (den_abs p)
  · rw [Int.natCast_mul]; exact Nat.lt_of_lt_of_le (natAbs_mul_lt (den_abs p) (den_abs q)) (Nat.pow_le_pow_right (by decide) (by omega))
theorem sz_neg (p : Rat) : sz (-p) = sz p := by simp [sz]
theorem sz_sub (p q : Rat) : sz (p - q) ≤ sz p + sz q + 1 := by
  rw [Rat.sub_eq_add_neg]
  have := sz_add p (-q)
  rwa [sz_neg] at this
theorem sz_mul (p q : Rat) : sz (p * q) ≤ sz p + sz q := by
  rw [Rat.mul_def', ← Rat.divInt_ofNat]
  have := sz_pos p
  refine sz_divInt (by omega) (natAbs_mul_lt (sz_num p) (sz_num q)) ?_
  · rw [Int.natCast_mul]; exact natAbs_mul_lt (den_abs p) (den_abs q)
theorem div_eq (p q : Rat) : p / q = Rat.divInt (p.num * q.den) (p.den * q.num) := by
  rw [Rat.div_def, Rat.inv_def, ← Rat.divInt_mul_divInt, Rat.num_divInt_den]
theorem sz_div (p q : Rat) : sz (p / q) ≤ sz p + sz q := by
  rw [div_eq]
  have := sz_pos p
  exact sz_divInt (by omega) (natAbs_mul_lt (sz_num p) (den_abs q)) (natAbs_mul_lt (den_abs p) (sz_num q))
theorem ok_nd {p q : Rat} (h : sz p + sz q ≤ 100000) : IntMulOk p.num (q.den : Nat) := by
  have := sz_pos p; have := sz_pos q
  exact mulok_w (sz_num p) (den_abs q) (by omega) (by omega) (by omega)
theorem ok_dd {p q : Rat} (h : sz p + sz q ≤ 100000) : IntMulOk (p.den : Nat) (q.den : Nat) := by
  have := sz_pos p; have := sz_pos q
  exact mulok_w (den_abs p) (den_abs q) (by omega) (by omega) (by omega)
theorem den_ne (q : Rat) : ((q.den : Nat) : Int) ≠ 0 := by have := q.den_nz; omega
theorem tup_fr {q : Rat} : D.tup [.int q.num, .int (q.den : Nat)] = fr q := Eq.trans rfl rfl
theorem tup_sp {a b : Rat} : D.tup [fr a, fr b] = spD (a, b) := Eq.trans rfl rfl
theorem tup_wl {a b : Pt} : D.tup [spD a, spD b] = wlD (a, b) := Eq.trans rfl rfl
theorem tyD_fr {S : Sto} {q : Rat} : tyD S (fr q) = some "tuple" := Eq.trans rfl rfl
theorem tyD_sp {S : Sto} {s : Pt} : tyD S (spD s) = some "tuple" := Eq.trans rfl rfl
theorem tyD_wl {S : Sto} {w : Wl} : tyD S (wlD w) = some "tuple" := Eq.trans rfl rfl
theorem isN_fr {q : Rat} : isN (fr q) = false := Eq.trans rfl rfl
theorem isN_sp {s : Pt} : isN (spD s) = false := Eq.trans rfl rfl
theorem isN_wl {w : Wl} : isN (wlD w) = false := Eq.trans rfl rfl
theorem lenD_sp {S : Sto} {s : Pt} : lenD S (spD s) = some 2 := Eq.trans rfl rfl
theorem lenD_wl {S : Sto} {s : Wl} : lenD S (wlD s) = some 2 := Eq.trans rfl rfl
theorem rAdd_wl_tup {w : Wl} {ds : List D} {S : Sto} {Q : MQ} : rAdd (wlD w) (.tup ds) S Q = ((([spD w.1, spD w.2] : List D) ≠ [] ∧ 2 + ds.length ≤ sizeLine) ∧ Q (.tup (spD w.1 :: spD w.2 :: ds)) S) := Eq.trans rfl rfl
theorem tupOf_fr {q : Rat} : tupOf (fr q) = some [.int q.num, .int (q.den : Nat)] := Eq.trans rfl rfl
theorem tupOf_sp {s : Pt} : tupOf (spD s) = some [fr s.1, fr s.2] := Eq.trans rfl rfl
theorem tupOf_wl {w : Wl} : tupOf (wlD w) = some [spD w.1, spD w.2] := Eq.trans rfl rfl
theorem gTp_at {n : Nat} {gs : MGs} {d : D} {σ : MSt} {S : Sto} {Q : MSt → Sto → Prop} {E : MXQ} : gTp n gs d σ S Q E = match tupOf d with
  | some ds => ds.length = n ∧ gs ds σ S Q E
  | none => False := by cases d <;> rfl
theorem sgn_num (q : Rat) : ((if 0 < q.num then 1 else 0) - if q.num < 0 then 1 else 0 : Int) = sgn q := by
  have h1 : 0 < q.num ↔ 0 < q := by rw [Rat.lt_iff]; simp
  have h2 : q.num < 0 ↔ q < 0 := by rw [Rat.lt_iff]; simp
  unfold sgn
  simp only [← h1, ← h2]
  by_cases a : 0 < q.num
  · rw [if_pos a, if_pos a, if_neg (by omega)]; rfl
  · by_cases b : q.num < 0
    · rw [if_neg a, if_neg a, if_pos b, if_pos b]; rfl
    · rw [if_neg a, if_neg a, if_neg b, if_neg b]; rfl
/-! ### walking over fractions, spots, walls -/
theorem nz0 : (0 : Int) + ((0 : Nat) : Int) = 0 := rfl
theorem nz1 : (0 : Int) + ((1 : Nat) : Int) = 1 := rfl
theorem nz2 : (0 : Int) + ((2 : Nat) : Int) = 2 := rfl
theorem nz3 : (0 : Int) + ((3 : Nat) : Int) = 3 := rfl
theorem seqOf_tup {S : Sto} {ds : List D} : seqOf S (.tup ds) = some ds := Eq.trans rfl rfl
theorem seqOf_lst {S : Sto} {ds : List D} : seqOf S (.lst ds) = some ds := Eq.trans rfl rfl
theorem seqOf_scr {S : Sto} {ds : List D} : seqOf S (.scr ds) = some ds := Eq.trans rfl rfl
theorem seqOf_ref {S : Sto} {p : Addr} : seqOf S (.ref p) = lstOf S (.ref p) := Eq.trans rfl rfl
theorem look_non {S : Sto} : look S .non = .non := Eq.trans rfl rfl
theorem look_int {S : Sto} {i : Int} : look S (.int i) = .int i := Eq.trans rfl rfl
theorem look_bl {S : Sto} {i : Bool} : look S (.bl i) = .bl i := Eq.trans rfl rfl
theorem look_str {S : Sto} {i : Str} : look S (.str i) = .str i := Eq.trans rfl rfl
theorem look_tup {S : Sto} {ds : List D} : look S (.tup ds) = .tup ds := Eq.trans rfl rfl
theorem look_lst {S : Sto} {ds : List D} : look S (.lst ds) = .lst ds := Eq.trans rfl rfl
theorem look_scr {S : Sto} {ds : List D} : look S (.scr ds) = .scr ds := Eq.trans rfl rfl
theorem look_ref {S : Sto} {p : Addr} {ds : List D} (h : S p = some (.lst ds)) : look S (.ref p) = .lst ds := by simp only [look, h]
theorem seqOf_fr {S : Sto} {q : Rat} : seqOf S (fr q) = some [.int q.num, .int (q.den : Nat)] := Eq.trans rfl rfl
theorem seqOf_sp {S : Sto} {s : Pt} : seqOf S (spD s) = some [fr s.1, fr s.2] := Eq.trans rfl rfl
theorem seqOf_wl {S : Sto} {w : Wl} : seqOf S (wlD w) = some [spD w.1, spD w.2] := Eq.trans rfl rfl
theorem look_fr {S : Sto} {q : Rat} : look S (fr q) = fr q := Eq.trans rfl rfl
theorem look_sp {S : Sto} {s : Pt} : look S (spD s) = spD s := Eq.trans rfl rfl
theorem look_wl {S : Sto} {w : Wl} : look S (wlD w) = wlD w := Eq.trans rfl rfl
theorem plain_fr (q : Rat) : D.plain (fr q) = true := by simp [fr, D.plain, D.plains]
theorem plain_sp (s : Pt) : D.plain (spD s) = true := by simp [spD, D.plain, D.plains, plain_fr]
theorem plain_wl (w : Wl) : D.plain (wlD w) = true := by simp [wlD, D.plain, D.plains, plain_sp]
theorem dep_fr (q : Rat) : D.dep (fr q) = 1 := by simp [fr, D.dep, D.deps]
theorem dep_sp (s : Pt) : D.dep (spD s) = 2 := by simp [spD, D.dep, D.deps, dep_fr]
theorem dep_wl (w : Wl) : D.dep (wlD w) = 3 := by simp [wlD, D.dep, D.deps, dep_sp]
theorem eqOk_of {d e : D} (h1 : D.plain d = true) (h2 : D.plain e = true) (h3 : D.dep d ≤ 64) (h4 : D.dep e ≤ 64) : eqOk d e = true := by
  unfold eqOk
  split
  · rfl
  · simp [h1, h2, h3, h4]
theorem eqOk_fr {p q : Rat} : eqOk (fr p) (fr q) = true := eqOk_of (plain_fr p) (plain_fr q) (by rw [dep_fr]; decide) (by rw [dep_fr]; decide)
theorem eqOk_sp {p q : Pt} : eqOk (spD p) (spD q) = true := eqOk_of (plain_sp p) (plain_sp q) (by rw [dep_sp]; decide) (by rw [dep_sp]; decide)
theorem eqOk_wl {p q : Wl} : eqOk (wlD p) (wlD q) = true := eqOk_of (plain_wl p) (plain_wl q) (by rw [dep_wl]; decide) (by rw [dep_wl]; decide)
theorem fr_inj {p q : Rat} : fr p = fr q ↔ p = q := by
  constructor
  · intro h
    simp only [fr, D.tup.injEq, List.cons.injEq, D.int.injEq, and_true] at h
    exact Rat.ext h.1 (by omega)
  · rintro rfl; rfl
theorem deq_fr {p q : Rat} : D.deq (fr p) (fr q) = decide (p = q) := by
  simp only [fr, D.deq, D.deqs, Bool.and_true]
  rw [Bool.eq_iff_iff]
  simp only [Bool.and_eq_true, beq_iff_eq, decide_eq_true_eq]
  exact ⟨fun ⟨a, b⟩ => Rat.ext a (by omega), fun h => by subst h; exact ⟨rfl, rfl⟩⟩
theorem deq_sp {p q : Pt} : D.deq (spD p) (spD q) = decide (p = q) := by
  simp only [spD, D.deq, D.deqs, Bool.and_true, deq_fr]
  rw [Bool.eq_iff_iff]
  simp only [Bool.and_eq_true, decide_eq_true_eq]
  exact ⟨fun ⟨a, b⟩ => Prod.ext a b, fun h => by subst h; exact ⟨rfl, rfl⟩⟩
theorem deq_wl {p q : Wl} : D.deq (wlD p) (wlD q) = decide (p = q) := by
  simp only [wlD, D.deq, D.deqs, Bool.and_true, deq_sp]
  rw [Bool.eq_iff_iff]
  simp only [Bool.and_eq_true, decide_eq_true_eq]
  exact ⟨fun ⟨a, b⟩ => Prod.ext a b, fun h => by subst h; exact ⟨rfl, rfl⟩⟩
end FL
set_option maxRecDepth 100000
namespace FL
open PySem PySem.Spec L2 ML
def b_divisor : MS := (mSeq (mWhile (mTst (mOp rNeM (mVar 1) (mC (.int 0)))) (mPar 0 1 (mCons (mVar 1) (mCons (mOp rMod (mVar 0) (mVar 1)) mNil))))
  (mRet (mVar 0)))
def b_is_less : MS := (mRet (mOp aLt (mOp rMul (mOp rIxM (mVar 0) (mC (.int 0))) (mOp rIxM (mVar 1) (mC (.int 1)))) (mOp rMul (mOp rIxM (mVar 1) (mC (.int 0))) (mOp rIxM (mVar 0) (mC (.int 1))))))
def b_fraction : MS := (mSeq (mIfS (mTst (mOp rEqM (mVar 1) (mC (.int 0)))) mNever mNext)
  (mSeq (mSet 2 (mCall FL.sp_divisor (mCons (mBlt bAbs (mCons (mVar 0) mNil)) (mCons (mBlt bAbs (mCons (mVar 1) mNil)) mNil))))
  (mSeq (mIfS (mTst (mOp aLt (mVar 1) (mC (.int 0)))) (mSet 2 (mUn rNeg (mVar 2))) mNext)
  (mRet (mTup (mCons (mOp rDiv (mVar 0) (mVar 2)) (mCons (mOp rDiv (mVar 1) (mVar 2)) mNil)))))))
def b_is_ahead : MS := (mSeq (mIfS (mTst (mOp rNeM (mOp rIxM (mVar 0) (mC (.int 0))) (mOp rIxM (mVar 1) (mC (.int 0))))) (mRet (mCall FL.sp_is_less (mCons (mOp rIxM (mVar 0) (mC (.int 0))) (mCons (mOp rIxM (mVar 1) (mC (.int 0))) mNil)))) mNext)
  (mRet (mCall FL.sp_is_less (mCons (mOp rIxM (mVar 0) (mC (.int 1))) (mCons (mOp rIxM (mVar 1) (mC (.int 1))) mNil)))))
def b_plus : MS := (mRet (mCall FL.sp_low (mCons (mOp rAdd (mOp rMul (mOp rIxM (mVar 0) (mC (.int 0))) (mOp rIxM (mVar 1) (mC (.int 1)))) (mOp rMul (mOp rIxM (mVar 1) (mC (.int 0))) (mOp rIxM (mVar 0) (mC (.int 1))))) (mCons (mOp rMul (mOp rIxM (mVar 0) (mC (.int 1))) (mOp rIxM (mVar 1) (mC (.int 1)))) mNil))))
def b_less : MS := (mRet (mCall FL.sp_low (mCons (mOp rSub (mOp rMul (mOp rIxM (mVar 0) (mC (.int 0))) (mOp rIxM (mVar 1) (mC (.int 1)))) (mOp rMul (mOp rIxM (mVar 1) (mC (.int 0))) (mOp rIxM (mVar 0) (mC (.int 1))))) (mCons (mOp rMul (mOp rIxM (mVar 0) (mC (.int 1))) (mOp rIxM (mVar 1) (mC (.int 1)))) mNil))))
end FL
set_option maxRecDepth 100000
namespace FL
-- counts /tmp/scratch/dev/N_lib1.json
open PySem PySem.Spec L2 ML
local macro_rules | `(tactic| simp $c:optConfig $[$d:discharger]? only [gf] $[$l:location]?) => `(tactic| simp $c $[$d]? only [ML.q_mSeq, ML.q_mSet, ML.q_mC, ML.q_mVar, ML.q_mOp, ML.q_mUn, ML.q_mTst, ML.q_mTru, ML.q_mIfS, ML.q_mIf, ML.q_mAnd, ML.q_mOr, ML.q_mNot, ML.q_mAndV, ML.q_mOrV, ML.q_mNotV, ML.q_mRet, ML.q_mRetN, ML.q_mExpr, ML.q_mNext, ML.q_mBreak, ML.q_mCont, ML.q_mAsg, ML.q_mPar, ML.q_gNm, ML.q_gLs, ML.q_gCn, ML.q_gNl, ML.q_gSb, ML.q_mTup, ML.q_mLst, ML.q_mLstF, ML.q_mCons, ML.q_mNil, ML.q_mCall, ML.q_mBlt, ML.q_bLen, ML.q_bAbs, ML.q_bMax2, ML.q_bMin2, ML.q_bInt, ML.q_bTuple, ML.q_bList, ML.q_bListF, ML.q_bAll, ML.q_lenD, ML.q_truD, ML.q_lstOf, ML.q_ownOf, ML.q_rInt, ML.q_rInt0, ML.q_rSub, ML.q_rMul, ML.q_rDiv, ML.q_rMod, ML.q_rPow, ML.q_rAdd, ML.q_rLt, ML.q_rLe, ML.q_rGt, ML.q_rGe, ML.q_rNeg, ML.q_rIxM, ML.q_ixL, ML.q_rIsN, ML.q_rNotN, ML.q_isN, ML.q_rEqM, ML.q_rNeM, ML.q_rInM, ML.q_mIsi, ML.q_tyD, ML.q_mCut, ML.q_oNo, ML.q_oSo, ML.q_mMt, ML.q_mMt0, ML.q_mtAppend, ML.q_mtInsert, ML.q_mtPop, ML.q_mtPop0, ML.q_mtReverse, ML.q_mtClear, ML.q_mtExtend, ML.q_mtIndex, ML.q_rSetM, ML.q_setAt, ML.q_mends, ML.q_mstart, ML.q_mFor, ML.q_iL, ML.q_iT, ML.q_iR1, ML.q_iR2, ML.q_iEn, ML.q_iZp, ML.q_mChain, ML.q_mYes, ML.q_mCompF, ML.q_mComp, ML.q_wipeM, ML.q_rIsBM, ML.q_xAt, ML.put_same, ML.noX, ML.deq_int, ML.deq_bl, ML.deq_str, ML.deq_non, ML.eqOk_int, ML.eqOk_bl, ML.isTy_NoneType_int, ML.isTy_NoneType_bool, ML.isTy_NoneType_tuple, ML.isTy_NoneType_list, ML.isTy_NoneType_str, ML.isTy_bool_int, ML.isTy_bool_bool, ML.isTy_bool_tuple, ML.isTy_bool_list, ML.isTy_bool_str, ML.isTy_int_int, ML.isTy_int_bool, ML.isTy_int_tuple, ML.isTy_int_list, ML.isTy_int_str, ML.isTy_str_int, ML.isTy_str_bool, ML.isTy_str_tuple, ML.isTy_str_list, ML.isTy_str_str, ML.isTy_tuple_int, ML.isTy_tuple_bool, ML.isTy_tuple_tuple, ML.isTy_tuple_list, ML.isTy_tuple_str, ML.isTy_list_int, ML.isTy_list_bool, ML.isTy_list_tuple, ML.isTy_list_list, ML.isTy_list_str, ML.isTy_dict_int, ML.isTy_dict_bool, ML.isTy_dict_tuple, ML.isTy_dict_list, ML.isTy_dict_str, List.length_map, List.map_cons, List.map_nil, List.replicate, List.set_cons_zero, List.set_cons_succ, List.getElem?_cons_zero, List.getElem?_cons_succ, List.cons_append, List.nil_append, List.length_cons, List.length_nil, Option.bind_some, Option.map_some, ↓reduceIte, Nat.reduceAdd, Nat.reduceSub, Nat.reduceLT, Nat.reduceLeDiff, Nat.zero_add, decide_eq_true_eq, Bool.not_eq_true, ne_eq, reduceCtorEq, not_false_eq_true, true_and, and_true, Bool.false_eq_true, Bool.not_true, Bool.not_false, decide_true, decide_false, not_true_eq_false, eq_self, Bool.not_eq_eq_eq_not, if_true, if_false, FL.tup_fr, FL.tup_sp, FL.tup_wl, ML.tupOf_tup, FL.tupOf_fr, FL.tupOf_sp, FL.tupOf_wl, FL.gTp_at, FL.nz0, FL.nz1, FL.nz2, FL.nz3, FL.seqOf_tup, FL.seqOf_lst, FL.seqOf_scr, FL.seqOf_ref, FL.look_non, FL.look_int, FL.look_bl, FL.look_str, FL.look_tup, FL.look_lst, FL.look_scr, FL.seqOf_fr, FL.seqOf_sp, FL.seqOf_wl, FL.look_fr, FL.look_sp, FL.look_wl, FL.eqOk_fr, FL.eqOk_sp, FL.eqOk_wl, FL.deq_fr, FL.deq_sp, FL.deq_wl, Int.reduceToNat, Int.reducePow, Int.reduceAdd, Int.reduceSub, Int.reduceMul, Int.reduceNeg, ML.l_aLt_int, ML.l_aGt_int, ML.l_aLe_int, ML.l_aGe_int, ML.l_bMaxA_int, ML.l_bMinA_int] $[$l]?)
local macro_rules | `(tactic| simp $c:optConfig $[$d:discharger]? only [gf, $ls,*] $[$l:location]?) => `(tactic| simp $c $[$d]? only [ML.q_mSeq, ML.q_mSet, ML.q_mC, ML.q_mVar, ML.q_mOp, ML.q_mUn, ML.q_mTst, ML.q_mTru, ML.q_mIfS, ML.q_mIf, ML.q_mAnd, ML.q_mOr, ML.q_mNot, ML.q_mAndV, ML.q_mOrV, ML.q_mNotV, ML.q_mRet, ML.q_mRetN, ML.q_mExpr, ML.q_mNext, ML.q_mBreak, ML.q_mCont, ML.q_mAsg, ML.q_mPar, ML.q_gNm, ML.q_gLs, ML.q_gCn, ML.q_gNl, ML.q_gSb, ML.q_mTup, ML.q_mLst, ML.q_mLstF, ML.q_mCons, ML.q_mNil, ML.q_mCall, ML.q_mBlt, ML.q_bLen, ML.q_bAbs, ML.q_bMax2, ML.q_bMin2, ML.q_bInt, ML.q_bTuple, ML.q_bList, ML.q_bListF, ML.q_bAll, ML.q_lenD, ML.q_truD, ML.q_lstOf, ML.q_ownOf, ML.q_rInt, ML.q_rInt0, ML.q_rSub, ML.q_rMul, ML.q_rDiv, ML.q_rMod, ML.q_rPow, ML.q_rAdd, ML.q_rLt, ML.q_rLe, ML.q_rGt, ML.q_rGe, ML.q_rNeg, ML.q_rIxM, ML.q_ixL, ML.q_rIsN, ML.q_rNotN, ML.q_isN, ML.q_rEqM, ML.q_rNeM, ML.q_rInM, ML.q_mIsi, ML.q_tyD, ML.q_mCut, ML.q_oNo, ML.q_oSo, ML.q_mMt, ML.q_mMt0, ML.q_mtAppend, ML.q_mtInsert, ML.q_mtPop, ML.q_mtPop0, ML.q_mtReverse, ML.q_mtClear, ML.q_mtExtend, ML.q_mtIndex, ML.q_rSetM, ML.q_setAt, ML.q_mends, ML.q_mstart, ML.q_mFor, ML.q_iL, ML.q_iT, ML.q_iR1, ML.q_iR2, ML.q_iEn, ML.q_iZp, ML.q_mChain, ML.q_mYes, ML.q_mCompF, ML.q_mComp, ML.q_wipeM, ML.q_rIsBM, ML.q_xAt, ML.put_same, ML.noX, ML.deq_int, ML.deq_bl, ML.deq_str, ML.deq_non, ML.eqOk_int, ML.eqOk_bl, ML.isTy_NoneType_int, ML.isTy_NoneType_bool, ML.isTy_NoneType_tuple, ML.isTy_NoneType_list, ML.isTy_NoneType_str, ML.isTy_bool_int, ML.isTy_bool_bool, ML.isTy_bool_tuple, ML.isTy_bool_list, ML.isTy_bool_str, ML.isTy_int_int, ML.isTy_int_bool, ML.isTy_int_tuple, ML.isTy_int_list, ML.isTy_int_str, ML.isTy_str_int, ML.isTy_str_bool, ML.isTy_str_tuple, ML.isTy_str_list, ML.isTy_str_str, ML.isTy_tuple_int, ML.isTy_tuple_bool, ML.isTy_tuple_tuple, ML.isTy_tuple_list, ML.isTy_tuple_str, ML.isTy_list_int, ML.isTy_list_bool, ML.isTy_list_tuple, ML.isTy_list_list, ML.isTy_list_str, ML.isTy_dict_int, ML.isTy_dict_bool, ML.isTy_dict_tuple, ML.isTy_dict_list, ML.isTy_dict_str, List.length_map, List.map_cons, List.map_nil, List.replicate, List.set_cons_zero, List.set_cons_succ, List.getElem?_cons_zero, List.getElem?_cons_succ, List.cons_append, List.nil_append, List.length_cons, List.length_nil, Option.bind_some, Option.map_some, ↓reduceIte, Nat.reduceAdd, Nat.reduceSub, Nat.reduceLT, Nat.reduceLeDiff, Nat.zero_add, decide_eq_true_eq, Bool.not_eq_true, ne_eq, reduceCtorEq, not_false_eq_true, true_and, and_true, Bool.false_eq_true, Bool.not_true, Bool.not_false, decide_true, decide_false, not_true_eq_false, eq_self, Bool.not_eq_eq_eq_not, if_true, if_false, FL.tup_fr, FL.tup_sp, FL.tup_wl, ML.tupOf_tup, FL.tupOf_fr, FL.tupOf_sp, FL.tupOf_wl, FL.gTp_at, FL.nz0, FL.nz1, FL.nz2, FL.nz3, FL.seqOf_tup, FL.seqOf_lst, FL.seqOf_scr, FL.seqOf_ref, FL.look_non, FL.look_int, FL.look_bl, FL.look_str, FL.look_tup, FL.look_lst, FL.look_scr, FL.seqOf_fr, FL.seqOf_sp, FL.seqOf_wl, FL.look_fr, FL.look_sp, FL.look_wl, FL.eqOk_fr, FL.eqOk_sp, FL.eqOk_wl, FL.deq_fr, FL.deq_sp, FL.deq_wl, Int.reduceToNat, Int.reducePow, Int.reduceAdd, Int.reduceSub, Int.reduceMul, Int.reduceNeg, ML.l_aLt_int, ML.l_aGt_int, ML.l_aLe_int, ML.l_aGe_int, ML.l_bMaxA_int, ML.l_bMinA_int, $ls,*] $[$l]?)
theorem l_low : ∀ ds S Q E, FL.sp_low ds S Q E → ds.length = 2 := by rintro _ _ _ _ ⟨_, _, rfl, _⟩; rfl
theorem l_divisor : ∀ ds S Q E, FL.sp_divisor ds S Q E → ds.length = 2 := by rintro _ _ _ _ ⟨_, _, rfl, _⟩; rfl
theorem l_fraction : ∀ ds S Q E, sp_low ds S Q E → ds.length = 2 := l_low
theorem l_two {f : Rat → Rat → Rat} : ∀ ds S Q E, two f ds S Q E → ds.length = 2 := by rintro _ _ _ _ ⟨p, c, rfl, _⟩; rfl
theorem l_plus : ∀ ds S Q E, sp_plus ds S Q E → ds.length = 2 := l_two
theorem l_less : ∀ ds S Q E, sp_less ds S Q E → ds.length = 2 := l_two
theorem l_is_less : ∀ ds S Q E, FL.sp_is_less ds S Q E → ds.length = 2 := by rintro _ _ _ _ ⟨_, _, rfl, _⟩; rfl
theorem l_is_ahead : ∀ ds S Q E, FL.sp_is_ahead ds S Q E → ds.length = 2 := by rintro _ _ _ _ ⟨_, _, rfl, _⟩; rfl
theorem gcd_step {i j : Nat} (h : ¬ j = 0) : Nat.gcd i j = Nat.gcd j (i % j) := by rw [Nat.gcd_comm, Nat.gcd_rec, Nat.gcd_comm]
theorem r_divisor : ∀ ds S Q E, FL.sp_divisor ds S Q E → b_divisor (mends Q E) (mstart 0 ds) S := by
  rintro _ S Q E ⟨a, b, rfl, q⟩
  unfold b_divisor
  simp only [ML.q_mstart, ML.q_mends, List.map_cons, List.map_nil, List.replicate, List.cons_append, List.nil_append]
  simp only [gf]
  refine ⟨fun k σ S' => ∃ i j : Nat, σ = [some (.int i), some (.int j)] ∧ k = j ∧ Nat.gcd i j = Nat.gcd a b ∧ S' = S, ⟨b, a, b, rfl, rfl, rfl, rfl⟩, ?_⟩
  rintro k σ S' ⟨i, j, rfl, rfl, hg, rfl⟩
  simp only [gf]
  by_cases z : k = 0
  · subst z
    rw [if_neg (by decide)]
    rw [Nat.gcd_zero_right] at hg
    rw [hg]; exact q
  · rw [if_pos (by simpa using z)]
    refine ⟨by omega, i % k, Nat.mod_lt _ (by omega), k, i % k, ?_, rfl, by rw [← gcd_step z]; exact hg⟩
    rw [fmod_pos (by omega)]; simp
theorem low_val {t b : Int} (hb : b ≠ 0) {g : Int} (h : g = if b < 0 then -((t.natAbs.gcd b.natAbs : Nat) : Int) else ((t.natAbs.gcd b.natAbs : Nat) : Int)) : t.fdiv g = (Rat.divInt t b).num ∧ b.fdiv g = ((Rat.divInt t b).den : Nat) := by
  have g0 : (0 : Int) < (t.natAbs.gcd b.natAbs : Nat) := by
    have := Nat.gcd_pos_of_pos_right t.natAbs (n := b.natAbs) (by omega)
    omega
  obtain ⟨k, hk⟩ : ((t.natAbs.gcd b.natAbs : Nat) : Int) ∣ t := Int.gcd_dvd_left t b
  obtain ⟨m, hm⟩ : ((t.natAbs.gcd b.natAbs : Nat) : Int) ∣ b := Int.gcd_dvd_right t b
  have e0 : b.gcd t = t.natAbs.gcd b.natAbs := Nat.gcd_comm ..
  rw [Rat.num_divInt, Rat.den_divInt, if_neg hb, e0]
  generalize hn : t.natAbs.gcd b.natAbs = n at *
  have eb : ((b.natAbs / n : Nat) : Int) = (b.natAbs : Int) / n := by simp
  rw [eb]
  have ne : (n : Int) ≠ 0 := by omega
  split at h
  · next hs =>
    subst h
    rw [Int.sign_eq_neg_one_of_neg hs, Int.ofNat_natAbs_of_nonpos (by omega)]
    clear hn e0 eb
    subst hk; subst hm
    have e1 : (n : Int) * k = (-(n : Int)) * (-k) := (Int.neg_mul_neg _ _).symm
    have e2 : (n : Int) * m = (-(n : Int)) * (-m) := (Int.neg_mul_neg _ _).symm
    have e3 : -1 * ((n : Int) * k) = n * (-k) := by rw [Int.mul_neg, Int.neg_one_mul]
    have e4 : -((n : Int) * m) = n * (-m) := by rw [Int.mul_neg]
    rw [e3, e4, Int.mul_ediv_cancel_left _ ne, Int.mul_ediv_cancel_left _ ne, e1, e2, Int.mul_fdiv_cancel_left _ (by omega), Int.mul_fdiv_cancel_left _ (by omega)]
    exact ⟨rfl, rfl⟩
  · next hs =>
    subst h
    rw [Int.sign_eq_one_of_pos (by omega), Int.natAbs_of_nonneg (by omega)]
    clear hn e0 eb
    subst hk; subst hm
    rw [Int.one_mul, Int.mul_ediv_cancel_left _ ne, Int.mul_ediv_cancel_left _ ne, Int.mul_fdiv_cancel_left _ (by omega), Int.mul_fdiv_cancel_left _ (by omega)]
    exact ⟨rfl, rfl⟩
theorem low_end {t b : Int} (hb : b ≠ 0) (hz : b.natAbs.log2 < 9000) {g : Int} (h : g = if b < 0 then -((t.natAbs.gcd b.natAbs : Nat) : Int) else ((t.natAbs.gcd b.natAbs : Nat) : Int)) {S : Sto} {Q : MQ} (q : Q (fr (Rat.divInt t b)) S) :
    DivOk t g ∧ DivOk b g ∧ 2 ≤ sizeLine ∧ Q (.tup [.int (t.fdiv g), .int (b.fdiv g)]) S := by
  have g0 : (0 : Int) < (t.natAbs.gcd b.natAbs : Nat) := by
    have := Nat.gcd_pos_of_pos_right t.natAbs (n := b.natAbs) (by omega)
    omega
  have gl := log2_mono (Nat.gcd_le_right t.natAbs (n := b.natAbs) (by omega))
  have ne : g ≠ 0 := by split at h <;> omega
  have gz : g.natAbs.log2 < 9000 := by
    have : g.natAbs = t.natAbs.gcd b.natAbs := by split at h <;> omega
    rw [this]; omega
  refine ⟨⟨ne, PyProof.noPylong_of_log2 gz⟩, ⟨ne, PyProof.noPylong_of_log2 gz⟩, line_le (by decide), ?_⟩
  obtain ⟨e1, e2⟩ := low_val hb h
  rw [e1, e2]; exact q
theorem abs_eq (t : Int) : (if t < 0 then -t else t) = (t.natAbs : Int) := by split <;> omega
theorem r_fraction : ∀ ds S Q E, FL.sp_low ds S Q E → b_fraction (mends Q E) (mstart 1 ds) S := by
  rintro _ S Q E ⟨t, b, rfl, hb, hz, q⟩
  unfold b_fraction
  simp only [ML.q_mstart, ML.q_mends, List.map_cons, List.map_nil, List.replicate, List.cons_append, List.nil_append]
  simp only [gf, abs_eq, mNever]
  rw [if_neg (by simpa using hb)]
  refine ⟨t.natAbs, b.natAbs, rfl, ?_⟩
  simp only [gf]
  split
  · next h => exact low_end hb hz (by rw [if_pos h]) q
  · next h => exact low_end hb hz (by rw [if_neg h]) q
theorem r_is_less : ∀ ds S Q E, FL.sp_is_less ds S Q E → b_is_less (mends Q E) (mstart 0 ds) S := by
  rintro _ S Q E ⟨p, q, rfl, hz, k⟩
  unfold b_is_less
  simp only [ML.q_mstart, ML.q_mends, List.map_cons, List.map_nil, List.replicate, List.cons_append, List.nil_append]
  simp only [gf]
  refine ⟨ok_nd (by omega), ok_nd (by omega), ?_⟩
  have e : (p.num * q.den < q.num * p.den) = (p < q) := propext (Rat.lt_iff p q).symm
  simp only [e]; exact k
theorem log2_dd {p q : Rat} (h : sz p + sz q < 8000) : ((p.den : Int) * (q.den : Int)).natAbs.log2 < 9000 := by
  have := sz_pos p
  have := log2_lt' (natAbs_mul_lt (den_abs p) (den_abs q)) (by omega)
  omega
theorem dd_ne (p q : Rat) : (p.den : Int) * (q.den : Int) ≠ 0 := Int.mul_ne_zero (den_ne p) (den_ne q)
theorem r_plus : ∀ ds S Q E, FL.sp_plus ds S Q E → b_plus (mends Q E) (mstart 0 ds) S := by
  rintro _ S Q E ⟨p, q, rfl, hz, k⟩
  unfold b_plus
  simp only [ML.q_mstart, ML.q_mends, List.map_cons, List.map_nil, List.replicate, List.cons_append, List.nil_append]
  simp only [gf]
  refine ⟨ok_nd (by omega), ok_nd (by omega), ok_dd (by omega), _, _, rfl, dd_ne p q, log2_dd hz, ?_⟩
  rw [← Int.natCast_mul, Rat.divInt_ofNat, ← Rat.add_def']; exact k
theorem r_less : ∀ ds S Q E, FL.sp_less ds S Q E → b_less (mends Q E) (mstart 0 ds) S := by
  rintro _ S Q E ⟨p, q, rfl, hz, k⟩
  unfold b_less
  simp only [ML.q_mstart, ML.q_mends, List.map_cons, List.map_nil, List.replicate, List.cons_append, List.nil_append]
  simp only [gf]
  refine ⟨ok_nd (by omega), ok_nd (by omega), ok_dd (by omega), _, _, rfl, dd_ne p q, log2_dd hz, ?_⟩
  rw [← Int.natCast_mul, Rat.divInt_ofNat, ← Rat.sub_def']; exact k
theorem r_is_ahead : ∀ ds S Q E, FL.sp_is_ahead ds S Q E → b_is_ahead (mends Q E) (mstart 0 ds) S := by
  rintro _ S Q E ⟨a, b, rfl, ⟨n, ⟨h1, h2⟩, ⟨h3, h4⟩, hn⟩, k⟩
  unfold b_is_ahead
  simp only [ML.q_mstart, ML.q_mends, List.map_cons, List.map_nil, List.replicate, List.cons_append, List.nil_append]
  simp only [gf]
  by_cases z : a.1 = b.1
  · rw [if_neg (by simpa using z)]
    refine ⟨_, _, rfl, by omega, ?_⟩
    have e : (a.2 < b.2) = ahead a b := by
      unfold ahead; rw [z]; simp [Rat.lt_irrefl]
    simp only [e]; exact k
  · rw [if_pos (by simpa using z)]
    refine ⟨_, _, rfl, by omega, ?_⟩
    have e : (a.1 < b.1) = ahead a b := by
      unfold ahead; simp [z]
    simp only [e]; exact k
end FL
set_option maxRecDepth 100000
namespace FL
open PySem PySem.Spec L2 ML
/-! ### sizes, bounds from below -/
theorem z_add {p q : Rat} {a b : Nat} (h1 : sz p ≤ a) (h2 : sz q ≤ b) : sz (p + q) ≤ a + b + 1 := by have := sz_add p q; omega
theorem z_sub {p q : Rat} {a b : Nat} (h1 : sz p ≤ a) (h2 : sz q ≤ b) : sz (p - q) ≤ a + b + 1 := by have := sz_sub p q; omega
theorem z_mul {p q : Rat} {a b : Nat} (h1 : sz p ≤ a) (h2 : sz q ≤ b) : sz (p * q) ≤ a + b := by have := sz_mul p q; omega
theorem z_div {p q : Rat} {a b : Nat} (h1 : sz p ≤ a) (h2 : sz q ≤ b) : sz (p / q) ≤ a + b := by have := sz_div p q; omega
theorem z_neg {p : Rat} {a : Nat} (h1 : sz p ≤ a) : sz (-p) ≤ a := by rwa [sz_neg]
theorem z_a1 {w : Wl} {a b : Nat} (h1 : sz w.2.1 ≤ a) (h2 : sz w.1.1 ≤ b) : sz (alng w).1 ≤ a + b + 1 := z_sub h1 h2
theorem z_a2 {w : Wl} {a b : Nat} (h1 : sz w.2.2 ≤ a) (h2 : sz w.1.2 ≤ b) : sz (alng w).2 ≤ a + b + 1 := z_sub h1 h2
theorem z_crs {u v : Pt} {a b c d : Nat} (h1 : sz u.1 ≤ a) (h2 : sz v.2 ≤ b) (h3 : sz u.2 ≤ c) (h4 : sz v.1 ≤ d) : sz (crs u v) ≤ a + b + (c + d) + 1 := z_sub (z_mul h1 h2) (z_mul h3 h4)
theorem SzS.l {n : Nat} {s : Pt} (h : SzS n s) : sz s.1 ≤ n := h.1
theorem SzS.r {n : Nat} {s : Pt} (h : SzS n s) : sz s.2 ≤ n := h.2
theorem SzS.mk {n : Nat} {s : Pt} (h : sz s.1 ≤ n) (h2 : sz s.2 ≤ n) : SzS n s := ⟨h, h2⟩
theorem SzS.mono {m n : Nat} {s : Pt} (h : SzS m s) (hn : m ≤ n) : SzS n s := ⟨Nat.le_trans h.1 hn, Nat.le_trans h.2 hn⟩
theorem z_int {i : Int} {n : Nat} (h : i.natAbs < 2 ^ n) (h0 : 0 < n) : sz (i : Rat) ≤ n := sz_le h0 (by rwa [Rat.num_intCast]) (by rw [Rat.den_intCast]; exact Nat.one_lt_two_pow (by omega))
/-- bounds, found by instances -/
class BD (q : Rat) (n : outParam Nat) : Prop where
  le : sz q ≤ n
class BP (s : Pt) (n : outParam Nat) : Prop where
  l : sz s.1 ≤ n
  r : sz s.2 ≤ n
class BW (w : Wl) (n : outParam Nat) : Prop where
  f : BP w.1 n
  s : BP w.2 n
section
variable {p q : Rat} {s u v : Pt} {w : Wl} {a b n : Nat}
instance bd_add [h1 : BD p a] [h2 : BD q b] : BD (p + q) (a + b + 1) := ⟨z_add h1.le h2.le⟩
instance bd_sub [h1 : BD p a] [h2 : BD q b] : BD (p - q) (a + b + 1) := ⟨z_sub h1.le h2.le⟩
instance bd_mul [h1 : BD p a] [h2 : BD q b] : BD (p * q) (a + b) := ⟨z_mul h1.le h2.le⟩
instance bd_div [h1 : BD p a] [h2 : BD q b] : BD (p / q) (a + b) := ⟨z_div h1.le h2.le⟩
instance bd_neg [h1 : BD p a] : BD (-p) a := ⟨z_neg h1.le⟩
instance bd_l [h : BP s n] : BD s.1 n := ⟨h.l⟩
instance bd_r [h : BP s n] : BD s.2 n := ⟨h.r⟩
instance bp_f [h : BW w n] : BP w.1 n := h.f
instance bp_s [h : BW w n] : BP w.2 n := h.s
instance bd_0 : BD 0 1 := ⟨by decide⟩
instance bd_1 : BD 1 1 := ⟨by decide⟩
instance bp_mk [h1 : BD p a] [h2 : BD q b] : BP (p, q) (max a b) := ⟨by have := h1.le; show sz p ≤ _; omega, by have := h2.le; show sz q ≤ _; omega⟩
instance bw_mk [h1 : BP u a] [h2 : BP v b] : BW (u, v) (max a b) := ⟨⟨by have := h1.l; show sz u.1 ≤ _; omega, by have := h1.r; show sz u.2 ≤ _; omega⟩, ⟨by have := h2.l; show sz v.1 ≤ _; omega, by have := h2.r; show sz v.2 ≤ _; omega⟩⟩
instance bp_alng [h : BW w n] : BP (alng w) (n + n + 1) := ⟨z_a1 h.s.l h.f.l, z_a2 h.s.r h.f.r⟩
instance bd_crs [h1 : BP u a] [h2 : BP v b] : BD (crs u v) (a + b + (a + b) + 1) := ⟨z_crs h1.l h2.r h1.r h2.l⟩
theorem BD.mono [h : BD q a] (hn : a ≤ n) : BD q n := ⟨Nat.le_trans h.le hn⟩
theorem BP.mono [h : BP s a] (hn : a ≤ n) : BP s n := ⟨Nat.le_trans h.l hn, Nat.le_trans h.r hn⟩
theorem BW.mono [h : BW w a] (hn : a ≤ n) : BW w n := ⟨BP.mono hn, BP.mono hn⟩
theorem BP.S [h : BP s a] (hn : a ≤ n) : SzS n s := ⟨Nat.le_trans h.l hn, Nat.le_trans h.r hn⟩
end
/-! ### calls whose answer is one value -/
theorem spD_inj {a b : Pt} (h : spD a = spD b) : a = b := by
  have := deq_sp (p := a) (q := b)
  rw [h] at this
  have r := deq_sp (p := b) (q := b)
  rw [this] at r
  simpa using r
theorem wlD_inj {a b : Wl} (h : wlD a = wlD b) : a = b := by
  have := deq_wl (p := a) (q := b)
  rw [h] at this
  have r := deq_wl (p := b) (q := b)
  rw [this] at r
  simpa using r
section
variable {S : Sto} {Q : Hold MQ} {E : Hold MXQ} {p q : Rat} {a b u v s : Pt} {w : Wl} {m n k : Nat}
theorem c_two {f : Rat → Rat → Rat} [h1 : BD p m] [h2 : BD q n] (h : m + n < 8000) : @CallP (two f) [fr p, fr q] S Q E = Q.v (fr (f p q)) S := by
  have := h1.le
  have := h2.le
  apply propext
  constructor
  · rintro ⟨p', q', e, _, k⟩
    simp only [List.cons.injEq, and_true, fr_inj] at e
    rw [e.1, e.2]; exact k
  · intro k; exact ⟨p, q, rfl, by omega, k⟩
theorem c_plus [h1 : BD p m] [h2 : BD q n] (h : m + n < 8000) : @CallP sp_plus [fr p, fr q] S Q E = Q.v (fr (p + q)) S := c_two h
theorem c_less [h1 : BD p m] [h2 : BD q n] (h : m + n < 8000) : @CallP sp_less [fr p, fr q] S Q E = Q.v (fr (p - q)) S := c_two h
theorem c_law_less [h1 : BD p m] [h2 : BD q n] (h : m + n < 8000) : @CallP sp_law_less [fr p, fr q] S Q E = Q.v (fr (p - q)) S := c_two h
theorem c_times [h1 : BD p m] [h2 : BD q n] (h : m + n < 8000) : @CallP sp_times [fr p, fr q] S Q E = Q.v (fr (p * q)) S := c_two h
theorem c_over [h1 : BD p m] [h2 : BD q n] (h : m + n < 8000) (h3 : q ≠ 0) : @CallP sp_over [fr p, fr q] S Q E = Q.v (fr (p / q)) S := by
  have := h1.le
  have := h2.le
  apply propext
  constructor
  · rintro ⟨p', q', e, _, _, k⟩
    simp only [List.cons.injEq, and_true, fr_inj] at e
    rw [e.1, e.2]; exact k
  · intro k; exact ⟨p, q, rfl, by omega, h3, k⟩
theorem c_is_less [h1 : BD p m] [h2 : BD q n] (h : m + n < 8000) : @CallP sp_is_less [fr p, fr q] S Q E = Q.v (.bl (decide (p < q))) S := by
  have := h1.le
  have := h2.le
  apply propext
  constructor
  · rintro ⟨p', q', e, _, k⟩
    simp only [List.cons.injEq, and_true, fr_inj] at e
    rw [e.1, e.2]; exact k
  · intro k; exact ⟨p, q, rfl, by omega, k⟩
theorem c_is_ahead [h1 : BP a m] [h2 : BP b n] (h : m + n < 4000) : @CallP sp_is_ahead [spD a, spD b] S Q E = Q.v (.bl (decide (ahead a b))) S := by
  apply propext
  constructor
  · rintro ⟨p', q', e, _, k⟩
    simp only [List.cons.injEq, and_true] at e
    cases spD_inj e.1; cases spD_inj e.2; exact k
  · intro k; exact ⟨a, b, rfl, ⟨m + n, BP.S (by omega), BP.S (by omega), by omega⟩, k⟩
theorem c_along [h1 : BW w m] (h : m < 4000) : @CallP sp_along [wlD w] S Q E = Q.v (spD (alng w)) S := by
  apply propext
  constructor
  · rintro ⟨w', e, _, k⟩
    simp only [List.cons.injEq, and_true] at e
    cases wlD_inj e; exact k
  · intro k; exact ⟨w, rfl, ⟨m, BP.S (by omega), BP.S (by omega), by omega⟩, k⟩
theorem c_crossed [h1 : BP u m] [h2 : BP v n] (h : m + n < 1900) : @CallP sp_crossed [spD u, spD v] S Q E = Q.v (fr (crs u v)) S := by
  apply propext
  constructor
  · rintro ⟨p', q', e, _, k⟩
    simp only [List.cons.injEq, and_true] at e
    cases spD_inj e.1; cases spD_inj e.2; exact k
  · intro k; exact ⟨u, v, rfl, ⟨m + n, BP.S (by omega), BP.S (by omega), by omega⟩, k⟩
theorem c_leaning [h1 : BP u m] [h2 : BP v n] (h : m + n < 1900) : @CallP sp_leaning [spD u, spD v] S Q E = Q.v (.int (sgn (crs u v))) S := by
  apply propext
  constructor
  · rintro ⟨p', q', e, _, k⟩
    simp only [List.cons.injEq, and_true] at e
    cases spD_inj e.1; cases spD_inj e.2; exact k
  · intro k; exact ⟨u, v, rfl, ⟨m + n, BP.S (by omega), BP.S (by omega), by omega⟩, k⟩
theorem c_side_of [h1 : BW w m] [h2 : BP s n] (h : m + n < 900) : @CallP sp_side_of [wlD w, spD s] S Q E = Q.v (.int (side w s)) S := by
  apply propext
  constructor
  · rintro ⟨p', q', e, _, k⟩
    simp only [List.cons.injEq, and_true] at e
    cases wlD_inj e.1; cases spD_inj e.2; exact k
  · intro k; exact ⟨w, s, rfl, ⟨m + n, BP.S (by omega), BP.S (by omega), BP.S (by omega), by omega⟩, k⟩
theorem c_lies_on [h1 : BW w m] [h2 : BP s n] (h : m + n < 900) : @CallP sp_lies_on [wlD w, spD s] S Q E = Q.v (.bl (decide (liesOn w s))) S := by
  apply propext
  constructor
  · rintro ⟨p', q', e, _, k⟩
    simp only [List.cons.injEq, and_true] at e
    cases wlD_inj e.1; cases spD_inj e.2; exact k
  · intro k; exact ⟨w, s, rfl, ⟨m + n, BP.S (by omega), BP.S (by omega), BP.S (by omega), by omega⟩, k⟩
theorem c_spans [h1 : BW w m] [h2 : BP s n] (h : m + n < 4000) : @CallP sp_spans [wlD w, spD s] S Q E = Q.v (.bl (decide (spansW w s))) S := by
  apply propext
  constructor
  · rintro ⟨p', q', e, _, k⟩
    simp only [List.cons.injEq, and_true] at e
    cases wlD_inj e.1; cases spD_inj e.2; exact k
  · intro k; exact ⟨w, s, rfl, ⟨m + n, BP.S (by omega), BP.S (by omega), BP.S (by omega), by omega⟩, k⟩
theorem sqI_sp {S : Sto} {s : Pt} : sqI S (spD s) = some ([fr s.1, fr s.2], fun _ => True) := Eq.trans rfl rfl
theorem sqI_wl {S : Sto} {w : Wl} : sqI S (wlD w) = some ([spD w.1, spD w.2], fun _ => True) := Eq.trans rfl rfl
/-! ### the row, beside other lists -/
/-! ### calls that draw -/
end
end FL
namespace FL
open PySem PySem.Spec L2 ML
/-! ### units: spots and walls of whole numbers, told as spots by a length and where it begins -/
structure Sc where
  t : Int
  b : Int
  x : Int
  y : Int
def scD (s : Sc) : D := .tup [.int s.t, .int s.b, .int s.x, .int s.y]
structure ScOk (s : Sc) : Prop where
  t1 : 1 ≤ s.t
  t2 : s.t ≤ 2 ^ 70
  b1 : 1 ≤ s.b
  b2 : s.b ≤ 2 ^ 90
  x1 : -(2 ^ 100) ≤ s.x
  x2 : s.x ≤ 2 ^ 100
  y1 : -(2 ^ 100) ≤ s.y
  y2 : s.y ≤ 2 ^ 100
def ofU (u : U2) : Pt := ((u.1 : Rat), (u.2 : Rat))
def ofW (w : UW) : Wl := (ofU w.1, ofU w.2)
/-- a spot in units, as the scale tells it -/
def af (s : Sc) (p : Pt) : Pt := ((p.1 * s.t + s.x) / s.b, (p.2 * s.t + s.y) / s.b)
def afw (s : Sc) (w : Wl) : Wl := (af s w.1, af s w.2)
/-- told by units below which a number stands -/
structure Told where
  x : Int
  y : Int
  n : Int
def toD (t : Told) : D := .tup [.int t.x, .int t.y, .int t.n]
structure UOk (m : Int) (u : U2) : Prop where
  a1 : -m ≤ u.1
  a2 : u.1 ≤ m
  b1 : -m ≤ u.2
  b2 : u.2 ≤ m
structure WOk (m : Int) (w : UW) : Prop where
  f : UOk m w.1
  s : UOk m w.2
def uturn (a b c : U2) : Int := side (ofU a, ofU b) (ofU c)
def uon (w : UW) (s : U2) : Prop := ule w.1 s ∧ ule s w.2 ∧ uturn w.1 w.2 s = 0
instance : Decidable (uon w s) := by unfold uon; infer_instance
/-- whether two walls in units meet at ends alone, as the laws look at it -/
def ufair (a b : UW) : Bool :=
  !decide (a = b) && (!(!(decide (a.1 = b.1) || decide (a.2 = b.1)) && decide (uon a b.1)) && (!(!(decide (a.1 = b.2) || decide (a.2 = b.2)) && decide (uon a b.2)) &&
  (!(!(decide (b.1 = a.1) || decide (b.2 = a.1)) && decide (uon b a.1)) && (!(!(decide (b.1 = a.2) || decide (b.2 = a.2)) && decide (uon b a.2)) &&
  (decide (0 ≤ uturn a.1 a.2 b.1 * uturn a.1 a.2 b.2) || decide (0 ≤ uturn b.1 b.2 a.1 * uturn b.1 b.2 a.2))))))
/-- walls drawn: rising, on the grid, unlike, meeting at ends alone -/
structure Drawn (most : Nat) (size : Int) (ws : List UW) : Prop where
  len : ws.length ≤ most
  up : ∀ w ∈ ws, ult w.1 w.2
  lo : ∀ w ∈ ws, -size ≤ w.1.1 ∧ w.1.1 < size ∧ -size ≤ w.1.2 ∧ w.1.2 < size ∧ -size ≤ w.2.1 ∧ w.2.1 < size ∧ -size ≤ w.2.2 ∧ w.2.2 < size
  fair : ws.Pairwise fun a b => ufair b a = true
/-! ### lists of walls in units -/
theorem deps_uw (ws : List UW) : D.deps (ws.map uwD) ≤ 2 := deps_map fun w => by rw [dep_uw]; exact Nat.le_refl _
theorem plains_uw (ws : List UW) : D.plains (ws.map uwD) = true := plains_map plain_uw
theorem eqOk_luw0 {ws : List UW} : eqOk (.lst (ws.map uwD)) (.lst []) = true := eqOk_of' (plains_uw ws) rfl (by have := deps_uw ws; rw [D.dep]; omega) (by decide)
theorem deq_luw0 {ws : List UW} : D.deq (.lst (ws.map uwD)) (.lst []) = ws.isEmpty := by cases ws <;> rfl
theorem ixL_map {α : Type} {xs : List α} {f : α → D} {r : Int} (h0 : 0 ≤ r) (h1 : r < xs.length) : ∃ a ∈ xs, ixL (xs.map f) r = some (f a) := by
  obtain ⟨k, rfl⟩ := Int.eq_ofNat_of_zero_le h0
  have hk : k < xs.length := by omega
  refine ⟨xs[k], List.getElem_mem hk, ?_⟩
  rw [ixL_cast, List.getElem?_map, List.getElem?_eq_getElem hk]; rfl
theorem sgn_bd (q : Rat) : -1 ≤ sgn q ∧ sgn q ≤ 1 := by
  unfold sgn
  split
  · decide
  · split <;> decide
theorem uturn_bd (a b c : U2) : -1 ≤ uturn a b c ∧ uturn a b c ≤ 1 := sgn_bd _
theorem ult_irrefl (a : U2) : ¬ ult a a := by unfold ult; omega
theorem ult_asymm {a b : U2} (h : ult a b) : ¬ ult b a := by unfold ult at *; omega
theorem ult_tri {a b : U2} (h : a ≠ b) : ult a b ∨ ult b a := by
  unfold ult
  have : ¬ (a.1 = b.1 ∧ a.2 = b.2) := fun z => h (Prod.ext z.1 z.2)
  omega
end FL
set_option maxRecDepth 100000
namespace FL
open PySem PySem.Spec L2 ML
end FL
set_option maxRecDepth 100000
namespace FL
-- counts /tmp/scratch/dev/N_lib2.json
open PySem PySem.Spec L2 ML
local macro_rules | `(tactic| simp $c:optConfig $[$d:discharger]? only [gg] $[$l:location]?) => `(tactic| simp $c $[$d]? only [↓ML.q_mSeq, ↓ML.q_mC, ↓ML.q_mOp, ↓ML.q_mUn, ↓ML.q_mTst, ↓ML.q_mNot, ↓ML.q_mNotV, ↓ML.q_mRet, ↓ML.q_mRetN, ↓ML.q_mExpr, ↓ML.q_mNext, ↓ML.q_mBreak, ↓ML.q_mCont, ↓ML.q_mAsg, ↓ML.q_gSb, ↓ML.q_mTup, ↓ML.q_mLst, ↓ML.q_mLstF, ↓ML.q_mCons, ↓ML.q_mNil, ↓ML.q_mBlt, ↓ML.q_rEqM, ↓ML.q_rNeM, ↓ML.q_iR1, ↓ML.q_iR2, ↓ML.q_iEn, ↓ML.q_iZp, ↓ML.q_mMt, ↓ML.q_mMt0, ↓ML.q_mYes, ↓ML.q_mCut, ↓ML.q_oNo, ↓ML.q_oSo, ↓ML.l_mCall, ↓ML.l_mAnd, ↓ML.l_mOr, ↓ML.l_mAndV, ↓ML.l_mOrV, ↓ML.l_mIf, ↓ML.l_mIfS, ↓ML.l_mChain, ↓ML.l_mVar, ↓ML.l_mFor, ↓ML.l_mWhile, ↓ML.l_mComp, ↓ML.l_mCompF, ↓ML.l_optP, ↓ML.l_Go, ↓ML.Hold_v, ↓ML.l_mSet, ↓ML.l_gNm, ↓ML.l_mPar, ↓ML.l_rIxM, ↓ML.l_rSetM, ↓ML.l_rInt, ↓ML.l_rInt0, ↓ML.l_rAdd_int, ↓ML.l_rAdd_str, ↓ML.l_rAdd_tup, ↓ML.l_rNeg, ↓ML.l_rIsN, ↓ML.l_rNotN, ↓ML.l_rIsBM, ↓ML.l_mTru, ↓ML.l_bLen, ↓ML.l_bAbs, ↓ML.l_bMax2, ↓ML.l_bMin2, ↓ML.l_bInt_i, ↓ML.l_bInt_b, ↓ML.l_bTuple, ↓ML.l_bListF, ↓ML.l_bList, ↓ML.l_mIsi, ↓ML.l_iL, ↓ML.l_iT, ↓ML.l_gTp, ↓ML.l_gLs, ↓ML.l_gCn, ↓ML.l_gNl, ↓ML.l_mtAppend, ML.Hold_v, ML.l_mVar_z, ML.l_mVar_s, ML.OptP_some, ML.Go_eq, ML.IteP_true, ML.IteP_false, ML.lstOf_ref', ML.lstOf_lst, ML.lstOf_scr, ML.lstOf_tup, ML.ownOf_ref', ML.ownOf_lst, ML.seqOf_tup', ML.seqOf_lst', ML.seqOf_scr', ML.seqOf_ref', ML.olP_lst, ML.tupOf_tup, ML.ixL_lit, ML.ixL_cast, ML.ixL_m1, ML.setAt_lit, ML.setAt_cast, ML.truD_bl, ML.truD_int, ML.truD_tup, ML.truD_lst, ML.truD_scr, ML.truD_non, ML.lenD_tup, ML.lenD_lst, ML.lenD_scr, ML.lenD_ref, ML.tyD_non, ML.tyD_bl, ML.tyD_int, ML.tyD_str, ML.tyD_tup, ML.tyD_lst, ML.szl, ML.szlt, ML.cpow_lit, ML.mulok_rl, ML.mulok_ll, ML.divok_l, ML.put_same, ML.put_put, ML.q_wipeM, ML.deq_int, ML.deq_bl, ML.deq_str, ML.deq_non, ML.eqOk_int, ML.eqOk_bl, ML.isTy_NoneType_int, ML.isTy_NoneType_bool, ML.isTy_NoneType_tuple, ML.isTy_NoneType_list, ML.isTy_NoneType_str, ML.isTy_bool_int, ML.isTy_bool_bool, ML.isTy_bool_tuple, ML.isTy_bool_list, ML.isTy_bool_str, ML.isTy_int_int, ML.isTy_int_bool, ML.isTy_int_tuple, ML.isTy_int_list, ML.isTy_int_str, ML.isTy_str_int, ML.isTy_str_bool, ML.isTy_str_tuple, ML.isTy_str_list, ML.isTy_str_str, ML.isTy_tuple_int, ML.isTy_tuple_bool, ML.isTy_tuple_tuple, ML.isTy_tuple_list, ML.isTy_tuple_str, ML.isTy_list_int, ML.isTy_list_bool, ML.isTy_list_tuple, ML.isTy_list_list, ML.isTy_list_str, ML.isTy_dict_int, ML.isTy_dict_bool, ML.isTy_dict_tuple, ML.isTy_dict_list, ML.isTy_dict_str, FL.tup_fr, FL.tup_sp, FL.tup_wl, FL.tupOf_fr, FL.tupOf_sp, FL.tupOf_wl, FL.nz0, FL.nz1, FL.nz2, FL.nz3, FL.look_non, FL.look_int, FL.look_bl, FL.look_str, FL.look_tup, FL.look_lst, FL.look_scr, FL.seqOf_fr, FL.seqOf_sp, FL.seqOf_wl, FL.look_fr, FL.look_sp, FL.look_wl, FL.eqOk_fr, FL.eqOk_sp, FL.eqOk_wl, FL.deq_fr, FL.deq_sp, FL.deq_wl, FL.tyD_fr, FL.tyD_sp, FL.tyD_wl, FL.isN_fr, FL.isN_sp, FL.isN_wl, FL.lenD_sp, FL.lenD_wl, FL.rAdd_wl_tup, List.length_map, List.map_cons, List.map_nil, List.replicate, List.set_cons_zero, List.set_cons_succ, List.getElem?_cons_zero, List.getElem?_cons_succ, List.cons_append, List.nil_append, List.length_cons, List.length_nil, Option.bind_some, Option.map_some, ↓reduceIte, Nat.reduceAdd, Nat.reduceSub, Nat.reduceLT, Nat.reduceLeDiff, Nat.zero_add, decide_eq_true_eq, Bool.not_eq_true, ne_eq, reduceCtorEq, not_false_eq_true, true_and, and_true, Bool.false_eq_true, Bool.not_true, Bool.not_false, decide_true, decide_false, not_true_eq_false, eq_self, Bool.not_eq_eq_eq_not, if_true, if_false, decide_eq_false_iff_not, ML.ncast, Int.reduceToNat, Int.reducePow, Int.reduceAdd, Int.reduceSub, Int.reduceMul, Int.reduceNeg, Int.reduceLT, Int.reduceLE, Int.reduceEq, Nat.reduceEqDiff, Int.zero_add, gt_iff_lt, beq_self_eq_true, Bool.true_beq, Bool.false_beq, Bool.and_true, Bool.and_false, Bool.true_and, Bool.false_and, ↓ML.l_mtInsert, ↓ML.l_mtReverse, ↓ML.l_mtClear, ↓ML.l_bSortU, ↓ML.q_mMt0, ↓ML.l_bMaxL, ↓ML.l_bMinL, ↓ML.l_aLt_int, ↓ML.l_aLt_u, ↓ML.l_aGt_int, ↓ML.l_aGt_u, ↓ML.l_aLe_int, ↓ML.l_aLe_u, ↓ML.l_aGe_int, ↓ML.l_aGe_u, ↓ML.l_bMaxA_int, ↓ML.l_bMaxA_u, ↓ML.l_bMinA_int, ↓ML.l_bMinA_u, ML.tup_u, ML.tupOf_u, ML.seqOf_u, ML.sqI_u, ML.look_u, ML.isN_u, ML.lenD_u, ML.tyD_u, ML.tup_uw, ML.tupOf_uw, ML.seqOf_uw, ML.sqI_uw, ML.look_uw, ML.isN_uw, ML.lenD_uw, ML.tyD_uw, ML.eqOk_u, ML.eqOk_uw, ML.deq_u, ML.deq_uw, ML.in_uw, ↓ML.l_mRaise, ↓ML.l_mTry, ↓ML.l_mIsE, ↓ML.l_mIsV, ↓ML.l_mtCount, ↓ML.l_rAddS_rl, ↓ML.l_rAddS_ll, ML.excD_ref, ML.excOf_exc, ML.blsOf_nil, ML.blsOf_cons, ML.endM_nx, ML.endM_rt, ↓ML.l_mYes, ↓ML.l_iS, ↓ML.l_mIfJ, ↓ML.l_mJ, ↓ML.CrollP_nil, ↓ML.CrollP_cons, ↓ML.CrA_at, ↓ML.FrollP_nil, ↓ML.FrollP_cons, ML.isN_non, ML.isN_int, ML.isN_bl, ML.isN_str, ML.isN_tup, ML.isN_lst, ML.isN_ref, ML.sqI_tup, ML.sqI_lst, ML.sqI_scr, ML.sqI_ref, ML.sqI_at, ML.rngD_0, ML.rngD_1, ML.rngD_2, ML.rngD_3, ML.rngD_4, ML.rngD_6, ML.q_wipeM_nil, ML.q_wipeM_cons, FL.sqI_sp, FL.sqI_wl] $[$l]?)
local macro_rules | `(tactic| simp $c:optConfig $[$d:discharger]? only [gg, $ls,*] $[$l:location]?) => `(tactic| simp $c $[$d]? only [↓ML.q_mSeq, ↓ML.q_mC, ↓ML.q_mOp, ↓ML.q_mUn, ↓ML.q_mTst, ↓ML.q_mNot, ↓ML.q_mNotV, ↓ML.q_mRet, ↓ML.q_mRetN, ↓ML.q_mExpr, ↓ML.q_mNext, ↓ML.q_mBreak, ↓ML.q_mCont, ↓ML.q_mAsg, ↓ML.q_gSb, ↓ML.q_mTup, ↓ML.q_mLst, ↓ML.q_mLstF, ↓ML.q_mCons, ↓ML.q_mNil, ↓ML.q_mBlt, ↓ML.q_rEqM, ↓ML.q_rNeM, ↓ML.q_iR1, ↓ML.q_iR2, ↓ML.q_iEn, ↓ML.q_iZp, ↓ML.q_mMt, ↓ML.q_mMt0, ↓ML.q_mYes, ↓ML.q_mCut, ↓ML.q_oNo, ↓ML.q_oSo, ↓ML.l_mCall, ↓ML.l_mAnd, ↓ML.l_mOr, ↓ML.l_mAndV, ↓ML.l_mOrV, ↓ML.l_mIf, ↓ML.l_mIfS, ↓ML.l_mChain, ↓ML.l_mVar, ↓ML.l_mFor, ↓ML.l_mWhile, ↓ML.l_mComp, ↓ML.l_mCompF, ↓ML.l_optP, ↓ML.l_Go, ↓ML.Hold_v, ↓ML.l_mSet, ↓ML.l_gNm, ↓ML.l_mPar, ↓ML.l_rIxM, ↓ML.l_rSetM, ↓ML.l_rInt, ↓ML.l_rInt0, ↓ML.l_rAdd_int, ↓ML.l_rAdd_str, ↓ML.l_rAdd_tup, ↓ML.l_rNeg, ↓ML.l_rIsN, ↓ML.l_rNotN, ↓ML.l_rIsBM, ↓ML.l_mTru, ↓ML.l_bLen, ↓ML.l_bAbs, ↓ML.l_bMax2, ↓ML.l_bMin2, ↓ML.l_bInt_i, ↓ML.l_bInt_b, ↓ML.l_bTuple, ↓ML.l_bListF, ↓ML.l_bList, ↓ML.l_mIsi, ↓ML.l_iL, ↓ML.l_iT, ↓ML.l_gTp, ↓ML.l_gLs, ↓ML.l_gCn, ↓ML.l_gNl, ↓ML.l_mtAppend, ML.Hold_v, ML.l_mVar_z, ML.l_mVar_s, ML.OptP_some, ML.Go_eq, ML.IteP_true, ML.IteP_false, ML.lstOf_ref', ML.lstOf_lst, ML.lstOf_scr, ML.lstOf_tup, ML.ownOf_ref', ML.ownOf_lst, ML.seqOf_tup', ML.seqOf_lst', ML.seqOf_scr', ML.seqOf_ref', ML.olP_lst, ML.tupOf_tup, ML.ixL_lit, ML.ixL_cast, ML.ixL_m1, ML.setAt_lit, ML.setAt_cast, ML.truD_bl, ML.truD_int, ML.truD_tup, ML.truD_lst, ML.truD_scr, ML.truD_non, ML.lenD_tup, ML.lenD_lst, ML.lenD_scr, ML.lenD_ref, ML.tyD_non, ML.tyD_bl, ML.tyD_int, ML.tyD_str, ML.tyD_tup, ML.tyD_lst, ML.szl, ML.szlt, ML.cpow_lit, ML.mulok_rl, ML.mulok_ll, ML.divok_l, ML.put_same, ML.put_put, ML.q_wipeM, ML.deq_int, ML.deq_bl, ML.deq_str, ML.deq_non, ML.eqOk_int, ML.eqOk_bl, ML.isTy_NoneType_int, ML.isTy_NoneType_bool, ML.isTy_NoneType_tuple, ML.isTy_NoneType_list, ML.isTy_NoneType_str, ML.isTy_bool_int, ML.isTy_bool_bool, ML.isTy_bool_tuple, ML.isTy_bool_list, ML.isTy_bool_str, ML.isTy_int_int, ML.isTy_int_bool, ML.isTy_int_tuple, ML.isTy_int_list, ML.isTy_int_str, ML.isTy_str_int, ML.isTy_str_bool, ML.isTy_str_tuple, ML.isTy_str_list, ML.isTy_str_str, ML.isTy_tuple_int, ML.isTy_tuple_bool, ML.isTy_tuple_tuple, ML.isTy_tuple_list, ML.isTy_tuple_str, ML.isTy_list_int, ML.isTy_list_bool, ML.isTy_list_tuple, ML.isTy_list_list, ML.isTy_list_str, ML.isTy_dict_int, ML.isTy_dict_bool, ML.isTy_dict_tuple, ML.isTy_dict_list, ML.isTy_dict_str, FL.tup_fr, FL.tup_sp, FL.tup_wl, FL.tupOf_fr, FL.tupOf_sp, FL.tupOf_wl, FL.nz0, FL.nz1, FL.nz2, FL.nz3, FL.look_non, FL.look_int, FL.look_bl, FL.look_str, FL.look_tup, FL.look_lst, FL.look_scr, FL.seqOf_fr, FL.seqOf_sp, FL.seqOf_wl, FL.look_fr, FL.look_sp, FL.look_wl, FL.eqOk_fr, FL.eqOk_sp, FL.eqOk_wl, FL.deq_fr, FL.deq_sp, FL.deq_wl, FL.tyD_fr, FL.tyD_sp, FL.tyD_wl, FL.isN_fr, FL.isN_sp, FL.isN_wl, FL.lenD_sp, FL.lenD_wl, FL.rAdd_wl_tup, List.length_map, List.map_cons, List.map_nil, List.replicate, List.set_cons_zero, List.set_cons_succ, List.getElem?_cons_zero, List.getElem?_cons_succ, List.cons_append, List.nil_append, List.length_cons, List.length_nil, Option.bind_some, Option.map_some, ↓reduceIte, Nat.reduceAdd, Nat.reduceSub, Nat.reduceLT, Nat.reduceLeDiff, Nat.zero_add, decide_eq_true_eq, Bool.not_eq_true, ne_eq, reduceCtorEq, not_false_eq_true, true_and, and_true, Bool.false_eq_true, Bool.not_true, Bool.not_false, decide_true, decide_false, not_true_eq_false, eq_self, Bool.not_eq_eq_eq_not, if_true, if_false, decide_eq_false_iff_not, ML.ncast, Int.reduceToNat, Int.reducePow, Int.reduceAdd, Int.reduceSub, Int.reduceMul, Int.reduceNeg, Int.reduceLT, Int.reduceLE, Int.reduceEq, Nat.reduceEqDiff, Int.zero_add, gt_iff_lt, beq_self_eq_true, Bool.true_beq, Bool.false_beq, Bool.and_true, Bool.and_false, Bool.true_and, Bool.false_and, ↓ML.l_mtInsert, ↓ML.l_mtReverse, ↓ML.l_mtClear, ↓ML.l_bSortU, ↓ML.q_mMt0, ↓ML.l_bMaxL, ↓ML.l_bMinL, ↓ML.l_aLt_int, ↓ML.l_aLt_u, ↓ML.l_aGt_int, ↓ML.l_aGt_u, ↓ML.l_aLe_int, ↓ML.l_aLe_u, ↓ML.l_aGe_int, ↓ML.l_aGe_u, ↓ML.l_bMaxA_int, ↓ML.l_bMaxA_u, ↓ML.l_bMinA_int, ↓ML.l_bMinA_u, ML.tup_u, ML.tupOf_u, ML.seqOf_u, ML.sqI_u, ML.look_u, ML.isN_u, ML.lenD_u, ML.tyD_u, ML.tup_uw, ML.tupOf_uw, ML.seqOf_uw, ML.sqI_uw, ML.look_uw, ML.isN_uw, ML.lenD_uw, ML.tyD_uw, ML.eqOk_u, ML.eqOk_uw, ML.deq_u, ML.deq_uw, ML.in_uw, ↓ML.l_mRaise, ↓ML.l_mTry, ↓ML.l_mIsE, ↓ML.l_mIsV, ↓ML.l_mtCount, ↓ML.l_rAddS_rl, ↓ML.l_rAddS_ll, ML.excD_ref, ML.excOf_exc, ML.blsOf_nil, ML.blsOf_cons, ML.endM_nx, ML.endM_rt, ↓ML.l_mYes, ↓ML.l_iS, ↓ML.l_mIfJ, ↓ML.l_mJ, ↓ML.CrollP_nil, ↓ML.CrollP_cons, ↓ML.CrA_at, ↓ML.FrollP_nil, ↓ML.FrollP_cons, ML.isN_non, ML.isN_int, ML.isN_bl, ML.isN_str, ML.isN_tup, ML.isN_lst, ML.isN_ref, ML.sqI_tup, ML.sqI_lst, ML.sqI_scr, ML.sqI_ref, ML.sqI_at, ML.rngD_0, ML.rngD_1, ML.rngD_2, ML.rngD_3, ML.rngD_4, ML.rngD_6, ML.q_wipeM_nil, ML.q_wipeM_cons, FL.sqI_sp, FL.sqI_wl, $ls,*] $[$l]?)
theorem jf_split {c : Prop} {σ : MSt} {S : Sto} {t u : MS} {De : MEnds} (h1 : c → t De σ S) (h2 : ¬ c → u De σ S) : @JfP c σ S ⟨t⟩ ⟨u⟩ ⟨De⟩ := ⟨De.nx, ⟨h1, h2⟩, fun _ _ z => z⟩
theorem rat_div_int {a b : Int} (hb : b ≠ 0) : Rat.divInt a b = (a : Rat) / (b : Rat) := by rw [Rat.divInt_eq_div]
theorem isgn (i : Int) : ((if 0 < i then 1 else 0) - if i < 0 then 1 else 0 : Int) = sgn (i : Rat) := by
  have := sgn_num (i : Rat)
  rwa [Rat.num_intCast] at this
theorem uturn_eq (a b c : U2) : uturn a b c = sgn (((b.1 - a.1) * (c.2 - a.2) - (b.2 - a.2) * (c.1 - a.1) : Int) : Rat) := by
  unfold uturn side crs alng ofU
  congr 1
  simp only [Rat.intCast_sub, Rat.intCast_mul]
/-- a spot of a wall, against another wall -/
def chk (w : UW) (s : U2) : Bool := !(decide (w.1 = s) || decide (w.2 = s)) && decide (uon w s)
theorem ufair_eq (a b : UW) : ufair a b = (!decide (a = b) && (!chk a b.1 && (!chk a b.2 && (!chk b a.1 && (!chk b a.2 && (decide (0 ≤ uturn a.1 a.2 b.1 * uturn a.1 a.2 b.2) || decide (0 ≤ uturn b.1 b.2 a.1 * uturn b.1 b.2 a.2))))))) := rfl
theorem Drawn.mono {i j : Nat} {size : Int} {ws : List UW} (h : Drawn i size ws) (hij : i ≤ j) : Drawn j size ws := ⟨Nat.le_trans h.len hij, h.up, h.lo, h.fair⟩
theorem Drawn.ok {i : Nat} {size : Int} {ws : List UW} (h : Drawn i size ws) (hs : size ≤ 1000) : ∀ w ∈ ws, WOk 1000 w := fun w hw => by
  have := h.lo w hw
  exact ⟨⟨by omega, by omega, by omega, by omega⟩, ⟨by omega, by omega, by omega, by omega⟩⟩
theorem UOk.mono {m n : Int} {u : U2} (h : UOk m u) (hn : m ≤ n) : UOk n u := ⟨by have := h.a1; omega, by have := h.a2; omega, by have := h.b1; omega, by have := h.b2; omega⟩
theorem WOk.mono {m n : Int} {u : UW} (h : WOk m u) (hn : m ≤ n) : WOk n u := ⟨h.f.mono hn, h.s.mono hn⟩
end FL
namespace FL
open PySem PySem.Spec L2 ML
/-! ### the scale keeps order and sides -/
theorem rat_int_pos {i : Int} (h : 0 < i) : (0 : Rat) < (i : Rat) := by exact_mod_cast h
theorem lt_div {a b c : Rat} (h : 0 < c) : a / c < b / c ↔ a < b := by
  rw [Rat.div_def, Rat.div_def]
  have hi : 0 < c⁻¹ := Rat.inv_pos.mpr h
  constructor
  · intro z
    have := Rat.mul_lt_mul_of_pos_right z h
    rw [Rat.mul_assoc, Rat.mul_assoc, Rat.inv_mul_cancel _ (by grind), Rat.mul_one, Rat.mul_one] at this
    exact this
  · intro z; exact Rat.mul_lt_mul_of_pos_right z hi
theorem eq_div {a b c : Rat} (h : 0 < c) : a / c = b / c ↔ a = b := by
  constructor
  · intro z
    have : a / c * c = b / c * c := by rw [z]
    rw [Rat.div_mul_cancel (by grind), Rat.div_mul_cancel (by grind)] at this
    exact this
  · intro z; rw [z]
theorem lt_aff {a b t x : Rat} (h : 0 < t) : a * t + x < b * t + x ↔ a < b := by
  constructor
  · intro z
    have : a * t < b * t := by grind
    by_cases w : a < b
    · exact w
    · have : b * t ≤ a * t := Rat.mul_le_mul_of_nonneg_right (by grind) (by grind)
      grind
  · intro z
    have := Rat.mul_lt_mul_of_pos_right z h
    grind
theorem eq_aff {a b t x : Rat} (h : 0 < t) : a * t + x = b * t + x ↔ a = b := by
  constructor
  · intro z
    have e : a * t = b * t := by grind
    have : a * t / t = b * t / t := by rw [e]
    rwa [Rat.mul_div_cancel (by grind), Rat.mul_div_cancel (by grind)] at this
  · intro z; rw [z]
theorem ScOk.tp {s : Sc} (h : ScOk s) : (0 : Rat) < (s.t : Rat) := rat_int_pos (by have := h.t1; omega)
theorem ScOk.bp {s : Sc} (h : ScOk s) : (0 : Rat) < (s.b : Rat) := rat_int_pos (by have := h.b1; omega)
theorem ahead_af {s : Sc} (h : ScOk s) (p q : Pt) : ahead (af s p) (af s q) ↔ ahead p q := by
  unfold ahead af
  simp only [lt_div h.bp, eq_div h.bp, lt_aff h.tp, eq_aff h.tp]
theorem af_inj {s : Sc} (h : ScOk s) {p q : Pt} : af s p = af s q ↔ p = q := by
  unfold af
  simp only [Prod.ext_iff, eq_div h.bp, eq_aff h.tp]
theorem sgn_pos_mul {k q : Rat} (h : 0 < k) : sgn (k * q) = sgn q := by
  unfold sgn
  have a : 0 < k * q ↔ 0 < q := by
    constructor
    · intro z
      by_cases y : 0 < q
      · exact y
      · have := Rat.mul_nonneg (Rat.le_of_lt h) (show 0 ≤ -q by grind); grind
    · exact Rat.mul_pos h
  have b : k * q < 0 ↔ q < 0 := by
    constructor
    · intro z
      by_cases y : q < 0
      · exact y
      · have := Rat.mul_nonneg (Rat.le_of_lt h) (show 0 ≤ q by grind); grind
    · intro z
      have := Rat.mul_pos h (show 0 < -q by grind); grind
  simp only [a, b]
theorem ahead_ofU (u v : U2) : ahead (ofU u) (ofU v) ↔ ult u v := by
  unfold ahead ofU ult
  simp only [Rat.intCast_lt_intCast, Rat.intCast_inj]
theorem ofU_inj {u v : U2} : ofU u = ofU v ↔ u = v := by
  unfold ofU
  simp only [Prod.ext_iff, Rat.intCast_inj]
theorem not_ult {u v : U2} : ¬ ult u v ↔ ule v u := by unfold ult ule; omega
theorem bd_af {s : Sc} {p : Pt} {n : Nat} (hs : ScOk s) (hp : BP p n) (m : Nat) (hm : n + 71 + 102 + 1 + 91 ≤ m) : BP (af s p) m := by
  obtain ⟨t1, t2, b1, b2, x1, x2, y1, y2⟩ := hs
  have ht : BD (s.t : Rat) 71 := ⟨z_int (by omega) (by decide)⟩
  have hb : BD (s.b : Rat) 91 := ⟨z_int (by omega) (by decide)⟩
  have hx : BD (s.x : Rat) 102 := ⟨z_int (by omega) (by decide)⟩
  have hy : BD (s.y : Rat) 102 := ⟨z_int (by omega) (by decide)⟩
  unfold af
  exact BP.mono (by omega)
theorem bd_ofU {u : U2} (h : UOk (2 ^ 20) u) : BP (ofU u) 21 := by
  obtain ⟨a1, a2, a3, a4⟩ := h
  exact ⟨z_int (by omega) (by decide), z_int (by omega) (by decide)⟩
theorem bw_afw {s : Sc} {w : UW} (hs : ScOk s) (h : WOk (2 ^ 20) w) : BW (afw s (ofW w)) 300 := ⟨bd_af hs (bd_ofU h.f) _ (by decide), bd_af hs (bd_ofU h.s) _ (by decide)⟩
/-! ### calls -/
end FL
namespace FL
open PySem PySem.Spec L2 ML
/-! ### ways that lead on in the order of spots -/
def sb (p q : Pt) : Pt := (p.1 - q.1, p.2 - q.2)
/-- the sum of the document: its sign is the side -/
def cx (w : Wl) (s : Pt) : Rat := crs (alng w) (alng (w.1, s))
theorem side_cx (w : Wl) (s : Pt) : side w s = sgn (cx w s) := rfl
theorem sgn_one {q : Rat} : sgn q = 1 ↔ 0 < q := by
  unfold sgn
  split
  · simp_all
  · split <;> simp_all
theorem sgn_m1 {q : Rat} : sgn q = -1 ↔ q < 0 := by
  unfold sgn
  split
  · constructor
    · intro h; simp at h
    · intro h; grind
  · split
    · simp_all
    · simp_all
theorem sgn_0 {q : Rat} : sgn q = 0 ↔ q = 0 := by
  unfold sgn
  split
  · constructor
    · intro h; simp at h
    · intro h; grind
  · split
    · constructor
      · intro h; simp at h
      · intro h; grind
    · constructor <;> intro _ <;> grind
theorem sgn_neg (q : Rat) : sgn (-q) = - sgn q := by
  unfold sgn
  by_cases h1 : 0 < q
  · rw [if_neg (by grind), if_pos (by grind), if_pos h1]
  · by_cases h2 : q < 0
    · rw [if_pos (by grind), if_neg h1, if_pos h2]; rfl
    · rw [if_neg (by grind), if_neg (by grind), if_neg h1, if_neg h2]; rfl
theorem sgn_mul (p q : Rat) : sgn p * sgn q = sgn (p * q) := by
  by_cases h : 0 < p
  · rw [sgn_pos_mul h, sgn_one.mpr h, Int.one_mul]
  · by_cases h2 : p < 0
    · have e : p * q = -((-p) * q) := by grind
      rw [e, sgn_neg, sgn_pos_mul (by grind), sgn_m1.mpr h2]; omega
    · have : p = 0 := by grind
      subst this
      rw [Rat.zero_mul, sgn_0.mpr rfl, Int.zero_mul]
theorem sgn_nonneg {q : Rat} : 0 ≤ sgn q ↔ 0 ≤ q := by
  unfold sgn
  split
  · exact ⟨fun _ => by grind, fun _ => by decide⟩
  · split
    · constructor
      · intro h; simp at h
      · intro h; grind
    · exact ⟨fun _ => by grind, fun _ => by decide⟩
/-! ### two walls that meet at ends alone -/
structure FairW (a b : Wl) : Prop where
  ne : a ≠ b
  e1 : liesOn a b.1 → b.1 = a.1 ∨ b.1 = a.2
  e2 : liesOn a b.2 → b.2 = a.1 ∨ b.2 = a.2
  e3 : liesOn b a.1 → a.1 = b.1 ∨ a.1 = b.2
  e4 : liesOn b a.2 → a.2 = b.1 ∨ a.2 = b.2
  cr : 0 ≤ cx a b.1 * cx a b.2 ∨ 0 ≤ cx b a.1 * cx b a.2
theorem FairW.symm {a b : Wl} (h : FairW a b) : FairW b a := ⟨fun z => h.ne z.symm, h.e3, h.e4, h.e1, h.e2, h.cr.symm⟩
theorem uon_lies (w : UW) (s : U2) : uon w s ↔ liesOn (ofW w) (ofU s) := by
  unfold uon liesOn ofW uturn
  simp only [ahead_ofU, not_ult]
theorem ufair_iff (a b : UW) : ufair a b = true ↔ FairW (ofW a) (ofW b) := by
  rw [ufair_eq]
  have ce : ∀ (w : UW) (s : U2), chk w s = false ↔ (liesOn (ofW w) (ofU s) → ofU s = ofU w.1 ∨ ofU s = ofU w.2) := by
    intro w s
    unfold chk
    rw [← uon_lies, ofU_inj, ofU_inj]
    by_cases h : uon w s
    · simp only [h, decide_true, Bool.and_true, Bool.not_eq_false', Bool.or_eq_true, decide_eq_true_eq, true_implies]
      constructor <;> rintro (z | z) <;> simp [z]
    · simp [h]
  have hc : (0 ≤ uturn a.1 a.2 b.1 * uturn a.1 a.2 b.2) ↔ 0 ≤ cx (ofW a) (ofU b.1) * cx (ofW a) (ofU b.2) := by
    show 0 ≤ side (ofW a) (ofU b.1) * side (ofW a) (ofU b.2) ↔ _
    rw [side_cx, side_cx, sgn_mul, sgn_nonneg]
  have hc2 : (0 ≤ uturn b.1 b.2 a.1 * uturn b.1 b.2 a.2) ↔ 0 ≤ cx (ofW b) (ofU a.1) * cx (ofW b) (ofU a.2) := by
    show 0 ≤ side (ofW b) (ofU a.1) * side (ofW b) (ofU a.2) ↔ _
    rw [side_cx, side_cx, sgn_mul, sgn_nonneg]
  have hn : ofW a = ofW b ↔ a = b := by
    constructor
    · intro h
      exact Prod.ext (ofU_inj.mp (congrArg Prod.fst h)) (ofU_inj.mp (congrArg Prod.snd h))
    · rintro rfl; rfl
  simp only [Bool.and_eq_true, Bool.not_eq_true', decide_eq_false_iff_not, Bool.or_eq_true, decide_eq_true_eq, ce, hc, hc2]
  constructor
  · rintro ⟨h1, h2, h3, h4, h5, h6⟩
    exact ⟨fun z => h1 (hn.mp z), h2, h3, h4, h5, h6⟩
  · rintro ⟨h1, h2, h3, h4, h5, h6⟩
    exact ⟨fun z => h1 (hn.mpr z), h2, h3, h4, h5, h6⟩
/-! ### one above the other -/
def both (a b : Wl) : Prop := ahead a.1 b.2 ∧ ahead b.1 a.2
instance (a b : Wl) : Decidable (both a b) := by unfold both; infer_instance
section
variable {a b : Wl}
/-- whether a lies above b, as the document says -/
def pend (a b : Wl) : Pt × Bool := if a.1 ≠ b.1 then (if ahead a.1 b.1 then (b.1, false) else (a.1, true)) else (if ahead a.2 b.2 then (a.2, true) else (b.2, false))
def aboveW (a b : Wl) : Prop := both a b ∧ (if (pend a b).2 = true then side b (pend a b).1 = 1 else side a (pend a b).1 = -1)
instance (a b : Wl) : Decidable (aboveW a b) := by unfold aboveW; infer_instance
end
end FL
namespace FL
open PySem PySem.Spec L2 ML
/-! ### lists that are joined; x in a list of ints -/
section
variable {S : Sto} {Q : MQ}
theorem l_rAdd_rl {p : Addr} {ys : List D} : ML.rAdd (.ref p) (.lst ys) S Q = optP (olP (S p)) fun xs => xs.length + ys.length ≤ sizeLine ∧ Q (.lst (xs ++ ys)) S := by
  simp only [ML.rAdd, ownOf_ref', ownOf_lst, optP, OptP]
  cases olP (S p) <;> rfl
theorem l_rAdd_ll {xs ys : List D} : ML.rAdd (.lst xs) (.lst ys) S Q = (xs.length + ys.length ≤ sizeLine ∧ Q (.lst (xs ++ ys)) S) := Eq.trans rfl rfl
theorem l_rAdd_lr {p : Addr} {xs : List D} : ML.rAdd (.lst xs) (.ref p) S Q = optP (olP (S p)) fun ys => xs.length + ys.length ≤ sizeLine ∧ Q (.lst (xs ++ ys)) S := by
  simp only [ML.rAdd, ownOf_ref', ownOf_lst, optP, OptP]
  cases olP (S p) <;> rfl
theorem l_rAdd_rr {p q : Addr} : ML.rAdd (.ref p) (.ref q) S Q = optP (olP (S p)) fun xs => optP (olP (S q)) fun ys => xs.length + ys.length ≤ sizeLine ∧ Q (.lst (xs ++ ys)) S := by
  simp only [ML.rAdd, ownOf_ref', optP, OptP]
  cases olP (S p) <;> cases olP (S q) <;> rfl
theorem plains_int (ns : List Int) : D.plains (ns.map D.int) = true := plains_map fun _ => rfl
theorem deps_int (ns : List Int) : D.deps (ns.map D.int) ≤ 0 := deps_map fun _ => Nat.le_refl _
theorem mem_int (i : Int) (ns : List Int) : memD (.int i) (ns.map D.int) = decide (i ∈ ns) := by
  induction ns with
  | nil => simp [memD]
  | cons n ns ih =>
    have : memD (.int i) ((n :: ns).map D.int) = (D.deq (.int n) (.int i) || memD (.int i) (ns.map D.int)) := rfl
    rw [this, ih, deq_int]
    by_cases h : n = i
    · simp [h]
    · have h' : ¬ i = n := fun z => h z.symm
      simp [h, h']
theorem in_ints {neg : Bool} {i : Int} {ns : List Int} : rInM neg (.int i) (.lst (ns.map .int)) S Q = Q (.bl (if neg then !decide (i ∈ ns) else decide (i ∈ ns))) S := by
  have c : D.plain (.int i) = true ∧ D.plains (ns.map D.int) = true ∧ D.dep (.int i) ≤ 64 ∧ D.deps (ns.map D.int) ≤ 63 := ⟨rfl, plains_int ns, Nat.zero_le _, Nat.le_trans (deps_int ns) (Nat.zero_le _)⟩
  simp only [rInM, look_lst, mem_int]
  exact propext ⟨fun h => h.2, fun h => ⟨c, h⟩⟩
end
/-! ### walls drawn -/
end FL
set_option maxRecDepth 100000
namespace FL
open PySem PySem.Spec L2 ML
end FL
set_option maxRecDepth 100000
namespace FL
-- counts /tmp/scratch/dev/N_lib3.json
open PySem PySem.Spec L2 ML
local macro_rules | `(tactic| simp $c:optConfig $[$d:discharger]? only [gw] $[$l:location]?) => `(tactic| simp $c $[$d]? only [↓ML.q_mSeq, ↓ML.q_mC, ↓ML.q_mOp, ↓ML.q_mUn, ↓ML.q_mTst, ↓ML.q_mNot, ↓ML.q_mNotV, ↓ML.q_mRet, ↓ML.q_mRetN, ↓ML.q_mExpr, ↓ML.q_mNext, ↓ML.q_mBreak, ↓ML.q_mCont, ↓ML.q_mAsg, ↓ML.q_gSb, ↓ML.q_mTup, ↓ML.q_mLst, ↓ML.q_mLstF, ↓ML.q_mCons, ↓ML.q_mNil, ↓ML.q_mBlt, ↓ML.q_rEqM, ↓ML.q_rNeM, ↓ML.q_iR1, ↓ML.q_iR2, ↓ML.q_iEn, ↓ML.q_iZp, ↓ML.q_mMt, ↓ML.q_mMt0, ↓ML.q_mYes, ↓ML.q_mCut, ↓ML.q_oNo, ↓ML.q_oSo, ↓ML.l_mCall, ↓ML.l_mAnd, ↓ML.l_mOr, ↓ML.l_mAndV, ↓ML.l_mOrV, ↓ML.l_mIf, ↓ML.l_mIfS, ↓ML.l_mChain, ↓ML.l_mVar, ↓ML.l_mFor, ↓ML.l_mWhile, ↓ML.l_mComp, ↓ML.l_mCompF, ↓ML.l_optP, ↓ML.l_Go, ↓ML.Hold_v, ↓ML.l_mSet, ↓ML.l_gNm, ↓ML.l_mPar, ↓ML.l_rIxM, ↓ML.l_rSetM, ↓ML.l_rInt, ↓ML.l_rInt0, ↓ML.l_rAdd_int, ↓ML.l_rAdd_str, ↓ML.l_rAdd_tup, ↓ML.l_rNeg, ↓ML.l_rIsN, ↓ML.l_rNotN, ↓ML.l_rIsBM, ↓ML.l_mTru, ↓ML.l_bLen, ↓ML.l_bAbs, ↓ML.l_bMax2, ↓ML.l_bMin2, ↓ML.l_bInt_i, ↓ML.l_bInt_b, ↓ML.l_bTuple, ↓ML.l_bListF, ↓ML.l_bList, ↓ML.l_mIsi, ↓ML.l_iL, ↓ML.l_iT, ↓ML.l_gTp, ↓ML.l_gLs, ↓ML.l_gCn, ↓ML.l_gNl, ↓ML.l_mtAppend, ML.Hold_v, ML.l_mVar_z, ML.l_mVar_s, ML.OptP_some, ML.Go_eq, ML.IteP_true, ML.IteP_false, ML.lstOf_ref', ML.lstOf_lst, ML.lstOf_scr, ML.lstOf_tup, ML.ownOf_ref', ML.ownOf_lst, ML.seqOf_tup', ML.seqOf_lst', ML.seqOf_scr', ML.seqOf_ref', ML.olP_lst, ML.tupOf_tup, ML.ixL_lit, ML.ixL_cast, ML.ixL_m1, ML.setAt_lit, ML.setAt_cast, ML.truD_bl, ML.truD_int, ML.truD_tup, ML.truD_lst, ML.truD_scr, ML.truD_non, ML.lenD_tup, ML.lenD_lst, ML.lenD_scr, ML.lenD_ref, ML.tyD_non, ML.tyD_bl, ML.tyD_int, ML.tyD_str, ML.tyD_tup, ML.tyD_lst, ML.szl, ML.szlt, ML.cpow_lit, ML.mulok_rl, ML.mulok_ll, ML.divok_l, ML.put_same, ML.put_put, ML.q_wipeM, ML.deq_int, ML.deq_bl, ML.deq_str, ML.deq_non, ML.eqOk_int, ML.eqOk_bl, ML.isTy_NoneType_int, ML.isTy_NoneType_bool, ML.isTy_NoneType_tuple, ML.isTy_NoneType_list, ML.isTy_NoneType_str, ML.isTy_bool_int, ML.isTy_bool_bool, ML.isTy_bool_tuple, ML.isTy_bool_list, ML.isTy_bool_str, ML.isTy_int_int, ML.isTy_int_bool, ML.isTy_int_tuple, ML.isTy_int_list, ML.isTy_int_str, ML.isTy_str_int, ML.isTy_str_bool, ML.isTy_str_tuple, ML.isTy_str_list, ML.isTy_str_str, ML.isTy_tuple_int, ML.isTy_tuple_bool, ML.isTy_tuple_tuple, ML.isTy_tuple_list, ML.isTy_tuple_str, ML.isTy_list_int, ML.isTy_list_bool, ML.isTy_list_tuple, ML.isTy_list_list, ML.isTy_list_str, ML.isTy_dict_int, ML.isTy_dict_bool, ML.isTy_dict_tuple, ML.isTy_dict_list, ML.isTy_dict_str, FL.tup_fr, FL.tup_sp, FL.tup_wl, FL.tupOf_fr, FL.tupOf_sp, FL.tupOf_wl, FL.nz0, FL.nz1, FL.nz2, FL.nz3, FL.look_non, FL.look_int, FL.look_bl, FL.look_str, FL.look_tup, FL.look_lst, FL.look_scr, FL.seqOf_fr, FL.seqOf_sp, FL.seqOf_wl, FL.look_fr, FL.look_sp, FL.look_wl, FL.eqOk_fr, FL.eqOk_sp, FL.eqOk_wl, FL.deq_fr, FL.deq_sp, FL.deq_wl, FL.tyD_fr, FL.tyD_sp, FL.tyD_wl, FL.isN_fr, FL.isN_sp, FL.isN_wl, FL.lenD_sp, FL.lenD_wl, FL.rAdd_wl_tup, List.length_map, List.map_cons, List.map_nil, List.replicate, List.set_cons_zero, List.set_cons_succ, List.getElem?_cons_zero, List.getElem?_cons_succ, List.cons_append, List.nil_append, List.length_cons, List.length_nil, Option.bind_some, Option.map_some, ↓reduceIte, Nat.reduceAdd, Nat.reduceSub, Nat.reduceLT, Nat.reduceLeDiff, Nat.zero_add, decide_eq_true_eq, Bool.not_eq_true, ne_eq, reduceCtorEq, not_false_eq_true, true_and, and_true, Bool.false_eq_true, Bool.not_true, Bool.not_false, decide_true, decide_false, not_true_eq_false, eq_self, Bool.not_eq_eq_eq_not, if_true, if_false, decide_eq_false_iff_not, ML.ncast, Int.reduceToNat, Int.reducePow, Int.reduceAdd, Int.reduceSub, Int.reduceMul, Int.reduceNeg, Int.reduceLT, Int.reduceLE, Int.reduceEq, Nat.reduceEqDiff, Int.zero_add, gt_iff_lt, beq_self_eq_true, Bool.true_beq, Bool.false_beq, Bool.and_true, Bool.and_false, Bool.true_and, Bool.false_and, ↓ML.l_mtInsert, ↓ML.l_mtReverse, ↓ML.l_mtClear, ↓ML.l_bSortU, ↓ML.q_mMt0, ↓ML.l_bMaxL, ↓ML.l_bMinL, ↓ML.l_aLt_int, ↓ML.l_aLt_u, ↓ML.l_aGt_int, ↓ML.l_aGt_u, ↓ML.l_aLe_int, ↓ML.l_aLe_u, ↓ML.l_aGe_int, ↓ML.l_aGe_u, ↓ML.l_bMaxA_int, ↓ML.l_bMaxA_u, ↓ML.l_bMinA_int, ↓ML.l_bMinA_u, ML.tup_u, ML.tupOf_u, ML.seqOf_u, ML.sqI_u, ML.look_u, ML.isN_u, ML.lenD_u, ML.tyD_u, ML.tup_uw, ML.tupOf_uw, ML.seqOf_uw, ML.sqI_uw, ML.look_uw, ML.isN_uw, ML.lenD_uw, ML.tyD_uw, ML.eqOk_u, ML.eqOk_uw, ML.deq_u, ML.deq_uw, ML.in_uw, ↓ML.l_mRaise, ↓ML.l_mTry, ↓ML.l_mIsE, ↓ML.l_mIsV, ↓ML.l_mtCount, ↓ML.l_rAddS_rl, ↓ML.l_rAddS_ll, ML.excD_ref, ML.excOf_exc, ML.blsOf_nil, ML.blsOf_cons, ML.endM_nx, ML.endM_rt, ↓ML.l_mYes, ↓ML.l_iS, ↓ML.l_mIfJ, ↓ML.l_mJ, ↓ML.CrollP_nil, ↓ML.CrollP_cons, ↓ML.CrA_at, ↓ML.FrollP_nil, ↓ML.FrollP_cons, ML.isN_non, ML.isN_int, ML.isN_bl, ML.isN_str, ML.isN_tup, ML.isN_lst, ML.isN_ref, ML.sqI_tup, ML.sqI_lst, ML.sqI_scr, ML.sqI_ref, ML.sqI_at, ML.rngD_0, ML.rngD_1, ML.rngD_2, ML.rngD_3, ML.rngD_4, ML.rngD_6, ML.q_wipeM_nil, ML.q_wipeM_cons, FL.sqI_sp, FL.sqI_wl, ↓FL.c_plus, ↓FL.c_less, ↓FL.c_law_less, ↓FL.c_times, ↓FL.c_over, ↓FL.c_is_less, ↓FL.c_is_ahead, ↓FL.c_along, ↓FL.c_crossed, ↓FL.c_leaning, ↓FL.c_side_of, ↓FL.c_lies_on, ↓FL.c_spans] $[$l]?)
local macro_rules | `(tactic| simp $c:optConfig $[$d:discharger]? only [gw, $ls,*] $[$l:location]?) => `(tactic| simp $c $[$d]? only [↓ML.q_mSeq, ↓ML.q_mC, ↓ML.q_mOp, ↓ML.q_mUn, ↓ML.q_mTst, ↓ML.q_mNot, ↓ML.q_mNotV, ↓ML.q_mRet, ↓ML.q_mRetN, ↓ML.q_mExpr, ↓ML.q_mNext, ↓ML.q_mBreak, ↓ML.q_mCont, ↓ML.q_mAsg, ↓ML.q_gSb, ↓ML.q_mTup, ↓ML.q_mLst, ↓ML.q_mLstF, ↓ML.q_mCons, ↓ML.q_mNil, ↓ML.q_mBlt, ↓ML.q_rEqM, ↓ML.q_rNeM, ↓ML.q_iR1, ↓ML.q_iR2, ↓ML.q_iEn, ↓ML.q_iZp, ↓ML.q_mMt, ↓ML.q_mMt0, ↓ML.q_mYes, ↓ML.q_mCut, ↓ML.q_oNo, ↓ML.q_oSo, ↓ML.l_mCall, ↓ML.l_mAnd, ↓ML.l_mOr, ↓ML.l_mAndV, ↓ML.l_mOrV, ↓ML.l_mIf, ↓ML.l_mIfS, ↓ML.l_mChain, ↓ML.l_mVar, ↓ML.l_mFor, ↓ML.l_mWhile, ↓ML.l_mComp, ↓ML.l_mCompF, ↓ML.l_optP, ↓ML.l_Go, ↓ML.Hold_v, ↓ML.l_mSet, ↓ML.l_gNm, ↓ML.l_mPar, ↓ML.l_rIxM, ↓ML.l_rSetM, ↓ML.l_rInt, ↓ML.l_rInt0, ↓ML.l_rAdd_int, ↓ML.l_rAdd_str, ↓ML.l_rAdd_tup, ↓ML.l_rNeg, ↓ML.l_rIsN, ↓ML.l_rNotN, ↓ML.l_rIsBM, ↓ML.l_mTru, ↓ML.l_bLen, ↓ML.l_bAbs, ↓ML.l_bMax2, ↓ML.l_bMin2, ↓ML.l_bInt_i, ↓ML.l_bInt_b, ↓ML.l_bTuple, ↓ML.l_bListF, ↓ML.l_bList, ↓ML.l_mIsi, ↓ML.l_iL, ↓ML.l_iT, ↓ML.l_gTp, ↓ML.l_gLs, ↓ML.l_gCn, ↓ML.l_gNl, ↓ML.l_mtAppend, ML.Hold_v, ML.l_mVar_z, ML.l_mVar_s, ML.OptP_some, ML.Go_eq, ML.IteP_true, ML.IteP_false, ML.lstOf_ref', ML.lstOf_lst, ML.lstOf_scr, ML.lstOf_tup, ML.ownOf_ref', ML.ownOf_lst, ML.seqOf_tup', ML.seqOf_lst', ML.seqOf_scr', ML.seqOf_ref', ML.olP_lst, ML.tupOf_tup, ML.ixL_lit, ML.ixL_cast, ML.ixL_m1, ML.setAt_lit, ML.setAt_cast, ML.truD_bl, ML.truD_int, ML.truD_tup, ML.truD_lst, ML.truD_scr, ML.truD_non, ML.lenD_tup, ML.lenD_lst, ML.lenD_scr, ML.lenD_ref, ML.tyD_non, ML.tyD_bl, ML.tyD_int, ML.tyD_str, ML.tyD_tup, ML.tyD_lst, ML.szl, ML.szlt, ML.cpow_lit, ML.mulok_rl, ML.mulok_ll, ML.divok_l, ML.put_same, ML.put_put, ML.q_wipeM, ML.deq_int, ML.deq_bl, ML.deq_str, ML.deq_non, ML.eqOk_int, ML.eqOk_bl, ML.isTy_NoneType_int, ML.isTy_NoneType_bool, ML.isTy_NoneType_tuple, ML.isTy_NoneType_list, ML.isTy_NoneType_str, ML.isTy_bool_int, ML.isTy_bool_bool, ML.isTy_bool_tuple, ML.isTy_bool_list, ML.isTy_bool_str, ML.isTy_int_int, ML.isTy_int_bool, ML.isTy_int_tuple, ML.isTy_int_list, ML.isTy_int_str, ML.isTy_str_int, ML.isTy_str_bool, ML.isTy_str_tuple, ML.isTy_str_list, ML.isTy_str_str, ML.isTy_tuple_int, ML.isTy_tuple_bool, ML.isTy_tuple_tuple, ML.isTy_tuple_list, ML.isTy_tuple_str, ML.isTy_list_int, ML.isTy_list_bool, ML.isTy_list_tuple, ML.isTy_list_list, ML.isTy_list_str, ML.isTy_dict_int, ML.isTy_dict_bool, ML.isTy_dict_tuple, ML.isTy_dict_list, ML.isTy_dict_str, FL.tup_fr, FL.tup_sp, FL.tup_wl, FL.tupOf_fr, FL.tupOf_sp, FL.tupOf_wl, FL.nz0, FL.nz1, FL.nz2, FL.nz3, FL.look_non, FL.look_int, FL.look_bl, FL.look_str, FL.look_tup, FL.look_lst, FL.look_scr, FL.seqOf_fr, FL.seqOf_sp, FL.seqOf_wl, FL.look_fr, FL.look_sp, FL.look_wl, FL.eqOk_fr, FL.eqOk_sp, FL.eqOk_wl, FL.deq_fr, FL.deq_sp, FL.deq_wl, FL.tyD_fr, FL.tyD_sp, FL.tyD_wl, FL.isN_fr, FL.isN_sp, FL.isN_wl, FL.lenD_sp, FL.lenD_wl, FL.rAdd_wl_tup, List.length_map, List.map_cons, List.map_nil, List.replicate, List.set_cons_zero, List.set_cons_succ, List.getElem?_cons_zero, List.getElem?_cons_succ, List.cons_append, List.nil_append, List.length_cons, List.length_nil, Option.bind_some, Option.map_some, ↓reduceIte, Nat.reduceAdd, Nat.reduceSub, Nat.reduceLT, Nat.reduceLeDiff, Nat.zero_add, decide_eq_true_eq, Bool.not_eq_true, ne_eq, reduceCtorEq, not_false_eq_true, true_and, and_true, Bool.false_eq_true, Bool.not_true, Bool.not_false, decide_true, decide_false, not_true_eq_false, eq_self, Bool.not_eq_eq_eq_not, if_true, if_false, decide_eq_false_iff_not, ML.ncast, Int.reduceToNat, Int.reducePow, Int.reduceAdd, Int.reduceSub, Int.reduceMul, Int.reduceNeg, Int.reduceLT, Int.reduceLE, Int.reduceEq, Nat.reduceEqDiff, Int.zero_add, gt_iff_lt, beq_self_eq_true, Bool.true_beq, Bool.false_beq, Bool.and_true, Bool.and_false, Bool.true_and, Bool.false_and, ↓ML.l_mtInsert, ↓ML.l_mtReverse, ↓ML.l_mtClear, ↓ML.l_bSortU, ↓ML.q_mMt0, ↓ML.l_bMaxL, ↓ML.l_bMinL, ↓ML.l_aLt_int, ↓ML.l_aLt_u, ↓ML.l_aGt_int, ↓ML.l_aGt_u, ↓ML.l_aLe_int, ↓ML.l_aLe_u, ↓ML.l_aGe_int, ↓ML.l_aGe_u, ↓ML.l_bMaxA_int, ↓ML.l_bMaxA_u, ↓ML.l_bMinA_int, ↓ML.l_bMinA_u, ML.tup_u, ML.tupOf_u, ML.seqOf_u, ML.sqI_u, ML.look_u, ML.isN_u, ML.lenD_u, ML.tyD_u, ML.tup_uw, ML.tupOf_uw, ML.seqOf_uw, ML.sqI_uw, ML.look_uw, ML.isN_uw, ML.lenD_uw, ML.tyD_uw, ML.eqOk_u, ML.eqOk_uw, ML.deq_u, ML.deq_uw, ML.in_uw, ↓ML.l_mRaise, ↓ML.l_mTry, ↓ML.l_mIsE, ↓ML.l_mIsV, ↓ML.l_mtCount, ↓ML.l_rAddS_rl, ↓ML.l_rAddS_ll, ML.excD_ref, ML.excOf_exc, ML.blsOf_nil, ML.blsOf_cons, ML.endM_nx, ML.endM_rt, ↓ML.l_mYes, ↓ML.l_iS, ↓ML.l_mIfJ, ↓ML.l_mJ, ↓ML.CrollP_nil, ↓ML.CrollP_cons, ↓ML.CrA_at, ↓ML.FrollP_nil, ↓ML.FrollP_cons, ML.isN_non, ML.isN_int, ML.isN_bl, ML.isN_str, ML.isN_tup, ML.isN_lst, ML.isN_ref, ML.sqI_tup, ML.sqI_lst, ML.sqI_scr, ML.sqI_ref, ML.sqI_at, ML.rngD_0, ML.rngD_1, ML.rngD_2, ML.rngD_3, ML.rngD_4, ML.rngD_6, ML.q_wipeM_nil, ML.q_wipeM_cons, FL.sqI_sp, FL.sqI_wl, ↓FL.c_plus, ↓FL.c_less, ↓FL.c_law_less, ↓FL.c_times, ↓FL.c_over, ↓FL.c_is_less, ↓FL.c_is_ahead, ↓FL.c_along, ↓FL.c_crossed, ↓FL.c_leaning, ↓FL.c_side_of, ↓FL.c_lies_on, ↓FL.c_spans, $ls,*] $[$l]?)
local macro_rules | `(tactic| simp $c:optConfig $[$d:discharger]? only [gv] $[$l:location]?) => `(tactic| simp $c $[$d]? only [↓ML.q_mSeq, ↓ML.q_mC, ↓ML.q_mOp, ↓ML.q_mUn, ↓ML.q_mTst, ↓ML.q_mNot, ↓ML.q_mNotV, ↓ML.q_mRet, ↓ML.q_mRetN, ↓ML.q_mExpr, ↓ML.q_mNext, ↓ML.q_mBreak, ↓ML.q_mCont, ↓ML.q_mAsg, ↓ML.q_gSb, ↓ML.q_mTup, ↓ML.q_mLst, ↓ML.q_mLstF, ↓ML.q_mCons, ↓ML.q_mNil, ↓ML.q_mBlt, ↓ML.q_rEqM, ↓ML.q_rNeM, ↓ML.q_iR1, ↓ML.q_iR2, ↓ML.q_iEn, ↓ML.q_iZp, ↓ML.q_mMt, ↓ML.q_mMt0, ↓ML.q_mYes, ↓ML.q_mCut, ↓ML.q_oNo, ↓ML.q_oSo, ↓ML.l_mCall, ↓ML.l_mAnd, ↓ML.l_mOr, ↓ML.l_mAndV, ↓ML.l_mOrV, ↓ML.l_mIf, ↓ML.l_mIfS, ↓ML.l_mChain, ↓ML.l_mVar, ↓ML.l_mFor, ↓ML.l_mWhile, ↓ML.l_mComp, ↓ML.l_mCompF, ↓ML.l_optP, ↓ML.l_Go, ↓ML.Hold_v, ↓ML.l_mSet, ↓ML.l_gNm, ↓ML.l_mPar, ↓ML.l_rIxM, ↓ML.l_rSetM, ↓ML.l_rInt, ↓ML.l_rInt0, ↓ML.l_rAdd_int, ↓ML.l_rAdd_str, ↓ML.l_rAdd_tup, ↓ML.l_rNeg, ↓ML.l_rIsN, ↓ML.l_rNotN, ↓ML.l_rIsBM, ↓ML.l_mTru, ↓ML.l_bLen, ↓ML.l_bAbs, ↓ML.l_bMax2, ↓ML.l_bMin2, ↓ML.l_bInt_i, ↓ML.l_bInt_b, ↓ML.l_bTuple, ↓ML.l_bListF, ↓ML.l_bList, ↓ML.l_mIsi, ↓ML.l_iL, ↓ML.l_iT, ↓ML.l_gTp, ↓ML.l_gLs, ↓ML.l_gCn, ↓ML.l_gNl, ↓ML.l_mtAppend, ML.Hold_v, ML.l_mVar_z, ML.l_mVar_s, ML.OptP_some, ML.Go_eq, ML.IteP_true, ML.IteP_false, ML.lstOf_ref', ML.lstOf_lst, ML.lstOf_scr, ML.lstOf_tup, ML.ownOf_ref', ML.ownOf_lst, ML.seqOf_tup', ML.seqOf_lst', ML.seqOf_scr', ML.seqOf_ref', ML.olP_lst, ML.tupOf_tup, ML.ixL_lit, ML.ixL_cast, ML.ixL_m1, ML.setAt_lit, ML.setAt_cast, ML.truD_bl, ML.truD_int, ML.truD_tup, ML.truD_lst, ML.truD_scr, ML.truD_non, ML.lenD_tup, ML.lenD_lst, ML.lenD_scr, ML.lenD_ref, ML.tyD_non, ML.tyD_bl, ML.tyD_int, ML.tyD_str, ML.tyD_tup, ML.tyD_lst, ML.szl, ML.szlt, ML.cpow_lit, ML.mulok_rl, ML.mulok_ll, ML.divok_l, ML.put_same, ML.put_put, ML.q_wipeM, ML.deq_int, ML.deq_bl, ML.deq_str, ML.deq_non, ML.eqOk_int, ML.eqOk_bl, ML.isTy_NoneType_int, ML.isTy_NoneType_bool, ML.isTy_NoneType_tuple, ML.isTy_NoneType_list, ML.isTy_NoneType_str, ML.isTy_bool_int, ML.isTy_bool_bool, ML.isTy_bool_tuple, ML.isTy_bool_list, ML.isTy_bool_str, ML.isTy_int_int, ML.isTy_int_bool, ML.isTy_int_tuple, ML.isTy_int_list, ML.isTy_int_str, ML.isTy_str_int, ML.isTy_str_bool, ML.isTy_str_tuple, ML.isTy_str_list, ML.isTy_str_str, ML.isTy_tuple_int, ML.isTy_tuple_bool, ML.isTy_tuple_tuple, ML.isTy_tuple_list, ML.isTy_tuple_str, ML.isTy_list_int, ML.isTy_list_bool, ML.isTy_list_tuple, ML.isTy_list_list, ML.isTy_list_str, ML.isTy_dict_int, ML.isTy_dict_bool, ML.isTy_dict_tuple, ML.isTy_dict_list, ML.isTy_dict_str, FL.tup_fr, FL.tup_sp, FL.tup_wl, FL.tupOf_fr, FL.tupOf_sp, FL.tupOf_wl, FL.nz0, FL.nz1, FL.nz2, FL.nz3, FL.look_non, FL.look_int, FL.look_bl, FL.look_str, FL.look_tup, FL.look_lst, FL.look_scr, FL.seqOf_fr, FL.seqOf_sp, FL.seqOf_wl, FL.look_fr, FL.look_sp, FL.look_wl, FL.eqOk_fr, FL.eqOk_sp, FL.eqOk_wl, FL.deq_fr, FL.deq_sp, FL.deq_wl, FL.tyD_fr, FL.tyD_sp, FL.tyD_wl, FL.isN_fr, FL.isN_sp, FL.isN_wl, FL.lenD_sp, FL.lenD_wl, FL.rAdd_wl_tup, List.length_map, List.map_cons, List.map_nil, List.replicate, List.set_cons_zero, List.set_cons_succ, List.getElem?_cons_zero, List.getElem?_cons_succ, List.cons_append, List.nil_append, List.length_cons, List.length_nil, Option.bind_some, Option.map_some, ↓reduceIte, Nat.reduceAdd, Nat.reduceSub, Nat.reduceLT, Nat.reduceLeDiff, Nat.zero_add, decide_eq_true_eq, Bool.not_eq_true, ne_eq, reduceCtorEq, not_false_eq_true, true_and, and_true, Bool.false_eq_true, Bool.not_true, Bool.not_false, decide_true, decide_false, not_true_eq_false, eq_self, Bool.not_eq_eq_eq_not, if_true, if_false, decide_eq_false_iff_not, ML.ncast, Int.reduceToNat, Int.reducePow, Int.reduceAdd, Int.reduceSub, Int.reduceMul, Int.reduceNeg, Int.reduceLT, Int.reduceLE, Int.reduceEq, Nat.reduceEqDiff, Int.zero_add, gt_iff_lt, beq_self_eq_true, Bool.true_beq, Bool.false_beq, Bool.and_true, Bool.and_false, Bool.true_and, Bool.false_and, ↓ML.l_mtInsert, ↓ML.l_mtReverse, ↓ML.l_mtClear, ↓ML.l_bSortU, ↓ML.q_mMt0, ↓ML.l_bMaxL, ↓ML.l_bMinL, ↓ML.l_aLt_int, ↓ML.l_aLt_u, ↓ML.l_aGt_int, ↓ML.l_aGt_u, ↓ML.l_aLe_int, ↓ML.l_aLe_u, ↓ML.l_aGe_int, ↓ML.l_aGe_u, ↓ML.l_bMaxA_int, ↓ML.l_bMaxA_u, ↓ML.l_bMinA_int, ↓ML.l_bMinA_u, ML.tup_u, ML.tupOf_u, ML.seqOf_u, ML.sqI_u, ML.look_u, ML.isN_u, ML.lenD_u, ML.tyD_u, ML.tup_uw, ML.tupOf_uw, ML.seqOf_uw, ML.sqI_uw, ML.look_uw, ML.isN_uw, ML.lenD_uw, ML.tyD_uw, ML.eqOk_u, ML.eqOk_uw, ML.deq_u, ML.deq_uw, ML.in_uw, ↓ML.l_mRaise, ↓ML.l_mTry, ↓ML.l_mIsE, ↓ML.l_mIsV, ↓ML.l_mtCount, ↓ML.l_rAddS_rl, ↓ML.l_rAddS_ll, ML.excD_ref, ML.excOf_exc, ML.blsOf_nil, ML.blsOf_cons, ML.endM_nx, ML.endM_rt, ↓ML.l_mYes, ↓ML.l_iS, ↓ML.l_mIfJ, ↓ML.l_mJ, ↓ML.CrollP_nil, ↓ML.CrollP_cons, ↓ML.CrA_at, ↓ML.FrollP_nil, ↓ML.FrollP_cons, ML.isN_non, ML.isN_int, ML.isN_bl, ML.isN_str, ML.isN_tup, ML.isN_lst, ML.isN_ref, ML.sqI_tup, ML.sqI_lst, ML.sqI_scr, ML.sqI_ref, ML.sqI_at, ML.rngD_0, ML.rngD_1, ML.rngD_2, ML.rngD_3, ML.rngD_4, ML.rngD_6, ML.q_wipeM_nil, ML.q_wipeM_cons, FL.sqI_sp, FL.sqI_wl, FL.l_rAdd_rl, FL.l_rAdd_ll, FL.l_rAdd_lr, FL.l_rAdd_rr, FL.in_ints] $[$l]?)
local macro_rules | `(tactic| simp $c:optConfig $[$d:discharger]? only [gv, $ls,*] $[$l:location]?) => `(tactic| simp $c $[$d]? only [↓ML.q_mSeq, ↓ML.q_mC, ↓ML.q_mOp, ↓ML.q_mUn, ↓ML.q_mTst, ↓ML.q_mNot, ↓ML.q_mNotV, ↓ML.q_mRet, ↓ML.q_mRetN, ↓ML.q_mExpr, ↓ML.q_mNext, ↓ML.q_mBreak, ↓ML.q_mCont, ↓ML.q_mAsg, ↓ML.q_gSb, ↓ML.q_mTup, ↓ML.q_mLst, ↓ML.q_mLstF, ↓ML.q_mCons, ↓ML.q_mNil, ↓ML.q_mBlt, ↓ML.q_rEqM, ↓ML.q_rNeM, ↓ML.q_iR1, ↓ML.q_iR2, ↓ML.q_iEn, ↓ML.q_iZp, ↓ML.q_mMt, ↓ML.q_mMt0, ↓ML.q_mYes, ↓ML.q_mCut, ↓ML.q_oNo, ↓ML.q_oSo, ↓ML.l_mCall, ↓ML.l_mAnd, ↓ML.l_mOr, ↓ML.l_mAndV, ↓ML.l_mOrV, ↓ML.l_mIf, ↓ML.l_mIfS, ↓ML.l_mChain, ↓ML.l_mVar, ↓ML.l_mFor, ↓ML.l_mWhile, ↓ML.l_mComp, ↓ML.l_mCompF, ↓ML.l_optP, ↓ML.l_Go, ↓ML.Hold_v, ↓ML.l_mSet, ↓ML.l_gNm, ↓ML.l_mPar, ↓ML.l_rIxM, ↓ML.l_rSetM, ↓ML.l_rInt, ↓ML.l_rInt0, ↓ML.l_rAdd_int, ↓ML.l_rAdd_str, ↓ML.l_rAdd_tup, ↓ML.l_rNeg, ↓ML.l_rIsN, ↓ML.l_rNotN, ↓ML.l_rIsBM, ↓ML.l_mTru, ↓ML.l_bLen, ↓ML.l_bAbs, ↓ML.l_bMax2, ↓ML.l_bMin2, ↓ML.l_bInt_i, ↓ML.l_bInt_b, ↓ML.l_bTuple, ↓ML.l_bListF, ↓ML.l_bList, ↓ML.l_mIsi, ↓ML.l_iL, ↓ML.l_iT, ↓ML.l_gTp, ↓ML.l_gLs, ↓ML.l_gCn, ↓ML.l_gNl, ↓ML.l_mtAppend, ML.Hold_v, ML.l_mVar_z, ML.l_mVar_s, ML.OptP_some, ML.Go_eq, ML.IteP_true, ML.IteP_false, ML.lstOf_ref', ML.lstOf_lst, ML.lstOf_scr, ML.lstOf_tup, ML.ownOf_ref', ML.ownOf_lst, ML.seqOf_tup', ML.seqOf_lst', ML.seqOf_scr', ML.seqOf_ref', ML.olP_lst, ML.tupOf_tup, ML.ixL_lit, ML.ixL_cast, ML.ixL_m1, ML.setAt_lit, ML.setAt_cast, ML.truD_bl, ML.truD_int, ML.truD_tup, ML.truD_lst, ML.truD_scr, ML.truD_non, ML.lenD_tup, ML.lenD_lst, ML.lenD_scr, ML.lenD_ref, ML.tyD_non, ML.tyD_bl, ML.tyD_int, ML.tyD_str, ML.tyD_tup, ML.tyD_lst, ML.szl, ML.szlt, ML.cpow_lit, ML.mulok_rl, ML.mulok_ll, ML.divok_l, ML.put_same, ML.put_put, ML.q_wipeM, ML.deq_int, ML.deq_bl, ML.deq_str, ML.deq_non, ML.eqOk_int, ML.eqOk_bl, ML.isTy_NoneType_int, ML.isTy_NoneType_bool, ML.isTy_NoneType_tuple, ML.isTy_NoneType_list, ML.isTy_NoneType_str, ML.isTy_bool_int, ML.isTy_bool_bool, ML.isTy_bool_tuple, ML.isTy_bool_list, ML.isTy_bool_str, ML.isTy_int_int, ML.isTy_int_bool, ML.isTy_int_tuple, ML.isTy_int_list, ML.isTy_int_str, ML.isTy_str_int, ML.isTy_str_bool, ML.isTy_str_tuple, ML.isTy_str_list, ML.isTy_str_str, ML.isTy_tuple_int, ML.isTy_tuple_bool, ML.isTy_tuple_tuple, ML.isTy_tuple_list, ML.isTy_tuple_str, ML.isTy_list_int, ML.isTy_list_bool, ML.isTy_list_tuple, ML.isTy_list_list, ML.isTy_list_str, ML.isTy_dict_int, ML.isTy_dict_bool, ML.isTy_dict_tuple, ML.isTy_dict_list, ML.isTy_dict_str, FL.tup_fr, FL.tup_sp, FL.tup_wl, FL.tupOf_fr, FL.tupOf_sp, FL.tupOf_wl, FL.nz0, FL.nz1, FL.nz2, FL.nz3, FL.look_non, FL.look_int, FL.look_bl, FL.look_str, FL.look_tup, FL.look_lst, FL.look_scr, FL.seqOf_fr, FL.seqOf_sp, FL.seqOf_wl, FL.look_fr, FL.look_sp, FL.look_wl, FL.eqOk_fr, FL.eqOk_sp, FL.eqOk_wl, FL.deq_fr, FL.deq_sp, FL.deq_wl, FL.tyD_fr, FL.tyD_sp, FL.tyD_wl, FL.isN_fr, FL.isN_sp, FL.isN_wl, FL.lenD_sp, FL.lenD_wl, FL.rAdd_wl_tup, List.length_map, List.map_cons, List.map_nil, List.replicate, List.set_cons_zero, List.set_cons_succ, List.getElem?_cons_zero, List.getElem?_cons_succ, List.cons_append, List.nil_append, List.length_cons, List.length_nil, Option.bind_some, Option.map_some, ↓reduceIte, Nat.reduceAdd, Nat.reduceSub, Nat.reduceLT, Nat.reduceLeDiff, Nat.zero_add, decide_eq_true_eq, Bool.not_eq_true, ne_eq, reduceCtorEq, not_false_eq_true, true_and, and_true, Bool.false_eq_true, Bool.not_true, Bool.not_false, decide_true, decide_false, not_true_eq_false, eq_self, Bool.not_eq_eq_eq_not, if_true, if_false, decide_eq_false_iff_not, ML.ncast, Int.reduceToNat, Int.reducePow, Int.reduceAdd, Int.reduceSub, Int.reduceMul, Int.reduceNeg, Int.reduceLT, Int.reduceLE, Int.reduceEq, Nat.reduceEqDiff, Int.zero_add, gt_iff_lt, beq_self_eq_true, Bool.true_beq, Bool.false_beq, Bool.and_true, Bool.and_false, Bool.true_and, Bool.false_and, ↓ML.l_mtInsert, ↓ML.l_mtReverse, ↓ML.l_mtClear, ↓ML.l_bSortU, ↓ML.q_mMt0, ↓ML.l_bMaxL, ↓ML.l_bMinL, ↓ML.l_aLt_int, ↓ML.l_aLt_u, ↓ML.l_aGt_int, ↓ML.l_aGt_u, ↓ML.l_aLe_int, ↓ML.l_aLe_u, ↓ML.l_aGe_int, ↓ML.l_aGe_u, ↓ML.l_bMaxA_int, ↓ML.l_bMaxA_u, ↓ML.l_bMinA_int, ↓ML.l_bMinA_u, ML.tup_u, ML.tupOf_u, ML.seqOf_u, ML.sqI_u, ML.look_u, ML.isN_u, ML.lenD_u, ML.tyD_u, ML.tup_uw, ML.tupOf_uw, ML.seqOf_uw, ML.sqI_uw, ML.look_uw, ML.isN_uw, ML.lenD_uw, ML.tyD_uw, ML.eqOk_u, ML.eqOk_uw, ML.deq_u, ML.deq_uw, ML.in_uw, ↓ML.l_mRaise, ↓ML.l_mTry, ↓ML.l_mIsE, ↓ML.l_mIsV, ↓ML.l_mtCount, ↓ML.l_rAddS_rl, ↓ML.l_rAddS_ll, ML.excD_ref, ML.excOf_exc, ML.blsOf_nil, ML.blsOf_cons, ML.endM_nx, ML.endM_rt, ↓ML.l_mYes, ↓ML.l_iS, ↓ML.l_mIfJ, ↓ML.l_mJ, ↓ML.CrollP_nil, ↓ML.CrollP_cons, ↓ML.CrA_at, ↓ML.FrollP_nil, ↓ML.FrollP_cons, ML.isN_non, ML.isN_int, ML.isN_bl, ML.isN_str, ML.isN_tup, ML.isN_lst, ML.isN_ref, ML.sqI_tup, ML.sqI_lst, ML.sqI_scr, ML.sqI_ref, ML.sqI_at, ML.rngD_0, ML.rngD_1, ML.rngD_2, ML.rngD_3, ML.rngD_4, ML.rngD_6, ML.q_wipeM_nil, ML.q_wipeM_cons, FL.sqI_sp, FL.sqI_wl, FL.l_rAdd_rl, FL.l_rAdd_ll, FL.l_rAdd_lr, FL.l_rAdd_rr, FL.in_ints, $ls,*] $[$l]?)
local macro_rules | `(tactic| simp $c:optConfig $[$d:discharger]? only [gg] $[$l:location]?) => `(tactic| simp $c $[$d]? only [↓ML.q_mSeq, ↓ML.q_mC, ↓ML.q_mOp, ↓ML.q_mUn, ↓ML.q_mTst, ↓ML.q_mNot, ↓ML.q_mNotV, ↓ML.q_mRet, ↓ML.q_mRetN, ↓ML.q_mExpr, ↓ML.q_mNext, ↓ML.q_mBreak, ↓ML.q_mCont, ↓ML.q_mAsg, ↓ML.q_gSb, ↓ML.q_mTup, ↓ML.q_mLst, ↓ML.q_mLstF, ↓ML.q_mCons, ↓ML.q_mNil, ↓ML.q_mBlt, ↓ML.q_rEqM, ↓ML.q_rNeM, ↓ML.q_iR1, ↓ML.q_iR2, ↓ML.q_iEn, ↓ML.q_iZp, ↓ML.q_mMt, ↓ML.q_mMt0, ↓ML.q_mYes, ↓ML.q_mCut, ↓ML.q_oNo, ↓ML.q_oSo, ↓ML.l_mCall, ↓ML.l_mAnd, ↓ML.l_mOr, ↓ML.l_mAndV, ↓ML.l_mOrV, ↓ML.l_mIf, ↓ML.l_mIfS, ↓ML.l_mChain, ↓ML.l_mVar, ↓ML.l_mFor, ↓ML.l_mWhile, ↓ML.l_mComp, ↓ML.l_mCompF, ↓ML.l_optP, ↓ML.l_Go, ↓ML.Hold_v, ↓ML.l_mSet, ↓ML.l_gNm, ↓ML.l_mPar, ↓ML.l_rIxM, ↓ML.l_rSetM, ↓ML.l_rInt, ↓ML.l_rInt0, ↓ML.l_rAdd_int, ↓ML.l_rAdd_str, ↓ML.l_rAdd_tup, ↓ML.l_rNeg, ↓ML.l_rIsN, ↓ML.l_rNotN, ↓ML.l_rIsBM, ↓ML.l_mTru, ↓ML.l_bLen, ↓ML.l_bAbs, ↓ML.l_bMax2, ↓ML.l_bMin2, ↓ML.l_bInt_i, ↓ML.l_bInt_b, ↓ML.l_bTuple, ↓ML.l_bListF, ↓ML.l_bList, ↓ML.l_mIsi, ↓ML.l_iL, ↓ML.l_iT, ↓ML.l_gTp, ↓ML.l_gLs, ↓ML.l_gCn, ↓ML.l_gNl, ↓ML.l_mtAppend, ML.Hold_v, ML.l_mVar_z, ML.l_mVar_s, ML.OptP_some, ML.Go_eq, ML.IteP_true, ML.IteP_false, ML.lstOf_ref', ML.lstOf_lst, ML.lstOf_scr, ML.lstOf_tup, ML.ownOf_ref', ML.ownOf_lst, ML.seqOf_tup', ML.seqOf_lst', ML.seqOf_scr', ML.seqOf_ref', ML.olP_lst, ML.tupOf_tup, ML.ixL_lit, ML.ixL_cast, ML.ixL_m1, ML.setAt_lit, ML.setAt_cast, ML.truD_bl, ML.truD_int, ML.truD_tup, ML.truD_lst, ML.truD_scr, ML.truD_non, ML.lenD_tup, ML.lenD_lst, ML.lenD_scr, ML.lenD_ref, ML.tyD_non, ML.tyD_bl, ML.tyD_int, ML.tyD_str, ML.tyD_tup, ML.tyD_lst, ML.szl, ML.szlt, ML.cpow_lit, ML.mulok_rl, ML.mulok_ll, ML.divok_l, ML.put_same, ML.put_put, ML.q_wipeM, ML.deq_int, ML.deq_bl, ML.deq_str, ML.deq_non, ML.eqOk_int, ML.eqOk_bl, ML.isTy_NoneType_int, ML.isTy_NoneType_bool, ML.isTy_NoneType_tuple, ML.isTy_NoneType_list, ML.isTy_NoneType_str, ML.isTy_bool_int, ML.isTy_bool_bool, ML.isTy_bool_tuple, ML.isTy_bool_list, ML.isTy_bool_str, ML.isTy_int_int, ML.isTy_int_bool, ML.isTy_int_tuple, ML.isTy_int_list, ML.isTy_int_str, ML.isTy_str_int, ML.isTy_str_bool, ML.isTy_str_tuple, ML.isTy_str_list, ML.isTy_str_str, ML.isTy_tuple_int, ML.isTy_tuple_bool, ML.isTy_tuple_tuple, ML.isTy_tuple_list, ML.isTy_tuple_str, ML.isTy_list_int, ML.isTy_list_bool, ML.isTy_list_tuple, ML.isTy_list_list, ML.isTy_list_str, ML.isTy_dict_int, ML.isTy_dict_bool, ML.isTy_dict_tuple, ML.isTy_dict_list, ML.isTy_dict_str, FL.tup_fr, FL.tup_sp, FL.tup_wl, FL.tupOf_fr, FL.tupOf_sp, FL.tupOf_wl, FL.nz0, FL.nz1, FL.nz2, FL.nz3, FL.look_non, FL.look_int, FL.look_bl, FL.look_str, FL.look_tup, FL.look_lst, FL.look_scr, FL.seqOf_fr, FL.seqOf_sp, FL.seqOf_wl, FL.look_fr, FL.look_sp, FL.look_wl, FL.eqOk_fr, FL.eqOk_sp, FL.eqOk_wl, FL.deq_fr, FL.deq_sp, FL.deq_wl, FL.tyD_fr, FL.tyD_sp, FL.tyD_wl, FL.isN_fr, FL.isN_sp, FL.isN_wl, FL.lenD_sp, FL.lenD_wl, FL.rAdd_wl_tup, List.length_map, List.map_cons, List.map_nil, List.replicate, List.set_cons_zero, List.set_cons_succ, List.getElem?_cons_zero, List.getElem?_cons_succ, List.cons_append, List.nil_append, List.length_cons, List.length_nil, Option.bind_some, Option.map_some, ↓reduceIte, Nat.reduceAdd, Nat.reduceSub, Nat.reduceLT, Nat.reduceLeDiff, Nat.zero_add, decide_eq_true_eq, Bool.not_eq_true, ne_eq, reduceCtorEq, not_false_eq_true, true_and, and_true, Bool.false_eq_true, Bool.not_true, Bool.not_false, decide_true, decide_false, not_true_eq_false, eq_self, Bool.not_eq_eq_eq_not, if_true, if_false, decide_eq_false_iff_not, ML.ncast, Int.reduceToNat, Int.reducePow, Int.reduceAdd, Int.reduceSub, Int.reduceMul, Int.reduceNeg, Int.reduceLT, Int.reduceLE, Int.reduceEq, Nat.reduceEqDiff, Int.zero_add, gt_iff_lt, beq_self_eq_true, Bool.true_beq, Bool.false_beq, Bool.and_true, Bool.and_false, Bool.true_and, Bool.false_and, ↓ML.l_mtInsert, ↓ML.l_mtReverse, ↓ML.l_mtClear, ↓ML.l_bSortU, ↓ML.q_mMt0, ↓ML.l_bMaxL, ↓ML.l_bMinL, ↓ML.l_aLt_int, ↓ML.l_aLt_u, ↓ML.l_aGt_int, ↓ML.l_aGt_u, ↓ML.l_aLe_int, ↓ML.l_aLe_u, ↓ML.l_aGe_int, ↓ML.l_aGe_u, ↓ML.l_bMaxA_int, ↓ML.l_bMaxA_u, ↓ML.l_bMinA_int, ↓ML.l_bMinA_u, ML.tup_u, ML.tupOf_u, ML.seqOf_u, ML.sqI_u, ML.look_u, ML.isN_u, ML.lenD_u, ML.tyD_u, ML.tup_uw, ML.tupOf_uw, ML.seqOf_uw, ML.sqI_uw, ML.look_uw, ML.isN_uw, ML.lenD_uw, ML.tyD_uw, ML.eqOk_u, ML.eqOk_uw, ML.deq_u, ML.deq_uw, ML.in_uw, ↓ML.l_mRaise, ↓ML.l_mTry, ↓ML.l_mIsE, ↓ML.l_mIsV, ↓ML.l_mtCount, ↓ML.l_rAddS_rl, ↓ML.l_rAddS_ll, ML.excD_ref, ML.excOf_exc, ML.blsOf_nil, ML.blsOf_cons, ML.endM_nx, ML.endM_rt, ↓ML.l_mYes, ↓ML.l_iS, ↓ML.l_mIfJ, ↓ML.l_mJ, ↓ML.CrollP_nil, ↓ML.CrollP_cons, ↓ML.CrA_at, ↓ML.FrollP_nil, ↓ML.FrollP_cons, ML.isN_non, ML.isN_int, ML.isN_bl, ML.isN_str, ML.isN_tup, ML.isN_lst, ML.isN_ref, ML.sqI_tup, ML.sqI_lst, ML.sqI_scr, ML.sqI_ref, ML.sqI_at, ML.rngD_0, ML.rngD_1, ML.rngD_2, ML.rngD_3, ML.rngD_4, ML.rngD_6, ML.q_wipeM_nil, ML.q_wipeM_cons, FL.sqI_sp, FL.sqI_wl] $[$l]?)
local macro_rules | `(tactic| simp $c:optConfig $[$d:discharger]? only [gg, $ls,*] $[$l:location]?) => `(tactic| simp $c $[$d]? only [↓ML.q_mSeq, ↓ML.q_mC, ↓ML.q_mOp, ↓ML.q_mUn, ↓ML.q_mTst, ↓ML.q_mNot, ↓ML.q_mNotV, ↓ML.q_mRet, ↓ML.q_mRetN, ↓ML.q_mExpr, ↓ML.q_mNext, ↓ML.q_mBreak, ↓ML.q_mCont, ↓ML.q_mAsg, ↓ML.q_gSb, ↓ML.q_mTup, ↓ML.q_mLst, ↓ML.q_mLstF, ↓ML.q_mCons, ↓ML.q_mNil, ↓ML.q_mBlt, ↓ML.q_rEqM, ↓ML.q_rNeM, ↓ML.q_iR1, ↓ML.q_iR2, ↓ML.q_iEn, ↓ML.q_iZp, ↓ML.q_mMt, ↓ML.q_mMt0, ↓ML.q_mYes, ↓ML.q_mCut, ↓ML.q_oNo, ↓ML.q_oSo, ↓ML.l_mCall, ↓ML.l_mAnd, ↓ML.l_mOr, ↓ML.l_mAndV, ↓ML.l_mOrV, ↓ML.l_mIf, ↓ML.l_mIfS, ↓ML.l_mChain, ↓ML.l_mVar, ↓ML.l_mFor, ↓ML.l_mWhile, ↓ML.l_mComp, ↓ML.l_mCompF, ↓ML.l_optP, ↓ML.l_Go, ↓ML.Hold_v, ↓ML.l_mSet, ↓ML.l_gNm, ↓ML.l_mPar, ↓ML.l_rIxM, ↓ML.l_rSetM, ↓ML.l_rInt, ↓ML.l_rInt0, ↓ML.l_rAdd_int, ↓ML.l_rAdd_str, ↓ML.l_rAdd_tup, ↓ML.l_rNeg, ↓ML.l_rIsN, ↓ML.l_rNotN, ↓ML.l_rIsBM, ↓ML.l_mTru, ↓ML.l_bLen, ↓ML.l_bAbs, ↓ML.l_bMax2, ↓ML.l_bMin2, ↓ML.l_bInt_i, ↓ML.l_bInt_b, ↓ML.l_bTuple, ↓ML.l_bListF, ↓ML.l_bList, ↓ML.l_mIsi, ↓ML.l_iL, ↓ML.l_iT, ↓ML.l_gTp, ↓ML.l_gLs, ↓ML.l_gCn, ↓ML.l_gNl, ↓ML.l_mtAppend, ML.Hold_v, ML.l_mVar_z, ML.l_mVar_s, ML.OptP_some, ML.Go_eq, ML.IteP_true, ML.IteP_false, ML.lstOf_ref', ML.lstOf_lst, ML.lstOf_scr, ML.lstOf_tup, ML.ownOf_ref', ML.ownOf_lst, ML.seqOf_tup', ML.seqOf_lst', ML.seqOf_scr', ML.seqOf_ref', ML.olP_lst, ML.tupOf_tup, ML.ixL_lit, ML.ixL_cast, ML.ixL_m1, ML.setAt_lit, ML.setAt_cast, ML.truD_bl, ML.truD_int, ML.truD_tup, ML.truD_lst, ML.truD_scr, ML.truD_non, ML.lenD_tup, ML.lenD_lst, ML.lenD_scr, ML.lenD_ref, ML.tyD_non, ML.tyD_bl, ML.tyD_int, ML.tyD_str, ML.tyD_tup, ML.tyD_lst, ML.szl, ML.szlt, ML.cpow_lit, ML.mulok_rl, ML.mulok_ll, ML.divok_l, ML.put_same, ML.put_put, ML.q_wipeM, ML.deq_int, ML.deq_bl, ML.deq_str, ML.deq_non, ML.eqOk_int, ML.eqOk_bl, ML.isTy_NoneType_int, ML.isTy_NoneType_bool, ML.isTy_NoneType_tuple, ML.isTy_NoneType_list, ML.isTy_NoneType_str, ML.isTy_bool_int, ML.isTy_bool_bool, ML.isTy_bool_tuple, ML.isTy_bool_list, ML.isTy_bool_str, ML.isTy_int_int, ML.isTy_int_bool, ML.isTy_int_tuple, ML.isTy_int_list, ML.isTy_int_str, ML.isTy_str_int, ML.isTy_str_bool, ML.isTy_str_tuple, ML.isTy_str_list, ML.isTy_str_str, ML.isTy_tuple_int, ML.isTy_tuple_bool, ML.isTy_tuple_tuple, ML.isTy_tuple_list, ML.isTy_tuple_str, ML.isTy_list_int, ML.isTy_list_bool, ML.isTy_list_tuple, ML.isTy_list_list, ML.isTy_list_str, ML.isTy_dict_int, ML.isTy_dict_bool, ML.isTy_dict_tuple, ML.isTy_dict_list, ML.isTy_dict_str, FL.tup_fr, FL.tup_sp, FL.tup_wl, FL.tupOf_fr, FL.tupOf_sp, FL.tupOf_wl, FL.nz0, FL.nz1, FL.nz2, FL.nz3, FL.look_non, FL.look_int, FL.look_bl, FL.look_str, FL.look_tup, FL.look_lst, FL.look_scr, FL.seqOf_fr, FL.seqOf_sp, FL.seqOf_wl, FL.look_fr, FL.look_sp, FL.look_wl, FL.eqOk_fr, FL.eqOk_sp, FL.eqOk_wl, FL.deq_fr, FL.deq_sp, FL.deq_wl, FL.tyD_fr, FL.tyD_sp, FL.tyD_wl, FL.isN_fr, FL.isN_sp, FL.isN_wl, FL.lenD_sp, FL.lenD_wl, FL.rAdd_wl_tup, List.length_map, List.map_cons, List.map_nil, List.replicate, List.set_cons_zero, List.set_cons_succ, List.getElem?_cons_zero, List.getElem?_cons_succ, List.cons_append, List.nil_append, List.length_cons, List.length_nil, Option.bind_some, Option.map_some, ↓reduceIte, Nat.reduceAdd, Nat.reduceSub, Nat.reduceLT, Nat.reduceLeDiff, Nat.zero_add, decide_eq_true_eq, Bool.not_eq_true, ne_eq, reduceCtorEq, not_false_eq_true, true_and, and_true, Bool.false_eq_true, Bool.not_true, Bool.not_false, decide_true, decide_false, not_true_eq_false, eq_self, Bool.not_eq_eq_eq_not, if_true, if_false, decide_eq_false_iff_not, ML.ncast, Int.reduceToNat, Int.reducePow, Int.reduceAdd, Int.reduceSub, Int.reduceMul, Int.reduceNeg, Int.reduceLT, Int.reduceLE, Int.reduceEq, Nat.reduceEqDiff, Int.zero_add, gt_iff_lt, beq_self_eq_true, Bool.true_beq, Bool.false_beq, Bool.and_true, Bool.and_false, Bool.true_and, Bool.false_and, ↓ML.l_mtInsert, ↓ML.l_mtReverse, ↓ML.l_mtClear, ↓ML.l_bSortU, ↓ML.q_mMt0, ↓ML.l_bMaxL, ↓ML.l_bMinL, ↓ML.l_aLt_int, ↓ML.l_aLt_u, ↓ML.l_aGt_int, ↓ML.l_aGt_u, ↓ML.l_aLe_int, ↓ML.l_aLe_u, ↓ML.l_aGe_int, ↓ML.l_aGe_u, ↓ML.l_bMaxA_int, ↓ML.l_bMaxA_u, ↓ML.l_bMinA_int, ↓ML.l_bMinA_u, ML.tup_u, ML.tupOf_u, ML.seqOf_u, ML.sqI_u, ML.look_u, ML.isN_u, ML.lenD_u, ML.tyD_u, ML.tup_uw, ML.tupOf_uw, ML.seqOf_uw, ML.sqI_uw, ML.look_uw, ML.isN_uw, ML.lenD_uw, ML.tyD_uw, ML.eqOk_u, ML.eqOk_uw, ML.deq_u, ML.deq_uw, ML.in_uw, ↓ML.l_mRaise, ↓ML.l_mTry, ↓ML.l_mIsE, ↓ML.l_mIsV, ↓ML.l_mtCount, ↓ML.l_rAddS_rl, ↓ML.l_rAddS_ll, ML.excD_ref, ML.excOf_exc, ML.blsOf_nil, ML.blsOf_cons, ML.endM_nx, ML.endM_rt, ↓ML.l_mYes, ↓ML.l_iS, ↓ML.l_mIfJ, ↓ML.l_mJ, ↓ML.CrollP_nil, ↓ML.CrollP_cons, ↓ML.CrA_at, ↓ML.FrollP_nil, ↓ML.FrollP_cons, ML.isN_non, ML.isN_int, ML.isN_bl, ML.isN_str, ML.isN_tup, ML.isN_lst, ML.isN_ref, ML.sqI_tup, ML.sqI_lst, ML.sqI_scr, ML.sqI_ref, ML.sqI_at, ML.rngD_0, ML.rngD_1, ML.rngD_2, ML.rngD_3, ML.rngD_4, ML.rngD_6, ML.q_wipeM_nil, ML.q_wipeM_cons, FL.sqI_sp, FL.sqI_wl, $ls,*] $[$l]?)
end FL
namespace FL
open PySem PySem.Spec L2 ML
/-! ### how two walls meet -/
/-! ### either way about -/
end FL
namespace FL
open PySem PySem.Spec L2 ML
/-! ### a part of a wall's length -/
end FL
set_option maxRecDepth 100000
namespace FL
open PySem PySem.Spec L2 ML
end FL
set_option maxRecDepth 100000
set_option maxHeartbeats 4000000
namespace FL
-- counts /tmp/scratch/dev/N_lib4.json
open PySem PySem.Spec L2 ML
local macro_rules | `(tactic| simp $c:optConfig $[$d:discharger]? only [gw] $[$l:location]?) => `(tactic| simp $c $[$d]? only [↓ML.q_mSeq, ↓ML.q_mC, ↓ML.q_mOp, ↓ML.q_mUn, ↓ML.q_mTst, ↓ML.q_mNot, ↓ML.q_mNotV, ↓ML.q_mRet, ↓ML.q_mRetN, ↓ML.q_mExpr, ↓ML.q_mNext, ↓ML.q_mBreak, ↓ML.q_mCont, ↓ML.q_mAsg, ↓ML.q_gSb, ↓ML.q_mTup, ↓ML.q_mLst, ↓ML.q_mLstF, ↓ML.q_mCons, ↓ML.q_mNil, ↓ML.q_mBlt, ↓ML.q_rEqM, ↓ML.q_rNeM, ↓ML.q_iR1, ↓ML.q_iR2, ↓ML.q_iEn, ↓ML.q_iZp, ↓ML.q_mMt, ↓ML.q_mMt0, ↓ML.q_mYes, ↓ML.q_mCut, ↓ML.q_oNo, ↓ML.q_oSo, ↓ML.l_mCall, ↓ML.l_mAnd, ↓ML.l_mOr, ↓ML.l_mAndV, ↓ML.l_mOrV, ↓ML.l_mIf, ↓ML.l_mIfS, ↓ML.l_mChain, ↓ML.l_mVar, ↓ML.l_mFor, ↓ML.l_mWhile, ↓ML.l_mComp, ↓ML.l_mCompF, ↓ML.l_optP, ↓ML.l_Go, ↓ML.Hold_v, ↓ML.l_mSet, ↓ML.l_gNm, ↓ML.l_mPar, ↓ML.l_rIxM, ↓ML.l_rSetM, ↓ML.l_rInt, ↓ML.l_rInt0, ↓ML.l_rAdd_int, ↓ML.l_rAdd_str, ↓ML.l_rAdd_tup, ↓ML.l_rNeg, ↓ML.l_rIsN, ↓ML.l_rNotN, ↓ML.l_rIsBM, ↓ML.l_mTru, ↓ML.l_bLen, ↓ML.l_bAbs, ↓ML.l_bMax2, ↓ML.l_bMin2, ↓ML.l_bInt_i, ↓ML.l_bInt_b, ↓ML.l_bTuple, ↓ML.l_bListF, ↓ML.l_bList, ↓ML.l_mIsi, ↓ML.l_iL, ↓ML.l_iT, ↓ML.l_gTp, ↓ML.l_gLs, ↓ML.l_gCn, ↓ML.l_gNl, ↓ML.l_mtAppend, ML.Hold_v, ML.l_mVar_z, ML.l_mVar_s, ML.OptP_some, ML.Go_eq, ML.IteP_true, ML.IteP_false, ML.lstOf_ref', ML.lstOf_lst, ML.lstOf_scr, ML.lstOf_tup, ML.ownOf_ref', ML.ownOf_lst, ML.seqOf_tup', ML.seqOf_lst', ML.seqOf_scr', ML.seqOf_ref', ML.olP_lst, ML.tupOf_tup, ML.ixL_lit, ML.ixL_cast, ML.ixL_m1, ML.setAt_lit, ML.setAt_cast, ML.truD_bl, ML.truD_int, ML.truD_tup, ML.truD_lst, ML.truD_scr, ML.truD_non, ML.lenD_tup, ML.lenD_lst, ML.lenD_scr, ML.lenD_ref, ML.tyD_non, ML.tyD_bl, ML.tyD_int, ML.tyD_str, ML.tyD_tup, ML.tyD_lst, ML.szl, ML.szlt, ML.cpow_lit, ML.mulok_rl, ML.mulok_ll, ML.divok_l, ML.put_same, ML.put_put, ML.q_wipeM, ML.deq_int, ML.deq_bl, ML.deq_str, ML.deq_non, ML.eqOk_int, ML.eqOk_bl, ML.isTy_NoneType_int, ML.isTy_NoneType_bool, ML.isTy_NoneType_tuple, ML.isTy_NoneType_list, ML.isTy_NoneType_str, ML.isTy_bool_int, ML.isTy_bool_bool, ML.isTy_bool_tuple, ML.isTy_bool_list, ML.isTy_bool_str, ML.isTy_int_int, ML.isTy_int_bool, ML.isTy_int_tuple, ML.isTy_int_list, ML.isTy_int_str, ML.isTy_str_int, ML.isTy_str_bool, ML.isTy_str_tuple, ML.isTy_str_list, ML.isTy_str_str, ML.isTy_tuple_int, ML.isTy_tuple_bool, ML.isTy_tuple_tuple, ML.isTy_tuple_list, ML.isTy_tuple_str, ML.isTy_list_int, ML.isTy_list_bool, ML.isTy_list_tuple, ML.isTy_list_list, ML.isTy_list_str, ML.isTy_dict_int, ML.isTy_dict_bool, ML.isTy_dict_tuple, ML.isTy_dict_list, ML.isTy_dict_str, FL.tup_fr, FL.tup_sp, FL.tup_wl, FL.tupOf_fr, FL.tupOf_sp, FL.tupOf_wl, FL.nz0, FL.nz1, FL.nz2, FL.nz3, FL.look_non, FL.look_int, FL.look_bl, FL.look_str, FL.look_tup, FL.look_lst, FL.look_scr, FL.seqOf_fr, FL.seqOf_sp, FL.seqOf_wl, FL.look_fr, FL.look_sp, FL.look_wl, FL.eqOk_fr, FL.eqOk_sp, FL.eqOk_wl, FL.deq_fr, FL.deq_sp, FL.deq_wl, FL.tyD_fr, FL.tyD_sp, FL.tyD_wl, FL.isN_fr, FL.isN_sp, FL.isN_wl, FL.lenD_sp, FL.lenD_wl, FL.rAdd_wl_tup, List.length_map, List.map_cons, List.map_nil, List.replicate, List.set_cons_zero, List.set_cons_succ, List.getElem?_cons_zero, List.getElem?_cons_succ, List.cons_append, List.nil_append, List.length_cons, List.length_nil, Option.bind_some, Option.map_some, ↓reduceIte, Nat.reduceAdd, Nat.reduceSub, Nat.reduceLT, Nat.reduceLeDiff, Nat.zero_add, decide_eq_true_eq, Bool.not_eq_true, ne_eq, reduceCtorEq, not_false_eq_true, true_and, and_true, Bool.false_eq_true, Bool.not_true, Bool.not_false, decide_true, decide_false, not_true_eq_false, eq_self, Bool.not_eq_eq_eq_not, if_true, if_false, decide_eq_false_iff_not, ML.ncast, Int.reduceToNat, Int.reducePow, Int.reduceAdd, Int.reduceSub, Int.reduceMul, Int.reduceNeg, Int.reduceLT, Int.reduceLE, Int.reduceEq, Nat.reduceEqDiff, Int.zero_add, gt_iff_lt, beq_self_eq_true, Bool.true_beq, Bool.false_beq, Bool.and_true, Bool.and_false, Bool.true_and, Bool.false_and, ↓ML.l_mtInsert, ↓ML.l_mtReverse, ↓ML.l_mtClear, ↓ML.l_bSortU, ↓ML.q_mMt0, ↓ML.l_bMaxL, ↓ML.l_bMinL, ↓ML.l_aLt_int, ↓ML.l_aLt_u, ↓ML.l_aGt_int, ↓ML.l_aGt_u, ↓ML.l_aLe_int, ↓ML.l_aLe_u, ↓ML.l_aGe_int, ↓ML.l_aGe_u, ↓ML.l_bMaxA_int, ↓ML.l_bMaxA_u, ↓ML.l_bMinA_int, ↓ML.l_bMinA_u, ML.tup_u, ML.tupOf_u, ML.seqOf_u, ML.sqI_u, ML.look_u, ML.isN_u, ML.lenD_u, ML.tyD_u, ML.tup_uw, ML.tupOf_uw, ML.seqOf_uw, ML.sqI_uw, ML.look_uw, ML.isN_uw, ML.lenD_uw, ML.tyD_uw, ML.eqOk_u, ML.eqOk_uw, ML.deq_u, ML.deq_uw, ML.in_uw, ↓ML.l_mRaise, ↓ML.l_mTry, ↓ML.l_mIsE, ↓ML.l_mIsV, ↓ML.l_mtCount, ↓ML.l_rAddS_rl, ↓ML.l_rAddS_ll, ML.excD_ref, ML.excOf_exc, ML.blsOf_nil, ML.blsOf_cons, ML.endM_nx, ML.endM_rt, ↓ML.l_mYes, ↓ML.l_iS, ↓ML.l_mIfJ, ↓ML.l_mJ, ↓ML.CrollP_nil, ↓ML.CrollP_cons, ↓ML.CrA_at, ↓ML.FrollP_nil, ↓ML.FrollP_cons, ML.isN_non, ML.isN_int, ML.isN_bl, ML.isN_str, ML.isN_tup, ML.isN_lst, ML.isN_ref, ML.sqI_tup, ML.sqI_lst, ML.sqI_scr, ML.sqI_ref, ML.sqI_at, ML.rngD_0, ML.rngD_1, ML.rngD_2, ML.rngD_3, ML.rngD_4, ML.rngD_6, ML.q_wipeM_nil, ML.q_wipeM_cons, FL.sqI_sp, FL.sqI_wl, ↓FL.c_plus, ↓FL.c_less, ↓FL.c_law_less, ↓FL.c_times, ↓FL.c_over, ↓FL.c_is_less, ↓FL.c_is_ahead, ↓FL.c_along, ↓FL.c_crossed, ↓FL.c_leaning, ↓FL.c_side_of, ↓FL.c_lies_on, ↓FL.c_spans] $[$l]?)
local macro_rules | `(tactic| simp $c:optConfig $[$d:discharger]? only [gw, $ls,*] $[$l:location]?) => `(tactic| simp $c $[$d]? only [↓ML.q_mSeq, ↓ML.q_mC, ↓ML.q_mOp, ↓ML.q_mUn, ↓ML.q_mTst, ↓ML.q_mNot, ↓ML.q_mNotV, ↓ML.q_mRet, ↓ML.q_mRetN, ↓ML.q_mExpr, ↓ML.q_mNext, ↓ML.q_mBreak, ↓ML.q_mCont, ↓ML.q_mAsg, ↓ML.q_gSb, ↓ML.q_mTup, ↓ML.q_mLst, ↓ML.q_mLstF, ↓ML.q_mCons, ↓ML.q_mNil, ↓ML.q_mBlt, ↓ML.q_rEqM, ↓ML.q_rNeM, ↓ML.q_iR1, ↓ML.q_iR2, ↓ML.q_iEn, ↓ML.q_iZp, ↓ML.q_mMt, ↓ML.q_mMt0, ↓ML.q_mYes, ↓ML.q_mCut, ↓ML.q_oNo, ↓ML.q_oSo, ↓ML.l_mCall, ↓ML.l_mAnd, ↓ML.l_mOr, ↓ML.l_mAndV, ↓ML.l_mOrV, ↓ML.l_mIf, ↓ML.l_mIfS, ↓ML.l_mChain, ↓ML.l_mVar, ↓ML.l_mFor, ↓ML.l_mWhile, ↓ML.l_mComp, ↓ML.l_mCompF, ↓ML.l_optP, ↓ML.l_Go, ↓ML.Hold_v, ↓ML.l_mSet, ↓ML.l_gNm, ↓ML.l_mPar, ↓ML.l_rIxM, ↓ML.l_rSetM, ↓ML.l_rInt, ↓ML.l_rInt0, ↓ML.l_rAdd_int, ↓ML.l_rAdd_str, ↓ML.l_rAdd_tup, ↓ML.l_rNeg, ↓ML.l_rIsN, ↓ML.l_rNotN, ↓ML.l_rIsBM, ↓ML.l_mTru, ↓ML.l_bLen, ↓ML.l_bAbs, ↓ML.l_bMax2, ↓ML.l_bMin2, ↓ML.l_bInt_i, ↓ML.l_bInt_b, ↓ML.l_bTuple, ↓ML.l_bListF, ↓ML.l_bList, ↓ML.l_mIsi, ↓ML.l_iL, ↓ML.l_iT, ↓ML.l_gTp, ↓ML.l_gLs, ↓ML.l_gCn, ↓ML.l_gNl, ↓ML.l_mtAppend, ML.Hold_v, ML.l_mVar_z, ML.l_mVar_s, ML.OptP_some, ML.Go_eq, ML.IteP_true, ML.IteP_false, ML.lstOf_ref', ML.lstOf_lst, ML.lstOf_scr, ML.lstOf_tup, ML.ownOf_ref', ML.ownOf_lst, ML.seqOf_tup', ML.seqOf_lst', ML.seqOf_scr', ML.seqOf_ref', ML.olP_lst, ML.tupOf_tup, ML.ixL_lit, ML.ixL_cast, ML.ixL_m1, ML.setAt_lit, ML.setAt_cast, ML.truD_bl, ML.truD_int, ML.truD_tup, ML.truD_lst, ML.truD_scr, ML.truD_non, ML.lenD_tup, ML.lenD_lst, ML.lenD_scr, ML.lenD_ref, ML.tyD_non, ML.tyD_bl, ML.tyD_int, ML.tyD_str, ML.tyD_tup, ML.tyD_lst, ML.szl, ML.szlt, ML.cpow_lit, ML.mulok_rl, ML.mulok_ll, ML.divok_l, ML.put_same, ML.put_put, ML.q_wipeM, ML.deq_int, ML.deq_bl, ML.deq_str, ML.deq_non, ML.eqOk_int, ML.eqOk_bl, ML.isTy_NoneType_int, ML.isTy_NoneType_bool, ML.isTy_NoneType_tuple, ML.isTy_NoneType_list, ML.isTy_NoneType_str, ML.isTy_bool_int, ML.isTy_bool_bool, ML.isTy_bool_tuple, ML.isTy_bool_list, ML.isTy_bool_str, ML.isTy_int_int, ML.isTy_int_bool, ML.isTy_int_tuple, ML.isTy_int_list, ML.isTy_int_str, ML.isTy_str_int, ML.isTy_str_bool, ML.isTy_str_tuple, ML.isTy_str_list, ML.isTy_str_str, ML.isTy_tuple_int, ML.isTy_tuple_bool, ML.isTy_tuple_tuple, ML.isTy_tuple_list, ML.isTy_tuple_str, ML.isTy_list_int, ML.isTy_list_bool, ML.isTy_list_tuple, ML.isTy_list_list, ML.isTy_list_str, ML.isTy_dict_int, ML.isTy_dict_bool, ML.isTy_dict_tuple, ML.isTy_dict_list, ML.isTy_dict_str, FL.tup_fr, FL.tup_sp, FL.tup_wl, FL.tupOf_fr, FL.tupOf_sp, FL.tupOf_wl, FL.nz0, FL.nz1, FL.nz2, FL.nz3, FL.look_non, FL.look_int, FL.look_bl, FL.look_str, FL.look_tup, FL.look_lst, FL.look_scr, FL.seqOf_fr, FL.seqOf_sp, FL.seqOf_wl, FL.look_fr, FL.look_sp, FL.look_wl, FL.eqOk_fr, FL.eqOk_sp, FL.eqOk_wl, FL.deq_fr, FL.deq_sp, FL.deq_wl, FL.tyD_fr, FL.tyD_sp, FL.tyD_wl, FL.isN_fr, FL.isN_sp, FL.isN_wl, FL.lenD_sp, FL.lenD_wl, FL.rAdd_wl_tup, List.length_map, List.map_cons, List.map_nil, List.replicate, List.set_cons_zero, List.set_cons_succ, List.getElem?_cons_zero, List.getElem?_cons_succ, List.cons_append, List.nil_append, List.length_cons, List.length_nil, Option.bind_some, Option.map_some, ↓reduceIte, Nat.reduceAdd, Nat.reduceSub, Nat.reduceLT, Nat.reduceLeDiff, Nat.zero_add, decide_eq_true_eq, Bool.not_eq_true, ne_eq, reduceCtorEq, not_false_eq_true, true_and, and_true, Bool.false_eq_true, Bool.not_true, Bool.not_false, decide_true, decide_false, not_true_eq_false, eq_self, Bool.not_eq_eq_eq_not, if_true, if_false, decide_eq_false_iff_not, ML.ncast, Int.reduceToNat, Int.reducePow, Int.reduceAdd, Int.reduceSub, Int.reduceMul, Int.reduceNeg, Int.reduceLT, Int.reduceLE, Int.reduceEq, Nat.reduceEqDiff, Int.zero_add, gt_iff_lt, beq_self_eq_true, Bool.true_beq, Bool.false_beq, Bool.and_true, Bool.and_false, Bool.true_and, Bool.false_and, ↓ML.l_mtInsert, ↓ML.l_mtReverse, ↓ML.l_mtClear, ↓ML.l_bSortU, ↓ML.q_mMt0, ↓ML.l_bMaxL, ↓ML.l_bMinL, ↓ML.l_aLt_int, ↓ML.l_aLt_u, ↓ML.l_aGt_int, ↓ML.l_aGt_u, ↓ML.l_aLe_int, ↓ML.l_aLe_u, ↓ML.l_aGe_int, ↓ML.l_aGe_u, ↓ML.l_bMaxA_int, ↓ML.l_bMaxA_u, ↓ML.l_bMinA_int, ↓ML.l_bMinA_u, ML.tup_u, ML.tupOf_u, ML.seqOf_u, ML.sqI_u, ML.look_u, ML.isN_u, ML.lenD_u, ML.tyD_u, ML.tup_uw, ML.tupOf_uw, ML.seqOf_uw, ML.sqI_uw, ML.look_uw, ML.isN_uw, ML.lenD_uw, ML.tyD_uw, ML.eqOk_u, ML.eqOk_uw, ML.deq_u, ML.deq_uw, ML.in_uw, ↓ML.l_mRaise, ↓ML.l_mTry, ↓ML.l_mIsE, ↓ML.l_mIsV, ↓ML.l_mtCount, ↓ML.l_rAddS_rl, ↓ML.l_rAddS_ll, ML.excD_ref, ML.excOf_exc, ML.blsOf_nil, ML.blsOf_cons, ML.endM_nx, ML.endM_rt, ↓ML.l_mYes, ↓ML.l_iS, ↓ML.l_mIfJ, ↓ML.l_mJ, ↓ML.CrollP_nil, ↓ML.CrollP_cons, ↓ML.CrA_at, ↓ML.FrollP_nil, ↓ML.FrollP_cons, ML.isN_non, ML.isN_int, ML.isN_bl, ML.isN_str, ML.isN_tup, ML.isN_lst, ML.isN_ref, ML.sqI_tup, ML.sqI_lst, ML.sqI_scr, ML.sqI_ref, ML.sqI_at, ML.rngD_0, ML.rngD_1, ML.rngD_2, ML.rngD_3, ML.rngD_4, ML.rngD_6, ML.q_wipeM_nil, ML.q_wipeM_cons, FL.sqI_sp, FL.sqI_wl, ↓FL.c_plus, ↓FL.c_less, ↓FL.c_law_less, ↓FL.c_times, ↓FL.c_over, ↓FL.c_is_less, ↓FL.c_is_ahead, ↓FL.c_along, ↓FL.c_crossed, ↓FL.c_leaning, ↓FL.c_side_of, ↓FL.c_lies_on, ↓FL.c_spans, $ls,*] $[$l]?)
local macro_rules | `(tactic| simp $c:optConfig $[$d:discharger]? only [gg] $[$l:location]?) => `(tactic| simp $c $[$d]? only [↓ML.q_mSeq, ↓ML.q_mC, ↓ML.q_mOp, ↓ML.q_mUn, ↓ML.q_mTst, ↓ML.q_mNot, ↓ML.q_mNotV, ↓ML.q_mRet, ↓ML.q_mRetN, ↓ML.q_mExpr, ↓ML.q_mNext, ↓ML.q_mBreak, ↓ML.q_mCont, ↓ML.q_mAsg, ↓ML.q_gSb, ↓ML.q_mTup, ↓ML.q_mLst, ↓ML.q_mLstF, ↓ML.q_mCons, ↓ML.q_mNil, ↓ML.q_mBlt, ↓ML.q_rEqM, ↓ML.q_rNeM, ↓ML.q_iR1, ↓ML.q_iR2, ↓ML.q_iEn, ↓ML.q_iZp, ↓ML.q_mMt, ↓ML.q_mMt0, ↓ML.q_mYes, ↓ML.q_mCut, ↓ML.q_oNo, ↓ML.q_oSo, ↓ML.l_mCall, ↓ML.l_mAnd, ↓ML.l_mOr, ↓ML.l_mAndV, ↓ML.l_mOrV, ↓ML.l_mIf, ↓ML.l_mIfS, ↓ML.l_mChain, ↓ML.l_mVar, ↓ML.l_mFor, ↓ML.l_mWhile, ↓ML.l_mComp, ↓ML.l_mCompF, ↓ML.l_optP, ↓ML.l_Go, ↓ML.Hold_v, ↓ML.l_mSet, ↓ML.l_gNm, ↓ML.l_mPar, ↓ML.l_rIxM, ↓ML.l_rSetM, ↓ML.l_rInt, ↓ML.l_rInt0, ↓ML.l_rAdd_int, ↓ML.l_rAdd_str, ↓ML.l_rAdd_tup, ↓ML.l_rNeg, ↓ML.l_rIsN, ↓ML.l_rNotN, ↓ML.l_rIsBM, ↓ML.l_mTru, ↓ML.l_bLen, ↓ML.l_bAbs, ↓ML.l_bMax2, ↓ML.l_bMin2, ↓ML.l_bInt_i, ↓ML.l_bInt_b, ↓ML.l_bTuple, ↓ML.l_bListF, ↓ML.l_bList, ↓ML.l_mIsi, ↓ML.l_iL, ↓ML.l_iT, ↓ML.l_gTp, ↓ML.l_gLs, ↓ML.l_gCn, ↓ML.l_gNl, ↓ML.l_mtAppend, ML.Hold_v, ML.l_mVar_z, ML.l_mVar_s, ML.OptP_some, ML.Go_eq, ML.IteP_true, ML.IteP_false, ML.lstOf_ref', ML.lstOf_lst, ML.lstOf_scr, ML.lstOf_tup, ML.ownOf_ref', ML.ownOf_lst, ML.seqOf_tup', ML.seqOf_lst', ML.seqOf_scr', ML.seqOf_ref', ML.olP_lst, ML.tupOf_tup, ML.ixL_lit, ML.ixL_cast, ML.ixL_m1, ML.setAt_lit, ML.setAt_cast, ML.truD_bl, ML.truD_int, ML.truD_tup, ML.truD_lst, ML.truD_scr, ML.truD_non, ML.lenD_tup, ML.lenD_lst, ML.lenD_scr, ML.lenD_ref, ML.tyD_non, ML.tyD_bl, ML.tyD_int, ML.tyD_str, ML.tyD_tup, ML.tyD_lst, ML.szl, ML.szlt, ML.cpow_lit, ML.mulok_rl, ML.mulok_ll, ML.divok_l, ML.put_same, ML.put_put, ML.q_wipeM, ML.deq_int, ML.deq_bl, ML.deq_str, ML.deq_non, ML.eqOk_int, ML.eqOk_bl, ML.isTy_NoneType_int, ML.isTy_NoneType_bool, ML.isTy_NoneType_tuple, ML.isTy_NoneType_list, ML.isTy_NoneType_str, ML.isTy_bool_int, ML.isTy_bool_bool, ML.isTy_bool_tuple, ML.isTy_bool_list, ML.isTy_bool_str, ML.isTy_int_int, ML.isTy_int_bool, ML.isTy_int_tuple, ML.isTy_int_list, ML.isTy_int_str, ML.isTy_str_int, ML.isTy_str_bool, ML.isTy_str_tuple, ML.isTy_str_list, ML.isTy_str_str, ML.isTy_tuple_int, ML.isTy_tuple_bool, ML.isTy_tuple_tuple, ML.isTy_tuple_list, ML.isTy_tuple_str, ML.isTy_list_int, ML.isTy_list_bool, ML.isTy_list_tuple, ML.isTy_list_list, ML.isTy_list_str, ML.isTy_dict_int, ML.isTy_dict_bool, ML.isTy_dict_tuple, ML.isTy_dict_list, ML.isTy_dict_str, FL.tup_fr, FL.tup_sp, FL.tup_wl, FL.tupOf_fr, FL.tupOf_sp, FL.tupOf_wl, FL.nz0, FL.nz1, FL.nz2, FL.nz3, FL.look_non, FL.look_int, FL.look_bl, FL.look_str, FL.look_tup, FL.look_lst, FL.look_scr, FL.seqOf_fr, FL.seqOf_sp, FL.seqOf_wl, FL.look_fr, FL.look_sp, FL.look_wl, FL.eqOk_fr, FL.eqOk_sp, FL.eqOk_wl, FL.deq_fr, FL.deq_sp, FL.deq_wl, FL.tyD_fr, FL.tyD_sp, FL.tyD_wl, FL.isN_fr, FL.isN_sp, FL.isN_wl, FL.lenD_sp, FL.lenD_wl, FL.rAdd_wl_tup, List.length_map, List.map_cons, List.map_nil, List.replicate, List.set_cons_zero, List.set_cons_succ, List.getElem?_cons_zero, List.getElem?_cons_succ, List.cons_append, List.nil_append, List.length_cons, List.length_nil, Option.bind_some, Option.map_some, ↓reduceIte, Nat.reduceAdd, Nat.reduceSub, Nat.reduceLT, Nat.reduceLeDiff, Nat.zero_add, decide_eq_true_eq, Bool.not_eq_true, ne_eq, reduceCtorEq, not_false_eq_true, true_and, and_true, Bool.false_eq_true, Bool.not_true, Bool.not_false, decide_true, decide_false, not_true_eq_false, eq_self, Bool.not_eq_eq_eq_not, if_true, if_false, decide_eq_false_iff_not, ML.ncast, Int.reduceToNat, Int.reducePow, Int.reduceAdd, Int.reduceSub, Int.reduceMul, Int.reduceNeg, Int.reduceLT, Int.reduceLE, Int.reduceEq, Nat.reduceEqDiff, Int.zero_add, gt_iff_lt, beq_self_eq_true, Bool.true_beq, Bool.false_beq, Bool.and_true, Bool.and_false, Bool.true_and, Bool.false_and, ↓ML.l_mtInsert, ↓ML.l_mtReverse, ↓ML.l_mtClear, ↓ML.l_bSortU, ↓ML.q_mMt0, ↓ML.l_bMaxL, ↓ML.l_bMinL, ↓ML.l_aLt_int, ↓ML.l_aLt_u, ↓ML.l_aGt_int, ↓ML.l_aGt_u, ↓ML.l_aLe_int, ↓ML.l_aLe_u, ↓ML.l_aGe_int, ↓ML.l_aGe_u, ↓ML.l_bMaxA_int, ↓ML.l_bMaxA_u, ↓ML.l_bMinA_int, ↓ML.l_bMinA_u, ML.tup_u, ML.tupOf_u, ML.seqOf_u, ML.sqI_u, ML.look_u, ML.isN_u, ML.lenD_u, ML.tyD_u, ML.tup_uw, ML.tupOf_uw, ML.seqOf_uw, ML.sqI_uw, ML.look_uw, ML.isN_uw, ML.lenD_uw, ML.tyD_uw, ML.eqOk_u, ML.eqOk_uw, ML.deq_u, ML.deq_uw, ML.in_uw, ↓ML.l_mRaise, ↓ML.l_mTry, ↓ML.l_mIsE, ↓ML.l_mIsV, ↓ML.l_mtCount, ↓ML.l_rAddS_rl, ↓ML.l_rAddS_ll, ML.excD_ref, ML.excOf_exc, ML.blsOf_nil, ML.blsOf_cons, ML.endM_nx, ML.endM_rt, ↓ML.l_mYes, ↓ML.l_iS, ↓ML.l_mIfJ, ↓ML.l_mJ, ↓ML.CrollP_nil, ↓ML.CrollP_cons, ↓ML.CrA_at, ↓ML.FrollP_nil, ↓ML.FrollP_cons, ML.isN_non, ML.isN_int, ML.isN_bl, ML.isN_str, ML.isN_tup, ML.isN_lst, ML.isN_ref, ML.sqI_tup, ML.sqI_lst, ML.sqI_scr, ML.sqI_ref, ML.sqI_at, ML.rngD_0, ML.rngD_1, ML.rngD_2, ML.rngD_3, ML.rngD_4, ML.rngD_6, ML.q_wipeM_nil, ML.q_wipeM_cons, FL.sqI_sp, FL.sqI_wl] $[$l]?)
local macro_rules | `(tactic| simp $c:optConfig $[$d:discharger]? only [gg, $ls,*] $[$l:location]?) => `(tactic| simp $c $[$d]? only [↓ML.q_mSeq, ↓ML.q_mC, ↓ML.q_mOp, ↓ML.q_mUn, ↓ML.q_mTst, ↓ML.q_mNot, ↓ML.q_mNotV, ↓ML.q_mRet, ↓ML.q_mRetN, ↓ML.q_mExpr, ↓ML.q_mNext, ↓ML.q_mBreak, ↓ML.q_mCont, ↓ML.q_mAsg, ↓ML.q_gSb, ↓ML.q_mTup, ↓ML.q_mLst, ↓ML.q_mLstF, ↓ML.q_mCons, ↓ML.q_mNil, ↓ML.q_mBlt, ↓ML.q_rEqM, ↓ML.q_rNeM, ↓ML.q_iR1, ↓ML.q_iR2, ↓ML.q_iEn, ↓ML.q_iZp, ↓ML.q_mMt, ↓ML.q_mMt0, ↓ML.q_mYes, ↓ML.q_mCut, ↓ML.q_oNo, ↓ML.q_oSo, ↓ML.l_mCall, ↓ML.l_mAnd, ↓ML.l_mOr, ↓ML.l_mAndV, ↓ML.l_mOrV, ↓ML.l_mIf, ↓ML.l_mIfS, ↓ML.l_mChain, ↓ML.l_mVar, ↓ML.l_mFor, ↓ML.l_mWhile, ↓ML.l_mComp, ↓ML.l_mCompF, ↓ML.l_optP, ↓ML.l_Go, ↓ML.Hold_v, ↓ML.l_mSet, ↓ML.l_gNm, ↓ML.l_mPar, ↓ML.l_rIxM, ↓ML.l_rSetM, ↓ML.l_rInt, ↓ML.l_rInt0, ↓ML.l_rAdd_int, ↓ML.l_rAdd_str, ↓ML.l_rAdd_tup, ↓ML.l_rNeg, ↓ML.l_rIsN, ↓ML.l_rNotN, ↓ML.l_rIsBM, ↓ML.l_mTru, ↓ML.l_bLen, ↓ML.l_bAbs, ↓ML.l_bMax2, ↓ML.l_bMin2, ↓ML.l_bInt_i, ↓ML.l_bInt_b, ↓ML.l_bTuple, ↓ML.l_bListF, ↓ML.l_bList, ↓ML.l_mIsi, ↓ML.l_iL, ↓ML.l_iT, ↓ML.l_gTp, ↓ML.l_gLs, ↓ML.l_gCn, ↓ML.l_gNl, ↓ML.l_mtAppend, ML.Hold_v, ML.l_mVar_z, ML.l_mVar_s, ML.OptP_some, ML.Go_eq, ML.IteP_true, ML.IteP_false, ML.lstOf_ref', ML.lstOf_lst, ML.lstOf_scr, ML.lstOf_tup, ML.ownOf_ref', ML.ownOf_lst, ML.seqOf_tup', ML.seqOf_lst', ML.seqOf_scr', ML.seqOf_ref', ML.olP_lst, ML.tupOf_tup, ML.ixL_lit, ML.ixL_cast, ML.ixL_m1, ML.setAt_lit, ML.setAt_cast, ML.truD_bl, ML.truD_int, ML.truD_tup, ML.truD_lst, ML.truD_scr, ML.truD_non, ML.lenD_tup, ML.lenD_lst, ML.lenD_scr, ML.lenD_ref, ML.tyD_non, ML.tyD_bl, ML.tyD_int, ML.tyD_str, ML.tyD_tup, ML.tyD_lst, ML.szl, ML.szlt, ML.cpow_lit, ML.mulok_rl, ML.mulok_ll, ML.divok_l, ML.put_same, ML.put_put, ML.q_wipeM, ML.deq_int, ML.deq_bl, ML.deq_str, ML.deq_non, ML.eqOk_int, ML.eqOk_bl, ML.isTy_NoneType_int, ML.isTy_NoneType_bool, ML.isTy_NoneType_tuple, ML.isTy_NoneType_list, ML.isTy_NoneType_str, ML.isTy_bool_int, ML.isTy_bool_bool, ML.isTy_bool_tuple, ML.isTy_bool_list, ML.isTy_bool_str, ML.isTy_int_int, ML.isTy_int_bool, ML.isTy_int_tuple, ML.isTy_int_list, ML.isTy_int_str, ML.isTy_str_int, ML.isTy_str_bool, ML.isTy_str_tuple, ML.isTy_str_list, ML.isTy_str_str, ML.isTy_tuple_int, ML.isTy_tuple_bool, ML.isTy_tuple_tuple, ML.isTy_tuple_list, ML.isTy_tuple_str, ML.isTy_list_int, ML.isTy_list_bool, ML.isTy_list_tuple, ML.isTy_list_list, ML.isTy_list_str, ML.isTy_dict_int, ML.isTy_dict_bool, ML.isTy_dict_tuple, ML.isTy_dict_list, ML.isTy_dict_str, FL.tup_fr, FL.tup_sp, FL.tup_wl, FL.tupOf_fr, FL.tupOf_sp, FL.tupOf_wl, FL.nz0, FL.nz1, FL.nz2, FL.nz3, FL.look_non, FL.look_int, FL.look_bl, FL.look_str, FL.look_tup, FL.look_lst, FL.look_scr, FL.seqOf_fr, FL.seqOf_sp, FL.seqOf_wl, FL.look_fr, FL.look_sp, FL.look_wl, FL.eqOk_fr, FL.eqOk_sp, FL.eqOk_wl, FL.deq_fr, FL.deq_sp, FL.deq_wl, FL.tyD_fr, FL.tyD_sp, FL.tyD_wl, FL.isN_fr, FL.isN_sp, FL.isN_wl, FL.lenD_sp, FL.lenD_wl, FL.rAdd_wl_tup, List.length_map, List.map_cons, List.map_nil, List.replicate, List.set_cons_zero, List.set_cons_succ, List.getElem?_cons_zero, List.getElem?_cons_succ, List.cons_append, List.nil_append, List.length_cons, List.length_nil, Option.bind_some, Option.map_some, ↓reduceIte, Nat.reduceAdd, Nat.reduceSub, Nat.reduceLT, Nat.reduceLeDiff, Nat.zero_add, decide_eq_true_eq, Bool.not_eq_true, ne_eq, reduceCtorEq, not_false_eq_true, true_and, and_true, Bool.false_eq_true, Bool.not_true, Bool.not_false, decide_true, decide_false, not_true_eq_false, eq_self, Bool.not_eq_eq_eq_not, if_true, if_false, decide_eq_false_iff_not, ML.ncast, Int.reduceToNat, Int.reducePow, Int.reduceAdd, Int.reduceSub, Int.reduceMul, Int.reduceNeg, Int.reduceLT, Int.reduceLE, Int.reduceEq, Nat.reduceEqDiff, Int.zero_add, gt_iff_lt, beq_self_eq_true, Bool.true_beq, Bool.false_beq, Bool.and_true, Bool.and_false, Bool.true_and, Bool.false_and, ↓ML.l_mtInsert, ↓ML.l_mtReverse, ↓ML.l_mtClear, ↓ML.l_bSortU, ↓ML.q_mMt0, ↓ML.l_bMaxL, ↓ML.l_bMinL, ↓ML.l_aLt_int, ↓ML.l_aLt_u, ↓ML.l_aGt_int, ↓ML.l_aGt_u, ↓ML.l_aLe_int, ↓ML.l_aLe_u, ↓ML.l_aGe_int, ↓ML.l_aGe_u, ↓ML.l_bMaxA_int, ↓ML.l_bMaxA_u, ↓ML.l_bMinA_int, ↓ML.l_bMinA_u, ML.tup_u, ML.tupOf_u, ML.seqOf_u, ML.sqI_u, ML.look_u, ML.isN_u, ML.lenD_u, ML.tyD_u, ML.tup_uw, ML.tupOf_uw, ML.seqOf_uw, ML.sqI_uw, ML.look_uw, ML.isN_uw, ML.lenD_uw, ML.tyD_uw, ML.eqOk_u, ML.eqOk_uw, ML.deq_u, ML.deq_uw, ML.in_uw, ↓ML.l_mRaise, ↓ML.l_mTry, ↓ML.l_mIsE, ↓ML.l_mIsV, ↓ML.l_mtCount, ↓ML.l_rAddS_rl, ↓ML.l_rAddS_ll, ML.excD_ref, ML.excOf_exc, ML.blsOf_nil, ML.blsOf_cons, ML.endM_nx, ML.endM_rt, ↓ML.l_mYes, ↓ML.l_iS, ↓ML.l_mIfJ, ↓ML.l_mJ, ↓ML.CrollP_nil, ↓ML.CrollP_cons, ↓ML.CrA_at, ↓ML.FrollP_nil, ↓ML.FrollP_cons, ML.isN_non, ML.isN_int, ML.isN_bl, ML.isN_str, ML.isN_tup, ML.isN_lst, ML.isN_ref, ML.sqI_tup, ML.sqI_lst, ML.sqI_scr, ML.sqI_ref, ML.sqI_at, ML.rngD_0, ML.rngD_1, ML.rngD_2, ML.rngD_3, ML.rngD_4, ML.rngD_6, ML.q_wipeM_nil, ML.q_wipeM_cons, FL.sqI_sp, FL.sqI_wl, $ls,*] $[$l]?)
end FL
namespace FL
open PySem PySem.Spec L2 ML
end FL
namespace FL
open PySem PySem.Spec L2 ML
/-! ### rows of spots -/
def ins (s : Pt) : List Pt → List Pt
  | [] => [s]
  | t :: r => if ahead t s then t :: ins s r else if t = s then t :: r else s :: t :: r
/-- so many are ahead -/
def Pass (ps : List Pt) (s : Pt) (k : Nat) : Prop := k ≤ ps.length ∧ (∀ i (h : i < ps.length), i < k → ahead ps[i] s) ∧ (∀ i (h : i < ps.length), k ≤ i → ¬ ahead ps[i] s)
/-! ### lists as values -/
theorem deqs_map {α : Type} [DecidableEq α] {enc : α → D} (h : ∀ a b, D.deq (enc a) (enc b) = decide (a = b)) : ∀ as bs : List α, D.deqs (as.map enc) (bs.map enc) = decide (as = bs)
  | [], [] => by simp [D.deqs]
  | [], _ :: _ => by simp [D.deqs]
  | _ :: _, [] => by simp [D.deqs]
  | a :: as, b :: bs => by
    simp only [List.map_cons, D.deqs, h, deqs_map h as bs]
    rw [Bool.eq_iff_iff]
    simp only [Bool.and_eq_true, decide_eq_true_eq, List.cons.injEq]
theorem eqOk_lm {α β : Type} {f : α → D} {g : β → D} (h1 : ∀ a, D.plain (f a) = true) (h2 : ∀ a, D.plain (g a) = true) (d1 : ∀ a, D.dep (f a) ≤ 20) (d2 : ∀ a, D.dep (g a) ≤ 20) (as : List α) (bs : List β) : eqOk (.lst (as.map f)) (.lst (bs.map g)) = true :=
  eqOk_of (plains_map h1) (plains_map h2) (by have := deps_map (xs := as) d1; rw [D.dep]; omega) (by have := deps_map (xs := bs) d2; rw [D.dep]; omega)
theorem eqOk_tm {α β : Type} {f : α → D} {g : β → D} (h1 : ∀ a, D.plain (f a) = true) (h2 : ∀ a, D.plain (g a) = true) (d1 : ∀ a, D.dep (f a) ≤ 20) (d2 : ∀ a, D.dep (g a) ≤ 20) (as : List α) (bs : List β) : eqOk (.tup (as.map f)) (.tup (bs.map g)) = true :=
  eqOk_of (plains_map h1) (plains_map h2) (by have := deps_map (xs := as) d1; rw [D.dep]; omega) (by have := deps_map (xs := bs) d2; rw [D.dep]; omega)
theorem eqOk_twl {as bs : List Wl} : eqOk (.tup (as.map wlD)) (.tup (bs.map wlD)) = true := eqOk_tm plain_wl plain_wl (fun a => by rw [dep_wl]; decide) (fun a => by rw [dep_wl]; decide) as bs
theorem deq_twl {as bs : List Wl} : D.deq (.tup (as.map wlD)) (.tup (bs.map wlD)) = decide (as = bs) := by rw [D.deq]; exact deqs_map (fun _ _ => deq_wl) as bs
theorem memD_map {α : Type} [DecidableEq α] {enc : α → D} (h : ∀ a b, D.deq (enc a) (enc b) = decide (a = b)) (a : α) : ∀ as : List α, memD (enc a) (as.map enc) = decide (a ∈ as)
  | [] => by simp [memD]
  | b :: as => by
    have : memD (enc a) ((b :: as).map enc) = (D.deq (enc b) (enc a) || memD (enc a) (as.map enc)) := rfl
    rw [this, h, memD_map h a as, Bool.eq_iff_iff]
    simp only [Bool.or_eq_true, decide_eq_true_eq, List.mem_cons]
    constructor
    · rintro (z | z)
      · exact .inl z.symm
      · exact .inr z
    · rintro (z | z)
      · exact .inl z.symm
      · exact .inr z
theorem in_lst {α : Type} [DecidableEq α] {enc : α → D} (h : ∀ a b, D.deq (enc a) (enc b) = decide (a = b)) (h1 : ∀ a, D.plain (enc a) = true) (d1 : ∀ a, D.dep (enc a) ≤ 20) {neg : Bool} {a : α} {d : D} {as : List α} {S : Sto} {Q : MQ} (hl : look S d = .lst (as.map enc)) : rInM neg (enc a) d S Q = Q (.bl (if neg then !decide (a ∈ as) else decide (a ∈ as))) S := by
  have c : D.plain (enc a) = true ∧ D.plains (as.map enc) = true ∧ D.dep (enc a) ≤ 64 ∧ D.deps (as.map enc) ≤ 63 := ⟨h1 a, plains_map h1, by have := d1 a; omega, Nat.le_trans (deps_map d1) (by decide)⟩
  simp only [rInM, hl, memD_map h]
  exact propext ⟨fun h => h.2, fun h => ⟨c, h⟩⟩
theorem in_lu {neg : Bool} {u : U2} {us : List U2} {S : Sto} {Q : MQ} : rInM neg (uD u) (.lst (us.map uD)) S Q = Q (.bl (if neg then !decide (u ∈ us) else decide (u ∈ us))) S := by
  rw [in_lst (enc := uD) (as := us) (d := .lst (us.map uD)) (a := u) (fun a b => deq_u (p := a) (q := b)) plain_u (fun a => by rw [dep_u]; decide) rfl]
  have e : ∀ (i1 i2 : Decidable (u ∈ us)), @decide _ i1 = @decide _ i2 := fun i1 i2 => congrArg (fun i => @decide _ i) (Subsingleton.elim i1 i2)
  exact congrArg (fun b => Q (.bl (if neg then !b else b)) S) (e _ _)
/-! ### promises -/
end FL
set_option maxRecDepth 100000
namespace FL
open PySem PySem.Spec L2 ML
end FL
set_option maxRecDepth 100000
set_option maxHeartbeats 4000000
namespace FL
-- counts /tmp/scratch/dev/N_lib5.json
open PySem PySem.Spec L2 ML
local macro_rules | `(tactic| simp $c:optConfig $[$d:discharger]? only [gg] $[$l:location]?) => `(tactic| simp $c $[$d]? only [↓ML.q_mSeq, ↓ML.q_mC, ↓ML.q_mOp, ↓ML.q_mUn, ↓ML.q_mTst, ↓ML.q_mNot, ↓ML.q_mNotV, ↓ML.q_mRet, ↓ML.q_mRetN, ↓ML.q_mExpr, ↓ML.q_mNext, ↓ML.q_mBreak, ↓ML.q_mCont, ↓ML.q_mAsg, ↓ML.q_gSb, ↓ML.q_mTup, ↓ML.q_mLst, ↓ML.q_mLstF, ↓ML.q_mCons, ↓ML.q_mNil, ↓ML.q_mBlt, ↓ML.q_rEqM, ↓ML.q_rNeM, ↓ML.q_iR1, ↓ML.q_iR2, ↓ML.q_iEn, ↓ML.q_iZp, ↓ML.q_mMt, ↓ML.q_mMt0, ↓ML.q_mYes, ↓ML.q_mCut, ↓ML.q_oNo, ↓ML.q_oSo, ↓ML.l_mCall, ↓ML.l_mAnd, ↓ML.l_mOr, ↓ML.l_mAndV, ↓ML.l_mOrV, ↓ML.l_mIf, ↓ML.l_mIfS, ↓ML.l_mChain, ↓ML.l_mVar, ↓ML.l_mFor, ↓ML.l_mWhile, ↓ML.l_mComp, ↓ML.l_mCompF, ↓ML.l_optP, ↓ML.l_Go, ↓ML.Hold_v, ↓ML.l_mSet, ↓ML.l_gNm, ↓ML.l_mPar, ↓ML.l_rIxM, ↓ML.l_rSetM, ↓ML.l_rInt, ↓ML.l_rInt0, ↓ML.l_rAdd_int, ↓ML.l_rAdd_str, ↓ML.l_rAdd_tup, ↓ML.l_rNeg, ↓ML.l_rIsN, ↓ML.l_rNotN, ↓ML.l_rIsBM, ↓ML.l_mTru, ↓ML.l_bLen, ↓ML.l_bAbs, ↓ML.l_bMax2, ↓ML.l_bMin2, ↓ML.l_bInt_i, ↓ML.l_bInt_b, ↓ML.l_bTuple, ↓ML.l_bListF, ↓ML.l_bList, ↓ML.l_mIsi, ↓ML.l_iL, ↓ML.l_iT, ↓ML.l_gTp, ↓ML.l_gLs, ↓ML.l_gCn, ↓ML.l_gNl, ↓ML.l_mtAppend, ML.Hold_v, ML.l_mVar_z, ML.l_mVar_s, ML.OptP_some, ML.Go_eq, ML.IteP_true, ML.IteP_false, ML.lstOf_ref', ML.lstOf_lst, ML.lstOf_scr, ML.lstOf_tup, ML.ownOf_ref', ML.ownOf_lst, ML.seqOf_tup', ML.seqOf_lst', ML.seqOf_scr', ML.seqOf_ref', ML.olP_lst, ML.tupOf_tup, ML.ixL_lit, ML.ixL_cast, ML.ixL_m1, ML.setAt_lit, ML.setAt_cast, ML.truD_bl, ML.truD_int, ML.truD_tup, ML.truD_lst, ML.truD_scr, ML.truD_non, ML.lenD_tup, ML.lenD_lst, ML.lenD_scr, ML.lenD_ref, ML.tyD_non, ML.tyD_bl, ML.tyD_int, ML.tyD_str, ML.tyD_tup, ML.tyD_lst, ML.szl, ML.szlt, ML.cpow_lit, ML.mulok_rl, ML.mulok_ll, ML.divok_l, ML.put_same, ML.put_put, ML.q_wipeM, ML.deq_int, ML.deq_bl, ML.deq_str, ML.deq_non, ML.eqOk_int, ML.eqOk_bl, ML.isTy_NoneType_int, ML.isTy_NoneType_bool, ML.isTy_NoneType_tuple, ML.isTy_NoneType_list, ML.isTy_NoneType_str, ML.isTy_bool_int, ML.isTy_bool_bool, ML.isTy_bool_tuple, ML.isTy_bool_list, ML.isTy_bool_str, ML.isTy_int_int, ML.isTy_int_bool, ML.isTy_int_tuple, ML.isTy_int_list, ML.isTy_int_str, ML.isTy_str_int, ML.isTy_str_bool, ML.isTy_str_tuple, ML.isTy_str_list, ML.isTy_str_str, ML.isTy_tuple_int, ML.isTy_tuple_bool, ML.isTy_tuple_tuple, ML.isTy_tuple_list, ML.isTy_tuple_str, ML.isTy_list_int, ML.isTy_list_bool, ML.isTy_list_tuple, ML.isTy_list_list, ML.isTy_list_str, ML.isTy_dict_int, ML.isTy_dict_bool, ML.isTy_dict_tuple, ML.isTy_dict_list, ML.isTy_dict_str, FL.tup_fr, FL.tup_sp, FL.tup_wl, FL.tupOf_fr, FL.tupOf_sp, FL.tupOf_wl, FL.nz0, FL.nz1, FL.nz2, FL.nz3, FL.look_non, FL.look_int, FL.look_bl, FL.look_str, FL.look_tup, FL.look_lst, FL.look_scr, FL.seqOf_fr, FL.seqOf_sp, FL.seqOf_wl, FL.look_fr, FL.look_sp, FL.look_wl, FL.eqOk_fr, FL.eqOk_sp, FL.eqOk_wl, FL.deq_fr, FL.deq_sp, FL.deq_wl, FL.tyD_fr, FL.tyD_sp, FL.tyD_wl, FL.isN_fr, FL.isN_sp, FL.isN_wl, FL.lenD_sp, FL.lenD_wl, FL.rAdd_wl_tup, List.length_map, List.map_cons, List.map_nil, List.replicate, List.set_cons_zero, List.set_cons_succ, List.getElem?_cons_zero, List.getElem?_cons_succ, List.cons_append, List.nil_append, List.length_cons, List.length_nil, Option.bind_some, Option.map_some, ↓reduceIte, Nat.reduceAdd, Nat.reduceSub, Nat.reduceLT, Nat.reduceLeDiff, Nat.zero_add, decide_eq_true_eq, Bool.not_eq_true, ne_eq, reduceCtorEq, not_false_eq_true, true_and, and_true, Bool.false_eq_true, Bool.not_true, Bool.not_false, decide_true, decide_false, not_true_eq_false, eq_self, Bool.not_eq_eq_eq_not, if_true, if_false, decide_eq_false_iff_not, ML.ncast, Int.reduceToNat, Int.reducePow, Int.reduceAdd, Int.reduceSub, Int.reduceMul, Int.reduceNeg, Int.reduceLT, Int.reduceLE, Int.reduceEq, Nat.reduceEqDiff, Int.zero_add, gt_iff_lt, beq_self_eq_true, Bool.true_beq, Bool.false_beq, Bool.and_true, Bool.and_false, Bool.true_and, Bool.false_and, ↓ML.l_mtInsert, ↓ML.l_mtReverse, ↓ML.l_mtClear, ↓ML.l_bSortU, ↓ML.q_mMt0, ↓ML.l_bMaxL, ↓ML.l_bMinL, ↓ML.l_aLt_int, ↓ML.l_aLt_u, ↓ML.l_aGt_int, ↓ML.l_aGt_u, ↓ML.l_aLe_int, ↓ML.l_aLe_u, ↓ML.l_aGe_int, ↓ML.l_aGe_u, ↓ML.l_bMaxA_int, ↓ML.l_bMaxA_u, ↓ML.l_bMinA_int, ↓ML.l_bMinA_u, ML.tup_u, ML.tupOf_u, ML.seqOf_u, ML.sqI_u, ML.look_u, ML.isN_u, ML.lenD_u, ML.tyD_u, ML.tup_uw, ML.tupOf_uw, ML.seqOf_uw, ML.sqI_uw, ML.look_uw, ML.isN_uw, ML.lenD_uw, ML.tyD_uw, ML.eqOk_u, ML.eqOk_uw, ML.deq_u, ML.deq_uw, ML.in_uw, ↓ML.l_mRaise, ↓ML.l_mTry, ↓ML.l_mIsE, ↓ML.l_mIsV, ↓ML.l_mtCount, ↓ML.l_rAddS_rl, ↓ML.l_rAddS_ll, ML.excD_ref, ML.excOf_exc, ML.blsOf_nil, ML.blsOf_cons, ML.endM_nx, ML.endM_rt, ↓ML.l_mYes, ↓ML.l_iS, ↓ML.l_mIfJ, ↓ML.l_mJ, ↓ML.CrollP_nil, ↓ML.CrollP_cons, ↓ML.CrA_at, ↓ML.FrollP_nil, ↓ML.FrollP_cons, ML.isN_non, ML.isN_int, ML.isN_bl, ML.isN_str, ML.isN_tup, ML.isN_lst, ML.isN_ref, ML.sqI_tup, ML.sqI_lst, ML.sqI_scr, ML.sqI_ref, ML.sqI_at, ML.rngD_0, ML.rngD_1, ML.rngD_2, ML.rngD_3, ML.rngD_4, ML.rngD_6, ML.q_wipeM_nil, ML.q_wipeM_cons, FL.sqI_sp, FL.sqI_wl] $[$l]?)
local macro_rules | `(tactic| simp $c:optConfig $[$d:discharger]? only [gg, $ls,*] $[$l:location]?) => `(tactic| simp $c $[$d]? only [↓ML.q_mSeq, ↓ML.q_mC, ↓ML.q_mOp, ↓ML.q_mUn, ↓ML.q_mTst, ↓ML.q_mNot, ↓ML.q_mNotV, ↓ML.q_mRet, ↓ML.q_mRetN, ↓ML.q_mExpr, ↓ML.q_mNext, ↓ML.q_mBreak, ↓ML.q_mCont, ↓ML.q_mAsg, ↓ML.q_gSb, ↓ML.q_mTup, ↓ML.q_mLst, ↓ML.q_mLstF, ↓ML.q_mCons, ↓ML.q_mNil, ↓ML.q_mBlt, ↓ML.q_rEqM, ↓ML.q_rNeM, ↓ML.q_iR1, ↓ML.q_iR2, ↓ML.q_iEn, ↓ML.q_iZp, ↓ML.q_mMt, ↓ML.q_mMt0, ↓ML.q_mYes, ↓ML.q_mCut, ↓ML.q_oNo, ↓ML.q_oSo, ↓ML.l_mCall, ↓ML.l_mAnd, ↓ML.l_mOr, ↓ML.l_mAndV, ↓ML.l_mOrV, ↓ML.l_mIf, ↓ML.l_mIfS, ↓ML.l_mChain, ↓ML.l_mVar, ↓ML.l_mFor, ↓ML.l_mWhile, ↓ML.l_mComp, ↓ML.l_mCompF, ↓ML.l_optP, ↓ML.l_Go, ↓ML.Hold_v, ↓ML.l_mSet, ↓ML.l_gNm, ↓ML.l_mPar, ↓ML.l_rIxM, ↓ML.l_rSetM, ↓ML.l_rInt, ↓ML.l_rInt0, ↓ML.l_rAdd_int, ↓ML.l_rAdd_str, ↓ML.l_rAdd_tup, ↓ML.l_rNeg, ↓ML.l_rIsN, ↓ML.l_rNotN, ↓ML.l_rIsBM, ↓ML.l_mTru, ↓ML.l_bLen, ↓ML.l_bAbs, ↓ML.l_bMax2, ↓ML.l_bMin2, ↓ML.l_bInt_i, ↓ML.l_bInt_b, ↓ML.l_bTuple, ↓ML.l_bListF, ↓ML.l_bList, ↓ML.l_mIsi, ↓ML.l_iL, ↓ML.l_iT, ↓ML.l_gTp, ↓ML.l_gLs, ↓ML.l_gCn, ↓ML.l_gNl, ↓ML.l_mtAppend, ML.Hold_v, ML.l_mVar_z, ML.l_mVar_s, ML.OptP_some, ML.Go_eq, ML.IteP_true, ML.IteP_false, ML.lstOf_ref', ML.lstOf_lst, ML.lstOf_scr, ML.lstOf_tup, ML.ownOf_ref', ML.ownOf_lst, ML.seqOf_tup', ML.seqOf_lst', ML.seqOf_scr', ML.seqOf_ref', ML.olP_lst, ML.tupOf_tup, ML.ixL_lit, ML.ixL_cast, ML.ixL_m1, ML.setAt_lit, ML.setAt_cast, ML.truD_bl, ML.truD_int, ML.truD_tup, ML.truD_lst, ML.truD_scr, ML.truD_non, ML.lenD_tup, ML.lenD_lst, ML.lenD_scr, ML.lenD_ref, ML.tyD_non, ML.tyD_bl, ML.tyD_int, ML.tyD_str, ML.tyD_tup, ML.tyD_lst, ML.szl, ML.szlt, ML.cpow_lit, ML.mulok_rl, ML.mulok_ll, ML.divok_l, ML.put_same, ML.put_put, ML.q_wipeM, ML.deq_int, ML.deq_bl, ML.deq_str, ML.deq_non, ML.eqOk_int, ML.eqOk_bl, ML.isTy_NoneType_int, ML.isTy_NoneType_bool, ML.isTy_NoneType_tuple, ML.isTy_NoneType_list, ML.isTy_NoneType_str, ML.isTy_bool_int, ML.isTy_bool_bool, ML.isTy_bool_tuple, ML.isTy_bool_list, ML.isTy_bool_str, ML.isTy_int_int, ML.isTy_int_bool, ML.isTy_int_tuple, ML.isTy_int_list, ML.isTy_int_str, ML.isTy_str_int, ML.isTy_str_bool, ML.isTy_str_tuple, ML.isTy_str_list, ML.isTy_str_str, ML.isTy_tuple_int, ML.isTy_tuple_bool, ML.isTy_tuple_tuple, ML.isTy_tuple_list, ML.isTy_tuple_str, ML.isTy_list_int, ML.isTy_list_bool, ML.isTy_list_tuple, ML.isTy_list_list, ML.isTy_list_str, ML.isTy_dict_int, ML.isTy_dict_bool, ML.isTy_dict_tuple, ML.isTy_dict_list, ML.isTy_dict_str, FL.tup_fr, FL.tup_sp, FL.tup_wl, FL.tupOf_fr, FL.tupOf_sp, FL.tupOf_wl, FL.nz0, FL.nz1, FL.nz2, FL.nz3, FL.look_non, FL.look_int, FL.look_bl, FL.look_str, FL.look_tup, FL.look_lst, FL.look_scr, FL.seqOf_fr, FL.seqOf_sp, FL.seqOf_wl, FL.look_fr, FL.look_sp, FL.look_wl, FL.eqOk_fr, FL.eqOk_sp, FL.eqOk_wl, FL.deq_fr, FL.deq_sp, FL.deq_wl, FL.tyD_fr, FL.tyD_sp, FL.tyD_wl, FL.isN_fr, FL.isN_sp, FL.isN_wl, FL.lenD_sp, FL.lenD_wl, FL.rAdd_wl_tup, List.length_map, List.map_cons, List.map_nil, List.replicate, List.set_cons_zero, List.set_cons_succ, List.getElem?_cons_zero, List.getElem?_cons_succ, List.cons_append, List.nil_append, List.length_cons, List.length_nil, Option.bind_some, Option.map_some, ↓reduceIte, Nat.reduceAdd, Nat.reduceSub, Nat.reduceLT, Nat.reduceLeDiff, Nat.zero_add, decide_eq_true_eq, Bool.not_eq_true, ne_eq, reduceCtorEq, not_false_eq_true, true_and, and_true, Bool.false_eq_true, Bool.not_true, Bool.not_false, decide_true, decide_false, not_true_eq_false, eq_self, Bool.not_eq_eq_eq_not, if_true, if_false, decide_eq_false_iff_not, ML.ncast, Int.reduceToNat, Int.reducePow, Int.reduceAdd, Int.reduceSub, Int.reduceMul, Int.reduceNeg, Int.reduceLT, Int.reduceLE, Int.reduceEq, Nat.reduceEqDiff, Int.zero_add, gt_iff_lt, beq_self_eq_true, Bool.true_beq, Bool.false_beq, Bool.and_true, Bool.and_false, Bool.true_and, Bool.false_and, ↓ML.l_mtInsert, ↓ML.l_mtReverse, ↓ML.l_mtClear, ↓ML.l_bSortU, ↓ML.q_mMt0, ↓ML.l_bMaxL, ↓ML.l_bMinL, ↓ML.l_aLt_int, ↓ML.l_aLt_u, ↓ML.l_aGt_int, ↓ML.l_aGt_u, ↓ML.l_aLe_int, ↓ML.l_aLe_u, ↓ML.l_aGe_int, ↓ML.l_aGe_u, ↓ML.l_bMaxA_int, ↓ML.l_bMaxA_u, ↓ML.l_bMinA_int, ↓ML.l_bMinA_u, ML.tup_u, ML.tupOf_u, ML.seqOf_u, ML.sqI_u, ML.look_u, ML.isN_u, ML.lenD_u, ML.tyD_u, ML.tup_uw, ML.tupOf_uw, ML.seqOf_uw, ML.sqI_uw, ML.look_uw, ML.isN_uw, ML.lenD_uw, ML.tyD_uw, ML.eqOk_u, ML.eqOk_uw, ML.deq_u, ML.deq_uw, ML.in_uw, ↓ML.l_mRaise, ↓ML.l_mTry, ↓ML.l_mIsE, ↓ML.l_mIsV, ↓ML.l_mtCount, ↓ML.l_rAddS_rl, ↓ML.l_rAddS_ll, ML.excD_ref, ML.excOf_exc, ML.blsOf_nil, ML.blsOf_cons, ML.endM_nx, ML.endM_rt, ↓ML.l_mYes, ↓ML.l_iS, ↓ML.l_mIfJ, ↓ML.l_mJ, ↓ML.CrollP_nil, ↓ML.CrollP_cons, ↓ML.CrA_at, ↓ML.FrollP_nil, ↓ML.FrollP_cons, ML.isN_non, ML.isN_int, ML.isN_bl, ML.isN_str, ML.isN_tup, ML.isN_lst, ML.isN_ref, ML.sqI_tup, ML.sqI_lst, ML.sqI_scr, ML.sqI_ref, ML.sqI_at, ML.rngD_0, ML.rngD_1, ML.rngD_2, ML.rngD_3, ML.rngD_4, ML.rngD_6, ML.q_wipeM_nil, ML.q_wipeM_cons, FL.sqI_sp, FL.sqI_wl, $ls,*] $[$l]?)
end FL
namespace FL
open PySem PySem.Spec L2 ML
/-! ### walls of a plot meet at ends alone -/
end FL
namespace FL
open PySem PySem.Spec L2 ML
/-! ### plots -/
/-- a list that is a value or of the store -/
inductive LstK (S : Sto) : D → List D → Prop
  | lst {ds : List D} : LstK S (.lst ds) ds
  | ref {q : Addr} {ds : List D} : S q = some (.lst ds) → LstK S (.ref q) ds
theorem LstK.of {S : Sto} {d : D} {ds : List D} (h : LstK S d ds) : lstOf S d = some ds := by
  cases h with
  | lst => rfl
  | ref h => simp only [lstOf, h]
theorem LstK.seqk {S : Sto} {d : D} {ds : List D} (h : LstK S d ds) : SeqK S d ds := by
  cases h with
  | lst => exact .lst
  | ref h => exact .ref h
end FL
set_option maxRecDepth 100000
namespace FL
open PySem PySem.Spec L2 ML
end FL
set_option maxRecDepth 100000
set_option maxHeartbeats 4000000
namespace FL
-- counts /tmp/scratch/dev/N_lib6.json
open PySem PySem.Spec L2 ML
local macro_rules | `(tactic| simp $c:optConfig $[$d:discharger]? only [gg] $[$l:location]?) => `(tactic| simp $c $[$d]? only [↓ML.q_mSeq, ↓ML.q_mC, ↓ML.q_mOp, ↓ML.q_mUn, ↓ML.q_mTst, ↓ML.q_mNot, ↓ML.q_mNotV, ↓ML.q_mRet, ↓ML.q_mRetN, ↓ML.q_mExpr, ↓ML.q_mNext, ↓ML.q_mBreak, ↓ML.q_mCont, ↓ML.q_mAsg, ↓ML.q_gSb, ↓ML.q_mTup, ↓ML.q_mLst, ↓ML.q_mLstF, ↓ML.q_mCons, ↓ML.q_mNil, ↓ML.q_mBlt, ↓ML.q_rEqM, ↓ML.q_rNeM, ↓ML.q_iR1, ↓ML.q_iR2, ↓ML.q_iEn, ↓ML.q_iZp, ↓ML.q_mMt, ↓ML.q_mMt0, ↓ML.q_mYes, ↓ML.q_mCut, ↓ML.q_oNo, ↓ML.q_oSo, ↓ML.l_mCall, ↓ML.l_mAnd, ↓ML.l_mOr, ↓ML.l_mAndV, ↓ML.l_mOrV, ↓ML.l_mIf, ↓ML.l_mIfS, ↓ML.l_mChain, ↓ML.l_mVar, ↓ML.l_mFor, ↓ML.l_mWhile, ↓ML.l_mComp, ↓ML.l_mCompF, ↓ML.l_optP, ↓ML.l_Go, ↓ML.Hold_v, ↓ML.l_mSet, ↓ML.l_gNm, ↓ML.l_mPar, ↓ML.l_rIxM, ↓ML.l_rSetM, ↓ML.l_rInt, ↓ML.l_rInt0, ↓ML.l_rAdd_int, ↓ML.l_rAdd_str, ↓ML.l_rAdd_tup, ↓ML.l_rNeg, ↓ML.l_rIsN, ↓ML.l_rNotN, ↓ML.l_rIsBM, ↓ML.l_mTru, ↓ML.l_bLen, ↓ML.l_bAbs, ↓ML.l_bMax2, ↓ML.l_bMin2, ↓ML.l_bInt_i, ↓ML.l_bInt_b, ↓ML.l_bTuple, ↓ML.l_bListF, ↓ML.l_bList, ↓ML.l_mIsi, ↓ML.l_iL, ↓ML.l_iT, ↓ML.l_gTp, ↓ML.l_gLs, ↓ML.l_gCn, ↓ML.l_gNl, ↓ML.l_mtAppend, ML.Hold_v, ML.l_mVar_z, ML.l_mVar_s, ML.OptP_some, ML.Go_eq, ML.IteP_true, ML.IteP_false, ML.lstOf_ref', ML.lstOf_lst, ML.lstOf_scr, ML.lstOf_tup, ML.ownOf_ref', ML.ownOf_lst, ML.seqOf_tup', ML.seqOf_lst', ML.seqOf_scr', ML.seqOf_ref', ML.olP_lst, ML.tupOf_tup, ML.ixL_lit, ML.ixL_cast, ML.ixL_m1, ML.setAt_lit, ML.setAt_cast, ML.truD_bl, ML.truD_int, ML.truD_tup, ML.truD_lst, ML.truD_scr, ML.truD_non, ML.lenD_tup, ML.lenD_lst, ML.lenD_scr, ML.lenD_ref, ML.tyD_non, ML.tyD_bl, ML.tyD_int, ML.tyD_str, ML.tyD_tup, ML.tyD_lst, ML.szl, ML.szlt, ML.cpow_lit, ML.mulok_rl, ML.mulok_ll, ML.divok_l, ML.put_same, ML.put_put, ML.q_wipeM, ML.deq_int, ML.deq_bl, ML.deq_str, ML.deq_non, ML.eqOk_int, ML.eqOk_bl, ML.isTy_NoneType_int, ML.isTy_NoneType_bool, ML.isTy_NoneType_tuple, ML.isTy_NoneType_list, ML.isTy_NoneType_str, ML.isTy_bool_int, ML.isTy_bool_bool, ML.isTy_bool_tuple, ML.isTy_bool_list, ML.isTy_bool_str, ML.isTy_int_int, ML.isTy_int_bool, ML.isTy_int_tuple, ML.isTy_int_list, ML.isTy_int_str, ML.isTy_str_int, ML.isTy_str_bool, ML.isTy_str_tuple, ML.isTy_str_list, ML.isTy_str_str, ML.isTy_tuple_int, ML.isTy_tuple_bool, ML.isTy_tuple_tuple, ML.isTy_tuple_list, ML.isTy_tuple_str, ML.isTy_list_int, ML.isTy_list_bool, ML.isTy_list_tuple, ML.isTy_list_list, ML.isTy_list_str, ML.isTy_dict_int, ML.isTy_dict_bool, ML.isTy_dict_tuple, ML.isTy_dict_list, ML.isTy_dict_str, FL.tup_fr, FL.tup_sp, FL.tup_wl, FL.tupOf_fr, FL.tupOf_sp, FL.tupOf_wl, FL.nz0, FL.nz1, FL.nz2, FL.nz3, FL.look_non, FL.look_int, FL.look_bl, FL.look_str, FL.look_tup, FL.look_lst, FL.look_scr, FL.seqOf_fr, FL.seqOf_sp, FL.seqOf_wl, FL.look_fr, FL.look_sp, FL.look_wl, FL.eqOk_fr, FL.eqOk_sp, FL.eqOk_wl, FL.deq_fr, FL.deq_sp, FL.deq_wl, FL.tyD_fr, FL.tyD_sp, FL.tyD_wl, FL.isN_fr, FL.isN_sp, FL.isN_wl, FL.lenD_sp, FL.lenD_wl, FL.rAdd_wl_tup, List.length_map, List.map_cons, List.map_nil, List.replicate, List.set_cons_zero, List.set_cons_succ, List.getElem?_cons_zero, List.getElem?_cons_succ, List.cons_append, List.nil_append, List.length_cons, List.length_nil, Option.bind_some, Option.map_some, ↓reduceIte, Nat.reduceAdd, Nat.reduceSub, Nat.reduceLT, Nat.reduceLeDiff, Nat.zero_add, decide_eq_true_eq, Bool.not_eq_true, ne_eq, reduceCtorEq, not_false_eq_true, true_and, and_true, Bool.false_eq_true, Bool.not_true, Bool.not_false, decide_true, decide_false, not_true_eq_false, eq_self, Bool.not_eq_eq_eq_not, if_true, if_false, decide_eq_false_iff_not, ML.ncast, Int.reduceToNat, Int.reducePow, Int.reduceAdd, Int.reduceSub, Int.reduceMul, Int.reduceNeg, Int.reduceLT, Int.reduceLE, Int.reduceEq, Nat.reduceEqDiff, Int.zero_add, gt_iff_lt, beq_self_eq_true, Bool.true_beq, Bool.false_beq, Bool.and_true, Bool.and_false, Bool.true_and, Bool.false_and, ↓ML.l_mtInsert, ↓ML.l_mtReverse, ↓ML.l_mtClear, ↓ML.l_bSortU, ↓ML.q_mMt0, ↓ML.l_bMaxL, ↓ML.l_bMinL, ↓ML.l_aLt_int, ↓ML.l_aLt_u, ↓ML.l_aGt_int, ↓ML.l_aGt_u, ↓ML.l_aLe_int, ↓ML.l_aLe_u, ↓ML.l_aGe_int, ↓ML.l_aGe_u, ↓ML.l_bMaxA_int, ↓ML.l_bMaxA_u, ↓ML.l_bMinA_int, ↓ML.l_bMinA_u, ML.tup_u, ML.tupOf_u, ML.seqOf_u, ML.sqI_u, ML.look_u, ML.isN_u, ML.lenD_u, ML.tyD_u, ML.tup_uw, ML.tupOf_uw, ML.seqOf_uw, ML.sqI_uw, ML.look_uw, ML.isN_uw, ML.lenD_uw, ML.tyD_uw, ML.eqOk_u, ML.eqOk_uw, ML.deq_u, ML.deq_uw, ML.in_uw, ↓ML.l_mRaise, ↓ML.l_mTry, ↓ML.l_mIsE, ↓ML.l_mIsV, ↓ML.l_mtCount, ↓ML.l_rAddS_rl, ↓ML.l_rAddS_ll, ML.excD_ref, ML.excOf_exc, ML.blsOf_nil, ML.blsOf_cons, ML.endM_nx, ML.endM_rt, ↓ML.l_mYes, ↓ML.l_iS, ↓ML.l_mIfJ, ↓ML.l_mJ, ↓ML.CrollP_nil, ↓ML.CrollP_cons, ↓ML.CrA_at, ↓ML.FrollP_nil, ↓ML.FrollP_cons, ML.isN_non, ML.isN_int, ML.isN_bl, ML.isN_str, ML.isN_tup, ML.isN_lst, ML.isN_ref, ML.sqI_tup, ML.sqI_lst, ML.sqI_scr, ML.sqI_ref, ML.sqI_at, ML.rngD_0, ML.rngD_1, ML.rngD_2, ML.rngD_3, ML.rngD_4, ML.rngD_6, ML.q_wipeM_nil, ML.q_wipeM_cons, FL.sqI_sp, FL.sqI_wl] $[$l]?)
local macro_rules | `(tactic| simp $c:optConfig $[$d:discharger]? only [gg, $ls,*] $[$l:location]?) => `(tactic| simp $c $[$d]? only [↓ML.q_mSeq, ↓ML.q_mC, ↓ML.q_mOp, ↓ML.q_mUn, ↓ML.q_mTst, ↓ML.q_mNot, ↓ML.q_mNotV, ↓ML.q_mRet, ↓ML.q_mRetN, ↓ML.q_mExpr, ↓ML.q_mNext, ↓ML.q_mBreak, ↓ML.q_mCont, ↓ML.q_mAsg, ↓ML.q_gSb, ↓ML.q_mTup, ↓ML.q_mLst, ↓ML.q_mLstF, ↓ML.q_mCons, ↓ML.q_mNil, ↓ML.q_mBlt, ↓ML.q_rEqM, ↓ML.q_rNeM, ↓ML.q_iR1, ↓ML.q_iR2, ↓ML.q_iEn, ↓ML.q_iZp, ↓ML.q_mMt, ↓ML.q_mMt0, ↓ML.q_mYes, ↓ML.q_mCut, ↓ML.q_oNo, ↓ML.q_oSo, ↓ML.l_mCall, ↓ML.l_mAnd, ↓ML.l_mOr, ↓ML.l_mAndV, ↓ML.l_mOrV, ↓ML.l_mIf, ↓ML.l_mIfS, ↓ML.l_mChain, ↓ML.l_mVar, ↓ML.l_mFor, ↓ML.l_mWhile, ↓ML.l_mComp, ↓ML.l_mCompF, ↓ML.l_optP, ↓ML.l_Go, ↓ML.Hold_v, ↓ML.l_mSet, ↓ML.l_gNm, ↓ML.l_mPar, ↓ML.l_rIxM, ↓ML.l_rSetM, ↓ML.l_rInt, ↓ML.l_rInt0, ↓ML.l_rAdd_int, ↓ML.l_rAdd_str, ↓ML.l_rAdd_tup, ↓ML.l_rNeg, ↓ML.l_rIsN, ↓ML.l_rNotN, ↓ML.l_rIsBM, ↓ML.l_mTru, ↓ML.l_bLen, ↓ML.l_bAbs, ↓ML.l_bMax2, ↓ML.l_bMin2, ↓ML.l_bInt_i, ↓ML.l_bInt_b, ↓ML.l_bTuple, ↓ML.l_bListF, ↓ML.l_bList, ↓ML.l_mIsi, ↓ML.l_iL, ↓ML.l_iT, ↓ML.l_gTp, ↓ML.l_gLs, ↓ML.l_gCn, ↓ML.l_gNl, ↓ML.l_mtAppend, ML.Hold_v, ML.l_mVar_z, ML.l_mVar_s, ML.OptP_some, ML.Go_eq, ML.IteP_true, ML.IteP_false, ML.lstOf_ref', ML.lstOf_lst, ML.lstOf_scr, ML.lstOf_tup, ML.ownOf_ref', ML.ownOf_lst, ML.seqOf_tup', ML.seqOf_lst', ML.seqOf_scr', ML.seqOf_ref', ML.olP_lst, ML.tupOf_tup, ML.ixL_lit, ML.ixL_cast, ML.ixL_m1, ML.setAt_lit, ML.setAt_cast, ML.truD_bl, ML.truD_int, ML.truD_tup, ML.truD_lst, ML.truD_scr, ML.truD_non, ML.lenD_tup, ML.lenD_lst, ML.lenD_scr, ML.lenD_ref, ML.tyD_non, ML.tyD_bl, ML.tyD_int, ML.tyD_str, ML.tyD_tup, ML.tyD_lst, ML.szl, ML.szlt, ML.cpow_lit, ML.mulok_rl, ML.mulok_ll, ML.divok_l, ML.put_same, ML.put_put, ML.q_wipeM, ML.deq_int, ML.deq_bl, ML.deq_str, ML.deq_non, ML.eqOk_int, ML.eqOk_bl, ML.isTy_NoneType_int, ML.isTy_NoneType_bool, ML.isTy_NoneType_tuple, ML.isTy_NoneType_list, ML.isTy_NoneType_str, ML.isTy_bool_int, ML.isTy_bool_bool, ML.isTy_bool_tuple, ML.isTy_bool_list, ML.isTy_bool_str, ML.isTy_int_int, ML.isTy_int_bool, ML.isTy_int_tuple, ML.isTy_int_list, ML.isTy_int_str, ML.isTy_str_int, ML.isTy_str_bool, ML.isTy_str_tuple, ML.isTy_str_list, ML.isTy_str_str, ML.isTy_tuple_int, ML.isTy_tuple_bool, ML.isTy_tuple_tuple, ML.isTy_tuple_list, ML.isTy_tuple_str, ML.isTy_list_int, ML.isTy_list_bool, ML.isTy_list_tuple, ML.isTy_list_list, ML.isTy_list_str, ML.isTy_dict_int, ML.isTy_dict_bool, ML.isTy_dict_tuple, ML.isTy_dict_list, ML.isTy_dict_str, FL.tup_fr, FL.tup_sp, FL.tup_wl, FL.tupOf_fr, FL.tupOf_sp, FL.tupOf_wl, FL.nz0, FL.nz1, FL.nz2, FL.nz3, FL.look_non, FL.look_int, FL.look_bl, FL.look_str, FL.look_tup, FL.look_lst, FL.look_scr, FL.seqOf_fr, FL.seqOf_sp, FL.seqOf_wl, FL.look_fr, FL.look_sp, FL.look_wl, FL.eqOk_fr, FL.eqOk_sp, FL.eqOk_wl, FL.deq_fr, FL.deq_sp, FL.deq_wl, FL.tyD_fr, FL.tyD_sp, FL.tyD_wl, FL.isN_fr, FL.isN_sp, FL.isN_wl, FL.lenD_sp, FL.lenD_wl, FL.rAdd_wl_tup, List.length_map, List.map_cons, List.map_nil, List.replicate, List.set_cons_zero, List.set_cons_succ, List.getElem?_cons_zero, List.getElem?_cons_succ, List.cons_append, List.nil_append, List.length_cons, List.length_nil, Option.bind_some, Option.map_some, ↓reduceIte, Nat.reduceAdd, Nat.reduceSub, Nat.reduceLT, Nat.reduceLeDiff, Nat.zero_add, decide_eq_true_eq, Bool.not_eq_true, ne_eq, reduceCtorEq, not_false_eq_true, true_and, and_true, Bool.false_eq_true, Bool.not_true, Bool.not_false, decide_true, decide_false, not_true_eq_false, eq_self, Bool.not_eq_eq_eq_not, if_true, if_false, decide_eq_false_iff_not, ML.ncast, Int.reduceToNat, Int.reducePow, Int.reduceAdd, Int.reduceSub, Int.reduceMul, Int.reduceNeg, Int.reduceLT, Int.reduceLE, Int.reduceEq, Nat.reduceEqDiff, Int.zero_add, gt_iff_lt, beq_self_eq_true, Bool.true_beq, Bool.false_beq, Bool.and_true, Bool.and_false, Bool.true_and, Bool.false_and, ↓ML.l_mtInsert, ↓ML.l_mtReverse, ↓ML.l_mtClear, ↓ML.l_bSortU, ↓ML.q_mMt0, ↓ML.l_bMaxL, ↓ML.l_bMinL, ↓ML.l_aLt_int, ↓ML.l_aLt_u, ↓ML.l_aGt_int, ↓ML.l_aGt_u, ↓ML.l_aLe_int, ↓ML.l_aLe_u, ↓ML.l_aGe_int, ↓ML.l_aGe_u, ↓ML.l_bMaxA_int, ↓ML.l_bMaxA_u, ↓ML.l_bMinA_int, ↓ML.l_bMinA_u, ML.tup_u, ML.tupOf_u, ML.seqOf_u, ML.sqI_u, ML.look_u, ML.isN_u, ML.lenD_u, ML.tyD_u, ML.tup_uw, ML.tupOf_uw, ML.seqOf_uw, ML.sqI_uw, ML.look_uw, ML.isN_uw, ML.lenD_uw, ML.tyD_uw, ML.eqOk_u, ML.eqOk_uw, ML.deq_u, ML.deq_uw, ML.in_uw, ↓ML.l_mRaise, ↓ML.l_mTry, ↓ML.l_mIsE, ↓ML.l_mIsV, ↓ML.l_mtCount, ↓ML.l_rAddS_rl, ↓ML.l_rAddS_ll, ML.excD_ref, ML.excOf_exc, ML.blsOf_nil, ML.blsOf_cons, ML.endM_nx, ML.endM_rt, ↓ML.l_mYes, ↓ML.l_iS, ↓ML.l_mIfJ, ↓ML.l_mJ, ↓ML.CrollP_nil, ↓ML.CrollP_cons, ↓ML.CrA_at, ↓ML.FrollP_nil, ↓ML.FrollP_cons, ML.isN_non, ML.isN_int, ML.isN_bl, ML.isN_str, ML.isN_tup, ML.isN_lst, ML.isN_ref, ML.sqI_tup, ML.sqI_lst, ML.sqI_scr, ML.sqI_ref, ML.sqI_at, ML.rngD_0, ML.rngD_1, ML.rngD_2, ML.rngD_3, ML.rngD_4, ML.rngD_6, ML.q_wipeM_nil, ML.q_wipeM_cons, FL.sqI_sp, FL.sqI_wl, $ls,*] $[$l]?)
end FL
namespace FL
open PySem PySem.Spec L2 ML
/-! ### plots drawn in units -/
/-- the drawn plot itself -/
def pltW (s : Sc) (ws : List UW) : List Wl := ws.map fun w => afw s (ofW w)
theorem plt_enc (s : Sc) (ws : List UW) : (ws.map fun w => wlD (afw s (ofW w))) = (pltW s ws).map wlD := by unfold pltW; rw [List.map_map]; rfl
theorem plt_len (s : Sc) (ws : List UW) : (pltW s ws).length = ws.length := List.length_map ..
section
variable {m : Nat} {z : Int} {ws : List UW} {s : Sc}
theorem Drawn.wok (h : Drawn m z ws) (hz : z ≤ 500) {w : UW} (hw : w ∈ ws) : WOk 500 w := by
  have := h.lo w hw
  exact ⟨⟨by omega, by omega, by omega, by omega⟩, ⟨by omega, by omega, by omega, by omega⟩⟩
end
end FL
namespace FL
open PySem PySem.Spec L2 ML
/-! ### walls that span one spot stand in an order: the plane sheared a little -/
def sh (d : Rat) (p : Pt) : Rat := p.1 + d * p.2
/-! ### the upper one of some walls -/
instance : DecidablePred fun w : Wl => aboveW w a := fun w => by infer_instance
end FL
set_option maxRecDepth 100000
namespace FL
open PySem PySem.Spec L2 ML
end FL
-- FLQ
set_option maxRecDepth 100000
set_option maxHeartbeats 4000000
namespace FL
-- counts /tmp/scratch/dev/N_lib7.json
open PySem PySem.Spec L2 ML
local macro_rules | `(tactic| simp $c:optConfig $[$d:discharger]? only [gg] $[$l:location]?) => `(tactic| simp $c $[$d]? only [↓ML.q_mSeq, ↓ML.q_mC, ↓ML.q_mOp, ↓ML.q_mUn, ↓ML.q_mTst, ↓ML.q_mNot, ↓ML.q_mNotV, ↓ML.q_mRet, ↓ML.q_mRetN, ↓ML.q_mExpr, ↓ML.q_mNext, ↓ML.q_mBreak, ↓ML.q_mCont, ↓ML.q_mAsg, ↓ML.q_gSb, ↓ML.q_mTup, ↓ML.q_mLst, ↓ML.q_mLstF, ↓ML.q_mCons, ↓ML.q_mNil, ↓ML.q_mBlt, ↓ML.q_rEqM, ↓ML.q_rNeM, ↓ML.q_iR1, ↓ML.q_iR2, ↓ML.q_iEn, ↓ML.q_iZp, ↓ML.q_mMt, ↓ML.q_mMt0, ↓ML.q_mYes, ↓ML.q_mCut, ↓ML.q_oNo, ↓ML.q_oSo, ↓ML.l_mCall, ↓ML.l_mAnd, ↓ML.l_mOr, ↓ML.l_mAndV, ↓ML.l_mOrV, ↓ML.l_mIf, ↓ML.l_mIfS, ↓ML.l_mChain, ↓ML.l_mVar, ↓ML.l_mFor, ↓ML.l_mWhile, ↓ML.l_mComp, ↓ML.l_mCompF, ↓ML.l_optP, ↓ML.l_Go, ↓ML.Hold_v, ↓ML.l_mSet, ↓ML.l_gNm, ↓ML.l_mPar, ↓ML.l_rIxM, ↓ML.l_rSetM, ↓ML.l_rInt, ↓ML.l_rInt0, ↓ML.l_rAdd_int, ↓ML.l_rAdd_str, ↓ML.l_rAdd_tup, ↓ML.l_rNeg, ↓ML.l_rIsN, ↓ML.l_rNotN, ↓ML.l_rIsBM, ↓ML.l_mTru, ↓ML.l_bLen, ↓ML.l_bAbs, ↓ML.l_bMax2, ↓ML.l_bMin2, ↓ML.l_bInt_i, ↓ML.l_bInt_b, ↓ML.l_bTuple, ↓ML.l_bListF, ↓ML.l_bList, ↓ML.l_mIsi, ↓ML.l_iL, ↓ML.l_iT, ↓ML.l_gTp, ↓ML.l_gLs, ↓ML.l_gCn, ↓ML.l_gNl, ↓ML.l_mtAppend, ML.Hold_v, ML.l_mVar_z, ML.l_mVar_s, ML.OptP_some, ML.Go_eq, ML.IteP_true, ML.IteP_false, ML.lstOf_ref', ML.lstOf_lst, ML.lstOf_scr, ML.lstOf_tup, ML.ownOf_ref', ML.ownOf_lst, ML.seqOf_tup', ML.seqOf_lst', ML.seqOf_scr', ML.seqOf_ref', ML.olP_lst, ML.tupOf_tup, ML.ixL_lit, ML.ixL_cast, ML.ixL_m1, ML.setAt_lit, ML.setAt_cast, ML.truD_bl, ML.truD_int, ML.truD_tup, ML.truD_lst, ML.truD_scr, ML.truD_non, ML.lenD_tup, ML.lenD_lst, ML.lenD_scr, ML.lenD_ref, ML.tyD_non, ML.tyD_bl, ML.tyD_int, ML.tyD_str, ML.tyD_tup, ML.tyD_lst, ML.szl, ML.szlt, ML.cpow_lit, ML.mulok_rl, ML.mulok_ll, ML.divok_l, ML.put_same, ML.put_put, ML.q_wipeM, ML.deq_int, ML.deq_bl, ML.deq_str, ML.deq_non, ML.eqOk_int, ML.eqOk_bl, ML.isTy_NoneType_int, ML.isTy_NoneType_bool, ML.isTy_NoneType_tuple, ML.isTy_NoneType_list, ML.isTy_NoneType_str, ML.isTy_bool_int, ML.isTy_bool_bool, ML.isTy_bool_tuple, ML.isTy_bool_list, ML.isTy_bool_str, ML.isTy_int_int, ML.isTy_int_bool, ML.isTy_int_tuple, ML.isTy_int_list, ML.isTy_int_str, ML.isTy_str_int, ML.isTy_str_bool, ML.isTy_str_tuple, ML.isTy_str_list, ML.isTy_str_str, ML.isTy_tuple_int, ML.isTy_tuple_bool, ML.isTy_tuple_tuple, ML.isTy_tuple_list, ML.isTy_tuple_str, ML.isTy_list_int, ML.isTy_list_bool, ML.isTy_list_tuple, ML.isTy_list_list, ML.isTy_list_str, ML.isTy_dict_int, ML.isTy_dict_bool, ML.isTy_dict_tuple, ML.isTy_dict_list, ML.isTy_dict_str, FL.tup_fr, FL.tup_sp, FL.tup_wl, FL.tupOf_fr, FL.tupOf_sp, FL.tupOf_wl, FL.nz0, FL.nz1, FL.nz2, FL.nz3, FL.look_non, FL.look_int, FL.look_bl, FL.look_str, FL.look_tup, FL.look_lst, FL.look_scr, FL.seqOf_fr, FL.seqOf_sp, FL.seqOf_wl, FL.look_fr, FL.look_sp, FL.look_wl, FL.eqOk_fr, FL.eqOk_sp, FL.eqOk_wl, FL.deq_fr, FL.deq_sp, FL.deq_wl, FL.tyD_fr, FL.tyD_sp, FL.tyD_wl, FL.isN_fr, FL.isN_sp, FL.isN_wl, FL.lenD_sp, FL.lenD_wl, FL.rAdd_wl_tup, List.length_map, List.map_cons, List.map_nil, List.replicate, List.set_cons_zero, List.set_cons_succ, List.getElem?_cons_zero, List.getElem?_cons_succ, List.cons_append, List.nil_append, List.length_cons, List.length_nil, Option.bind_some, Option.map_some, ↓reduceIte, Nat.reduceAdd, Nat.reduceSub, Nat.reduceLT, Nat.reduceLeDiff, Nat.zero_add, decide_eq_true_eq, Bool.not_eq_true, ne_eq, reduceCtorEq, not_false_eq_true, true_and, and_true, Bool.false_eq_true, Bool.not_true, Bool.not_false, decide_true, decide_false, not_true_eq_false, eq_self, Bool.not_eq_eq_eq_not, if_true, if_false, decide_eq_false_iff_not, ML.ncast, Int.reduceToNat, Int.reducePow, Int.reduceAdd, Int.reduceSub, Int.reduceMul, Int.reduceNeg, Int.reduceLT, Int.reduceLE, Int.reduceEq, Nat.reduceEqDiff, Int.zero_add, gt_iff_lt, beq_self_eq_true, Bool.true_beq, Bool.false_beq, Bool.and_true, Bool.and_false, Bool.true_and, Bool.false_and, ↓ML.l_mtInsert, ↓ML.l_mtReverse, ↓ML.l_mtClear, ↓ML.l_bSortU, ↓ML.q_mMt0, ↓ML.l_bMaxL, ↓ML.l_bMinL, ↓ML.l_aLt_int, ↓ML.l_aLt_u, ↓ML.l_aGt_int, ↓ML.l_aGt_u, ↓ML.l_aLe_int, ↓ML.l_aLe_u, ↓ML.l_aGe_int, ↓ML.l_aGe_u, ↓ML.l_bMaxA_int, ↓ML.l_bMaxA_u, ↓ML.l_bMinA_int, ↓ML.l_bMinA_u, ML.tup_u, ML.tupOf_u, ML.seqOf_u, ML.sqI_u, ML.look_u, ML.isN_u, ML.lenD_u, ML.tyD_u, ML.tup_uw, ML.tupOf_uw, ML.seqOf_uw, ML.sqI_uw, ML.look_uw, ML.isN_uw, ML.lenD_uw, ML.tyD_uw, ML.eqOk_u, ML.eqOk_uw, ML.deq_u, ML.deq_uw, ML.in_uw, ↓ML.l_mRaise, ↓ML.l_mTry, ↓ML.l_mIsE, ↓ML.l_mIsV, ↓ML.l_mtCount, ↓ML.l_rAddS_rl, ↓ML.l_rAddS_ll, ML.excD_ref, ML.excOf_exc, ML.blsOf_nil, ML.blsOf_cons, ML.endM_nx, ML.endM_rt, ↓ML.l_mYes, ↓ML.l_iS, ↓ML.l_mIfJ, ↓ML.l_mJ, ↓ML.CrollP_nil, ↓ML.CrollP_cons, ↓ML.CrA_at, ↓ML.FrollP_nil, ↓ML.FrollP_cons, ML.isN_non, ML.isN_int, ML.isN_bl, ML.isN_str, ML.isN_tup, ML.isN_lst, ML.isN_ref, ML.sqI_tup, ML.sqI_lst, ML.sqI_scr, ML.sqI_ref, ML.sqI_at, ML.rngD_0, ML.rngD_1, ML.rngD_2, ML.rngD_3, ML.rngD_4, ML.rngD_6, ML.q_wipeM_nil, ML.q_wipeM_cons, FL.sqI_sp, FL.sqI_wl] $[$l]?)
local macro_rules | `(tactic| simp $c:optConfig $[$d:discharger]? only [gg, $ls,*] $[$l:location]?) => `(tactic| simp $c $[$d]? only [↓ML.q_mSeq, ↓ML.q_mC, ↓ML.q_mOp, ↓ML.q_mUn, ↓ML.q_mTst, ↓ML.q_mNot, ↓ML.q_mNotV, ↓ML.q_mRet, ↓ML.q_mRetN, ↓ML.q_mExpr, ↓ML.q_mNext, ↓ML.q_mBreak, ↓ML.q_mCont, ↓ML.q_mAsg, ↓ML.q_gSb, ↓ML.q_mTup, ↓ML.q_mLst, ↓ML.q_mLstF, ↓ML.q_mCons, ↓ML.q_mNil, ↓ML.q_mBlt, ↓ML.q_rEqM, ↓ML.q_rNeM, ↓ML.q_iR1, ↓ML.q_iR2, ↓ML.q_iEn, ↓ML.q_iZp, ↓ML.q_mMt, ↓ML.q_mMt0, ↓ML.q_mYes, ↓ML.q_mCut, ↓ML.q_oNo, ↓ML.q_oSo, ↓ML.l_mCall, ↓ML.l_mAnd, ↓ML.l_mOr, ↓ML.l_mAndV, ↓ML.l_mOrV, ↓ML.l_mIf, ↓ML.l_mIfS, ↓ML.l_mChain, ↓ML.l_mVar, ↓ML.l_mFor, ↓ML.l_mWhile, ↓ML.l_mComp, ↓ML.l_mCompF, ↓ML.l_optP, ↓ML.l_Go, ↓ML.Hold_v, ↓ML.l_mSet, ↓ML.l_gNm, ↓ML.l_mPar, ↓ML.l_rIxM, ↓ML.l_rSetM, ↓ML.l_rInt, ↓ML.l_rInt0, ↓ML.l_rAdd_int, ↓ML.l_rAdd_str, ↓ML.l_rAdd_tup, ↓ML.l_rNeg, ↓ML.l_rIsN, ↓ML.l_rNotN, ↓ML.l_rIsBM, ↓ML.l_mTru, ↓ML.l_bLen, ↓ML.l_bAbs, ↓ML.l_bMax2, ↓ML.l_bMin2, ↓ML.l_bInt_i, ↓ML.l_bInt_b, ↓ML.l_bTuple, ↓ML.l_bListF, ↓ML.l_bList, ↓ML.l_mIsi, ↓ML.l_iL, ↓ML.l_iT, ↓ML.l_gTp, ↓ML.l_gLs, ↓ML.l_gCn, ↓ML.l_gNl, ↓ML.l_mtAppend, ML.Hold_v, ML.l_mVar_z, ML.l_mVar_s, ML.OptP_some, ML.Go_eq, ML.IteP_true, ML.IteP_false, ML.lstOf_ref', ML.lstOf_lst, ML.lstOf_scr, ML.lstOf_tup, ML.ownOf_ref', ML.ownOf_lst, ML.seqOf_tup', ML.seqOf_lst', ML.seqOf_scr', ML.seqOf_ref', ML.olP_lst, ML.tupOf_tup, ML.ixL_lit, ML.ixL_cast, ML.ixL_m1, ML.setAt_lit, ML.setAt_cast, ML.truD_bl, ML.truD_int, ML.truD_tup, ML.truD_lst, ML.truD_scr, ML.truD_non, ML.lenD_tup, ML.lenD_lst, ML.lenD_scr, ML.lenD_ref, ML.tyD_non, ML.tyD_bl, ML.tyD_int, ML.tyD_str, ML.tyD_tup, ML.tyD_lst, ML.szl, ML.szlt, ML.cpow_lit, ML.mulok_rl, ML.mulok_ll, ML.divok_l, ML.put_same, ML.put_put, ML.q_wipeM, ML.deq_int, ML.deq_bl, ML.deq_str, ML.deq_non, ML.eqOk_int, ML.eqOk_bl, ML.isTy_NoneType_int, ML.isTy_NoneType_bool, ML.isTy_NoneType_tuple, ML.isTy_NoneType_list, ML.isTy_NoneType_str, ML.isTy_bool_int, ML.isTy_bool_bool, ML.isTy_bool_tuple, ML.isTy_bool_list, ML.isTy_bool_str, ML.isTy_int_int, ML.isTy_int_bool, ML.isTy_int_tuple, ML.isTy_int_list, ML.isTy_int_str, ML.isTy_str_int, ML.isTy_str_bool, ML.isTy_str_tuple, ML.isTy_str_list, ML.isTy_str_str, ML.isTy_tuple_int, ML.isTy_tuple_bool, ML.isTy_tuple_tuple, ML.isTy_tuple_list, ML.isTy_tuple_str, ML.isTy_list_int, ML.isTy_list_bool, ML.isTy_list_tuple, ML.isTy_list_list, ML.isTy_list_str, ML.isTy_dict_int, ML.isTy_dict_bool, ML.isTy_dict_tuple, ML.isTy_dict_list, ML.isTy_dict_str, FL.tup_fr, FL.tup_sp, FL.tup_wl, FL.tupOf_fr, FL.tupOf_sp, FL.tupOf_wl, FL.nz0, FL.nz1, FL.nz2, FL.nz3, FL.look_non, FL.look_int, FL.look_bl, FL.look_str, FL.look_tup, FL.look_lst, FL.look_scr, FL.seqOf_fr, FL.seqOf_sp, FL.seqOf_wl, FL.look_fr, FL.look_sp, FL.look_wl, FL.eqOk_fr, FL.eqOk_sp, FL.eqOk_wl, FL.deq_fr, FL.deq_sp, FL.deq_wl, FL.tyD_fr, FL.tyD_sp, FL.tyD_wl, FL.isN_fr, FL.isN_sp, FL.isN_wl, FL.lenD_sp, FL.lenD_wl, FL.rAdd_wl_tup, List.length_map, List.map_cons, List.map_nil, List.replicate, List.set_cons_zero, List.set_cons_succ, List.getElem?_cons_zero, List.getElem?_cons_succ, List.cons_append, List.nil_append, List.length_cons, List.length_nil, Option.bind_some, Option.map_some, ↓reduceIte, Nat.reduceAdd, Nat.reduceSub, Nat.reduceLT, Nat.reduceLeDiff, Nat.zero_add, decide_eq_true_eq, Bool.not_eq_true, ne_eq, reduceCtorEq, not_false_eq_true, true_and, and_true, Bool.false_eq_true, Bool.not_true, Bool.not_false, decide_true, decide_false, not_true_eq_false, eq_self, Bool.not_eq_eq_eq_not, if_true, if_false, decide_eq_false_iff_not, ML.ncast, Int.reduceToNat, Int.reducePow, Int.reduceAdd, Int.reduceSub, Int.reduceMul, Int.reduceNeg, Int.reduceLT, Int.reduceLE, Int.reduceEq, Nat.reduceEqDiff, Int.zero_add, gt_iff_lt, beq_self_eq_true, Bool.true_beq, Bool.false_beq, Bool.and_true, Bool.and_false, Bool.true_and, Bool.false_and, ↓ML.l_mtInsert, ↓ML.l_mtReverse, ↓ML.l_mtClear, ↓ML.l_bSortU, ↓ML.q_mMt0, ↓ML.l_bMaxL, ↓ML.l_bMinL, ↓ML.l_aLt_int, ↓ML.l_aLt_u, ↓ML.l_aGt_int, ↓ML.l_aGt_u, ↓ML.l_aLe_int, ↓ML.l_aLe_u, ↓ML.l_aGe_int, ↓ML.l_aGe_u, ↓ML.l_bMaxA_int, ↓ML.l_bMaxA_u, ↓ML.l_bMinA_int, ↓ML.l_bMinA_u, ML.tup_u, ML.tupOf_u, ML.seqOf_u, ML.sqI_u, ML.look_u, ML.isN_u, ML.lenD_u, ML.tyD_u, ML.tup_uw, ML.tupOf_uw, ML.seqOf_uw, ML.sqI_uw, ML.look_uw, ML.isN_uw, ML.lenD_uw, ML.tyD_uw, ML.eqOk_u, ML.eqOk_uw, ML.deq_u, ML.deq_uw, ML.in_uw, ↓ML.l_mRaise, ↓ML.l_mTry, ↓ML.l_mIsE, ↓ML.l_mIsV, ↓ML.l_mtCount, ↓ML.l_rAddS_rl, ↓ML.l_rAddS_ll, ML.excD_ref, ML.excOf_exc, ML.blsOf_nil, ML.blsOf_cons, ML.endM_nx, ML.endM_rt, ↓ML.l_mYes, ↓ML.l_iS, ↓ML.l_mIfJ, ↓ML.l_mJ, ↓ML.CrollP_nil, ↓ML.CrollP_cons, ↓ML.CrA_at, ↓ML.FrollP_nil, ↓ML.FrollP_cons, ML.isN_non, ML.isN_int, ML.isN_bl, ML.isN_str, ML.isN_tup, ML.isN_lst, ML.isN_ref, ML.sqI_tup, ML.sqI_lst, ML.sqI_scr, ML.sqI_ref, ML.sqI_at, ML.rngD_0, ML.rngD_1, ML.rngD_2, ML.rngD_3, ML.rngD_4, ML.rngD_6, ML.q_wipeM_nil, ML.q_wipeM_cons, FL.sqI_sp, FL.sqI_wl, $ls,*] $[$l]?)
end FL
namespace FL
open PySem PySem.Spec L2 ML
/-! ### the second way of drawing: a pot of digits -/
/-- a pot: what is left of the number, what is mixed, how often -/
def potO (a b : Int) (n : Nat) : MO := .lst [.int a, .int b, .int n]
structure PotOk (a b : Int) (n : Nat) : Prop where
  a0 : 0 ≤ a
  b0 : 0 ≤ b
  b1 : b < 2 ^ 31
  n1 : n < 2 ^ 50
def sp_pot : MSp := fun ds S Q _ => ∃ (ns : List Int) (k : Nat), ds = [.scr (ns.map .int), .int k] ∧ ns.length ≤ 63 ∧ ∀ (p : Addr) (a b : Int), S p = none → PotOk a b 0 → Q (.ref p) (put S p (potO a b 0))
def sp_ptake : MSp := fun ds S Q _ => ∃ (p : Addr) (a b z : Int) (n : Nat), ds = [.ref p, .int z] ∧ S p = some (potO a b n) ∧ 0 ≤ a ∧ 0 ≤ b ∧ b < 2 ^ 31 ∧ n < 2 ^ 60 ∧ 0 < z ∧ z < 2 ^ 200 ∧ ∀ (r a' : Int) (n' : Nat), 0 ≤ r → r < z → 0 ≤ a' → n' ≤ n + 1 → Q (.int r) (put S p (potO a' b n'))
/-- the same as turn: which side of a wall in units a spot lies on -/
def sp_pside : MSp := fun ds S Q _ => ∃ (w : UW) (s : U2), ds = [uwD w, uD s] ∧ WOk (2 ^ 30) w ∧ UOk (2 ^ 30) s ∧ Q (.int (uturn w.1 w.2 s)) S
def sp_pon : MSp := fun ds S Q _ => ∃ (w : UW) (s : U2), ds = [uwD w, uD s] ∧ WOk (2 ^ 30) w ∧ UOk (2 ^ 30) s ∧ Q (.bl (decide (uon w s))) S
def sp_papart : MSp := fun ds S Q _ => ∃ a b : UW, ds = [uwD a, uwD b] ∧ WOk (2 ^ 30) a ∧ WOk (2 ^ 30) b ∧ Q (.bl (ufair a b)) S
/-- what may be shown -/
def ShO (d : D) : Prop := D.dep d ≤ 60 ∧ D.sml d = true ∧ D.wt d ≤ 16000000
def sp_same : MSp := fun ds S Q _ => ∃ a b d e : D, ds = [a, b] ∧ Opn S a d ∧ Opn S b e ∧ ShO d ∧ ShO e ∧ Q (.bl (decide (reprD d = reprD e))) S
theorem t_same {S : Sto} {Q : Hold MQ} {E : Hold MXQ} {a b d : D} (ha : Opn S a d) (hb : Opn S b d) (h : ShO d) (k : Q.v (.bl true) S) : @CallP sp_same [a, b] S Q E :=
  ⟨a, b, d, d, rfl, ha, hb, h, h, by rw [decide_eq_true rfl]; exact k⟩
end FL
set_option maxRecDepth 100000
namespace FL
open PySem PySem.Spec L2 ML
def b_pot : MS := (mSeq (mSet 2 (mC (.int 0)))
  (mSeq (mIfS (mTst (mOp aLt (mVar 1) (mBlt bLen (mCons (mVar 0) mNil)))) (mSet 2 (mOp rIxM (mVar 0) (mVar 1))) mNext)
  (mRet (mLst (mCons (mBlt bMaxA (mCons (mVar 2) (mCons (mOp rSub (mUn rNeg (mC (.int 1))) (mVar 2)) mNil))) (mCons (mOp rMod (mVar 2) (mC (.int 2147483647))) (mCons (mC (.int 0)) mNil)))))))
def b_ptake : MS := (mSeq (mIfS (mTst (mOp aGt (mOp rIxM (mVar 0) (mC (.int 0))) (mC (.int 0)))) (mSeq (mSet 2 (mOp rMod (mOp rIxM (mVar 0) (mC (.int 0))) (mVar 1)))
  (mSeq (mAsg (mOp rDiv (mOp rIxM (mVar 0) (mC (.int 0))) (mVar 1)) (gSb (mVar 0) (mC (.int 0))))
  (mRet (mVar 2)))) mNext)
  (mSeq (mAsg (mOp rAdd (mOp rIxM (mVar 0) (mC (.int 2))) (mC (.int 1))) (gSb (mVar 0) (mC (.int 2))))
  (mSeq (mSet 3 (mOp rMod (mOp rAdd (mOp rAdd (mOp rMul (mOp rIxM (mVar 0) (mC (.int 1))) (mC (.int 48271))) (mOp rMul (mOp rMul (mOp rIxM (mVar 0) (mC (.int 2))) (mOp rIxM (mVar 0) (mC (.int 2)))) (mC (.int 7919)))) (mC (.int 101))) (mC (.int 2147483629))))
  (mSeq (mSet 3 (mOp rMod (mOp rMul (mVar 3) (mVar 3)) (mC (.int 2147483587))))
  (mRet (mOp rMod (mOp rDiv (mOp rMod (mOp rMul (mVar 3) (mOp rAdd (mVar 3) (mC (.int 69621)))) (mC (.int 2147483563))) (mC (.int 7))) (mVar 1)))))))
def b_pside : MS := (mSeq (mAsg (mOp rIxM (mVar 0) (mC (.int 0))) (gTp 2 (gCn (gNm 2) (gCn (gNm 3) gNl))))
  (mSeq (mAsg (mOp rIxM (mVar 0) (mC (.int 1))) (gTp 2 (gCn (gNm 4) (gCn (gNm 5) gNl))))
  (mSeq (mSet 6 (mOp rSub (mOp rMul (mOp rSub (mVar 4) (mVar 2)) (mOp rSub (mOp rIxM (mVar 1) (mC (.int 1))) (mVar 3))) (mOp rMul (mOp rSub (mVar 5) (mVar 3)) (mOp rSub (mOp rIxM (mVar 1) (mC (.int 0))) (mVar 2)))))
  (mRet (mOp rSub (mBlt bInt (mCons (mOp aGt (mVar 6) (mC (.int 0))) mNil)) (mBlt bInt (mCons (mOp aLt (mVar 6) (mC (.int 0))) mNil)))))))
def b_same : MS := (mRet (mOp rEqS (mBlt bReprO (mCons (mVar 0) mNil)) (mBlt bReprO (mCons (mVar 1) mNil))))
def b_pon : MS := (mRet (mAndV (mOp aLe (mOp rIxM (mVar 0) (mC (.int 0))) (mVar 1)) (mAndV (mOp aLe (mVar 1) (mOp rIxM (mVar 0) (mC (.int 1)))) (mOp rEqM (mCall FL.sp_pside (mCons (mVar 0) (mCons (mVar 1) mNil))) (mC (.int 0))))))
def b_papart : MS := (mSeq (mFor (iS (mLstF (mCons (mTup (mCons (mVar 0) (mCons (mVar 1) mNil))) (mCons (mTup (mCons (mVar 1) (mCons (mVar 0) mNil))) mNil)))) (gTp 2 (gCn (gNm 2) (gCn (gNm 3) gNl))) (mFor (iS (mVar 3)) (gNm 4) (mIfS (mAnd (mTru (mCall FL.sp_pon (mCons (mVar 2) (mCons (mVar 4) mNil)))) (mTst (mOp (rInM true) (mVar 4) (mVar 2)))) (mRet (mC (.bl false))) mNext)))
  (mSeq (mSet 5 (mOp aLt (mOp rMul (mCall FL.sp_pside (mCons (mVar 0) (mCons (mOp rIxM (mVar 1) (mC (.int 0))) mNil))) (mCall FL.sp_pside (mCons (mVar 0) (mCons (mOp rIxM (mVar 1) (mC (.int 1))) mNil)))) (mC (.int 0))))
  (mRet (mAndV (mOp rNeM (mVar 0) (mVar 1)) (mNotV (mAndV (mVar 5) (mOp aLt (mOp rMul (mCall FL.sp_pside (mCons (mVar 1) (mCons (mOp rIxM (mVar 0) (mC (.int 0))) mNil))) (mCall FL.sp_pside (mCons (mVar 1) (mCons (mOp rIxM (mVar 0) (mC (.int 1))) mNil)))) (mC (.int 0)))))))))
end FL
-- FLQ 
set_option maxRecDepth 100000
set_option maxHeartbeats 4000000
namespace FL
-- counts /tmp/scratch/dev/N_lib8.json
open PySem PySem.Spec L2 ML
local macro_rules | `(tactic| simp $c:optConfig $[$d:discharger]? only [gv] $[$l:location]?) => `(tactic| simp $c $[$d]? only [↓ML.q_mSeq, ↓ML.q_mC, ↓ML.q_mOp, ↓ML.q_mUn, ↓ML.q_mTst, ↓ML.q_mNot, ↓ML.q_mNotV, ↓ML.q_mRet, ↓ML.q_mRetN, ↓ML.q_mExpr, ↓ML.q_mNext, ↓ML.q_mBreak, ↓ML.q_mCont, ↓ML.q_mAsg, ↓ML.q_gSb, ↓ML.q_mTup, ↓ML.q_mLst, ↓ML.q_mLstF, ↓ML.q_mCons, ↓ML.q_mNil, ↓ML.q_mBlt, ↓ML.q_rEqM, ↓ML.q_rNeM, ↓ML.q_iR1, ↓ML.q_iR2, ↓ML.q_iEn, ↓ML.q_iZp, ↓ML.q_mMt, ↓ML.q_mMt0, ↓ML.q_mYes, ↓ML.q_mCut, ↓ML.q_oNo, ↓ML.q_oSo, ↓ML.l_mCall, ↓ML.l_mAnd, ↓ML.l_mOr, ↓ML.l_mAndV, ↓ML.l_mOrV, ↓ML.l_mIf, ↓ML.l_mIfS, ↓ML.l_mChain, ↓ML.l_mVar, ↓ML.l_mFor, ↓ML.l_mWhile, ↓ML.l_mComp, ↓ML.l_mCompF, ↓ML.l_optP, ↓ML.l_Go, ↓ML.Hold_v, ↓ML.l_mSet, ↓ML.l_gNm, ↓ML.l_mPar, ↓ML.l_rIxM, ↓ML.l_rSetM, ↓ML.l_rInt, ↓ML.l_rInt0, ↓ML.l_rAdd_int, ↓ML.l_rAdd_str, ↓ML.l_rAdd_tup, ↓ML.l_rNeg, ↓ML.l_rIsN, ↓ML.l_rNotN, ↓ML.l_rIsBM, ↓ML.l_mTru, ↓ML.l_bLen, ↓ML.l_bAbs, ↓ML.l_bMax2, ↓ML.l_bMin2, ↓ML.l_bInt_i, ↓ML.l_bInt_b, ↓ML.l_bTuple, ↓ML.l_bListF, ↓ML.l_bList, ↓ML.l_mIsi, ↓ML.l_iL, ↓ML.l_iT, ↓ML.l_gTp, ↓ML.l_gLs, ↓ML.l_gCn, ↓ML.l_gNl, ↓ML.l_mtAppend, ML.Hold_v, ML.l_mVar_z, ML.l_mVar_s, ML.OptP_some, ML.Go_eq, ML.IteP_true, ML.IteP_false, ML.lstOf_ref', ML.lstOf_lst, ML.lstOf_scr, ML.lstOf_tup, ML.ownOf_ref', ML.ownOf_lst, ML.seqOf_tup', ML.seqOf_lst', ML.seqOf_scr', ML.seqOf_ref', ML.olP_lst, ML.tupOf_tup, ML.ixL_lit, ML.ixL_cast, ML.ixL_m1, ML.setAt_lit, ML.setAt_cast, ML.truD_bl, ML.truD_int, ML.truD_tup, ML.truD_lst, ML.truD_scr, ML.truD_non, ML.lenD_tup, ML.lenD_lst, ML.lenD_scr, ML.lenD_ref, ML.tyD_non, ML.tyD_bl, ML.tyD_int, ML.tyD_str, ML.tyD_tup, ML.tyD_lst, ML.szl, ML.szlt, ML.cpow_lit, ML.mulok_rl, ML.mulok_ll, ML.divok_l, ML.put_same, ML.put_put, ML.q_wipeM, ML.deq_int, ML.deq_bl, ML.deq_str, ML.deq_non, ML.eqOk_int, ML.eqOk_bl, ML.isTy_NoneType_int, ML.isTy_NoneType_bool, ML.isTy_NoneType_tuple, ML.isTy_NoneType_list, ML.isTy_NoneType_str, ML.isTy_bool_int, ML.isTy_bool_bool, ML.isTy_bool_tuple, ML.isTy_bool_list, ML.isTy_bool_str, ML.isTy_int_int, ML.isTy_int_bool, ML.isTy_int_tuple, ML.isTy_int_list, ML.isTy_int_str, ML.isTy_str_int, ML.isTy_str_bool, ML.isTy_str_tuple, ML.isTy_str_list, ML.isTy_str_str, ML.isTy_tuple_int, ML.isTy_tuple_bool, ML.isTy_tuple_tuple, ML.isTy_tuple_list, ML.isTy_tuple_str, ML.isTy_list_int, ML.isTy_list_bool, ML.isTy_list_tuple, ML.isTy_list_list, ML.isTy_list_str, ML.isTy_dict_int, ML.isTy_dict_bool, ML.isTy_dict_tuple, ML.isTy_dict_list, ML.isTy_dict_str, FL.tup_fr, FL.tup_sp, FL.tup_wl, FL.tupOf_fr, FL.tupOf_sp, FL.tupOf_wl, FL.nz0, FL.nz1, FL.nz2, FL.nz3, FL.look_non, FL.look_int, FL.look_bl, FL.look_str, FL.look_tup, FL.look_lst, FL.look_scr, FL.seqOf_fr, FL.seqOf_sp, FL.seqOf_wl, FL.look_fr, FL.look_sp, FL.look_wl, FL.eqOk_fr, FL.eqOk_sp, FL.eqOk_wl, FL.deq_fr, FL.deq_sp, FL.deq_wl, FL.tyD_fr, FL.tyD_sp, FL.tyD_wl, FL.isN_fr, FL.isN_sp, FL.isN_wl, FL.lenD_sp, FL.lenD_wl, FL.rAdd_wl_tup, List.length_map, List.map_cons, List.map_nil, List.replicate, List.set_cons_zero, List.set_cons_succ, List.getElem?_cons_zero, List.getElem?_cons_succ, List.cons_append, List.nil_append, List.length_cons, List.length_nil, Option.bind_some, Option.map_some, ↓reduceIte, Nat.reduceAdd, Nat.reduceSub, Nat.reduceLT, Nat.reduceLeDiff, Nat.zero_add, decide_eq_true_eq, Bool.not_eq_true, ne_eq, reduceCtorEq, not_false_eq_true, true_and, and_true, Bool.false_eq_true, Bool.not_true, Bool.not_false, decide_true, decide_false, not_true_eq_false, eq_self, Bool.not_eq_eq_eq_not, if_true, if_false, decide_eq_false_iff_not, ML.ncast, Int.reduceToNat, Int.reducePow, Int.reduceAdd, Int.reduceSub, Int.reduceMul, Int.reduceNeg, Int.reduceLT, Int.reduceLE, Int.reduceEq, Nat.reduceEqDiff, Int.zero_add, gt_iff_lt, beq_self_eq_true, Bool.true_beq, Bool.false_beq, Bool.and_true, Bool.and_false, Bool.true_and, Bool.false_and, ↓ML.l_mtInsert, ↓ML.l_mtReverse, ↓ML.l_mtClear, ↓ML.l_bSortU, ↓ML.q_mMt0, ↓ML.l_bMaxL, ↓ML.l_bMinL, ↓ML.l_aLt_int, ↓ML.l_aLt_u, ↓ML.l_aGt_int, ↓ML.l_aGt_u, ↓ML.l_aLe_int, ↓ML.l_aLe_u, ↓ML.l_aGe_int, ↓ML.l_aGe_u, ↓ML.l_bMaxA_int, ↓ML.l_bMaxA_u, ↓ML.l_bMinA_int, ↓ML.l_bMinA_u, ML.tup_u, ML.tupOf_u, ML.seqOf_u, ML.sqI_u, ML.look_u, ML.isN_u, ML.lenD_u, ML.tyD_u, ML.tup_uw, ML.tupOf_uw, ML.seqOf_uw, ML.sqI_uw, ML.look_uw, ML.isN_uw, ML.lenD_uw, ML.tyD_uw, ML.eqOk_u, ML.eqOk_uw, ML.deq_u, ML.deq_uw, ML.in_uw, ↓ML.l_mRaise, ↓ML.l_mTry, ↓ML.l_mIsE, ↓ML.l_mIsV, ↓ML.l_mtCount, ↓ML.l_rAddS_rl, ↓ML.l_rAddS_ll, ML.excD_ref, ML.excOf_exc, ML.blsOf_nil, ML.blsOf_cons, ML.endM_nx, ML.endM_rt, ↓ML.l_mYes, ↓ML.l_iS, ↓ML.l_mIfJ, ↓ML.l_mJ, ↓ML.CrollP_nil, ↓ML.CrollP_cons, ↓ML.CrA_at, ↓ML.FrollP_nil, ↓ML.FrollP_cons, ML.isN_non, ML.isN_int, ML.isN_bl, ML.isN_str, ML.isN_tup, ML.isN_lst, ML.isN_ref, ML.sqI_tup, ML.sqI_lst, ML.sqI_scr, ML.sqI_ref, ML.sqI_at, ML.rngD_0, ML.rngD_1, ML.rngD_2, ML.rngD_3, ML.rngD_4, ML.rngD_6, ML.q_wipeM_nil, ML.q_wipeM_cons, FL.sqI_sp, FL.sqI_wl, FL.l_rAdd_rl, FL.l_rAdd_ll, FL.l_rAdd_lr, FL.l_rAdd_rr, FL.in_ints, FL.in_lu, ↓ML.l_bReprO, ↓ML.l_rEqS] $[$l]?)
local macro_rules | `(tactic| simp $c:optConfig $[$d:discharger]? only [gv, $ls,*] $[$l:location]?) => `(tactic| simp $c $[$d]? only [↓ML.q_mSeq, ↓ML.q_mC, ↓ML.q_mOp, ↓ML.q_mUn, ↓ML.q_mTst, ↓ML.q_mNot, ↓ML.q_mNotV, ↓ML.q_mRet, ↓ML.q_mRetN, ↓ML.q_mExpr, ↓ML.q_mNext, ↓ML.q_mBreak, ↓ML.q_mCont, ↓ML.q_mAsg, ↓ML.q_gSb, ↓ML.q_mTup, ↓ML.q_mLst, ↓ML.q_mLstF, ↓ML.q_mCons, ↓ML.q_mNil, ↓ML.q_mBlt, ↓ML.q_rEqM, ↓ML.q_rNeM, ↓ML.q_iR1, ↓ML.q_iR2, ↓ML.q_iEn, ↓ML.q_iZp, ↓ML.q_mMt, ↓ML.q_mMt0, ↓ML.q_mYes, ↓ML.q_mCut, ↓ML.q_oNo, ↓ML.q_oSo, ↓ML.l_mCall, ↓ML.l_mAnd, ↓ML.l_mOr, ↓ML.l_mAndV, ↓ML.l_mOrV, ↓ML.l_mIf, ↓ML.l_mIfS, ↓ML.l_mChain, ↓ML.l_mVar, ↓ML.l_mFor, ↓ML.l_mWhile, ↓ML.l_mComp, ↓ML.l_mCompF, ↓ML.l_optP, ↓ML.l_Go, ↓ML.Hold_v, ↓ML.l_mSet, ↓ML.l_gNm, ↓ML.l_mPar, ↓ML.l_rIxM, ↓ML.l_rSetM, ↓ML.l_rInt, ↓ML.l_rInt0, ↓ML.l_rAdd_int, ↓ML.l_rAdd_str, ↓ML.l_rAdd_tup, ↓ML.l_rNeg, ↓ML.l_rIsN, ↓ML.l_rNotN, ↓ML.l_rIsBM, ↓ML.l_mTru, ↓ML.l_bLen, ↓ML.l_bAbs, ↓ML.l_bMax2, ↓ML.l_bMin2, ↓ML.l_bInt_i, ↓ML.l_bInt_b, ↓ML.l_bTuple, ↓ML.l_bListF, ↓ML.l_bList, ↓ML.l_mIsi, ↓ML.l_iL, ↓ML.l_iT, ↓ML.l_gTp, ↓ML.l_gLs, ↓ML.l_gCn, ↓ML.l_gNl, ↓ML.l_mtAppend, ML.Hold_v, ML.l_mVar_z, ML.l_mVar_s, ML.OptP_some, ML.Go_eq, ML.IteP_true, ML.IteP_false, ML.lstOf_ref', ML.lstOf_lst, ML.lstOf_scr, ML.lstOf_tup, ML.ownOf_ref', ML.ownOf_lst, ML.seqOf_tup', ML.seqOf_lst', ML.seqOf_scr', ML.seqOf_ref', ML.olP_lst, ML.tupOf_tup, ML.ixL_lit, ML.ixL_cast, ML.ixL_m1, ML.setAt_lit, ML.setAt_cast, ML.truD_bl, ML.truD_int, ML.truD_tup, ML.truD_lst, ML.truD_scr, ML.truD_non, ML.lenD_tup, ML.lenD_lst, ML.lenD_scr, ML.lenD_ref, ML.tyD_non, ML.tyD_bl, ML.tyD_int, ML.tyD_str, ML.tyD_tup, ML.tyD_lst, ML.szl, ML.szlt, ML.cpow_lit, ML.mulok_rl, ML.mulok_ll, ML.divok_l, ML.put_same, ML.put_put, ML.q_wipeM, ML.deq_int, ML.deq_bl, ML.deq_str, ML.deq_non, ML.eqOk_int, ML.eqOk_bl, ML.isTy_NoneType_int, ML.isTy_NoneType_bool, ML.isTy_NoneType_tuple, ML.isTy_NoneType_list, ML.isTy_NoneType_str, ML.isTy_bool_int, ML.isTy_bool_bool, ML.isTy_bool_tuple, ML.isTy_bool_list, ML.isTy_bool_str, ML.isTy_int_int, ML.isTy_int_bool, ML.isTy_int_tuple, ML.isTy_int_list, ML.isTy_int_str, ML.isTy_str_int, ML.isTy_str_bool, ML.isTy_str_tuple, ML.isTy_str_list, ML.isTy_str_str, ML.isTy_tuple_int, ML.isTy_tuple_bool, ML.isTy_tuple_tuple, ML.isTy_tuple_list, ML.isTy_tuple_str, ML.isTy_list_int, ML.isTy_list_bool, ML.isTy_list_tuple, ML.isTy_list_list, ML.isTy_list_str, ML.isTy_dict_int, ML.isTy_dict_bool, ML.isTy_dict_tuple, ML.isTy_dict_list, ML.isTy_dict_str, FL.tup_fr, FL.tup_sp, FL.tup_wl, FL.tupOf_fr, FL.tupOf_sp, FL.tupOf_wl, FL.nz0, FL.nz1, FL.nz2, FL.nz3, FL.look_non, FL.look_int, FL.look_bl, FL.look_str, FL.look_tup, FL.look_lst, FL.look_scr, FL.seqOf_fr, FL.seqOf_sp, FL.seqOf_wl, FL.look_fr, FL.look_sp, FL.look_wl, FL.eqOk_fr, FL.eqOk_sp, FL.eqOk_wl, FL.deq_fr, FL.deq_sp, FL.deq_wl, FL.tyD_fr, FL.tyD_sp, FL.tyD_wl, FL.isN_fr, FL.isN_sp, FL.isN_wl, FL.lenD_sp, FL.lenD_wl, FL.rAdd_wl_tup, List.length_map, List.map_cons, List.map_nil, List.replicate, List.set_cons_zero, List.set_cons_succ, List.getElem?_cons_zero, List.getElem?_cons_succ, List.cons_append, List.nil_append, List.length_cons, List.length_nil, Option.bind_some, Option.map_some, ↓reduceIte, Nat.reduceAdd, Nat.reduceSub, Nat.reduceLT, Nat.reduceLeDiff, Nat.zero_add, decide_eq_true_eq, Bool.not_eq_true, ne_eq, reduceCtorEq, not_false_eq_true, true_and, and_true, Bool.false_eq_true, Bool.not_true, Bool.not_false, decide_true, decide_false, not_true_eq_false, eq_self, Bool.not_eq_eq_eq_not, if_true, if_false, decide_eq_false_iff_not, ML.ncast, Int.reduceToNat, Int.reducePow, Int.reduceAdd, Int.reduceSub, Int.reduceMul, Int.reduceNeg, Int.reduceLT, Int.reduceLE, Int.reduceEq, Nat.reduceEqDiff, Int.zero_add, gt_iff_lt, beq_self_eq_true, Bool.true_beq, Bool.false_beq, Bool.and_true, Bool.and_false, Bool.true_and, Bool.false_and, ↓ML.l_mtInsert, ↓ML.l_mtReverse, ↓ML.l_mtClear, ↓ML.l_bSortU, ↓ML.q_mMt0, ↓ML.l_bMaxL, ↓ML.l_bMinL, ↓ML.l_aLt_int, ↓ML.l_aLt_u, ↓ML.l_aGt_int, ↓ML.l_aGt_u, ↓ML.l_aLe_int, ↓ML.l_aLe_u, ↓ML.l_aGe_int, ↓ML.l_aGe_u, ↓ML.l_bMaxA_int, ↓ML.l_bMaxA_u, ↓ML.l_bMinA_int, ↓ML.l_bMinA_u, ML.tup_u, ML.tupOf_u, ML.seqOf_u, ML.sqI_u, ML.look_u, ML.isN_u, ML.lenD_u, ML.tyD_u, ML.tup_uw, ML.tupOf_uw, ML.seqOf_uw, ML.sqI_uw, ML.look_uw, ML.isN_uw, ML.lenD_uw, ML.tyD_uw, ML.eqOk_u, ML.eqOk_uw, ML.deq_u, ML.deq_uw, ML.in_uw, ↓ML.l_mRaise, ↓ML.l_mTry, ↓ML.l_mIsE, ↓ML.l_mIsV, ↓ML.l_mtCount, ↓ML.l_rAddS_rl, ↓ML.l_rAddS_ll, ML.excD_ref, ML.excOf_exc, ML.blsOf_nil, ML.blsOf_cons, ML.endM_nx, ML.endM_rt, ↓ML.l_mYes, ↓ML.l_iS, ↓ML.l_mIfJ, ↓ML.l_mJ, ↓ML.CrollP_nil, ↓ML.CrollP_cons, ↓ML.CrA_at, ↓ML.FrollP_nil, ↓ML.FrollP_cons, ML.isN_non, ML.isN_int, ML.isN_bl, ML.isN_str, ML.isN_tup, ML.isN_lst, ML.isN_ref, ML.sqI_tup, ML.sqI_lst, ML.sqI_scr, ML.sqI_ref, ML.sqI_at, ML.rngD_0, ML.rngD_1, ML.rngD_2, ML.rngD_3, ML.rngD_4, ML.rngD_6, ML.q_wipeM_nil, ML.q_wipeM_cons, FL.sqI_sp, FL.sqI_wl, FL.l_rAdd_rl, FL.l_rAdd_ll, FL.l_rAdd_lr, FL.l_rAdd_rr, FL.in_ints, FL.in_lu, ↓ML.l_bReprO, ↓ML.l_rEqS, $ls,*] $[$l]?)
local macro_rules | `(tactic| simp $c:optConfig $[$d:discharger]? only [gg] $[$l:location]?) => `(tactic| simp $c $[$d]? only [↓ML.q_mSeq, ↓ML.q_mC, ↓ML.q_mOp, ↓ML.q_mUn, ↓ML.q_mTst, ↓ML.q_mNot, ↓ML.q_mNotV, ↓ML.q_mRet, ↓ML.q_mRetN, ↓ML.q_mExpr, ↓ML.q_mNext, ↓ML.q_mBreak, ↓ML.q_mCont, ↓ML.q_mAsg, ↓ML.q_gSb, ↓ML.q_mTup, ↓ML.q_mLst, ↓ML.q_mLstF, ↓ML.q_mCons, ↓ML.q_mNil, ↓ML.q_mBlt, ↓ML.q_rEqM, ↓ML.q_rNeM, ↓ML.q_iR1, ↓ML.q_iR2, ↓ML.q_iEn, ↓ML.q_iZp, ↓ML.q_mMt, ↓ML.q_mMt0, ↓ML.q_mYes, ↓ML.q_mCut, ↓ML.q_oNo, ↓ML.q_oSo, ↓ML.l_mCall, ↓ML.l_mAnd, ↓ML.l_mOr, ↓ML.l_mAndV, ↓ML.l_mOrV, ↓ML.l_mIf, ↓ML.l_mIfS, ↓ML.l_mChain, ↓ML.l_mVar, ↓ML.l_mFor, ↓ML.l_mWhile, ↓ML.l_mComp, ↓ML.l_mCompF, ↓ML.l_optP, ↓ML.l_Go, ↓ML.Hold_v, ↓ML.l_mSet, ↓ML.l_gNm, ↓ML.l_mPar, ↓ML.l_rIxM, ↓ML.l_rSetM, ↓ML.l_rInt, ↓ML.l_rInt0, ↓ML.l_rAdd_int, ↓ML.l_rAdd_str, ↓ML.l_rAdd_tup, ↓ML.l_rNeg, ↓ML.l_rIsN, ↓ML.l_rNotN, ↓ML.l_rIsBM, ↓ML.l_mTru, ↓ML.l_bLen, ↓ML.l_bAbs, ↓ML.l_bMax2, ↓ML.l_bMin2, ↓ML.l_bInt_i, ↓ML.l_bInt_b, ↓ML.l_bTuple, ↓ML.l_bListF, ↓ML.l_bList, ↓ML.l_mIsi, ↓ML.l_iL, ↓ML.l_iT, ↓ML.l_gTp, ↓ML.l_gLs, ↓ML.l_gCn, ↓ML.l_gNl, ↓ML.l_mtAppend, ML.Hold_v, ML.l_mVar_z, ML.l_mVar_s, ML.OptP_some, ML.Go_eq, ML.IteP_true, ML.IteP_false, ML.lstOf_ref', ML.lstOf_lst, ML.lstOf_scr, ML.lstOf_tup, ML.ownOf_ref', ML.ownOf_lst, ML.seqOf_tup', ML.seqOf_lst', ML.seqOf_scr', ML.seqOf_ref', ML.olP_lst, ML.tupOf_tup, ML.ixL_lit, ML.ixL_cast, ML.ixL_m1, ML.setAt_lit, ML.setAt_cast, ML.truD_bl, ML.truD_int, ML.truD_tup, ML.truD_lst, ML.truD_scr, ML.truD_non, ML.lenD_tup, ML.lenD_lst, ML.lenD_scr, ML.lenD_ref, ML.tyD_non, ML.tyD_bl, ML.tyD_int, ML.tyD_str, ML.tyD_tup, ML.tyD_lst, ML.szl, ML.szlt, ML.cpow_lit, ML.mulok_rl, ML.mulok_ll, ML.divok_l, ML.put_same, ML.put_put, ML.q_wipeM, ML.deq_int, ML.deq_bl, ML.deq_str, ML.deq_non, ML.eqOk_int, ML.eqOk_bl, ML.isTy_NoneType_int, ML.isTy_NoneType_bool, ML.isTy_NoneType_tuple, ML.isTy_NoneType_list, ML.isTy_NoneType_str, ML.isTy_bool_int, ML.isTy_bool_bool, ML.isTy_bool_tuple, ML.isTy_bool_list, ML.isTy_bool_str, ML.isTy_int_int, ML.isTy_int_bool, ML.isTy_int_tuple, ML.isTy_int_list, ML.isTy_int_str, ML.isTy_str_int, ML.isTy_str_bool, ML.isTy_str_tuple, ML.isTy_str_list, ML.isTy_str_str, ML.isTy_tuple_int, ML.isTy_tuple_bool, ML.isTy_tuple_tuple, ML.isTy_tuple_list, ML.isTy_tuple_str, ML.isTy_list_int, ML.isTy_list_bool, ML.isTy_list_tuple, ML.isTy_list_list, ML.isTy_list_str, ML.isTy_dict_int, ML.isTy_dict_bool, ML.isTy_dict_tuple, ML.isTy_dict_list, ML.isTy_dict_str, FL.tup_fr, FL.tup_sp, FL.tup_wl, FL.tupOf_fr, FL.tupOf_sp, FL.tupOf_wl, FL.nz0, FL.nz1, FL.nz2, FL.nz3, FL.look_non, FL.look_int, FL.look_bl, FL.look_str, FL.look_tup, FL.look_lst, FL.look_scr, FL.seqOf_fr, FL.seqOf_sp, FL.seqOf_wl, FL.look_fr, FL.look_sp, FL.look_wl, FL.eqOk_fr, FL.eqOk_sp, FL.eqOk_wl, FL.deq_fr, FL.deq_sp, FL.deq_wl, FL.tyD_fr, FL.tyD_sp, FL.tyD_wl, FL.isN_fr, FL.isN_sp, FL.isN_wl, FL.lenD_sp, FL.lenD_wl, FL.rAdd_wl_tup, List.length_map, List.map_cons, List.map_nil, List.replicate, List.set_cons_zero, List.set_cons_succ, List.getElem?_cons_zero, List.getElem?_cons_succ, List.cons_append, List.nil_append, List.length_cons, List.length_nil, Option.bind_some, Option.map_some, ↓reduceIte, Nat.reduceAdd, Nat.reduceSub, Nat.reduceLT, Nat.reduceLeDiff, Nat.zero_add, decide_eq_true_eq, Bool.not_eq_true, ne_eq, reduceCtorEq, not_false_eq_true, true_and, and_true, Bool.false_eq_true, Bool.not_true, Bool.not_false, decide_true, decide_false, not_true_eq_false, eq_self, Bool.not_eq_eq_eq_not, if_true, if_false, decide_eq_false_iff_not, ML.ncast, Int.reduceToNat, Int.reducePow, Int.reduceAdd, Int.reduceSub, Int.reduceMul, Int.reduceNeg, Int.reduceLT, Int.reduceLE, Int.reduceEq, Nat.reduceEqDiff, Int.zero_add, gt_iff_lt, beq_self_eq_true, Bool.true_beq, Bool.false_beq, Bool.and_true, Bool.and_false, Bool.true_and, Bool.false_and, ↓ML.l_mtInsert, ↓ML.l_mtReverse, ↓ML.l_mtClear, ↓ML.l_bSortU, ↓ML.q_mMt0, ↓ML.l_bMaxL, ↓ML.l_bMinL, ↓ML.l_aLt_int, ↓ML.l_aLt_u, ↓ML.l_aGt_int, ↓ML.l_aGt_u, ↓ML.l_aLe_int, ↓ML.l_aLe_u, ↓ML.l_aGe_int, ↓ML.l_aGe_u, ↓ML.l_bMaxA_int, ↓ML.l_bMaxA_u, ↓ML.l_bMinA_int, ↓ML.l_bMinA_u, ML.tup_u, ML.tupOf_u, ML.seqOf_u, ML.sqI_u, ML.look_u, ML.isN_u, ML.lenD_u, ML.tyD_u, ML.tup_uw, ML.tupOf_uw, ML.seqOf_uw, ML.sqI_uw, ML.look_uw, ML.isN_uw, ML.lenD_uw, ML.tyD_uw, ML.eqOk_u, ML.eqOk_uw, ML.deq_u, ML.deq_uw, ML.in_uw, ↓ML.l_mRaise, ↓ML.l_mTry, ↓ML.l_mIsE, ↓ML.l_mIsV, ↓ML.l_mtCount, ↓ML.l_rAddS_rl, ↓ML.l_rAddS_ll, ML.excD_ref, ML.excOf_exc, ML.blsOf_nil, ML.blsOf_cons, ML.endM_nx, ML.endM_rt, ↓ML.l_mYes, ↓ML.l_iS, ↓ML.l_mIfJ, ↓ML.l_mJ, ↓ML.CrollP_nil, ↓ML.CrollP_cons, ↓ML.CrA_at, ↓ML.FrollP_nil, ↓ML.FrollP_cons, ML.isN_non, ML.isN_int, ML.isN_bl, ML.isN_str, ML.isN_tup, ML.isN_lst, ML.isN_ref, ML.sqI_tup, ML.sqI_lst, ML.sqI_scr, ML.sqI_ref, ML.sqI_at, ML.rngD_0, ML.rngD_1, ML.rngD_2, ML.rngD_3, ML.rngD_4, ML.rngD_6, ML.q_wipeM_nil, ML.q_wipeM_cons, FL.sqI_sp, FL.sqI_wl] $[$l]?)
local macro_rules | `(tactic| simp $c:optConfig $[$d:discharger]? only [gg, $ls,*] $[$l:location]?) => `(tactic| simp $c $[$d]? only [↓ML.q_mSeq, ↓ML.q_mC, ↓ML.q_mOp, ↓ML.q_mUn, ↓ML.q_mTst, ↓ML.q_mNot, ↓ML.q_mNotV, ↓ML.q_mRet, ↓ML.q_mRetN, ↓ML.q_mExpr, ↓ML.q_mNext, ↓ML.q_mBreak, ↓ML.q_mCont, ↓ML.q_mAsg, ↓ML.q_gSb, ↓ML.q_mTup, ↓ML.q_mLst, ↓ML.q_mLstF, ↓ML.q_mCons, ↓ML.q_mNil, ↓ML.q_mBlt, ↓ML.q_rEqM, ↓ML.q_rNeM, ↓ML.q_iR1, ↓ML.q_iR2, ↓ML.q_iEn, ↓ML.q_iZp, ↓ML.q_mMt, ↓ML.q_mMt0, ↓ML.q_mYes, ↓ML.q_mCut, ↓ML.q_oNo, ↓ML.q_oSo, ↓ML.l_mCall, ↓ML.l_mAnd, ↓ML.l_mOr, ↓ML.l_mAndV, ↓ML.l_mOrV, ↓ML.l_mIf, ↓ML.l_mIfS, ↓ML.l_mChain, ↓ML.l_mVar, ↓ML.l_mFor, ↓ML.l_mWhile, ↓ML.l_mComp, ↓ML.l_mCompF, ↓ML.l_optP, ↓ML.l_Go, ↓ML.Hold_v, ↓ML.l_mSet, ↓ML.l_gNm, ↓ML.l_mPar, ↓ML.l_rIxM, ↓ML.l_rSetM, ↓ML.l_rInt, ↓ML.l_rInt0, ↓ML.l_rAdd_int, ↓ML.l_rAdd_str, ↓ML.l_rAdd_tup, ↓ML.l_rNeg, ↓ML.l_rIsN, ↓ML.l_rNotN, ↓ML.l_rIsBM, ↓ML.l_mTru, ↓ML.l_bLen, ↓ML.l_bAbs, ↓ML.l_bMax2, ↓ML.l_bMin2, ↓ML.l_bInt_i, ↓ML.l_bInt_b, ↓ML.l_bTuple, ↓ML.l_bListF, ↓ML.l_bList, ↓ML.l_mIsi, ↓ML.l_iL, ↓ML.l_iT, ↓ML.l_gTp, ↓ML.l_gLs, ↓ML.l_gCn, ↓ML.l_gNl, ↓ML.l_mtAppend, ML.Hold_v, ML.l_mVar_z, ML.l_mVar_s, ML.OptP_some, ML.Go_eq, ML.IteP_true, ML.IteP_false, ML.lstOf_ref', ML.lstOf_lst, ML.lstOf_scr, ML.lstOf_tup, ML.ownOf_ref', ML.ownOf_lst, ML.seqOf_tup', ML.seqOf_lst', ML.seqOf_scr', ML.seqOf_ref', ML.olP_lst, ML.tupOf_tup, ML.ixL_lit, ML.ixL_cast, ML.ixL_m1, ML.setAt_lit, ML.setAt_cast, ML.truD_bl, ML.truD_int, ML.truD_tup, ML.truD_lst, ML.truD_scr, ML.truD_non, ML.lenD_tup, ML.lenD_lst, ML.lenD_scr, ML.lenD_ref, ML.tyD_non, ML.tyD_bl, ML.tyD_int, ML.tyD_str, ML.tyD_tup, ML.tyD_lst, ML.szl, ML.szlt, ML.cpow_lit, ML.mulok_rl, ML.mulok_ll, ML.divok_l, ML.put_same, ML.put_put, ML.q_wipeM, ML.deq_int, ML.deq_bl, ML.deq_str, ML.deq_non, ML.eqOk_int, ML.eqOk_bl, ML.isTy_NoneType_int, ML.isTy_NoneType_bool, ML.isTy_NoneType_tuple, ML.isTy_NoneType_list, ML.isTy_NoneType_str, ML.isTy_bool_int, ML.isTy_bool_bool, ML.isTy_bool_tuple, ML.isTy_bool_list, ML.isTy_bool_str, ML.isTy_int_int, ML.isTy_int_bool, ML.isTy_int_tuple, ML.isTy_int_list, ML.isTy_int_str, ML.isTy_str_int, ML.isTy_str_bool, ML.isTy_str_tuple, ML.isTy_str_list, ML.isTy_str_str, ML.isTy_tuple_int, ML.isTy_tuple_bool, ML.isTy_tuple_tuple, ML.isTy_tuple_list, ML.isTy_tuple_str, ML.isTy_list_int, ML.isTy_list_bool, ML.isTy_list_tuple, ML.isTy_list_list, ML.isTy_list_str, ML.isTy_dict_int, ML.isTy_dict_bool, ML.isTy_dict_tuple, ML.isTy_dict_list, ML.isTy_dict_str, FL.tup_fr, FL.tup_sp, FL.tup_wl, FL.tupOf_fr, FL.tupOf_sp, FL.tupOf_wl, FL.nz0, FL.nz1, FL.nz2, FL.nz3, FL.look_non, FL.look_int, FL.look_bl, FL.look_str, FL.look_tup, FL.look_lst, FL.look_scr, FL.seqOf_fr, FL.seqOf_sp, FL.seqOf_wl, FL.look_fr, FL.look_sp, FL.look_wl, FL.eqOk_fr, FL.eqOk_sp, FL.eqOk_wl, FL.deq_fr, FL.deq_sp, FL.deq_wl, FL.tyD_fr, FL.tyD_sp, FL.tyD_wl, FL.isN_fr, FL.isN_sp, FL.isN_wl, FL.lenD_sp, FL.lenD_wl, FL.rAdd_wl_tup, List.length_map, List.map_cons, List.map_nil, List.replicate, List.set_cons_zero, List.set_cons_succ, List.getElem?_cons_zero, List.getElem?_cons_succ, List.cons_append, List.nil_append, List.length_cons, List.length_nil, Option.bind_some, Option.map_some, ↓reduceIte, Nat.reduceAdd, Nat.reduceSub, Nat.reduceLT, Nat.reduceLeDiff, Nat.zero_add, decide_eq_true_eq, Bool.not_eq_true, ne_eq, reduceCtorEq, not_false_eq_true, true_and, and_true, Bool.false_eq_true, Bool.not_true, Bool.not_false, decide_true, decide_false, not_true_eq_false, eq_self, Bool.not_eq_eq_eq_not, if_true, if_false, decide_eq_false_iff_not, ML.ncast, Int.reduceToNat, Int.reducePow, Int.reduceAdd, Int.reduceSub, Int.reduceMul, Int.reduceNeg, Int.reduceLT, Int.reduceLE, Int.reduceEq, Nat.reduceEqDiff, Int.zero_add, gt_iff_lt, beq_self_eq_true, Bool.true_beq, Bool.false_beq, Bool.and_true, Bool.and_false, Bool.true_and, Bool.false_and, ↓ML.l_mtInsert, ↓ML.l_mtReverse, ↓ML.l_mtClear, ↓ML.l_bSortU, ↓ML.q_mMt0, ↓ML.l_bMaxL, ↓ML.l_bMinL, ↓ML.l_aLt_int, ↓ML.l_aLt_u, ↓ML.l_aGt_int, ↓ML.l_aGt_u, ↓ML.l_aLe_int, ↓ML.l_aLe_u, ↓ML.l_aGe_int, ↓ML.l_aGe_u, ↓ML.l_bMaxA_int, ↓ML.l_bMaxA_u, ↓ML.l_bMinA_int, ↓ML.l_bMinA_u, ML.tup_u, ML.tupOf_u, ML.seqOf_u, ML.sqI_u, ML.look_u, ML.isN_u, ML.lenD_u, ML.tyD_u, ML.tup_uw, ML.tupOf_uw, ML.seqOf_uw, ML.sqI_uw, ML.look_uw, ML.isN_uw, ML.lenD_uw, ML.tyD_uw, ML.eqOk_u, ML.eqOk_uw, ML.deq_u, ML.deq_uw, ML.in_uw, ↓ML.l_mRaise, ↓ML.l_mTry, ↓ML.l_mIsE, ↓ML.l_mIsV, ↓ML.l_mtCount, ↓ML.l_rAddS_rl, ↓ML.l_rAddS_ll, ML.excD_ref, ML.excOf_exc, ML.blsOf_nil, ML.blsOf_cons, ML.endM_nx, ML.endM_rt, ↓ML.l_mYes, ↓ML.l_iS, ↓ML.l_mIfJ, ↓ML.l_mJ, ↓ML.CrollP_nil, ↓ML.CrollP_cons, ↓ML.CrA_at, ↓ML.FrollP_nil, ↓ML.FrollP_cons, ML.isN_non, ML.isN_int, ML.isN_bl, ML.isN_str, ML.isN_tup, ML.isN_lst, ML.isN_ref, ML.sqI_tup, ML.sqI_lst, ML.sqI_scr, ML.sqI_ref, ML.sqI_at, ML.rngD_0, ML.rngD_1, ML.rngD_2, ML.rngD_3, ML.rngD_4, ML.rngD_6, ML.q_wipeM_nil, ML.q_wipeM_cons, FL.sqI_sp, FL.sqI_wl, $ls,*] $[$l]?)
theorem l_pot : ∀ ds S Q E, FL.sp_pot ds S Q E → ds.length = 2 := by rintro _ _ _ _ ⟨_, _, rfl, _⟩; rfl
theorem l_ptake : ∀ ds S Q E, FL.sp_ptake ds S Q E → ds.length = 2 := by rintro _ _ _ _ ⟨_, _, _, _, _, rfl, _⟩; rfl
theorem l_pside : ∀ ds S Q E, FL.sp_pside ds S Q E → ds.length = 2 := by rintro _ _ _ _ ⟨_, _, rfl, _⟩; rfl
theorem l_pon : ∀ ds S Q E, FL.sp_pon ds S Q E → ds.length = 2 := by rintro _ _ _ _ ⟨_, _, rfl, _⟩; rfl
theorem l_papart : ∀ ds S Q E, FL.sp_papart ds S Q E → ds.length = 2 := by rintro _ _ _ _ ⟨_, _, rfl, _⟩; rfl
theorem l_same : ∀ ds S Q E, FL.sp_same ds S Q E → ds.length = 2 := by rintro _ _ _ _ ⟨_, _, _, _, rfl, _⟩; rfl
theorem r_pot : ∀ ds S Q E, FL.sp_pot ds S Q E → b_pot (mends Q E) (mstart 1 ds) S := by
  rintro _ S Q E ⟨ns, k, rfl, hl, q⟩
  unfold b_pot
  simp only [ML.q_mstart, ML.q_mends, List.map_cons, List.map_nil, List.replicate, List.cons_append, List.nil_append]
  have fin : ∀ (c : Int) (p : Addr), S p = none → Q (.ref p) (put S p (.lst [.int (if c < -1 - c then -1 - c else c), .int (c.fmod 2147483647), .int 0])) := by
    intro c p hp
    rw [fmod_pos (by decide)]
    refine q p _ _ hp ⟨by split <;> omega, by omega, by omega, by decide⟩
  simp only [gg]
  refine ⟨fun h => ?_, fun h => ?_⟩
  · have hk : k < ns.length := by omega
    simp only [gg, List.getElem?_map, List.getElem?_eq_getElem hk]
    exact fin _
  · simp only [gg]
    exact fin 0
theorem r_ptake : ∀ ds S Q E, FL.sp_ptake ds S Q E → b_ptake (mends Q E) (mstart 2 ds) S := by
  rintro _ S Q E ⟨p, a, b, z, n, rfl, hp, a0, b0, b1, hn, z0, z1, q⟩
  have hz : z.natAbs < 2 ^ 200 := by omega
  unfold b_ptake
  simp only [ML.q_mstart, ML.q_mends, List.map_cons, List.map_nil, List.replicate, List.cons_append, List.nil_append]
  simp only [gg, hp, potO]
  have hp' : S p = some (.lst [.int a, .int b, .int n]) := hp
  refine ⟨fun h => ?_, fun h => ?_⟩
  · simp only [gg, hp', olP_lst]
    refine ⟨by omega, divok_w (by omega) hz (by decide) (by decide), ?_⟩
    rw [fmod_pos (j := z) (by omega), fdiv_pos (by omega)]
    exact q _ _ n (Int.emod_nonneg _ (by omega)) (Int.emod_lt_of_pos _ (by omega)) (Int.ediv_nonneg a0 (by omega)) (by omega)
  · simp only [gg, hp', olP_lst]
    generalize hx : (b * 48271 + ((n : Int) + 1) * ((n : Int) + 1) * 7919 + 101).fmod 2147483629 = x
    rw [fmod_pos (by decide)] at hx
    have x0 : 0 ≤ x ∧ x < 2147483629 := by omega
    generalize hy : (x * x).fmod 2147483587 = y
    rw [fmod_pos (by decide)] at hy
    have y0 : 0 ≤ y ∧ y < 2147483587 := by omega
    refine ⟨mulok_r (by omega) (by omega), mulok_r (by omega) (by omega), mulok_r (by omega) (by omega), by omega, ?_⟩
    rw [fmod_pos (j := z) (by omega)]
    exact q _ _ (n + 1) (Int.emod_nonneg _ (by omega)) (Int.emod_lt_of_pos _ (by omega)) a0 (by omega)
theorem r_pside : ∀ ds S Q E, FL.sp_pside ds S Q E → b_pside (mends Q E) (mstart 5 ds) S := by
  rintro _ S Q E ⟨w, s, rfl, ⟨⟨a1, a2, a3, a4⟩, ⟨b1, b2, b3, b4⟩⟩, ⟨c1, c2, c3, c4⟩, k⟩
  unfold b_pside
  simp only [ML.q_mstart, ML.q_mends, List.map_cons, List.map_nil, List.replicate, List.cons_append, List.nil_append]
  simp only [gg]
  refine ⟨mulok_l (by omega) (by omega), mulok_l (by omega) (by omega), ?_⟩
  rw [isgn, ← uturn_eq]; exact k
theorem r_pon : ∀ ds S Q E, FL.sp_pon ds S Q E → b_pon (mends Q E) (mstart 0 ds) S := by
  rintro _ S Q E ⟨w, s, rfl, hw, hs, k⟩
  unfold b_pon
  simp only [ML.q_mstart, ML.q_mends, List.map_cons, List.map_nil, List.replicate, List.cons_append, List.nil_append]
  simp only [gg]
  have fin : ∀ b : Bool, b = decide (uon w s) → Q (.bl b) S := by rintro _ rfl; exact k
  refine ⟨fun h1 => ?_, fun h1 => ?_⟩
  · simp only [gg]
    refine ⟨fun h2 => ?_, fun h2 => ?_⟩
    · simp only [gg]
      refine ⟨w, s, rfl, hw, hs, ?_⟩
      simp only [gg]
      exact fin _ (by simp [uon, h1, h2])
    · simp only [gg]
      exact fin _ (by simp [uon, h1, h2])
  · simp only [gg]
    exact fin _ (by simp [uon, h1])
theorem r_same : ∀ ds S Q E, FL.sp_same ds S Q E → b_same (mends Q E) (mstart 0 ds) S := by
  rintro _ S Q E ⟨a, b, d, e, rfl, ha, hb, sa, sb, k⟩
  unfold b_same
  simp only [ML.q_mstart, ML.q_mends, List.map_cons, List.map_nil, List.replicate, List.cons_append, List.nil_append]
  simp only [gv]
  refine reprP ha sa ?_
  simp only [gv]
  refine reprP hb sb ?_
  simp only [gv]
  exact k
theorem r_papart : ∀ ds S Q E, FL.sp_papart ds S Q E → b_papart (mends Q E) (mstart 4 ds) S := by
  rintro _ S Q E ⟨a, b, rfl, ha, hb, k⟩
  have no : ufair a b = false → Q (.bl false) S := fun h => by rwa [h] at k
  unfold b_papart
  simp only [ML.q_mstart, ML.q_mends, List.map_cons, List.map_nil, List.replicate, List.cons_append, List.nil_append]
  simp only [gg]
  refine for_roll ?_
  simp only [gg]
  refine wfor_inv (fun i σ S' => @KP ⟨S = S' ∧ (∃ z, σ = [some (uwD a), some (uwD b), some (uwD a), some (uwD b), z, none]) ∧ (0 < i → chk a b.1 = false) ∧ (1 < i → chk a b.2 = false)⟩) ⟨rfl, ⟨_, rfl⟩, by omega, by omega⟩ ?_ ?_
  · rintro i d σ S' hd ⟨rfl, ⟨z, rfl⟩, c1, c2⟩
    refine ⟨trivial, ?_⟩
    have hi : (i = 0 ∧ d = uD b.1) ∨ (i = 1 ∧ d = uD b.2) := by
      rcases i with _ | _ | i
      · cases hd; exact .inl ⟨rfl, rfl⟩
      · cases hd; exact .inr ⟨rfl, rfl⟩
      · cases hd
    rcases hi with ⟨rfl, rfl⟩ | ⟨rfl, rfl⟩
    · simp only [gg]
      refine ⟨a, b.1, rfl, ha, hb.f, ?_⟩
      simp only [gg]
      refine ⟨fun h1 => ?_, fun h1 => ?_⟩
      · simp only [gg]
        refine ⟨fun h2 => ?_, fun h2 => ?_⟩
        · simp only [gg]
          exact no (by rw [ufair_eq]; simp [chk, h1, h2])
        · simp only [gg]
          exact KP.mk ⟨rfl, ⟨_, rfl⟩, fun _ => by simp only [Bool.not_eq_false] at h2; simp [chk, h2], by omega⟩
      · simp only [gg]
        exact KP.mk ⟨rfl, ⟨_, rfl⟩, fun _ => by simp [chk, h1], by omega⟩
    · simp only [gg]
      refine ⟨a, b.2, rfl, ha, hb.s, ?_⟩
      simp only [gg]
      refine ⟨fun h1 => ?_, fun h1 => ?_⟩
      · simp only [gg]
        refine ⟨fun h2 => ?_, fun h2 => ?_⟩
        · simp only [gg]
          exact no (by rw [ufair_eq]; simp [chk, h1, h2])
        · simp only [gg]
          exact KP.mk ⟨rfl, ⟨_, rfl⟩, fun _ => c1 (by decide), fun _ => by simp only [Bool.not_eq_false] at h2; simp [chk, h2]⟩
      · simp only [gg]
        exact KP.mk ⟨rfl, ⟨_, rfl⟩, fun _ => c1 (by decide), fun _ => by simp [chk, h1]⟩
  rintro σ S1 ⟨e1, ⟨z1, rfl⟩, ca1, ca2⟩
  cases e1
  replace ca1 := ca1 (by simp)
  replace ca2 := ca2 (by simp)
  refine ⟨trivial, ?_⟩
  simp only [gg]
  refine wfor_inv (fun i σ S' => @KP ⟨S = S' ∧ (∃ z, σ = [some (uwD a), some (uwD b), some (uwD b), some (uwD a), z, none]) ∧ (0 < i → chk b a.1 = false) ∧ (1 < i → chk b a.2 = false)⟩) ⟨rfl, ⟨_, rfl⟩, by omega, by omega⟩ ?_ ?_
  · rintro i d σ S' hd ⟨rfl, ⟨z, rfl⟩, c1, c2⟩
    refine ⟨trivial, ?_⟩
    have hi : (i = 0 ∧ d = uD a.1) ∨ (i = 1 ∧ d = uD a.2) := by
      rcases i with _ | _ | i
      · cases hd; exact .inl ⟨rfl, rfl⟩
      · cases hd; exact .inr ⟨rfl, rfl⟩
      · cases hd
    rcases hi with ⟨rfl, rfl⟩ | ⟨rfl, rfl⟩
    · simp only [gg]
      refine ⟨b, a.1, rfl, hb, ha.f, ?_⟩
      simp only [gg]
      refine ⟨fun h1 => ?_, fun h1 => ?_⟩
      · simp only [gg]
        refine ⟨fun h2 => ?_, fun h2 => ?_⟩
        · simp only [gg]
          exact no (by rw [ufair_eq]; simp [chk, h1, h2])
        · simp only [gg]
          exact KP.mk ⟨rfl, ⟨_, rfl⟩, fun _ => by simp only [Bool.not_eq_false] at h2; simp [chk, h2], by omega⟩
      · simp only [gg]
        exact KP.mk ⟨rfl, ⟨_, rfl⟩, fun _ => by simp [chk, h1], by omega⟩
    · simp only [gg]
      refine ⟨b, a.2, rfl, hb, ha.s, ?_⟩
      simp only [gg]
      refine ⟨fun h1 => ?_, fun h1 => ?_⟩
      · simp only [gg]
        refine ⟨fun h2 => ?_, fun h2 => ?_⟩
        · simp only [gg]
          exact no (by rw [ufair_eq]; simp [chk, h1, h2])
        · simp only [gg]
          exact KP.mk ⟨rfl, ⟨_, rfl⟩, fun _ => c1 (by decide), fun _ => by simp only [Bool.not_eq_false] at h2; simp [chk, h2]⟩
      · simp only [gg]
        exact KP.mk ⟨rfl, ⟨_, rfl⟩, fun _ => c1 (by decide), fun _ => by simp [chk, h1]⟩
  rintro σ S1 ⟨e1, ⟨z2, rfl⟩, cb1, cb2⟩
  cases e1
  replace cb1 := cb1 (by simp)
  replace cb2 := cb2 (by simp)
  refine ⟨trivial, ?_⟩
  simp only [gg]
  have b1 := uturn_bd a.1 a.2 b.1
  have b2 := uturn_bd b.1 b.2 a.1
  refine ⟨a, b.1, rfl, ha, hb.f, ?_⟩
  simp only [gg]
  refine ⟨a, b.2, rfl, ha, hb.s, ?_⟩
  simp only [gg]
  refine ⟨mulok_l (by omega) (by omega), ?_⟩
  rw [ufair_eq, ca1, ca2, cb1, cb2] at k
  refine ⟨fun h => ?_, fun h => ?_⟩
  · simp only [gg]
    rw [decide_eq_false h] at k
    refine ⟨fun h1 => ?_, fun h1 => ?_⟩
    · simp only [gg]
      refine ⟨b, a.1, rfl, hb, ha.f, ?_⟩
      simp only [gg]
      refine ⟨b, a.2, rfl, hb, ha.s, ?_⟩
      simp only [gg]
      refine ⟨mulok_l (by omega) (by omega), ?_⟩
      rw [decide_eq_false (Int.not_le.mpr h1)] at k
      have e : (decide (uturn b.1 b.2 a.1 * uturn b.1 b.2 a.2 < 0)) = !decide (0 ≤ uturn b.1 b.2 a.1 * uturn b.1 b.2 a.2) := by
        rw [Bool.eq_iff_iff]; simp only [decide_eq_true_eq, Bool.not_eq_true', decide_eq_false_iff_not, Int.not_le]
      simp only [Bool.not_false, Bool.true_and, Bool.false_or] at k
      by_cases h2 : uturn b.1 b.2 a.1 * uturn b.1 b.2 a.2 < 0
      · rw [decide_eq_false (Int.not_le.mpr h2)] at k
        simp only [gg, h2]; exact k
      · rw [decide_eq_true (Int.not_lt.mp h2)] at k
        simp only [gg, h2]; exact k
    · simp only [gg]
      rw [decide_eq_true (Int.not_lt.mp h1)] at k
      exact k
  · simp only [gg]
    exact no (by simp only [Decidable.not_not] at h; rw [ufair_eq]; simp [h])
end FL
namespace FL
open PySem PySem.Spec L2 ML
/-! ### plots drawn in the second way -/
/-- a pot at p -/
def PotAt (S : Sto) (p : Addr) (n : Nat) : Prop := ∃ a b : Int, S p = some (potO a b n) ∧ 0 ≤ a ∧ 0 ≤ b ∧ b < 2 ^ 31
theorem t_ptake {S : Sto} {Q : Hold MQ} {E : Hold MXQ} {p : Addr} {n : Nat} {z : Int} (hp : PotAt S p n) (hn : n < 2 ^ 60) (z0 : 0 < z) (z1 : z < 2 ^ 200)
    (k : ∀ (r : Int) (n' : Nat) (S' : Sto), 0 ≤ r → r < z → n' ≤ n + 1 → PotAt S' p n' → (∃ o, S' = put S p o) → Q.v (.int r) S') : @CallP sp_ptake [.ref p, .int z] S Q E := by
  obtain ⟨a, b, h, a0, b0, b1⟩ := hp
  exact ⟨p, a, b, z, n, rfl, h, a0, b0, b1, hn, z0, z1, fun r a' n' r0 r1 ha hn' => k r n' _ r0 r1 hn' ⟨a', b, put_same, ha, b0, b1⟩ ⟨_, rfl⟩⟩
structure PDrawn (most : Nat) (ws : List UW) : Prop where
  len : ws.length ≤ most
  up : ∀ w ∈ ws, ult w.1 w.2
  ok : ∀ w ∈ ws, WOk 100 w
  fair : ws.Pairwise fun a b => ufair b a = true
theorem ufair_symm (a b : UW) : ufair a b = ufair b a := by
  rw [Bool.eq_iff_iff, ufair_iff, ufair_iff]
  exact ⟨FairW.symm, FairW.symm⟩
theorem PDrawn.put {m : Nat} {ws : List UW} (h : PDrawn m ws) {w : UW} (j : Nat) (hu : ult w.1 w.2) (ho : WOk 100 w) (hf : ∀ v ∈ ws, ufair w v = true) : PDrawn (m + 1) (ws.take j ++ [w] ++ ws.drop j) := by
  have pm : (ws.take j ++ [w] ++ ws.drop j).Perm (w :: ws) := by
    rw [List.append_assoc]
    exact (List.perm_middle (a := w) (l₁ := ws.take j) (l₂ := ws.drop j)).trans (List.Perm.of_eq (by rw [List.take_append_drop]))
  refine ⟨by have := pm.length_eq; have := h.len; simp only [List.length_cons] at *; omega, fun v hv => ?_, fun v hv => ?_, ?_⟩
  · rcases List.mem_cons.mp (pm.mem_iff.mp hv) with e | e
    · rw [e]; exact hu
    · exact h.up v e
  · rcases List.mem_cons.mp (pm.mem_iff.mp hv) with e | e
    · rw [e]; exact ho
    · exact h.ok v e
  · refine (pm.pairwise_iff (fun {x y} z => by rw [ufair_symm]; exact z)).mpr (List.pairwise_cons.mpr ⟨fun v hv => by rw [ufair_symm]; exact hf v hv, h.fair⟩)
def sp_new_spot : MSp := fun ds S Q _ => ∃ (p : Addr) (n : Nat) (w : Int), ds = [.ref p, .int w] ∧ PotAt S p n ∧ n < 2 ^ 55 ∧ 0 < w ∧ w ≤ 10 ∧
  ∀ (u : U2) (n' : Nat) (S' : Sto), 0 ≤ u.1 → u.1 ≤ 54 → 0 ≤ u.2 → u.2 ≤ 54 → n' ≤ n + 2 → PotAt S' p n' → (∃ o, S' = put S p o) → Q (uD u) S'
def sp_some_spot : MSp := fun ds S Q _ => ∃ (p q : Addr) (n : Nat) (w : Int) (ws : List UW), ds = [.ref p, .ref q, .int w] ∧ PotAt S p n ∧ n < 2 ^ 54 ∧ 0 < w ∧ w ≤ 10 ∧ q ≠ p ∧ S q = some (.lst (ws.map uwD)) ∧ ws.length ≤ 100 ∧ (∀ v ∈ ws, WOk 100 v) ∧
  ∀ (u : U2) (n' : Nat) (S' : Sto), UOk 100 u → n' ≤ n + 3 → PotAt S' p n' → (∃ o, S' = put S p o) → Q (uD u) S'
def sp_pfrac : MSp := fun ds S Q _ => ∃ t b : Int, ds = [.int t, .int b] ∧ 0 < b ∧ b < 2 ^ 200 ∧ Q (fr (Rat.divInt t b)) S
end FL
set_option maxRecDepth 100000
namespace FL
open PySem PySem.Spec L2 ML
def b_pfrac : MS := (mSeq (mSet 2 (mBlt bAbs (mCons (mVar 0) mNil)))
  (mSeq (mSet 3 (mVar 1))
  (mSeq (mWhile (mTst (mOp aGt (mVar 3) (mC (.int 0)))) (mPar 2 3 (mCons (mVar 3) (mCons (mOp rMod (mVar 2) (mVar 3)) mNil))))
  (mRet (mTup (mCons (mOp rDiv (mVar 0) (mVar 2)) (mCons (mOp rDiv (mVar 1) (mVar 2)) mNil)))))))
def b_new_spot : MS := (mRet (mTup (mCons (mOp rMul (mC (.int 6)) (mCall FL.sp_ptake (mCons (mVar 0) (mCons (mVar 1) mNil)))) (mCons (mOp rMul (mC (.int 6)) (mCall FL.sp_ptake (mCons (mVar 0) (mCons (mVar 1) mNil)))) mNil))))
def b_some_spot : MS := (mSeq (mIfS (mOr (mTst (mOp rEqM (mVar 1) (mLstF mNil))) (mTst (mOp rEqM (mCall FL.sp_ptake (mCons (mVar 0) (mCons (mC (.int 3)) mNil))) (mC (.int 0))))) (mRet (mCall FL.sp_new_spot (mCons (mVar 0) (mCons (mVar 2) mNil)))) mNext)
  (mRet (mOp rIxM (mOp rIxM (mVar 1) (mCall FL.sp_ptake (mCons (mVar 0) (mCons (mBlt bLen (mCons (mVar 1) mNil)) mNil)))) (mCall FL.sp_ptake (mCons (mVar 0) (mCons (mC (.int 2)) mNil))))))
end FL
-- FLQ
set_option maxRecDepth 100000
set_option maxHeartbeats 4000000
namespace FL
-- counts /tmp/scratch/dev/N_lib9.json
open PySem PySem.Spec L2 ML
local macro_rules | `(tactic| simp $c:optConfig $[$d:discharger]? only [gg] $[$l:location]?) => `(tactic| simp $c $[$d]? only [↓ML.q_mSeq, ↓ML.q_mC, ↓ML.q_mOp, ↓ML.q_mUn, ↓ML.q_mTst, ↓ML.q_mNot, ↓ML.q_mNotV, ↓ML.q_mRet, ↓ML.q_mRetN, ↓ML.q_mExpr, ↓ML.q_mNext, ↓ML.q_mBreak, ↓ML.q_mCont, ↓ML.q_mAsg, ↓ML.q_gSb, ↓ML.q_mTup, ↓ML.q_mLst, ↓ML.q_mLstF, ↓ML.q_mCons, ↓ML.q_mNil, ↓ML.q_mBlt, ↓ML.q_rEqM, ↓ML.q_rNeM, ↓ML.q_iR1, ↓ML.q_iR2, ↓ML.q_iEn, ↓ML.q_iZp, ↓ML.q_mMt, ↓ML.q_mMt0, ↓ML.q_mYes, ↓ML.q_mCut, ↓ML.q_oNo, ↓ML.q_oSo, ↓ML.l_mCall, ↓ML.l_mAnd, ↓ML.l_mOr, ↓ML.l_mAndV, ↓ML.l_mOrV, ↓ML.l_mIf, ↓ML.l_mIfS, ↓ML.l_mChain, ↓ML.l_mVar, ↓ML.l_mFor, ↓ML.l_mWhile, ↓ML.l_mComp, ↓ML.l_mCompF, ↓ML.l_optP, ↓ML.l_Go, ↓ML.Hold_v, ↓ML.l_mSet, ↓ML.l_gNm, ↓ML.l_mPar, ↓ML.l_rIxM, ↓ML.l_rSetM, ↓ML.l_rInt, ↓ML.l_rInt0, ↓ML.l_rAdd_int, ↓ML.l_rAdd_str, ↓ML.l_rAdd_tup, ↓ML.l_rNeg, ↓ML.l_rIsN, ↓ML.l_rNotN, ↓ML.l_rIsBM, ↓ML.l_mTru, ↓ML.l_bLen, ↓ML.l_bAbs, ↓ML.l_bMax2, ↓ML.l_bMin2, ↓ML.l_bInt_i, ↓ML.l_bInt_b, ↓ML.l_bTuple, ↓ML.l_bListF, ↓ML.l_bList, ↓ML.l_mIsi, ↓ML.l_iL, ↓ML.l_iT, ↓ML.l_gTp, ↓ML.l_gLs, ↓ML.l_gCn, ↓ML.l_gNl, ↓ML.l_mtAppend, ML.Hold_v, ML.l_mVar_z, ML.l_mVar_s, ML.OptP_some, ML.Go_eq, ML.IteP_true, ML.IteP_false, ML.lstOf_ref', ML.lstOf_lst, ML.lstOf_scr, ML.lstOf_tup, ML.ownOf_ref', ML.ownOf_lst, ML.seqOf_tup', ML.seqOf_lst', ML.seqOf_scr', ML.seqOf_ref', ML.olP_lst, ML.tupOf_tup, ML.ixL_lit, ML.ixL_cast, ML.ixL_m1, ML.setAt_lit, ML.setAt_cast, ML.truD_bl, ML.truD_int, ML.truD_tup, ML.truD_lst, ML.truD_scr, ML.truD_non, ML.lenD_tup, ML.lenD_lst, ML.lenD_scr, ML.lenD_ref, ML.tyD_non, ML.tyD_bl, ML.tyD_int, ML.tyD_str, ML.tyD_tup, ML.tyD_lst, ML.szl, ML.szlt, ML.cpow_lit, ML.mulok_rl, ML.mulok_ll, ML.divok_l, ML.put_same, ML.put_put, ML.q_wipeM, ML.deq_int, ML.deq_bl, ML.deq_str, ML.deq_non, ML.eqOk_int, ML.eqOk_bl, ML.isTy_NoneType_int, ML.isTy_NoneType_bool, ML.isTy_NoneType_tuple, ML.isTy_NoneType_list, ML.isTy_NoneType_str, ML.isTy_bool_int, ML.isTy_bool_bool, ML.isTy_bool_tuple, ML.isTy_bool_list, ML.isTy_bool_str, ML.isTy_int_int, ML.isTy_int_bool, ML.isTy_int_tuple, ML.isTy_int_list, ML.isTy_int_str, ML.isTy_str_int, ML.isTy_str_bool, ML.isTy_str_tuple, ML.isTy_str_list, ML.isTy_str_str, ML.isTy_tuple_int, ML.isTy_tuple_bool, ML.isTy_tuple_tuple, ML.isTy_tuple_list, ML.isTy_tuple_str, ML.isTy_list_int, ML.isTy_list_bool, ML.isTy_list_tuple, ML.isTy_list_list, ML.isTy_list_str, ML.isTy_dict_int, ML.isTy_dict_bool, ML.isTy_dict_tuple, ML.isTy_dict_list, ML.isTy_dict_str, FL.tup_fr, FL.tup_sp, FL.tup_wl, FL.tupOf_fr, FL.tupOf_sp, FL.tupOf_wl, FL.nz0, FL.nz1, FL.nz2, FL.nz3, FL.look_non, FL.look_int, FL.look_bl, FL.look_str, FL.look_tup, FL.look_lst, FL.look_scr, FL.seqOf_fr, FL.seqOf_sp, FL.seqOf_wl, FL.look_fr, FL.look_sp, FL.look_wl, FL.eqOk_fr, FL.eqOk_sp, FL.eqOk_wl, FL.deq_fr, FL.deq_sp, FL.deq_wl, FL.tyD_fr, FL.tyD_sp, FL.tyD_wl, FL.isN_fr, FL.isN_sp, FL.isN_wl, FL.lenD_sp, FL.lenD_wl, FL.rAdd_wl_tup, List.length_map, List.map_cons, List.map_nil, List.replicate, List.set_cons_zero, List.set_cons_succ, List.getElem?_cons_zero, List.getElem?_cons_succ, List.cons_append, List.nil_append, List.length_cons, List.length_nil, Option.bind_some, Option.map_some, ↓reduceIte, Nat.reduceAdd, Nat.reduceSub, Nat.reduceLT, Nat.reduceLeDiff, Nat.zero_add, decide_eq_true_eq, Bool.not_eq_true, ne_eq, reduceCtorEq, not_false_eq_true, true_and, and_true, Bool.false_eq_true, Bool.not_true, Bool.not_false, decide_true, decide_false, not_true_eq_false, eq_self, Bool.not_eq_eq_eq_not, if_true, if_false, decide_eq_false_iff_not, ML.ncast, Int.reduceToNat, Int.reducePow, Int.reduceAdd, Int.reduceSub, Int.reduceMul, Int.reduceNeg, Int.reduceLT, Int.reduceLE, Int.reduceEq, Nat.reduceEqDiff, Int.zero_add, gt_iff_lt, beq_self_eq_true, Bool.true_beq, Bool.false_beq, Bool.and_true, Bool.and_false, Bool.true_and, Bool.false_and, ↓ML.l_mtInsert, ↓ML.l_mtReverse, ↓ML.l_mtClear, ↓ML.l_bSortU, ↓ML.q_mMt0, ↓ML.l_bMaxL, ↓ML.l_bMinL, ↓ML.l_aLt_int, ↓ML.l_aLt_u, ↓ML.l_aGt_int, ↓ML.l_aGt_u, ↓ML.l_aLe_int, ↓ML.l_aLe_u, ↓ML.l_aGe_int, ↓ML.l_aGe_u, ↓ML.l_bMaxA_int, ↓ML.l_bMaxA_u, ↓ML.l_bMinA_int, ↓ML.l_bMinA_u, ML.tup_u, ML.tupOf_u, ML.seqOf_u, ML.sqI_u, ML.look_u, ML.isN_u, ML.lenD_u, ML.tyD_u, ML.tup_uw, ML.tupOf_uw, ML.seqOf_uw, ML.sqI_uw, ML.look_uw, ML.isN_uw, ML.lenD_uw, ML.tyD_uw, ML.eqOk_u, ML.eqOk_uw, ML.deq_u, ML.deq_uw, ML.in_uw, ↓ML.l_mRaise, ↓ML.l_mTry, ↓ML.l_mIsE, ↓ML.l_mIsV, ↓ML.l_mtCount, ↓ML.l_rAddS_rl, ↓ML.l_rAddS_ll, ML.excD_ref, ML.excOf_exc, ML.blsOf_nil, ML.blsOf_cons, ML.endM_nx, ML.endM_rt, ↓ML.l_mYes, ↓ML.l_iS, ↓ML.l_mIfJ, ↓ML.l_mJ, ↓ML.CrollP_nil, ↓ML.CrollP_cons, ↓ML.CrA_at, ↓ML.FrollP_nil, ↓ML.FrollP_cons, ML.isN_non, ML.isN_int, ML.isN_bl, ML.isN_str, ML.isN_tup, ML.isN_lst, ML.isN_ref, ML.sqI_tup, ML.sqI_lst, ML.sqI_scr, ML.sqI_ref, ML.sqI_at, ML.rngD_0, ML.rngD_1, ML.rngD_2, ML.rngD_3, ML.rngD_4, ML.rngD_6, ML.q_wipeM_nil, ML.q_wipeM_cons, FL.sqI_sp, FL.sqI_wl] $[$l]?)
local macro_rules | `(tactic| simp $c:optConfig $[$d:discharger]? only [gg, $ls,*] $[$l:location]?) => `(tactic| simp $c $[$d]? only [↓ML.q_mSeq, ↓ML.q_mC, ↓ML.q_mOp, ↓ML.q_mUn, ↓ML.q_mTst, ↓ML.q_mNot, ↓ML.q_mNotV, ↓ML.q_mRet, ↓ML.q_mRetN, ↓ML.q_mExpr, ↓ML.q_mNext, ↓ML.q_mBreak, ↓ML.q_mCont, ↓ML.q_mAsg, ↓ML.q_gSb, ↓ML.q_mTup, ↓ML.q_mLst, ↓ML.q_mLstF, ↓ML.q_mCons, ↓ML.q_mNil, ↓ML.q_mBlt, ↓ML.q_rEqM, ↓ML.q_rNeM, ↓ML.q_iR1, ↓ML.q_iR2, ↓ML.q_iEn, ↓ML.q_iZp, ↓ML.q_mMt, ↓ML.q_mMt0, ↓ML.q_mYes, ↓ML.q_mCut, ↓ML.q_oNo, ↓ML.q_oSo, ↓ML.l_mCall, ↓ML.l_mAnd, ↓ML.l_mOr, ↓ML.l_mAndV, ↓ML.l_mOrV, ↓ML.l_mIf, ↓ML.l_mIfS, ↓ML.l_mChain, ↓ML.l_mVar, ↓ML.l_mFor, ↓ML.l_mWhile, ↓ML.l_mComp, ↓ML.l_mCompF, ↓ML.l_optP, ↓ML.l_Go, ↓ML.Hold_v, ↓ML.l_mSet, ↓ML.l_gNm, ↓ML.l_mPar, ↓ML.l_rIxM, ↓ML.l_rSetM, ↓ML.l_rInt, ↓ML.l_rInt0, ↓ML.l_rAdd_int, ↓ML.l_rAdd_str, ↓ML.l_rAdd_tup, ↓ML.l_rNeg, ↓ML.l_rIsN, ↓ML.l_rNotN, ↓ML.l_rIsBM, ↓ML.l_mTru, ↓ML.l_bLen, ↓ML.l_bAbs, ↓ML.l_bMax2, ↓ML.l_bMin2, ↓ML.l_bInt_i, ↓ML.l_bInt_b, ↓ML.l_bTuple, ↓ML.l_bListF, ↓ML.l_bList, ↓ML.l_mIsi, ↓ML.l_iL, ↓ML.l_iT, ↓ML.l_gTp, ↓ML.l_gLs, ↓ML.l_gCn, ↓ML.l_gNl, ↓ML.l_mtAppend, ML.Hold_v, ML.l_mVar_z, ML.l_mVar_s, ML.OptP_some, ML.Go_eq, ML.IteP_true, ML.IteP_false, ML.lstOf_ref', ML.lstOf_lst, ML.lstOf_scr, ML.lstOf_tup, ML.ownOf_ref', ML.ownOf_lst, ML.seqOf_tup', ML.seqOf_lst', ML.seqOf_scr', ML.seqOf_ref', ML.olP_lst, ML.tupOf_tup, ML.ixL_lit, ML.ixL_cast, ML.ixL_m1, ML.setAt_lit, ML.setAt_cast, ML.truD_bl, ML.truD_int, ML.truD_tup, ML.truD_lst, ML.truD_scr, ML.truD_non, ML.lenD_tup, ML.lenD_lst, ML.lenD_scr, ML.lenD_ref, ML.tyD_non, ML.tyD_bl, ML.tyD_int, ML.tyD_str, ML.tyD_tup, ML.tyD_lst, ML.szl, ML.szlt, ML.cpow_lit, ML.mulok_rl, ML.mulok_ll, ML.divok_l, ML.put_same, ML.put_put, ML.q_wipeM, ML.deq_int, ML.deq_bl, ML.deq_str, ML.deq_non, ML.eqOk_int, ML.eqOk_bl, ML.isTy_NoneType_int, ML.isTy_NoneType_bool, ML.isTy_NoneType_tuple, ML.isTy_NoneType_list, ML.isTy_NoneType_str, ML.isTy_bool_int, ML.isTy_bool_bool, ML.isTy_bool_tuple, ML.isTy_bool_list, ML.isTy_bool_str, ML.isTy_int_int, ML.isTy_int_bool, ML.isTy_int_tuple, ML.isTy_int_list, ML.isTy_int_str, ML.isTy_str_int, ML.isTy_str_bool, ML.isTy_str_tuple, ML.isTy_str_list, ML.isTy_str_str, ML.isTy_tuple_int, ML.isTy_tuple_bool, ML.isTy_tuple_tuple, ML.isTy_tuple_list, ML.isTy_tuple_str, ML.isTy_list_int, ML.isTy_list_bool, ML.isTy_list_tuple, ML.isTy_list_list, ML.isTy_list_str, ML.isTy_dict_int, ML.isTy_dict_bool, ML.isTy_dict_tuple, ML.isTy_dict_list, ML.isTy_dict_str, FL.tup_fr, FL.tup_sp, FL.tup_wl, FL.tupOf_fr, FL.tupOf_sp, FL.tupOf_wl, FL.nz0, FL.nz1, FL.nz2, FL.nz3, FL.look_non, FL.look_int, FL.look_bl, FL.look_str, FL.look_tup, FL.look_lst, FL.look_scr, FL.seqOf_fr, FL.seqOf_sp, FL.seqOf_wl, FL.look_fr, FL.look_sp, FL.look_wl, FL.eqOk_fr, FL.eqOk_sp, FL.eqOk_wl, FL.deq_fr, FL.deq_sp, FL.deq_wl, FL.tyD_fr, FL.tyD_sp, FL.tyD_wl, FL.isN_fr, FL.isN_sp, FL.isN_wl, FL.lenD_sp, FL.lenD_wl, FL.rAdd_wl_tup, List.length_map, List.map_cons, List.map_nil, List.replicate, List.set_cons_zero, List.set_cons_succ, List.getElem?_cons_zero, List.getElem?_cons_succ, List.cons_append, List.nil_append, List.length_cons, List.length_nil, Option.bind_some, Option.map_some, ↓reduceIte, Nat.reduceAdd, Nat.reduceSub, Nat.reduceLT, Nat.reduceLeDiff, Nat.zero_add, decide_eq_true_eq, Bool.not_eq_true, ne_eq, reduceCtorEq, not_false_eq_true, true_and, and_true, Bool.false_eq_true, Bool.not_true, Bool.not_false, decide_true, decide_false, not_true_eq_false, eq_self, Bool.not_eq_eq_eq_not, if_true, if_false, decide_eq_false_iff_not, ML.ncast, Int.reduceToNat, Int.reducePow, Int.reduceAdd, Int.reduceSub, Int.reduceMul, Int.reduceNeg, Int.reduceLT, Int.reduceLE, Int.reduceEq, Nat.reduceEqDiff, Int.zero_add, gt_iff_lt, beq_self_eq_true, Bool.true_beq, Bool.false_beq, Bool.and_true, Bool.and_false, Bool.true_and, Bool.false_and, ↓ML.l_mtInsert, ↓ML.l_mtReverse, ↓ML.l_mtClear, ↓ML.l_bSortU, ↓ML.q_mMt0, ↓ML.l_bMaxL, ↓ML.l_bMinL, ↓ML.l_aLt_int, ↓ML.l_aLt_u, ↓ML.l_aGt_int, ↓ML.l_aGt_u, ↓ML.l_aLe_int, ↓ML.l_aLe_u, ↓ML.l_aGe_int, ↓ML.l_aGe_u, ↓ML.l_bMaxA_int, ↓ML.l_bMaxA_u, ↓ML.l_bMinA_int, ↓ML.l_bMinA_u, ML.tup_u, ML.tupOf_u, ML.seqOf_u, ML.sqI_u, ML.look_u, ML.isN_u, ML.lenD_u, ML.tyD_u, ML.tup_uw, ML.tupOf_uw, ML.seqOf_uw, ML.sqI_uw, ML.look_uw, ML.isN_uw, ML.lenD_uw, ML.tyD_uw, ML.eqOk_u, ML.eqOk_uw, ML.deq_u, ML.deq_uw, ML.in_uw, ↓ML.l_mRaise, ↓ML.l_mTry, ↓ML.l_mIsE, ↓ML.l_mIsV, ↓ML.l_mtCount, ↓ML.l_rAddS_rl, ↓ML.l_rAddS_ll, ML.excD_ref, ML.excOf_exc, ML.blsOf_nil, ML.blsOf_cons, ML.endM_nx, ML.endM_rt, ↓ML.l_mYes, ↓ML.l_iS, ↓ML.l_mIfJ, ↓ML.l_mJ, ↓ML.CrollP_nil, ↓ML.CrollP_cons, ↓ML.CrA_at, ↓ML.FrollP_nil, ↓ML.FrollP_cons, ML.isN_non, ML.isN_int, ML.isN_bl, ML.isN_str, ML.isN_tup, ML.isN_lst, ML.isN_ref, ML.sqI_tup, ML.sqI_lst, ML.sqI_scr, ML.sqI_ref, ML.sqI_at, ML.rngD_0, ML.rngD_1, ML.rngD_2, ML.rngD_3, ML.rngD_4, ML.rngD_6, ML.q_wipeM_nil, ML.q_wipeM_cons, FL.sqI_sp, FL.sqI_wl, $ls,*] $[$l]?)
local macro_rules | `(tactic| simp $c:optConfig $[$d:discharger]? only [gf] $[$l:location]?) => `(tactic| simp $c $[$d]? only [ML.q_mSeq, ML.q_mSet, ML.q_mC, ML.q_mVar, ML.q_mOp, ML.q_mUn, ML.q_mTst, ML.q_mTru, ML.q_mIfS, ML.q_mIf, ML.q_mAnd, ML.q_mOr, ML.q_mNot, ML.q_mAndV, ML.q_mOrV, ML.q_mNotV, ML.q_mRet, ML.q_mRetN, ML.q_mExpr, ML.q_mNext, ML.q_mBreak, ML.q_mCont, ML.q_mAsg, ML.q_mPar, ML.q_gNm, ML.q_gLs, ML.q_gCn, ML.q_gNl, ML.q_gSb, ML.q_mTup, ML.q_mLst, ML.q_mLstF, ML.q_mCons, ML.q_mNil, ML.q_mCall, ML.q_mBlt, ML.q_bLen, ML.q_bAbs, ML.q_bMax2, ML.q_bMin2, ML.q_bInt, ML.q_bTuple, ML.q_bList, ML.q_bListF, ML.q_bAll, ML.q_lenD, ML.q_truD, ML.q_lstOf, ML.q_ownOf, ML.q_rInt, ML.q_rInt0, ML.q_rSub, ML.q_rMul, ML.q_rDiv, ML.q_rMod, ML.q_rPow, ML.q_rAdd, ML.q_rLt, ML.q_rLe, ML.q_rGt, ML.q_rGe, ML.q_rNeg, ML.q_rIxM, ML.q_ixL, ML.q_rIsN, ML.q_rNotN, ML.q_isN, ML.q_rEqM, ML.q_rNeM, ML.q_rInM, ML.q_mIsi, ML.q_tyD, ML.q_mCut, ML.q_oNo, ML.q_oSo, ML.q_mMt, ML.q_mMt0, ML.q_mtAppend, ML.q_mtInsert, ML.q_mtPop, ML.q_mtPop0, ML.q_mtReverse, ML.q_mtClear, ML.q_mtExtend, ML.q_mtIndex, ML.q_rSetM, ML.q_setAt, ML.q_mends, ML.q_mstart, ML.q_mFor, ML.q_iL, ML.q_iT, ML.q_iR1, ML.q_iR2, ML.q_iEn, ML.q_iZp, ML.q_mChain, ML.q_mYes, ML.q_mCompF, ML.q_mComp, ML.q_wipeM, ML.q_rIsBM, ML.q_xAt, ML.put_same, ML.noX, ML.deq_int, ML.deq_bl, ML.deq_str, ML.deq_non, ML.eqOk_int, ML.eqOk_bl, ML.isTy_NoneType_int, ML.isTy_NoneType_bool, ML.isTy_NoneType_tuple, ML.isTy_NoneType_list, ML.isTy_NoneType_str, ML.isTy_bool_int, ML.isTy_bool_bool, ML.isTy_bool_tuple, ML.isTy_bool_list, ML.isTy_bool_str, ML.isTy_int_int, ML.isTy_int_bool, ML.isTy_int_tuple, ML.isTy_int_list, ML.isTy_int_str, ML.isTy_str_int, ML.isTy_str_bool, ML.isTy_str_tuple, ML.isTy_str_list, ML.isTy_str_str, ML.isTy_tuple_int, ML.isTy_tuple_bool, ML.isTy_tuple_tuple, ML.isTy_tuple_list, ML.isTy_tuple_str, ML.isTy_list_int, ML.isTy_list_bool, ML.isTy_list_tuple, ML.isTy_list_list, ML.isTy_list_str, ML.isTy_dict_int, ML.isTy_dict_bool, ML.isTy_dict_tuple, ML.isTy_dict_list, ML.isTy_dict_str, List.length_map, List.map_cons, List.map_nil, List.replicate, List.set_cons_zero, List.set_cons_succ, List.getElem?_cons_zero, List.getElem?_cons_succ, List.cons_append, List.nil_append, List.length_cons, List.length_nil, Option.bind_some, Option.map_some, ↓reduceIte, Nat.reduceAdd, Nat.reduceSub, Nat.reduceLT, Nat.reduceLeDiff, Nat.zero_add, decide_eq_true_eq, Bool.not_eq_true, ne_eq, reduceCtorEq, not_false_eq_true, true_and, and_true, Bool.false_eq_true, Bool.not_true, Bool.not_false, decide_true, decide_false, not_true_eq_false, eq_self, Bool.not_eq_eq_eq_not, if_true, if_false, FL.tup_fr, FL.tup_sp, FL.tup_wl, ML.tupOf_tup, FL.tupOf_fr, FL.tupOf_sp, FL.tupOf_wl, FL.gTp_at, FL.nz0, FL.nz1, FL.nz2, FL.nz3, FL.seqOf_tup, FL.seqOf_lst, FL.seqOf_scr, FL.seqOf_ref, FL.look_non, FL.look_int, FL.look_bl, FL.look_str, FL.look_tup, FL.look_lst, FL.look_scr, FL.seqOf_fr, FL.seqOf_sp, FL.seqOf_wl, FL.look_fr, FL.look_sp, FL.look_wl, FL.eqOk_fr, FL.eqOk_sp, FL.eqOk_wl, FL.deq_fr, FL.deq_sp, FL.deq_wl, Int.reduceToNat, Int.reducePow, Int.reduceAdd, Int.reduceSub, Int.reduceMul, Int.reduceNeg, ML.l_aLt_int, ML.l_aGt_int, ML.l_aLe_int, ML.l_aGe_int, ML.l_bMaxA_int, ML.l_bMinA_int] $[$l]?)
local macro_rules | `(tactic| simp $c:optConfig $[$d:discharger]? only [gf, $ls,*] $[$l:location]?) => `(tactic| simp $c $[$d]? only [ML.q_mSeq, ML.q_mSet, ML.q_mC, ML.q_mVar, ML.q_mOp, ML.q_mUn, ML.q_mTst, ML.q_mTru, ML.q_mIfS, ML.q_mIf, ML.q_mAnd, ML.q_mOr, ML.q_mNot, ML.q_mAndV, ML.q_mOrV, ML.q_mNotV, ML.q_mRet, ML.q_mRetN, ML.q_mExpr, ML.q_mNext, ML.q_mBreak, ML.q_mCont, ML.q_mAsg, ML.q_mPar, ML.q_gNm, ML.q_gLs, ML.q_gCn, ML.q_gNl, ML.q_gSb, ML.q_mTup, ML.q_mLst, ML.q_mLstF, ML.q_mCons, ML.q_mNil, ML.q_mCall, ML.q_mBlt, ML.q_bLen, ML.q_bAbs, ML.q_bMax2, ML.q_bMin2, ML.q_bInt, ML.q_bTuple, ML.q_bList, ML.q_bListF, ML.q_bAll, ML.q_lenD, ML.q_truD, ML.q_lstOf, ML.q_ownOf, ML.q_rInt, ML.q_rInt0, ML.q_rSub, ML.q_rMul, ML.q_rDiv, ML.q_rMod, ML.q_rPow, ML.q_rAdd, ML.q_rLt, ML.q_rLe, ML.q_rGt, ML.q_rGe, ML.q_rNeg, ML.q_rIxM, ML.q_ixL, ML.q_rIsN, ML.q_rNotN, ML.q_isN, ML.q_rEqM, ML.q_rNeM, ML.q_rInM, ML.q_mIsi, ML.q_tyD, ML.q_mCut, ML.q_oNo, ML.q_oSo, ML.q_mMt, ML.q_mMt0, ML.q_mtAppend, ML.q_mtInsert, ML.q_mtPop, ML.q_mtPop0, ML.q_mtReverse, ML.q_mtClear, ML.q_mtExtend, ML.q_mtIndex, ML.q_rSetM, ML.q_setAt, ML.q_mends, ML.q_mstart, ML.q_mFor, ML.q_iL, ML.q_iT, ML.q_iR1, ML.q_iR2, ML.q_iEn, ML.q_iZp, ML.q_mChain, ML.q_mYes, ML.q_mCompF, ML.q_mComp, ML.q_wipeM, ML.q_rIsBM, ML.q_xAt, ML.put_same, ML.noX, ML.deq_int, ML.deq_bl, ML.deq_str, ML.deq_non, ML.eqOk_int, ML.eqOk_bl, ML.isTy_NoneType_int, ML.isTy_NoneType_bool, ML.isTy_NoneType_tuple, ML.isTy_NoneType_list, ML.isTy_NoneType_str, ML.isTy_bool_int, ML.isTy_bool_bool, ML.isTy_bool_tuple, ML.isTy_bool_list, ML.isTy_bool_str, ML.isTy_int_int, ML.isTy_int_bool, ML.isTy_int_tuple, ML.isTy_int_list, ML.isTy_int_str, ML.isTy_str_int, ML.isTy_str_bool, ML.isTy_str_tuple, ML.isTy_str_list, ML.isTy_str_str, ML.isTy_tuple_int, ML.isTy_tuple_bool, ML.isTy_tuple_tuple, ML.isTy_tuple_list, ML.isTy_tuple_str, ML.isTy_list_int, ML.isTy_list_bool, ML.isTy_list_tuple, ML.isTy_list_list, ML.isTy_list_str, ML.isTy_dict_int, ML.isTy_dict_bool, ML.isTy_dict_tuple, ML.isTy_dict_list, ML.isTy_dict_str, List.length_map, List.map_cons, List.map_nil, List.replicate, List.set_cons_zero, List.set_cons_succ, List.getElem?_cons_zero, List.getElem?_cons_succ, List.cons_append, List.nil_append, List.length_cons, List.length_nil, Option.bind_some, Option.map_some, ↓reduceIte, Nat.reduceAdd, Nat.reduceSub, Nat.reduceLT, Nat.reduceLeDiff, Nat.zero_add, decide_eq_true_eq, Bool.not_eq_true, ne_eq, reduceCtorEq, not_false_eq_true, true_and, and_true, Bool.false_eq_true, Bool.not_true, Bool.not_false, decide_true, decide_false, not_true_eq_false, eq_self, Bool.not_eq_eq_eq_not, if_true, if_false, FL.tup_fr, FL.tup_sp, FL.tup_wl, ML.tupOf_tup, FL.tupOf_fr, FL.tupOf_sp, FL.tupOf_wl, FL.gTp_at, FL.nz0, FL.nz1, FL.nz2, FL.nz3, FL.seqOf_tup, FL.seqOf_lst, FL.seqOf_scr, FL.seqOf_ref, FL.look_non, FL.look_int, FL.look_bl, FL.look_str, FL.look_tup, FL.look_lst, FL.look_scr, FL.seqOf_fr, FL.seqOf_sp, FL.seqOf_wl, FL.look_fr, FL.look_sp, FL.look_wl, FL.eqOk_fr, FL.eqOk_sp, FL.eqOk_wl, FL.deq_fr, FL.deq_sp, FL.deq_wl, Int.reduceToNat, Int.reducePow, Int.reduceAdd, Int.reduceSub, Int.reduceMul, Int.reduceNeg, ML.l_aLt_int, ML.l_aGt_int, ML.l_aLe_int, ML.l_aGe_int, ML.l_bMaxA_int, ML.l_bMinA_int, $ls,*] $[$l]?)
theorem l_new_spot : ∀ ds S Q E, FL.sp_new_spot ds S Q E → ds.length = 2 := by rintro _ _ _ _ ⟨_, _, _, rfl, _⟩; rfl
theorem l_some_spot : ∀ ds S Q E, FL.sp_some_spot ds S Q E → ds.length = 3 := by rintro _ _ _ _ ⟨_, _, _, _, _, rfl, _⟩; rfl
theorem l_pfrac : ∀ ds S Q E, FL.sp_pfrac ds S Q E → ds.length = 2 := by rintro _ _ _ _ ⟨_, _, rfl, _⟩; rfl
theorem r_new_spot : ∀ ds S Q E, FL.sp_new_spot ds S Q E → b_new_spot (mends Q E) (mstart 0 ds) S := by
  rintro _ S Q E ⟨p, n, w, rfl, hp, hn, w0, w1, k⟩
  unfold b_new_spot
  simp only [ML.q_mstart, ML.q_mends, List.map_cons, List.map_nil, List.replicate, List.cons_append, List.nil_append]
  simp only [gg]
  refine t_ptake hp (by omega) w0 (by omega) fun x n1 S1 x0 x1 hn1 hp1 e1 => ?_
  simp only [gg]
  refine t_ptake hp1 (by omega) w0 (by omega) fun y n2 S2 y0 y1 hn2 hp2 e2 => ?_
  simp only [gg]
  obtain ⟨o1, rfl⟩ := e1
  obtain ⟨o2, rfl⟩ := e2
  exact k (6 * x, 6 * y) n2 _ (by simp only; omega) (by simp only; omega) (by simp only; omega) (by simp only; omega) (by omega) hp2 ⟨o2, put_put⟩
theorem r_some_spot : ∀ ds S Q E, FL.sp_some_spot ds S Q E → b_some_spot (mends Q E) (mstart 0 ds) S := by
  rintro _ S Q E ⟨p, q, n, w, ws, rfl, hp, hn, w0, w1, qp, hq, hz, ho, k⟩
  unfold b_some_spot
  simp only [ML.q_mstart, ML.q_mends, List.map_cons, List.map_nil, List.replicate, List.cons_append, List.nil_append]
  simp only [gg, look_ref hq, eqOk_luw0, deq_luw0]
  have fresh : ∀ (n1 : Nat) (S1 : Sto), n1 ≤ n + 1 → PotAt S1 p n1 → (∃ o, S1 = put S p o ∨ S1 = S) → @CallP sp_new_spot [.ref p, .int w] S1 ⟨Q⟩ ⟨E⟩ := by
    intro n1 S1 h1 hp1 e1
    refine ⟨p, n1, w, rfl, hp1, by omega, w0, w1, fun u n2 S2 a1 a2 a3 a4 hn2 hp2 e2 => ?_⟩
    obtain ⟨o2, rfl⟩ := e2
    refine k u n2 _ ⟨by omega, by omega, by omega, by omega⟩ (by omega) hp2 ?_
    obtain ⟨o1, rfl | rfl⟩ := e1
    · exact ⟨o2, put_put⟩
    · exact ⟨o2, rfl⟩
  refine ⟨fun h => ?_, fun h => ?_⟩
  · simp only [gg]
    exact fresh n S (by omega) hp ⟨.lst [], .inr rfl⟩
  · simp only [gg]
    refine t_ptake hp (by omega) (by decide) (by decide) fun x n1 S1 x0 x1 hn1 hp1 e1 => ?_
    obtain ⟨o1, rfl⟩ := e1
    simp only [gg]
    refine ⟨fun h1 => ?_, fun h1 => ?_⟩
    · simp only [gg]
      exact fresh n1 _ hn1 hp1 ⟨o1, .inl rfl⟩
    · have hq1 : put S p o1 q = some (.lst (ws.map uwD)) := by rw [put_ne qp]; exact hq
      have hn0 : 0 < ws.length := by cases ws with | nil => simp at h | cons _ _ => simp
      simp only [gg, hq1, olP_lst]
      refine t_ptake hp1 (by omega) (by omega) (by omega) fun y n2 S2 y0 y1 hn2 hp2 e2 => ?_
      obtain ⟨o2, rfl⟩ := e2
      rw [put_put] at hp2
      have hq2 : put S p o2 q = some (.lst (ws.map uwD)) := by rw [put_ne qp]; exact hq
      obtain ⟨v, hv, ev⟩ := ixL_map (f := uwD) y0 y1
      simp only [gg, hq2, olP_lst, ev]
      refine t_ptake (z := 2) hp2 (by omega) (by decide) (by decide) fun t n3 S3 t0 t1 hn3 hp3 e3 => ?_
      obtain ⟨o3, rfl⟩ := e3
      rw [put_put] at hp3
      have tt : t = 0 ∨ t = 1 := by omega
      rcases tt with rfl | rfl
      · simp only [gg]
        exact k v.1 n3 _ (ho v hv).f (by omega) hp3 ⟨o3, rfl⟩
      · simp only [gg]
        exact k v.2 n3 _ (ho v hv).s (by omega) hp3 ⟨o3, rfl⟩
theorem r_pfrac : ∀ ds S Q E, FL.sp_pfrac ds S Q E → b_pfrac (mends Q E) (mstart 2 ds) S := by
  rintro _ S Q E ⟨t, b, rfl, b0, b1, q⟩
  have hz : b.natAbs < 2 ^ 200 := by omega
  unfold b_pfrac
  simp only [ML.q_mstart, ML.q_mends, List.map_cons, List.map_nil, List.replicate, List.cons_append, List.nil_append]
  simp only [gf, abs_eq]
  refine ⟨fun k σ S' => ∃ i j : Nat, σ = [some (.int t), some (.int b), some (.int i), some (.int j)] ∧ k = j ∧ Nat.gcd i j = Nat.gcd t.natAbs b.natAbs ∧ S' = S, ⟨b.natAbs, t.natAbs, b.natAbs, by rw [show ((b.natAbs : Nat) : Int) = b by omega], rfl, rfl, rfl⟩, ?_⟩
  rintro k σ S' ⟨i, j, rfl, rfl, hg, rfl⟩
  simp only [gf]
  by_cases z : k = 0
  · subst z
    rw [if_neg (by decide)]
    rw [Nat.gcd_zero_right] at hg
    subst hg
    exact low_end (by omega) (Nat.lt_of_lt_of_le (PySem.Flt.log2_lt_of (by decide) hz) (by decide)) (by rw [if_neg (by omega)]) q
  · rw [if_pos (by omega)]
    refine ⟨by omega, i % k, Nat.mod_lt _ (by omega), k, i % k, ?_, rfl, by rw [← gcd_step z]; exact hg⟩
    rw [fmod_pos (by omega)]; simp
end FL
namespace FL
open PySem PySem.Spec L2 ML
/-! ### plots drawn in the second way: squares, rows of walls, frames -/
/-- all but p stands as it stood -/
def But (p : Addr) (S S' : Sto) : Prop := ∀ a o, a ≠ p → S a = some o → S' a = some o
theorem But.put {p : Addr} {S : Sto} {o : MO} : But p S (ML.put S p o) := fun a u ha e => by rw [put_ne ha]; exact e
theorem But.trans {p : Addr} {S S' S'' : Sto} (h : But p S S') (k : But p S' S'') : But p S S'' := fun a o ha e => k a o ha (h a o ha e)
theorem But.ext {p : Addr} {S S' : Sto} (h : Ext0 S S') : But p S S' := fun a o _ e => h a o e
theorem but_ex {p : Addr} {S S' : Sto} (h : ∃ o, S' = ML.put S p o) : But p S S' := by
  obtain ⟨o, rfl⟩ := h; exact But.put
theorem PDrawn.drawn {m : Nat} {ws : List UW} (h : PDrawn m ws) : Drawn m 101 ws :=
  ⟨h.len, h.up, fun w hw => by
    obtain ⟨⟨a1, a2, a3, a4⟩, ⟨b1, b2, b3, b4⟩⟩ := h.ok w hw
    exact ⟨by omega, by omega, by omega, by omega, by omega, by omega, by omega, by omega⟩, h.fair⟩
theorem PDrawn.mono {m n : Nat} {ws : List UW} (h : PDrawn m ws) (k : m ≤ n) : PDrawn n ws := ⟨Nat.le_trans h.len k, h.up, h.ok, h.fair⟩
theorem pdrawn_nil {m : Nat} : PDrawn m [] := ⟨Nat.zero_le _, by simp, by simp, List.Pairwise.nil⟩
def sp_psquare : MSp := fun ds S Q _ => ∃ (p : Addr) (n : Nat) (w : Int), ds = [.ref p, .int w] ∧ PotAt S p n ∧ n < 2 ^ 54 ∧ 0 < w ∧ w ≤ 10 ∧
  ∀ (q : Addr) (us : List U2) (n' : Nat) (S' : Sto), us.length = 5 → (∀ u ∈ us, UOk 100 u) → n' ≤ n + 4 → PotAt S' p n' → S q = none → q ≠ p → But p S S' → S' q = some (.lst (us.map uD)) → Q (.ref q) S'
def sp_laid : MSp := fun ds S Q _ => ∃ (p r t : Addr) (n m : Nat) (ws : List UW) (us : List U2), ds = [.ref p, .ref r, .ref t] ∧ PotAt S p n ∧ n < 2 ^ 54 ∧ PDrawn m ws ∧ m ≤ 100 ∧ S r = some (.lst (ws.map uwD)) ∧ S t = some (.lst (us.map uD)) ∧ r ≠ p ∧ t ≠ p ∧ t ≠ r ∧ us.length ≤ 10 ∧ (∀ u ∈ us, UOk 100 u) ∧
  ∀ (ws' : List UW) (n' : Nat) (S' : Sto), PDrawn (m + (us.length - 1)) ws' → n' ≤ n + us.length → PotAt S' p n' → S' r = some (.lst (ws'.map uwD)) → (∀ a o, a ≠ p → a ≠ r → S a = some o → S' a = some o) → Q .non S'
def sp_pshuts : MSp := fun ds S Q _ => ∃ (p : Addr) (n most : Nat), ds = [.ref p, .int most] ∧ PotAt S p n ∧ n < 2 ^ 50 ∧ most ≤ 20 ∧
  ∀ (r : Addr) (ws : List UW) (n' : Nat) (S' : Sto), PDrawn 15 ws → n' ≤ n + 1000 → PotAt S' p n' → S r = none → r ≠ p → But p S S' → S' r = some (.lst (ws.map uwD)) → Q (.ref r) S'
def sp_frame : MSp := fun ds S Q _ => ∃ (p : Addr) (n : Nat) (k : Int), ds = [.ref p, .int k] ∧ PotAt S p n ∧ n < 2 ^ 50 ∧
  ∀ (s : Sc) (n' : Nat) (S' : Sto), ScOk s → n' ≤ n + 5 → PotAt S' p n' → But p S S' → Q (scD s) S'
def sp_given : MSp := fun ds S Q _ => ∃ (s : Sc) (u : U2), ds = [scD s, uD u] ∧ ScOk s ∧ UOk (2 ^ 20) u ∧ Q (spD (af s (ofU u))) S
def sp_pplot : MSp := fun ds S Q _ => ∃ (s : Sc) (d : D) (ws : List UW), ds = [scD s, d] ∧ SeqK S d (ws.map uwD) ∧ ws.length ≤ 1000 ∧ ScOk s ∧ (∀ w ∈ ws, WOk (2 ^ 20) w) ∧ Q (.tup ((pltW s ws).map wlD)) S
end FL
set_option maxRecDepth 100000
namespace FL
open PySem PySem.Spec L2 ML
def b_psquare : MS := (mSeq (mAsg (mCall FL.sp_new_spot (mCons (mVar 0) (mCons (mVar 1) mNil))) (gTp 2 (gCn (gNm 2) (gCn (gNm 3) gNl))))
  (mSeq (mSet 4 (mOp rMul (mC (.int 6)) (mOp rAdd (mC (.int 1)) (mCall FL.sp_ptake (mCons (mVar 0) (mCons (mC (.int 4)) mNil))))))
  (mSeq (mIfS (mTst (mOp rEqM (mCall FL.sp_ptake (mCons (mVar 0) (mCons (mC (.int 2)) mNil))) (mC (.int 0)))) (mRet (mLst (mCons (mTup (mCons (mOp rSub (mVar 2) (mVar 4)) (mCons (mOp rSub (mVar 3) (mVar 4)) mNil))) (mCons (mTup (mCons (mOp rAdd (mVar 2) (mVar 4)) (mCons (mOp rSub (mVar 3) (mVar 4)) mNil))) (mCons (mTup (mCons (mOp rAdd (mVar 2) (mVar 4)) (mCons (mOp rAdd (mVar 3) (mVar 4)) mNil))) (mCons (mTup (mCons (mOp rSub (mVar 2) (mVar 4)) (mCons (mOp rAdd (mVar 3) (mVar 4)) mNil))) (mCons (mTup (mCons (mOp rSub (mVar 2) (mVar 4)) (mCons (mOp rSub (mVar 3) (mVar 4)) mNil))) mNil))))))) mNext)
  (mRet (mLst (mCons (mTup (mCons (mOp rSub (mVar 2) (mVar 4)) (mCons (mVar 3) mNil))) (mCons (mTup (mCons (mVar 2) (mCons (mOp rSub (mVar 3) (mVar 4)) mNil))) (mCons (mTup (mCons (mOp rAdd (mVar 2) (mVar 4)) (mCons (mVar 3) mNil))) (mCons (mTup (mCons (mVar 2) (mCons (mOp rAdd (mVar 3) (mVar 4)) mNil))) (mCons (mTup (mCons (mOp rSub (mVar 2) (mVar 4)) (mCons (mVar 3) mNil))) mNil))))))))))
def b_laid : MS := (mFor (iZp (mCons (mVar 2) (mCons (mCut (mVar 2) (oSo (mC (.int 1))) oNo) mNil))) (gTp 2 (gCn (gNm 3) (gCn (gNm 4) gNl))) (mSeq (mSet 5 (mTup (mCons (mBlt bMinA (mCons (mVar 3) (mCons (mVar 4) mNil))) (mCons (mBlt bMaxA (mCons (mVar 3) (mCons (mVar 4) mNil))) mNil))))
  (mIfS (mAnd (mTst (mOp rNeM (mVar 3) (mVar 4))) (mTst (mOp rNinB (mC (.bl false)) (mCompF (iS (mVar 1)) (gNm 6) mYes (mCall FL.sp_papart (mCons (mVar 5) (mCons (mVar 6) mNil))) [6])))) (mExpr (mMt mtInsert (mVar 1) (mCons (mCall FL.sp_ptake (mCons (mVar 0) (mCons (mOp rAdd (mBlt bLen (mCons (mVar 1) mNil)) (mC (.int 1))) mNil))) (mCons (mVar 5) mNil)))) mNext)))
def b_frame : MS := (mSeq (mSet 2 (mCall FL.sp_ptake (mCons (mVar 0) (mCons (mC (.int 16)) mNil))))
  (mSeq (mIfS (mTst (mOp aLt (mVar 2) (mC (.int 6)))) (mRet (mTup (mCons (mC (.int 1)) (mCons (mC (.int 1)) (mCons (mC (.int 0)) (mCons (mC (.int 0)) mNil)))))) mNext)
  (mSeq (mIfS (mAnd (mTst (mOp rEqM (mVar 2) (mC (.int 15)))) (mTst (mOp aLt (mVar 1) (mC (.int 9))))) (mSeq (mSet 3 (mComp (iR1 (mCons (mC (.int 2)) mNil)) (gNm 4) mYes (mOp rSub (mCall FL.sp_ptake (mCons (mVar 0) (mCons (mOp rAdd (mOp rMul (mC (.int 2)) (mOp rPow (mC (.int 10)) (mC (.int 27)))) (mC (.int 1))) mNil))) (mOp rPow (mC (.int 10)) (mC (.int 27)))) [4]))
  (mRet (mTup (mCons (mOp rAdd (mC (.int 1)) (mCall FL.sp_ptake (mCons (mVar 0) (mCons (mOp rPow (mC (.int 10)) (mC (.int 20))) mNil)))) (mCons (mOp rAdd (mC (.int 1)) (mCall FL.sp_ptake (mCons (mVar 0) (mCons (mOp rPow (mC (.int 10)) (mC (.int 25))) mNil)))) (mCons (mOp rIxM (mVar 3) (mC (.int 0))) (mCons (mOp rIxM (mVar 3) (mC (.int 1))) mNil))))))) mNext)
  (mSeq (mSet 3 (mComp (iR1 (mCons (mC (.int 2)) mNil)) (gNm 4) mYes (mOp rSub (mCall FL.sp_ptake (mCons (mVar 0) (mCons (mOp rAdd (mOp rMul (mC (.int 2)) (mOp rPow (mC (.int 10)) (mC (.int 6)))) (mC (.int 1))) mNil))) (mOp rPow (mC (.int 10)) (mC (.int 6)))) [4]))
  (mRet (mTup (mCons (mOp rAdd (mC (.int 1)) (mCall FL.sp_ptake (mCons (mVar 0) (mCons (mOp rPow (mC (.int 10)) (mC (.int 4))) mNil)))) (mCons (mOp rAdd (mC (.int 1)) (mCall FL.sp_ptake (mCons (mVar 0) (mCons (mOp rPow (mC (.int 10)) (mC (.int 4))) mNil)))) (mCons (mOp rIxM (mVar 3) (mC (.int 0))) (mCons (mOp rIxM (mVar 3) (mC (.int 1))) mNil))))))))))
def b_given : MS := (mSeq (mAsg (mVar 0) (gTp 4 (gCn (gNm 2) (gCn (gNm 3) (gCn (gNm 4) (gCn (gNm 5) gNl))))))
  (mRet (mTup (mCons (mCall FL.sp_pfrac (mCons (mOp rAdd (mOp rMul (mOp rIxM (mVar 1) (mC (.int 0))) (mVar 2)) (mVar 4)) (mCons (mVar 3) mNil))) (mCons (mCall FL.sp_pfrac (mCons (mOp rAdd (mOp rMul (mOp rIxM (mVar 1) (mC (.int 1))) (mVar 2)) (mVar 5)) (mCons (mVar 3) mNil))) mNil)))))
def b_pshuts : MS := (mSeq (mSet 2 (mLst mNil))
  (mSeq (mSet 3 (mOp rIxM (mLstF (mCons (mC (.int 3)) (mCons (mC (.int 4)) (mCons (mC (.int 6)) (mCons (mC (.int 10)) mNil))))) (mCall FL.sp_ptake (mCons (mVar 0) (mCons (mC (.int 4)) mNil)))))
  (mSeq (mFor (iR1 (mCons (mCall FL.sp_ptake (mCons (mVar 0) (mCons (mOp rAdd (mVar 1) (mC (.int 1))) mNil))) mNil)) (gNm 4) (mSeq (mSet 5 (mComp (iR1 (mCons (mOp rAdd (mC (.int 2)) (mCall FL.sp_ptake (mCons (mVar 0) (mCons (mC (.int 4)) mNil)))) mNil)) (gNm 6) mYes (mCall FL.sp_some_spot (mCons (mVar 0) (mCons (mVar 2) (mCons (mVar 3) mNil)))) [6]))
  (mSeq (mIfJ (mTst (mOp rEqM (mCall FL.sp_ptake (mCons (mVar 0) (mCons (mC (.int 2)) mNil))) (mC (.int 0)))) (mExpr (mMt mtAppend (mVar 5) (mCons (mOp rIxM (mVar 5) (mC (.int 0))) mNil))) mNext)
  (mSeq (mIfJ (mTst (mOp rEqM (mCall FL.sp_ptake (mCons (mVar 0) (mCons (mC (.int 4)) mNil))) (mC (.int 0)))) (mSet 5 (mCall FL.sp_psquare (mCons (mVar 0) (mCons (mVar 3) mNil)))) mNext)
  (mIfJ (mTst (mOp aLt (mBlt bLen (mCons (mVar 2) mNil)) (mC (.int 11)))) (mExpr (mCall FL.sp_laid (mCons (mVar 0) (mCons (mVar 2) (mCons (mVar 5) mNil))))) mNext)))))
  (mRet (mVar 2)))))
def b_pplot : MS := (mRet (mBlt bTuple (mCons (mCompF (iS (mVar 1)) (gTp 2 (gCn (gNm 2) (gCn (gNm 3) gNl))) mYes (mTup (mCons (mCall FL.sp_given (mCons (mVar 0) (mCons (mVar 2) mNil))) (mCons (mCall FL.sp_given (mCons (mVar 0) (mCons (mVar 3) mNil))) mNil))) [2, 3]) mNil)))
end FL
-- FLQ 
set_option maxRecDepth 100000
set_option maxHeartbeats 4000000
namespace FL
-- counts /tmp/scratch/dev/N_lib10.json
open PySem PySem.Spec L2 ML
local macro_rules | `(tactic| simp $c:optConfig $[$d:discharger]? only [gv] $[$l:location]?) => `(tactic| simp $c $[$d]? only [↓ML.q_mSeq, ↓ML.q_mC, ↓ML.q_mOp, ↓ML.q_mUn, ↓ML.q_mTst, ↓ML.q_mNot, ↓ML.q_mNotV, ↓ML.q_mRet, ↓ML.q_mRetN, ↓ML.q_mExpr, ↓ML.q_mNext, ↓ML.q_mBreak, ↓ML.q_mCont, ↓ML.q_mAsg, ↓ML.q_gSb, ↓ML.q_mTup, ↓ML.q_mLst, ↓ML.q_mLstF, ↓ML.q_mCons, ↓ML.q_mNil, ↓ML.q_mBlt, ↓ML.q_rEqM, ↓ML.q_rNeM, ↓ML.q_iR1, ↓ML.q_iR2, ↓ML.q_iEn, ↓ML.q_iZp, ↓ML.q_mMt, ↓ML.q_mMt0, ↓ML.q_mYes, ↓ML.q_mCut, ↓ML.q_oNo, ↓ML.q_oSo, ↓ML.l_mCall, ↓ML.l_mAnd, ↓ML.l_mOr, ↓ML.l_mAndV, ↓ML.l_mOrV, ↓ML.l_mIf, ↓ML.l_mIfS, ↓ML.l_mChain, ↓ML.l_mVar, ↓ML.l_mFor, ↓ML.l_mWhile, ↓ML.l_mComp, ↓ML.l_mCompF, ↓ML.l_optP, ↓ML.l_Go, ↓ML.Hold_v, ↓ML.l_mSet, ↓ML.l_gNm, ↓ML.l_mPar, ↓ML.l_rIxM, ↓ML.l_rSetM, ↓ML.l_rInt, ↓ML.l_rInt0, ↓ML.l_rAdd_int, ↓ML.l_rAdd_str, ↓ML.l_rAdd_tup, ↓ML.l_rNeg, ↓ML.l_rIsN, ↓ML.l_rNotN, ↓ML.l_rIsBM, ↓ML.l_mTru, ↓ML.l_bLen, ↓ML.l_bAbs, ↓ML.l_bMax2, ↓ML.l_bMin2, ↓ML.l_bInt_i, ↓ML.l_bInt_b, ↓ML.l_bTuple, ↓ML.l_bListF, ↓ML.l_bList, ↓ML.l_mIsi, ↓ML.l_iL, ↓ML.l_iT, ↓ML.l_gTp, ↓ML.l_gLs, ↓ML.l_gCn, ↓ML.l_gNl, ↓ML.l_mtAppend, ML.Hold_v, ML.l_mVar_z, ML.l_mVar_s, ML.OptP_some, ML.Go_eq, ML.IteP_true, ML.IteP_false, ML.lstOf_ref', ML.lstOf_lst, ML.lstOf_scr, ML.lstOf_tup, ML.ownOf_ref', ML.ownOf_lst, ML.seqOf_tup', ML.seqOf_lst', ML.seqOf_scr', ML.seqOf_ref', ML.olP_lst, ML.tupOf_tup, ML.ixL_lit, ML.ixL_cast, ML.ixL_m1, ML.setAt_lit, ML.setAt_cast, ML.truD_bl, ML.truD_int, ML.truD_tup, ML.truD_lst, ML.truD_scr, ML.truD_non, ML.lenD_tup, ML.lenD_lst, ML.lenD_scr, ML.lenD_ref, ML.tyD_non, ML.tyD_bl, ML.tyD_int, ML.tyD_str, ML.tyD_tup, ML.tyD_lst, ML.szl, ML.szlt, ML.cpow_lit, ML.mulok_rl, ML.mulok_ll, ML.divok_l, ML.put_same, ML.put_put, ML.q_wipeM, ML.deq_int, ML.deq_bl, ML.deq_str, ML.deq_non, ML.eqOk_int, ML.eqOk_bl, ML.isTy_NoneType_int, ML.isTy_NoneType_bool, ML.isTy_NoneType_tuple, ML.isTy_NoneType_list, ML.isTy_NoneType_str, ML.isTy_bool_int, ML.isTy_bool_bool, ML.isTy_bool_tuple, ML.isTy_bool_list, ML.isTy_bool_str, ML.isTy_int_int, ML.isTy_int_bool, ML.isTy_int_tuple, ML.isTy_int_list, ML.isTy_int_str, ML.isTy_str_int, ML.isTy_str_bool, ML.isTy_str_tuple, ML.isTy_str_list, ML.isTy_str_str, ML.isTy_tuple_int, ML.isTy_tuple_bool, ML.isTy_tuple_tuple, ML.isTy_tuple_list, ML.isTy_tuple_str, ML.isTy_list_int, ML.isTy_list_bool, ML.isTy_list_tuple, ML.isTy_list_list, ML.isTy_list_str, ML.isTy_dict_int, ML.isTy_dict_bool, ML.isTy_dict_tuple, ML.isTy_dict_list, ML.isTy_dict_str, FL.tup_fr, FL.tup_sp, FL.tup_wl, FL.tupOf_fr, FL.tupOf_sp, FL.tupOf_wl, FL.nz0, FL.nz1, FL.nz2, FL.nz3, FL.look_non, FL.look_int, FL.look_bl, FL.look_str, FL.look_tup, FL.look_lst, FL.look_scr, FL.seqOf_fr, FL.seqOf_sp, FL.seqOf_wl, FL.look_fr, FL.look_sp, FL.look_wl, FL.eqOk_fr, FL.eqOk_sp, FL.eqOk_wl, FL.deq_fr, FL.deq_sp, FL.deq_wl, FL.tyD_fr, FL.tyD_sp, FL.tyD_wl, FL.isN_fr, FL.isN_sp, FL.isN_wl, FL.lenD_sp, FL.lenD_wl, FL.rAdd_wl_tup, List.length_map, List.map_cons, List.map_nil, List.replicate, List.set_cons_zero, List.set_cons_succ, List.getElem?_cons_zero, List.getElem?_cons_succ, List.cons_append, List.nil_append, List.length_cons, List.length_nil, Option.bind_some, Option.map_some, ↓reduceIte, Nat.reduceAdd, Nat.reduceSub, Nat.reduceLT, Nat.reduceLeDiff, Nat.zero_add, decide_eq_true_eq, Bool.not_eq_true, ne_eq, reduceCtorEq, not_false_eq_true, true_and, and_true, Bool.false_eq_true, Bool.not_true, Bool.not_false, decide_true, decide_false, not_true_eq_false, eq_self, Bool.not_eq_eq_eq_not, if_true, if_false, decide_eq_false_iff_not, ML.ncast, Int.reduceToNat, Int.reducePow, Int.reduceAdd, Int.reduceSub, Int.reduceMul, Int.reduceNeg, Int.reduceLT, Int.reduceLE, Int.reduceEq, Nat.reduceEqDiff, Int.zero_add, gt_iff_lt, beq_self_eq_true, Bool.true_beq, Bool.false_beq, Bool.and_true, Bool.and_false, Bool.true_and, Bool.false_and, ↓ML.l_mtInsert, ↓ML.l_mtReverse, ↓ML.l_mtClear, ↓ML.l_bSortU, ↓ML.q_mMt0, ↓ML.l_bMaxL, ↓ML.l_bMinL, ↓ML.l_aLt_int, ↓ML.l_aLt_u, ↓ML.l_aGt_int, ↓ML.l_aGt_u, ↓ML.l_aLe_int, ↓ML.l_aLe_u, ↓ML.l_aGe_int, ↓ML.l_aGe_u, ↓ML.l_bMaxA_int, ↓ML.l_bMaxA_u, ↓ML.l_bMinA_int, ↓ML.l_bMinA_u, ML.tup_u, ML.tupOf_u, ML.seqOf_u, ML.sqI_u, ML.look_u, ML.isN_u, ML.lenD_u, ML.tyD_u, ML.tup_uw, ML.tupOf_uw, ML.seqOf_uw, ML.sqI_uw, ML.look_uw, ML.isN_uw, ML.lenD_uw, ML.tyD_uw, ML.eqOk_u, ML.eqOk_uw, ML.deq_u, ML.deq_uw, ML.in_uw, ↓ML.l_mRaise, ↓ML.l_mTry, ↓ML.l_mIsE, ↓ML.l_mIsV, ↓ML.l_mtCount, ↓ML.l_rAddS_rl, ↓ML.l_rAddS_ll, ML.excD_ref, ML.excOf_exc, ML.blsOf_nil, ML.blsOf_cons, ML.endM_nx, ML.endM_rt, ↓ML.l_mYes, ↓ML.l_iS, ↓ML.l_mIfJ, ↓ML.l_mJ, ↓ML.CrollP_nil, ↓ML.CrollP_cons, ↓ML.CrA_at, ↓ML.FrollP_nil, ↓ML.FrollP_cons, ML.isN_non, ML.isN_int, ML.isN_bl, ML.isN_str, ML.isN_tup, ML.isN_lst, ML.isN_ref, ML.sqI_tup, ML.sqI_lst, ML.sqI_scr, ML.sqI_ref, ML.sqI_at, ML.rngD_0, ML.rngD_1, ML.rngD_2, ML.rngD_3, ML.rngD_4, ML.rngD_6, ML.q_wipeM_nil, ML.q_wipeM_cons, FL.sqI_sp, FL.sqI_wl, FL.l_rAdd_rl, FL.l_rAdd_ll, FL.l_rAdd_lr, FL.l_rAdd_rr, FL.in_ints, FL.in_lu, ↓ML.l_bReprO, ↓ML.l_rEqS] $[$l]?)
local macro_rules | `(tactic| simp $c:optConfig $[$d:discharger]? only [gv, $ls,*] $[$l:location]?) => `(tactic| simp $c $[$d]? only [↓ML.q_mSeq, ↓ML.q_mC, ↓ML.q_mOp, ↓ML.q_mUn, ↓ML.q_mTst, ↓ML.q_mNot, ↓ML.q_mNotV, ↓ML.q_mRet, ↓ML.q_mRetN, ↓ML.q_mExpr, ↓ML.q_mNext, ↓ML.q_mBreak, ↓ML.q_mCont, ↓ML.q_mAsg, ↓ML.q_gSb, ↓ML.q_mTup, ↓ML.q_mLst, ↓ML.q_mLstF, ↓ML.q_mCons, ↓ML.q_mNil, ↓ML.q_mBlt, ↓ML.q_rEqM, ↓ML.q_rNeM, ↓ML.q_iR1, ↓ML.q_iR2, ↓ML.q_iEn, ↓ML.q_iZp, ↓ML.q_mMt, ↓ML.q_mMt0, ↓ML.q_mYes, ↓ML.q_mCut, ↓ML.q_oNo, ↓ML.q_oSo, ↓ML.l_mCall, ↓ML.l_mAnd, ↓ML.l_mOr, ↓ML.l_mAndV, ↓ML.l_mOrV, ↓ML.l_mIf, ↓ML.l_mIfS, ↓ML.l_mChain, ↓ML.l_mVar, ↓ML.l_mFor, ↓ML.l_mWhile, ↓ML.l_mComp, ↓ML.l_mCompF, ↓ML.l_optP, ↓ML.l_Go, ↓ML.Hold_v, ↓ML.l_mSet, ↓ML.l_gNm, ↓ML.l_mPar, ↓ML.l_rIxM, ↓ML.l_rSetM, ↓ML.l_rInt, ↓ML.l_rInt0, ↓ML.l_rAdd_int, ↓ML.l_rAdd_str, ↓ML.l_rAdd_tup, ↓ML.l_rNeg, ↓ML.l_rIsN, ↓ML.l_rNotN, ↓ML.l_rIsBM, ↓ML.l_mTru, ↓ML.l_bLen, ↓ML.l_bAbs, ↓ML.l_bMax2, ↓ML.l_bMin2, ↓ML.l_bInt_i, ↓ML.l_bInt_b, ↓ML.l_bTuple, ↓ML.l_bListF, ↓ML.l_bList, ↓ML.l_mIsi, ↓ML.l_iL, ↓ML.l_iT, ↓ML.l_gTp, ↓ML.l_gLs, ↓ML.l_gCn, ↓ML.l_gNl, ↓ML.l_mtAppend, ML.Hold_v, ML.l_mVar_z, ML.l_mVar_s, ML.OptP_some, ML.Go_eq, ML.IteP_true, ML.IteP_false, ML.lstOf_ref', ML.lstOf_lst, ML.lstOf_scr, ML.lstOf_tup, ML.ownOf_ref', ML.ownOf_lst, ML.seqOf_tup', ML.seqOf_lst', ML.seqOf_scr', ML.seqOf_ref', ML.olP_lst, ML.tupOf_tup, ML.ixL_lit, ML.ixL_cast, ML.ixL_m1, ML.setAt_lit, ML.setAt_cast, ML.truD_bl, ML.truD_int, ML.truD_tup, ML.truD_lst, ML.truD_scr, ML.truD_non, ML.lenD_tup, ML.lenD_lst, ML.lenD_scr, ML.lenD_ref, ML.tyD_non, ML.tyD_bl, ML.tyD_int, ML.tyD_str, ML.tyD_tup, ML.tyD_lst, ML.szl, ML.szlt, ML.cpow_lit, ML.mulok_rl, ML.mulok_ll, ML.divok_l, ML.put_same, ML.put_put, ML.q_wipeM, ML.deq_int, ML.deq_bl, ML.deq_str, ML.deq_non, ML.eqOk_int, ML.eqOk_bl, ML.isTy_NoneType_int, ML.isTy_NoneType_bool, ML.isTy_NoneType_tuple, ML.isTy_NoneType_list, ML.isTy_NoneType_str, ML.isTy_bool_int, ML.isTy_bool_bool, ML.isTy_bool_tuple, ML.isTy_bool_list, ML.isTy_bool_str, ML.isTy_int_int, ML.isTy_int_bool, ML.isTy_int_tuple, ML.isTy_int_list, ML.isTy_int_str, ML.isTy_str_int, ML.isTy_str_bool, ML.isTy_str_tuple, ML.isTy_str_list, ML.isTy_str_str, ML.isTy_tuple_int, ML.isTy_tuple_bool, ML.isTy_tuple_tuple, ML.isTy_tuple_list, ML.isTy_tuple_str, ML.isTy_list_int, ML.isTy_list_bool, ML.isTy_list_tuple, ML.isTy_list_list, ML.isTy_list_str, ML.isTy_dict_int, ML.isTy_dict_bool, ML.isTy_dict_tuple, ML.isTy_dict_list, ML.isTy_dict_str, FL.tup_fr, FL.tup_sp, FL.tup_wl, FL.tupOf_fr, FL.tupOf_sp, FL.tupOf_wl, FL.nz0, FL.nz1, FL.nz2, FL.nz3, FL.look_non, FL.look_int, FL.look_bl, FL.look_str, FL.look_tup, FL.look_lst, FL.look_scr, FL.seqOf_fr, FL.seqOf_sp, FL.seqOf_wl, FL.look_fr, FL.look_sp, FL.look_wl, FL.eqOk_fr, FL.eqOk_sp, FL.eqOk_wl, FL.deq_fr, FL.deq_sp, FL.deq_wl, FL.tyD_fr, FL.tyD_sp, FL.tyD_wl, FL.isN_fr, FL.isN_sp, FL.isN_wl, FL.lenD_sp, FL.lenD_wl, FL.rAdd_wl_tup, List.length_map, List.map_cons, List.map_nil, List.replicate, List.set_cons_zero, List.set_cons_succ, List.getElem?_cons_zero, List.getElem?_cons_succ, List.cons_append, List.nil_append, List.length_cons, List.length_nil, Option.bind_some, Option.map_some, ↓reduceIte, Nat.reduceAdd, Nat.reduceSub, Nat.reduceLT, Nat.reduceLeDiff, Nat.zero_add, decide_eq_true_eq, Bool.not_eq_true, ne_eq, reduceCtorEq, not_false_eq_true, true_and, and_true, Bool.false_eq_true, Bool.not_true, Bool.not_false, decide_true, decide_false, not_true_eq_false, eq_self, Bool.not_eq_eq_eq_not, if_true, if_false, decide_eq_false_iff_not, ML.ncast, Int.reduceToNat, Int.reducePow, Int.reduceAdd, Int.reduceSub, Int.reduceMul, Int.reduceNeg, Int.reduceLT, Int.reduceLE, Int.reduceEq, Nat.reduceEqDiff, Int.zero_add, gt_iff_lt, beq_self_eq_true, Bool.true_beq, Bool.false_beq, Bool.and_true, Bool.and_false, Bool.true_and, Bool.false_and, ↓ML.l_mtInsert, ↓ML.l_mtReverse, ↓ML.l_mtClear, ↓ML.l_bSortU, ↓ML.q_mMt0, ↓ML.l_bMaxL, ↓ML.l_bMinL, ↓ML.l_aLt_int, ↓ML.l_aLt_u, ↓ML.l_aGt_int, ↓ML.l_aGt_u, ↓ML.l_aLe_int, ↓ML.l_aLe_u, ↓ML.l_aGe_int, ↓ML.l_aGe_u, ↓ML.l_bMaxA_int, ↓ML.l_bMaxA_u, ↓ML.l_bMinA_int, ↓ML.l_bMinA_u, ML.tup_u, ML.tupOf_u, ML.seqOf_u, ML.sqI_u, ML.look_u, ML.isN_u, ML.lenD_u, ML.tyD_u, ML.tup_uw, ML.tupOf_uw, ML.seqOf_uw, ML.sqI_uw, ML.look_uw, ML.isN_uw, ML.lenD_uw, ML.tyD_uw, ML.eqOk_u, ML.eqOk_uw, ML.deq_u, ML.deq_uw, ML.in_uw, ↓ML.l_mRaise, ↓ML.l_mTry, ↓ML.l_mIsE, ↓ML.l_mIsV, ↓ML.l_mtCount, ↓ML.l_rAddS_rl, ↓ML.l_rAddS_ll, ML.excD_ref, ML.excOf_exc, ML.blsOf_nil, ML.blsOf_cons, ML.endM_nx, ML.endM_rt, ↓ML.l_mYes, ↓ML.l_iS, ↓ML.l_mIfJ, ↓ML.l_mJ, ↓ML.CrollP_nil, ↓ML.CrollP_cons, ↓ML.CrA_at, ↓ML.FrollP_nil, ↓ML.FrollP_cons, ML.isN_non, ML.isN_int, ML.isN_bl, ML.isN_str, ML.isN_tup, ML.isN_lst, ML.isN_ref, ML.sqI_tup, ML.sqI_lst, ML.sqI_scr, ML.sqI_ref, ML.sqI_at, ML.rngD_0, ML.rngD_1, ML.rngD_2, ML.rngD_3, ML.rngD_4, ML.rngD_6, ML.q_wipeM_nil, ML.q_wipeM_cons, FL.sqI_sp, FL.sqI_wl, FL.l_rAdd_rl, FL.l_rAdd_ll, FL.l_rAdd_lr, FL.l_rAdd_rr, FL.in_ints, FL.in_lu, ↓ML.l_bReprO, ↓ML.l_rEqS, $ls,*] $[$l]?)
theorem l_psquare : ∀ ds S Q E, FL.sp_psquare ds S Q E → ds.length = 2 := by rintro _ _ _ _ ⟨_, _, _, rfl, _⟩; rfl
theorem l_laid : ∀ ds S Q E, FL.sp_laid ds S Q E → ds.length = 3 := by rintro _ _ _ _ ⟨_, _, _, _, _, _, _, rfl, _⟩; rfl
theorem l_frame : ∀ ds S Q E, FL.sp_frame ds S Q E → ds.length = 2 := by rintro _ _ _ _ ⟨_, _, _, rfl, _⟩; rfl
theorem l_given : ∀ ds S Q E, FL.sp_given ds S Q E → ds.length = 2 := by rintro _ _ _ _ ⟨_, _, rfl, _⟩; rfl
theorem l_pplot : ∀ ds S Q E, FL.sp_pplot ds S Q E → ds.length = 2 := by rintro _ _ _ _ ⟨_, _, _, rfl, _⟩; rfl
theorem l_pshuts : ∀ ds S Q E, FL.sp_pshuts ds S Q E → ds.length = 2 := by rintro _ _ _ _ ⟨_, _, _, rfl, _⟩; rfl
theorem cut_tl (ds : List D) : cutD ds (some 1) none = ds.drop 1 := by
  unfold cutD HT.sIx
  cases ds with
  | nil => rfl
  | cons d ds => simp
theorem r_psquare : ∀ ds S Q E, FL.sp_psquare ds S Q E → b_psquare (mends Q E) (mstart 3 ds) S := by
  rintro _ S Q E ⟨p, n, w, rfl, hp, hn, w0, w1, k⟩
  unfold b_psquare
  simp only [ML.q_mstart, ML.q_mends, List.map_cons, List.map_nil, List.replicate, List.cons_append, List.nil_append]
  simp only [gv]
  refine ⟨p, n, w, rfl, hp, by omega, w0, w1, fun u n1 S1 u1 u2 u3 u4 hn1 hp1 e1 => ?_⟩
  have x1 := but_ex e1
  obtain ⟨ux, uy⟩ := u
  simp only at u1 u2 u3 u4
  simp only [gv]
  refine t_ptake hp1 (by omega) (by decide) (by decide) fun f n2 S2 f0 f1 hn2 hp2 e2 => ?_
  have x2 := but_ex e2
  simp only [gv]
  refine t_ptake hp2 (by omega) (by decide) (by decide) fun g n3 S3 g0 g1 hn3 hp3 e3 => ?_
  have x3 : But p S S3 := (x1.trans x2).trans (but_ex e3)
  have fin : ∀ (q : Addr) (us : List U2), S3 q = none → us.length = 5 → (∀ u ∈ us, UOk 100 u) → Q (.ref q) (put S3 q (.lst (us.map uD))) := fun q us hq hl hu => by
    have qp : q ≠ p := fun z => by obtain ⟨a, b, h, _⟩ := hp3; rw [z, h] at hq; cases hq
    have sq : S q = none := by
      cases c : S q with
      | none => rfl
      | some o => rw [x3 q o qp c] at hq; cases hq
    refine k q us n3 _ hl hu (by omega) ?_ sq qp (fun a o ha e => ?_) put_same
    · obtain ⟨a, b, h, h2⟩ := hp3
      exact ⟨a, b, by rw [put_ne qp.symm]; exact h, h2⟩
    · rw [put_ne (sne (x3 a o ha e) hq)]; exact x3 a o ha e
  simp only [gv]
  refine ⟨fun h => ?_, fun h => ?_⟩
  · simp only [gv]
    intro q hq
    refine fin q [(ux - 6 * (1 + f), uy - 6 * (1 + f)), (ux + 6 * (1 + f), uy - 6 * (1 + f)), (ux + 6 * (1 + f), uy + 6 * (1 + f)), (ux - 6 * (1 + f), uy + 6 * (1 + f)), (ux - 6 * (1 + f), uy - 6 * (1 + f))] hq rfl ?_
    simp only [List.mem_cons, List.not_mem_nil, or_false, forall_eq_or_imp, forall_eq]
    refine ⟨⟨?_, ?_, ?_, ?_⟩, ⟨?_, ?_, ?_, ?_⟩, ⟨?_, ?_, ?_, ?_⟩, ⟨?_, ?_, ?_, ?_⟩, ⟨?_, ?_, ?_, ?_⟩⟩ <;> simp only <;> omega
  · simp only [gv]
    intro q hq
    refine fin q [(ux - 6 * (1 + f), uy), (ux, uy - 6 * (1 + f)), (ux + 6 * (1 + f), uy), (ux, uy + 6 * (1 + f)), (ux - 6 * (1 + f), uy)] hq rfl ?_
    simp only [List.mem_cons, List.not_mem_nil, or_false, forall_eq_or_imp, forall_eq]
    refine ⟨⟨?_, ?_, ?_, ?_⟩, ⟨?_, ?_, ?_, ?_⟩, ⟨?_, ?_, ?_, ?_⟩, ⟨?_, ?_, ?_, ?_⟩, ⟨?_, ?_, ?_, ?_⟩⟩ <;> simp only <;> omega
theorem r_laid : ∀ ds S Q E, FL.sp_laid ds S Q E → b_laid (mends Q E) (mstart 4 ds) S := by
  rintro _ S Q E ⟨p, r, t, n, m, ws, us, rfl, hp, hn, dr, hm, hr, ht, rp, tp, tr, lu, hu, k⟩
  unfold b_laid
  simp only [ML.q_mstart, ML.q_mends, List.map_cons, List.map_nil, List.replicate, List.cons_append, List.nil_append]
  simp only [gv, ht, olP_lst]
  refine wfor_inv (fun i σ S' => @KP ⟨∃ (ws' : List UW) (n' : Nat), (∃ a b c d, σ = [some (.ref p), some (.ref r), some (.ref t), a, b, c, d]) ∧ PDrawn (m + i) ws' ∧ n' ≤ n + i ∧ PotAt S' p n' ∧ S' r = some (.lst (ws'.map uwD)) ∧ ∀ a o, a ≠ p → a ≠ r → S a = some o → S' a = some o⟩) ⟨ws, n, ⟨_, _, _, _, rfl⟩, dr, Nat.le_refl _, hp, hr, fun a o _ _ e => e⟩ ?_ ?_
  · rintro i dd σ S1 hd ⟨ws1, n1, ⟨a, b, c, d, rfl⟩, dr1, hn1, hp1, hr1, x1⟩
    obtain ⟨y1, y2, g1, g2, rfl⟩ := zipD_get hd
    have ht1 := x1 t _ tp tr ht
    rw [List.getElem?_map] at g1
    rw [cut_tl, ← List.map_drop, List.getElem?_map, List.getElem?_drop] at g2
    cases e1 : us[i]? with
    | none => rw [e1] at g1; cases g1
    | some u =>
    cases e2 : us[1 + i]? with
    | none => rw [e2] at g2; cases g2
    | some v =>
      rw [e1] at g1; rw [e2] at g2; cases g1; cases g2
      have hi : 1 + i < us.length := (List.getElem?_eq_some_iff.mp e2).1
      have ou := hu u (List.mem_of_getElem? e1)
      have ov := hu v (List.mem_of_getElem? e2)
      have l1 := dr1.len
      refine ⟨⟨by rw [lstOf_ref', ht1]; exact olP_lst, by show lstOf _ _ = _; rfl⟩, ?_⟩
      simp only [gv]
      have skip : ∀ S2 a b c d, S2 = S1 → ∃ (ws' : List UW) (n' : Nat), (∃ a' b' c' d', [some (D.ref p), some (.ref r), some (.ref t), a, b, c, d] = [some (.ref p), some (.ref r), some (.ref t), a', b', c', d']) ∧ PDrawn (m + (i + 1)) ws' ∧ n' ≤ n + (i + 1) ∧ PotAt S2 p n' ∧ S2 r = some (.lst (ws'.map uwD)) ∧ ∀ a o, a ≠ p → a ≠ r → S a = some o → S2 a = some o := fun S2 a b c d e => by
        subst e
        exact ⟨ws1, n1, ⟨_, _, _, _, rfl⟩, dr1.mono (by omega), by omega, hp1, hr1, x1⟩
      refine ⟨fun hne => ?_, fun hne => ?_⟩
      · obtain ⟨sh, hsh⟩ : ∃ sh : UW, sh = (if ult v u then v else u, if ult u v then v else u) := ⟨_, rfl⟩
        have hsu : ult sh.1 sh.2 ∧ WOk 100 sh := by
          rcases ult_tri hne with z | z
          · rw [hsh, if_neg (ult_asymm z), if_pos z]; exact ⟨z, ou, ov⟩
          · rw [hsh, if_pos z, if_neg (ult_asymm z)]; exact ⟨z, ov, ou⟩
        have ow : ∀ w ∈ ws1, WOk (2 ^ 30) w := fun w hw => (dr1.ok w hw).mono (by decide)
        simp only [gv, sqI_at hr1]
        intro q hq
        have rq : r ≠ q := sne hr1 hq
        refine comp_map uwD (fun w => .bl (ufair sh w)) ws1 rfl (by omega) (fun acc => by show olP _ = _; rw [put_ne rq, hr1]; rfl) ?_ ?_
        · intro w acc Q1 hw q1
          simp only [gv, ← hsh]
          refine ⟨sh, w, rfl, hsu.2.mono (by decide), ow w hw, ?_⟩
          simp only [gv]
          exact q1
        · have em : (ws1.map fun w => D.bl (ufair sh w)) = (ws1.map fun w => ufair sh w).map .bl := by rw [List.map_map]; rfl
          simp only [gv, del_put hq]
          rw [em, l_rNinB]
          simp only [gv]
          refine ⟨fun hall => ?_, fun hall => ?_⟩
          · have fa : ∀ w ∈ ws1, ufair sh w = true := fun w hw => by
              cases c : ufair sh w with
              | true => rfl
              | false =>
                have : ((ws1.map fun w => ufair sh w).any fun c => c == false) = true := List.any_eq_true.mpr ⟨false, List.mem_map.mpr ⟨w, hw, c⟩, rfl⟩
                rw [this] at hall; cases hall
            simp only [gv, hr1, olP_lst]
            refine ⟨⟨_, by rw [lstOf_ref', hr1]; exact olP_lst⟩, ?_⟩
            refine t_ptake hp1 (by omega) (by omega) (by omega) fun j n2 S2 j0 j1 hn2 hp2 e2 => ?_
            have hr2 : S2 r = some (.lst (ws1.map uwD)) := but_ex e2 r _ rp hr1
            obtain ⟨jn, rfl⟩ := Int.eq_ofNat_of_zero_le j0
            simp only [gv, hr2, ← hsh]
            refine ⟨⟨by rw [sizeLine_eq]; omega, by omega, by omega⟩, ?_⟩
            refine KP.mk ⟨_, n2, ⟨_, _, _, _, rfl⟩, dr1.put jn hsu.1 hsu.2 fa, by omega, ?_, ?_, fun a o h1 h2 e => ?_⟩
            · obtain ⟨a, b, h, h2⟩ := hp2
              exact ⟨a, b, by rw [put_ne (Ne.symm rp)]; exact h, h2⟩
            · rw [put_same, List.map_append, List.map_append, List.map_take, List.map_drop]; rfl
            · rw [put_ne h2]; exact but_ex e2 a o h1 (x1 a o h1 h2 e)
          · simp only [gv]
            exact KP.mk (skip _ _ _ _ _ rfl)
      · simp only [gv]
        exact KP.mk (skip _ _ _ _ _ rfl)
  · rintro σ S1 ⟨ws1, n1, ⟨a, b, c, d, rfl⟩, dr1, hn1, hp1, hr1, x1⟩
    have ht1 := x1 t _ tp tr ht
    have lz : (zipD (us.map uD) (cutD (us.map uD) (some 1) none)).length = us.length - 1 := by
      rw [cut_tl]; unfold zipD; rw [List.length_zipWith, List.length_drop, List.length_map]; omega
    rw [lz] at dr1 hn1
    refine ⟨⟨by rw [lstOf_ref', ht1]; exact olP_lst, by show lstOf _ _ = _; rfl⟩, ?_⟩
    simp only [gv]
    exact k ws1 n1 S1 dr1 (by omega) hp1 hr1 x1
theorem r_given : ∀ ds S Q E, FL.sp_given ds S Q E → b_given (mends Q E) (mstart 4 ds) S := by
  rintro _ S Q E ⟨s, u, rfl, hs, hu, k⟩
  obtain ⟨t1, t2, b1, b2, x1, x2, y1, y2⟩ := hs
  obtain ⟨u1, u2, u3, u4⟩ := hu
  unfold b_given
  simp only [ML.q_mstart, ML.q_mends, List.map_cons, List.map_nil, List.replicate, List.cons_append, List.nil_append]
  simp only [gv, scD]
  refine ⟨mulok_l (by omega) (by omega), _, _, rfl, by omega, by omega, ?_⟩
  simp only [gv]
  refine ⟨mulok_l (by omega) (by omega), _, _, rfl, by omega, by omega, ?_⟩
  simp only [gv]
  rw [rat_div_int (by omega), rat_div_int (by omega)]
  simp only [Rat.intCast_add, Rat.intCast_mul]
  exact k
theorem r_pplot : ∀ ds S Q E, FL.sp_pplot ds S Q E → b_pplot (mends Q E) (mstart 2 ds) S := by
  rintro _ S Q E ⟨s, d, ws, rfl, hd, hz, hs0, hw, k⟩
  unfold b_pplot
  simp only [ML.q_mstart, ML.q_mends, List.map_cons, List.map_nil, List.replicate, List.cons_append, List.nil_append]
  obtain ⟨G, hs, g0, hG⟩ := hd.it
  simp only [gv, hs]
  intro p hp
  refine comp_map uwD (fun w => wlD (afw s (ofW w))) ws rfl hz (fun acc => hG _ _ hp) ?_ ?_
  · intro w acc Q' hm q
    simp only [gv]
    refine ⟨s, w.1, rfl, hs0, (hw w hm).f, ?_⟩
    simp only [gv]
    refine ⟨s, w.2, rfl, hs0, (hw w hm).s, ?_⟩
    simp only [gv]
    exact q
  · simp only [gv, del_put hp, plt_enc]
    exact k
theorem r_frame : ∀ ds S Q E, FL.sp_frame ds S Q E → b_frame (mends Q E) (mstart 3 ds) S := by
  rintro _ S Q E ⟨p, n, kk, rfl, hp, hn, k⟩
  unfold b_frame
  simp only [ML.q_mstart, ML.q_mends, List.map_cons, List.map_nil, List.replicate, List.cons_append, List.nil_append]
  simp only [gv]
  refine t_ptake hp (by omega) (by decide) (by decide) fun f n1 S1 f0 f1 hn1 hp1 e1 => ?_
  have x1 := but_ex e1
  simp only [gv]
  refine ⟨fun h => ?_, fun h => ?_⟩
  · simp only [gv]
    exact k ⟨1, 1, 0, 0⟩ n1 S1 ⟨by decide, by decide, by decide, by decide, by decide, by decide, by decide, by decide⟩ (by omega) hp1 x1
  simp only [gv]
  refine ⟨fun h2 => ?_, fun h2 => ?_⟩
  · simp only [gv]
    refine ⟨fun h3 => ?_, fun h3 => ?_⟩
    · simp only [gv]
      intro q hq
      have qp : p ≠ q := fun z => by obtain ⟨a, b, h, _⟩ := hp1; rw [z, hq] at h; cases h
      rw [show [D.int 0, D.int 1] = rngD 0 2 by rw [ML.rngD_2]; rfl]
      refine comp_rng (fun j acc S' => ∃ (ks : List Int) (n' : Nat), acc = ks.map .int ∧ ks.length = j ∧ (∀ k ∈ ks, -(1000000000000000000000000000) ≤ k ∧ k ≤ 1000000000000000000000000000) ∧ n' ≤ n1 + j ∧ PotAt S' p n' ∧ ∀ a o, a ≠ p → a ≠ q → S1 a = some o → S' a = some o) put_same ⟨[], n1, rfl, rfl, by simp, by omega, ?_, fun a o _ h2 e => by rw [put_ne h2]; exact e⟩ ?_ ?_
      · obtain ⟨a, b, h, h2⟩ := hp1
        exact ⟨a, b, by rw [put_ne qp]; exact h, h2⟩
      · rintro j acc S2 hj ⟨ks, n2, rfl, lk, bk, hn2, hp2, x2⟩ ha
        simp only [gv]
        refine t_ptake hp2 (by omega) (by decide) (by decide) fun x n3 S3 x0 x1' hn3 hp3 e3 => ?_
        simp only [gv]
        refine CompNext.mk (acc := ks.map .int) (but_ex e3 q _ (Ne.symm qp) ha) (line_lt (by rw [List.length_map]; omega)) ⟨ks ++ [x - 1000000000000000000000000000], n3, by rw [List.map_append]; rfl, by rw [List.length_append, lk]; rfl, fun k hk => ?_, by omega, ?_, fun a o h1 h2 e => ?_⟩
        · rcases List.mem_append.mp hk with h | h
          · exact bk k h
          · rcases List.mem_cons.mp h with h | h
            · omega
            · cases h
        · obtain ⟨a, b, h, h2⟩ := hp3
          exact ⟨a, b, by rw [put_ne qp]; exact h, h2⟩
        · rw [put_ne h2]; exact but_ex e3 a o h1 (x2 a o h1 h2 e)
      · rintro acc S2 ⟨ks, n2, rfl, lk, bk, hn2, hp2, x2⟩ ha
        match ks, lk, bk with
        | [k1, k2], _, bk =>
        have b1 := bk k1 (by simp)
        have b2 := bk k2 (by simp)
        have xx2 : But p S S2 := fun a o ha' e => by
          have e1 := x1 a o ha' e
          exact x2 a o ha' (sne e1 hq) e1
        simp only [gv]
        refine t_ptake hp2 (by omega) (by decide) (by decide) fun x n3 S3 x0 x1' hn3 hp3 e3 => ?_
        simp only [gv]
        refine t_ptake hp3 (by omega) (by decide) (by decide) fun y n4 S4 y0 y1' hn4 hp4 e4 => ?_
        have hq4 : S4 q = some (.lst [.int k1, .int k2]) := but_ex e4 q _ (Ne.symm qp) (but_ex e3 q _ (Ne.symm qp) ha)
        simp only [gv, hq4, olP_lst]
        exact k ⟨1 + x, 1 + y, k1, k2⟩ n4 S4 ⟨by simp only; omega, by simp only; omega, by simp only; omega, by simp only; omega, by simp only; omega, by simp only; omega, by simp only; omega, by simp only; omega⟩ (by omega) hp4 ((xx2.trans (but_ex e3)).trans (but_ex e4))
    · simp only [gv]
      intro q hq
      have qp : p ≠ q := fun z => by obtain ⟨a, b, h, _⟩ := hp1; rw [z, hq] at h; cases h
      rw [show [D.int 0, D.int 1] = rngD 0 2 by rw [ML.rngD_2]; rfl]
      refine comp_rng (fun j acc S' => ∃ (ks : List Int) (n' : Nat), acc = ks.map .int ∧ ks.length = j ∧ (∀ k ∈ ks, -(1000000) ≤ k ∧ k ≤ 1000000) ∧ n' ≤ n1 + j ∧ PotAt S' p n' ∧ ∀ a o, a ≠ p → a ≠ q → S1 a = some o → S' a = some o) put_same ⟨[], n1, rfl, rfl, by simp, by omega, ?_, fun a o _ h2 e => by rw [put_ne h2]; exact e⟩ ?_ ?_
      · obtain ⟨a, b, h, h2⟩ := hp1
        exact ⟨a, b, by rw [put_ne qp]; exact h, h2⟩
      · rintro j acc S2 hj ⟨ks, n2, rfl, lk, bk, hn2, hp2, x2⟩ ha
        simp only [gv]
        refine t_ptake hp2 (by omega) (by decide) (by decide) fun x n3 S3 x0 x1' hn3 hp3 e3 => ?_
        simp only [gv]
        refine CompNext.mk (acc := ks.map .int) (but_ex e3 q _ (Ne.symm qp) ha) (line_lt (by rw [List.length_map]; omega)) ⟨ks ++ [x - 1000000], n3, by rw [List.map_append]; rfl, by rw [List.length_append, lk]; rfl, fun k hk => ?_, by omega, ?_, fun a o h1 h2 e => ?_⟩
        · rcases List.mem_append.mp hk with h | h
          · exact bk k h
          · rcases List.mem_cons.mp h with h | h
            · omega
            · cases h
        · obtain ⟨a, b, h, h2⟩ := hp3
          exact ⟨a, b, by rw [put_ne qp]; exact h, h2⟩
        · rw [put_ne h2]; exact but_ex e3 a o h1 (x2 a o h1 h2 e)
      · rintro acc S2 ⟨ks, n2, rfl, lk, bk, hn2, hp2, x2⟩ ha
        match ks, lk, bk with
        | [k1, k2], _, bk =>
        have b1 := bk k1 (by simp)
        have b2 := bk k2 (by simp)
        have xx2 : But p S S2 := fun a o ha' e => by
          have e1 := x1 a o ha' e
          exact x2 a o ha' (sne e1 hq) e1
        simp only [gv]
        refine t_ptake hp2 (by omega) (by decide) (by decide) fun x n3 S3 x0 x1' hn3 hp3 e3 => ?_
        simp only [gv]
        refine t_ptake hp3 (by omega) (by decide) (by decide) fun y n4 S4 y0 y1' hn4 hp4 e4 => ?_
        have hq4 : S4 q = some (.lst [.int k1, .int k2]) := but_ex e4 q _ (Ne.symm qp) (but_ex e3 q _ (Ne.symm qp) ha)
        simp only [gv, hq4, olP_lst]
        exact k ⟨1 + x, 1 + y, k1, k2⟩ n4 S4 ⟨by simp only; omega, by simp only; omega, by simp only; omega, by simp only; omega, by simp only; omega, by simp only; omega, by simp only; omega, by simp only; omega⟩ (by omega) hp4 ((xx2.trans (but_ex e3)).trans (but_ex e4))
  · simp only [gv]
    intro q hq
    have qp : p ≠ q := fun z => by obtain ⟨a, b, h, _⟩ := hp1; rw [z, hq] at h; cases h
    rw [show [D.int 0, D.int 1] = rngD 0 2 by rw [ML.rngD_2]; rfl]
    refine comp_rng (fun j acc S' => ∃ (ks : List Int) (n' : Nat), acc = ks.map .int ∧ ks.length = j ∧ (∀ k ∈ ks, -(1000000) ≤ k ∧ k ≤ 1000000) ∧ n' ≤ n1 + j ∧ PotAt S' p n' ∧ ∀ a o, a ≠ p → a ≠ q → S1 a = some o → S' a = some o) put_same ⟨[], n1, rfl, rfl, by simp, by omega, ?_, fun a o _ h2 e => by rw [put_ne h2]; exact e⟩ ?_ ?_
    · obtain ⟨a, b, h, h2⟩ := hp1
      exact ⟨a, b, by rw [put_ne qp]; exact h, h2⟩
    · rintro j acc S2 hj ⟨ks, n2, rfl, lk, bk, hn2, hp2, x2⟩ ha
      simp only [gv]
      refine t_ptake hp2 (by omega) (by decide) (by decide) fun x n3 S3 x0 x1' hn3 hp3 e3 => ?_
      simp only [gv]
      refine CompNext.mk (acc := ks.map .int) (but_ex e3 q _ (Ne.symm qp) ha) (line_lt (by rw [List.length_map]; omega)) ⟨ks ++ [x - 1000000], n3, by rw [List.map_append]; rfl, by rw [List.length_append, lk]; rfl, fun k hk => ?_, by omega, ?_, fun a o h1 h2 e => ?_⟩
      · rcases List.mem_append.mp hk with h | h
        · exact bk k h
        · rcases List.mem_cons.mp h with h | h
          · omega
          · cases h
      · obtain ⟨a, b, h, h2⟩ := hp3
        exact ⟨a, b, by rw [put_ne qp]; exact h, h2⟩
      · rw [put_ne h2]; exact but_ex e3 a o h1 (x2 a o h1 h2 e)
    · rintro acc S2 ⟨ks, n2, rfl, lk, bk, hn2, hp2, x2⟩ ha
      match ks, lk, bk with
      | [k1, k2], _, bk =>
      have b1 := bk k1 (by simp)
      have b2 := bk k2 (by simp)
      have xx2 : But p S S2 := fun a o ha' e => by
        have e1 := x1 a o ha' e
        exact x2 a o ha' (sne e1 hq) e1
      simp only [gv]
      refine t_ptake hp2 (by omega) (by decide) (by decide) fun x n3 S3 x0 x1' hn3 hp3 e3 => ?_
      simp only [gv]
      refine t_ptake hp3 (by omega) (by decide) (by decide) fun y n4 S4 y0 y1' hn4 hp4 e4 => ?_
      have hq4 : S4 q = some (.lst [.int k1, .int k2]) := but_ex e4 q _ (Ne.symm qp) (but_ex e3 q _ (Ne.symm qp) ha)
      simp only [gv, hq4, olP_lst]
      exact k ⟨1 + x, 1 + y, k1, k2⟩ n4 S4 ⟨by simp only; omega, by simp only; omega, by simp only; omega, by simp only; omega, by simp only; omega, by simp only; omega, by simp only; omega, by simp only; omega⟩ (by omega) hp4 ((xx2.trans (but_ex e3)).trans (but_ex e4))
theorem r_pshuts : ∀ ds S Q E, FL.sp_pshuts ds S Q E → b_pshuts (mends Q E) (mstart 5 ds) S := by
  rintro _ S Q E ⟨p, n, most, rfl, hp, hn, hm, k⟩
  unfold b_pshuts
  simp only [ML.q_mstart, ML.q_mends, List.map_cons, List.map_nil, List.replicate, List.cons_append, List.nil_append]
  simp only [gv]
  intro r hr
  have rp : r ≠ p := fun z => by obtain ⟨a, b, h, _⟩ := hp; rw [z, h] at hr; cases hr
  have hp0 : PotAt (put S r (.lst [])) p n := by obtain ⟨a, b, h, h2⟩ := hp; exact ⟨a, b, by rw [put_ne (Ne.symm rp)]; exact h, h2⟩
  refine t_ptake hp0 (by omega) (by decide) (by decide) fun x n1 S1 x0 x1 hn1 hp1 e1 => ?_
  have hr1 : S1 r = some (.lst (([] : List UW).map uwD)) := but_ex e1 r _ rp put_same
  have b1 : But p S S1 := fun a o ha e => but_ex e1 a o ha (by rw [put_ne (sne e hr)]; exact e)
  obtain ⟨w, ew, w0, w1⟩ : ∃ w : Int, ixL [D.int 3, .int 4, .int 6, .int 10] x = some (.int w) ∧ 0 < w ∧ w ≤ 10 := by
    have : x = 0 ∨ x = 1 ∨ x = 2 ∨ x = 3 := by omega
    rcases this with rfl | rfl | rfl | rfl
    · exact ⟨3, rfl, by decide, by decide⟩
    · exact ⟨4, rfl, by decide, by decide⟩
    · exact ⟨6, rfl, by decide, by decide⟩
    · exact ⟨10, rfl, by decide, by decide⟩
  simp only [gv, ew]
  refine t_ptake hp1 (by omega) (by omega) (by omega) fun y n2 S2 y0 y1 hn2 hp2 e2 => ?_
  have hr2 := but_ex e2 r _ rp hr1
  have b2 := b1.trans (but_ex e2)
  simp only [gv]
  refine ⟨by omega, ?_⟩
  refine rng_inv (fun i σ S' => @KP ⟨∃ (ws : List UW) (n' : Nat), (∃ a b c, σ = [some (.ref p), some (.int most), some (.ref r), some (.int w), a, b, c]) ∧ PDrawn 15 ws ∧ n' ≤ n + 2 + 40 * i ∧ PotAt S' p n' ∧ S' r = some (.lst (ws.map uwD)) ∧ But p S S'⟩) ⟨[], n2, ⟨_, _, _, rfl⟩, pdrawn_nil, by omega, hp2, hr2, b2⟩ ?_ ?_
  · rintro i σ S3 hi ⟨ws, n3, ⟨a, b, c, rfl⟩, dr, hn3, hp3, hr3, b3⟩
    have lw := dr.len
    simp only [gv]
    refine t_ptake hp3 (by omega) (by decide) (by decide) fun z n4 S4 z0 z1 hn4 hp4 e4 => ?_
    have hr4 := but_ex e4 r _ rp hr3
    have b4 := b3.trans (but_ex e4)
    simp only [gv]
    refine ⟨by omega, ?_⟩
    intro q hq
    have qp : p ≠ q := fun z => by obtain ⟨a, b, h, _⟩ := hp4; rw [z, hq] at h; cases h
    have rq : r ≠ q := sne hr4 hq
    refine comp_rng (fun j acc S' => ∃ (us : List U2) (n' : Nat), acc = us.map uD ∧ us.length = j ∧ (∀ u ∈ us, UOk 100 u) ∧ n' ≤ n4 + 3 * j ∧ PotAt S' p n' ∧ ∀ a o, a ≠ p → a ≠ q → S4 a = some o → S' a = some o) put_same ⟨[], n4, rfl, rfl, by simp, by omega, ?_, fun a o _ h2 e => by rw [put_ne h2]; exact e⟩ ?_ ?_
    · obtain ⟨a, b, h, h2⟩ := hp4
      exact ⟨a, b, by rw [put_ne qp]; exact h, h2⟩
    · rintro j acc S5 hj ⟨us, n5, rfl, lu, ou, hn5, hp5, x5⟩ ha
      simp only [gv]
      refine ⟨p, r, n5, w, ws, rfl, hp5, by omega, w0, w1, rp, x5 r _ rp rq hr4, by omega, dr.ok, fun u n6 S6 hu hn6 hp6 e6 => ?_⟩
      refine CompNext.mk (acc := us.map uD) (but_ex e6 q _ (Ne.symm qp) ha) (line_lt (by rw [List.length_map]; omega)) ⟨us ++ [u], n6, by rw [List.map_append]; rfl, by rw [List.length_append, lu]; rfl, fun v hv => ?_, by omega, ?_, fun a o h1 h2 e => ?_⟩
      · rcases List.mem_append.mp hv with h | h
        · exact ou v h
        · rw [List.mem_singleton.mp h]; exact hu
      · obtain ⟨a, b, h, h2⟩ := hp6
        exact ⟨a, b, by rw [put_ne qp]; exact h, h2⟩
      · rw [put_ne h2]; exact but_ex e6 a o h1 (x5 a o h1 h2 e)
    rintro acc S5 ⟨us, n5, rfl, lu, ou, hn5, hp5, x5⟩ hq5
    have hr5 := x5 r _ rp rq hr4
    have b5 : But p S S5 := fun a o ha e => x5 a o ha (sne (b4 a o ha e) hq) (b4 a o ha e)
    simp only [gv]
    refine t_ptake hp5 (by omega) (by decide) (by decide) fun g n6 S6 g0 g1 hn6 hp6 e6 => ?_
    have hr6 := but_ex e6 r _ rp hr5
    have hq6 := but_ex e6 q _ (Ne.symm qp) hq5
    have b6 := b5.trans (but_ex e6)
    simp only [gv]
    refine jf (fun (σ : MSt) (S' : Sto) => ∃ us : List U2, (∃ a b, σ = [some (.ref p), some (.int most), some (.ref r), some (.int w), a, some (.ref q), b]) ∧ us.length ≤ 6 ∧ (∀ u ∈ us, UOk 100 u) ∧ PotAt S' p n6 ∧ S' q = some (.lst (us.map uD)) ∧ S' r = some (.lst (ws.map uwD)) ∧ But p S S') (fun hg => ?_) (fun hg => ?_) ?_
    · simp only [gv]
      obtain ⟨u0, us', rfl⟩ : ∃ u0 us', us = u0 :: us' := by
        cases us with
        | nil => simp at lu; omega
        | cons u0 us' => exact ⟨u0, us', rfl⟩
      refine ⟨⟨_, by rw [lstOf_ref', hq6]; exact olP_lst⟩, ?_⟩
      simp only [gv, hq6, olP_lst]
      refine ⟨line_lt (by simp only [List.length_cons] at lu; omega), ?_⟩
      refine KP.mk ⟨u0 :: us' ++ [u0], ⟨_, _, rfl⟩, by simp only [List.length_append, List.length_cons, List.length_nil] at lu ⊢; omega, fun v hv => ?_, ?_, ?_, ?_, fun a o ha e => ?_⟩
      · rcases List.mem_append.mp hv with h | h
        · exact ou v h
        · rw [List.mem_singleton.mp h]; exact ou u0 List.mem_cons_self
      · obtain ⟨a, b, h, h2⟩ := hp6
        exact ⟨a, b, by rw [put_ne qp]; exact h, h2⟩
      · simp only [put_same, List.map_append, List.map_cons, List.cons_append, List.map_nil]
      · rw [put_ne rq]; exact hr6
      · rw [put_ne (sne (b4 a o ha e) hq)]; exact b6 a o ha e
    · simp only [gv]
      exact KP.mk ⟨us, ⟨_, _, rfl⟩, by omega, ou, hp6, hq6, hr6, b6⟩
    rintro σ S7 ⟨us7, ⟨a7, c7, rfl⟩, lu7, ou7, hp7, hq7, hr7, b7⟩
    simp only [gv]
    refine t_ptake hp7 (by omega) (by decide) (by decide) fun h n8 S8 h0 h1 hn8 hp8 e8 => ?_
    have hr8 := but_ex e8 r _ rp hr7
    have hq8 := but_ex e8 q _ (Ne.symm qp) hq7
    have b8 := b7.trans (but_ex e8)
    simp only [gv]
    refine jf (fun (σ : MSt) (S' : Sto) => ∃ (us : List U2) (q : Addr) (n' : Nat), (∃ a b, σ = [some (.ref p), some (.int most), some (.ref r), some (.int w), a, some (.ref q), b]) ∧ us.length ≤ 6 ∧ (∀ u ∈ us, UOk 100 u) ∧ n' ≤ n8 + 4 ∧ PotAt S' p n' ∧ S' q = some (.lst (us.map uD)) ∧ q ≠ p ∧ q ≠ r ∧ S' r = some (.lst (ws.map uwD)) ∧ But p S S') (fun hg => ?_) (fun hg => ?_) ?_
    · simp only [gv]
      refine ⟨p, n8, w, rfl, hp8, by omega, w0, w1, fun q9 us9 n9 S9 lu9 ou9 hn9 hp9 hq0 qp9 b9 hq9 => ?_⟩
      simp only [gv]
      exact KP.mk ⟨us9, q9, n9, ⟨_, _, rfl⟩, by omega, ou9, hn9, hp9, hq9, qp9, (sne hr8 hq0).symm, b9 r _ rp hr8, b8.trans b9⟩
    · simp only [gv]
      exact KP.mk ⟨us7, q, n8, ⟨_, _, rfl⟩, lu7, ou7, by omega, hp8, hq8, Ne.symm qp, Ne.symm rq, hr8, b8⟩
    rintro σ S9 ⟨us9, q9, n9, ⟨a9, c9, rfl⟩, lu9, ou9, hn9, hp9, hq9, qp9, rq9, hr9, b9⟩
    simp only [gv, hr9, olP_lst]
    refine jf_split (fun hl => ?_) (fun hl => ?_)
    · simp only [gv]
      refine ⟨p, r, q9, n9, 10, ws, us9, rfl, hp9, by omega, ⟨by omega, dr.up, dr.ok, dr.fair⟩, by decide, hr9, hq9, rp, qp9, rq9, by omega, ou9, fun ws' n' S' dr' hn' hp' hr' x' => ?_⟩
      simp only [gv]
      refine KP.mk ⟨ws', n', ⟨_, _, _, rfl⟩, dr'.mono (by omega), by omega, hp', hr', fun a o ha e => ?_⟩
      exact x' a o ha (fun z => by rw [z, hr] at e; cases e) (b9 a o ha e)
    · simp only [gv]
      exact KP.mk ⟨ws, n9, ⟨_, _, _, rfl⟩, dr, by omega, hp9, hr9, b9⟩
  · rintro σ S3 ⟨ws, n3, ⟨a, b, c, rfl⟩, dr, hn3, hp3, hr3, b3⟩
    simp only [gv]
    exact k r ws n3 S3 dr (by omega) hp3 hr rp b3 hr3
end FL
set_option maxRecDepth 100000
namespace FL
open PySem PySem.Spec L2 ML
/-! ### tops, and what a law needs of numbered walls -/
def nD (k : Nat) : D := .int (k : Int)
theorem LstK.ext {S S' : Sto} {d : D} {ds : List D} (k : Ext0 S S') (h : LstK S d ds) : LstK S' d ds := by
  cases h with
  | lst => exact .lst
  | ref h => exact .ref (k _ _ h)
theorem plain_n (k : Nat) : D.plain (nD k) = true := rfl
/-! ### squares side by side -/
theorem ufair_comm {a b : UW} (h : ufair a b = true) : ufair b a = true := (ufair_iff _ _).mpr ((ufair_iff _ _).mp h).symm
theorem Drawn.perm {m : Nat} {z : Int} {ws vs : List UW} (h : Drawn m z ws) (p : vs.Perm ws) : Drawn m z vs :=
  ⟨by rw [p.length_eq]; exact h.len, fun w hw => h.up w (p.mem_iff.mp hw), fun w hw => h.lo w (p.mem_iff.mp hw), (p.pairwise_iff fun h => ufair_comm h).mpr h.fair⟩
theorem ext0_put {S : Sto} {p : Addr} {o : MO} (h : S p = none) : Ext0 S (put S p o) := fun q u e => by rw [put_ne (fun z => by rw [z, h] at e; cases e)]; exact e
/-! ### the wall below a spot -/
def wlAt (ws : List Wl) (i : Nat) : Wl := ws.getD i ((0, 0), (0, 0))
theorem wlAt_get {ws : List Wl} {i : Nat} (h : i < ws.length) : ws[i]? = some (wlAt ws i) := by
  unfold wlAt; rw [List.getD_eq_getElem?_getD, List.getElem?_eq_getElem h]; rfl
theorem wlAt_mem {ws : List Wl} {i : Nat} (h : i < ws.length) : wlAt ws i ∈ ws := List.mem_of_getElem? (wlAt_get h)
end FL
set_option maxRecDepth 100000
namespace FL
open PySem PySem.Spec L2 ML
/-! ### moved, mirrored, turned; squares side by side, the second way -/
def wallO (a b : Pt) : Wl := if ahead b a then (b, a) else (a, b)
def mvP (d p : Pt) : Pt := (p.1 + d.1, p.2 + d.2)
def miP (p : Pt) : Pt := (0 - p.1, p.2)
def tuP (p : Pt) : Pt := (0 - p.2, p.1)
def mapW (g : Pt → Pt) (w : Wl) : Wl := wallO (g w.1) (g w.2)
def mvU (k : Int) (f u : U2) : U2 := if k = 0 then (u.1 + f.1, u.2 + f.2) else if k = 1 then (0 - u.1, u.2) else (0 - u.2, u.1)
def mvW (k : Int) (f : U2) (w : UW) : UW := (if ult (mvU k f w.2) (mvU k f w.1) then mvU k f w.2 else mvU k f w.1, if ult (mvU k f w.2) (mvU k f w.1) then mvU k f w.1 else mvU k f w.2)
/-- the frame of what was moved -/
def mvS (k : Int) (s : Sc) : Sc := if k = 0 then s else if k = 1 then ⟨s.t, s.b, 0 - s.x, s.y⟩ else ⟨s.t, s.b, 0 - s.y, s.x⟩
def sp_wall_of : MSp := fun ds S Q _ => ∃ a b : Pt, ds = [spD a, spD b] ∧ BP a 1500 ∧ BP b 1500 ∧ a ≠ b ∧ Q (wlD (wallO a b)) S
def sp_mirrored_spot : MSp := fun ds S Q _ => ∃ p : Pt, ds = [spD p] ∧ BP p 1000 ∧ Q (spD (miP p)) S
def sp_turned_spot : MSp := fun ds S Q _ => ∃ p : Pt, ds = [spD p] ∧ BP p 1000 ∧ Q (spD (tuP p)) S
def sp_moved_spot : MSp := fun ds S Q _ => ∃ p d : Pt, ds = [spD p, spD d] ∧ BP p 700 ∧ BP d 700 ∧ Q (spD (mvP d p)) S
def sp_moved : MSp := fun ds S Q _ => ∃ (ws : List Wl) (d : Pt), ds = [.tup (ws.map wlD), spD d] ∧ ws.length ≤ 1000 ∧ (∀ w ∈ ws, BW w 700 ∧ w.1 ≠ w.2) ∧ BP d 700 ∧ Q (.tup ((ws.map (mapW (mvP d))).map wlD)) S
def sp_mirrored : MSp := fun ds S Q _ => ∃ ws : List Wl, ds = [.tup (ws.map wlD)] ∧ ws.length ≤ 1000 ∧ (∀ w ∈ ws, BW w 1000 ∧ w.1 ≠ w.2) ∧ Q (.tup ((ws.map (mapW miP)).map wlD)) S
def sp_turned : MSp := fun ds S Q _ => ∃ ws : List Wl, ds = [.tup (ws.map wlD)] ∧ ws.length ≤ 1000 ∧ (∀ w ∈ ws, BW w 1000 ∧ w.1 ≠ w.2) ∧ Q (.tup ((ws.map (mapW tuP)).map wlD)) S
def sp_in_order : MSp := fun ds S Q _ => ∃ (ws : List Wl) (d : D) (ms : List Nat), ds = [.tup (ws.map wlD), d] ∧ SeqK S d (ms.map nD) ∧ ms.length ≤ 1000 ∧ (∀ i ∈ ms, i < ws.length) ∧ Q (.tup ((ms.map (wlAt ws)).map wlD)) S
def sp_umoved_spot : MSp := fun ds S Q _ => ∃ (k : Int) (f u : U2), ds = [uD u, .int k, uD f] ∧ Q (uD (mvU k f u)) S
def sp_umoved_shuts : MSp := fun ds S Q _ => ∃ (d : D) (ws : List UW) (k : Int) (f : U2), ds = [d, .int k, uD f] ∧ LstK S d (ws.map uwD) ∧ ws.length ≤ 500 ∧ (∀ w ∈ ws, w.1 ≠ w.2) ∧
  ∀ (q : Addr) (S' : Sto), Ext0 S S' → S q = none → S' q = some (.lst ((ws.map (mvW k f)).map uwD)) → Q (.ref q) S'
def sp_frames : MSp := fun ds S Q _ => ∃ (p : Addr) (n : Nat) (k : Int), ds = [.ref p, .int k] ∧ PotAt S p n ∧ n < 2 ^ 50 ∧
  ∀ (s : Sc) (n' : Nat) (S' : Sto), ScOk s → n' ≤ n + 5 → PotAt S' p n' → But p S S' → Q (.tup [scD s, .lst [scD (mvS 0 s), scD (mvS 1 s), scD (mvS 2 s)]]) S'
def sp_border : MSp := fun ds S Q _ => ∃ (p : Addr) (n many : Nat), ds = [.ref p, .int many] ∧ PotAt S p n ∧ n < 2 ^ 50 ∧ many ≤ 500 ∧
  ∀ (q : Addr) (ms : List Nat) (n' : Nat) (S' : Sto), ms.Perm (List.range many) → n' ≤ n + many → PotAt S' p n' → S q = none → q ≠ p → But p S S' → S' q = some (.lst (ms.map nD)) → Q (.ref q) S'
def bsV (m : Nat) : List UW := (List.range (m + 1)).map fun (k : Nat) => ((12 * (k : Int), 0), (12 * (k : Int), 12))
def bsQ (m i : Nat) : List UW := bsV m ++ ((List.range i).map fun (k : Nat) => ([((12 * (k : Int), 0), (12 * (k : Int) + 12, 0)), ((12 * (k : Int), 12), (12 * (k : Int) + 12, 12))] : List UW)).flatten
theorem bsq_drawn {m : Nat} (h1 : 6 ≤ m) (h2 : m ≤ 13) : Drawn 40 200 (bsQ m m) := by
  rcases (by omega : m = 6 ∨ m = 7 ∨ m = 8 ∨ m = 9 ∨ m = 10 ∨ m = 11 ∨ m = 12 ∨ m = 13) with rfl | rfl | rfl | rfl | rfl | rfl | rfl | rfl <;> exact ⟨by decide, by decide +kernel, by decide +kernel, by decide +kernel⟩
def sp_bsquares : MSp := fun ds S Q _ => ∃ (p : Addr) (n most : Nat), ds = [.ref p, .int most] ∧ PotAt S p n ∧ n < 2 ^ 50 ∧ 6 ≤ most ∧ most ≤ 13 ∧
  ∀ (d : D) (ws : List UW) (n' : Nat) (S' : Sto), Drawn 40 200 ws → 19 ≤ ws.length → n' ≤ n + 100 → PotAt S' p n' → LstK S' d (ws.map uwD) → d ≠ .ref p → (∀ r, d = .ref r → S r = none) → But p S S' → Q d S'
end FL
set_option maxRecDepth 100000
namespace FL
open PySem PySem.Spec L2 ML
def b_umoved_spot : MS := (mSeq (mIfS (mTst (mOp rEqM (mVar 1) (mC (.int 0)))) (mRet (mTup (mCons (mOp rAdd (mOp rIxM (mVar 0) (mC (.int 0))) (mOp rIxM (mVar 2) (mC (.int 0)))) (mCons (mOp rAdd (mOp rIxM (mVar 0) (mC (.int 1))) (mOp rIxM (mVar 2) (mC (.int 1)))) mNil)))) mNext)
  (mSeq (mIfS (mTst (mOp rEqM (mVar 1) (mC (.int 1)))) (mRet (mTup (mCons (mOp rSub (mC (.int 0)) (mOp rIxM (mVar 0) (mC (.int 0)))) (mCons (mOp rIxM (mVar 0) (mC (.int 1))) mNil)))) mNext)
  (mRet (mTup (mCons (mOp rSub (mC (.int 0)) (mOp rIxM (mVar 0) (mC (.int 1)))) (mCons (mOp rIxM (mVar 0) (mC (.int 0))) mNil))))))
def b_in_order : MS := (mRet (mBlt bTuple (mCons (mCompF (iS (mVar 1)) (gNm 2) mYes (mOp rIxM (mVar 0) (mVar 2)) [2]) mNil)))
def b_border : MS := (mSeq (mSet 2 (mLst mNil))
  (mSeq (mFor (iR1 (mCons (mVar 1) mNil)) (gNm 3) (mExpr (mMt mtInsert (mVar 2) (mCons (mCall FL.sp_ptake (mCons (mVar 0) (mCons (mOp rAdd (mVar 3) (mC (.int 1))) mNil))) (mCons (mVar 3) mNil)))))
  (mRet (mVar 2))))
def b_bsquares : MS := (mSeq (mSet 2 (mOp rAdd (mC (.int 6)) (mCall FL.sp_ptake (mCons (mVar 0) (mCons (mOp rSub (mVar 1) (mC (.int 5))) mNil)))))
  (mSeq (mSet 3 (mComp (iR1 (mCons (mOp rAdd (mVar 2) (mC (.int 1))) mNil)) (gNm 4) mYes (mTup (mCons (mTup (mCons (mOp rMul (mC (.int 12)) (mVar 4)) (mCons (mC (.int 0)) mNil))) (mCons (mTup (mCons (mOp rMul (mC (.int 12)) (mVar 4)) (mCons (mC (.int 12)) mNil))) mNil))) [4]))
  (mSeq (mFor (iR1 (mCons (mVar 2) mNil)) (gNm 4) (mSet 3 (mOp rAdd (mVar 3) (mCompF (iS (mTup (mCons (mC (.int 0)) (mCons (mC (.int 12)) mNil)))) (gNm 5) mYes (mTup (mCons (mTup (mCons (mOp rMul (mC (.int 12)) (mVar 4)) (mCons (mVar 5) mNil))) (mCons (mTup (mCons (mOp rAdd (mOp rMul (mC (.int 12)) (mVar 4)) (mC (.int 12))) (mCons (mVar 5) mNil))) mNil))) [5]))))
  (mSeq (mIfS (mTst (mOp rEqM (mCall FL.sp_ptake (mCons (mVar 0) (mCons (mC (.int 2)) mNil))) (mC (.int 0)))) (mRet (mVar 3)) mNext)
  (mSeq (mSet 6 (mLst mNil))
  (mSeq (mFor (iS (mVar 3)) (gNm 7) (mExpr (mMt mtInsert (mVar 6) (mCons (mCall FL.sp_ptake (mCons (mVar 0) (mCons (mOp rAdd (mBlt bLen (mCons (mVar 6) mNil)) (mC (.int 1))) mNil))) (mCons (mVar 7) mNil)))))
  (mRet (mVar 6))))))))
def b_umoved_shuts : MS := (mSeq (mSet 3 (mLst mNil))
  (mSeq (mFor (iS (mVar 0)) (gNm 4) (mSeq (mSet 5 (mComp (iS (mVar 4)) (gNm 6) mYes (mCall FL.sp_umoved_spot (mCons (mVar 6) (mCons (mVar 1) (mCons (mVar 2) mNil)))) [6]))
  (mExpr (mMt mtAppend (mVar 3) (mCons (mTup (mCons (mBlt bMinU (mCons (mVar 5) mNil)) (mCons (mBlt bMaxU (mCons (mVar 5) mNil)) mNil))) mNil)))))
  (mRet (mVar 3))))
def b_frames : MS := (mSeq (mAsg (mCall FL.sp_frame (mCons (mVar 0) (mCons (mVar 1) mNil))) (gTp 4 (gCn (gNm 2) (gCn (gNm 3) (gCn (gNm 4) (gCn (gNm 5) gNl))))))
  (mRet (mTup (mCons (mTup (mCons (mVar 2) (mCons (mVar 3) (mCons (mVar 4) (mCons (mVar 5) mNil))))) (mCons (mLstF (mCons (mTup (mCons (mVar 2) (mCons (mVar 3) (mCons (mVar 4) (mCons (mVar 5) mNil))))) (mCons (mTup (mCons (mVar 2) (mCons (mVar 3) (mCons (mOp rSub (mC (.int 0)) (mVar 4)) (mCons (mVar 5) mNil))))) (mCons (mTup (mCons (mVar 2) (mCons (mVar 3) (mCons (mOp rSub (mC (.int 0)) (mVar 5)) (mCons (mVar 4) mNil))))) mNil)))) mNil)))))
def b_wall_of : MS := (mSeq (mIfS (mTst (mOp rEqM (mVar 0) (mVar 1))) mNever mNext)
  (mSeq (mIfS (mTru (mCall FL.sp_is_ahead (mCons (mVar 1) (mCons (mVar 0) mNil)))) (mRet (mTup (mCons (mVar 1) (mCons (mVar 0) mNil)))) mNext)
  (mRet (mTup (mCons (mVar 0) (mCons (mVar 1) mNil))))))
def b_mirrored_spot : MS := (mRet (mTup (mCons (mCall FL.sp_less (mCons (mC (.tup [.int 0, .int 1])) (mCons (mOp rIxM (mVar 0) (mC (.int 0))) mNil))) (mCons (mOp rIxM (mVar 0) (mC (.int 1))) mNil))))
def b_turned_spot : MS := (mRet (mTup (mCons (mCall FL.sp_less (mCons (mC (.tup [.int 0, .int 1])) (mCons (mOp rIxM (mVar 0) (mC (.int 1))) mNil))) (mCons (mOp rIxM (mVar 0) (mC (.int 0))) mNil))))
def b_moved_spot : MS := (mRet (mTup (mCons (mCall FL.sp_plus (mCons (mOp rIxM (mVar 0) (mC (.int 0))) (mCons (mOp rIxM (mVar 1) (mC (.int 0))) mNil))) (mCons (mCall FL.sp_plus (mCons (mOp rIxM (mVar 0) (mC (.int 1))) (mCons (mOp rIxM (mVar 1) (mC (.int 1))) mNil))) mNil))))
def b_moved : MS := (mRet (mBlt bTuple (mCons (mCompF (iS (mVar 0)) (gTp 2 (gCn (gNm 2) (gCn (gNm 3) gNl))) mYes (mCall FL.sp_wall_of (mCons (mCall FL.sp_moved_spot (mCons (mVar 2) (mCons (mVar 1) mNil))) (mCons (mCall FL.sp_moved_spot (mCons (mVar 3) (mCons (mVar 1) mNil))) mNil))) [2, 3]) mNil)))
def b_mirrored : MS := (mRet (mBlt bTuple (mCons (mCompF (iS (mVar 0)) (gTp 2 (gCn (gNm 1) (gCn (gNm 2) gNl))) mYes (mCall FL.sp_wall_of (mCons (mCall FL.sp_mirrored_spot (mCons (mVar 1) mNil)) (mCons (mCall FL.sp_mirrored_spot (mCons (mVar 2) mNil)) mNil))) [1, 2]) mNil)))
def b_turned : MS := (mRet (mBlt bTuple (mCons (mCompF (iS (mVar 0)) (gTp 2 (gCn (gNm 1) (gCn (gNm 2) gNl))) mYes (mCall FL.sp_wall_of (mCons (mCall FL.sp_turned_spot (mCons (mVar 1) mNil)) (mCons (mCall FL.sp_turned_spot (mCons (mVar 2) mNil)) mNil))) [1, 2]) mNil)))
end FL
-- FLQ        
set_option maxRecDepth 100000
set_option maxHeartbeats 4000000
namespace FL
-- counts /tmp/scratch/dev/N_lib19.json
open PySem PySem.Spec L2 ML
local macro_rules | `(tactic| simp $c:optConfig $[$d:discharger]? only [gv] $[$l:location]?) => `(tactic| simp $c $[$d]? only [↓ML.q_mSeq, ↓ML.q_mC, ↓ML.q_mOp, ↓ML.q_mUn, ↓ML.q_mTst, ↓ML.q_mNot, ↓ML.q_mNotV, ↓ML.q_mRet, ↓ML.q_mRetN, ↓ML.q_mExpr, ↓ML.q_mNext, ↓ML.q_mBreak, ↓ML.q_mCont, ↓ML.q_mAsg, ↓ML.q_gSb, ↓ML.q_mTup, ↓ML.q_mLst, ↓ML.q_mLstF, ↓ML.q_mCons, ↓ML.q_mNil, ↓ML.q_mBlt, ↓ML.q_rEqM, ↓ML.q_rNeM, ↓ML.q_iR1, ↓ML.q_iR2, ↓ML.q_iEn, ↓ML.q_iZp, ↓ML.q_mMt, ↓ML.q_mMt0, ↓ML.q_mYes, ↓ML.q_mCut, ↓ML.q_oNo, ↓ML.q_oSo, ↓ML.l_mCall, ↓ML.l_mAnd, ↓ML.l_mOr, ↓ML.l_mAndV, ↓ML.l_mOrV, ↓ML.l_mIf, ↓ML.l_mIfS, ↓ML.l_mChain, ↓ML.l_mVar, ↓ML.l_mFor, ↓ML.l_mWhile, ↓ML.l_mComp, ↓ML.l_mCompF, ↓ML.l_optP, ↓ML.l_Go, ↓ML.Hold_v, ↓ML.l_mSet, ↓ML.l_gNm, ↓ML.l_mPar, ↓ML.l_rIxM, ↓ML.l_rSetM, ↓ML.l_rInt, ↓ML.l_rInt0, ↓ML.l_rAdd_int, ↓ML.l_rAdd_str, ↓ML.l_rAdd_tup, ↓ML.l_rNeg, ↓ML.l_rIsN, ↓ML.l_rNotN, ↓ML.l_rIsBM, ↓ML.l_mTru, ↓ML.l_bLen, ↓ML.l_bAbs, ↓ML.l_bMax2, ↓ML.l_bMin2, ↓ML.l_bInt_i, ↓ML.l_bInt_b, ↓ML.l_bTuple, ↓ML.l_bListF, ↓ML.l_bList, ↓ML.l_mIsi, ↓ML.l_iL, ↓ML.l_iT, ↓ML.l_gTp, ↓ML.l_gLs, ↓ML.l_gCn, ↓ML.l_gNl, ↓ML.l_mtAppend, ML.Hold_v, ML.l_mVar_z, ML.l_mVar_s, ML.OptP_some, ML.Go_eq, ML.IteP_true, ML.IteP_false, ML.lstOf_ref', ML.lstOf_lst, ML.lstOf_scr, ML.lstOf_tup, ML.ownOf_ref', ML.ownOf_lst, ML.seqOf_tup', ML.seqOf_lst', ML.seqOf_scr', ML.seqOf_ref', ML.olP_lst, ML.tupOf_tup, ML.ixL_lit, ML.ixL_cast, ML.ixL_m1, ML.setAt_lit, ML.setAt_cast, ML.truD_bl, ML.truD_int, ML.truD_tup, ML.truD_lst, ML.truD_scr, ML.truD_non, ML.lenD_tup, ML.lenD_lst, ML.lenD_scr, ML.lenD_ref, ML.tyD_non, ML.tyD_bl, ML.tyD_int, ML.tyD_str, ML.tyD_tup, ML.tyD_lst, ML.szl, ML.szlt, ML.cpow_lit, ML.mulok_rl, ML.mulok_ll, ML.divok_l, ML.put_same, ML.put_put, ML.q_wipeM, ML.deq_int, ML.deq_bl, ML.deq_str, ML.deq_non, ML.eqOk_int, ML.eqOk_bl, ML.isTy_NoneType_int, ML.isTy_NoneType_bool, ML.isTy_NoneType_tuple, ML.isTy_NoneType_list, ML.isTy_NoneType_str, ML.isTy_bool_int, ML.isTy_bool_bool, ML.isTy_bool_tuple, ML.isTy_bool_list, ML.isTy_bool_str, ML.isTy_int_int, ML.isTy_int_bool, ML.isTy_int_tuple, ML.isTy_int_list, ML.isTy_int_str, ML.isTy_str_int, ML.isTy_str_bool, ML.isTy_str_tuple, ML.isTy_str_list, ML.isTy_str_str, ML.isTy_tuple_int, ML.isTy_tuple_bool, ML.isTy_tuple_tuple, ML.isTy_tuple_list, ML.isTy_tuple_str, ML.isTy_list_int, ML.isTy_list_bool, ML.isTy_list_tuple, ML.isTy_list_list, ML.isTy_list_str, ML.isTy_dict_int, ML.isTy_dict_bool, ML.isTy_dict_tuple, ML.isTy_dict_list, ML.isTy_dict_str, FL.tup_fr, FL.tup_sp, FL.tup_wl, FL.tupOf_fr, FL.tupOf_sp, FL.tupOf_wl, FL.nz0, FL.nz1, FL.nz2, FL.nz3, FL.look_non, FL.look_int, FL.look_bl, FL.look_str, FL.look_tup, FL.look_lst, FL.look_scr, FL.seqOf_fr, FL.seqOf_sp, FL.seqOf_wl, FL.look_fr, FL.look_sp, FL.look_wl, FL.eqOk_fr, FL.eqOk_sp, FL.eqOk_wl, FL.deq_fr, FL.deq_sp, FL.deq_wl, FL.tyD_fr, FL.tyD_sp, FL.tyD_wl, FL.isN_fr, FL.isN_sp, FL.isN_wl, FL.lenD_sp, FL.lenD_wl, FL.rAdd_wl_tup, List.length_map, List.map_cons, List.map_nil, List.replicate, List.set_cons_zero, List.set_cons_succ, List.getElem?_cons_zero, List.getElem?_cons_succ, List.cons_append, List.nil_append, List.length_cons, List.length_nil, Option.bind_some, Option.map_some, ↓reduceIte, Nat.reduceAdd, Nat.reduceSub, Nat.reduceLT, Nat.reduceLeDiff, Nat.zero_add, decide_eq_true_eq, Bool.not_eq_true, ne_eq, reduceCtorEq, not_false_eq_true, true_and, and_true, Bool.false_eq_true, Bool.not_true, Bool.not_false, decide_true, decide_false, not_true_eq_false, eq_self, Bool.not_eq_eq_eq_not, if_true, if_false, decide_eq_false_iff_not, ML.ncast, Int.reduceToNat, Int.reducePow, Int.reduceAdd, Int.reduceSub, Int.reduceMul, Int.reduceNeg, Int.reduceLT, Int.reduceLE, Int.reduceEq, Nat.reduceEqDiff, Int.zero_add, gt_iff_lt, beq_self_eq_true, Bool.true_beq, Bool.false_beq, Bool.and_true, Bool.and_false, Bool.true_and, Bool.false_and, ↓ML.l_mtInsert, ↓ML.l_mtReverse, ↓ML.l_mtClear, ↓ML.l_bSortU, ↓ML.q_mMt0, ↓ML.l_bMaxL, ↓ML.l_bMinL, ↓ML.l_aLt_int, ↓ML.l_aLt_u, ↓ML.l_aGt_int, ↓ML.l_aGt_u, ↓ML.l_aLe_int, ↓ML.l_aLe_u, ↓ML.l_aGe_int, ↓ML.l_aGe_u, ↓ML.l_bMaxA_int, ↓ML.l_bMaxA_u, ↓ML.l_bMinA_int, ↓ML.l_bMinA_u, ML.tup_u, ML.tupOf_u, ML.seqOf_u, ML.sqI_u, ML.look_u, ML.isN_u, ML.lenD_u, ML.tyD_u, ML.tup_uw, ML.tupOf_uw, ML.seqOf_uw, ML.sqI_uw, ML.look_uw, ML.isN_uw, ML.lenD_uw, ML.tyD_uw, ML.eqOk_u, ML.eqOk_uw, ML.deq_u, ML.deq_uw, ML.in_uw, ↓ML.l_mRaise, ↓ML.l_mTry, ↓ML.l_mIsE, ↓ML.l_mIsV, ↓ML.l_mtCount, ↓ML.l_rAddS_rl, ↓ML.l_rAddS_ll, ML.excD_ref, ML.excOf_exc, ML.blsOf_nil, ML.blsOf_cons, ML.endM_nx, ML.endM_rt, ↓ML.l_mYes, ↓ML.l_iS, ↓ML.l_mIfJ, ↓ML.l_mJ, ↓ML.CrollP_nil, ↓ML.CrollP_cons, ↓ML.CrA_at, ↓ML.FrollP_nil, ↓ML.FrollP_cons, ML.isN_non, ML.isN_int, ML.isN_bl, ML.isN_str, ML.isN_tup, ML.isN_lst, ML.isN_ref, ML.sqI_tup, ML.sqI_lst, ML.sqI_scr, ML.sqI_ref, ML.sqI_at, ML.rngD_0, ML.rngD_1, ML.rngD_2, ML.rngD_3, ML.rngD_4, ML.rngD_6, ML.q_wipeM_nil, ML.q_wipeM_cons, FL.sqI_sp, FL.sqI_wl, FL.l_rAdd_rl, FL.l_rAdd_ll, FL.l_rAdd_lr, FL.l_rAdd_rr, FL.in_ints, FL.in_lu, ↓ML.l_mListR, ↓ML.l_mDIn, ↓ML.l_mDPut, ↓ML.l_mDNew, ML.dtD_ref, ML.dtO_dT, ML.keysD_nil, ML.keysD_int, ↓ML.l_mRev2, ↓ML.l_bSum, ↓ML.l_iEnT, ↓ML.l_mSortSet, ↓ML.l_mSNew, ↓ML.l_mSGet, ↓ML.l_mSSetd, ↓ML.l_mKNew, ↓ML.l_mKIn, ↓ML.l_mKGet, ↓ML.l_mKPut, ML.dsD_ref, ML.dsO_dS, ML.dkD_ref, ML.dkO_dK, ML.keyD_i, ↓ML.l_rRepS_l, ↓ML.l_rInX, ↓ML.l_mtIndexX, ↓ML.l_bMinU, ↓ML.l_bMaxU, ↓ML.l_bReprO, ↓ML.l_rEqS, ↓ML.l_bSortI, ↓ML.l_rNeX] $[$l]?)
local macro_rules | `(tactic| simp $c:optConfig $[$d:discharger]? only [gv, $ls,*] $[$l:location]?) => `(tactic| simp $c $[$d]? only [↓ML.q_mSeq, ↓ML.q_mC, ↓ML.q_mOp, ↓ML.q_mUn, ↓ML.q_mTst, ↓ML.q_mNot, ↓ML.q_mNotV, ↓ML.q_mRet, ↓ML.q_mRetN, ↓ML.q_mExpr, ↓ML.q_mNext, ↓ML.q_mBreak, ↓ML.q_mCont, ↓ML.q_mAsg, ↓ML.q_gSb, ↓ML.q_mTup, ↓ML.q_mLst, ↓ML.q_mLstF, ↓ML.q_mCons, ↓ML.q_mNil, ↓ML.q_mBlt, ↓ML.q_rEqM, ↓ML.q_rNeM, ↓ML.q_iR1, ↓ML.q_iR2, ↓ML.q_iEn, ↓ML.q_iZp, ↓ML.q_mMt, ↓ML.q_mMt0, ↓ML.q_mYes, ↓ML.q_mCut, ↓ML.q_oNo, ↓ML.q_oSo, ↓ML.l_mCall, ↓ML.l_mAnd, ↓ML.l_mOr, ↓ML.l_mAndV, ↓ML.l_mOrV, ↓ML.l_mIf, ↓ML.l_mIfS, ↓ML.l_mChain, ↓ML.l_mVar, ↓ML.l_mFor, ↓ML.l_mWhile, ↓ML.l_mComp, ↓ML.l_mCompF, ↓ML.l_optP, ↓ML.l_Go, ↓ML.Hold_v, ↓ML.l_mSet, ↓ML.l_gNm, ↓ML.l_mPar, ↓ML.l_rIxM, ↓ML.l_rSetM, ↓ML.l_rInt, ↓ML.l_rInt0, ↓ML.l_rAdd_int, ↓ML.l_rAdd_str, ↓ML.l_rAdd_tup, ↓ML.l_rNeg, ↓ML.l_rIsN, ↓ML.l_rNotN, ↓ML.l_rIsBM, ↓ML.l_mTru, ↓ML.l_bLen, ↓ML.l_bAbs, ↓ML.l_bMax2, ↓ML.l_bMin2, ↓ML.l_bInt_i, ↓ML.l_bInt_b, ↓ML.l_bTuple, ↓ML.l_bListF, ↓ML.l_bList, ↓ML.l_mIsi, ↓ML.l_iL, ↓ML.l_iT, ↓ML.l_gTp, ↓ML.l_gLs, ↓ML.l_gCn, ↓ML.l_gNl, ↓ML.l_mtAppend, ML.Hold_v, ML.l_mVar_z, ML.l_mVar_s, ML.OptP_some, ML.Go_eq, ML.IteP_true, ML.IteP_false, ML.lstOf_ref', ML.lstOf_lst, ML.lstOf_scr, ML.lstOf_tup, ML.ownOf_ref', ML.ownOf_lst, ML.seqOf_tup', ML.seqOf_lst', ML.seqOf_scr', ML.seqOf_ref', ML.olP_lst, ML.tupOf_tup, ML.ixL_lit, ML.ixL_cast, ML.ixL_m1, ML.setAt_lit, ML.setAt_cast, ML.truD_bl, ML.truD_int, ML.truD_tup, ML.truD_lst, ML.truD_scr, ML.truD_non, ML.lenD_tup, ML.lenD_lst, ML.lenD_scr, ML.lenD_ref, ML.tyD_non, ML.tyD_bl, ML.tyD_int, ML.tyD_str, ML.tyD_tup, ML.tyD_lst, ML.szl, ML.szlt, ML.cpow_lit, ML.mulok_rl, ML.mulok_ll, ML.divok_l, ML.put_same, ML.put_put, ML.q_wipeM, ML.deq_int, ML.deq_bl, ML.deq_str, ML.deq_non, ML.eqOk_int, ML.eqOk_bl, ML.isTy_NoneType_int, ML.isTy_NoneType_bool, ML.isTy_NoneType_tuple, ML.isTy_NoneType_list, ML.isTy_NoneType_str, ML.isTy_bool_int, ML.isTy_bool_bool, ML.isTy_bool_tuple, ML.isTy_bool_list, ML.isTy_bool_str, ML.isTy_int_int, ML.isTy_int_bool, ML.isTy_int_tuple, ML.isTy_int_list, ML.isTy_int_str, ML.isTy_str_int, ML.isTy_str_bool, ML.isTy_str_tuple, ML.isTy_str_list, ML.isTy_str_str, ML.isTy_tuple_int, ML.isTy_tuple_bool, ML.isTy_tuple_tuple, ML.isTy_tuple_list, ML.isTy_tuple_str, ML.isTy_list_int, ML.isTy_list_bool, ML.isTy_list_tuple, ML.isTy_list_list, ML.isTy_list_str, ML.isTy_dict_int, ML.isTy_dict_bool, ML.isTy_dict_tuple, ML.isTy_dict_list, ML.isTy_dict_str, FL.tup_fr, FL.tup_sp, FL.tup_wl, FL.tupOf_fr, FL.tupOf_sp, FL.tupOf_wl, FL.nz0, FL.nz1, FL.nz2, FL.nz3, FL.look_non, FL.look_int, FL.look_bl, FL.look_str, FL.look_tup, FL.look_lst, FL.look_scr, FL.seqOf_fr, FL.seqOf_sp, FL.seqOf_wl, FL.look_fr, FL.look_sp, FL.look_wl, FL.eqOk_fr, FL.eqOk_sp, FL.eqOk_wl, FL.deq_fr, FL.deq_sp, FL.deq_wl, FL.tyD_fr, FL.tyD_sp, FL.tyD_wl, FL.isN_fr, FL.isN_sp, FL.isN_wl, FL.lenD_sp, FL.lenD_wl, FL.rAdd_wl_tup, List.length_map, List.map_cons, List.map_nil, List.replicate, List.set_cons_zero, List.set_cons_succ, List.getElem?_cons_zero, List.getElem?_cons_succ, List.cons_append, List.nil_append, List.length_cons, List.length_nil, Option.bind_some, Option.map_some, ↓reduceIte, Nat.reduceAdd, Nat.reduceSub, Nat.reduceLT, Nat.reduceLeDiff, Nat.zero_add, decide_eq_true_eq, Bool.not_eq_true, ne_eq, reduceCtorEq, not_false_eq_true, true_and, and_true, Bool.false_eq_true, Bool.not_true, Bool.not_false, decide_true, decide_false, not_true_eq_false, eq_self, Bool.not_eq_eq_eq_not, if_true, if_false, decide_eq_false_iff_not, ML.ncast, Int.reduceToNat, Int.reducePow, Int.reduceAdd, Int.reduceSub, Int.reduceMul, Int.reduceNeg, Int.reduceLT, Int.reduceLE, Int.reduceEq, Nat.reduceEqDiff, Int.zero_add, gt_iff_lt, beq_self_eq_true, Bool.true_beq, Bool.false_beq, Bool.and_true, Bool.and_false, Bool.true_and, Bool.false_and, ↓ML.l_mtInsert, ↓ML.l_mtReverse, ↓ML.l_mtClear, ↓ML.l_bSortU, ↓ML.q_mMt0, ↓ML.l_bMaxL, ↓ML.l_bMinL, ↓ML.l_aLt_int, ↓ML.l_aLt_u, ↓ML.l_aGt_int, ↓ML.l_aGt_u, ↓ML.l_aLe_int, ↓ML.l_aLe_u, ↓ML.l_aGe_int, ↓ML.l_aGe_u, ↓ML.l_bMaxA_int, ↓ML.l_bMaxA_u, ↓ML.l_bMinA_int, ↓ML.l_bMinA_u, ML.tup_u, ML.tupOf_u, ML.seqOf_u, ML.sqI_u, ML.look_u, ML.isN_u, ML.lenD_u, ML.tyD_u, ML.tup_uw, ML.tupOf_uw, ML.seqOf_uw, ML.sqI_uw, ML.look_uw, ML.isN_uw, ML.lenD_uw, ML.tyD_uw, ML.eqOk_u, ML.eqOk_uw, ML.deq_u, ML.deq_uw, ML.in_uw, ↓ML.l_mRaise, ↓ML.l_mTry, ↓ML.l_mIsE, ↓ML.l_mIsV, ↓ML.l_mtCount, ↓ML.l_rAddS_rl, ↓ML.l_rAddS_ll, ML.excD_ref, ML.excOf_exc, ML.blsOf_nil, ML.blsOf_cons, ML.endM_nx, ML.endM_rt, ↓ML.l_mYes, ↓ML.l_iS, ↓ML.l_mIfJ, ↓ML.l_mJ, ↓ML.CrollP_nil, ↓ML.CrollP_cons, ↓ML.CrA_at, ↓ML.FrollP_nil, ↓ML.FrollP_cons, ML.isN_non, ML.isN_int, ML.isN_bl, ML.isN_str, ML.isN_tup, ML.isN_lst, ML.isN_ref, ML.sqI_tup, ML.sqI_lst, ML.sqI_scr, ML.sqI_ref, ML.sqI_at, ML.rngD_0, ML.rngD_1, ML.rngD_2, ML.rngD_3, ML.rngD_4, ML.rngD_6, ML.q_wipeM_nil, ML.q_wipeM_cons, FL.sqI_sp, FL.sqI_wl, FL.l_rAdd_rl, FL.l_rAdd_ll, FL.l_rAdd_lr, FL.l_rAdd_rr, FL.in_ints, FL.in_lu, ↓ML.l_mListR, ↓ML.l_mDIn, ↓ML.l_mDPut, ↓ML.l_mDNew, ML.dtD_ref, ML.dtO_dT, ML.keysD_nil, ML.keysD_int, ↓ML.l_mRev2, ↓ML.l_bSum, ↓ML.l_iEnT, ↓ML.l_mSortSet, ↓ML.l_mSNew, ↓ML.l_mSGet, ↓ML.l_mSSetd, ↓ML.l_mKNew, ↓ML.l_mKIn, ↓ML.l_mKGet, ↓ML.l_mKPut, ML.dsD_ref, ML.dsO_dS, ML.dkD_ref, ML.dkO_dK, ML.keyD_i, ↓ML.l_rRepS_l, ↓ML.l_rInX, ↓ML.l_mtIndexX, ↓ML.l_bMinU, ↓ML.l_bMaxU, ↓ML.l_bReprO, ↓ML.l_rEqS, ↓ML.l_bSortI, ↓ML.l_rNeX, $ls,*] $[$l]?)
theorem l_umoved_spot : ∀ ds S Q E, FL.sp_umoved_spot ds S Q E → ds.length = 3 := by rintro _ _ _ _ ⟨_, _, _, rfl, _⟩; rfl
theorem l_in_order : ∀ ds S Q E, FL.sp_in_order ds S Q E → ds.length = 2 := by rintro _ _ _ _ ⟨_, _, _, rfl, _⟩; rfl
theorem l_border : ∀ ds S Q E, FL.sp_border ds S Q E → ds.length = 2 := by rintro _ _ _ _ ⟨_, _, _, rfl, _⟩; rfl
theorem l_bsquares : ∀ ds S Q E, FL.sp_bsquares ds S Q E → ds.length = 2 := by rintro _ _ _ _ ⟨_, _, _, rfl, _⟩; rfl
theorem l_umoved_shuts : ∀ ds S Q E, FL.sp_umoved_shuts ds S Q E → ds.length = 3 := by rintro _ _ _ _ ⟨_, _, _, _, rfl, _⟩; rfl
theorem l_frames : ∀ ds S Q E, FL.sp_frames ds S Q E → ds.length = 2 := by rintro _ _ _ _ ⟨_, _, _, rfl, _⟩; rfl
theorem l_wall_of : ∀ ds S Q E, FL.sp_wall_of ds S Q E → ds.length = 2 := by rintro _ _ _ _ ⟨_, _, rfl, _⟩; rfl
theorem l_mirrored_spot : ∀ ds S Q E, FL.sp_mirrored_spot ds S Q E → ds.length = 1 := by rintro _ _ _ _ ⟨_, rfl, _⟩; rfl
theorem l_turned_spot : ∀ ds S Q E, FL.sp_turned_spot ds S Q E → ds.length = 1 := by rintro _ _ _ _ ⟨_, rfl, _⟩; rfl
theorem l_moved_spot : ∀ ds S Q E, FL.sp_moved_spot ds S Q E → ds.length = 2 := by rintro _ _ _ _ ⟨_, _, rfl, _⟩; rfl
theorem l_moved : ∀ ds S Q E, FL.sp_moved ds S Q E → ds.length = 2 := by rintro _ _ _ _ ⟨_, _, rfl, _⟩; rfl
theorem l_mirrored : ∀ ds S Q E, FL.sp_mirrored ds S Q E → ds.length = 1 := by rintro _ _ _ _ ⟨_, rfl, _⟩; rfl
theorem l_turned : ∀ ds S Q E, FL.sp_turned ds S Q E → ds.length = 1 := by rintro _ _ _ _ ⟨_, rfl, _⟩; rfl
theorem fr0 : uD (0, 1) = fr 0 := rfl
theorem LstK.itr {S : Sto} {d : D} {ds : List D} (h : LstK S d ds) : ∃ G : Sto → Prop, sqI S d = some (ds, G) ∧ ∀ S', LstK S' d ds → G S' := by
  cases h with
  | lst => exact ⟨_, rfl, fun _ _ => trivial⟩
  | ref h =>
    refine ⟨_, sqI_at h, fun S' h' => ?_⟩
    cases h' with
    | ref h' => show olP _ = _; rw [h']; rfl
theorem r_wall_of : ∀ ds S Q E, FL.sp_wall_of ds S Q E → b_wall_of (mends Q E) (mstart 0 ds) S := by
  rintro _ S Q E ⟨a, b, rfl, ha, hb, ne, k⟩
  unfold b_wall_of
  simp only [ML.q_mstart, ML.q_mends, List.map_cons, List.map_nil, List.replicate, List.cons_append, List.nil_append]
  simp only [gv, ne]
  simp (disch := omega) only [gv, c_is_ahead]
  refine ⟨fun h => ?_, fun h => ?_⟩
  · simp only [gv]
    unfold wallO at k; rw [if_pos h] at k; exact k
  · simp only [gv]
    unfold wallO at k; rw [if_neg h] at k; exact k
theorem r_mirrored_spot : ∀ ds S Q E, FL.sp_mirrored_spot ds S Q E → b_mirrored_spot (mends Q E) (mstart 0 ds) S := by
  rintro _ S Q E ⟨p, rfl, hp, k⟩
  unfold b_mirrored_spot
  simp only [ML.q_mstart, ML.q_mends, List.map_cons, List.map_nil, List.replicate, List.cons_append, List.nil_append]
  simp (disch := omega) only [gv, fr0, c_less]
  exact k
theorem r_turned_spot : ∀ ds S Q E, FL.sp_turned_spot ds S Q E → b_turned_spot (mends Q E) (mstart 0 ds) S := by
  rintro _ S Q E ⟨p, rfl, hp, k⟩
  unfold b_turned_spot
  simp only [ML.q_mstart, ML.q_mends, List.map_cons, List.map_nil, List.replicate, List.cons_append, List.nil_append]
  simp (disch := omega) only [gv, fr0, c_less]
  exact k
theorem r_moved_spot : ∀ ds S Q E, FL.sp_moved_spot ds S Q E → b_moved_spot (mends Q E) (mstart 0 ds) S := by
  rintro _ S Q E ⟨p, d, rfl, hp, hd, k⟩
  unfold b_moved_spot
  simp only [ML.q_mstart, ML.q_mends, List.map_cons, List.map_nil, List.replicate, List.cons_append, List.nil_append]
  simp (disch := omega) only [gv, c_plus]
  exact k
theorem r_umoved_spot : ∀ ds S Q E, FL.sp_umoved_spot ds S Q E → b_umoved_spot (mends Q E) (mstart 0 ds) S := by
  rintro _ S Q E ⟨k, f, u, rfl, q⟩
  unfold b_umoved_spot
  simp only [ML.q_mstart, ML.q_mends, List.map_cons, List.map_nil, List.replicate, List.cons_append, List.nil_append]
  simp only [gv]
  refine ⟨fun h => ?_, fun h => ?_⟩
  · simp only [gv]
    unfold mvU at q; rw [if_pos h] at q; exact q
  simp only [gv]
  refine ⟨fun h2 => ?_, fun h2 => ?_⟩
  · simp only [gv]
    unfold mvU at q; rw [if_neg h, if_pos h2] at q; exact q
  · simp only [gv]
    unfold mvU at q; rw [if_neg h, if_neg h2] at q; exact q
theorem r_frames : ∀ ds S Q E, FL.sp_frames ds S Q E → b_frames (mends Q E) (mstart 4 ds) S := by
  rintro _ S Q E ⟨p, n, kk, rfl, hp, hn, k⟩
  unfold b_frames
  simp only [ML.q_mstart, ML.q_mends, List.map_cons, List.map_nil, List.replicate, List.cons_append, List.nil_append]
  simp only [gv]
  refine ⟨p, n, kk, rfl, hp, hn, fun s n' S' hs hn' hp' b' => ?_⟩
  simp only [gv, scD]
  exact k s n' S' hs hn' hp' b'
theorem r_moved : ∀ ds S Q E, FL.sp_moved ds S Q E → b_moved (mends Q E) (mstart 2 ds) S := by
  rintro _ S Q E ⟨ws, d, rfl, hz, hw, bd, k⟩
  unfold b_moved
  simp only [ML.q_mstart, ML.q_mends, List.map_cons, List.map_nil, List.replicate, List.cons_append, List.nil_append]
  simp only [gv]
  intro p hp
  refine comp_map wlD (fun w => wlD (mapW (mvP d) w)) ws rfl hz (fun acc => trivial) ?_ ?_
  · intro w acc Q' hm q
    obtain ⟨bw, ne⟩ := hw w hm
    simp only [gv]
    refine ⟨w.1, d, rfl, bw.f, bd, ?_⟩
    simp only [gv]
    refine ⟨w.2, d, rfl, bw.s, bd, ?_⟩
    simp only [gv]
    refine ⟨mvP d w.1, mvP d w.2, rfl, ⟨?_, ?_⟩, ⟨?_, ?_⟩, ?_, ?_⟩
    · exact Nat.le_trans (z_add bw.f.l bd.l) (by decide)
    · exact Nat.le_trans (z_add bw.f.r bd.r) (by decide)
    · exact Nat.le_trans (z_add bw.s.l bd.l) (by decide)
    · exact Nat.le_trans (z_add bw.s.r bd.r) (by decide)
    · intro e
      unfold mvP at e
      have h1 := congrArg Prod.fst e
      have h2 := congrArg Prod.snd e
      simp only at h1 h2
      exact ne (Prod.ext (by grind) (by grind))
    · simp only [gv]
      exact q
  · simp only [gv, del_put hp]
    rw [List.map_map] at k
    exact k
theorem r_mirrored : ∀ ds S Q E, FL.sp_mirrored ds S Q E → b_mirrored (mends Q E) (mstart 2 ds) S := by
  rintro _ S Q E ⟨ws, rfl, hz, hw, k⟩
  unfold b_mirrored
  simp only [ML.q_mstart, ML.q_mends, List.map_cons, List.map_nil, List.replicate, List.cons_append, List.nil_append]
  simp only [gv]
  intro p hp
  refine comp_map wlD (fun w => wlD (mapW miP w)) ws rfl hz (fun acc => trivial) ?_ ?_
  · intro w acc Q' hm q
    obtain ⟨bw, ne⟩ := hw w hm
    simp only [gv]
    refine ⟨w.1, rfl, bw.f, ?_⟩
    simp only [gv]
    refine ⟨w.2, rfl, bw.s, ?_⟩
    simp only [gv]
    have z0 : sz 0 ≤ 1 := by decide
    refine ⟨miP w.1, miP w.2, rfl, ⟨?_, ?_⟩, ⟨?_, ?_⟩, ?_, ?_⟩
    · exact Nat.le_trans (z_sub z0 bw.f.l) (by decide)
    · exact Nat.le_trans bw.f.r (by decide)
    · exact Nat.le_trans (z_sub z0 bw.s.l) (by decide)
    · exact Nat.le_trans bw.s.r (by decide)
    · intro e
      unfold miP at e
      have h1 := congrArg Prod.fst e
      have h2 := congrArg Prod.snd e
      simp only at h1 h2
      exact ne (Prod.ext (by grind) (by grind))
    · simp only [gv]
      exact q
  · simp only [gv, del_put hp]
    rw [List.map_map] at k
    exact k
theorem r_turned : ∀ ds S Q E, FL.sp_turned ds S Q E → b_turned (mends Q E) (mstart 2 ds) S := by
  rintro _ S Q E ⟨ws, rfl, hz, hw, k⟩
  unfold b_turned
  simp only [ML.q_mstart, ML.q_mends, List.map_cons, List.map_nil, List.replicate, List.cons_append, List.nil_append]
  simp only [gv]
  intro p hp
  refine comp_map wlD (fun w => wlD (mapW tuP w)) ws rfl hz (fun acc => trivial) ?_ ?_
  · intro w acc Q' hm q
    obtain ⟨bw, ne⟩ := hw w hm
    simp only [gv]
    refine ⟨w.1, rfl, bw.f, ?_⟩
    simp only [gv]
    refine ⟨w.2, rfl, bw.s, ?_⟩
    simp only [gv]
    have z0 : sz 0 ≤ 1 := by decide
    refine ⟨tuP w.1, tuP w.2, rfl, ⟨?_, ?_⟩, ⟨?_, ?_⟩, ?_, ?_⟩
    · exact Nat.le_trans (z_sub z0 bw.f.r) (by decide)
    · exact Nat.le_trans bw.f.l (by decide)
    · exact Nat.le_trans (z_sub z0 bw.s.r) (by decide)
    · exact Nat.le_trans bw.s.l (by decide)
    · intro e
      unfold tuP at e
      have h1 := congrArg Prod.fst e
      have h2 := congrArg Prod.snd e
      simp only at h1 h2
      exact ne (Prod.ext (by grind) (by grind))
    · simp only [gv]
      exact q
  · simp only [gv, del_put hp]
    rw [List.map_map] at k
    exact k
theorem r_in_order : ∀ ds S Q E, FL.sp_in_order ds S Q E → b_in_order (mends Q E) (mstart 1 ds) S := by
  rintro _ S Q E ⟨ws, d, ms, rfl, hd, hz, hlt, k⟩
  unfold b_in_order
  simp only [ML.q_mstart, ML.q_mends, List.map_cons, List.map_nil, List.replicate, List.cons_append, List.nil_append]
  obtain ⟨G, hs, g0, hG⟩ := hd.it
  simp only [gv, hs]
  intro p hp
  refine comp_map nD (fun i => wlD (wlAt ws i)) ms rfl hz (fun acc => hG _ _ hp) ?_ ?_
  · intro i acc Q' hm q
    have e : (ws.map wlD)[i]? = some (wlD (wlAt ws i)) := by rw [List.getElem?_map, wlAt_get (hlt i hm)]; rfl
    simp only [gv, nD, ixL_cast, e]
    exact q
  · simp only [gv, del_put hp]
    rw [List.map_map] at k
    exact k
theorem r_border : ∀ ds S Q E, FL.sp_border ds S Q E → b_border (mends Q E) (mstart 2 ds) S := by
  rintro _ S Q E ⟨p, n, many, rfl, hp, hn, hm, k⟩
  unfold b_border
  simp only [ML.q_mstart, ML.q_mends, List.map_cons, List.map_nil, List.replicate, List.cons_append, List.nil_append]
  simp only [gv]
  intro q hq
  have qp : q ≠ p := fun z => by obtain ⟨a, b, h, _⟩ := hp; rw [z, h] at hq; cases hq
  have hp1 : PotAt (put S q (.lst [])) p n := by obtain ⟨a, b, h, h2⟩ := hp; exact ⟨a, b, by rw [put_ne (Ne.symm qp)]; exact h, h2⟩
  refine ⟨by omega, ?_⟩
  refine rng_inv (fun i σ S' => @KP ⟨∃ (ms : List Nat) (n' : Nat), (∃ a, σ = [some (.ref p), some (.int many), some (.ref q), a]) ∧ ms.Perm (List.range i) ∧ n' ≤ n + i ∧ But p S S' ∧ PotAt S' p n' ∧ S' q = some (.lst (ms.map nD))⟩) ⟨[], n, ⟨_, rfl⟩, .nil, by omega, fun a o _ e => by rw [put_ne (sne e hq)]; exact e, hp1, put_same⟩ ?_ ?_
  · rintro i σ S1 hi ⟨ms, n1, ⟨a, rfl⟩, pm, hn1, x1, hp1, hq1⟩
    have hi : i < many := by simpa using hi
    have lms : ms.length = i := by rw [pm.length_eq, List.length_range]
    simp only [gv]
    refine ⟨of_eq_true (isLst_ref hq1), ?_⟩
    refine t_ptake hp1 (by omega) (by omega) (by omega) fun r n2 S2 r0 r1 hn2 hp2 e2 => ?_
    have hq2 : S2 q = some (.lst (ms.map nD)) := but_ex e2 q _ qp hq1
    obtain ⟨t, rfl⟩ := Int.eq_ofNat_of_zero_le r0
    simp only [gv, hq2]
    refine ⟨⟨by rw [sizeLine_eq]; omega, by omega, by omega⟩, ?_⟩
    refine KP.mk ⟨ms.take t ++ i :: ms.drop t, n2, ⟨_, rfl⟩, ?_, by omega, fun a o h e => ?_, ?_, ?_⟩
    · refine List.perm_middle.trans ?_
      rw [List.take_append_drop, List.range_succ]
      exact (pm.cons i).trans (List.perm_append_singleton i (List.range i)).symm
    · rw [put_ne (sne e hq)]; exact but_ex e2 a o h (x1 a o h e)
    · obtain ⟨a, b, h, h2⟩ := hp2
      exact ⟨a, b, by rw [put_ne (Ne.symm qp)]; exact h, h2⟩
    · rw [put_same, List.map_append, List.map_cons, List.map_take, List.map_drop, List.append_assoc]; rfl
  · rintro σ S1 ⟨ms, n1, ⟨a, rfl⟩, pm, hn1, x1, hp1, hq1⟩
    rw [Int.toNat_natCast] at pm
    simp only [gv]
    exact k q ms n1 S1 pm (by omega) hp1 hq qp x1 hq1
theorem r_bsquares : ∀ ds S Q E, FL.sp_bsquares ds S Q E → b_bsquares (mends Q E) (mstart 6 ds) S := by
  rintro _ S Q E ⟨p, n, most, rfl, hp, hn, m1, m2, k⟩
  unfold b_bsquares
  simp only [ML.q_mstart, ML.q_mends, List.map_cons, List.map_nil, List.replicate, List.cons_append, List.nil_append]
  simp only [gv]
  refine t_ptake hp (by omega) (by omega) (by omega) fun r n1 S1 r0 r1 hn1 hp1 e1 => ?_
  have x1 := but_ex e1
  simp only [gv]
  obtain ⟨m, hm⟩ : ∃ m : Nat, 6 + r = (m : Int) := ⟨(6 + r).toNat, by omega⟩
  rw [hm]
  refine ⟨by omega, ?_⟩
  intro q hq
  rw [show ((m : Int) + 1).toNat = m + 1 by omega]
  have qp : q ≠ p := fun z => by obtain ⟨a, b, h, _⟩ := hp1; rw [← z, hq] at h; cases h
  refine comp_prng (fun i => uwD ((12 * (i : Int), 0), (12 * (i : Int), 12))) (by omega) ?_ ?_
  · intro i acc Q1 hi q1
    simp only [gv]
    exact q1
  have hq2 : put S1 q (.lst ((List.range (m + 1)).map fun i : Nat => uwD ((12 * (i : Int), 0), (12 * (i : Int), 12)))) q = some (.lst ((bsQ m 0).map uwD)) := by
    rw [put_same]; unfold bsQ bsV; rw [List.range_zero, List.map_nil, List.flatten_nil, List.append_nil, List.map_map]; rfl
  have b2 : But p S (put S1 q (.lst ((List.range (m + 1)).map fun i : Nat => uwD ((12 * (i : Int), 0), (12 * (i : Int), 12))))) := fun a o ha e => by rw [put_ne (sne (x1 a o ha e) hq)]; exact x1 a o ha e
  have hp2 : PotAt (put S1 q (.lst ((List.range (m + 1)).map fun i : Nat => uwD ((12 * (i : Int), 0), (12 * (i : Int), 12))))) p n1 := by
    obtain ⟨a, b, h, h2⟩ := hp1; exact ⟨a, b, by rw [put_ne (Ne.symm qp)]; exact h, h2⟩
  have q0 : S q = none := by
    cases c : S q with
    | none => rfl
    | some o => rw [x1 q o qp c] at hq; cases hq
  generalize put S1 q (.lst ((List.range (m + 1)).map fun i : Nat => uwD ((12 * (i : Int), 0), (12 * (i : Int), 12)))) = S2 at *
  simp only [gv]
  refine ⟨by omega, ?_⟩
  have sqS : ∀ i, bsQ m (i + 1) = bsQ m i ++ [((12 * (i : Int), 0), (12 * (i : Int) + 12, 0)), ((12 * (i : Int), 12), (12 * (i : Int) + 12, 12))] := fun i => by
    unfold bsQ; rw [List.range_succ]; simp
  have sqL : ∀ i, (bsQ m i).length = m + 1 + 2 * i := fun i => by
    induction i with
    | zero => unfold bsQ bsV; simp
    | succ i ih => rw [sqS, List.length_append, ih]; simp; omega
  refine rng_inv (fun i σ S' => @KP ⟨S' = S2 ∧ ∃ d, (∃ a b c e, σ = [some (.ref p), some (.int most), some (.int m), some d, a, b, c, e]) ∧ LstK S2 d ((bsQ m i).map uwD) ∧ d ≠ .ref p ∧ ∀ r, d = .ref r → S r = none⟩) ⟨rfl, _, ⟨_, _, _, _, rfl⟩, .ref hq2, fun z => qp (by cases z; rfl), fun r z => by cases z; exact q0⟩ ?_ ?_
  · rintro i σ S3 hi ⟨rfl, d, ⟨a, b, c, e, rfl⟩, hd, dp, dr⟩
    have hi : i < m := by simpa using hi
    have l := sqL i
    have fin : ∀ acc, acc = (bsQ m i).map uwD ++ [uwD ((12 * (i : Int), 0), (12 * (i : Int) + 12, 0)), uwD ((12 * (i : Int), 12), (12 * (i : Int) + 12, 12))] → LstK S3 (.lst acc) ((bsQ m (i + 1)).map uwD) := fun acc h => by
      rw [h, sqS, List.map_append]; exact .lst
    simp only [gv]
    intro t ht
    refine comp_map D.int (fun y => uwD ((12 * (i : Int), y), (12 * (i : Int) + 12, y))) [0, 12] rfl (by decide) (fun acc => trivial) ?_ ?_
    · intro y acc Q1 _ q1
      simp only [gv]
      exact q1
    simp only [gv, del_put ht]
    cases hd with
    | lst =>
      simp only [gv]
      refine ⟨line_le (by simp; omega), ?_⟩
      exact KP.mk ⟨rfl, _, ⟨_, _, _, _, rfl⟩, fin _ rfl, ⟨(by intro z; cases z), (by intro r z; cases z)⟩⟩
    | ref hr =>
      simp only [gv, hr, olP_lst]
      refine ⟨line_le (by simp; omega), ?_⟩
      exact KP.mk ⟨rfl, _, ⟨_, _, _, _, rfl⟩, fin _ rfl, ⟨(by intro z; cases z), (by intro r z; cases z)⟩⟩
  · rintro σ S3 ⟨rfl, d, ⟨a, b, c, e, rfl⟩, hd, dp, dr⟩
    rw [Int.toNat_natCast] at hd
    have dw : Drawn 40 200 (bsQ m m) := bsq_drawn (by omega) (by omega)
    have l := sqL m
    generalize bsQ m m = ws at *
    simp only [gv]
    refine t_ptake hp2 (by omega) (by decide) (by decide) fun g n3 S4 g0 g1 hn3 hp3 e3 => ?_
    have b3 := b2.trans (but_ex e3)
    have hd3 : LstK S4 d (ws.map uwD) := by
      cases hd with
      | lst => exact .lst
      | ref hr => exact .ref (but_ex e3 _ _ (fun z => dp (by rw [z])) hr)
    simp only [gv]
    refine ⟨fun hg => ?_, fun hg => ?_⟩
    · simp only [gv]
      exact k d ws n3 S4 dw (by omega) (by omega) hp3 hd3 dp dr b3
    · simp only [gv]
      intro t ht
      have tp : t ≠ p := fun z => by obtain ⟨a, b, h, _⟩ := hp3; rw [z, h] at ht; cases ht
      have hd4 : LstK (put S4 t (.lst [])) d (ws.map uwD) := hd3.ext (ext0_put ht)
      obtain ⟨G, hs, hG⟩ := hd4.itr
      have hp4 : PotAt (put S4 t (.lst [])) p n3 := by obtain ⟨a, b, h, h2⟩ := hp3; exact ⟨a, b, by rw [put_ne (Ne.symm tp)]; exact h, h2⟩
      simp only [gv, hs]
      refine wfor_inv (fun i σ S' => @KP ⟨∃ (vs : List UW) (n' : Nat), (∃ a b c, σ = [some (.ref p), some (.int most), some (.int m), some d, a, b, some (.ref t), c]) ∧ vs.Perm (ws.take i) ∧ n' ≤ n3 + i ∧ PotAt S' p n' ∧ (∀ a o, a ≠ p → S4 a = some o → S' a = some o) ∧ S' t = some (.lst (vs.map uwD))⟩) ⟨[], n3, ⟨_, _, _, rfl⟩, .nil, by omega, hp4, fun a o _ e => by rw [put_ne (sne e ht)]; exact e, put_same⟩ ?_ ?_
      · rintro i dd σ S5 hdd ⟨vs, n5, ⟨a, b, c, rfl⟩, pm, hn5, hp5, x5, ht5⟩
        rw [List.getElem?_map] at hdd
        cases ei : ws[i]? with
        | none => rw [ei] at hdd; cases hdd
        | some w =>
          rw [ei] at hdd; cases hdd
          have hi : i < ws.length := (List.getElem?_eq_some_iff.mp ei).1
          have pl := pm.length_eq
          rw [List.length_take] at pl
          have hd5 : LstK S5 d (ws.map uwD) := by
            cases hd3 with
            | lst => exact .lst
            | ref hr => exact .ref (x5 _ _ (fun z => dp (by rw [z])) hr)
          refine ⟨hG _ hd5, ?_⟩
          simp only [gv, ht5, olP_lst]
          refine ⟨⟨_, by rw [lstOf_ref', ht5]; exact olP_lst⟩, ?_⟩
          refine t_ptake hp5 (by omega) (by omega) (by omega) fun y n6 S6 y0 y1 hn6 hp6 e6 => ?_
          obtain ⟨j, rfl⟩ := Int.eq_ofNat_of_zero_le y0
          have ht6 := but_ex e6 t _ tp ht5
          simp only [gv, ht6]
          refine ⟨⟨by rw [sizeLine_eq]; omega, by omega, by omega⟩, ?_⟩
          refine KP.mk ⟨vs.take j ++ w :: vs.drop j, n6, ⟨_, _, _, rfl⟩, ?_, by omega, ?_, fun a o h e => ?_, ?_⟩
          · rw [List.take_add_one, ei]
            refine List.perm_middle.trans ?_
            rw [List.take_append_drop]
            exact (pm.cons w).trans (List.perm_append_singleton w (ws.take i)).symm
          · obtain ⟨a, b, h, h2⟩ := hp6
            exact ⟨a, b, by rw [put_ne (Ne.symm tp)]; exact h, h2⟩
          · rw [put_ne (sne e ht)]; exact but_ex e6 a o h (x5 a o h e)
          · rw [put_same, List.map_append, List.map_cons, List.map_take, List.map_drop, List.append_assoc]; rfl
      · rintro σ S5 ⟨vs, n5, ⟨a, b, c, rfl⟩, pm, hn5, hp5, x5, ht5⟩
        rw [List.length_map, List.take_length] at pm
        rw [List.length_map] at hn5
        have hd5 : LstK S5 d (ws.map uwD) := by
          cases hd3 with
          | lst => exact .lst
          | ref hr => exact .ref (x5 _ _ (fun z => dp (by rw [z])) hr)
        refine ⟨hG _ hd5, ?_⟩
        simp only [gv]
        refine k (.ref t) vs n5 S5 (dw.perm pm) (by rw [pm.length_eq]; omega) (by omega) hp5 (.ref ht5) (fun z => tp (by cases z; rfl)) (fun r z => ?_) fun a o h e => x5 a o h (b3 a o h e)
        cases z
        cases c : S t with
        | none => rfl
        | some o => rw [b3 t o tp c] at ht; cases ht
theorem r_umoved_shuts : ∀ ds S Q E, FL.sp_umoved_shuts ds S Q E → b_umoved_shuts (mends Q E) (mstart 4 ds) S := by
  rintro _ S Q E ⟨d, ws, kk, f, rfl, hd, hz, hw, k⟩
  unfold b_umoved_shuts
  simp only [ML.q_mstart, ML.q_mends, List.map_cons, List.map_nil, List.replicate, List.cons_append, List.nil_append]
  simp only [gv]
  intro q hq
  have hd1 : LstK (put S q (.lst [])) d (ws.map uwD) := hd.ext (ext0_put hq)
  obtain ⟨G, hs, hG⟩ := hd1.itr
  simp only [gv, hs]
  refine wfor_inv (fun i σ S' => @KP ⟨(∃ a b c, σ = [some d, some (.int kk), some (uD f), some (.ref q), a, b, c]) ∧ Ext0 S S' ∧ S' q = some (.lst (((ws.take i).map (mvW kk f)).map uwD))⟩) ⟨⟨_, _, _, rfl⟩, ext0_put hq, put_same⟩ ?_ ?_
  · rintro i dd σ S1 hdd ⟨⟨a, b, c, rfl⟩, x1, hq1⟩
    rw [List.getElem?_map] at hdd
    cases ei : ws[i]? with
    | none => rw [ei] at hdd; cases hdd
    | some w =>
      rw [ei] at hdd; cases hdd
      have hi : i < ws.length := (List.getElem?_eq_some_iff.mp ei).1
      have hm := List.mem_of_getElem? ei
      refine ⟨hG _ (hd.ext x1), ?_⟩
      simp only [gv]
      intro r hr
      have rq : q ≠ r := sne hq1 hr
      refine comp_map uD (fun u => uD (mvU kk f u)) [w.1, w.2] rfl (by simp) (fun acc => trivial) ?_ ?_
      · intro u acc Q1 hu q1
        simp only [gv]
        refine ⟨kk, f, u, rfl, ?_⟩
        simp only [gv]
        exact q1
      have hr2 : put S1 r (.lst ([w.1, w.2].map fun u => uD (mvU kk f u))) r = some (.lst ([mvU kk f w.1, mvU kk f w.2].map uD)) := put_same
      have hq2 : put S1 r (.lst ([w.1, w.2].map fun u => uD (mvU kk f u))) q = some (.lst (((ws.take i).map (mvW kk f)).map uwD)) := by rw [put_ne rq]; exact hq1
      have x2 : Ext0 S (put S1 r (.lst ([w.1, w.2].map fun u => uD (mvU kk f u)))) := fun a o e => by rw [put_ne (sne (x1 a o e) hr)]; exact x1 a o e
      generalize put S1 r (.lst ([w.1, w.2].map fun u => uD (mvU kk f u))) = S2 at *
      have inj : mvU kk f w.1 ≠ mvU kk f w.2 := fun e => hw w hm (by
        unfold mvU at e
        by_cases c0 : kk = 0
        · rw [if_pos c0, if_pos c0] at e
          have h1 := congrArg Prod.fst e; have h2 := congrArg Prod.snd e
          simp only at h1 h2
          exact Prod.ext (by omega) (by omega)
        · rw [if_neg c0, if_neg c0] at e
          by_cases c1 : kk = 1
          · rw [if_pos c1, if_pos c1] at e
            have h1 := congrArg Prod.fst e; have h2 := congrArg Prod.snd e
            simp only at h1 h2
            exact Prod.ext (by omega) (by omega)
          · rw [if_neg c1, if_neg c1] at e
            have h1 := congrArg Prod.fst e; have h2 := congrArg Prod.snd e
            simp only at h1 h2
            exact Prod.ext (by omega) (by omega))
      have mn : ∀ m, m ∈ [mvU kk f w.1, mvU kk f w.2] → (∀ y ∈ [mvU kk f w.1, mvU kk f w.2], ule m y) → m = (mvW kk f w).1 := fun m h1 h2 => by
        have g1 := h2 _ (List.mem_cons_self)
        have g2 := h2 _ (List.mem_cons_of_mem _ List.mem_cons_self)
        unfold mvW
        dsimp only
        rcases ult_tri inj with z | z
        · rw [if_neg (ult_asymm z)]
          rcases List.mem_cons.mp h1 with e | e
          · exact e
          · rw [List.mem_singleton] at e; rw [e] at g1; exact absurd z (not_ult.mpr g1)
        · rw [if_pos z]
          rcases List.mem_cons.mp h1 with e | e
          · rw [e] at g2; exact absurd z (not_ult.mpr g2)
          · rw [List.mem_singleton] at e; exact e
      have mx : ∀ m, m ∈ [mvU kk f w.1, mvU kk f w.2] → (∀ y ∈ [mvU kk f w.1, mvU kk f w.2], ule y m) → m = (mvW kk f w).2 := fun m h1 h2 => by
        have g1 := h2 _ (List.mem_cons_self)
        have g2 := h2 _ (List.mem_cons_of_mem _ List.mem_cons_self)
        unfold mvW
        dsimp only
        rcases ult_tri inj with z | z
        · rw [if_neg (ult_asymm z)]
          rcases List.mem_cons.mp h1 with e | e
          · rw [e] at g2; exact absurd z (not_ult.mpr g2)
          · rw [List.mem_singleton] at e; exact e
        · rw [if_pos z]
          rcases List.mem_cons.mp h1 with e | e
          · exact e
          · rw [List.mem_singleton] at e; rw [e] at g1; exact absurd z (not_ult.mpr g1)
      simp only [gv]
      refine ⟨⟨_, by rw [lstOf_ref', hq2]; exact olP_lst⟩, ?_⟩
      refine minUP (us := [mvU kk f w.1, mvU kk f w.2]) (by rw [lstOf_ref', hr2]; exact olP_lst) (by simp) fun m1 hm1 hm2 => ?_
      simp only [gv]
      refine maxUP (us := [mvU kk f w.1, mvU kk f w.2]) (by rw [lstOf_ref', hr2]; exact olP_lst) (by simp) fun m2 hm3 hm4 => ?_
      rw [mn m1 hm1 hm2, mx m2 hm3 hm4]
      simp only [gv, hq2, olP_lst]
      refine ⟨line_lt (by rw [List.length_take]; omega), ?_⟩
      refine KP.mk ⟨⟨_, _, _, rfl⟩, fun a o e => by rw [put_ne (sne e hq)]; exact x2 a o e, ?_⟩
      rw [put_same, List.take_add_one, ei, List.map_append, List.map_append]; rfl
  · rintro σ S1 ⟨⟨a, b, c, rfl⟩, x1, hq1⟩
    rw [List.length_map, List.take_length] at hq1
    refine ⟨hG _ (hd.ext x1), ?_⟩
    simp only [gv]
    exact k q S1 x1 hq hq1
end FL
set_option maxRecDepth 100000
namespace FL
open PySem PySem.Spec L2 ML
theorem ScOk.mv {s : Sc} (h : ScOk s) {k : Int} : ScOk (mvS k s) := by
  obtain ⟨a, b, c, d, e, f, g, i⟩ := h
  unfold mvS
  by_cases k0 : k = 0
  · rw [if_pos k0]; exact ⟨a, b, c, d, e, f, g, i⟩
  · rw [if_neg k0]
    by_cases k1 : k = 1
    · rw [if_pos k1]; exact ⟨a, b, c, d, by simp only; omega, by simp only; omega, g, i⟩
    · rw [if_neg k1]; exact ⟨a, b, c, d, by simp only; omega, by simp only; omega, e, f⟩
def nul (s : Sc) : Sc := ⟨s.t, s.b, 0, 0⟩
theorem ScOk.nul {s : Sc} (h : ScOk s) : ScOk (nul s) := ⟨h.t1, h.t2, h.b1, h.b2, by show -(2 ^ 100 : Int) ≤ 0; decide, by show (0 : Int) ≤ 2 ^ 100; decide, by show -(2 ^ 100 : Int) ≤ 0; decide, by show (0 : Int) ≤ 2 ^ 100; decide⟩
/-- what is moved, in the three ways -/
def mvG (k : Int) (d : Pt) : Pt → Pt := if k = 0 then mvP d else if k = 1 then miP else tuP
theorem mv_af {s : Sc} (h : ScOk s) {k : Int} (f u : U2) : mvG k (af (nul s) (ofU f)) (af s (ofU u)) = af (mvS k s) (ofU (mvU k f u)) := by
  have hb : (s.b : Rat) ≠ 0 := by have := h.bp; grind
  unfold mvG mvS mvU
  by_cases k0 : k = 0
  · rw [if_pos k0, if_pos k0, if_pos k0]
    unfold mvP af ofU nul
    simp only [Rat.intCast_add]
    refine Prod.ext ?_ ?_ <;> simp only <;> grind
  · rw [if_neg k0, if_neg k0, if_neg k0]
    by_cases k1 : k = 1
    · rw [if_pos k1, if_pos k1, if_pos k1]
      unfold miP af ofU
      simp only [Rat.intCast_sub]
      refine Prod.ext ?_ ?_ <;> simp only <;> grind
    · rw [if_neg k1, if_neg k1, if_neg k1]
      unfold tuP af ofU
      simp only [Rat.intCast_sub]
      refine Prod.ext ?_ ?_ <;> simp only <;> grind
theorem mvU_inj {k : Int} {f a b : U2} (e : mvU k f a = mvU k f b) : a = b := by
  unfold mvU at e
  by_cases c0 : k = 0
  · rw [if_pos c0, if_pos c0] at e
    have h1 := congrArg Prod.fst e; have h2 := congrArg Prod.snd e
    simp only at h1 h2
    exact Prod.ext (by omega) (by omega)
  · rw [if_neg c0, if_neg c0] at e
    by_cases c1 : k = 1
    · rw [if_pos c1, if_pos c1] at e
      have h1 := congrArg Prod.fst e; have h2 := congrArg Prod.snd e
      simp only at h1 h2
      exact Prod.ext (by omega) (by omega)
    · rw [if_neg c1, if_neg c1] at e
      have h1 := congrArg Prod.fst e; have h2 := congrArg Prod.snd e
      simp only at h1 h2
      exact Prod.ext (by omega) (by omega)
/-- two ends in their order -/
def srtW (a b : U2) : UW := if ult b a then (b, a) else (a, b)
theorem mvW_eq (k : Int) (f : U2) (w : UW) : mvW k f w = srtW (mvU k f w.1) (mvU k f w.2) := by
  unfold mvW srtW
  by_cases h : ult (mvU k f w.2) (mvU k f w.1)
  · rw [if_pos h, if_pos h, if_pos h]
  · rw [if_neg h, if_neg h, if_neg h]
theorem srtW_comm {a b : U2} (h : a ≠ b) : srtW a b = srtW b a := by
  unfold srtW
  rcases ult_tri h with z | z
  · rw [if_neg (ult_asymm z), if_pos z]
  · rw [if_pos z, if_neg (ult_asymm z)]
theorem srtW_up {a b : U2} (h : a ≠ b) : ult (srtW a b).1 (srtW a b).2 := by
  unfold srtW
  rcases ult_tri h with z | z
  · rw [if_neg (ult_asymm z)]; exact z
  · rw [if_pos z]; exact z
theorem srtW_id {w : UW} (h : ult w.1 w.2) : srtW w.1 w.2 = w := by unfold srtW; rw [if_neg (ult_asymm h)]
theorem mvW_srt {k : Int} {f a b : U2} (h : a ≠ b) : mvW k f (srtW a b) = srtW (mvU k f a) (mvU k f b) := by
  rw [mvW_eq]
  unfold srtW
  by_cases z : ult b a
  · rw [if_pos z]
    exact srtW_comm fun e => h (mvU_inj e).symm
  · rw [if_neg z]
theorem mv_wall {s : Sc} (h : ScOk s) {k : Int} (f : U2) {w : UW} : mapW (mvG k (af (nul s) (ofU f))) (afw s (ofW w)) = afw (mvS k s) (ofW (mvW k f w)) := by
  rw [mvW_eq]
  unfold mapW afw ofW wallO srtW
  simp only [mv_af h, ahead_af h.mv, ahead_ofU]
  by_cases z : ult (mvU k f w.2) (mvU k f w.1)
  · rw [if_pos z, if_pos z]
  · rw [if_neg z, if_neg z]
theorem plt_mv {s : Sc} (h : ScOk s) {k : Int} (f : U2) (ws : List UW) : (pltW s ws).map (mapW (mvG k (af (nul s) (ofU f)))) = pltW (mvS k s) (ws.map (mvW k f)) := by
  unfold pltW
  rw [List.map_map, List.map_map]
  exact List.map_congr_left fun w _ => mv_wall h f
theorem ne_up {w : UW} (h : ult w.1 w.2) : w.1 ≠ w.2 := fun e => by rw [e] at h; exact ult_irrefl _ h
theorem mvW_up {k : Int} {f : U2} {w : UW} (h : ult w.1 w.2) : ult (mvW k f w).1 (mvW k f w).2 := by
  rw [mvW_eq]; exact srtW_up fun e => ne_up h (mvU_inj e)
theorem mvU_ok {m : Int} {k : Int} {f u : U2} (hf : UOk 100 f) (hu : UOk m u) : UOk (m + 100) (mvU k f u) := by
  obtain ⟨a1, a2, a3, a4⟩ := hf
  obtain ⟨b1, b2, b3, b4⟩ := hu
  unfold mvU
  by_cases c0 : k = 0
  · rw [if_pos c0]; exact ⟨by simp only; omega, by simp only; omega, by simp only; omega, by simp only; omega⟩
  · rw [if_neg c0]
    by_cases c1 : k = 1
    · rw [if_pos c1]; exact ⟨by simp only; omega, by simp only; omega, by simp only; omega, by simp only; omega⟩
    · rw [if_neg c1]; exact ⟨by simp only; omega, by simp only; omega, by simp only; omega, by simp only; omega⟩
theorem mvW_ok {m : Int} {k : Int} {f : U2} {w : UW} (hf : UOk 100 f) (hw : WOk m w) : WOk (m + 100) (mvW k f w) := by
  rw [mvW_eq]
  unfold srtW
  split
  · exact ⟨mvU_ok hf hw.s, mvU_ok hf hw.f⟩
  · exact ⟨mvU_ok hf hw.f, mvU_ok hf hw.s⟩
/-! ### back again -/
theorem back0 {f : U2} {w : UW} (h : ult w.1 w.2) : mvW 0 (0 - f.1, 0 - f.2) (mvW 0 f w) = w := by
  have e : ∀ u, mvU 0 (0 - f.1, 0 - f.2) (mvU 0 f u) = u := fun u => by
    unfold mvU; rw [if_pos rfl, if_pos rfl]; exact Prod.ext (by simp only; omega) (by simp only; omega)
  rw [mvW_eq 0 f, mvW_srt fun e => ne_up h (mvU_inj e), e, e, srtW_id h]
theorem back1 {f g : U2} {w : UW} (h : ult w.1 w.2) : mvW 1 g (mvW 1 f w) = w := by
  have e : ∀ u, mvU 1 g (mvU 1 f u) = u := fun u => by
    unfold mvU; rw [if_neg (by decide), if_pos rfl, if_neg (by decide), if_pos rfl]; exact Prod.ext (by simp only; omega) rfl
  rw [mvW_eq 1 f, mvW_srt fun e => ne_up h (mvU_inj e), e, e, srtW_id h]
theorem back2 {f : U2} {w : UW} (h : ult w.1 w.2) : mvW 2 f (mvW 2 f (mvW 2 f (mvW 2 f w))) = w := by
  have e : ∀ u, mvU 2 f (mvU 2 f (mvU 2 f (mvU 2 f u))) = u := fun u => by
    unfold mvU; simp only [if_neg (show ¬ (2 : Int) = 0 by decide), if_neg (show ¬ (2 : Int) = 1 by decide)]; exact Prod.ext (by simp only; omega) (by simp only; omega)
  have n1 : mvU 2 f w.1 ≠ mvU 2 f w.2 := fun e => ne_up h (mvU_inj e)
  have n2 : mvU 2 f (mvU 2 f w.1) ≠ mvU 2 f (mvU 2 f w.2) := fun e => n1 (mvU_inj e)
  have n3 : mvU 2 f (mvU 2 f (mvU 2 f w.1)) ≠ mvU 2 f (mvU 2 f (mvU 2 f w.2)) := fun e => n2 (mvU_inj e)
  rw [mvW_eq 2 f w, mvW_srt n1, mvW_srt n2, mvW_srt n3, e, e, srtW_id h]
theorem mvS1 (s : Sc) : mvS 1 (mvS 1 s) = s := by
  obtain ⟨t, b, x, y⟩ := s
  unfold mvS; simp only [if_neg (show ¬ (1 : Int) = 0 by decide), if_true, Sc.mk.injEq, true_and, and_true]; omega
theorem mvS2 (s : Sc) : mvS 2 (mvS 2 (mvS 2 (mvS 2 s))) = s := by
  obtain ⟨t, b, x, y⟩ := s
  unfold mvS; simp only [if_neg (show ¬ (2 : Int) = 0 by decide), if_neg (show ¬ (2 : Int) = 1 by decide), Sc.mk.injEq, true_and]; omega
theorem map_back {α : Type} {g : α → α} {ws : List α} (h : ∀ w ∈ ws, g w = w) : ws.map g = ws := by
  rw [List.map_congr_left h, List.map_id']
/-! ### plots shown -/
theorem sml_fr {q : Rat} {n : Nat} (h : sz q ≤ n) (hn : n ≤ 1900) : D.sml (fr q) = true := by
  unfold sz at h
  show (decide (q.num.natAbs.log2 < 1920) && (decide (((q.den : Nat) : Int).natAbs.log2 < 1920) && true)) = true
  rw [decide_eq_true (by omega), decide_eq_true (by simp only [Int.natAbs_natCast]; omega)]; rfl
theorem sml_sp {p : Pt} {n : Nat} (h : BP p n) (hn : n ≤ 1900) : D.sml (spD p) = true := by
  show (D.sml (fr p.1) && (D.sml (fr p.2) && true)) = true
  rw [sml_fr h.l hn, sml_fr h.r hn]; rfl
theorem sml_wl {w : Wl} {n : Nat} (h : BW w n) (hn : n ≤ 1900) : D.sml (wlD w) = true := by
  show (D.sml (spD w.1) && (D.sml (spD w.2) && true)) = true
  rw [sml_sp h.f hn, sml_sp h.s hn]; rfl
theorem wt_wl (w : Wl) : D.wt (wlD w) ≤ 20000 := by
  unfold wlD spD fr
  simp only [D.wt, D.wts]; decide
theorem smls_map {α : Type} {f : α → D} : ∀ {xs : List α}, (∀ x ∈ xs, D.sml (f x) = true) → D.smls (xs.map f) = true
  | [], _ => rfl
  | x :: xs, h => by
    show (D.sml (f x) && D.smls (xs.map f)) = true
    rw [h x List.mem_cons_self, smls_map fun y hy => h y (List.mem_cons_of_mem _ hy)]; rfl
theorem wts_map {α : Type} {f : α → D} {n : Nat} (h : ∀ x, D.wt (f x) ≤ n) : ∀ xs : List α, D.wts (xs.map f) ≤ xs.length * (n + 2)
  | [] => Nat.zero_le _
  | x :: xs => by
    show D.wt (f x) + 2 + D.wts (xs.map f) ≤ _
    have h1 := h x
    have h2 := wts_map h xs
    rw [List.length_cons, Nat.succ_mul]; omega
theorem sho_plt {ws : List Wl} (hz : ws.length ≤ 500) (h : ∀ w ∈ ws, BW w 1000) : ShO (.tup (ws.map wlD)) := by
  refine ⟨?_, smls_map fun w hw => sml_wl (h w hw) (by decide), ?_⟩
  · rw [D.dep]
    have : D.deps (ws.map wlD) ≤ 3 := deps_map fun w => by rw [dep_wl]; decide
    omega
  · rw [D.wt]
    have := wts_map wt_wl ws
    have : ws.length * (20000 + 2) ≤ 500 * 20002 := Nat.mul_le_mul_right _ hz
    omega
theorem pb_plt (ws : List Wl) : D.pb (.tup (ws.map wlD)) = true := by
  rw [D.pb]
  exact pbs_map (fun w => by simp [wlD, spD, fr, D.pb, D.pbs]) ws
/-! ### lists of the store, but for the pot -/
theorem LstK.lenD {S : Sto} {α : Type} {g : α → D} {d : D} {xs : List α} (h : LstK S d (xs.map g)) : ML.lenD S d = some xs.length := by
  cases h with
  | lst => simp only [lenD_lst, List.length_map]
  | ref h => simp only [lenD_ref, h, olP_lst, Option.map_some, List.length_map]
theorem LstK.but {S S' : Sto} {d : D} {ds : List D} {p : Addr} (h : LstK S d ds) (dp : d ≠ .ref p) (b : But p S S') : LstK S' d ds := by
  cases h with
  | lst => exact .lst
  | ref h => exact .ref (b _ _ (fun z => dp (by rw [z])) h)
theorem plt_pre {s : Sc} (hs : ScOk s) {vs : List UW} (hv : ∀ v ∈ vs, WOk (2 ^ 20) v ∧ ult v.1 v.2) : ∀ w ∈ pltW s vs, BW w 300 ∧ w.1 ≠ w.2 := fun w hw => by
  obtain ⟨v, h, rfl⟩ := List.mem_map.mp hw
  obtain ⟨h1, h2⟩ := hv v h
  refine ⟨bw_afw hs h1, fun e => ne_up h2 ?_⟩
  have := (af_inj hs).mp e
  exact ofU_inj.mp this
end FL
set_option maxRecDepth 100000
namespace Lk60
open PySem PySem.Spec L2 ML FL
def sp_law_right : MSp := fun ds S Q _ => ∃ (pd d : D) (s : Sc) (ws : List UW) (f : U2), ds = [pd, d, .lst [scD (mvS 0 s), scD (mvS 1 s), scD (mvS 2 s)], uD f, .lst [.tup ((pltW (mvS 0 s) (ws.map (mvW 0 f))).map wlD), .tup ((pltW (mvS 1 s) (ws.map (mvW 1 f))).map wlD), .tup ((pltW (mvS 2 s) (ws.map (mvW 2 f))).map wlD)]] ∧
  ScOk s ∧ LstK S d (ws.map uwD) ∧ ws.length ≤ 100 ∧ UOk 100 f ∧ (∀ w ∈ ws, WOk 500 w ∧ ult w.1 w.2) ∧ ∀ S', Ext0 S S' → Q (.bl true) S'
end Lk60
set_option maxRecDepth 100000
set_option maxHeartbeats 0
namespace Lk60
open PySem PySem.Spec L2 ML
open PyProof.Rows hiding St
structure Txt (K : PySem.W.Frag) (mg : Str → Option Value) : Prop where
  f_abs : mg "abs" = none
  f_int : mg "int" = none
  f_len : mg "len" = none
  f_list : mg "list" = none
  f_max : mg "max" = none
  f_min : mg "min" = none
  f_range : mg "range" = none
  f_repr : mg "repr" = none
  f_tuple : mg "tuple" = none
  f_zip : mg "zip" = none
  c_NOUGHT : (∀ H S, RD K H S (.ref (He.ga K "NOUGHT")) (.tup [.int 0, .int 1])) ∧ mg "NOUGHT" = some (.ref (He.ga K "NOUGHT"))
section
variable {P : Program} {w : World} {K : PySem.W.Frag} {mg : Str → Option Value} {base : Heap}
theorem sc_divisor : FnScope ["one", "other"] ["one", "other"] (defScope s_divisor) := ⟨rfl, rfl, rfl, by decide +kernel, rfl, by decide +kernel, by decide +kernel⟩
abbrev b_divisor : MS := FL.b_divisor
theorem l_divisor : ∀ ds S Q E, FL.sp_divisor ds S Q E → ds.length = ["one", "other"].length := FL.l_divisor
theorem r_divisor : ∀ ds S Q E, FL.sp_divisor ds S Q E → b_divisor (mends Q E) (mstart 0 ds) S := FL.r_divisor
theorem d_divisor {f : Addr} {cdv : Value} {A : Around} {outer : List Env} {s : Shared} {H : Hp} {E : XK} (T : Txt K mg)  (hr : Room 0 (cxM P w K mg base ["one", "other"] "divisor" s_divisor f cdv A outer s H E).A) :
    PSs (cxM P w K mg base ["one", "other"] "divisor" s_divisor f cdv A outer s H E) (defBody s_divisor) (upS K (wM E) b_divisor) :=
  (scons (swhile poM (tcmp (op_neA hr.units) ol_ne (ev 1) eint) (sone (spar (i := 0) (j := 1) rfl sc_divisor.nd (acons (ev 1) (acons (emod (ev 0) (ev 1)) anil)))))
    (sone (sret (ev 0))))
theorem sc_is_less : FnScope ["one", "other"] ["one", "other"] (defScope s_is_less) := ⟨rfl, rfl, rfl, by decide +kernel, rfl, by decide +kernel, by decide +kernel⟩
abbrev b_is_less : MS := FL.b_is_less
theorem l_is_less : ∀ ds S Q E, FL.sp_is_less ds S Q E → ds.length = ["one", "other"].length := FL.l_is_less
theorem r_is_less : ∀ ds S Q E, FL.sp_is_less ds S Q E → b_is_less (mends Q E) (mstart 0 ds) S := FL.r_is_less
theorem d_is_less {f : Addr} {cdv : Value} {A : Around} {outer : List Env} {s : Shared} {H : Hp} {E : XK} (T : Txt K mg)  (hr : Room 0 (cxM P w K mg base ["one", "other"] "is_less" s_is_less f cdv A outer s H E).A) :
    PSs (cxM P w K mg base ["one", "other"] "is_less" s_is_less f cdv A outer s H E) (defBody s_is_less) (upS K (wM E) b_is_less) :=
  (sone (sret (ecmp (oa_lt (u65 hr)) la_lt (emul (eix (ev 0) eint) (eix (ev 1) eint)) (emul (eix (ev 1) eint) (eix (ev 0) eint)))))
theorem sc_in_order : FnScope ["plot", "order", "number"] ["plot", "order"] (defScope s_in_order) := ⟨rfl, rfl, rfl, by decide +kernel, rfl, by decide +kernel, by decide +kernel⟩
abbrev b_in_order : MS := FL.b_in_order
theorem l_in_order : ∀ ds S Q E, FL.sp_in_order ds S Q E → ds.length = ["plot", "order"].length := FL.l_in_order
theorem r_in_order : ∀ ds S Q E, FL.sp_in_order ds S Q E → b_in_order (mends Q E) (mstart 1 ds) S := FL.r_in_order
theorem d_in_order {f : Addr} {cdv : Value} {A : Around} {outer : List Env} {s : Shared} {H : Hp} {E : XK} (T : Txt K mg)  (hr : Room 0 (cxM P w K mg base ["plot", "order", "number"] "in_order" s_in_order f cdv A outer s H E).A) :
    PSs (cxM P w K mg base ["plot", "order", "number"] "in_order" s_in_order f cdv A outer s H E) (defBody s_in_order) (upS K (wM E) b_in_order) :=
  (sone (sret (etyp call_tuple_of cl_tuple T.f_tuple (acons (ecompF (own := [("number", 2)]) rfl sc_in_order.nd (is (ev 1)) (blkOk_by (by first | decide +kernel | kernel_rfl | rfl)) (fun _ _ _ _ _ => (gonm sc_in_order.nd (i := 2) (by decide))) (fun _ _ _ _ _ => tsNil) (fun _ _ _ _ _ => (eix (ev 0) (ev 2)))) anil))))
theorem sc_law_pot : FnScope ["_law_script", "_law_k", "_law_cell"] ["_law_script", "_law_k"] (defScope s_law_pot) := ⟨rfl, rfl, rfl, by decide +kernel, rfl, by decide +kernel, by decide +kernel⟩
abbrev b_law_pot : MS := FL.b_pot
theorem l_law_pot : ∀ ds S Q E, FL.sp_pot ds S Q E → ds.length = ["_law_script", "_law_k"].length := FL.l_pot
theorem r_law_pot : ∀ ds S Q E, FL.sp_pot ds S Q E → b_law_pot (mends Q E) (mstart 1 ds) S := FL.r_pot
theorem d_law_pot {f : Addr} {cdv : Value} {A : Around} {outer : List Env} {s : Shared} {H : Hp} {E : XK} (T : Txt K mg)  (hr : Room 0 (cxM P w K mg base ["_law_script", "_law_k", "_law_cell"] "_law_pot" s_law_pot f cdv A outer s H E).A) :
    PSs (cxM P w K mg base ["_law_script", "_law_k", "_law_cell"] "_law_pot" s_law_pot f cdv A outer s H E) (defBody s_law_pot) (upS K (wM E) b_law_pot) :=
  (scons (sset (i := 2) sc_law_pot.nd eint)
    (scons (sif (tcmp (oa_lt (u65 hr)) la_lt (ev 1) (eblt call_len cl_len T.f_len (acons (ev 0) anil) PySem.boot_len)) (sone (sset (i := 2) sc_law_pot.nd (eix (ev 0) (ev 1)))) snil)
    (sone (sret (elst (acons (eblt (ca_max rfl (u65 hr)) cl_maxA T.f_max (acons (ev 2) (acons (esub (eneg eint) (ev 2)) anil))) (acons (emod (ev 2) eint) (acons eint anil))))))))
theorem sc_law_take : FnScope ["_law_pot_here", "_law_size", "_law_digit", "_law_mixed"] ["_law_pot_here", "_law_size"] (defScope s_law_take) := ⟨rfl, rfl, rfl, by decide +kernel, rfl, by decide +kernel, by decide +kernel⟩
abbrev b_law_take : MS := FL.b_ptake
theorem l_law_take : ∀ ds S Q E, FL.sp_ptake ds S Q E → ds.length = ["_law_pot_here", "_law_size"].length := FL.l_ptake
theorem r_law_take : ∀ ds S Q E, FL.sp_ptake ds S Q E → b_law_take (mends Q E) (mstart 2 ds) S := FL.r_ptake
theorem d_law_take {f : Addr} {cdv : Value} {A : Around} {outer : List Env} {s : Shared} {H : Hp} {E : XK} (T : Txt K mg)  (hr : Room 0 (cxM P w K mg base ["_law_pot_here", "_law_size", "_law_digit", "_law_mixed"] "_law_take" s_law_take f cdv A outer s H E).A) :
    PSs (cxM P w K mg base ["_law_pot_here", "_law_size", "_law_digit", "_law_mixed"] "_law_take" s_law_take f cdv A outer s H E) (defBody s_law_take) (upS K (wM E) b_law_take) :=
  (scons (sif (tcmp (oa_gt (u65 hr)) la_gt (eix (ev 0) eint) eint) (scons (sset (i := 2) sc_law_take.nd (emod (eix (ev 0) eint) (ev 1)))
    (scons (sasg (ediv (eix (ev 0) eint) (ev 1)) (gsb (ev 0) eint))
    (sone (sret (ev 2))))) snil)
    (scons (sasg (eadd (eix (ev 0) eint) eint) (gsb (ev 0) eint))
    (scons (sset (i := 3) sc_law_take.nd (emod (eadd (eadd (emul (eix (ev 0) eint) eint) (emul (emul (eix (ev 0) eint) (eix (ev 0) eint)) eint)) eint) eint))
    (scons (sset (i := 3) sc_law_take.nd (emod (emul (ev 3) (ev 3)) eint))
    (sone (sret (emod (ediv (emod (emul (ev 3) (eadd (ev 3) eint)) eint) eint) (ev 1))))))))
theorem sc_law_side : FnScope ["_law_shut", "_law_spot", "_law_a", "_law_b", "_law_c", "_law_d", "_law_way"] ["_law_shut", "_law_spot"] (defScope s_law_side) := ⟨rfl, rfl, rfl, by decide +kernel, rfl, by decide +kernel, by decide +kernel⟩
abbrev b_law_side : MS := FL.b_pside
theorem l_law_side : ∀ ds S Q E, FL.sp_pside ds S Q E → ds.length = ["_law_shut", "_law_spot"].length := FL.l_pside
theorem r_law_side : ∀ ds S Q E, FL.sp_pside ds S Q E → b_law_side (mends Q E) (mstart 5 ds) S := FL.r_pside
theorem d_law_side {f : Addr} {cdv : Value} {A : Around} {outer : List Env} {s : Shared} {H : Hp} {E : XK} (T : Txt K mg)  (hr : Room 0 (cxM P w K mg base ["_law_shut", "_law_spot", "_law_a", "_law_b", "_law_c", "_law_d", "_law_way"] "_law_side" s_law_side f cdv A outer s H E).A) :
    PSs (cxM P w K mg base ["_law_shut", "_law_spot", "_law_a", "_law_b", "_law_c", "_law_d", "_law_way"] "_law_side" s_law_side f cdv A outer s H E) (defBody s_law_side) (upS K (wM E) b_law_side) :=
  (scons (sasg (eix (ev 0) eint) (gtp rfl (gcn (gnm (i := 2) sc_law_side.nd) (gcn (gnm (i := 3) sc_law_side.nd) gnl))))
    (scons (sasg (eix (ev 0) eint) (gtp rfl (gcn (gnm (i := 4) sc_law_side.nd) (gcn (gnm (i := 5) sc_law_side.nd) gnl))))
    (scons (sset (i := 6) sc_law_side.nd (esub (emul (esub (ev 4) (ev 2)) (esub (eix (ev 1) eint) (ev 3))) (emul (esub (ev 5) (ev 3)) (esub (eix (ev 1) eint) (ev 2)))))
    (sone (sret (esub (etyp call_int1 cl_int T.f_int (acons (ecmp (oa_gt (u65 hr)) la_gt (ev 6) eint) anil)) (etyp call_int1 cl_int T.f_int (acons (ecmp (oa_lt (u65 hr)) la_lt (ev 6) eint) anil))))))))
theorem sc_law_frac : FnScope ["_law_top", "_law_bottom", "_law_one", "_law_other"] ["_law_top", "_law_bottom"] (defScope s_law_frac) := ⟨rfl, rfl, rfl, by decide +kernel, rfl, by decide +kernel, by decide +kernel⟩
abbrev b_law_frac : MS := FL.b_pfrac
theorem l_law_frac : ∀ ds S Q E, FL.sp_pfrac ds S Q E → ds.length = ["_law_top", "_law_bottom"].length := FL.l_pfrac
theorem r_law_frac : ∀ ds S Q E, FL.sp_pfrac ds S Q E → b_law_frac (mends Q E) (mstart 2 ds) S := FL.r_pfrac
theorem d_law_frac {f : Addr} {cdv : Value} {A : Around} {outer : List Env} {s : Shared} {H : Hp} {E : XK} (T : Txt K mg)  (hr : Room 0 (cxM P w K mg base ["_law_top", "_law_bottom", "_law_one", "_law_other"] "_law_frac" s_law_frac f cdv A outer s H E).A) :
    PSs (cxM P w K mg base ["_law_top", "_law_bottom", "_law_one", "_law_other"] "_law_frac" s_law_frac f cdv A outer s H E) (defBody s_law_frac) (upS K (wM E) b_law_frac) :=
  (scons (sset (i := 2) sc_law_frac.nd (eblt call_abs cl_abs T.f_abs (acons (ev 0) anil)))
    (scons (sset (i := 3) sc_law_frac.nd (ev 1))
    (scons (swhile poM (tcmp (oa_gt (u65 hr)) la_gt (ev 3) eint) (sone (spar (i := 2) (j := 3) rfl sc_law_frac.nd (acons (ev 3) (acons (emod (ev 2) (ev 3)) anil)))))
    (sone (sret (etup (acons (ediv (ev 0) (ev 2)) (acons (ediv (ev 1) (ev 2)) anil))))))))
theorem sc_law_same : FnScope ["_law_found", "_law_due"] ["_law_found", "_law_due"] (defScope s_law_same) := ⟨rfl, rfl, rfl, by decide +kernel, rfl, by decide +kernel, by decide +kernel⟩
abbrev b_law_same : MS := FL.b_same
theorem l_law_same : ∀ ds S Q E, FL.sp_same ds S Q E → ds.length = ["_law_found", "_law_due"].length := FL.l_same
theorem r_law_same : ∀ ds S Q E, FL.sp_same ds S Q E → b_law_same (mends Q E) (mstart 0 ds) S := FL.r_same
theorem d_law_same {f : Addr} {cdv : Value} {A : Around} {outer : List Env} {s : Shared} {H : Hp} {E : XK} (T : Txt K mg)  (hgu : (cxM P w K mg base ["_law_found", "_law_due"] "_law_same" s_law_same f cdv A outer s H E).A.guards = some []) (hr : Room 0 (cxM P w K mg base ["_law_found", "_law_due"] "_law_same" s_law_same f cdv A outer s H E).A) :
    PSs (cxM P w K mg base ["_law_found", "_law_due"] "_law_same" s_law_same f cdv A outer s H E) (defBody s_law_same) (upS K (wM E) b_law_same) :=
  (sone (sret (ecmp (op_eqA hr.units) ol_eqS (eblt (call_showA hgu (u65 hr)) cl_reprO T.f_repr (acons (ev 0) anil)) (eblt (call_showA hgu (u65 hr)) cl_reprO T.f_repr (acons (ev 1) anil)))))
theorem sc_law_moved_spot : FnScope ["_law_spot", "_law_kind", "_law_far"] ["_law_spot", "_law_kind", "_law_far"] (defScope s_law_moved_spot) := ⟨rfl, rfl, rfl, by decide +kernel, rfl, by decide +kernel, by decide +kernel⟩
abbrev b_law_moved_spot : MS := FL.b_umoved_spot
theorem l_law_moved_spot : ∀ ds S Q E, FL.sp_umoved_spot ds S Q E → ds.length = ["_law_spot", "_law_kind", "_law_far"].length := FL.l_umoved_spot
theorem r_law_moved_spot : ∀ ds S Q E, FL.sp_umoved_spot ds S Q E → b_law_moved_spot (mends Q E) (mstart 0 ds) S := FL.r_umoved_spot
theorem d_law_moved_spot {f : Addr} {cdv : Value} {A : Around} {outer : List Env} {s : Shared} {H : Hp} {E : XK} (T : Txt K mg)  (hr : Room 0 (cxM P w K mg base ["_law_spot", "_law_kind", "_law_far"] "_law_moved_spot" s_law_moved_spot f cdv A outer s H E).A) :
    PSs (cxM P w K mg base ["_law_spot", "_law_kind", "_law_far"] "_law_moved_spot" s_law_moved_spot f cdv A outer s H E) (defBody s_law_moved_spot) (upS K (wM E) b_law_moved_spot) :=
  (scons (sif (tcmp (op_eqA hr.units) ol_eq (ev 1) eint) (sone (sret (etup (acons (eadd (eix (ev 0) eint) (eix (ev 2) eint)) (acons (eadd (eix (ev 0) eint) (eix (ev 2) eint)) anil))))) snil)
    (scons (sif (tcmp (op_eqA hr.units) ol_eq (ev 1) eint) (sone (sret (etup (acons (esub eint (eix (ev 0) eint)) (acons (eix (ev 0) eint) anil))))) snil)
    (sone (sret (etup (acons (esub eint (eix (ev 0) eint)) (acons (eix (ev 0) eint) anil)))))))
theorem sc_fraction : FnScope ["top", "bottom", "by"] ["top", "bottom"] (defScope s_fraction) := ⟨rfl, rfl, rfl, by decide +kernel, rfl, by decide +kernel, by decide +kernel⟩
abbrev b_fraction : MS := FL.b_fraction
theorem l_fraction : ∀ ds S Q E, FL.sp_low ds S Q E → ds.length = ["top", "bottom"].length := FL.l_fraction
theorem r_fraction : ∀ ds S Q E, FL.sp_low ds S Q E → b_fraction (mends Q E) (mstart 1 ds) S := FL.r_fraction
theorem d_fraction {f : Addr} {cdv : Value} {A : Around} {outer : List Env} {s : Shared} {H : Hp} {E : XK} (T : Txt K mg) (h_divisor : Has P w K mg base "divisor" ["one", "other"] 1 FL.sp_divisor) (hr : Room 1 (cxM P w K mg base ["top", "bottom", "by"] "fraction" s_fraction f cdv A outer s H E).A) :
    PSs (cxM P w K mg base ["top", "bottom", "by"] "fraction" s_fraction f cdv A outer s H E) (defBody s_fraction) (upS K (wM E) b_fraction) :=
  (scons (sif (tcmp (op_eqA hr.units) ol_eq (ev 1) eint) (sone snever) snil)
    (scons (sset (i := 2) sc_fraction.nd (ecall (h_divisor.mono (k := 1) (by decide)) hr tkM (acons (eblt call_abs cl_abs T.f_abs (acons (ev 0) anil)) (acons (eblt call_abs cl_abs T.f_abs (acons (ev 1) anil)) anil))))
    (scons (sif (tcmp (oa_lt (u65 hr)) la_lt (ev 1) eint) (sone (sset (i := 2) sc_fraction.nd (eneg (ev 2)))) snil)
    (sone (sret (etup (acons (ediv (ev 0) (ev 2)) (acons (ediv (ev 1) (ev 2)) anil))))))))
theorem sc_is_ahead : FnScope ["one", "other"] ["one", "other"] (defScope s_is_ahead) := ⟨rfl, rfl, rfl, by decide +kernel, rfl, by decide +kernel, by decide +kernel⟩
abbrev b_is_ahead : MS := FL.b_is_ahead
theorem l_is_ahead : ∀ ds S Q E, FL.sp_is_ahead ds S Q E → ds.length = ["one", "other"].length := FL.l_is_ahead
theorem r_is_ahead : ∀ ds S Q E, FL.sp_is_ahead ds S Q E → b_is_ahead (mends Q E) (mstart 0 ds) S := FL.r_is_ahead
theorem d_is_ahead {f : Addr} {cdv : Value} {A : Around} {outer : List Env} {s : Shared} {H : Hp} {E : XK} (T : Txt K mg) (h_is_less : Has P w K mg base "is_less" ["one", "other"] 1 FL.sp_is_less) (hr : Room 1 (cxM P w K mg base ["one", "other"] "is_ahead" s_is_ahead f cdv A outer s H E).A) :
    PSs (cxM P w K mg base ["one", "other"] "is_ahead" s_is_ahead f cdv A outer s H E) (defBody s_is_ahead) (upS K (wM E) b_is_ahead) :=
  (scons (sif (tcmp (op_neA hr.units) ol_ne (eix (ev 0) eint) (eix (ev 1) eint)) (sone (sret (ecall (h_is_less.mono (k := 1) (by decide)) hr tkM (acons (eix (ev 0) eint) (acons (eix (ev 1) eint) anil))))) snil)
    (sone (sret (ecall (h_is_less.mono (k := 1) (by decide)) hr tkM (acons (eix (ev 0) eint) (acons (eix (ev 1) eint) anil))))))
theorem sc_law_on : FnScope ["_law_shut", "_law_spot"] ["_law_shut", "_law_spot"] (defScope s_law_on) := ⟨rfl, rfl, rfl, by decide +kernel, rfl, by decide +kernel, by decide +kernel⟩
abbrev b_law_on : MS := FL.b_pon
theorem l_law_on : ∀ ds S Q E, FL.sp_pon ds S Q E → ds.length = ["_law_shut", "_law_spot"].length := FL.l_pon
theorem r_law_on : ∀ ds S Q E, FL.sp_pon ds S Q E → b_law_on (mends Q E) (mstart 0 ds) S := FL.r_pon
theorem d_law_on {f : Addr} {cdv : Value} {A : Around} {outer : List Env} {s : Shared} {H : Hp} {E : XK} (T : Txt K mg) (h_law_side : Has P w K mg base "_law_side" ["_law_shut", "_law_spot"] 1 FL.sp_pside) (hr : Room 1 (cxM P w K mg base ["_law_shut", "_law_spot"] "_law_on" s_law_on f cdv A outer s H E).A) :
    PSs (cxM P w K mg base ["_law_shut", "_law_spot"] "_law_on" s_law_on f cdv A outer s H E) (defBody s_law_on) (upS K (wM E) b_law_on) :=
  (sone (sret (eand (ecmp (oa_le (u65 hr)) la_le (eix (ev 0) eint) (ev 1)) (eand (ecmp (oa_le (u65 hr)) la_le (ev 1) (eix (ev 0) eint)) (eone (ecmp (op_eqA hr.units) ol_eq (ecall (h_law_side.mono (k := 1) (by decide)) hr tkM (acons (ev 0) (acons (ev 1) anil))) eint))))))
theorem sc_law_new_spot : FnScope ["_law_pot_here", "_law_wide"] ["_law_pot_here", "_law_wide"] (defScope s_law_new_spot) := ⟨rfl, rfl, rfl, by decide +kernel, rfl, by decide +kernel, by decide +kernel⟩
abbrev b_law_new_spot : MS := FL.b_new_spot
theorem l_law_new_spot : ∀ ds S Q E, FL.sp_new_spot ds S Q E → ds.length = ["_law_pot_here", "_law_wide"].length := FL.l_new_spot
theorem r_law_new_spot : ∀ ds S Q E, FL.sp_new_spot ds S Q E → b_law_new_spot (mends Q E) (mstart 0 ds) S := FL.r_new_spot
theorem d_law_new_spot {f : Addr} {cdv : Value} {A : Around} {outer : List Env} {s : Shared} {H : Hp} {E : XK} (T : Txt K mg) (h_law_take : Has P w K mg base "_law_take" ["_law_pot_here", "_law_size"] 1 FL.sp_ptake) (hr : Room 1 (cxM P w K mg base ["_law_pot_here", "_law_wide"] "_law_new_spot" s_law_new_spot f cdv A outer s H E).A) :
    PSs (cxM P w K mg base ["_law_pot_here", "_law_wide"] "_law_new_spot" s_law_new_spot f cdv A outer s H E) (defBody s_law_new_spot) (upS K (wM E) b_law_new_spot) :=
  (sone (sret (etup (acons (emul eint (ecall (h_law_take.mono (k := 1) (by decide)) hr tkM (acons (ev 0) (acons (ev 1) anil)))) (acons (emul eint (ecall (h_law_take.mono (k := 1) (by decide)) hr tkM (acons (ev 0) (acons (ev 1) anil)))) anil)))))
theorem sc_law_frame : FnScope ["_law_pot_here", "_law_many", "_law_kind", "_law_far", "_law_k"] ["_law_pot_here", "_law_many"] (defScope s_law_frame) := ⟨rfl, rfl, rfl, by decide +kernel, rfl, by decide +kernel, by decide +kernel⟩
abbrev b_law_frame : MS := FL.b_frame
theorem l_law_frame : ∀ ds S Q E, FL.sp_frame ds S Q E → ds.length = ["_law_pot_here", "_law_many"].length := FL.l_frame
theorem r_law_frame : ∀ ds S Q E, FL.sp_frame ds S Q E → b_law_frame (mends Q E) (mstart 3 ds) S := FL.r_frame
theorem d_law_frame {f : Addr} {cdv : Value} {A : Around} {outer : List Env} {s : Shared} {H : Hp} {E : XK} (T : Txt K mg) (h_law_take : Has P w K mg base "_law_take" ["_law_pot_here", "_law_size"] 1 FL.sp_ptake) (hr : Room 1 (cxM P w K mg base ["_law_pot_here", "_law_many", "_law_kind", "_law_far", "_law_k"] "_law_frame" s_law_frame f cdv A outer s H E).A) :
    PSs (cxM P w K mg base ["_law_pot_here", "_law_many", "_law_kind", "_law_far", "_law_k"] "_law_frame" s_law_frame f cdv A outer s H E) (defBody s_law_frame) (upS K (wM E) b_law_frame) :=
  (scons (sset (i := 2) sc_law_frame.nd (ecall (h_law_take.mono (k := 1) (by decide)) hr tkM (acons (ev 0) (acons eint anil))))
    (scons (sif (tcmp (oa_lt (u65 hr)) la_lt (ev 2) eint) (sone (sret (etup (acons eint (acons eint (acons eint (acons eint anil))))))) snil)
    (scons (sif (L2.PW.pt (wand (tcmp (op_eqA hr.units) ol_eq (ev 2) eint) (wand1 (tcmp (oa_lt (u65 hr)) la_lt (ev 1) eint)))) (scons (ssetLc (i := 3) (own := [("_law_k", 4)]) rfl sc_law_frame.nd (ir1 T.f_range (acons eint anil)) (blkOk_by (by first | decide +kernel | kernel_rfl | rfl)) (fun _ _ _ _ _ => (gonm sc_law_frame.nd (i := 4) (by decide))) (fun _ _ _ _ _ => tsNil) (fun _ _ _ _ _ => (esub (ecall (h_law_take.mono (k := 1) (by decide)) hr takes0 (acons (ev 0) (acons (eadd (emul eint (epow eint eint)) eint) anil))) (epow eint eint))))
    (sone (sret (etup (acons (eadd eint (ecall (h_law_take.mono (k := 1) (by decide)) hr tkM (acons (ev 0) (acons (epow eint eint) anil)))) (acons (eadd eint (ecall (h_law_take.mono (k := 1) (by decide)) hr tkM (acons (ev 0) (acons (epow eint eint) anil)))) (acons (eix (ev 3) eint) (acons (eix (ev 3) eint) anil)))))))) snil)
    (scons (ssetLc (i := 3) (own := [("_law_k", 4)]) rfl sc_law_frame.nd (ir1 T.f_range (acons eint anil)) (blkOk_by (by first | decide +kernel | kernel_rfl | rfl)) (fun _ _ _ _ _ => (gonm sc_law_frame.nd (i := 4) (by decide))) (fun _ _ _ _ _ => tsNil) (fun _ _ _ _ _ => (esub (ecall (h_law_take.mono (k := 1) (by decide)) hr takes0 (acons (ev 0) (acons (eadd (emul eint (epow eint eint)) eint) anil))) (epow eint eint))))
    (sone (sret (etup (acons (eadd eint (ecall (h_law_take.mono (k := 1) (by decide)) hr tkM (acons (ev 0) (acons (epow eint eint) anil)))) (acons (eadd eint (ecall (h_law_take.mono (k := 1) (by decide)) hr tkM (acons (ev 0) (acons (epow eint eint) anil)))) (acons (eix (ev 3) eint) (acons (eix (ev 3) eint) anil)))))))))))
theorem sc_law_given : FnScope ["_law_frame_here", "_law_spot", "_law_p", "_law_q", "_law_s", "_law_t"] ["_law_frame_here", "_law_spot"] (defScope s_law_given) := ⟨rfl, rfl, rfl, by decide +kernel, rfl, by decide +kernel, by decide +kernel⟩
abbrev b_law_given : MS := FL.b_given
theorem l_law_given : ∀ ds S Q E, FL.sp_given ds S Q E → ds.length = ["_law_frame_here", "_law_spot"].length := FL.l_given
theorem r_law_given : ∀ ds S Q E, FL.sp_given ds S Q E → b_law_given (mends Q E) (mstart 4 ds) S := FL.r_given
theorem d_law_given {f : Addr} {cdv : Value} {A : Around} {outer : List Env} {s : Shared} {H : Hp} {E : XK} (T : Txt K mg) (h_law_frac : Has P w K mg base "_law_frac" ["_law_top", "_law_bottom"] 1 FL.sp_pfrac) (hr : Room 1 (cxM P w K mg base ["_law_frame_here", "_law_spot", "_law_p", "_law_q", "_law_s", "_law_t"] "_law_given" s_law_given f cdv A outer s H E).A) :
    PSs (cxM P w K mg base ["_law_frame_here", "_law_spot", "_law_p", "_law_q", "_law_s", "_law_t"] "_law_given" s_law_given f cdv A outer s H E) (defBody s_law_given) (upS K (wM E) b_law_given) :=
  (scons (sasg (ev 0) (gtp rfl (gcn (gnm (i := 2) sc_law_given.nd) (gcn (gnm (i := 3) sc_law_given.nd) (gcn (gnm (i := 4) sc_law_given.nd) (gcn (gnm (i := 5) sc_law_given.nd) gnl))))))
    (sone (sret (etup (acons (ecall (h_law_frac.mono (k := 1) (by decide)) hr tkM (acons (eadd (emul (eix (ev 1) eint) (ev 2)) (ev 4)) (acons (ev 3) anil))) (acons (ecall (h_law_frac.mono (k := 1) (by decide)) hr tkM (acons (eadd (emul (eix (ev 1) eint) (ev 2)) (ev 5)) (acons (ev 3) anil))) anil))))))
theorem sc_law_moved_shuts : FnScope ["_law_shuts", "_law_kind", "_law_far", "_law_found", "_law_shut", "_law_ends", "_law_spot"] ["_law_shuts", "_law_kind", "_law_far"] (defScope s_law_moved_shuts) := ⟨rfl, rfl, rfl, by decide +kernel, rfl, by decide +kernel, by decide +kernel⟩
abbrev b_law_moved_shuts : MS := FL.b_umoved_shuts
theorem l_law_moved_shuts : ∀ ds S Q E, FL.sp_umoved_shuts ds S Q E → ds.length = ["_law_shuts", "_law_kind", "_law_far"].length := FL.l_umoved_shuts
theorem r_law_moved_shuts : ∀ ds S Q E, FL.sp_umoved_shuts ds S Q E → b_law_moved_shuts (mends Q E) (mstart 4 ds) S := FL.r_umoved_shuts
theorem d_law_moved_shuts {f : Addr} {cdv : Value} {A : Around} {outer : List Env} {s : Shared} {H : Hp} {E : XK} (T : Txt K mg) (h_law_moved_spot : Has P w K mg base "_law_moved_spot" ["_law_spot", "_law_kind", "_law_far"] 1 FL.sp_umoved_spot) (hr : Room 1 (cxM P w K mg base ["_law_shuts", "_law_kind", "_law_far", "_law_found", "_law_shut", "_law_ends", "_law_spot"] "_law_moved_shuts" s_law_moved_shuts f cdv A outer s H E).A) :
    PSs (cxM P w K mg base ["_law_shuts", "_law_kind", "_law_far", "_law_found", "_law_shut", "_law_ends", "_law_spot"] "_law_moved_shuts" s_law_moved_shuts f cdv A outer s H E) (defBody s_law_moved_shuts) (upS K (wM E) b_law_moved_shuts) :=
  (scons (sset (i := 3) sc_law_moved_shuts.nd (elst anil))
    (scons (sfor poM rfl (is (ev 0)) (gnm (i := 4) sc_law_moved_shuts.nd) (scons (ssetLc (i := 5) (own := [("_law_spot", 6)]) rfl sc_law_moved_shuts.nd (is (ev 4)) (blkOk_by (by first | decide +kernel | kernel_rfl | rfl)) (fun _ _ _ _ _ => (gonm sc_law_moved_shuts.nd (i := 6) (by decide))) (fun _ _ _ _ _ => tsNil) (fun _ _ _ _ _ => (ecall (h_law_moved_spot.mono (k := 1) (by decide)) hr takes0 (acons (ev 6) (acons (ev 1) (acons (ev 2) anil))))))
    (sone (sexpr (emt PySem.F.slot_list_append PySem.F.type_list_append mt_append ml_append (ev 3) (acons (etup (acons (eblt (cr_minU rfl (u65 hr)) cl_minU T.f_min (acons (ev 5) anil)) (acons (eblt (cr_maxU rfl (u65 hr)) cl_maxU T.f_max (acons (ev 5) anil)) anil))) anil))))))
    (sone (sret (ev 3)))))
theorem sc_law_order : FnScope ["_law_pot_here", "_law_many", "_law_found", "_law_k"] ["_law_pot_here", "_law_many"] (defScope s_law_order) := ⟨rfl, rfl, rfl, by decide +kernel, rfl, by decide +kernel, by decide +kernel⟩
abbrev b_law_order : MS := FL.b_border
theorem l_law_order : ∀ ds S Q E, FL.sp_border ds S Q E → ds.length = ["_law_pot_here", "_law_many"].length := FL.l_border
theorem r_law_order : ∀ ds S Q E, FL.sp_border ds S Q E → b_law_order (mends Q E) (mstart 2 ds) S := FL.r_border
theorem d_law_order {f : Addr} {cdv : Value} {A : Around} {outer : List Env} {s : Shared} {H : Hp} {E : XK} (T : Txt K mg) (h_law_take : Has P w K mg base "_law_take" ["_law_pot_here", "_law_size"] 1 FL.sp_ptake) (hr : Room 1 (cxM P w K mg base ["_law_pot_here", "_law_many", "_law_found", "_law_k"] "_law_order" s_law_order f cdv A outer s H E).A) :
    PSs (cxM P w K mg base ["_law_pot_here", "_law_many", "_law_found", "_law_k"] "_law_order" s_law_order f cdv A outer s H E) (defBody s_law_order) (upS K (wM E) b_law_order) :=
  (scons (sset (i := 2) sc_law_order.nd (elst anil))
    (scons (sfor poM rfl (ir1 T.f_range (acons (ev 1) anil)) (gnm (i := 3) sc_law_order.nd) (sone (sexpr (emt PySem.F.slot_list_insert PySem.F.type_list_insert mt_insert ml_insert (ev 2) (acons (ecall (h_law_take.mono (k := 1) (by decide)) hr tkM (acons (ev 0) (acons (eadd (ev 3) eint) anil))) (acons (ev 3) anil))))))
    (sone (sret (ev 2)))))
theorem sc_law_squares : FnScope ["_law_pot_here", "_law_most", "_law_many", "_law_shuts", "_law_k", "_law_y", "_law_found", "_law_shut"] ["_law_pot_here", "_law_most"] (defScope s_law_squares) := ⟨rfl, rfl, rfl, by decide +kernel, rfl, by decide +kernel, by decide +kernel⟩
abbrev b_law_squares : MS := FL.b_bsquares
theorem l_law_squares : ∀ ds S Q E, FL.sp_bsquares ds S Q E → ds.length = ["_law_pot_here", "_law_most"].length := FL.l_bsquares
theorem r_law_squares : ∀ ds S Q E, FL.sp_bsquares ds S Q E → b_law_squares (mends Q E) (mstart 6 ds) S := FL.r_bsquares
theorem d_law_squares {f : Addr} {cdv : Value} {A : Around} {outer : List Env} {s : Shared} {H : Hp} {E : XK} (T : Txt K mg) (h_law_take : Has P w K mg base "_law_take" ["_law_pot_here", "_law_size"] 1 FL.sp_ptake) (hr : Room 1 (cxM P w K mg base ["_law_pot_here", "_law_most", "_law_many", "_law_shuts", "_law_k", "_law_y", "_law_found", "_law_shut"] "_law_squares" s_law_squares f cdv A outer s H E).A) :
    PSs (cxM P w K mg base ["_law_pot_here", "_law_most", "_law_many", "_law_shuts", "_law_k", "_law_y", "_law_found", "_law_shut"] "_law_squares" s_law_squares f cdv A outer s H E) (defBody s_law_squares) (upS K (wM E) b_law_squares) :=
  (scons (sset (i := 2) sc_law_squares.nd (eadd eint (ecall (h_law_take.mono (k := 1) (by decide)) hr tkM (acons (ev 0) (acons (esub (ev 1) eint) anil)))))
    (scons (ssetLc (i := 3) (own := [("_law_k", 4)]) rfl sc_law_squares.nd (ir1 T.f_range (acons (eadd (ev 2) eint) anil)) (blkOk_by (by first | decide +kernel | kernel_rfl | rfl)) (fun _ _ _ _ _ => (gonm sc_law_squares.nd (i := 4) (by decide))) (fun _ _ _ _ _ => tsNil) (fun _ _ _ _ _ => (etup (acons (etup (acons (emul eint (ev 4)) (acons eint anil))) (acons (etup (acons (emul eint (ev 4)) (acons eint anil))) anil)))))
    (scons (sfor poM rfl (ir1 T.f_range (acons (ev 2) anil)) (gnm (i := 4) sc_law_squares.nd) (sone (sset (i := 3) (hs := by kernel_rfl) sc_law_squares.nd (eadd (ev 3) (ecompF (own := [("_law_y", 5)]) rfl sc_law_squares.nd (is (etup (acons eint (acons eint anil)))) (blkOk_by (by first | decide +kernel | kernel_rfl | rfl)) (fun _ _ _ _ _ => (gonm sc_law_squares.nd (i := 5) (by decide))) (fun _ _ _ _ _ => tsNil) (fun _ _ _ _ _ => (etup (acons (etup (acons (emul eint (ev 4)) (acons (ev 5) anil))) (acons (etup (acons (eadd (emul eint (ev 4)) eint) (acons (ev 5) anil))) anil)))))))))
    (scons (sif (tcmp (op_eqA hr.units) ol_eq (ecall (h_law_take.mono (k := 1) (by decide)) hr tkM (acons (ev 0) (acons eint anil))) eint) (sone (sret (ev 3))) snil)
    (scons (sset (i := 6) sc_law_squares.nd (elst anil))
    (scons (sfor poM rfl (is (ev 3)) (gnm (i := 7) sc_law_squares.nd) (sone (sexpr (emt PySem.F.slot_list_insert PySem.F.type_list_insert mt_insert ml_insert (ev 6) (acons (ecall (h_law_take.mono (k := 1) (by decide)) hr tkM (acons (ev 0) (acons (eadd (eblt call_len cl_len T.f_len (acons (ev 6) anil) PySem.boot_len) eint) anil))) (acons (ev 7) anil))))))
    (sone (sret (ev 6)))))))))
theorem sc_plus : FnScope ["one", "other"] ["one", "other"] (defScope s_plus) := ⟨rfl, rfl, rfl, by decide +kernel, rfl, by decide +kernel, by decide +kernel⟩
abbrev b_plus : MS := FL.b_plus
theorem l_plus : ∀ ds S Q E, FL.sp_plus ds S Q E → ds.length = ["one", "other"].length := FL.l_plus
theorem r_plus : ∀ ds S Q E, FL.sp_plus ds S Q E → b_plus (mends Q E) (mstart 0 ds) S := FL.r_plus
theorem d_plus {f : Addr} {cdv : Value} {A : Around} {outer : List Env} {s : Shared} {H : Hp} {E : XK} (T : Txt K mg) (h_fraction : Has P w K mg base "fraction" ["top", "bottom"] 2 FL.sp_low) (hr : Room 2 (cxM P w K mg base ["one", "other"] "plus" s_plus f cdv A outer s H E).A) :
    PSs (cxM P w K mg base ["one", "other"] "plus" s_plus f cdv A outer s H E) (defBody s_plus) (upS K (wM E) b_plus) :=
  (sone (sret (ecall (h_fraction.mono (k := 2) (by decide)) hr tkM (acons (eadd (emul (eix (ev 0) eint) (eix (ev 1) eint)) (emul (eix (ev 1) eint) (eix (ev 0) eint))) (acons (emul (eix (ev 0) eint) (eix (ev 1) eint)) anil)))))
theorem sc_less : FnScope ["one", "other"] ["one", "other"] (defScope s_less) := ⟨rfl, rfl, rfl, by decide +kernel, rfl, by decide +kernel, by decide +kernel⟩
abbrev b_less : MS := FL.b_less
theorem l_less : ∀ ds S Q E, FL.sp_less ds S Q E → ds.length = ["one", "other"].length := FL.l_less
theorem r_less : ∀ ds S Q E, FL.sp_less ds S Q E → b_less (mends Q E) (mstart 0 ds) S := FL.r_less
theorem d_less {f : Addr} {cdv : Value} {A : Around} {outer : List Env} {s : Shared} {H : Hp} {E : XK} (T : Txt K mg) (h_fraction : Has P w K mg base "fraction" ["top", "bottom"] 2 FL.sp_low) (hr : Room 2 (cxM P w K mg base ["one", "other"] "less" s_less f cdv A outer s H E).A) :
    PSs (cxM P w K mg base ["one", "other"] "less" s_less f cdv A outer s H E) (defBody s_less) (upS K (wM E) b_less) :=
  (sone (sret (ecall (h_fraction.mono (k := 2) (by decide)) hr tkM (acons (esub (emul (eix (ev 0) eint) (eix (ev 1) eint)) (emul (eix (ev 1) eint) (eix (ev 0) eint))) (acons (emul (eix (ev 0) eint) (eix (ev 1) eint)) anil)))))
theorem sc_wall_of : FnScope ["one", "other"] ["one", "other"] (defScope s_wall_of) := ⟨rfl, rfl, rfl, by decide +kernel, rfl, by decide +kernel, by decide +kernel⟩
abbrev b_wall_of : MS := FL.b_wall_of
theorem l_wall_of : ∀ ds S Q E, FL.sp_wall_of ds S Q E → ds.length = ["one", "other"].length := FL.l_wall_of
theorem r_wall_of : ∀ ds S Q E, FL.sp_wall_of ds S Q E → b_wall_of (mends Q E) (mstart 0 ds) S := FL.r_wall_of
theorem d_wall_of {f : Addr} {cdv : Value} {A : Around} {outer : List Env} {s : Shared} {H : Hp} {E : XK} (T : Txt K mg) (h_is_ahead : Has P w K mg base "is_ahead" ["one", "other"] 2 FL.sp_is_ahead) (hr : Room 2 (cxM P w K mg base ["one", "other"] "wall_of" s_wall_of f cdv A outer s H E).A) :
    PSs (cxM P w K mg base ["one", "other"] "wall_of" s_wall_of f cdv A outer s H E) (defBody s_wall_of) (upS K (wM E) b_wall_of) :=
  (scons (sif (tcmp (op_eqA hr.units) ol_eq (ev 0) (ev 1)) (sone snever) snil)
    (scons (sif (ttru (ecall (h_is_ahead.mono (k := 2) (by decide)) hr tkM (acons (ev 1) (acons (ev 0) anil)))) (sone (sret (etup (acons (ev 1) (acons (ev 0) anil))))) snil)
    (sone (sret (etup (acons (ev 0) (acons (ev 1) anil)))))))
theorem sc_law_apart : FnScope ["_law_one", "_law_other", "_law_shut", "_law_ends", "_law_spot", "_law_both"] ["_law_one", "_law_other"] (defScope s_law_apart) := ⟨rfl, rfl, rfl, by decide +kernel, rfl, by decide +kernel, by decide +kernel⟩
abbrev b_law_apart : MS := FL.b_papart
theorem l_law_apart : ∀ ds S Q E, FL.sp_papart ds S Q E → ds.length = ["_law_one", "_law_other"].length := FL.l_papart
theorem r_law_apart : ∀ ds S Q E, FL.sp_papart ds S Q E → b_law_apart (mends Q E) (mstart 4 ds) S := FL.r_papart
theorem d_law_apart {f : Addr} {cdv : Value} {A : Around} {outer : List Env} {s : Shared} {H : Hp} {E : XK} (T : Txt K mg) (h_law_side : Has P w K mg base "_law_side" ["_law_shut", "_law_spot"] 1 FL.sp_pside) (h_law_on : Has P w K mg base "_law_on" ["_law_shut", "_law_spot"] 2 FL.sp_pon) (hr : Room 2 (cxM P w K mg base ["_law_one", "_law_other", "_law_shut", "_law_ends", "_law_spot", "_law_both"] "_law_apart" s_law_apart f cdv A outer s H E).A) :
    PSs (cxM P w K mg base ["_law_one", "_law_other", "_law_shut", "_law_ends", "_law_spot", "_law_both"] "_law_apart" s_law_apart f cdv A outer s H E) (defBody s_law_apart) (upS K (wM E) b_law_apart) :=
  (scons (sfor poM rfl (is (elstF (acons (etup (acons (ev 0) (acons (ev 1) anil))) (acons (etup (acons (ev 1) (acons (ev 0) anil))) anil)))) (gtp rfl (gcn (gnm (i := 2) sc_law_apart.nd) (gcn (gnm (i := 3) sc_law_apart.nd) gnl))) (sone (sfor poM rfl (is (ev 3)) (gnm (i := 4) sc_law_apart.nd) (sone (sif (L2.PW.pt (wand (ttru (ecall (h_law_on.mono (k := 2) (by decide)) hr tkM (acons (ev 2) (acons (ev 4) anil)))) (wand1 (tcmp (op_notInA (u65 hr)) ol_notIn (ev 4) (ev 2))))) (sone (sret ebl)) snil)))))
    (scons (sset (i := 5) sc_law_apart.nd (ecmp (oa_lt (u65 hr)) la_lt (emul (ecall (h_law_side.mono (k := 2) (by decide)) hr tkM (acons (ev 0) (acons (eix (ev 1) eint) anil))) (ecall (h_law_side.mono (k := 2) (by decide)) hr tkM (acons (ev 0) (acons (eix (ev 1) eint) anil)))) eint))
    (sone (sret (eand (ecmp (op_neA hr.units) ol_ne (ev 0) (ev 1)) (eone (enot (eand (ev 5) (eone (ecmp (oa_lt (u65 hr)) la_lt (emul (ecall (h_law_side.mono (k := 2) (by decide)) hr tkM (acons (ev 1) (acons (eix (ev 0) eint) anil))) (ecall (h_law_side.mono (k := 2) (by decide)) hr tkM (acons (ev 1) (acons (eix (ev 0) eint) anil)))) eint))))))))))
theorem sc_law_some_spot : FnScope ["_law_pot_here", "_law_shuts", "_law_wide"] ["_law_pot_here", "_law_shuts", "_law_wide"] (defScope s_law_some_spot) := ⟨rfl, rfl, rfl, by decide +kernel, rfl, by decide +kernel, by decide +kernel⟩
abbrev b_law_some_spot : MS := FL.b_some_spot
theorem l_law_some_spot : ∀ ds S Q E, FL.sp_some_spot ds S Q E → ds.length = ["_law_pot_here", "_law_shuts", "_law_wide"].length := FL.l_some_spot
theorem r_law_some_spot : ∀ ds S Q E, FL.sp_some_spot ds S Q E → b_law_some_spot (mends Q E) (mstart 0 ds) S := FL.r_some_spot
theorem d_law_some_spot {f : Addr} {cdv : Value} {A : Around} {outer : List Env} {s : Shared} {H : Hp} {E : XK} (T : Txt K mg) (h_law_take : Has P w K mg base "_law_take" ["_law_pot_here", "_law_size"] 1 FL.sp_ptake) (h_law_new_spot : Has P w K mg base "_law_new_spot" ["_law_pot_here", "_law_wide"] 2 FL.sp_new_spot) (hr : Room 2 (cxM P w K mg base ["_law_pot_here", "_law_shuts", "_law_wide"] "_law_some_spot" s_law_some_spot f cdv A outer s H E).A) :
    PSs (cxM P w K mg base ["_law_pot_here", "_law_shuts", "_law_wide"] "_law_some_spot" s_law_some_spot f cdv A outer s H E) (defBody s_law_some_spot) (upS K (wM E) b_law_some_spot) :=
  (scons (sif (L2.PW.pt (wor (tcmp (op_eqA hr.units) ol_eq (ev 1) (elstF anil)) (wor1 (tcmp (op_eqA hr.units) ol_eq (ecall (h_law_take.mono (k := 2) (by decide)) hr tkM (acons (ev 0) (acons eint anil))) eint)))) (sone (sret (ecall (h_law_new_spot.mono (k := 2) (by decide)) hr tkM (acons (ev 0) (acons (ev 2) anil))))) snil)
    (sone (sret (eix (eix (ev 1) (ecall (h_law_take.mono (k := 2) (by decide)) hr tkM (acons (ev 0) (acons (eblt call_len cl_len T.f_len (acons (ev 1) anil) PySem.boot_len) anil)))) (ecall (h_law_take.mono (k := 2) (by decide)) hr tkM (acons (ev 0) (acons eint anil)))))))
theorem sc_law_square : FnScope ["_law_pot_here", "_law_wide", "_law_x", "_law_y", "_law_far"] ["_law_pot_here", "_law_wide"] (defScope s_law_square) := ⟨rfl, rfl, rfl, by decide +kernel, rfl, by decide +kernel, by decide +kernel⟩
abbrev b_law_square : MS := FL.b_psquare
theorem l_law_square : ∀ ds S Q E, FL.sp_psquare ds S Q E → ds.length = ["_law_pot_here", "_law_wide"].length := FL.l_psquare
theorem r_law_square : ∀ ds S Q E, FL.sp_psquare ds S Q E → b_law_square (mends Q E) (mstart 3 ds) S := FL.r_psquare
theorem d_law_square {f : Addr} {cdv : Value} {A : Around} {outer : List Env} {s : Shared} {H : Hp} {E : XK} (T : Txt K mg) (h_law_take : Has P w K mg base "_law_take" ["_law_pot_here", "_law_size"] 1 FL.sp_ptake) (h_law_new_spot : Has P w K mg base "_law_new_spot" ["_law_pot_here", "_law_wide"] 2 FL.sp_new_spot) (hr : Room 2 (cxM P w K mg base ["_law_pot_here", "_law_wide", "_law_x", "_law_y", "_law_far"] "_law_square" s_law_square f cdv A outer s H E).A) :
    PSs (cxM P w K mg base ["_law_pot_here", "_law_wide", "_law_x", "_law_y", "_law_far"] "_law_square" s_law_square f cdv A outer s H E) (defBody s_law_square) (upS K (wM E) b_law_square) :=
  (scons (sasg (ecall (h_law_new_spot.mono (k := 2) (by decide)) hr tkM (acons (ev 0) (acons (ev 1) anil))) (gtp rfl (gcn (gnm (i := 2) sc_law_square.nd) (gcn (gnm (i := 3) sc_law_square.nd) gnl))))
    (scons (sset (i := 4) sc_law_square.nd (emul eint (eadd eint (ecall (h_law_take.mono (k := 2) (by decide)) hr tkM (acons (ev 0) (acons eint anil))))))
    (scons (sif (tcmp (op_eqA hr.units) ol_eq (ecall (h_law_take.mono (k := 2) (by decide)) hr tkM (acons (ev 0) (acons eint anil))) eint) (sone (sret (elst (acons (etup (acons (esub (ev 2) (ev 4)) (acons (esub (ev 3) (ev 4)) anil))) (acons (etup (acons (eadd (ev 2) (ev 4)) (acons (esub (ev 3) (ev 4)) anil))) (acons (etup (acons (eadd (ev 2) (ev 4)) (acons (eadd (ev 3) (ev 4)) anil))) (acons (etup (acons (esub (ev 2) (ev 4)) (acons (eadd (ev 3) (ev 4)) anil))) (acons (etup (acons (esub (ev 2) (ev 4)) (acons (esub (ev 3) (ev 4)) anil))) anil)))))))) snil)
    (sone (sret (elst (acons (etup (acons (esub (ev 2) (ev 4)) (acons (ev 3) anil))) (acons (etup (acons (ev 2) (acons (esub (ev 3) (ev 4)) anil))) (acons (etup (acons (eadd (ev 2) (ev 4)) (acons (ev 3) anil))) (acons (etup (acons (ev 2) (acons (eadd (ev 3) (ev 4)) anil))) (acons (etup (acons (esub (ev 2) (ev 4)) (acons (ev 3) anil))) anil)))))))))))
theorem sc_law_plot : FnScope ["_law_frame_here", "_law_shuts", "_law_first", "_law_second"] ["_law_frame_here", "_law_shuts"] (defScope s_law_plot) := ⟨rfl, rfl, rfl, by decide +kernel, rfl, by decide +kernel, by decide +kernel⟩
abbrev b_law_plot : MS := FL.b_pplot
theorem l_law_plot : ∀ ds S Q E, FL.sp_pplot ds S Q E → ds.length = ["_law_frame_here", "_law_shuts"].length := FL.l_pplot
theorem r_law_plot : ∀ ds S Q E, FL.sp_pplot ds S Q E → b_law_plot (mends Q E) (mstart 2 ds) S := FL.r_pplot
theorem d_law_plot {f : Addr} {cdv : Value} {A : Around} {outer : List Env} {s : Shared} {H : Hp} {E : XK} (T : Txt K mg) (h_law_given : Has P w K mg base "_law_given" ["_law_frame_here", "_law_spot"] 2 FL.sp_given) (hr : Room 2 (cxM P w K mg base ["_law_frame_here", "_law_shuts", "_law_first", "_law_second"] "_law_plot" s_law_plot f cdv A outer s H E).A) :
    PSs (cxM P w K mg base ["_law_frame_here", "_law_shuts", "_law_first", "_law_second"] "_law_plot" s_law_plot f cdv A outer s H E) (defBody s_law_plot) (upS K (wM E) b_law_plot) :=
  (sone (sret (etyp call_tuple_of cl_tuple T.f_tuple (acons (ecompF (own := [("_law_first", 2), ("_law_second", 3)]) rfl sc_law_plot.nd (is (ev 1)) (blkOk_by (by first | decide +kernel | kernel_rfl | rfl)) (fun _ _ _ _ _ => (gotp rfl (gocn (gonm sc_law_plot.nd (i := 2) (by decide)) (gocn (gonm sc_law_plot.nd (i := 3) (by decide)) gonl)))) (fun _ _ _ _ _ => tsNil) (fun _ _ _ _ _ => (etup (acons (ecall (h_law_given.mono (k := 2) (by decide)) hr takes0 (acons (ev 0) (acons (ev 2) anil))) (acons (ecall (h_law_given.mono (k := 2) (by decide)) hr takes0 (acons (ev 0) (acons (ev 3) anil))) anil))))) anil))))
theorem sc_law_frames : FnScope ["_law_pot_here", "_law_many", "_law_p", "_law_q", "_law_s", "_law_t"] ["_law_pot_here", "_law_many"] (defScope s_law_frames) := ⟨rfl, rfl, rfl, by decide +kernel, rfl, by decide +kernel, by decide +kernel⟩
abbrev b_law_frames : MS := FL.b_frames
theorem l_law_frames : ∀ ds S Q E, FL.sp_frames ds S Q E → ds.length = ["_law_pot_here", "_law_many"].length := FL.l_frames
theorem r_law_frames : ∀ ds S Q E, FL.sp_frames ds S Q E → b_law_frames (mends Q E) (mstart 4 ds) S := FL.r_frames
theorem d_law_frames {f : Addr} {cdv : Value} {A : Around} {outer : List Env} {s : Shared} {H : Hp} {E : XK} (T : Txt K mg) (h_law_frame : Has P w K mg base "_law_frame" ["_law_pot_here", "_law_many"] 2 FL.sp_frame) (hr : Room 2 (cxM P w K mg base ["_law_pot_here", "_law_many", "_law_p", "_law_q", "_law_s", "_law_t"] "_law_frames" s_law_frames f cdv A outer s H E).A) :
    PSs (cxM P w K mg base ["_law_pot_here", "_law_many", "_law_p", "_law_q", "_law_s", "_law_t"] "_law_frames" s_law_frames f cdv A outer s H E) (defBody s_law_frames) (upS K (wM E) b_law_frames) :=
  (scons (sasg (ecall (h_law_frame.mono (k := 2) (by decide)) hr tkM (acons (ev 0) (acons (ev 1) anil))) (gtp rfl (gcn (gnm (i := 2) sc_law_frames.nd) (gcn (gnm (i := 3) sc_law_frames.nd) (gcn (gnm (i := 4) sc_law_frames.nd) (gcn (gnm (i := 5) sc_law_frames.nd) gnl))))))
    (sone (sret (etup (acons (etup (acons (ev 2) (acons (ev 3) (acons (ev 4) (acons (ev 5) anil))))) (acons (elstF (acons (etup (acons (ev 2) (acons (ev 3) (acons (ev 4) (acons (ev 5) anil))))) (acons (etup (acons (ev 2) (acons (ev 3) (acons (esub eint (ev 4)) (acons (ev 5) anil))))) (acons (etup (acons (ev 2) (acons (ev 3) (acons (esub eint (ev 5)) (acons (ev 4) anil))))) anil)))) anil))))))
theorem sc_mirrored_spot : FnScope ["spot"] ["spot"] (defScope s_mirrored_spot) := ⟨rfl, rfl, rfl, by decide +kernel, rfl, by decide +kernel, by decide +kernel⟩
abbrev b_mirrored_spot : MS := FL.b_mirrored_spot
theorem l_mirrored_spot : ∀ ds S Q E, FL.sp_mirrored_spot ds S Q E → ds.length = ["spot"].length := FL.l_mirrored_spot
theorem r_mirrored_spot : ∀ ds S Q E, FL.sp_mirrored_spot ds S Q E → b_mirrored_spot (mends Q E) (mstart 0 ds) S := FL.r_mirrored_spot
theorem d_mirrored_spot {f : Addr} {cdv : Value} {A : Around} {outer : List Env} {s : Shared} {H : Hp} {E : XK} (T : Txt K mg) (h_less : Has P w K mg base "less" ["one", "other"] 3 FL.sp_less) (hr : Room 3 (cxM P w K mg base ["spot"] "mirrored_spot" s_mirrored_spot f cdv A outer s H E).A) :
    PSs (cxM P w K mg base ["spot"] "mirrored_spot" s_mirrored_spot f cdv A outer s H E) (defBody s_mirrored_spot) (upS K (wM E) b_mirrored_spot) :=
  (sone (sret (etup (acons (ecall (h_less.mono (k := 3) (by decide)) hr tkM (acons (eglobT T.c_NOUGHT.1 T.c_NOUGHT.2) (acons (eix (ev 0) eint) anil))) (acons (eix (ev 0) eint) anil)))))
theorem sc_turned_spot : FnScope ["spot"] ["spot"] (defScope s_turned_spot) := ⟨rfl, rfl, rfl, by decide +kernel, rfl, by decide +kernel, by decide +kernel⟩
abbrev b_turned_spot : MS := FL.b_turned_spot
theorem l_turned_spot : ∀ ds S Q E, FL.sp_turned_spot ds S Q E → ds.length = ["spot"].length := FL.l_turned_spot
theorem r_turned_spot : ∀ ds S Q E, FL.sp_turned_spot ds S Q E → b_turned_spot (mends Q E) (mstart 0 ds) S := FL.r_turned_spot
theorem d_turned_spot {f : Addr} {cdv : Value} {A : Around} {outer : List Env} {s : Shared} {H : Hp} {E : XK} (T : Txt K mg) (h_less : Has P w K mg base "less" ["one", "other"] 3 FL.sp_less) (hr : Room 3 (cxM P w K mg base ["spot"] "turned_spot" s_turned_spot f cdv A outer s H E).A) :
    PSs (cxM P w K mg base ["spot"] "turned_spot" s_turned_spot f cdv A outer s H E) (defBody s_turned_spot) (upS K (wM E) b_turned_spot) :=
  (sone (sret (etup (acons (ecall (h_less.mono (k := 3) (by decide)) hr tkM (acons (eglobT T.c_NOUGHT.1 T.c_NOUGHT.2) (acons (eix (ev 0) eint) anil))) (acons (eix (ev 0) eint) anil)))))
theorem sc_moved_spot : FnScope ["one", "spot"] ["one", "spot"] (defScope s_moved_spot) := ⟨rfl, rfl, rfl, by decide +kernel, rfl, by decide +kernel, by decide +kernel⟩
abbrev b_moved_spot : MS := FL.b_moved_spot
theorem l_moved_spot : ∀ ds S Q E, FL.sp_moved_spot ds S Q E → ds.length = ["one", "spot"].length := FL.l_moved_spot
theorem r_moved_spot : ∀ ds S Q E, FL.sp_moved_spot ds S Q E → b_moved_spot (mends Q E) (mstart 0 ds) S := FL.r_moved_spot
theorem d_moved_spot {f : Addr} {cdv : Value} {A : Around} {outer : List Env} {s : Shared} {H : Hp} {E : XK} (T : Txt K mg) (h_plus : Has P w K mg base "plus" ["one", "other"] 3 FL.sp_plus) (hr : Room 3 (cxM P w K mg base ["one", "spot"] "moved_spot" s_moved_spot f cdv A outer s H E).A) :
    PSs (cxM P w K mg base ["one", "spot"] "moved_spot" s_moved_spot f cdv A outer s H E) (defBody s_moved_spot) (upS K (wM E) b_moved_spot) :=
  (sone (sret (etup (acons (ecall (h_plus.mono (k := 3) (by decide)) hr tkM (acons (eix (ev 0) eint) (acons (eix (ev 1) eint) anil))) (acons (ecall (h_plus.mono (k := 3) (by decide)) hr tkM (acons (eix (ev 0) eint) (acons (eix (ev 1) eint) anil))) anil)))))
theorem sc_law_laid : FnScope ["_law_pot_here", "_law_shuts", "_law_spots", "_law_one", "_law_other", "_law_shut", "_law_some"] ["_law_pot_here", "_law_shuts", "_law_spots"] (defScope s_law_laid) := ⟨rfl, rfl, rfl, by decide +kernel, rfl, by decide +kernel, by decide +kernel⟩
abbrev b_law_laid : MS := FL.b_laid
theorem l_law_laid : ∀ ds S Q E, FL.sp_laid ds S Q E → ds.length = ["_law_pot_here", "_law_shuts", "_law_spots"].length := FL.l_laid
theorem r_law_laid : ∀ ds S Q E, FL.sp_laid ds S Q E → b_law_laid (mends Q E) (mstart 4 ds) S := FL.r_laid
theorem d_law_laid {f : Addr} {cdv : Value} {A : Around} {outer : List Env} {s : Shared} {H : Hp} {E : XK} (T : Txt K mg) (h_law_apart : Has P w K mg base "_law_apart" ["_law_one", "_law_other"] 3 FL.sp_papart) (h_law_take : Has P w K mg base "_law_take" ["_law_pot_here", "_law_size"] 1 FL.sp_ptake) (hr : Room 3 (cxM P w K mg base ["_law_pot_here", "_law_shuts", "_law_spots", "_law_one", "_law_other", "_law_shut", "_law_some"] "_law_laid" s_law_laid f cdv A outer s H E).A) :
    PSs (cxM P w K mg base ["_law_pot_here", "_law_shuts", "_law_spots", "_law_one", "_law_other", "_law_shut", "_law_some"] "_law_laid" s_law_laid f cdv A outer s H E) (defBody s_law_laid) (upS K (wM E) b_law_laid) :=
  (sone (sfor poM rfl (izp T.f_zip (acons (ev 2) (acons (ecut (ev 2) (oso eint) ono) anil))) (gtp rfl (gcn (gnm (i := 3) sc_law_laid.nd) (gcn (gnm (i := 4) sc_law_laid.nd) gnl))) (scons (sset (i := 5) sc_law_laid.nd (etup (acons (eblt (ca_min rfl (u65 hr)) cl_minA T.f_min (acons (ev 3) (acons (ev 4) anil))) (acons (eblt (ca_max rfl (u65 hr)) cl_maxA T.f_max (acons (ev 3) (acons (ev 4) anil))) anil))))
    (sone (sif (L2.PW.pt (wand (tcmp (op_neA hr.units) ol_ne (ev 3) (ev 4)) (wand1 (tcmp op_notIn_seq ol_ninB ebl (ecompF (own := [("_law_some", 6)]) rfl sc_law_laid.nd (is (ev 1)) (blkOk_by (by first | decide +kernel | kernel_rfl | rfl)) (fun _ _ _ _ _ => (gonm sc_law_laid.nd (i := 6) (by decide))) (fun _ _ _ _ _ => tsNil) (fun _ _ _ _ _ => (ecall (h_law_apart.mono (k := 3) (by decide)) hr takes0 (acons (ev 5) (acons (ev 6) anil))))))))) (sone (sexpr (emt PySem.F.slot_list_insert PySem.F.type_list_insert mt_insert ml_insert (ev 1) (acons (ecall (h_law_take.mono (k := 3) (by decide)) hr tkM (acons (ev 0) (acons (eadd (eblt call_len cl_len T.f_len (acons (ev 1) anil) PySem.boot_len) eint) anil))) (acons (ev 5) anil))))) snil)))))
theorem sc_law_right : FnScope ["_law_plot_here", "_law_shuts", "_law_frames_here", "_law_far", "_law_told", "_law_kind"] ["_law_plot_here", "_law_shuts", "_law_frames_here", "_law_far", "_law_told"] (defScope s_law_right) := ⟨rfl, rfl, rfl, by decide +kernel, rfl, by decide +kernel, by decide +kernel⟩
def b_law_right : MS := (mSeq (mFor (iR1 (mCons (mC (.int 3)) mNil)) (gNm 5) (mIfS (mNot (mTru (mCall FL.sp_same (mCons (mOp rIxM (mVar 4) (mVar 5)) (mCons (mCall FL.sp_pplot (mCons (mOp rIxM (mVar 2) (mVar 5)) (mCons (mCall FL.sp_umoved_shuts (mCons (mVar 1) (mCons (mVar 5) (mCons (mVar 3) mNil)))) mNil))) mNil))))) (mRet (mC (.bl false))) mNext))
  (mRet (mC (.bl true))))
theorem d_law_right {f : Addr} {cdv : Value} {A : Around} {outer : List Env} {s : Shared} {H : Hp} {E : XK} (T : Txt K mg) (h_law_same : HasS P w K mg base "_law_same" ["_law_found", "_law_due"] 1 FL.sp_same) (h_law_plot : Has P w K mg base "_law_plot" ["_law_frame_here", "_law_shuts"] 3 FL.sp_pplot) (h_law_moved_shuts : Has P w K mg base "_law_moved_shuts" ["_law_shuts", "_law_kind", "_law_far"] 2 FL.sp_umoved_shuts) (hgu : (cxM P w K mg base ["_law_plot_here", "_law_shuts", "_law_frames_here", "_law_far", "_law_told", "_law_kind"] "_law_right" s_law_right f cdv A outer s H E).A.guards = some []) (hr : Room 3 (cxM P w K mg base ["_law_plot_here", "_law_shuts", "_law_frames_here", "_law_far", "_law_told", "_law_kind"] "_law_right" s_law_right f cdv A outer s H E).A) :
    PSs (cxM P w K mg base ["_law_plot_here", "_law_shuts", "_law_frames_here", "_law_far", "_law_told", "_law_kind"] "_law_right" s_law_right f cdv A outer s H E) (defBody s_law_right) (upS K (wM E) b_law_right) :=
  (scons (sfor poM rfl (ir1 T.f_range (acons eint anil)) (gnm (i := 5) sc_law_right.nd) (sone (sif (tnot (ttru (ecallS (h_law_same.mono (k := 3) (by decide)) hgu hr tkM (acons (eix (ev 4) (ev 5)) (acons (ecall (h_law_plot.mono (k := 3) (by decide)) hr tkM (acons (eix (ev 2) (ev 5)) (acons (ecall (h_law_moved_shuts.mono (k := 3) (by decide)) hr tkM (acons (ev 1) (acons (ev 5) (acons (ev 3) anil)))) anil))) anil))))) (sone (sret ebl)) snil)))
    (sone (sret ebl)))
theorem sc_moved : FnScope ["plot", "spot", "first", "second"] ["plot", "spot"] (defScope s_moved) := ⟨rfl, rfl, rfl, by decide +kernel, rfl, by decide +kernel, by decide +kernel⟩
abbrev b_moved : MS := FL.b_moved
theorem l_moved : ∀ ds S Q E, FL.sp_moved ds S Q E → ds.length = ["plot", "spot"].length := FL.l_moved
theorem r_moved : ∀ ds S Q E, FL.sp_moved ds S Q E → b_moved (mends Q E) (mstart 2 ds) S := FL.r_moved
theorem d_moved {f : Addr} {cdv : Value} {A : Around} {outer : List Env} {s : Shared} {H : Hp} {E : XK} (T : Txt K mg) (h_wall_of : Has P w K mg base "wall_of" ["one", "other"] 3 FL.sp_wall_of) (h_moved_spot : Has P w K mg base "moved_spot" ["one", "spot"] 4 FL.sp_moved_spot) (hr : Room 4 (cxM P w K mg base ["plot", "spot", "first", "second"] "moved" s_moved f cdv A outer s H E).A) :
    PSs (cxM P w K mg base ["plot", "spot", "first", "second"] "moved" s_moved f cdv A outer s H E) (defBody s_moved) (upS K (wM E) b_moved) :=
  (sone (sret (etyp call_tuple_of cl_tuple T.f_tuple (acons (ecompF (own := [("first", 2), ("second", 3)]) rfl sc_moved.nd (is (ev 0)) (blkOk_by (by first | decide +kernel | kernel_rfl | rfl)) (fun _ _ _ _ _ => (gotp rfl (gocn (gonm sc_moved.nd (i := 2) (by decide)) (gocn (gonm sc_moved.nd (i := 3) (by decide)) gonl)))) (fun _ _ _ _ _ => tsNil) (fun _ _ _ _ _ => (ecall (h_wall_of.mono (k := 4) (by decide)) hr takes0 (acons (ecall (h_moved_spot.mono (k := 4) (by decide)) hr takes0 (acons (ev 2) (acons (ev 1) anil))) (acons (ecall (h_moved_spot.mono (k := 4) (by decide)) hr takes0 (acons (ev 3) (acons (ev 1) anil))) anil))))) anil))))
theorem sc_mirrored : FnScope ["plot", "first", "second"] ["plot"] (defScope s_mirrored) := ⟨rfl, rfl, rfl, by decide +kernel, rfl, by decide +kernel, by decide +kernel⟩
abbrev b_mirrored : MS := FL.b_mirrored
theorem l_mirrored : ∀ ds S Q E, FL.sp_mirrored ds S Q E → ds.length = ["plot"].length := FL.l_mirrored
theorem r_mirrored : ∀ ds S Q E, FL.sp_mirrored ds S Q E → b_mirrored (mends Q E) (mstart 2 ds) S := FL.r_mirrored
theorem d_mirrored {f : Addr} {cdv : Value} {A : Around} {outer : List Env} {s : Shared} {H : Hp} {E : XK} (T : Txt K mg) (h_wall_of : Has P w K mg base "wall_of" ["one", "other"] 3 FL.sp_wall_of) (h_mirrored_spot : Has P w K mg base "mirrored_spot" ["spot"] 4 FL.sp_mirrored_spot) (hr : Room 4 (cxM P w K mg base ["plot", "first", "second"] "mirrored" s_mirrored f cdv A outer s H E).A) :
    PSs (cxM P w K mg base ["plot", "first", "second"] "mirrored" s_mirrored f cdv A outer s H E) (defBody s_mirrored) (upS K (wM E) b_mirrored) :=
  (sone (sret (etyp call_tuple_of cl_tuple T.f_tuple (acons (ecompF (own := [("first", 1), ("second", 2)]) rfl sc_mirrored.nd (is (ev 0)) (blkOk_by (by first | decide +kernel | kernel_rfl | rfl)) (fun _ _ _ _ _ => (gotp rfl (gocn (gonm sc_mirrored.nd (i := 1) (by decide)) (gocn (gonm sc_mirrored.nd (i := 2) (by decide)) gonl)))) (fun _ _ _ _ _ => tsNil) (fun _ _ _ _ _ => (ecall (h_wall_of.mono (k := 4) (by decide)) hr takes0 (acons (ecall (h_mirrored_spot.mono (k := 4) (by decide)) hr takes0 (acons (ev 1) anil)) (acons (ecall (h_mirrored_spot.mono (k := 4) (by decide)) hr takes0 (acons (ev 2) anil)) anil))))) anil))))
theorem sc_turned : FnScope ["plot", "first", "second"] ["plot"] (defScope s_turned) := ⟨rfl, rfl, rfl, by decide +kernel, rfl, by decide +kernel, by decide +kernel⟩
abbrev b_turned : MS := FL.b_turned
theorem l_turned : ∀ ds S Q E, FL.sp_turned ds S Q E → ds.length = ["plot"].length := FL.l_turned
theorem r_turned : ∀ ds S Q E, FL.sp_turned ds S Q E → b_turned (mends Q E) (mstart 2 ds) S := FL.r_turned
theorem d_turned {f : Addr} {cdv : Value} {A : Around} {outer : List Env} {s : Shared} {H : Hp} {E : XK} (T : Txt K mg) (h_wall_of : Has P w K mg base "wall_of" ["one", "other"] 3 FL.sp_wall_of) (h_turned_spot : Has P w K mg base "turned_spot" ["spot"] 4 FL.sp_turned_spot) (hr : Room 4 (cxM P w K mg base ["plot", "first", "second"] "turned" s_turned f cdv A outer s H E).A) :
    PSs (cxM P w K mg base ["plot", "first", "second"] "turned" s_turned f cdv A outer s H E) (defBody s_turned) (upS K (wM E) b_turned) :=
  (sone (sret (etyp call_tuple_of cl_tuple T.f_tuple (acons (ecompF (own := [("first", 1), ("second", 2)]) rfl sc_turned.nd (is (ev 0)) (blkOk_by (by first | decide +kernel | kernel_rfl | rfl)) (fun _ _ _ _ _ => (gotp rfl (gocn (gonm sc_turned.nd (i := 1) (by decide)) (gocn (gonm sc_turned.nd (i := 2) (by decide)) gonl)))) (fun _ _ _ _ _ => tsNil) (fun _ _ _ _ _ => (ecall (h_wall_of.mono (k := 4) (by decide)) hr takes0 (acons (ecall (h_turned_spot.mono (k := 4) (by decide)) hr takes0 (acons (ev 1) anil)) (acons (ecall (h_turned_spot.mono (k := 4) (by decide)) hr takes0 (acons (ev 2) anil)) anil))))) anil))))
theorem sc_law_shuts_here : FnScope ["_law_pot_here", "_law_most", "_law_shuts", "_law_wide", "_law_k", "_law_spots", "_law_j"] ["_law_pot_here", "_law_most"] (defScope s_law_shuts_here) := ⟨rfl, rfl, rfl, by decide +kernel, rfl, by decide +kernel, by decide +kernel⟩
abbrev b_law_shuts_here : MS := FL.b_pshuts
theorem l_law_shuts_here : ∀ ds S Q E, FL.sp_pshuts ds S Q E → ds.length = ["_law_pot_here", "_law_most"].length := FL.l_pshuts
theorem r_law_shuts_here : ∀ ds S Q E, FL.sp_pshuts ds S Q E → b_law_shuts_here (mends Q E) (mstart 5 ds) S := FL.r_pshuts
theorem d_law_shuts_here {f : Addr} {cdv : Value} {A : Around} {outer : List Env} {s : Shared} {H : Hp} {E : XK} (T : Txt K mg) (h_law_take : Has P w K mg base "_law_take" ["_law_pot_here", "_law_size"] 1 FL.sp_ptake) (h_law_laid : Has P w K mg base "_law_laid" ["_law_pot_here", "_law_shuts", "_law_spots"] 4 FL.sp_laid) (h_law_square : Has P w K mg base "_law_square" ["_law_pot_here", "_law_wide"] 3 FL.sp_psquare) (h_law_some_spot : Has P w K mg base "_law_some_spot" ["_law_pot_here", "_law_shuts", "_law_wide"] 3 FL.sp_some_spot) (hr : Room 4 (cxM P w K mg base ["_law_pot_here", "_law_most", "_law_shuts", "_law_wide", "_law_k", "_law_spots", "_law_j"] "_law_shuts_here" s_law_shuts_here f cdv A outer s H E).A) :
    PSs (cxM P w K mg base ["_law_pot_here", "_law_most", "_law_shuts", "_law_wide", "_law_k", "_law_spots", "_law_j"] "_law_shuts_here" s_law_shuts_here f cdv A outer s H E) (defBody s_law_shuts_here) (upS K (wM E) b_law_shuts_here) :=
  (scons (sset (i := 2) sc_law_shuts_here.nd (elst anil))
    (scons (sset (i := 3) sc_law_shuts_here.nd (eix (elstF (acons eint (acons eint (acons eint (acons eint anil))))) (ecall (h_law_take.mono (k := 4) (by decide)) hr tkM (acons (ev 0) (acons eint anil)))))
    (scons (sfor poM rfl (ir1 T.f_range (acons (ecall (h_law_take.mono (k := 4) (by decide)) hr tkM (acons (ev 0) (acons (eadd (ev 1) eint) anil))) anil)) (gnm (i := 4) sc_law_shuts_here.nd) (scons (ssetLc (i := 5) (own := [("_law_j", 6)]) rfl sc_law_shuts_here.nd (ir1 T.f_range (acons (eadd eint (ecall (h_law_take.mono (k := 4) (by decide)) hr tkM (acons (ev 0) (acons eint anil)))) anil)) (blkOk_by (by first | decide +kernel | kernel_rfl | rfl)) (fun _ _ _ _ _ => (gonm sc_law_shuts_here.nd (i := 6) (by decide))) (fun _ _ _ _ _ => tsNil) (fun _ _ _ _ _ => (ecall (h_law_some_spot.mono (k := 4) (by decide)) hr takes0 (acons (ev 0) (acons (ev 2) (acons (ev 3) anil))))))
    (scons (sifJ (tcmp (op_eqA hr.units) ol_eq (ecall (h_law_take.mono (k := 4) (by decide)) hr tkM (acons (ev 0) (acons eint anil))) eint) (sone (sexpr (emt PySem.F.slot_list_append PySem.F.type_list_append mt_append ml_append (ev 5) (acons (eix (ev 5) eint) anil)))) snil)
    (scons (sifJ (tcmp (op_eqA hr.units) ol_eq (ecall (h_law_take.mono (k := 4) (by decide)) hr tkM (acons (ev 0) (acons eint anil))) eint) (sone (sset (i := 5) sc_law_shuts_here.nd (ecall (h_law_square.mono (k := 4) (by decide)) hr tkM (acons (ev 0) (acons (ev 3) anil))))) snil)
    (sone (sifJ (tcmp (oa_lt (u65 hr)) la_lt (eblt call_len cl_len T.f_len (acons (ev 2) anil) PySem.boot_len) eint) (sone (sexpr (ecall (h_law_laid.mono (k := 4) (by decide)) hr tkM (acons (ev 0) (acons (ev 2) (acons (ev 5) anil)))))) snil))))))
    (sone (sret (ev 2))))))
theorem sc_law : FnScope ["_law_script", "_law_k", "_law_pot_here", "_law_shuts", "_law_frame_here", "_law_frames_here", "_law_plot_here", "_law_far", "_law_by", "_law_back", "_law_told", "_law_order_here", "_law_handed", "_law_due", "_law_number"] ["_law_script"] (defScope s_law) := ⟨rfl, rfl, rfl, by decide +kernel, rfl, by decide +kernel, by decide +kernel⟩
def b_law : MS := (mSeq (mFor (iR1 (mCons (mOp rAdd (mC (.int 1)) (mBlt bMinA (mCons (mC (.int 3)) (mCons (mBlt bLen (mCons (mVar 0) mNil)) mNil)))) mNil)) (gNm 1) (mSeq (mSet 2 (mCall FL.sp_pot (mCons (mVar 0) (mCons (mVar 1) mNil))))
  (mSeq (mSet 3 (mCall FL.sp_pshuts (mCons (mVar 2) (mCons (mC (.int 9)) mNil))))
  (mSeq (mIfJ (mTst (mOp rEqM (mCall FL.sp_ptake (mCons (mVar 2) (mCons (mC (.int 10)) mNil))) (mC (.int 0)))) (mSet 3 (mCall FL.sp_bsquares (mCons (mVar 2) (mCons (mC (.int 13)) mNil)))) mNext)
  (mSeq (mAsg (mCall FL.sp_frames (mCons (mVar 2) (mCons (mBlt bLen (mCons (mVar 3) mNil)) mNil))) (gTp 2 (gCn (gNm 4) (gCn (gNm 5) gNl))))
  (mSeq (mSet 6 (mCall FL.sp_pplot (mCons (mVar 4) (mCons (mVar 3) mNil))))
  (mSeq (mSet 7 (mTup (mCons (mOp rSub (mCall FL.sp_ptake (mCons (mVar 2) (mCons (mC (.int 99)) mNil))) (mC (.int 49))) (mCons (mOp rSub (mCall FL.sp_ptake (mCons (mVar 2) (mCons (mC (.int 99)) mNil))) (mC (.int 49))) mNil))))
  (mSeq (mSet 8 (mCall FL.sp_given (mCons (mTup (mCons (mOp rIxM (mVar 4) (mC (.int 0))) (mCons (mOp rIxM (mVar 4) (mC (.int 1))) (mCons (mC (.int 0)) (mCons (mC (.int 0)) mNil))))) (mCons (mVar 7) mNil))))
  (mSeq (mSet 9 (mCall FL.sp_given (mCons (mTup (mCons (mOp rIxM (mVar 4) (mC (.int 0))) (mCons (mOp rIxM (mVar 4) (mC (.int 1))) (mCons (mC (.int 0)) (mCons (mC (.int 0)) mNil))))) (mCons (mTup (mCons (mOp rSub (mC (.int 0)) (mOp rIxM (mVar 7) (mC (.int 0)))) (mCons (mOp rSub (mC (.int 0)) (mOp rIxM (mVar 7) (mC (.int 1)))) mNil))) mNil))))
  (mSeq (mSet 10 (mLstF (mCons (mCall FL.sp_moved (mCons (mVar 6) (mCons (mVar 8) mNil))) (mCons (mCall FL.sp_mirrored (mCons (mVar 6) mNil)) (mCons (mCall FL.sp_turned (mCons (mVar 6) mNil)) mNil)))))
  (mSeq (mIfS (mOr (mNot (mTru (mCall sp_law_right (mCons (mVar 6) (mCons (mVar 3) (mCons (mVar 5) (mCons (mVar 7) (mCons (mVar 10) mNil)))))))) (mTst (mOp rNeM (mVar 6) (mCall FL.sp_pplot (mCons (mVar 4) (mCons (mVar 3) mNil)))))) (mRet (mC (.bl false))) mNext)
  (mSeq (mIfS (mOr (mTst (mOp rNeM (mCall FL.sp_moved (mCons (mOp rIxM (mVar 10) (mC (.int 0))) (mCons (mVar 9) mNil))) (mVar 6))) (mOr (mTst (mOp rNeM (mCall FL.sp_mirrored (mCons (mOp rIxM (mVar 10) (mC (.int 1))) mNil)) (mVar 6))) (mTst (mOp rNeM (mCall FL.sp_turned (mCons (mCall FL.sp_turned (mCons (mCall FL.sp_turned (mCons (mOp rIxM (mVar 10) (mC (.int 2))) mNil)) mNil)) mNil)) (mVar 6))))) (mRet (mC (.bl false))) mNext)
  (mSeq (mSet 11 (mCall FL.sp_border (mCons (mVar 2) (mCons (mBlt bLen (mCons (mVar 3) mNil)) mNil))))
  (mSeq (mSet 12 (mBlt bListF (mCons (mVar 11) mNil)))
  (mSeq (mSet 13 (mBlt bTuple (mCons (mCompF (iS (mVar 11)) (gNm 14) mYes (mOp rIxM (mVar 6) (mVar 14)) [14]) mNil)))
  (mIfS (mOr (mNot (mTru (mCall FL.sp_same (mCons (mCall FL.sp_in_order (mCons (mVar 6) (mCons (mVar 12) mNil))) (mCons (mVar 13) mNil))))) (mTst (mOp rNeM (mVar 12) (mVar 11)))) (mRet (mC (.bl false))) mNext))))))))))))))))
  (mRet (mC (.bl true))))
theorem d_law {f : Addr} {cdv : Value} {A : Around} {outer : List Env} {s : Shared} {H : Hp} {E : XK} (T : Txt K mg) (h_law_same : HasS P w K mg base "_law_same" ["_law_found", "_law_due"] 1 FL.sp_same) (h_in_order : Has P w K mg base "in_order" ["plot", "order"] 1 FL.sp_in_order) (h_law_order : Has P w K mg base "_law_order" ["_law_pot_here", "_law_many"] 2 FL.sp_border) (h_turned : Has P w K mg base "turned" ["plot"] 5 FL.sp_turned) (h_mirrored : Has P w K mg base "mirrored" ["plot"] 5 FL.sp_mirrored) (h_moved : Has P w K mg base "moved" ["plot", "spot"] 5 FL.sp_moved) (h_law_plot : Has P w K mg base "_law_plot" ["_law_frame_here", "_law_shuts"] 3 FL.sp_pplot) (h_law_right : HasS P w K mg base "_law_right" ["_law_plot_here", "_law_shuts", "_law_frames_here", "_law_far", "_law_told"] 4 sp_law_right) (h_law_given : Has P w K mg base "_law_given" ["_law_frame_here", "_law_spot"] 2 FL.sp_given) (h_law_take : Has P w K mg base "_law_take" ["_law_pot_here", "_law_size"] 1 FL.sp_ptake) (h_law_frames : Has P w K mg base "_law_frames" ["_law_pot_here", "_law_many"] 3 FL.sp_frames) (h_law_squares : Has P w K mg base "_law_squares" ["_law_pot_here", "_law_most"] 2 FL.sp_bsquares) (h_law_shuts_here : Has P w K mg base "_law_shuts_here" ["_law_pot_here", "_law_most"] 5 FL.sp_pshuts) (h_law_pot : Has P w K mg base "_law_pot" ["_law_script", "_law_k"] 1 FL.sp_pot) (hgu : (cxM P w K mg base ["_law_script", "_law_k", "_law_pot_here", "_law_shuts", "_law_frame_here", "_law_frames_here", "_law_plot_here", "_law_far", "_law_by", "_law_back", "_law_told", "_law_order_here", "_law_handed", "_law_due", "_law_number"] "law" s_law f cdv A outer s H E).A.guards = some []) (hr : Room 5 (cxM P w K mg base ["_law_script", "_law_k", "_law_pot_here", "_law_shuts", "_law_frame_here", "_law_frames_here", "_law_plot_here", "_law_far", "_law_by", "_law_back", "_law_told", "_law_order_here", "_law_handed", "_law_due", "_law_number"] "law" s_law f cdv A outer s H E).A) :
    PSs (cxM P w K mg base ["_law_script", "_law_k", "_law_pot_here", "_law_shuts", "_law_frame_here", "_law_frames_here", "_law_plot_here", "_law_far", "_law_by", "_law_back", "_law_told", "_law_order_here", "_law_handed", "_law_due", "_law_number"] "law" s_law f cdv A outer s H E) (defBody s_law) (upS K (wM E) b_law) :=
  (scons (sfor poM rfl (ir1 T.f_range (acons (eadd eint (eblt (ca_min rfl (u65 hr)) cl_minA T.f_min (acons eint (acons (eblt call_len cl_len T.f_len (acons (ev 0) anil) PySem.boot_len) anil)))) anil)) (gnm (i := 1) sc_law.nd) (scons (sset (i := 2) sc_law.nd (ecall (h_law_pot.mono (k := 5) (by decide)) hr tkM (acons (ev 0) (acons (ev 1) anil))))
    (scons (sset (i := 3) sc_law.nd (ecall (h_law_shuts_here.mono (k := 5) (by decide)) hr tkM (acons (ev 2) (acons eint anil))))
    (scons (sifJ (tcmp (op_eqA hr.units) ol_eq (ecall (h_law_take.mono (k := 5) (by decide)) hr tkM (acons (ev 2) (acons eint anil))) eint) (sone (sset (i := 3) sc_law.nd (ecall (h_law_squares.mono (k := 5) (by decide)) hr tkM (acons (ev 2) (acons eint anil))))) snil)
    (scons (sasg (ecall (h_law_frames.mono (k := 5) (by decide)) hr tkM (acons (ev 2) (acons (eblt call_len cl_len T.f_len (acons (ev 3) anil) PySem.boot_len) anil))) (gtp rfl (gcn (gnm (i := 4) sc_law.nd) (gcn (gnm (i := 5) sc_law.nd) gnl))))
    (scons (sset (i := 6) sc_law.nd (ecall (h_law_plot.mono (k := 5) (by decide)) hr tkM (acons (ev 4) (acons (ev 3) anil))))
    (scons (sset (i := 7) sc_law.nd (etup (acons (esub (ecall (h_law_take.mono (k := 5) (by decide)) hr tkM (acons (ev 2) (acons eint anil))) eint) (acons (esub (ecall (h_law_take.mono (k := 5) (by decide)) hr tkM (acons (ev 2) (acons eint anil))) eint) anil))))
    (scons (sset (i := 8) sc_law.nd (ecall (h_law_given.mono (k := 5) (by decide)) hr tkM (acons (etup (acons (eix (ev 4) eint) (acons (eix (ev 4) eint) (acons eint (acons eint anil))))) (acons (ev 7) anil))))
    (scons (sset (i := 9) sc_law.nd (ecall (h_law_given.mono (k := 5) (by decide)) hr tkM (acons (etup (acons (eix (ev 4) eint) (acons (eix (ev 4) eint) (acons eint (acons eint anil))))) (acons (etup (acons (esub eint (eix (ev 7) eint)) (acons (esub eint (eix (ev 7) eint)) anil))) anil))))
    (scons (sset (i := 10) sc_law.nd (elstF (acons (ecall (h_moved.mono (k := 5) (by decide)) hr tkM (acons (ev 6) (acons (ev 8) anil))) (acons (ecall (h_mirrored.mono (k := 5) (by decide)) hr tkM (acons (ev 6) anil)) (acons (ecall (h_turned.mono (k := 5) (by decide)) hr tkM (acons (ev 6) anil)) anil)))))
    (scons (sif (L2.PW.pt (wor (tnot (ttru (ecallS (h_law_right.mono (k := 5) (by decide)) hgu hr tkM (acons (ev 6) (acons (ev 3) (acons (ev 5) (acons (ev 7) (acons (ev 10) anil)))))))) (wor1 (tcmp (op_neA hr.units) ol_ne (ev 6) (ecall (h_law_plot.mono (k := 5) (by decide)) hr tkM (acons (ev 4) (acons (ev 3) anil))))))) (sone (sret ebl)) snil)
    (scons (sif (L2.PW.pt (wor (tcmp (op_neA hr.units) ol_ne (ecall (h_moved.mono (k := 5) (by decide)) hr tkM (acons (eix (ev 10) eint) (acons (ev 9) anil))) (ev 6)) (wor (tcmp (op_neA hr.units) ol_ne (ecall (h_mirrored.mono (k := 5) (by decide)) hr tkM (acons (eix (ev 10) eint) anil)) (ev 6)) (wor1 (tcmp (op_neA hr.units) ol_ne (ecall (h_turned.mono (k := 5) (by decide)) hr tkM (acons (ecall (h_turned.mono (k := 5) (by decide)) hr tkM (acons (ecall (h_turned.mono (k := 5) (by decide)) hr tkM (acons (eix (ev 10) eint) anil)) anil)) anil)) (ev 6)))))) (sone (sret ebl)) snil)
    (scons (sset (i := 11) sc_law.nd (ecall (h_law_order.mono (k := 5) (by decide)) hr tkM (acons (ev 2) (acons (eblt call_len cl_len T.f_len (acons (ev 3) anil) PySem.boot_len) anil))))
    (scons (sset (i := 12) sc_law.nd (etyp call_list_of cl_listF T.f_list (acons (ev 11) anil)))
    (scons (sset (i := 13) (hs := by kernel_rfl) sc_law.nd (etyp call_tuple_of cl_tuple T.f_tuple (acons (ecompF (own := [("_law_number", 14)]) rfl sc_law.nd (is (ev 11)) (blkOk_by (by first | decide +kernel | kernel_rfl | rfl)) (fun _ _ _ _ _ => (gonm sc_law.nd (i := 14) (by decide))) (fun _ _ _ _ _ => tsNil) (fun _ _ _ _ _ => (eix (ev 6) (ev 14)))) anil)))
    (sone (sif (L2.PW.pt (wor (tnot (ttru (ecallS (h_law_same.mono (k := 5) (by decide)) hgu hr tkM (acons (ecall (h_in_order.mono (k := 5) (by decide)) hr tkM (acons (ev 6) (acons (ev 12) anil))) (acons (ev 13) anil))))) (wor1 (tcmp (op_neA hr.units) ol_ne (ev 12) (ev 11))))) (sone (sret ebl)) snil)))))))))))))))))
    (sone (sret ebl)))
end
end Lk60
-- FLQ        
set_option maxRecDepth 100000
set_option maxHeartbeats 4000000
namespace Lk60
open PySem PySem.Spec L2 ML FL
local macro_rules | `(tactic| simp $c:optConfig $[$d:discharger]? only [gv] $[$l:location]?) => `(tactic| simp $c $[$d]? only [↓ML.q_mSeq, ↓ML.q_mC, ↓ML.q_mOp, ↓ML.q_mUn, ↓ML.q_mTst, ↓ML.q_mNot, ↓ML.q_mNotV, ↓ML.q_mRet, ↓ML.q_mRetN, ↓ML.q_mExpr, ↓ML.q_mNext, ↓ML.q_mBreak, ↓ML.q_mCont, ↓ML.q_mAsg, ↓ML.q_gSb, ↓ML.q_mTup, ↓ML.q_mLst, ↓ML.q_mLstF, ↓ML.q_mCons, ↓ML.q_mNil, ↓ML.q_mBlt, ↓ML.q_rEqM, ↓ML.q_rNeM, ↓ML.q_iR1, ↓ML.q_iR2, ↓ML.q_iEn, ↓ML.q_iZp, ↓ML.q_mMt, ↓ML.q_mMt0, ↓ML.q_mYes, ↓ML.q_mCut, ↓ML.q_oNo, ↓ML.q_oSo, ↓ML.l_mCall, ↓ML.l_mAnd, ↓ML.l_mOr, ↓ML.l_mAndV, ↓ML.l_mOrV, ↓ML.l_mIf, ↓ML.l_mIfS, ↓ML.l_mChain, ↓ML.l_mVar, ↓ML.l_mFor, ↓ML.l_mWhile, ↓ML.l_mComp, ↓ML.l_mCompF, ↓ML.l_optP, ↓ML.l_Go, ↓ML.Hold_v, ↓ML.l_mSet, ↓ML.l_gNm, ↓ML.l_mPar, ↓ML.l_rIxM, ↓ML.l_rSetM, ↓ML.l_rInt, ↓ML.l_rInt0, ↓ML.l_rAdd_int, ↓ML.l_rAdd_str, ↓ML.l_rAdd_tup, ↓ML.l_rNeg, ↓ML.l_rIsN, ↓ML.l_rNotN, ↓ML.l_rIsBM, ↓ML.l_mTru, ↓ML.l_bLen, ↓ML.l_bAbs, ↓ML.l_bMax2, ↓ML.l_bMin2, ↓ML.l_bInt_i, ↓ML.l_bInt_b, ↓ML.l_bTuple, ↓ML.l_bListF, ↓ML.l_bList, ↓ML.l_mIsi, ↓ML.l_iL, ↓ML.l_iT, ↓ML.l_gTp, ↓ML.l_gLs, ↓ML.l_gCn, ↓ML.l_gNl, ↓ML.l_mtAppend, ML.Hold_v, ML.l_mVar_z, ML.l_mVar_s, ML.OptP_some, ML.Go_eq, ML.IteP_true, ML.IteP_false, ML.lstOf_ref', ML.lstOf_lst, ML.lstOf_scr, ML.lstOf_tup, ML.ownOf_ref', ML.ownOf_lst, ML.seqOf_tup', ML.seqOf_lst', ML.seqOf_scr', ML.seqOf_ref', ML.olP_lst, ML.tupOf_tup, ML.ixL_lit, ML.ixL_cast, ML.ixL_m1, ML.setAt_lit, ML.setAt_cast, ML.truD_bl, ML.truD_int, ML.truD_tup, ML.truD_lst, ML.truD_scr, ML.truD_non, ML.lenD_tup, ML.lenD_lst, ML.lenD_scr, ML.lenD_ref, ML.tyD_non, ML.tyD_bl, ML.tyD_int, ML.tyD_str, ML.tyD_tup, ML.tyD_lst, ML.szl, ML.szlt, ML.cpow_lit, ML.mulok_rl, ML.mulok_ll, ML.divok_l, ML.put_same, ML.put_put, ML.q_wipeM, ML.deq_int, ML.deq_bl, ML.deq_str, ML.deq_non, ML.eqOk_int, ML.eqOk_bl, ML.isTy_NoneType_int, ML.isTy_NoneType_bool, ML.isTy_NoneType_tuple, ML.isTy_NoneType_list, ML.isTy_NoneType_str, ML.isTy_bool_int, ML.isTy_bool_bool, ML.isTy_bool_tuple, ML.isTy_bool_list, ML.isTy_bool_str, ML.isTy_int_int, ML.isTy_int_bool, ML.isTy_int_tuple, ML.isTy_int_list, ML.isTy_int_str, ML.isTy_str_int, ML.isTy_str_bool, ML.isTy_str_tuple, ML.isTy_str_list, ML.isTy_str_str, ML.isTy_tuple_int, ML.isTy_tuple_bool, ML.isTy_tuple_tuple, ML.isTy_tuple_list, ML.isTy_tuple_str, ML.isTy_list_int, ML.isTy_list_bool, ML.isTy_list_tuple, ML.isTy_list_list, ML.isTy_list_str, ML.isTy_dict_int, ML.isTy_dict_bool, ML.isTy_dict_tuple, ML.isTy_dict_list, ML.isTy_dict_str, FL.tup_fr, FL.tup_sp, FL.tup_wl, FL.tupOf_fr, FL.tupOf_sp, FL.tupOf_wl, FL.nz0, FL.nz1, FL.nz2, FL.nz3, FL.look_non, FL.look_int, FL.look_bl, FL.look_str, FL.look_tup, FL.look_lst, FL.look_scr, FL.seqOf_fr, FL.seqOf_sp, FL.seqOf_wl, FL.look_fr, FL.look_sp, FL.look_wl, FL.eqOk_fr, FL.eqOk_sp, FL.eqOk_wl, FL.deq_fr, FL.deq_sp, FL.deq_wl, FL.tyD_fr, FL.tyD_sp, FL.tyD_wl, FL.isN_fr, FL.isN_sp, FL.isN_wl, FL.lenD_sp, FL.lenD_wl, FL.rAdd_wl_tup, List.length_map, List.map_cons, List.map_nil, List.replicate, List.set_cons_zero, List.set_cons_succ, List.getElem?_cons_zero, List.getElem?_cons_succ, List.cons_append, List.nil_append, List.length_cons, List.length_nil, Option.bind_some, Option.map_some, ↓reduceIte, Nat.reduceAdd, Nat.reduceSub, Nat.reduceLT, Nat.reduceLeDiff, Nat.zero_add, decide_eq_true_eq, Bool.not_eq_true, ne_eq, reduceCtorEq, not_false_eq_true, true_and, and_true, Bool.false_eq_true, Bool.not_true, Bool.not_false, decide_true, decide_false, not_true_eq_false, eq_self, Bool.not_eq_eq_eq_not, if_true, if_false, decide_eq_false_iff_not, ML.ncast, Int.reduceToNat, Int.reducePow, Int.reduceAdd, Int.reduceSub, Int.reduceMul, Int.reduceNeg, Int.reduceLT, Int.reduceLE, Int.reduceEq, Nat.reduceEqDiff, Int.zero_add, gt_iff_lt, beq_self_eq_true, Bool.true_beq, Bool.false_beq, Bool.and_true, Bool.and_false, Bool.true_and, Bool.false_and, ↓ML.l_mtInsert, ↓ML.l_mtReverse, ↓ML.l_mtClear, ↓ML.l_bSortU, ↓ML.q_mMt0, ↓ML.l_bMaxL, ↓ML.l_bMinL, ↓ML.l_aLt_int, ↓ML.l_aLt_u, ↓ML.l_aGt_int, ↓ML.l_aGt_u, ↓ML.l_aLe_int, ↓ML.l_aLe_u, ↓ML.l_aGe_int, ↓ML.l_aGe_u, ↓ML.l_bMaxA_int, ↓ML.l_bMaxA_u, ↓ML.l_bMinA_int, ↓ML.l_bMinA_u, ML.tup_u, ML.tupOf_u, ML.seqOf_u, ML.sqI_u, ML.look_u, ML.isN_u, ML.lenD_u, ML.tyD_u, ML.tup_uw, ML.tupOf_uw, ML.seqOf_uw, ML.sqI_uw, ML.look_uw, ML.isN_uw, ML.lenD_uw, ML.tyD_uw, ML.eqOk_u, ML.eqOk_uw, ML.deq_u, ML.deq_uw, ML.in_uw, ↓ML.l_mRaise, ↓ML.l_mTry, ↓ML.l_mIsE, ↓ML.l_mIsV, ↓ML.l_mtCount, ↓ML.l_rAddS_rl, ↓ML.l_rAddS_ll, ML.excD_ref, ML.excOf_exc, ML.blsOf_nil, ML.blsOf_cons, ML.endM_nx, ML.endM_rt, ↓ML.l_mYes, ↓ML.l_iS, ↓ML.l_mIfJ, ↓ML.l_mJ, ↓ML.CrollP_nil, ↓ML.CrollP_cons, ↓ML.CrA_at, ↓ML.FrollP_nil, ↓ML.FrollP_cons, ML.isN_non, ML.isN_int, ML.isN_bl, ML.isN_str, ML.isN_tup, ML.isN_lst, ML.isN_ref, ML.sqI_tup, ML.sqI_lst, ML.sqI_scr, ML.sqI_ref, ML.sqI_at, ML.rngD_0, ML.rngD_1, ML.rngD_2, ML.rngD_3, ML.rngD_4, ML.rngD_6, ML.q_wipeM_nil, ML.q_wipeM_cons, FL.sqI_sp, FL.sqI_wl, FL.l_rAdd_rl, FL.l_rAdd_ll, FL.l_rAdd_lr, FL.l_rAdd_rr, FL.in_ints, FL.in_lu, ↓ML.l_mListR, ↓ML.l_mDIn, ↓ML.l_mDPut, ↓ML.l_mDNew, ML.dtD_ref, ML.dtO_dT, ML.keysD_nil, ML.keysD_int, ↓ML.l_mRev2, ↓ML.l_bSum, ↓ML.l_iEnT, ↓ML.l_mSortSet, ↓ML.l_mSNew, ↓ML.l_mSGet, ↓ML.l_mSSetd, ↓ML.l_mKNew, ↓ML.l_mKIn, ↓ML.l_mKGet, ↓ML.l_mKPut, ML.dsD_ref, ML.dsO_dS, ML.dkD_ref, ML.dkO_dK, ML.keyD_i, ↓ML.l_rRepS_l, ↓ML.l_rInX, ↓ML.l_mtIndexX, ↓ML.l_bMinU, ↓ML.l_bMaxU, ↓ML.l_bReprO, ↓ML.l_rEqS, ↓ML.l_bSortI, ↓ML.l_rNeX] $[$l]?)
local macro_rules | `(tactic| simp $c:optConfig $[$d:discharger]? only [gv, $ls,*] $[$l:location]?) => `(tactic| simp $c $[$d]? only [↓ML.q_mSeq, ↓ML.q_mC, ↓ML.q_mOp, ↓ML.q_mUn, ↓ML.q_mTst, ↓ML.q_mNot, ↓ML.q_mNotV, ↓ML.q_mRet, ↓ML.q_mRetN, ↓ML.q_mExpr, ↓ML.q_mNext, ↓ML.q_mBreak, ↓ML.q_mCont, ↓ML.q_mAsg, ↓ML.q_gSb, ↓ML.q_mTup, ↓ML.q_mLst, ↓ML.q_mLstF, ↓ML.q_mCons, ↓ML.q_mNil, ↓ML.q_mBlt, ↓ML.q_rEqM, ↓ML.q_rNeM, ↓ML.q_iR1, ↓ML.q_iR2, ↓ML.q_iEn, ↓ML.q_iZp, ↓ML.q_mMt, ↓ML.q_mMt0, ↓ML.q_mYes, ↓ML.q_mCut, ↓ML.q_oNo, ↓ML.q_oSo, ↓ML.l_mCall, ↓ML.l_mAnd, ↓ML.l_mOr, ↓ML.l_mAndV, ↓ML.l_mOrV, ↓ML.l_mIf, ↓ML.l_mIfS, ↓ML.l_mChain, ↓ML.l_mVar, ↓ML.l_mFor, ↓ML.l_mWhile, ↓ML.l_mComp, ↓ML.l_mCompF, ↓ML.l_optP, ↓ML.l_Go, ↓ML.Hold_v, ↓ML.l_mSet, ↓ML.l_gNm, ↓ML.l_mPar, ↓ML.l_rIxM, ↓ML.l_rSetM, ↓ML.l_rInt, ↓ML.l_rInt0, ↓ML.l_rAdd_int, ↓ML.l_rAdd_str, ↓ML.l_rAdd_tup, ↓ML.l_rNeg, ↓ML.l_rIsN, ↓ML.l_rNotN, ↓ML.l_rIsBM, ↓ML.l_mTru, ↓ML.l_bLen, ↓ML.l_bAbs, ↓ML.l_bMax2, ↓ML.l_bMin2, ↓ML.l_bInt_i, ↓ML.l_bInt_b, ↓ML.l_bTuple, ↓ML.l_bListF, ↓ML.l_bList, ↓ML.l_mIsi, ↓ML.l_iL, ↓ML.l_iT, ↓ML.l_gTp, ↓ML.l_gLs, ↓ML.l_gCn, ↓ML.l_gNl, ↓ML.l_mtAppend, ML.Hold_v, ML.l_mVar_z, ML.l_mVar_s, ML.OptP_some, ML.Go_eq, ML.IteP_true, ML.IteP_false, ML.lstOf_ref', ML.lstOf_lst, ML.lstOf_scr, ML.lstOf_tup, ML.ownOf_ref', ML.ownOf_lst, ML.seqOf_tup', ML.seqOf_lst', ML.seqOf_scr', ML.seqOf_ref', ML.olP_lst, ML.tupOf_tup, ML.ixL_lit, ML.ixL_cast, ML.ixL_m1, ML.setAt_lit, ML.setAt_cast, ML.truD_bl, ML.truD_int, ML.truD_tup, ML.truD_lst, ML.truD_scr, ML.truD_non, ML.lenD_tup, ML.lenD_lst, ML.lenD_scr, ML.lenD_ref, ML.tyD_non, ML.tyD_bl, ML.tyD_int, ML.tyD_str, ML.tyD_tup, ML.tyD_lst, ML.szl, ML.szlt, ML.cpow_lit, ML.mulok_rl, ML.mulok_ll, ML.divok_l, ML.put_same, ML.put_put, ML.q_wipeM, ML.deq_int, ML.deq_bl, ML.deq_str, ML.deq_non, ML.eqOk_int, ML.eqOk_bl, ML.isTy_NoneType_int, ML.isTy_NoneType_bool, ML.isTy_NoneType_tuple, ML.isTy_NoneType_list, ML.isTy_NoneType_str, ML.isTy_bool_int, ML.isTy_bool_bool, ML.isTy_bool_tuple, ML.isTy_bool_list, ML.isTy_bool_str, ML.isTy_int_int, ML.isTy_int_bool, ML.isTy_int_tuple, ML.isTy_int_list, ML.isTy_int_str, ML.isTy_str_int, ML.isTy_str_bool, ML.isTy_str_tuple, ML.isTy_str_list, ML.isTy_str_str, ML.isTy_tuple_int, ML.isTy_tuple_bool, ML.isTy_tuple_tuple, ML.isTy_tuple_list, ML.isTy_tuple_str, ML.isTy_list_int, ML.isTy_list_bool, ML.isTy_list_tuple, ML.isTy_list_list, ML.isTy_list_str, ML.isTy_dict_int, ML.isTy_dict_bool, ML.isTy_dict_tuple, ML.isTy_dict_list, ML.isTy_dict_str, FL.tup_fr, FL.tup_sp, FL.tup_wl, FL.tupOf_fr, FL.tupOf_sp, FL.tupOf_wl, FL.nz0, FL.nz1, FL.nz2, FL.nz3, FL.look_non, FL.look_int, FL.look_bl, FL.look_str, FL.look_tup, FL.look_lst, FL.look_scr, FL.seqOf_fr, FL.seqOf_sp, FL.seqOf_wl, FL.look_fr, FL.look_sp, FL.look_wl, FL.eqOk_fr, FL.eqOk_sp, FL.eqOk_wl, FL.deq_fr, FL.deq_sp, FL.deq_wl, FL.tyD_fr, FL.tyD_sp, FL.tyD_wl, FL.isN_fr, FL.isN_sp, FL.isN_wl, FL.lenD_sp, FL.lenD_wl, FL.rAdd_wl_tup, List.length_map, List.map_cons, List.map_nil, List.replicate, List.set_cons_zero, List.set_cons_succ, List.getElem?_cons_zero, List.getElem?_cons_succ, List.cons_append, List.nil_append, List.length_cons, List.length_nil, Option.bind_some, Option.map_some, ↓reduceIte, Nat.reduceAdd, Nat.reduceSub, Nat.reduceLT, Nat.reduceLeDiff, Nat.zero_add, decide_eq_true_eq, Bool.not_eq_true, ne_eq, reduceCtorEq, not_false_eq_true, true_and, and_true, Bool.false_eq_true, Bool.not_true, Bool.not_false, decide_true, decide_false, not_true_eq_false, eq_self, Bool.not_eq_eq_eq_not, if_true, if_false, decide_eq_false_iff_not, ML.ncast, Int.reduceToNat, Int.reducePow, Int.reduceAdd, Int.reduceSub, Int.reduceMul, Int.reduceNeg, Int.reduceLT, Int.reduceLE, Int.reduceEq, Nat.reduceEqDiff, Int.zero_add, gt_iff_lt, beq_self_eq_true, Bool.true_beq, Bool.false_beq, Bool.and_true, Bool.and_false, Bool.true_and, Bool.false_and, ↓ML.l_mtInsert, ↓ML.l_mtReverse, ↓ML.l_mtClear, ↓ML.l_bSortU, ↓ML.q_mMt0, ↓ML.l_bMaxL, ↓ML.l_bMinL, ↓ML.l_aLt_int, ↓ML.l_aLt_u, ↓ML.l_aGt_int, ↓ML.l_aGt_u, ↓ML.l_aLe_int, ↓ML.l_aLe_u, ↓ML.l_aGe_int, ↓ML.l_aGe_u, ↓ML.l_bMaxA_int, ↓ML.l_bMaxA_u, ↓ML.l_bMinA_int, ↓ML.l_bMinA_u, ML.tup_u, ML.tupOf_u, ML.seqOf_u, ML.sqI_u, ML.look_u, ML.isN_u, ML.lenD_u, ML.tyD_u, ML.tup_uw, ML.tupOf_uw, ML.seqOf_uw, ML.sqI_uw, ML.look_uw, ML.isN_uw, ML.lenD_uw, ML.tyD_uw, ML.eqOk_u, ML.eqOk_uw, ML.deq_u, ML.deq_uw, ML.in_uw, ↓ML.l_mRaise, ↓ML.l_mTry, ↓ML.l_mIsE, ↓ML.l_mIsV, ↓ML.l_mtCount, ↓ML.l_rAddS_rl, ↓ML.l_rAddS_ll, ML.excD_ref, ML.excOf_exc, ML.blsOf_nil, ML.blsOf_cons, ML.endM_nx, ML.endM_rt, ↓ML.l_mYes, ↓ML.l_iS, ↓ML.l_mIfJ, ↓ML.l_mJ, ↓ML.CrollP_nil, ↓ML.CrollP_cons, ↓ML.CrA_at, ↓ML.FrollP_nil, ↓ML.FrollP_cons, ML.isN_non, ML.isN_int, ML.isN_bl, ML.isN_str, ML.isN_tup, ML.isN_lst, ML.isN_ref, ML.sqI_tup, ML.sqI_lst, ML.sqI_scr, ML.sqI_ref, ML.sqI_at, ML.rngD_0, ML.rngD_1, ML.rngD_2, ML.rngD_3, ML.rngD_4, ML.rngD_6, ML.q_wipeM_nil, ML.q_wipeM_cons, FL.sqI_sp, FL.sqI_wl, FL.l_rAdd_rl, FL.l_rAdd_ll, FL.l_rAdd_lr, FL.l_rAdd_rr, FL.in_ints, FL.in_lu, ↓ML.l_mListR, ↓ML.l_mDIn, ↓ML.l_mDPut, ↓ML.l_mDNew, ML.dtD_ref, ML.dtO_dT, ML.keysD_nil, ML.keysD_int, ↓ML.l_mRev2, ↓ML.l_bSum, ↓ML.l_iEnT, ↓ML.l_mSortSet, ↓ML.l_mSNew, ↓ML.l_mSGet, ↓ML.l_mSSetd, ↓ML.l_mKNew, ↓ML.l_mKIn, ↓ML.l_mKGet, ↓ML.l_mKPut, ML.dsD_ref, ML.dsO_dS, ML.dkD_ref, ML.dkO_dK, ML.keyD_i, ↓ML.l_rRepS_l, ↓ML.l_rInX, ↓ML.l_mtIndexX, ↓ML.l_bMinU, ↓ML.l_bMaxU, ↓ML.l_bReprO, ↓ML.l_rEqS, ↓ML.l_bSortI, ↓ML.l_rNeX, $ls,*] $[$l]?)
-- counts /tmp/scratch/dev/N_k60.json
theorem l_law : ∀ ds S Q E, spLaw ds S Q E → ds.length = ["n"].length := by
  rintro _ _ _ _ ⟨n, rfl, _⟩; rfl
theorem l_law_right : ∀ ds S Q E, sp_law_right ds S Q E → ds.length = 5 := by rintro _ _ _ _ ⟨_, _, _, _, _, rfl, _⟩; rfl
theorem r_law_right : ∀ ds S Q E, sp_law_right ds S Q E → b_law_right (mends Q E) (mstart 1 ds) S := by
  rintro _ S Q E ⟨pd, d, s, ws, f, rfl, hs, hd, hz, hf, hw, k⟩
  unfold b_law_right
  simp only [ML.q_mstart, ML.q_mends, List.map_cons, List.map_nil, List.replicate, List.cons_append, List.nil_append]
  simp only [gv]
  have ok : ∀ k, ∀ w ∈ ws.map (mvW k f), WOk 600 w := fun k w hw' => by
    obtain ⟨v, hv, rfl⟩ := List.mem_map.mp hw'
    exact mvW_ok hf (hw v hv).1
  have sho : ∀ k, ShO (.tup ((pltW (mvS k s) (ws.map (mvW k f))).map wlD)) := fun k => sho_plt (by rw [plt_len, List.length_map]; omega) fun v hv => by
    obtain ⟨w, hw', rfl⟩ := List.mem_map.mp hv
    exact BW.mono (h := bw_afw hs.mv ((ok k w hw').mono (by decide))) (by decide)
  have hdS := hd
  refine for_roll ?_
  simp only [gv]
  refine ⟨d, ws, 0, f, rfl, hdS, by omega, fun w hw' => ne_up (hw w hw').2, fun q0 S1 x0 hq00 hq0 => ?_⟩
  have hdS1 : LstK S1 d (ws.map uwD) := hdS.ext x0
  simp only [gv]
  refine ⟨mvS 0 s, .ref q0, ws.map (mvW 0 f), rfl, .ref hq0, by rw [List.length_map]; omega, hs.mv, fun w hw' => (ok 0 w hw').mono (by decide), ?_⟩
  simp only [gv]
  refine t_same (.same (pb_plt _)) (.same (pb_plt _)) (sho 0) ?_
  simp only [gv]
  refine ⟨d, ws, 1, f, rfl, hdS1, by omega, fun w hw' => ne_up (hw w hw').2, fun q1 S2 x1 hq01 hq1 => ?_⟩
  have hdS2 : LstK S2 d (ws.map uwD) := hdS1.ext x1
  simp only [gv]
  refine ⟨mvS 1 s, .ref q1, ws.map (mvW 1 f), rfl, .ref hq1, by rw [List.length_map]; omega, hs.mv, fun w hw' => (ok 1 w hw').mono (by decide), ?_⟩
  simp only [gv]
  refine t_same (.same (pb_plt _)) (.same (pb_plt _)) (sho 1) ?_
  simp only [gv]
  refine ⟨d, ws, 2, f, rfl, hdS2, by omega, fun w hw' => ne_up (hw w hw').2, fun q2 S3 x2 hq02 hq2 => ?_⟩
  have hdS3 : LstK S3 d (ws.map uwD) := hdS2.ext x2
  simp only [gv]
  refine ⟨mvS 2 s, .ref q2, ws.map (mvW 2 f), rfl, .ref hq2, by rw [List.length_map]; omega, hs.mv, fun w hw' => (ok 2 w hw').mono (by decide), ?_⟩
  simp only [gv]
  refine t_same (.same (pb_plt _)) (.same (pb_plt _)) (sho 2) ?_
  simp only [gv]
  exact k S3 fun a o e => x2 a o (x1 a o (x0 a o e))
theorem r_law : ∀ ds S Q E, spLaw ds S Q E → b_law (mends Q E) (mstart 14 ds) S := by
  rintro _ S Q E ⟨ns, rfl, hl, q⟩
  unfold b_law
  simp only [ML.q_mstart, ML.q_mends, List.map_cons, List.map_nil, List.replicate, List.cons_append, List.nil_append]
  simp only [gv]
  refine ⟨by split <;> omega, ?_⟩
  refine rng_inv (fun i σ S' => @KP ⟨∃ a b c d e f g h j k l m n o, σ = [some (.scr (ns.map .int)), a, b, c, d, e, f, g, h, j, k, l, m, n, o]⟩) ⟨_, _, _, _, _, _, _, _, _, _, _, _, _, _, rfl⟩ ?_ ?_
  · rintro i σ S1 - ⟨a, b, c, d, e, f, g, h, j1, j2, j3, j4, j5, j6, rfl⟩
    simp only [gv]
    refine ⟨ns, i, rfl, hl, fun p pa pb hp ok => ?_⟩
    have hp0 : PotAt (put S1 p (potO pa pb 0)) p 0 := ⟨pa, pb, put_same, ok.a0, ok.b0, ok.b1⟩
    generalize put S1 p (potO pa pb 0) = S2 at *
    simp only [gv]
    refine ⟨p, 0, 9, rfl, hp0, by decide, by decide, fun r0 ws0 n3 S3 dr0 hn3 hp3 hr0 rp0 b3 hr3 => ?_⟩
    simp only [gv]
    refine t_ptake hp3 (by omega) (by decide) (by decide) fun x n4 S4 x0 x1 hn4 hp4 e4 => ?_
    have hr4 := but_ex e4 r0 _ rp0 hr3
    simp only [gv]
    refine jf (fun (σ : MSt) (S' : Sto) => ∃ (d : D) (ws : List UW) (n' : Nat), (∃ c d' e f g h j k l m n, σ = [some (.scr (ns.map .int)), some (.int (i : Nat)), some (.ref p), some d, c, d', e, f, g, h, j, k, l, m, n]) ∧ Drawn 40 200 ws ∧ n' ≤ 2000 ∧ PotAt S' p n' ∧ LstK S' d (ws.map uwD) ∧ d ≠ .ref p) (fun hx => ?_) (fun hx => ?_) ?_
    · simp only [gv]
      refine ⟨p, n4, 13, rfl, hp4, by omega, by decide, by decide, fun d ws n5 S5 dr lw hn5 hp5 hd dp dn b5 => ?_⟩
      simp only [gv]
      exact KP.mk ⟨d, ws, n5, ⟨_, _, _, _, _, _, _, _, _, _, _, rfl⟩, dr, by omega, hp5, hd, dp⟩
    · simp only [gv]
      refine KP.mk ⟨.ref r0, ws0, n4, ⟨_, _, _, _, _, _, _, _, _, _, _, rfl⟩, ?_, by omega, hp4, .ref hr4, fun z => rp0 (by cases z; rfl)⟩
      have := dr0.drawn
      exact ⟨Nat.le_trans this.len (by decide), this.up, fun w hw => by have := this.lo w hw; omega, this.fair⟩
    rintro σ S5 ⟨d, ws, n5, ⟨c, d', e, f, g, h, j1, j2, j3, j4, j5, rfl⟩, dr, hn5, hp5, hd, dp⟩
    have lw := dr.len
    have wok : ∀ w ∈ ws, WOk 500 w ∧ ult w.1 w.2 := fun w hw => ⟨dr.wok (by decide) hw, dr.up w hw⟩
    simp only [gv, hd.lenD]
    refine ⟨p, n5, ws.length, rfl, hp5, by omega, fun s n6 S6 hs hn6 hp6 b6 => ?_⟩
    have hd6 := hd.but dp b6
    simp only [gv]
    refine ⟨s, d, ws, rfl, hd6.seqk, by omega, hs, fun w hw => (wok w hw).1.mono (by decide), ?_⟩
    simp only [gv]
    refine t_ptake hp6 (by omega) (by decide) (by decide) fun x n7 S7 x0 x1 hn7 hp7 e7 => ?_
    have hd7 := hd6.but dp (but_ex e7)
    simp only [gv]
    refine t_ptake hp7 (by omega) (by decide) (by decide) fun y n8 S8 y0 y1 hn8 hp8 e8 => ?_
    have hd8 := hd7.but dp (but_ex e8)
    simp only [gv, scD]
    have fo : UOk 100 (x - 49, y - 49) := ⟨by simp only; omega, by simp only; omega, by simp only; omega, by simp only; omega⟩
    have bo : UOk 100 (0 - (x - 49), 0 - (y - 49)) := ⟨by simp only; omega, by simp only; omega, by simp only; omega, by simp only; omega⟩
    obtain ⟨f0, hf0⟩ : ∃ f : U2, f = (x - 49, y - 49) := ⟨_, rfl⟩
    obtain ⟨g0, hg0⟩ : ∃ f : U2, f = (0 - f0.1, 0 - f0.2) := ⟨_, rfl⟩
    refine ⟨nul s, f0, by rw [hf0]; rfl, hs.nul, by rw [hf0]; exact fo.mono (by decide), ?_⟩
    simp only [gv]
    refine ⟨nul s, g0, by rw [hg0, hf0]; rfl, hs.nul, by rw [hg0, hf0]; exact bo.mono (by decide), ?_⟩
    simp only [gv]
    have fo0 : UOk 100 f0 := by rw [hf0]; exact fo
    have go0 : UOk 100 g0 := by rw [hg0, hf0]; exact bo
    have lp : ∀ s' vs, (pltW s' vs).length = vs.length := fun s' vs => plt_len s' vs
    -- walls that were moved
    have okm : ∀ k f, UOk 100 f → ∀ {m : Int} {vs : List UW}, (∀ v ∈ vs, WOk m v ∧ ult v.1 v.2) → ∀ v ∈ vs.map (mvW k f), WOk (m + 100) v ∧ ult v.1 v.2 := fun k f hf m vs h v hv => by
      obtain ⟨w, hw, rfl⟩ := List.mem_map.mp hv
      exact ⟨mvW_ok hf (h w hw).1, mvW_up (h w hw).2⟩
    have big : ∀ {m : Int} {vs : List UW}, m ≤ 2 ^ 20 → (∀ v ∈ vs, WOk m v ∧ ult v.1 v.2) → ∀ v ∈ vs, WOk (2 ^ 20) v ∧ ult v.1 v.2 := fun hm h v hv => ⟨(h v hv).1.mono hm, (h v hv).2⟩
    have pre : ∀ {s' : Sc} {m : Int} {vs : List UW} {n : Nat}, ScOk s' → m ≤ 2 ^ 20 → 300 ≤ n → (∀ v ∈ vs, WOk m v ∧ ult v.1 v.2) → ∀ w ∈ pltW s' vs, BW w n ∧ w.1 ≠ w.2 := fun hs' hm hn h w hw => by
      obtain ⟨h1, h2⟩ := plt_pre hs' (big hm h) w hw
      exact ⟨BW.mono (h := h1) hn, h2⟩
    have bd : ∀ f, UOk 100 f → BP (af (nul s) (ofU f)) 700 := fun f hf => by
      have : BW (afw (nul s) (ofW (f, f))) 300 := bw_afw hs.nul ⟨hf.mono (by decide), hf.mono (by decide)⟩
      exact BP.mono (h := this.f) (by decide)
    have w0 := okm 0 f0 fo0 wok
    have w1 := okm 1 f0 fo0 wok
    have w2 := okm 2 f0 fo0 wok
    have w3 := okm 2 f0 fo0 w2
    have w4 := okm 2 f0 fo0 w3
    have e0 : (pltW s ws).map (mapW (mvP (af (nul s) (ofU f0)))) = pltW (mvS 0 s) (ws.map (mvW 0 f0)) := plt_mv (k := 0) hs f0 ws
    have tu : ∀ (s' : Sc) (vs : List UW), ScOk s' → (pltW s' vs).map (mapW tuP) = pltW (mvS 2 s') (vs.map (mvW 2 f0)) := fun s' vs h => plt_mv (k := 2) h f0 vs
    have mi : ∀ (s' : Sc) (vs : List UW), ScOk s' → (pltW s' vs).map (mapW miP) = pltW (mvS 1 s') (vs.map (mvW 1 f0)) := fun s' vs h => plt_mv (k := 1) h f0 vs
    refine ⟨pltW s ws, af (nul s) (ofU f0), rfl, by rw [lp]; omega, pre hs (by decide) (by decide) wok, bd f0 fo0, ?_⟩
    rw [e0]
    simp only [gv]
    refine ⟨pltW s ws, rfl, by rw [lp]; omega, pre hs (by decide) (by decide) wok, ?_⟩
    rw [mi s ws hs]
    simp only [gv]
    refine ⟨pltW s ws, rfl, by rw [lp]; omega, pre hs (by decide) (by decide) wok, ?_⟩
    rw [tu s ws hs]
    simp only [gv]
    refine ⟨_, d, s, ws, f0, by rw [hf0]; rfl, hs, hd8, by omega, fo0, wok, fun S9 x9 => ?_⟩
    have hd9 := hd8.ext x9
    have hp9 : PotAt S9 p n8 := by obtain ⟨a, b, h, h2⟩ := hp8; exact ⟨a, b, x9 _ _ h, h2⟩
    simp only [gv]
    refine ⟨s, d, ws, rfl, hd9.seqk, by omega, hs, fun w hw => (wok w hw).1.mono (by decide), ?_⟩
    simp only [gv, eqOk_twl, deq_twl]
    refine ⟨pltW (mvS 0 s) (ws.map (mvW 0 f0)), af (nul s) (ofU g0), rfl, by rw [lp, List.length_map]; omega, pre hs.mv (by decide) (by decide) w0, bd g0 go0, ?_⟩
    have b0 : (pltW (mvS 0 s) (ws.map (mvW 0 f0))).map (mapW (mvP (af (nul s) (ofU g0)))) = pltW s ws := by
      have h := plt_mv (k := 0) (s := mvS 0 s) hs.mv g0 (ws.map (mvW 0 f0))
      have m0 : (ws.map (mvW 0 f0)).map (mvW 0 g0) = ws := by
        rw [List.map_map]
        exact map_back fun w hw => by show mvW 0 g0 (mvW 0 f0 w) = w; rw [hg0]; exact back0 (wok w hw).2
      rw [m0] at h
      exact h
    rw [b0]
    simp only [gv, eqOk_twl, deq_twl]
    refine ⟨pltW (mvS 1 s) (ws.map (mvW 1 f0)), rfl, by rw [lp, List.length_map]; omega, pre hs.mv (by decide) (by decide) w1, ?_⟩
    have b1 : (pltW (mvS 1 s) (ws.map (mvW 1 f0))).map (mapW miP) = pltW s ws := by
      have m0 : (ws.map (mvW 1 f0)).map (mvW 1 f0) = ws := by
        rw [List.map_map]
        exact map_back fun w hw => by show mvW 1 f0 (mvW 1 f0 w) = w; exact back1 (wok w hw).2
      rw [mi _ _ hs.mv, mvS1, m0]
    rw [b1]
    simp only [gv, eqOk_twl, deq_twl]
    refine ⟨pltW (mvS 2 s) (ws.map (mvW 2 f0)), rfl, by rw [lp, List.length_map]; omega, pre hs.mv (by decide) (by decide) w2, ?_⟩
    rw [tu _ _ hs.mv]
    simp only [gv]
    refine ⟨pltW (mvS 2 (mvS 2 s)) ((ws.map (mvW 2 f0)).map (mvW 2 f0)), rfl, by rw [lp, List.length_map, List.length_map]; omega, pre hs.mv.mv (by decide) (by decide) w3, ?_⟩
    rw [tu _ _ hs.mv.mv]
    simp only [gv]
    refine ⟨pltW (mvS 2 (mvS 2 (mvS 2 s))) (((ws.map (mvW 2 f0)).map (mvW 2 f0)).map (mvW 2 f0)), rfl, by rw [lp, List.length_map, List.length_map, List.length_map]; omega, pre hs.mv.mv.mv (by decide) (by decide) w4, ?_⟩
    have b2 : (pltW (mvS 2 (mvS 2 (mvS 2 s))) (((ws.map (mvW 2 f0)).map (mvW 2 f0)).map (mvW 2 f0))).map (mapW tuP) = pltW s ws := by
      have m0 : (((ws.map (mvW 2 f0)).map (mvW 2 f0)).map (mvW 2 f0)).map (mvW 2 f0) = ws := by
        rw [List.map_map, List.map_map, List.map_map]
        exact map_back fun w hw => by show mvW 2 f0 (mvW 2 f0 (mvW 2 f0 (mvW 2 f0 w))) = w; exact back2 (wok w hw).2
      rw [tu _ _ hs.mv.mv.mv, mvS2, m0]
    rw [b2]
    simp only [gv, eqOk_twl, deq_twl, hd9.lenD]
    refine ⟨p, n8, ws.length, rfl, hp9, by omega, by omega, fun q10 ms n10 S10 pm hn10 hp10 hq0 qp b10 hq10 => ?_⟩
    have lms : ms.length = ws.length := by rw [pm.length_eq, List.length_range]
    have ims : ∀ i ∈ ms, i < ws.length := fun i hi => List.mem_range.mp (pm.mem_iff.mp hi)
    simp only [gv, hq10, olP_lst, sqI_at hq10]
    intro t ht
    have qt : q10 ≠ t := sne hq10 ht
    refine comp_map nD (fun i => wlD (wlAt (pltW s ws) i)) ms rfl (by omega) (fun acc => by show olP _ = _; rw [put_ne qt, hq10]; rfl) ?_ ?_
    · intro i acc Q1 hi q1
      have e : ((pltW s ws).map wlD)[i]? = some (wlD (wlAt (pltW s ws) i)) := by rw [List.getElem?_map, wlAt_get (by rw [lp]; exact ims i hi)]; rfl
      simp only [gv, nD, ixL_cast, e]
      exact q1
    simp only [gv, del_put ht]
    refine ⟨pltW s ws, .lst (ms.map nD), ms, rfl, .lst, by omega, fun i hi => by rw [lp]; exact ims i hi, ?_⟩
    simp only [gv]
    have em : (ms.map fun i => wlD (wlAt (pltW s ws) i)) = (ms.map (wlAt (pltW s ws))).map wlD := by rw [List.map_map]; rfl
    rw [em]
    refine t_same (.same (pb_plt _)) (.same (pb_plt _)) (sho_plt (by rw [List.length_map]; omega) fun v hv => ?_) ?_
    · obtain ⟨i, hi, rfl⟩ := List.mem_map.mp hv
      exact BW.mono (h := (pre hs (by decide) (n := 300) (Nat.le_refl _) wok _ (wlAt_mem (by rw [lp]; exact ims i hi))).1) (by decide)
    simp only [gv, look_ref hq10]
    refine ⟨eqOk_lm plain_n plain_n (fun _ => Nat.zero_le _) (fun _ => Nat.zero_le _) ms ms, ?_⟩
    rw [deq_refl (.lst (ms.map nD)) (plains_map plain_n)]
    simp only [gv]
    exact KP.mk ⟨_, _, _, _, _, _, _, _, _, _, _, _, _, _, rfl⟩
  · rintro σ S1 ⟨a, b, c, d, e, f, g, h, j1, j2, j3, j4, j5, j6, rfl⟩
    simp only [gv]; exact q _
end Lk60
set_option maxRecDepth 100000
set_option maxHeartbeats 0
namespace Lk60
open PySem PySem.Spec L2 ML
open PyProof.Rows hiding St
section
variable {P : Program} {w : World} {K : PySem.W.Frag} {mg : Str → Option Value} {base : Heap}
abbrev FnP (K : PySem.W.Frag) (x : Str) (st : Stmt) (f : Addr) (fd : FuncData) : Prop := FunD K x x (defArgs st) (defBody st) (defScope st) [] [] f fd
theorem fn_divisor {f : Addr} {fd : FuncData} (T : Txt K mg) (F : FnP K "divisor" s_divisor f fd)  : FnOk P w K mg base (L2.CX P w) 1 f fd ["one", "other"] (upSp K FL.sp_divisor) :=
  fn_mk (N := ["one", "other"]) F sc_divisor rfl l_divisor (fun _ _ _ _ _ _ hr => d_divisor T  hr) r_divisor
theorem h_divisor {f : Addr} {fd : FuncData} (T : Txt K mg) (F : FnP K "divisor" s_divisor f fd) (g : mg "divisor" = some (.ref f))  : Has P w K mg base "divisor" ["one", "other"] 1 FL.sp_divisor :=
  ⟨f, fd, g, F.kp, F.bindsN fun _ _ _ _ _ _ us hl => match us, hl with | [_, _], _ => rfl, fn_divisor T F ⟩
theorem fn_is_less {f : Addr} {fd : FuncData} (T : Txt K mg) (F : FnP K "is_less" s_is_less f fd)  : FnOk P w K mg base (L2.CX P w) 1 f fd ["one", "other"] (upSp K FL.sp_is_less) :=
  fn_mk (N := ["one", "other"]) F sc_is_less rfl l_is_less (fun _ _ _ _ _ _ hr => d_is_less T  hr) r_is_less
theorem h_is_less {f : Addr} {fd : FuncData} (T : Txt K mg) (F : FnP K "is_less" s_is_less f fd) (g : mg "is_less" = some (.ref f))  : Has P w K mg base "is_less" ["one", "other"] 1 FL.sp_is_less :=
  ⟨f, fd, g, F.kp, F.bindsN fun _ _ _ _ _ _ us hl => match us, hl with | [_, _], _ => rfl, fn_is_less T F ⟩
theorem fn_in_order {f : Addr} {fd : FuncData} (T : Txt K mg) (F : FnP K "in_order" s_in_order f fd)  : FnOk P w K mg base (L2.CX P w) 1 f fd ["plot", "order"] (upSp K FL.sp_in_order) :=
  fn_mk (N := ["plot", "order", "number"]) F sc_in_order rfl l_in_order (fun _ _ _ _ _ _ hr => d_in_order T  hr) r_in_order
theorem h_in_order {f : Addr} {fd : FuncData} (T : Txt K mg) (F : FnP K "in_order" s_in_order f fd) (g : mg "in_order" = some (.ref f))  : Has P w K mg base "in_order" ["plot", "order"] 1 FL.sp_in_order :=
  ⟨f, fd, g, F.kp, F.bindsN fun _ _ _ _ _ _ us hl => match us, hl with | [_, _], _ => rfl, fn_in_order T F ⟩
theorem fn_law_pot {f : Addr} {fd : FuncData} (T : Txt K mg) (F : FnP K "_law_pot" s_law_pot f fd)  : FnOk P w K mg base (L2.CX P w) 1 f fd ["_law_script", "_law_k"] (upSp K FL.sp_pot) :=
  fn_mk (N := ["_law_script", "_law_k", "_law_cell"]) F sc_law_pot rfl l_law_pot (fun _ _ _ _ _ _ hr => d_law_pot T  hr) r_law_pot
theorem h_law_pot {f : Addr} {fd : FuncData} (T : Txt K mg) (F : FnP K "_law_pot" s_law_pot f fd) (g : mg "_law_pot" = some (.ref f))  : Has P w K mg base "_law_pot" ["_law_script", "_law_k"] 1 FL.sp_pot :=
  ⟨f, fd, g, F.kp, F.bindsN fun _ _ _ _ _ _ us hl => match us, hl with | [_, _], _ => rfl, fn_law_pot T F ⟩
theorem fn_law_take {f : Addr} {fd : FuncData} (T : Txt K mg) (F : FnP K "_law_take" s_law_take f fd)  : FnOk P w K mg base (L2.CX P w) 1 f fd ["_law_pot_here", "_law_size"] (upSp K FL.sp_ptake) :=
  fn_mk (N := ["_law_pot_here", "_law_size", "_law_digit", "_law_mixed"]) F sc_law_take rfl l_law_take (fun _ _ _ _ _ _ hr => d_law_take T  hr) r_law_take
theorem h_law_take {f : Addr} {fd : FuncData} (T : Txt K mg) (F : FnP K "_law_take" s_law_take f fd) (g : mg "_law_take" = some (.ref f))  : Has P w K mg base "_law_take" ["_law_pot_here", "_law_size"] 1 FL.sp_ptake :=
  ⟨f, fd, g, F.kp, F.bindsN fun _ _ _ _ _ _ us hl => match us, hl with | [_, _], _ => rfl, fn_law_take T F ⟩
theorem fn_law_side {f : Addr} {fd : FuncData} (T : Txt K mg) (F : FnP K "_law_side" s_law_side f fd)  : FnOk P w K mg base (L2.CX P w) 1 f fd ["_law_shut", "_law_spot"] (upSp K FL.sp_pside) :=
  fn_mk (N := ["_law_shut", "_law_spot", "_law_a", "_law_b", "_law_c", "_law_d", "_law_way"]) F sc_law_side rfl l_law_side (fun _ _ _ _ _ _ hr => d_law_side T  hr) r_law_side
theorem h_law_side {f : Addr} {fd : FuncData} (T : Txt K mg) (F : FnP K "_law_side" s_law_side f fd) (g : mg "_law_side" = some (.ref f))  : Has P w K mg base "_law_side" ["_law_shut", "_law_spot"] 1 FL.sp_pside :=
  ⟨f, fd, g, F.kp, F.bindsN fun _ _ _ _ _ _ us hl => match us, hl with | [_, _], _ => rfl, fn_law_side T F ⟩
theorem fn_law_frac {f : Addr} {fd : FuncData} (T : Txt K mg) (F : FnP K "_law_frac" s_law_frac f fd)  : FnOk P w K mg base (L2.CX P w) 1 f fd ["_law_top", "_law_bottom"] (upSp K FL.sp_pfrac) :=
  fn_mk (N := ["_law_top", "_law_bottom", "_law_one", "_law_other"]) F sc_law_frac rfl l_law_frac (fun _ _ _ _ _ _ hr => d_law_frac T  hr) r_law_frac
theorem h_law_frac {f : Addr} {fd : FuncData} (T : Txt K mg) (F : FnP K "_law_frac" s_law_frac f fd) (g : mg "_law_frac" = some (.ref f))  : Has P w K mg base "_law_frac" ["_law_top", "_law_bottom"] 1 FL.sp_pfrac :=
  ⟨f, fd, g, F.kp, F.bindsN fun _ _ _ _ _ _ us hl => match us, hl with | [_, _], _ => rfl, fn_law_frac T F ⟩
theorem fn_law_same {f : Addr} {fd : FuncData} (T : Txt K mg) (F : FnP K "_law_same" s_law_same f fd)  : ShowOk P w K mg base 1 f fd ["_law_found", "_law_due"] (upSp K FL.sp_same) :=
  show_mk (N := ["_law_found", "_law_due"]) F sc_law_same rfl l_law_same (fun _ _ _ _ _ _ hgu hr => d_law_same T  hgu hr) r_law_same
theorem h_law_same {f : Addr} {fd : FuncData} (T : Txt K mg) (F : FnP K "_law_same" s_law_same f fd) (g : mg "_law_same" = some (.ref f))  : HasS P w K mg base "_law_same" ["_law_found", "_law_due"] 1 FL.sp_same :=
  ⟨f, fd, g, F.kp, F.bindsN fun _ _ _ _ _ _ us hl => match us, hl with | [_, _], _ => rfl, fn_law_same T F ⟩
theorem fn_law_moved_spot {f : Addr} {fd : FuncData} (T : Txt K mg) (F : FnP K "_law_moved_spot" s_law_moved_spot f fd)  : FnOk P w K mg base (L2.CX P w) 1 f fd ["_law_spot", "_law_kind", "_law_far"] (upSp K FL.sp_umoved_spot) :=
  fn_mk (N := ["_law_spot", "_law_kind", "_law_far"]) F sc_law_moved_spot rfl l_law_moved_spot (fun _ _ _ _ _ _ hr => d_law_moved_spot T  hr) r_law_moved_spot
theorem h_law_moved_spot {f : Addr} {fd : FuncData} (T : Txt K mg) (F : FnP K "_law_moved_spot" s_law_moved_spot f fd) (g : mg "_law_moved_spot" = some (.ref f))  : Has P w K mg base "_law_moved_spot" ["_law_spot", "_law_kind", "_law_far"] 1 FL.sp_umoved_spot :=
  ⟨f, fd, g, F.kp, F.bindsN fun _ _ _ _ _ _ us hl => match us, hl with | [_, _, _], _ => rfl, fn_law_moved_spot T F ⟩
theorem fn_fraction {f : Addr} {fd : FuncData} (T : Txt K mg) (F : FnP K "fraction" s_fraction f fd) (h_divisor : Has P w K mg base "divisor" ["one", "other"] 1 FL.sp_divisor) : FnOk P w K mg base (L2.CX P w) 2 f fd ["top", "bottom"] (upSp K FL.sp_low) :=
  fn_mk (N := ["top", "bottom", "by"]) F sc_fraction rfl l_fraction (fun _ _ _ _ _ _ hr => d_fraction T h_divisor hr) r_fraction
theorem h_fraction {f : Addr} {fd : FuncData} (T : Txt K mg) (F : FnP K "fraction" s_fraction f fd) (g : mg "fraction" = some (.ref f)) (h_divisor : Has P w K mg base "divisor" ["one", "other"] 1 FL.sp_divisor) : Has P w K mg base "fraction" ["top", "bottom"] 2 FL.sp_low :=
  ⟨f, fd, g, F.kp, F.bindsN fun _ _ _ _ _ _ us hl => match us, hl with | [_, _], _ => rfl, fn_fraction T F h_divisor⟩
theorem fn_is_ahead {f : Addr} {fd : FuncData} (T : Txt K mg) (F : FnP K "is_ahead" s_is_ahead f fd) (h_is_less : Has P w K mg base "is_less" ["one", "other"] 1 FL.sp_is_less) : FnOk P w K mg base (L2.CX P w) 2 f fd ["one", "other"] (upSp K FL.sp_is_ahead) :=
  fn_mk (N := ["one", "other"]) F sc_is_ahead rfl l_is_ahead (fun _ _ _ _ _ _ hr => d_is_ahead T h_is_less hr) r_is_ahead
theorem h_is_ahead {f : Addr} {fd : FuncData} (T : Txt K mg) (F : FnP K "is_ahead" s_is_ahead f fd) (g : mg "is_ahead" = some (.ref f)) (h_is_less : Has P w K mg base "is_less" ["one", "other"] 1 FL.sp_is_less) : Has P w K mg base "is_ahead" ["one", "other"] 2 FL.sp_is_ahead :=
  ⟨f, fd, g, F.kp, F.bindsN fun _ _ _ _ _ _ us hl => match us, hl with | [_, _], _ => rfl, fn_is_ahead T F h_is_less⟩
theorem fn_law_on {f : Addr} {fd : FuncData} (T : Txt K mg) (F : FnP K "_law_on" s_law_on f fd) (h_law_side : Has P w K mg base "_law_side" ["_law_shut", "_law_spot"] 1 FL.sp_pside) : FnOk P w K mg base (L2.CX P w) 2 f fd ["_law_shut", "_law_spot"] (upSp K FL.sp_pon) :=
  fn_mk (N := ["_law_shut", "_law_spot"]) F sc_law_on rfl l_law_on (fun _ _ _ _ _ _ hr => d_law_on T h_law_side hr) r_law_on
theorem h_law_on {f : Addr} {fd : FuncData} (T : Txt K mg) (F : FnP K "_law_on" s_law_on f fd) (g : mg "_law_on" = some (.ref f)) (h_law_side : Has P w K mg base "_law_side" ["_law_shut", "_law_spot"] 1 FL.sp_pside) : Has P w K mg base "_law_on" ["_law_shut", "_law_spot"] 2 FL.sp_pon :=
  ⟨f, fd, g, F.kp, F.bindsN fun _ _ _ _ _ _ us hl => match us, hl with | [_, _], _ => rfl, fn_law_on T F h_law_side⟩
theorem fn_law_new_spot {f : Addr} {fd : FuncData} (T : Txt K mg) (F : FnP K "_law_new_spot" s_law_new_spot f fd) (h_law_take : Has P w K mg base "_law_take" ["_law_pot_here", "_law_size"] 1 FL.sp_ptake) : FnOk P w K mg base (L2.CX P w) 2 f fd ["_law_pot_here", "_law_wide"] (upSp K FL.sp_new_spot) :=
  fn_mk (N := ["_law_pot_here", "_law_wide"]) F sc_law_new_spot rfl l_law_new_spot (fun _ _ _ _ _ _ hr => d_law_new_spot T h_law_take hr) r_law_new_spot
theorem h_law_new_spot {f : Addr} {fd : FuncData} (T : Txt K mg) (F : FnP K "_law_new_spot" s_law_new_spot f fd) (g : mg "_law_new_spot" = some (.ref f)) (h_law_take : Has P w K mg base "_law_take" ["_law_pot_here", "_law_size"] 1 FL.sp_ptake) : Has P w K mg base "_law_new_spot" ["_law_pot_here", "_law_wide"] 2 FL.sp_new_spot :=
  ⟨f, fd, g, F.kp, F.bindsN fun _ _ _ _ _ _ us hl => match us, hl with | [_, _], _ => rfl, fn_law_new_spot T F h_law_take⟩
theorem fn_law_frame {f : Addr} {fd : FuncData} (T : Txt K mg) (F : FnP K "_law_frame" s_law_frame f fd) (h_law_take : Has P w K mg base "_law_take" ["_law_pot_here", "_law_size"] 1 FL.sp_ptake) : FnOk P w K mg base (L2.CX P w) 2 f fd ["_law_pot_here", "_law_many"] (upSp K FL.sp_frame) :=
  fn_mk (N := ["_law_pot_here", "_law_many", "_law_kind", "_law_far", "_law_k"]) F sc_law_frame rfl l_law_frame (fun _ _ _ _ _ _ hr => d_law_frame T h_law_take hr) r_law_frame
theorem h_law_frame {f : Addr} {fd : FuncData} (T : Txt K mg) (F : FnP K "_law_frame" s_law_frame f fd) (g : mg "_law_frame" = some (.ref f)) (h_law_take : Has P w K mg base "_law_take" ["_law_pot_here", "_law_size"] 1 FL.sp_ptake) : Has P w K mg base "_law_frame" ["_law_pot_here", "_law_many"] 2 FL.sp_frame :=
  ⟨f, fd, g, F.kp, F.bindsN fun _ _ _ _ _ _ us hl => match us, hl with | [_, _], _ => rfl, fn_law_frame T F h_law_take⟩
theorem fn_law_given {f : Addr} {fd : FuncData} (T : Txt K mg) (F : FnP K "_law_given" s_law_given f fd) (h_law_frac : Has P w K mg base "_law_frac" ["_law_top", "_law_bottom"] 1 FL.sp_pfrac) : FnOk P w K mg base (L2.CX P w) 2 f fd ["_law_frame_here", "_law_spot"] (upSp K FL.sp_given) :=
  fn_mk (N := ["_law_frame_here", "_law_spot", "_law_p", "_law_q", "_law_s", "_law_t"]) F sc_law_given rfl l_law_given (fun _ _ _ _ _ _ hr => d_law_given T h_law_frac hr) r_law_given
theorem h_law_given {f : Addr} {fd : FuncData} (T : Txt K mg) (F : FnP K "_law_given" s_law_given f fd) (g : mg "_law_given" = some (.ref f)) (h_law_frac : Has P w K mg base "_law_frac" ["_law_top", "_law_bottom"] 1 FL.sp_pfrac) : Has P w K mg base "_law_given" ["_law_frame_here", "_law_spot"] 2 FL.sp_given :=
  ⟨f, fd, g, F.kp, F.bindsN fun _ _ _ _ _ _ us hl => match us, hl with | [_, _], _ => rfl, fn_law_given T F h_law_frac⟩
theorem fn_law_moved_shuts {f : Addr} {fd : FuncData} (T : Txt K mg) (F : FnP K "_law_moved_shuts" s_law_moved_shuts f fd) (h_law_moved_spot : Has P w K mg base "_law_moved_spot" ["_law_spot", "_law_kind", "_law_far"] 1 FL.sp_umoved_spot) : FnOk P w K mg base (L2.CX P w) 2 f fd ["_law_shuts", "_law_kind", "_law_far"] (upSp K FL.sp_umoved_shuts) :=
  fn_mk (N := ["_law_shuts", "_law_kind", "_law_far", "_law_found", "_law_shut", "_law_ends", "_law_spot"]) F sc_law_moved_shuts rfl l_law_moved_shuts (fun _ _ _ _ _ _ hr => d_law_moved_shuts T h_law_moved_spot hr) r_law_moved_shuts
theorem h_law_moved_shuts {f : Addr} {fd : FuncData} (T : Txt K mg) (F : FnP K "_law_moved_shuts" s_law_moved_shuts f fd) (g : mg "_law_moved_shuts" = some (.ref f)) (h_law_moved_spot : Has P w K mg base "_law_moved_spot" ["_law_spot", "_law_kind", "_law_far"] 1 FL.sp_umoved_spot) : Has P w K mg base "_law_moved_shuts" ["_law_shuts", "_law_kind", "_law_far"] 2 FL.sp_umoved_shuts :=
  ⟨f, fd, g, F.kp, F.bindsN fun _ _ _ _ _ _ us hl => match us, hl with | [_, _, _], _ => rfl, fn_law_moved_shuts T F h_law_moved_spot⟩
theorem fn_law_order {f : Addr} {fd : FuncData} (T : Txt K mg) (F : FnP K "_law_order" s_law_order f fd) (h_law_take : Has P w K mg base "_law_take" ["_law_pot_here", "_law_size"] 1 FL.sp_ptake) : FnOk P w K mg base (L2.CX P w) 2 f fd ["_law_pot_here", "_law_many"] (upSp K FL.sp_border) :=
  fn_mk (N := ["_law_pot_here", "_law_many", "_law_found", "_law_k"]) F sc_law_order rfl l_law_order (fun _ _ _ _ _ _ hr => d_law_order T h_law_take hr) r_law_order
theorem h_law_order {f : Addr} {fd : FuncData} (T : Txt K mg) (F : FnP K "_law_order" s_law_order f fd) (g : mg "_law_order" = some (.ref f)) (h_law_take : Has P w K mg base "_law_take" ["_law_pot_here", "_law_size"] 1 FL.sp_ptake) : Has P w K mg base "_law_order" ["_law_pot_here", "_law_many"] 2 FL.sp_border :=
  ⟨f, fd, g, F.kp, F.bindsN fun _ _ _ _ _ _ us hl => match us, hl with | [_, _], _ => rfl, fn_law_order T F h_law_take⟩
theorem fn_law_squares {f : Addr} {fd : FuncData} (T : Txt K mg) (F : FnP K "_law_squares" s_law_squares f fd) (h_law_take : Has P w K mg base "_law_take" ["_law_pot_here", "_law_size"] 1 FL.sp_ptake) : FnOk P w K mg base (L2.CX P w) 2 f fd ["_law_pot_here", "_law_most"] (upSp K FL.sp_bsquares) :=
  fn_mk (N := ["_law_pot_here", "_law_most", "_law_many", "_law_shuts", "_law_k", "_law_y", "_law_found", "_law_shut"]) F sc_law_squares rfl l_law_squares (fun _ _ _ _ _ _ hr => d_law_squares T h_law_take hr) r_law_squares
theorem h_law_squares {f : Addr} {fd : FuncData} (T : Txt K mg) (F : FnP K "_law_squares" s_law_squares f fd) (g : mg "_law_squares" = some (.ref f)) (h_law_take : Has P w K mg base "_law_take" ["_law_pot_here", "_law_size"] 1 FL.sp_ptake) : Has P w K mg base "_law_squares" ["_law_pot_here", "_law_most"] 2 FL.sp_bsquares :=
  ⟨f, fd, g, F.kp, F.bindsN fun _ _ _ _ _ _ us hl => match us, hl with | [_, _], _ => rfl, fn_law_squares T F h_law_take⟩
theorem fn_plus {f : Addr} {fd : FuncData} (T : Txt K mg) (F : FnP K "plus" s_plus f fd) (h_fraction : Has P w K mg base "fraction" ["top", "bottom"] 2 FL.sp_low) : FnOk P w K mg base (L2.CX P w) 3 f fd ["one", "other"] (upSp K FL.sp_plus) :=
  fn_mk (N := ["one", "other"]) F sc_plus rfl l_plus (fun _ _ _ _ _ _ hr => d_plus T h_fraction hr) r_plus
theorem h_plus {f : Addr} {fd : FuncData} (T : Txt K mg) (F : FnP K "plus" s_plus f fd) (g : mg "plus" = some (.ref f)) (h_fraction : Has P w K mg base "fraction" ["top", "bottom"] 2 FL.sp_low) : Has P w K mg base "plus" ["one", "other"] 3 FL.sp_plus :=
  ⟨f, fd, g, F.kp, F.bindsN fun _ _ _ _ _ _ us hl => match us, hl with | [_, _], _ => rfl, fn_plus T F h_fraction⟩
theorem fn_less {f : Addr} {fd : FuncData} (T : Txt K mg) (F : FnP K "less" s_less f fd) (h_fraction : Has P w K mg base "fraction" ["top", "bottom"] 2 FL.sp_low) : FnOk P w K mg base (L2.CX P w) 3 f fd ["one", "other"] (upSp K FL.sp_less) :=
  fn_mk (N := ["one", "other"]) F sc_less rfl l_less (fun _ _ _ _ _ _ hr => d_less T h_fraction hr) r_less
theorem h_less {f : Addr} {fd : FuncData} (T : Txt K mg) (F : FnP K "less" s_less f fd) (g : mg "less" = some (.ref f)) (h_fraction : Has P w K mg base "fraction" ["top", "bottom"] 2 FL.sp_low) : Has P w K mg base "less" ["one", "other"] 3 FL.sp_less :=
  ⟨f, fd, g, F.kp, F.bindsN fun _ _ _ _ _ _ us hl => match us, hl with | [_, _], _ => rfl, fn_less T F h_fraction⟩
theorem fn_wall_of {f : Addr} {fd : FuncData} (T : Txt K mg) (F : FnP K "wall_of" s_wall_of f fd) (h_is_ahead : Has P w K mg base "is_ahead" ["one", "other"] 2 FL.sp_is_ahead) : FnOk P w K mg base (L2.CX P w) 3 f fd ["one", "other"] (upSp K FL.sp_wall_of) :=
  fn_mk (N := ["one", "other"]) F sc_wall_of rfl l_wall_of (fun _ _ _ _ _ _ hr => d_wall_of T h_is_ahead hr) r_wall_of
theorem h_wall_of {f : Addr} {fd : FuncData} (T : Txt K mg) (F : FnP K "wall_of" s_wall_of f fd) (g : mg "wall_of" = some (.ref f)) (h_is_ahead : Has P w K mg base "is_ahead" ["one", "other"] 2 FL.sp_is_ahead) : Has P w K mg base "wall_of" ["one", "other"] 3 FL.sp_wall_of :=
  ⟨f, fd, g, F.kp, F.bindsN fun _ _ _ _ _ _ us hl => match us, hl with | [_, _], _ => rfl, fn_wall_of T F h_is_ahead⟩
theorem fn_law_apart {f : Addr} {fd : FuncData} (T : Txt K mg) (F : FnP K "_law_apart" s_law_apart f fd) (h_law_side : Has P w K mg base "_law_side" ["_law_shut", "_law_spot"] 1 FL.sp_pside) (h_law_on : Has P w K mg base "_law_on" ["_law_shut", "_law_spot"] 2 FL.sp_pon) : FnOk P w K mg base (L2.CX P w) 3 f fd ["_law_one", "_law_other"] (upSp K FL.sp_papart) :=
  fn_mk (N := ["_law_one", "_law_other", "_law_shut", "_law_ends", "_law_spot", "_law_both"]) F sc_law_apart rfl l_law_apart (fun _ _ _ _ _ _ hr => d_law_apart T h_law_side h_law_on hr) r_law_apart
theorem h_law_apart {f : Addr} {fd : FuncData} (T : Txt K mg) (F : FnP K "_law_apart" s_law_apart f fd) (g : mg "_law_apart" = some (.ref f)) (h_law_side : Has P w K mg base "_law_side" ["_law_shut", "_law_spot"] 1 FL.sp_pside) (h_law_on : Has P w K mg base "_law_on" ["_law_shut", "_law_spot"] 2 FL.sp_pon) : Has P w K mg base "_law_apart" ["_law_one", "_law_other"] 3 FL.sp_papart :=
  ⟨f, fd, g, F.kp, F.bindsN fun _ _ _ _ _ _ us hl => match us, hl with | [_, _], _ => rfl, fn_law_apart T F h_law_side h_law_on⟩
theorem fn_law_some_spot {f : Addr} {fd : FuncData} (T : Txt K mg) (F : FnP K "_law_some_spot" s_law_some_spot f fd) (h_law_take : Has P w K mg base "_law_take" ["_law_pot_here", "_law_size"] 1 FL.sp_ptake) (h_law_new_spot : Has P w K mg base "_law_new_spot" ["_law_pot_here", "_law_wide"] 2 FL.sp_new_spot) : FnOk P w K mg base (L2.CX P w) 3 f fd ["_law_pot_here", "_law_shuts", "_law_wide"] (upSp K FL.sp_some_spot) :=
  fn_mk (N := ["_law_pot_here", "_law_shuts", "_law_wide"]) F sc_law_some_spot rfl l_law_some_spot (fun _ _ _ _ _ _ hr => d_law_some_spot T h_law_take h_law_new_spot hr) r_law_some_spot
theorem h_law_some_spot {f : Addr} {fd : FuncData} (T : Txt K mg) (F : FnP K "_law_some_spot" s_law_some_spot f fd) (g : mg "_law_some_spot" = some (.ref f)) (h_law_take : Has P w K mg base "_law_take" ["_law_pot_here", "_law_size"] 1 FL.sp_ptake) (h_law_new_spot : Has P w K mg base "_law_new_spot" ["_law_pot_here", "_law_wide"] 2 FL.sp_new_spot) : Has P w K mg base "_law_some_spot" ["_law_pot_here", "_law_shuts", "_law_wide"] 3 FL.sp_some_spot :=
  ⟨f, fd, g, F.kp, F.bindsN fun _ _ _ _ _ _ us hl => match us, hl with | [_, _, _], _ => rfl, fn_law_some_spot T F h_law_take h_law_new_spot⟩
theorem fn_law_square {f : Addr} {fd : FuncData} (T : Txt K mg) (F : FnP K "_law_square" s_law_square f fd) (h_law_take : Has P w K mg base "_law_take" ["_law_pot_here", "_law_size"] 1 FL.sp_ptake) (h_law_new_spot : Has P w K mg base "_law_new_spot" ["_law_pot_here", "_law_wide"] 2 FL.sp_new_spot) : FnOk P w K mg base (L2.CX P w) 3 f fd ["_law_pot_here", "_law_wide"] (upSp K FL.sp_psquare) :=
  fn_mk (N := ["_law_pot_here", "_law_wide", "_law_x", "_law_y", "_law_far"]) F sc_law_square rfl l_law_square (fun _ _ _ _ _ _ hr => d_law_square T h_law_take h_law_new_spot hr) r_law_square
theorem h_law_square {f : Addr} {fd : FuncData} (T : Txt K mg) (F : FnP K "_law_square" s_law_square f fd) (g : mg "_law_square" = some (.ref f)) (h_law_take : Has P w K mg base "_law_take" ["_law_pot_here", "_law_size"] 1 FL.sp_ptake) (h_law_new_spot : Has P w K mg base "_law_new_spot" ["_law_pot_here", "_law_wide"] 2 FL.sp_new_spot) : Has P w K mg base "_law_square" ["_law_pot_here", "_law_wide"] 3 FL.sp_psquare :=
  ⟨f, fd, g, F.kp, F.bindsN fun _ _ _ _ _ _ us hl => match us, hl with | [_, _], _ => rfl, fn_law_square T F h_law_take h_law_new_spot⟩
theorem fn_law_plot {f : Addr} {fd : FuncData} (T : Txt K mg) (F : FnP K "_law_plot" s_law_plot f fd) (h_law_given : Has P w K mg base "_law_given" ["_law_frame_here", "_law_spot"] 2 FL.sp_given) : FnOk P w K mg base (L2.CX P w) 3 f fd ["_law_frame_here", "_law_shuts"] (upSp K FL.sp_pplot) :=
  fn_mk (N := ["_law_frame_here", "_law_shuts", "_law_first", "_law_second"]) F sc_law_plot rfl l_law_plot (fun _ _ _ _ _ _ hr => d_law_plot T h_law_given hr) r_law_plot
theorem h_law_plot {f : Addr} {fd : FuncData} (T : Txt K mg) (F : FnP K "_law_plot" s_law_plot f fd) (g : mg "_law_plot" = some (.ref f)) (h_law_given : Has P w K mg base "_law_given" ["_law_frame_here", "_law_spot"] 2 FL.sp_given) : Has P w K mg base "_law_plot" ["_law_frame_here", "_law_shuts"] 3 FL.sp_pplot :=
  ⟨f, fd, g, F.kp, F.bindsN fun _ _ _ _ _ _ us hl => match us, hl with | [_, _], _ => rfl, fn_law_plot T F h_law_given⟩
theorem fn_law_frames {f : Addr} {fd : FuncData} (T : Txt K mg) (F : FnP K "_law_frames" s_law_frames f fd) (h_law_frame : Has P w K mg base "_law_frame" ["_law_pot_here", "_law_many"] 2 FL.sp_frame) : FnOk P w K mg base (L2.CX P w) 3 f fd ["_law_pot_here", "_law_many"] (upSp K FL.sp_frames) :=
  fn_mk (N := ["_law_pot_here", "_law_many", "_law_p", "_law_q", "_law_s", "_law_t"]) F sc_law_frames rfl l_law_frames (fun _ _ _ _ _ _ hr => d_law_frames T h_law_frame hr) r_law_frames
theorem h_law_frames {f : Addr} {fd : FuncData} (T : Txt K mg) (F : FnP K "_law_frames" s_law_frames f fd) (g : mg "_law_frames" = some (.ref f)) (h_law_frame : Has P w K mg base "_law_frame" ["_law_pot_here", "_law_many"] 2 FL.sp_frame) : Has P w K mg base "_law_frames" ["_law_pot_here", "_law_many"] 3 FL.sp_frames :=
  ⟨f, fd, g, F.kp, F.bindsN fun _ _ _ _ _ _ us hl => match us, hl with | [_, _], _ => rfl, fn_law_frames T F h_law_frame⟩
theorem fn_mirrored_spot {f : Addr} {fd : FuncData} (T : Txt K mg) (F : FnP K "mirrored_spot" s_mirrored_spot f fd) (h_less : Has P w K mg base "less" ["one", "other"] 3 FL.sp_less) : FnOk P w K mg base (L2.CX P w) 4 f fd ["spot"] (upSp K FL.sp_mirrored_spot) :=
  fn_mk (N := ["spot"]) F sc_mirrored_spot rfl l_mirrored_spot (fun _ _ _ _ _ _ hr => d_mirrored_spot T h_less hr) r_mirrored_spot
theorem h_mirrored_spot {f : Addr} {fd : FuncData} (T : Txt K mg) (F : FnP K "mirrored_spot" s_mirrored_spot f fd) (g : mg "mirrored_spot" = some (.ref f)) (h_less : Has P w K mg base "less" ["one", "other"] 3 FL.sp_less) : Has P w K mg base "mirrored_spot" ["spot"] 4 FL.sp_mirrored_spot :=
  ⟨f, fd, g, F.kp, F.bindsN fun _ _ _ _ _ _ us hl => match us, hl with | [_], _ => rfl, fn_mirrored_spot T F h_less⟩
theorem fn_turned_spot {f : Addr} {fd : FuncData} (T : Txt K mg) (F : FnP K "turned_spot" s_turned_spot f fd) (h_less : Has P w K mg base "less" ["one", "other"] 3 FL.sp_less) : FnOk P w K mg base (L2.CX P w) 4 f fd ["spot"] (upSp K FL.sp_turned_spot) :=
  fn_mk (N := ["spot"]) F sc_turned_spot rfl l_turned_spot (fun _ _ _ _ _ _ hr => d_turned_spot T h_less hr) r_turned_spot
theorem h_turned_spot {f : Addr} {fd : FuncData} (T : Txt K mg) (F : FnP K "turned_spot" s_turned_spot f fd) (g : mg "turned_spot" = some (.ref f)) (h_less : Has P w K mg base "less" ["one", "other"] 3 FL.sp_less) : Has P w K mg base "turned_spot" ["spot"] 4 FL.sp_turned_spot :=
  ⟨f, fd, g, F.kp, F.bindsN fun _ _ _ _ _ _ us hl => match us, hl with | [_], _ => rfl, fn_turned_spot T F h_less⟩
theorem fn_moved_spot {f : Addr} {fd : FuncData} (T : Txt K mg) (F : FnP K "moved_spot" s_moved_spot f fd) (h_plus : Has P w K mg base "plus" ["one", "other"] 3 FL.sp_plus) : FnOk P w K mg base (L2.CX P w) 4 f fd ["one", "spot"] (upSp K FL.sp_moved_spot) :=
  fn_mk (N := ["one", "spot"]) F sc_moved_spot rfl l_moved_spot (fun _ _ _ _ _ _ hr => d_moved_spot T h_plus hr) r_moved_spot
theorem h_moved_spot {f : Addr} {fd : FuncData} (T : Txt K mg) (F : FnP K "moved_spot" s_moved_spot f fd) (g : mg "moved_spot" = some (.ref f)) (h_plus : Has P w K mg base "plus" ["one", "other"] 3 FL.sp_plus) : Has P w K mg base "moved_spot" ["one", "spot"] 4 FL.sp_moved_spot :=
  ⟨f, fd, g, F.kp, F.bindsN fun _ _ _ _ _ _ us hl => match us, hl with | [_, _], _ => rfl, fn_moved_spot T F h_plus⟩
theorem fn_law_laid {f : Addr} {fd : FuncData} (T : Txt K mg) (F : FnP K "_law_laid" s_law_laid f fd) (h_law_apart : Has P w K mg base "_law_apart" ["_law_one", "_law_other"] 3 FL.sp_papart) (h_law_take : Has P w K mg base "_law_take" ["_law_pot_here", "_law_size"] 1 FL.sp_ptake) : FnOk P w K mg base (L2.CX P w) 4 f fd ["_law_pot_here", "_law_shuts", "_law_spots"] (upSp K FL.sp_laid) :=
  fn_mk (N := ["_law_pot_here", "_law_shuts", "_law_spots", "_law_one", "_law_other", "_law_shut", "_law_some"]) F sc_law_laid rfl l_law_laid (fun _ _ _ _ _ _ hr => d_law_laid T h_law_apart h_law_take hr) r_law_laid
theorem h_law_laid {f : Addr} {fd : FuncData} (T : Txt K mg) (F : FnP K "_law_laid" s_law_laid f fd) (g : mg "_law_laid" = some (.ref f)) (h_law_apart : Has P w K mg base "_law_apart" ["_law_one", "_law_other"] 3 FL.sp_papart) (h_law_take : Has P w K mg base "_law_take" ["_law_pot_here", "_law_size"] 1 FL.sp_ptake) : Has P w K mg base "_law_laid" ["_law_pot_here", "_law_shuts", "_law_spots"] 4 FL.sp_laid :=
  ⟨f, fd, g, F.kp, F.bindsN fun _ _ _ _ _ _ us hl => match us, hl with | [_, _, _], _ => rfl, fn_law_laid T F h_law_apart h_law_take⟩
theorem fn_law_right {f : Addr} {fd : FuncData} (T : Txt K mg) (F : FnP K "_law_right" s_law_right f fd) (h_law_same : HasS P w K mg base "_law_same" ["_law_found", "_law_due"] 1 FL.sp_same) (h_law_plot : Has P w K mg base "_law_plot" ["_law_frame_here", "_law_shuts"] 3 FL.sp_pplot) (h_law_moved_shuts : Has P w K mg base "_law_moved_shuts" ["_law_shuts", "_law_kind", "_law_far"] 2 FL.sp_umoved_shuts) : ShowOk P w K mg base 4 f fd ["_law_plot_here", "_law_shuts", "_law_frames_here", "_law_far", "_law_told"] (upSp K sp_law_right) :=
  show_mk (N := ["_law_plot_here", "_law_shuts", "_law_frames_here", "_law_far", "_law_told", "_law_kind"]) F sc_law_right rfl l_law_right (fun _ _ _ _ _ _ hgu hr => d_law_right T h_law_same h_law_plot h_law_moved_shuts hgu hr) r_law_right
theorem h_law_right {f : Addr} {fd : FuncData} (T : Txt K mg) (F : FnP K "_law_right" s_law_right f fd) (g : mg "_law_right" = some (.ref f)) (h_law_same : HasS P w K mg base "_law_same" ["_law_found", "_law_due"] 1 FL.sp_same) (h_law_plot : Has P w K mg base "_law_plot" ["_law_frame_here", "_law_shuts"] 3 FL.sp_pplot) (h_law_moved_shuts : Has P w K mg base "_law_moved_shuts" ["_law_shuts", "_law_kind", "_law_far"] 2 FL.sp_umoved_shuts) : HasS P w K mg base "_law_right" ["_law_plot_here", "_law_shuts", "_law_frames_here", "_law_far", "_law_told"] 4 sp_law_right :=
  ⟨f, fd, g, F.kp, F.bindsN fun _ _ _ _ _ _ us hl => match us, hl with | [_, _, _, _, _], _ => rfl, fn_law_right T F h_law_same h_law_plot h_law_moved_shuts⟩
theorem fn_moved {f : Addr} {fd : FuncData} (T : Txt K mg) (F : FnP K "moved" s_moved f fd) (h_wall_of : Has P w K mg base "wall_of" ["one", "other"] 3 FL.sp_wall_of) (h_moved_spot : Has P w K mg base "moved_spot" ["one", "spot"] 4 FL.sp_moved_spot) : FnOk P w K mg base (L2.CX P w) 5 f fd ["plot", "spot"] (upSp K FL.sp_moved) :=
  fn_mk (N := ["plot", "spot", "first", "second"]) F sc_moved rfl l_moved (fun _ _ _ _ _ _ hr => d_moved T h_wall_of h_moved_spot hr) r_moved
theorem h_moved {f : Addr} {fd : FuncData} (T : Txt K mg) (F : FnP K "moved" s_moved f fd) (g : mg "moved" = some (.ref f)) (h_wall_of : Has P w K mg base "wall_of" ["one", "other"] 3 FL.sp_wall_of) (h_moved_spot : Has P w K mg base "moved_spot" ["one", "spot"] 4 FL.sp_moved_spot) : Has P w K mg base "moved" ["plot", "spot"] 5 FL.sp_moved :=
  ⟨f, fd, g, F.kp, F.bindsN fun _ _ _ _ _ _ us hl => match us, hl with | [_, _], _ => rfl, fn_moved T F h_wall_of h_moved_spot⟩
theorem fn_mirrored {f : Addr} {fd : FuncData} (T : Txt K mg) (F : FnP K "mirrored" s_mirrored f fd) (h_wall_of : Has P w K mg base "wall_of" ["one", "other"] 3 FL.sp_wall_of) (h_mirrored_spot : Has P w K mg base "mirrored_spot" ["spot"] 4 FL.sp_mirrored_spot) : FnOk P w K mg base (L2.CX P w) 5 f fd ["plot"] (upSp K FL.sp_mirrored) :=
  fn_mk (N := ["plot", "first", "second"]) F sc_mirrored rfl l_mirrored (fun _ _ _ _ _ _ hr => d_mirrored T h_wall_of h_mirrored_spot hr) r_mirrored
theorem h_mirrored {f : Addr} {fd : FuncData} (T : Txt K mg) (F : FnP K "mirrored" s_mirrored f fd) (g : mg "mirrored" = some (.ref f)) (h_wall_of : Has P w K mg base "wall_of" ["one", "other"] 3 FL.sp_wall_of) (h_mirrored_spot : Has P w K mg base "mirrored_spot" ["spot"] 4 FL.sp_mirrored_spot) : Has P w K mg base "mirrored" ["plot"] 5 FL.sp_mirrored :=
  ⟨f, fd, g, F.kp, F.bindsN fun _ _ _ _ _ _ us hl => match us, hl with | [_], _ => rfl, fn_mirrored T F h_wall_of h_mirrored_spot⟩
theorem fn_turned {f : Addr} {fd : FuncData} (T : Txt K mg) (F : FnP K "turned" s_turned f fd) (h_wall_of : Has P w K mg base "wall_of" ["one", "other"] 3 FL.sp_wall_of) (h_turned_spot : Has P w K mg base "turned_spot" ["spot"] 4 FL.sp_turned_spot) : FnOk P w K mg base (L2.CX P w) 5 f fd ["plot"] (upSp K FL.sp_turned) :=
  fn_mk (N := ["plot", "first", "second"]) F sc_turned rfl l_turned (fun _ _ _ _ _ _ hr => d_turned T h_wall_of h_turned_spot hr) r_turned
theorem h_turned {f : Addr} {fd : FuncData} (T : Txt K mg) (F : FnP K "turned" s_turned f fd) (g : mg "turned" = some (.ref f)) (h_wall_of : Has P w K mg base "wall_of" ["one", "other"] 3 FL.sp_wall_of) (h_turned_spot : Has P w K mg base "turned_spot" ["spot"] 4 FL.sp_turned_spot) : Has P w K mg base "turned" ["plot"] 5 FL.sp_turned :=
  ⟨f, fd, g, F.kp, F.bindsN fun _ _ _ _ _ _ us hl => match us, hl with | [_], _ => rfl, fn_turned T F h_wall_of h_turned_spot⟩
theorem fn_law_shuts_here {f : Addr} {fd : FuncData} (T : Txt K mg) (F : FnP K "_law_shuts_here" s_law_shuts_here f fd) (h_law_take : Has P w K mg base "_law_take" ["_law_pot_here", "_law_size"] 1 FL.sp_ptake) (h_law_laid : Has P w K mg base "_law_laid" ["_law_pot_here", "_law_shuts", "_law_spots"] 4 FL.sp_laid) (h_law_square : Has P w K mg base "_law_square" ["_law_pot_here", "_law_wide"] 3 FL.sp_psquare) (h_law_some_spot : Has P w K mg base "_law_some_spot" ["_law_pot_here", "_law_shuts", "_law_wide"] 3 FL.sp_some_spot) : FnOk P w K mg base (L2.CX P w) 5 f fd ["_law_pot_here", "_law_most"] (upSp K FL.sp_pshuts) :=
  fn_mk (N := ["_law_pot_here", "_law_most", "_law_shuts", "_law_wide", "_law_k", "_law_spots", "_law_j"]) F sc_law_shuts_here rfl l_law_shuts_here (fun _ _ _ _ _ _ hr => d_law_shuts_here T h_law_take h_law_laid h_law_square h_law_some_spot hr) r_law_shuts_here
theorem h_law_shuts_here {f : Addr} {fd : FuncData} (T : Txt K mg) (F : FnP K "_law_shuts_here" s_law_shuts_here f fd) (g : mg "_law_shuts_here" = some (.ref f)) (h_law_take : Has P w K mg base "_law_take" ["_law_pot_here", "_law_size"] 1 FL.sp_ptake) (h_law_laid : Has P w K mg base "_law_laid" ["_law_pot_here", "_law_shuts", "_law_spots"] 4 FL.sp_laid) (h_law_square : Has P w K mg base "_law_square" ["_law_pot_here", "_law_wide"] 3 FL.sp_psquare) (h_law_some_spot : Has P w K mg base "_law_some_spot" ["_law_pot_here", "_law_shuts", "_law_wide"] 3 FL.sp_some_spot) : Has P w K mg base "_law_shuts_here" ["_law_pot_here", "_law_most"] 5 FL.sp_pshuts :=
  ⟨f, fd, g, F.kp, F.bindsN fun _ _ _ _ _ _ us hl => match us, hl with | [_, _], _ => rfl, fn_law_shuts_here T F h_law_take h_law_laid h_law_square h_law_some_spot⟩
theorem fn_law {f : Addr} {fd : FuncData} (T : Txt K mg) (F : FnP K "law" s_law f fd) (h_law_same : HasS P w K mg base "_law_same" ["_law_found", "_law_due"] 1 FL.sp_same) (h_in_order : Has P w K mg base "in_order" ["plot", "order"] 1 FL.sp_in_order) (h_law_order : Has P w K mg base "_law_order" ["_law_pot_here", "_law_many"] 2 FL.sp_border) (h_turned : Has P w K mg base "turned" ["plot"] 5 FL.sp_turned) (h_mirrored : Has P w K mg base "mirrored" ["plot"] 5 FL.sp_mirrored) (h_moved : Has P w K mg base "moved" ["plot", "spot"] 5 FL.sp_moved) (h_law_plot : Has P w K mg base "_law_plot" ["_law_frame_here", "_law_shuts"] 3 FL.sp_pplot) (h_law_right : HasS P w K mg base "_law_right" ["_law_plot_here", "_law_shuts", "_law_frames_here", "_law_far", "_law_told"] 4 sp_law_right) (h_law_given : Has P w K mg base "_law_given" ["_law_frame_here", "_law_spot"] 2 FL.sp_given) (h_law_take : Has P w K mg base "_law_take" ["_law_pot_here", "_law_size"] 1 FL.sp_ptake) (h_law_frames : Has P w K mg base "_law_frames" ["_law_pot_here", "_law_many"] 3 FL.sp_frames) (h_law_squares : Has P w K mg base "_law_squares" ["_law_pot_here", "_law_most"] 2 FL.sp_bsquares) (h_law_shuts_here : Has P w K mg base "_law_shuts_here" ["_law_pot_here", "_law_most"] 5 FL.sp_pshuts) (h_law_pot : Has P w K mg base "_law_pot" ["_law_script", "_law_k"] 1 FL.sp_pot) : ShowOk P w K mg base 6 f fd ["_law_script"] (upSp K spLaw) :=
  show_mk (N := ["_law_script", "_law_k", "_law_pot_here", "_law_shuts", "_law_frame_here", "_law_frames_here", "_law_plot_here", "_law_far", "_law_by", "_law_back", "_law_told", "_law_order_here", "_law_handed", "_law_due", "_law_number"]) F sc_law rfl l_law (fun _ _ _ _ _ _ hgu hr => d_law T h_law_same h_in_order h_law_order h_turned h_mirrored h_moved h_law_plot h_law_right h_law_given h_law_take h_law_frames h_law_squares h_law_shuts_here h_law_pot hgu hr) r_law
end
theorem facts {P : Program} {w : World} {K : PySem.W.Frag} {h : Heap} {mg : Str → Option Value} {f : Addr} (X : K.In h) (G : h.Ns mainGlobals mg) (hfa : mg ("law" : Str) = some (.ref f)) (c0 : SaysK fa fn [] K) (ct : (tupsB [("NOUGHT", [0, 1])] K && excsB [] K) = true) :
    ∃ fd : FuncData, (∀ (s : Shared) (v : Value), BindsTo s fd ⟨[v], []⟩ [("_law_script", v)]) ∧ ∀ base : Heap, K.In base → base.Ns mainGlobals mg → ShowOk P w K mg base 6 f fd ["_law_script"] (upSp K spLaw) := by
  have c := c0.says
  obtain ⟨fd_divisor, F_divisor⟩ := c.def_ 0 (d := mkD "divisor" s_divisor) rfl
  have g_divisor := He.glo_ok X G (c.fact 0 (f := .glo "divisor") rfl)
  obtain ⟨fd_is_less, F_is_less⟩ := c.def_ 1 (d := mkD "is_less" s_is_less) rfl
  have g_is_less := He.glo_ok X G (c.fact 1 (f := .glo "is_less") rfl)
  obtain ⟨fd_in_order, F_in_order⟩ := c.def_ 2 (d := mkD "in_order" s_in_order) rfl
  have g_in_order := He.glo_ok X G (c.fact 2 (f := .glo "in_order") rfl)
  obtain ⟨fd_law_pot, F_law_pot⟩ := c.def_ 3 (d := mkD "_law_pot" s_law_pot) rfl
  have g_law_pot := He.glo_ok X G (c.fact 3 (f := .glo "_law_pot") rfl)
  obtain ⟨fd_law_take, F_law_take⟩ := c.def_ 4 (d := mkD "_law_take" s_law_take) rfl
  have g_law_take := He.glo_ok X G (c.fact 4 (f := .glo "_law_take") rfl)
  obtain ⟨fd_law_side, F_law_side⟩ := c.def_ 5 (d := mkD "_law_side" s_law_side) rfl
  have g_law_side := He.glo_ok X G (c.fact 5 (f := .glo "_law_side") rfl)
  obtain ⟨fd_law_frac, F_law_frac⟩ := c.def_ 6 (d := mkD "_law_frac" s_law_frac) rfl
  have g_law_frac := He.glo_ok X G (c.fact 6 (f := .glo "_law_frac") rfl)
  obtain ⟨fd_law_same, F_law_same⟩ := c.def_ 7 (d := mkD "_law_same" s_law_same) rfl
  have g_law_same := He.glo_ok X G (c.fact 7 (f := .glo "_law_same") rfl)
  obtain ⟨fd_law_moved_spot, F_law_moved_spot⟩ := c.def_ 8 (d := mkD "_law_moved_spot" s_law_moved_spot) rfl
  have g_law_moved_spot := He.glo_ok X G (c.fact 8 (f := .glo "_law_moved_spot") rfl)
  obtain ⟨fd_fraction, F_fraction⟩ := c.def_ 9 (d := mkD "fraction" s_fraction) rfl
  have g_fraction := He.glo_ok X G (c.fact 9 (f := .glo "fraction") rfl)
  obtain ⟨fd_is_ahead, F_is_ahead⟩ := c.def_ 10 (d := mkD "is_ahead" s_is_ahead) rfl
  have g_is_ahead := He.glo_ok X G (c.fact 10 (f := .glo "is_ahead") rfl)
  obtain ⟨fd_law_on, F_law_on⟩ := c.def_ 11 (d := mkD "_law_on" s_law_on) rfl
  have g_law_on := He.glo_ok X G (c.fact 11 (f := .glo "_law_on") rfl)
  obtain ⟨fd_law_new_spot, F_law_new_spot⟩ := c.def_ 12 (d := mkD "_law_new_spot" s_law_new_spot) rfl
  have g_law_new_spot := He.glo_ok X G (c.fact 12 (f := .glo "_law_new_spot") rfl)
  obtain ⟨fd_law_frame, F_law_frame⟩ := c.def_ 13 (d := mkD "_law_frame" s_law_frame) rfl
  have g_law_frame := He.glo_ok X G (c.fact 13 (f := .glo "_law_frame") rfl)
  obtain ⟨fd_law_given, F_law_given⟩ := c.def_ 14 (d := mkD "_law_given" s_law_given) rfl
  have g_law_given := He.glo_ok X G (c.fact 14 (f := .glo "_law_given") rfl)
  obtain ⟨fd_law_moved_shuts, F_law_moved_shuts⟩ := c.def_ 15 (d := mkD "_law_moved_shuts" s_law_moved_shuts) rfl
  have g_law_moved_shuts := He.glo_ok X G (c.fact 15 (f := .glo "_law_moved_shuts") rfl)
  obtain ⟨fd_law_order, F_law_order⟩ := c.def_ 16 (d := mkD "_law_order" s_law_order) rfl
  have g_law_order := He.glo_ok X G (c.fact 16 (f := .glo "_law_order") rfl)
  obtain ⟨fd_law_squares, F_law_squares⟩ := c.def_ 17 (d := mkD "_law_squares" s_law_squares) rfl
  have g_law_squares := He.glo_ok X G (c.fact 17 (f := .glo "_law_squares") rfl)
  obtain ⟨fd_plus, F_plus⟩ := c.def_ 18 (d := mkD "plus" s_plus) rfl
  have g_plus := He.glo_ok X G (c.fact 18 (f := .glo "plus") rfl)
  obtain ⟨fd_less, F_less⟩ := c.def_ 19 (d := mkD "less" s_less) rfl
  have g_less := He.glo_ok X G (c.fact 19 (f := .glo "less") rfl)
  obtain ⟨fd_wall_of, F_wall_of⟩ := c.def_ 20 (d := mkD "wall_of" s_wall_of) rfl
  have g_wall_of := He.glo_ok X G (c.fact 20 (f := .glo "wall_of") rfl)
  obtain ⟨fd_law_apart, F_law_apart⟩ := c.def_ 21 (d := mkD "_law_apart" s_law_apart) rfl
  have g_law_apart := He.glo_ok X G (c.fact 21 (f := .glo "_law_apart") rfl)
  obtain ⟨fd_law_some_spot, F_law_some_spot⟩ := c.def_ 22 (d := mkD "_law_some_spot" s_law_some_spot) rfl
  have g_law_some_spot := He.glo_ok X G (c.fact 22 (f := .glo "_law_some_spot") rfl)
  obtain ⟨fd_law_square, F_law_square⟩ := c.def_ 23 (d := mkD "_law_square" s_law_square) rfl
  have g_law_square := He.glo_ok X G (c.fact 23 (f := .glo "_law_square") rfl)
  obtain ⟨fd_law_plot, F_law_plot⟩ := c.def_ 24 (d := mkD "_law_plot" s_law_plot) rfl
  have g_law_plot := He.glo_ok X G (c.fact 24 (f := .glo "_law_plot") rfl)
  obtain ⟨fd_law_frames, F_law_frames⟩ := c.def_ 25 (d := mkD "_law_frames" s_law_frames) rfl
  have g_law_frames := He.glo_ok X G (c.fact 25 (f := .glo "_law_frames") rfl)
  obtain ⟨fd_mirrored_spot, F_mirrored_spot⟩ := c.def_ 26 (d := mkD "mirrored_spot" s_mirrored_spot) rfl
  have g_mirrored_spot := He.glo_ok X G (c.fact 26 (f := .glo "mirrored_spot") rfl)
  obtain ⟨fd_turned_spot, F_turned_spot⟩ := c.def_ 27 (d := mkD "turned_spot" s_turned_spot) rfl
  have g_turned_spot := He.glo_ok X G (c.fact 27 (f := .glo "turned_spot") rfl)
  obtain ⟨fd_moved_spot, F_moved_spot⟩ := c.def_ 28 (d := mkD "moved_spot" s_moved_spot) rfl
  have g_moved_spot := He.glo_ok X G (c.fact 28 (f := .glo "moved_spot") rfl)
  obtain ⟨fd_law_laid, F_law_laid⟩ := c.def_ 29 (d := mkD "_law_laid" s_law_laid) rfl
  have g_law_laid := He.glo_ok X G (c.fact 29 (f := .glo "_law_laid") rfl)
  obtain ⟨fd_law_right, F_law_right⟩ := c.def_ 30 (d := mkD "_law_right" s_law_right) rfl
  have g_law_right := He.glo_ok X G (c.fact 30 (f := .glo "_law_right") rfl)
  obtain ⟨fd_moved, F_moved⟩ := c.def_ 31 (d := mkD "moved" s_moved) rfl
  have g_moved := He.glo_ok X G (c.fact 31 (f := .glo "moved") rfl)
  obtain ⟨fd_mirrored, F_mirrored⟩ := c.def_ 32 (d := mkD "mirrored" s_mirrored) rfl
  have g_mirrored := He.glo_ok X G (c.fact 32 (f := .glo "mirrored") rfl)
  obtain ⟨fd_turned, F_turned⟩ := c.def_ 33 (d := mkD "turned" s_turned) rfl
  have g_turned := He.glo_ok X G (c.fact 33 (f := .glo "turned") rfl)
  obtain ⟨fd_law_shuts_here, F_law_shuts_here⟩ := c.def_ 34 (d := mkD "_law_shuts_here" s_law_shuts_here) rfl
  have g_law_shuts_here := He.glo_ok X G (c.fact 34 (f := .glo "_law_shuts_here") rfl)
  obtain ⟨fd_law, F_law⟩ := c.def_ 35 (d := mkD "law" s_law) rfl
  have g_law := He.glo_ok X G (c.fact 35 (f := .glo "law") rfl)
  have T : Txt K mg := { f_abs := He.free_ok X G (c.fact 36 (f := .free "abs") rfl), f_int := He.free_ok X G (c.fact 37 (f := .free "int") rfl), f_len := He.free_ok X G (c.fact 38 (f := .free "len") rfl), f_list := He.free_ok X G (c.fact 39 (f := .free "list") rfl), f_max := He.free_ok X G (c.fact 40 (f := .free "max") rfl), f_min := He.free_ok X G (c.fact 41 (f := .free "min") rfl), f_range := He.free_ok X G (c.fact 42 (f := .free "range") rfl), f_repr := He.free_ok X G (c.fact 43 (f := .free "repr") rfl), f_tuple := He.free_ok X G (c.fact 44 (f := .free "tuple") rfl), f_zip := He.free_ok X G (c.fact 45 (f := .free "zip") rfl), c_NOUGHT := ⟨tups_at (Bool.and_eq_true_iff.mp ct).1 ("NOUGHT", [0, 1]) (by decide), He.glo_ok X G (c.fact 46 (f := .glo "NOUGHT") rfl)⟩ }
  have e := hfa.symm.trans g_law
  cases e
  have b := FunD.bindsA (ps := ["_law_script"]) F_law fun _ _ _ _ _ _ us hl => match us, hl with | [_], _ => rfl
  refine ⟨fd_law, fun s v => b s [v] rfl, fun base _ _ => ?_⟩
  have H_divisor := h_divisor (P := P) (w := w) (base := base) T F_divisor g_divisor 
  have H_is_less := h_is_less (P := P) (w := w) (base := base) T F_is_less g_is_less 
  have H_in_order := h_in_order (P := P) (w := w) (base := base) T F_in_order g_in_order 
  have H_law_pot := h_law_pot (P := P) (w := w) (base := base) T F_law_pot g_law_pot 
  have H_law_take := h_law_take (P := P) (w := w) (base := base) T F_law_take g_law_take 
  have H_law_side := h_law_side (P := P) (w := w) (base := base) T F_law_side g_law_side 
  have H_law_frac := h_law_frac (P := P) (w := w) (base := base) T F_law_frac g_law_frac 
  have H_law_same := h_law_same (P := P) (w := w) (base := base) T F_law_same g_law_same 
  have H_law_moved_spot := h_law_moved_spot (P := P) (w := w) (base := base) T F_law_moved_spot g_law_moved_spot 
  have H_fraction := h_fraction (P := P) (w := w) (base := base) T F_fraction g_fraction H_divisor
  have H_is_ahead := h_is_ahead (P := P) (w := w) (base := base) T F_is_ahead g_is_ahead H_is_less
  have H_law_on := h_law_on (P := P) (w := w) (base := base) T F_law_on g_law_on H_law_side
  have H_law_new_spot := h_law_new_spot (P := P) (w := w) (base := base) T F_law_new_spot g_law_new_spot H_law_take
  have H_law_frame := h_law_frame (P := P) (w := w) (base := base) T F_law_frame g_law_frame H_law_take
  have H_law_given := h_law_given (P := P) (w := w) (base := base) T F_law_given g_law_given H_law_frac
  have H_law_moved_shuts := h_law_moved_shuts (P := P) (w := w) (base := base) T F_law_moved_shuts g_law_moved_shuts H_law_moved_spot
  have H_law_order := h_law_order (P := P) (w := w) (base := base) T F_law_order g_law_order H_law_take
  have H_law_squares := h_law_squares (P := P) (w := w) (base := base) T F_law_squares g_law_squares H_law_take
  have H_plus := h_plus (P := P) (w := w) (base := base) T F_plus g_plus H_fraction
  have H_less := h_less (P := P) (w := w) (base := base) T F_less g_less H_fraction
  have H_wall_of := h_wall_of (P := P) (w := w) (base := base) T F_wall_of g_wall_of H_is_ahead
  have H_law_apart := h_law_apart (P := P) (w := w) (base := base) T F_law_apart g_law_apart H_law_side H_law_on
  have H_law_some_spot := h_law_some_spot (P := P) (w := w) (base := base) T F_law_some_spot g_law_some_spot H_law_take H_law_new_spot
  have H_law_square := h_law_square (P := P) (w := w) (base := base) T F_law_square g_law_square H_law_take H_law_new_spot
  have H_law_plot := h_law_plot (P := P) (w := w) (base := base) T F_law_plot g_law_plot H_law_given
  have H_law_frames := h_law_frames (P := P) (w := w) (base := base) T F_law_frames g_law_frames H_law_frame
  have H_mirrored_spot := h_mirrored_spot (P := P) (w := w) (base := base) T F_mirrored_spot g_mirrored_spot H_less
  have H_turned_spot := h_turned_spot (P := P) (w := w) (base := base) T F_turned_spot g_turned_spot H_less
  have H_moved_spot := h_moved_spot (P := P) (w := w) (base := base) T F_moved_spot g_moved_spot H_plus
  have H_law_laid := h_law_laid (P := P) (w := w) (base := base) T F_law_laid g_law_laid H_law_apart H_law_take
  have H_law_right := h_law_right (P := P) (w := w) (base := base) T F_law_right g_law_right H_law_same H_law_plot H_law_moved_shuts
  have H_moved := h_moved (P := P) (w := w) (base := base) T F_moved g_moved H_wall_of H_moved_spot
  have H_mirrored := h_mirrored (P := P) (w := w) (base := base) T F_mirrored g_mirrored H_wall_of H_mirrored_spot
  have H_turned := h_turned (P := P) (w := w) (base := base) T F_turned g_turned H_wall_of H_turned_spot
  have H_law_shuts_here := h_law_shuts_here (P := P) (w := w) (base := base) T F_law_shuts_here g_law_shuts_here H_law_take H_law_laid H_law_square H_law_some_spot
  exact fn_law T F_law H_law_same H_in_order H_law_order H_turned H_mirrored H_moved H_law_plot H_law_right H_law_given H_law_take H_law_frames H_law_squares H_law_shuts_here H_law_pot
end Lk60
open PySem PySem.W PySem.Calls PyProof.Rows
theorem PySem.Challenge.cw_spotlook_k60_plots_moved_mirrored_turned_holds : PySem.Challenge.rw_spotlook_k60_plots_moved_mirrored_turned.Holds := by
  w_on; o_law
  refine HandSHeadRun.head_any (r := Lk60.R) (q := view Lk60.R.prog [44]) (H := Lk60.hk) (ob := Lk60.ob) (M := 3400) (loose := Lk60.names) (d := HandSHeadRun.topDef Lk60.R.prog 44) (kwd := []) Lk60.ob_eq
    (by kernel_rfl) (fun s => by kernel_rfl) Lk60.run (by kernel_rfl) (by kernel_rfl) (by kernel_rfl) (by rfl) (by first | assumption | decide +kernel) (by decide +kernel) ⟨rfl, rfl, rfl, rfl, rfl, by decide +kernel⟩ ?hw ?hc
  case hw => w_witness2
  case hc =>
    refine ML.law_endS (k := 6) (x := "_law_script") rfl (by kernel_rfl) ⟨rfl, by decide, by decide⟩ ?_
    intro w mg fa h Y G hmg0
    obtain ⟨K, KX, c, ct⟩ := Y
    have hmg : mg ("law" : PySem.Str) = some (.ref fa) := by
      have e : (HandSHeadRun.topDef Lk60.R.prog 44).name = ("law" : PySem.Str) := by kernel_rfl
      rw [← e]
      exact hmg0
    obtain ⟨fd, hb, hF⟩ := Lk60.facts (P := PySem.Challenge.rw_spotlook_k60_plots_moved_mirrored_turned.prog) (w := w) KX G hmg c ct
    exact ⟨K, fd, KX, hb, hF⟩
