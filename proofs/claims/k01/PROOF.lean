import PyProof.Rows.All
import Wide.All
import OpenK.AllK
import Wide.FinOn
import HandS.ForMost
import HandS.ForExc
import HandS.ExcInit
import HandS.TryMany
import HandS.TryOnly
import HandS.CallSlots
import HandS.IsInst
import HandS.Walk
import HandS.Zip
import HandS.HeadHook4
import HandS.Flow
import HandS.Wide
import HandS.TupAny
import HandS.TupMul
import HandS.Deep
import HandS.Style
import KE.GoesZip
import KE.GoesMore
import KE.GoesEnum
import KE.GoesNew
import HandS.Comp
import HandS.Small
import HandS.ExcField
import HandS.HeadEnd
import PySem.Challenge.RW_seriesbooked_k01_rules_refused
import HandS.Head0
import HandS.Head1
import HandS.Head2
import HandS.HeadHook1
import HandS.HeadHook2
import HandS.HeadHook3
import KE.KStateDown
import Lean
set_option Elab.async false
set_option linter.all false
set_option maxRecDepth 100000
set_option maxHeartbeats 2000000
namespace Mi
open PySem PySem.Spec PyProof.Rows L2
/-- plain data, and references into a store -/
inductive MV where
  | non | bl (b : Bool) | int (i : Int) | str (x : Str)
  | tup (xs : List MV) | lst (xs : List MV)
  | dct (ks : List Key) (vs : List MV)
  | dcT (ks : List MV) (vs : List MV)
  | obj (c : Str) (fs : List Str) (vs : List MV)
  | ref (n : Nat)
  | kls (xs : List MV)
  deriving Inhabited
/-- what stands in the store -/
inductive MO where
  | lst (xs : List MV)
  | dct (ks : List Key) (vs : List MV)
  | dcT (ks : List MV) (vs : List MV)
  | obj (c : Str) (fs : List Str) (vs : List MV)
  deriving Inhabited
abbrev Sto := List MO
abbrev Ev := List (Option MV)
mutual
def MV.beq : MV → MV → Bool
  | .non, .non => true
  | .bl a, .bl b => a == b
  | .int a, .int b => decide (a = b)
  | .str a, .str b => decide (a = b)
  | .tup a, .tup b => MV.beqs a b
  | .lst a, .lst b => MV.beqs a b
  | .dct ka a, .dct kb b => decide (ka = kb) && MV.beqs a b
  | .dcT ka a, .dcT kb b => MV.beqs ka kb && MV.beqs a b
  | .obj c f a, .obj c' f' b => decide (c = c') && (decide (f = f') && MV.beqs a b)
  | .ref a, .ref b => decide (a = b)
  | .kls a, .kls b => MV.beqs a b
  | _, _ => false
def MV.beqs : List MV → List MV → Bool
  | [], [] => true
  | a :: as, b :: bs => MV.beq a b && MV.beqs as bs
  | _, _ => false
end
mutual
theorem MV.beq_ok : ∀ a b : MV, MV.beq a b = true ↔ a = b
  | .non, b => by cases b <;> simp [MV.beq]
  | .bl a, b => by cases b <;> simp [MV.beq]
  | .int a, b => by cases b <;> simp [MV.beq]
  | .str a, b => by cases b <;> simp [MV.beq]
  | .tup a, b => by cases b <;> simp [MV.beq, MV.beqs_ok a]
  | .lst a, b => by cases b <;> simp [MV.beq, MV.beqs_ok a]
  | .dct ka a, b => by cases b <;> simp [MV.beq, MV.beqs_ok a]
  | .dcT ka a, b => by cases b <;> simp [MV.beq, MV.beqs_ok a, MV.beqs_ok ka]
  | .obj c f a, b => by cases b <;> simp [MV.beq, MV.beqs_ok a]
  | .ref a, b => by cases b <;> simp [MV.beq]
  | .kls a, b => by cases b <;> simp [MV.beq, MV.beqs_ok a]
theorem MV.beqs_ok : ∀ a b : List MV, MV.beqs a b = true ↔ a = b
  | [], b => by cases b <;> simp [MV.beqs]
  | a :: as, b => by
    cases b with
    | nil => simp [MV.beqs]
    | cons b bs => simp [MV.beqs, MV.beq_ok a b, MV.beqs_ok as bs]
end
instance : DecidableEq MV := fun a b => decidable_of_iff _ (MV.beq_ok a b)
def MO.beq : MO → MO → Bool
  | .lst a, .lst b => MV.beqs a b
  | .dct ka a, .dct kb b => decide (ka = kb) && MV.beqs a b
  | .dcT ka a, .dcT kb b => MV.beqs ka kb && MV.beqs a b
  | .obj c f a, .obj c' f' b => decide (c = c') && (decide (f = f') && MV.beqs a b)
  | _, _ => false
theorem MO.beq_ok (a b : MO) : MO.beq a b = true ↔ a = b := by
  cases a <;> cases b <;> simp [MO.beq, MV.beqs_ok]
instance : DecidableEq MO := fun a b => decidable_of_iff _ (MO.beq_ok a b)
mutual
def canon : MV → MV
  | .bl b => .int (if b then 1 else 0)
  | .tup xs => .tup (canons xs)
  | x => x
def canons : List MV → List MV
  | [] => []
  | x :: xs => canon x :: canons xs
end
mutual
def keyOk : MV → Bool
  | .non | .bl _ | .int _ | .str _ => true
  | .tup xs => keyOks xs
  | _ => false
def keyOks : List MV → Bool
  | [] => true
  | x :: xs => keyOk x && keyOks xs
end
mutual
def kdep : MV → Nat
  | .tup xs => kdeps xs + 1
  | _ => 0
def kdeps : List MV → Nat
  | [] => 0
  | x :: xs => max (kdep x) (kdeps xs)
end
/-- keys of a dict: plain data, not too deep -/
def keyTs (ks : List MV) : Bool := keyOks ks && decide (kdeps ks ≤ 8)
/-- where data is read: the program, the world, the written part, the abstract heap, the addresses of the store -/
structure RC where
  w : World
  K : PySem.W.Frag
  H : Hp
  ι : List Addr
  bad : List Addr := []
/-- not to be written -/
def Froz (C : RC) (a : Addr) : Prop := a ∉ C.ι ∧ a ∉ C.bad
mutual
def hashK (w : World) : MV → Int
  | .non => 0xfca86420
  | .int i => hashInt i
  | .bl b => hashInt (if b then 1 else 0)
  | .str x => hashStr w x
  | .tup xs => reduceHash (Builtin.Tuple.tupleHashOf (hashKs w xs))
  | _ => 0
def hashKs (w : World) : List MV → List Int
  | [] => []
  | x :: xs => hashK w x :: hashKs w xs
end
/-- the entries of a dict whose keys are tuples -/
def entsOf (w : World) : List MV → List Addr → List Value → List DictEntry
  | k :: ks, p :: ps, u :: us => ⟨hashK w k, .ref p, u⟩ :: entsOf w ks ps us
  | _, _, _ => []
/-- a list of the written part -/
def KList (K : PySem.W.Frag) (a : Addr) (xs : List V) : Prop :=
  SqL K (fun _ => none) a xs
theorem KList.sq {K : PySem.W.Frag} {a : Addr} {xs : List V} (h : KList K a xs) (H : Hp) : SqL K H a xs := by
  rcases h with (k | ⟨ob, k⟩) | k
  · cases k
  · cases k
  · exact .inr k
theorem KList.of {K : PySem.W.Frag} {a : Addr} {xs : List V} {o : Obj} {its : Array Value} {n : Nat} (q : K.lookup a = some o) (c : o.cls = .type "list") (nd : o.dict = none) (dt : o.data = .seq its n) (z : its.size ≤ sizeLine) (rv : Vals xs its.toList) : KList K a xs :=
  .inr ⟨o, its, n, q, c, nd, dt, z, rv⟩
mutual
def RepV (C : RC) : MV → V → Prop
  | .non, v => v = .non
  | .bl b, v => v = .bl b
  | .int i, v => v = .int i
  | .str x, v => v = .str x
  | .tup xs, v => ∃ a vs, v = .ref a ∧ SqT C.K C.H a vs ∧ RepVs C xs vs
  | .lst xs, v => ∃ a vs, v = .ref a ∧ Froz C a ∧ C.H a = some (.lst vs) ∧ RepVs C xs vs
  | .dct ks ds, v => ∃ a vs, v = .ref a ∧ Froz C a ∧ Rd C.H a (.dK (ks.zip vs)) ∧ ks.length = vs.length ∧ ks.Nodup ∧ RepVs C ds vs
  | .dcT ks ds, v => ∃ a, v = .ref a ∧ Froz C a ∧ (a == sysModules) = false ∧ keyTs ks = true ∧ ((canons ks).Nodup) ∧ ks.length = ds.length ∧ ks.length ≤ sizeLine ∧
      ∃ (ob : Obj) (es : Array DictEntry) (ep : Nat) (ps : List Addr) (us : List Value) (kvs vs : List V),
        C.H a = some (.ext fun h => h.get? a = some ob) ∧ ob.ExactDict ∧ ob.data = .dict es ep ∧ es.toList = entsOf C.w ks ps us ∧ kvs = ps.map V.ref ∧ RepVs C ks kvs ∧ Vals vs us ∧ RepVs C ds vs
  | .obj c fs ds, v => ∃ a dx vs, v = .ref a ∧ Froz C a ∧ C.H a = some (.ins (He.ga C.K c) dx (fs.zip vs)) ∧ fs.length = vs.length ∧ RepVs C ds vs
  | .ref n, v => ∃ a, v = .ref a ∧ C.ι[n]? = some a
  | .kls xs, v => ∃ a vs, v = .ref a ∧ ((∃ o, C.H a = some (.frz o (.lst vs))) ∨ KList C.K a vs) ∧ RepVs C xs vs
def RepVs (C : RC) : List MV → List V → Prop
  | [], [] => True
  | d :: ds, v :: vs => RepV C d v ∧ RepVs C ds vs
  | _, _ => False
end
/-- an object of the store at its address -/
def RepO (C : RC) (a : Addr) : MO → Prop
  | .lst xs => ∃ vs, C.H a = some (.lst vs) ∧ RepVs C xs vs
  | .dct ks ds => ∃ vs, C.H a = some (.dK (ks.zip vs)) ∧ ks.length = vs.length ∧ ks.Nodup ∧ RepVs C ds vs
  | .dcT ks ds => (a == sysModules) = false ∧ keyTs ks = true ∧ ((canons ks).Nodup) ∧ ks.length = ds.length ∧ ks.length ≤ sizeLine ∧
      ∃ (ob : Obj) (es : Array DictEntry) (ep : Nat) (ps : List Addr) (us : List Value) (kvs vs : List V),
        C.H a = some (.ext fun h => h.get? a = some ob) ∧ ob.ExactDict ∧ ob.data = .dict es ep ∧ es.toList = entsOf C.w ks ps us ∧ kvs = ps.map V.ref ∧ RepVs C ks kvs ∧ Vals vs us ∧ RepVs C ds vs
  | .obj c fs ds => ∃ dx vs, C.H a = some (.ins (He.ga C.K c) dx (fs.zip vs)) ∧ fs.length = vs.length ∧ RepVs C ds vs
structure RepS (C : RC) (S : Sto) : Prop where
  len : C.ι.length = S.length
  nd : C.ι.Nodup
  bad : ∀ a ∈ C.bad, a ∉ C.ι ∧ C.H a ≠ none
  ob : ∀ (n : Nat) (o : MO) (a : Addr), S[n]? = some o → C.ι[n]? = some a → RepO C a o
theorem RepVs.length {C : RC} : ∀ {ds : List MV} {vs : List V}, RepVs C ds vs → ds.length = vs.length
  | [], [], _ => rfl
  | [], _ :: _, h => by simp [RepVs] at h
  | _ :: _, [], h => by simp [RepVs] at h
  | d :: ds, v :: vs, h => by
    rw [RepVs] at h
    simp [RepVs.length h.2]
theorem RepVs.get {C : RC} : ∀ {ds : List MV} {vs : List V} {i : Nat} {d : MV}, RepVs C ds vs → ds[i]? = some d → ∃ v, vs[i]? = some v ∧ RepV C d v
  | [], _, _, _, _, e => by simp at e
  | _ :: _, [], _, _, h, _ => by simp [RepVs] at h
  | d :: ds, v :: vs, 0, x, h, e => by
    rw [RepVs] at h
    simp at e; subst e
    exact ⟨v, rfl, h.1⟩
  | d :: ds, v :: vs, i + 1, x, h, e => by
    rw [RepVs] at h
    obtain ⟨w, k1, k2⟩ := RepVs.get (i := i) h.2 (by simpa using e)
    exact ⟨w, by simpa using k1, k2⟩
theorem RepVs.get' {C : RC} : ∀ {ds : List MV} {vs : List V} {i : Nat} {v : V}, RepVs C ds vs → vs[i]? = some v → ∃ d, ds[i]? = some d ∧ RepV C d v
  | [], [], _, _, _, e => by simp at e
  | [], _ :: _, _, _, h, _ => by simp [RepVs] at h
  | _ :: _, [], _, _, h, _ => by simp [RepVs] at h
  | d :: ds, v :: vs, 0, x, h, e => by
    rw [RepVs] at h
    simp at e; subst e
    exact ⟨d, rfl, h.1⟩
  | d :: ds, v :: vs, i + 1, x, h, e => by
    rw [RepVs] at h
    obtain ⟨w, k1, k2⟩ := RepVs.get' (i := i) h.2 (by simpa using e)
    exact ⟨w, by simpa using k1, k2⟩
theorem RepVs.cons {C : RC} {d : MV} {ds : List MV} {v : V} {vs : List V} (h : RepV C d v) (t : RepVs C ds vs) : RepVs C (d :: ds) (v :: vs) := by
  rw [RepVs]; exact ⟨h, t⟩
theorem RepVs.nil {C : RC} : RepVs C [] [] := by rw [RepVs]; trivial
theorem RepVs.cons_inv {C : RC} {d : MV} {ds : List MV} {vs : List V} (h : RepVs C (d :: ds) vs) : ∃ v vr, vs = v :: vr ∧ RepV C d v ∧ RepVs C ds vr := by
  cases vs with
  | nil => simp [RepVs] at h
  | cons v vr => rw [RepVs] at h; exact ⟨v, vr, rfl, h.1, h.2⟩
theorem RepVs.nil_inv {C : RC} {vs : List V} (h : RepVs C [] vs) : vs = [] := by
  cases vs with
  | nil => rfl
  | cons v vr => simp [RepVs] at h
theorem RepVs.append {C : RC} : ∀ {ds es : List MV} {vs us : List V}, RepVs C ds vs → RepVs C es us → RepVs C (ds ++ es) (vs ++ us)
  | [], _, vs, _, h, t => by rw [h.nil_inv]; exact t
  | d :: ds, _, vs, _, h, t => by
    obtain ⟨v, vr, rfl, h1, h2⟩ := h.cons_inv
    exact .cons h1 (RepVs.append h2 t)
theorem RepVs.take {C : RC} : ∀ {ds : List MV} {vs : List V} (n : Nat), RepVs C ds vs → RepVs C (ds.take n) (vs.take n)
  | _, _, 0, _ => by simp; exact .nil
  | [], vs, n + 1, h => by rw [h.nil_inv]; simpa using RepVs.nil
  | d :: ds, vs, n + 1, h => by
    obtain ⟨v, vr, rfl, h1, h2⟩ := h.cons_inv
    exact .cons h1 (RepVs.take n h2)
theorem RepVs.drop {C : RC} : ∀ {ds : List MV} {vs : List V} (n : Nat), RepVs C ds vs → RepVs C (ds.drop n) (vs.drop n)
  | _, _, 0, h => h
  | [], vs, n + 1, h => by rw [h.nil_inv]; simpa using RepVs.nil
  | d :: ds, vs, n + 1, h => by
    obtain ⟨v, vr, rfl, h1, h2⟩ := h.cons_inv
    exact RepVs.drop n h2
theorem RepVs.set {C : RC} {d : MV} {v : V} (r : RepV C d v) : ∀ {ds : List MV} {vs : List V} (i : Nat), RepVs C ds vs → RepVs C (ds.set i d) (vs.set i v)
  | [], vs, _, h => by rw [h.nil_inv]; simpa using RepVs.nil
  | x :: ds, vs, 0, h => by
    obtain ⟨u, vr, rfl, h1, h2⟩ := h.cons_inv
    exact .cons r h2
  | x :: ds, vs, i + 1, h => by
    obtain ⟨u, vr, rfl, h1, h2⟩ := h.cons_inv
    exact .cons h1 (RepVs.set r i h2)
theorem RepVs.flatRep {C : RC} {ds : List MV} {vs : List V} (h : RepVs C ds vs) : ∀ n : Nat, RepVs C ((List.replicate n ds).flatten) ((List.replicate n vs).flatten)
  | 0 => by simpa using RepVs.nil
  | n + 1 => by
    simp only [List.replicate_succ, List.flatten_cons]
    exact h.append (h.flatRep n)
/-- from one state to a later one: b the least length of the store in between -/
structure Ext (b : Nat) (C C' : RC) : Prop where
  w : C'.w = C.w
  K : C'.K = C.K
  bad : ∀ a ∈ C'.bad, a ∈ C.bad ∨ a ∈ C.ι ∨ C.H a = none
  bad' : ∀ a ∈ C.bad, a ∈ C'.bad
  keep : ∀ a o, a ∉ C.ι → C.H a = some o → C'.H a = some o
  new : ∀ a ∈ C'.ι, a ∈ C.ι ∨ C.H a = none
  pre : C'.ι.take b = C.ι.take b
  le : b ≤ C.ι.length
  le' : b ≤ C'.ι.length
theorem Ext.refl {b : Nat} {C : RC} (h : b ≤ C.ι.length) : Ext b C C := ⟨rfl, rfl, fun _ h => .inl h, fun _ h => h, fun _ _ _ h => h, fun _ h => .inl h, rfl, h, h⟩
theorem Ext.trans {b : Nat} {C C1 C2 : RC} (x : Ext b C C1) (y : Ext b C1 C2) : Ext b C C2 where
  w := y.w.trans x.w
  K := y.K.trans x.K
  bad := fun a m => by
    rcases y.bad a m with q | q | q
    · exact x.bad a q
    · rcases x.new a q with z | z
      · exact .inr (.inl z)
      · exact .inr (.inr z)
    · by_cases ha : a ∈ C.ι
      · exact .inr (.inl ha)
      · cases e : C.H a with
        | none => exact .inr (.inr rfl)
        | some o => rw [x.keep a o ha e] at q; cases q
  bad' := fun a m => y.bad' a (x.bad' a m)
  keep := fun a o na h => y.keep a o (fun m => by
    rcases x.new a m with q | q
    · exact na q
    · rw [h] at q; cases q) (x.keep a o na h)
  new := fun a m => by
    rcases y.new a m with q | q
    · exact x.new a q
    · by_cases ha : a ∈ C.ι
      · exact .inl ha
      · cases e : C.H a with
        | none => exact .inr rfl
        | some o => rw [x.keep a o ha e] at q; cases q
  pre := y.pre.trans x.pre
  le := x.le
  le' := y.le'
theorem Ext.weak {b b' : Nat} {C C' : RC} (x : Ext b C C') (h : b' ≤ b) : Ext b' C C' where
  w := x.w
  K := x.K
  bad := x.bad
  bad' := x.bad'
  keep := x.keep
  new := x.new
  pre := by
    have e := congrArg (List.take b') x.pre
    rw [List.take_take, List.take_take, Nat.min_eq_left h] at e
    exact e
  le := Nat.le_trans h x.le
  le' := Nat.le_trans h x.le'
/-- an address of the store carries no tuple and is not locked -/
theorem RepO.kind {C : RC} {a : Addr} {o : MO} (r : RepO C a o) : ∃ u, C.H a = some u ∧ (∀ xs, u ≠ .tup xs) ∧ (∀ ob x, u ≠ .frz ob x) ∧ (∀ y, u ≠ .own y) ∧ ∀ fs, u ≠ .xd fs := by
  cases o with
  | lst xs => obtain ⟨vs, h, _⟩ := r; exact ⟨_, h, by simp, by simp, by simp, by simp⟩
  | dct ks ds => obtain ⟨vs, h, _⟩ := r; exact ⟨_, h, by simp, by simp, by simp, by simp⟩
  | dcT ks ds => obtain ⟨_, _, _, _, _, ob, es, ep, ps, us, kvs, vs, h, _⟩ := r; exact ⟨_, h, by simp, by simp, by simp, by simp⟩
  | obj c fs ds => obtain ⟨dx, vs, h, _⟩ := r; exact ⟨_, h, by simp, by simp, by simp, by simp⟩
theorem RepS.kind {C : RC} {S : Sto} (r : RepS C S) {a : Addr} (h : a ∈ C.ι) : ∃ u, C.H a = some u ∧ (∀ xs, u ≠ .tup xs) ∧ (∀ ob x, u ≠ .frz ob x) ∧ (∀ y, u ≠ .own y) ∧ ∀ fs, u ≠ .xd fs := by
  obtain ⟨n, hn⟩ := List.mem_iff_getElem?.mp h
  have hl : n < S.length := by rw [← r.len]; exact (List.getElem?_eq_some_iff.mp hn).1
  exact (r.ob n S[n] a (List.getElem?_eq_getElem hl) hn).kind
mutual
def refsB (b : Nat) : MV → Bool
  | .ref n => decide (n < b)
  | .tup xs => refsBs b xs
  | .lst xs => refsBs b xs
  | .dct _ vs => refsBs b vs
  | .dcT ks vs => refsBs b ks && refsBs b vs
  | .obj _ _ vs => refsBs b vs
  | .kls vs => refsBs b vs
  | _ => true
def refsBs (b : Nat) : List MV → Bool
  | [] => true
  | x :: xs => refsB b x && refsBs b xs
end
theorem Ext.seqT {b : Nat} {C C' : RC} {S : Sto} (x : Ext b C C') (r : RepS C S) {a : Addr} {vs : List V} (h : SqT C.K C.H a vs) : SqT C'.K C'.H a vs := by
  rw [x.K]
  have na : ∀ {u}, C.H a = some u → ((∃ xs, u = .tup xs) ∨ ∃ ob y, u = .frz ob y) → a ∉ C.ι := fun {u} e k m => by
    obtain ⟨u', e', k1, k2, _⟩ := r.kind m
    rw [e] at e'; cases e'
    rcases k with ⟨xs, k⟩ | ⟨ob, y, k⟩
    · exact k1 _ k
    · exact k2 _ _ k
  rcases h with (k | ⟨ob, k⟩) | k
  · exact .inl (.inl (x.keep _ _ (na k (.inl ⟨_, rfl⟩)) k))
  · exact .inl (.inr ⟨ob, x.keep _ _ (na k (.inr ⟨_, _, rfl⟩)) k⟩)
  · exact .inr k
theorem Ext.out {b : Nat} {C C' : RC} (x : Ext b C C') {a : Addr} {u : HO} (n : Froz C a) (h : C.H a = some u) : Froz C' a := by
  refine ⟨fun m => ?_, fun m => ?_⟩
  rotate_left
  · rcases x.bad a m with q | q | q
    · exact n.2 q
    · exact n.1 q
    · rw [h] at q; cases q
  rcases x.new a m with q | q
  · exact n.1 q
  · rw [h] at q; cases q
theorem Ext.ref {b : Nat} {C C' : RC} (x : Ext b C C') {n : Nat} {a : Addr} (hn : n < b) (h : C.ι[n]? = some a) : C'.ι[n]? = some a := by
  have e := congrArg (fun l => l[n]?) x.pre
  simp only [List.getElem?_take_of_lt hn] at e
  rw [e]; exact h
/-- what data needs to stay -/
structure Tr (b : Nat) (C C' : RC) : Prop where
  w : C'.w = C.w
  K : C'.K = C.K
  seqT : ∀ a vs, SqT C.K C.H a vs → SqT C'.K C'.H a vs
  froz : ∀ a u, Froz C a → C.H a = some u → Froz C' a ∧ C'.H a = some u
  frz : ∀ a o u, C.H a = some (.frz o u) → C'.H a = some (.frz o u)
  ref : ∀ n a, n < b → C.ι[n]? = some a → C'.ι[n]? = some a
theorem Ext.tr {b : Nat} {C C' : RC} {S : Sto} (x : Ext b C C') (r : RepS C S) : Tr b C C' where
  w := x.w
  K := x.K
  seqT := fun a vs h => x.seqT r h
  froz := fun a u n h => ⟨x.out n h, x.keep _ _ n.1 h⟩
  frz := fun a o u q => x.keep _ _ (fun m => by
    obtain ⟨u', e', _, k2, _⟩ := r.kind m
    rw [q] at e'; cases e'
    exact k2 _ _ rfl) q
  ref := fun n a hn h => x.ref hn h
mutual
theorem RepV.tr {b : Nat} {C C' : RC} (x : Tr b C C') : ∀ (d : MV) (v : V), refsB b d = true → RepV C d v → RepV C' d v
  | .non, v, _, h => by rw [RepV] at h ⊢; exact h
  | .bl _, v, _, h => by rw [RepV] at h ⊢; exact h
  | .int _, v, _, h => by rw [RepV] at h ⊢; exact h
  | .str _, v, _, h => by rw [RepV] at h ⊢; exact h
  | .tup xs, v, hb, h => by
    rw [RepV] at h ⊢
    obtain ⟨a, vs, e, q, t⟩ := h
    exact ⟨a, vs, e, x.seqT _ _ q, RepVs.tr x xs vs (by simpa [refsB] using hb) t⟩
  | .lst xs, v, hb, h => by
    rw [RepV] at h ⊢
    obtain ⟨a, vs, e, n, q, t⟩ := h
    exact ⟨a, vs, e, (x.froz _ _ n q).1, (x.froz _ _ n q).2, RepVs.tr x xs vs (by simpa [refsB] using hb) t⟩
  | .kls xs, v, hb, h => by
    rw [RepV] at h ⊢
    obtain ⟨a, vs, e, q, t⟩ := h
    refine ⟨a, vs, e, ?_, RepVs.tr x xs vs (by simpa [refsB] using hb) t⟩
    rcases q with ⟨o, q⟩ | q
    · exact .inl ⟨o, x.frz _ _ _ q⟩
    · exact .inr (by rw [x.K]; exact q)
  | .dct ks ds, v, hb, h => by
    rw [RepV] at h ⊢
    obtain ⟨a, vs, e, n, q, l, nd, t⟩ := h
    have t' := RepVs.tr x ds vs (by simpa [refsB] using hb) t
    rcases q with q | ⟨o, q⟩
    · exact ⟨a, vs, e, (x.froz _ _ n q).1, .inl (x.froz _ _ n q).2, l, nd, t'⟩
    · exact ⟨a, vs, e, (x.froz _ _ n q).1, .inr ⟨o, (x.froz _ _ n q).2⟩, l, nd, t'⟩
  | .dcT ks ds, v, hb, h => by
    rw [RepV] at h ⊢
    obtain ⟨a, e, n, sm, ko, nd, l, z, ob, es, ep, ps, us, kvs, vs, q, ex, hd, he, hk, tk, rv, t⟩ := h
    have hb' : refsBs b ks = true ∧ refsBs b ds = true := by simpa [refsB] using hb
    refine ⟨a, e, (x.froz _ _ n q).1, sm, ko, nd, l, z, ob, es, ep, ps, us, kvs, vs, (x.froz _ _ n q).2, ex, hd, ?_, hk, RepVs.tr x ks kvs hb'.1 tk, rv, RepVs.tr x ds vs hb'.2 t⟩
    rw [x.w]; exact he
  | .obj c fs ds, v, hb, h => by
    rw [RepV] at h ⊢
    obtain ⟨a, dx, vs, e, n, q, l, t⟩ := h
    refine ⟨a, dx, vs, e, (x.froz _ _ n q).1, ?_, l, RepVs.tr x ds vs (by simpa [refsB] using hb) t⟩
    rw [x.K]; exact (x.froz _ _ n q).2
  | .ref n, v, hb, h => by
    rw [RepV] at h ⊢
    obtain ⟨a, e, q⟩ := h
    exact ⟨a, e, x.ref _ _ (by simpa [refsB] using hb) q⟩
theorem RepVs.tr {b : Nat} {C C' : RC} (x : Tr b C C') : ∀ (ds : List MV) (vs : List V), refsBs b ds = true → RepVs C ds vs → RepVs C' ds vs
  | [], vs, _, h => by rw [h.nil_inv]; exact .nil
  | d :: ds, vs, hb, h => by
    obtain ⟨v, vr, rfl, h1, h2⟩ := h.cons_inv
    have hb' : refsB b d = true ∧ refsBs b ds = true := by simpa [refsBs] using hb
    exact .cons (RepV.tr x d v hb'.1 h1) (RepVs.tr x ds vr hb'.2 h2)
end
theorem RepV.ext {b : Nat} {C C' : RC} {S : Sto} (x : Ext b C C') (r : RepS C S) (d : MV) (v : V) (hb : refsB b d = true) (h : RepV C d v) : RepV C' d v := RepV.tr (x.tr r) d v hb h
theorem RepVs.ext {b : Nat} {C C' : RC} {S : Sto} (x : Ext b C C') (r : RepS C S) (d : List MV) (v : List V) (hb : refsBs b d = true) (h : RepVs C d v) : RepVs C' d v := RepVs.tr (x.tr r) d v hb h
mutual
theorem RepV.refs {C : RC} : ∀ (d : MV) (v : V), RepV C d v → refsB C.ι.length d = true
  | .non, v, h => rfl
  | .bl _, v, h => rfl
  | .int _, v, h => rfl
  | .str _, v, h => rfl
  | .tup xs, v, h => by
    rw [RepV] at h; obtain ⟨a, vs, e, q, t⟩ := h
    rw [refsB]; exact RepVs.refs xs vs t
  | .lst xs, v, h => by
    rw [RepV] at h; obtain ⟨a, vs, e, n, q, t⟩ := h
    rw [refsB]; exact RepVs.refs xs vs t
  | .kls xs, v, h => by
    rw [RepV] at h; obtain ⟨a, vs, e, q, t⟩ := h
    rw [refsB]; exact RepVs.refs xs vs t
  | .dct ks ds, v, h => by
    rw [RepV] at h; obtain ⟨a, vs, e, n, q, l, nd, t⟩ := h
    rw [refsB]; exact RepVs.refs ds vs t
  | .dcT ks ds, v, h => by
    rw [RepV] at h
    obtain ⟨a, e, n, sm, ko, nd, l, z, ob, es, ep, ps, us, kvs, vs, q, ex, hd, he, hk, tk, rv, t⟩ := h
    rw [refsB, RepVs.refs ks kvs tk, RepVs.refs ds vs t]; rfl
  | .obj c fs ds, v, h => by
    rw [RepV] at h
    obtain ⟨a, dx, vs, e, n, q, l, t⟩ := h
    rw [refsB]; exact RepVs.refs ds vs t
  | .ref n, v, h => by
    rw [RepV] at h
    obtain ⟨a, e, q⟩ := h
    rw [refsB]; exact decide_eq_true (List.getElem?_eq_some_iff.mp q).1
theorem RepVs.refs {C : RC} : ∀ (ds : List MV) (vs : List V), RepVs C ds vs → refsBs C.ι.length ds = true
  | [], vs, _ => rfl
  | d :: ds, vs, h => by
    obtain ⟨v, vr, rfl, h1, h2⟩ := h.cons_inv
    rw [refsBs, RepV.refs d v h1, RepVs.refs ds vr h2]; rfl
end
/-- nothing of the store goes -/
abbrev Grow (C C' : RC) : Prop := Ext C.ι.length C C'
theorem Grow.refl {C : RC} : Grow C C := Ext.refl (Nat.le_refl _)
theorem Ext.grow {b : Nat} {C C' : RC} (x : Grow C C') (h : b ≤ C.ι.length) : Ext b C C' := x.weak h
theorem Grow.trans {C C1 C2 : RC} (x : Grow C C1) (y : Grow C1 C2) : Grow C C2 := Ext.trans x (y.weak x.le')
theorem RepV.grow {C C' : RC} {S : Sto} (x : Grow C C') (r : RepS C S) {d : MV} {v : V} (h : RepV C d v) : RepV C' d v := RepV.ext x r d v (RepV.refs d v h) h
theorem RepVs.grow {C C' : RC} {S : Sto} (x : Grow C C') (r : RepS C S) {ds : List MV} {vs : List V} (h : RepVs C ds vs) : RepVs C' ds vs := RepVs.ext x r ds vs (RepVs.refs ds vs h) h
/-- the slots -/
def EnvR (C : RC) (ρ : Ev) (σ : L2.St) : Prop := ∀ (i : Nat) (d : MV), ρ[i]? = some (some d) → ∃ v, σ[i]? = some (some v) ∧ RepV C d v
theorem EnvR.grow {C C' : RC} {S : Sto} {ρ : Ev} {σ : L2.St} (h : EnvR C ρ σ) (x : Grow C C') (r : RepS C S) : EnvR C' ρ σ := fun i d e => by
  obtain ⟨v, e1, q⟩ := h i d e
  exact ⟨v, e1, q.grow x r⟩
theorem EnvR.set {C : RC} {ρ : Ev} {σ : L2.St} (h : EnvR C ρ σ) {i : Nat} {d : MV} {v : V} (hi : ρ.length = σ.length) (q : RepV C d v) : EnvR C (ρ.set i (some d)) (σ.set i (some v)) := fun j e q' => by
  by_cases hj : j = i
  · subst hj
    by_cases hl : j < ρ.length
    · rw [List.getElem?_set_self hl] at q'
      cases q'
      exact ⟨v, by rw [List.getElem?_set_self (by omega)], q⟩
    · rw [List.getElem?_eq_none (by simpa using hl)] at q'; cases q'
  · rw [List.getElem?_set_ne (Ne.symm hj)] at q' ⊢
    exact h j e q'
end Mi
set_option Elab.async false
set_option linter.all false
set_option maxRecDepth 100000
set_option maxHeartbeats 2000000
namespace Mi
open PySem PySem.Spec PyProof.Rows L2
theorem RepO.grow {C C' : RC} {S : Sto} {a : Addr} {o : MO} (x : Grow C C') (r : RepS C S) (e : C'.H a = C.H a) (h : RepO C a o) : RepO C' a o := by
  cases o with
  | lst xs => obtain ⟨vs, q, t⟩ := h; exact ⟨vs, e.trans q, t.grow x r⟩
  | dct ks ds => obtain ⟨vs, q, l, nd, t⟩ := h; exact ⟨vs, e.trans q, l, nd, t.grow x r⟩
  | dcT ks ds =>
    obtain ⟨sm, ko, nd, l, z, ob, es, ep, ps, us, kvs, vs, q, ex, hd, he, hk, tk, rv, t⟩ := h
    exact ⟨sm, ko, nd, l, z, ob, es, ep, ps, us, kvs, vs, e.trans q, ex, hd, by rw [x.w]; exact he, hk, tk.grow x r, rv, t.grow x r⟩
  | obj c fs ds => obtain ⟨dx, vs, q, l, t⟩ := h; exact ⟨dx, vs, by rw [x.K]; exact e.trans q, l, t.grow x r⟩
/-- a new object, not of the store -/
def RC.put (C : RC) (p : Addr) (o : HO) : RC := { C with H := upd C.H p o }
theorem Grow.put {C : RC} {p : Addr} {o : HO} (h : C.H p = none) : Grow C (C.put p o) := by
  refine ⟨rfl, rfl, fun _ h => .inl h, fun _ h => h, fun a u _ e => ?_, fun a m => .inl m, rfl, Nat.le_refl _, Nat.le_refl _⟩
  show upd C.H p o a = some u
  rw [upd_ne (ne_of_none e h)]; exact e
theorem RepS.put {C : RC} {S : Sto} {p : Addr} {o : HO} (r : RepS C S) (h : C.H p = none) : RepS (C.put p o) S := by
  refine ⟨r.len, r.nd, fun a m => ⟨(r.bad a m).1, ?_⟩, fun n mo a e1 e2 => ?_⟩
  · show upd C.H p o a ≠ none
    by_cases q : a = p
    · subst q; exact absurd h (r.bad a m).2
    · rw [upd_ne q]; exact (r.bad a m).2
  · have ro := r.ob n mo a e1 e2
    refine ro.grow (Grow.put h) r ?_
    obtain ⟨u, hu, _⟩ := ro.kind
    show upd C.H p o a = C.H a
    rw [upd_ne (ne_of_none hu h)]
theorem Froz.put {C : RC} {S : Sto} {p : Addr} {o : HO} (r : RepS C S) (h : C.H p = none) : Froz (C.put p o) p := by
  refine ⟨fun m => ?_, fun m => (r.bad p m).2 h⟩
  obtain ⟨u, hu, _⟩ := r.kind (show p ∈ C.ι from m)
  rw [h] at hu; cases hu
theorem put_same {C : RC} {p : Addr} {o : HO} : (C.put p o).H p = some o := upd_same
/-- a new cell of the store -/
def RC.cell (C : RC) (p : Addr) (o : HO) : RC := { C with H := upd C.H p o, ι := C.ι ++ [p] }
theorem Grow.cell {C : RC} {p : Addr} {o : HO} (h : C.H p = none) : Grow C (C.cell p o) := by
  refine ⟨rfl, rfl, fun _ h => .inl h, fun _ h => h, fun a u _ e => ?_, fun a m => ?_, by simp [RC.cell], Nat.le_refl _, by simp [RC.cell]⟩
  · show upd C.H p o a = some u
    rw [upd_ne (ne_of_none e h)]; exact e
  · rcases List.mem_append.mp (show a ∈ C.ι ++ [p] from m) with m | m
    · exact .inl m
    · have e : a = p := by simpa using m
      subst e; exact .inr h
theorem RepS.notin {C : RC} {S : Sto} {p : Addr} (r : RepS C S) (h : C.H p = none) : p ∉ C.ι := fun m => by
  obtain ⟨u, hu, _⟩ := r.kind m
  rw [h] at hu; cases hu
theorem RepS.cell {C : RC} {S : Sto} {p : Addr} {o : HO} {mo : MO} (r : RepS C S) (h : C.H p = none) (q : RepO (C.cell p o) p mo) : RepS (C.cell p o) (S ++ [mo]) := by
  refine ⟨by simp [RC.cell, r.len], ?_, fun a m => ⟨fun m2 => ?_, ?_⟩, fun n mo' a e1 e2 => ?_⟩
  · show (C.ι ++ [p]).Nodup
    rw [List.nodup_append]
    refine ⟨r.nd, by simp, fun a ha b hb => ?_⟩
    have e : b = p := by simpa using hb
    subst e
    intro e; subst e
    exact r.notin h ha
  · rcases List.mem_append.mp (show a ∈ C.ι ++ [p] from m2) with m2 | m2
    · exact (r.bad a m).1 m2
    · have e : a = p := by simpa using m2
      subst e; exact (r.bad a m).2 h
  · show upd C.H p o a ≠ none
    by_cases z : a = p
    · subst z; exact absurd h (r.bad a m).2
    · rw [upd_ne z]; exact (r.bad a m).2
  · have e2 : (C.ι ++ [p])[n]? = some a := e2
    by_cases hn : n < S.length
    · rw [List.getElem?_append_left hn] at e1
      rw [List.getElem?_append_left (by rw [r.len]; exact hn)] at e2
      have ro := r.ob n mo' a e1 e2
      refine ro.grow (Grow.cell h) r ?_
      obtain ⟨u, hu, _⟩ := ro.kind
      show upd C.H p o a = C.H a
      rw [upd_ne (ne_of_none hu h)]
    · rw [List.getElem?_append_right (by omega)] at e1
      rw [List.getElem?_append_right (by rw [r.len]; omega), r.len] at e2
      cases hz : n - S.length with
      | zero =>
        rw [hz] at e1 e2
        simp at e1 e2
        subst e1; subst e2
        exact q
      | succ k => rw [hz] at e1; simp at e1
theorem cell_same {C : RC} {p : Addr} {o : HO} : (C.cell p o).H p = some o := upd_same
theorem cell_ref {C : RC} {S : Sto} {p : Addr} {o : HO} (r : RepS C S) : RepV (C.cell p o) (.ref S.length) (.ref p) := by
  rw [RepV]
  exact ⟨p, rfl, by simp [RC.cell, ← r.len]⟩
/-- a cell of the store is written -/
theorem Grow.write {C : RC} {a : Addr} {o : HO} (h : a ∈ C.ι) : Grow C (C.put a o) := by
  refine ⟨rfl, rfl, fun _ h => .inl h, fun _ h => h, fun b u n e => ?_, fun b m => .inl m, rfl, Nat.le_refl _, Nat.le_refl _⟩
  show upd C.H a o b = some u
  rw [upd_ne (fun z => n (by rw [z]; exact h))]; exact e
theorem RepS.write {C : RC} {S : Sto} {n : Nat} {a : Addr} {o : HO} {mo : MO} (r : RepS C S) (h : C.ι[n]? = some a) (q : RepO (C.put a o) a mo) : RepS (C.put a o) (S.set n mo) := by
  have ha : a ∈ C.ι := List.mem_of_getElem? h
  refine ⟨by simp [RC.put, r.len], r.nd, fun b m => ⟨(r.bad b m).1, ?_⟩, fun k mo' b e1 e2 => ?_⟩
  · show upd C.H a o b ≠ none
    by_cases z : b = a
    · subst z; exact absurd ha (r.bad b m).1
    · rw [upd_ne z]; exact (r.bad b m).2
  · by_cases hk : k = n
    · subst hk
      have e2 : C.ι[k]? = some b := e2
      rw [h] at e2; cases e2
      have hl : k < S.length := by rw [← r.len]; exact (List.getElem?_eq_some_iff.mp h).1
      rw [List.getElem?_set_self hl] at e1
      cases e1
      exact q
    · rw [List.getElem?_set_ne (Ne.symm hk)] at e1
      have ro := r.ob k mo' b e1 e2
      refine ro.grow (Grow.write ha) r ?_
      show upd C.H a o b = C.H b
      refine upd_ne fun z => hk ?_
      subst z
      exact (List.getElem_inj r.nd).mp ((List.getElem?_eq_some_iff.mp e2).2.trans (List.getElem?_eq_some_iff.mp h).2.symm) |> fun e => by exact e
inductive R (α : Type) where
  | ok (a : α) (S : Sto)
  | exc (c : Str) (d : MV) (S : Sto)
  | stk
def R.bind {α β : Type} (r : R α) (f : α → Sto → R β) : R β := match r with
  | .ok a S => f a S
  | .exc c d S => .exc c d S
  | .stk => .stk
@[simp] theorem R.bind_ok {α β : Type} (a : α) (S : Sto) (f : α → Sto → R β) : (R.ok a S).bind f = f a S := rfl
@[simp] theorem R.bind_exc {α β : Type} (c : Str) (d : MV) (S : Sto) (f : α → Sto → R β) : (R.exc c d S : R α).bind f = .exc c d S := rfl
@[simp] theorem R.bind_stk {α β : Type} (f : α → Sto → R β) : (R.stk : R α).bind f = .stk := rfl
/-- an own exception: its class, and its one field's value (or none) -/
def ExcR (C : RC) (c : Str) (d : MV) (cls : Value) (dx : Option Addr) : Prop :=
  cls = .ref (He.ga C.K c) ∧ ((d = .non ∧ dx = none) ∨ ∃ a f d' v, d = .obj c [f] [d'] ∧ dx = some a ∧ C.H a = some (.xd [(f, v)]) ∧ RepV C d' v)
theorem ExcR.ext {b : Nat} {C C' : RC} {S : Sto} {c : Str} {d : MV} {cls : Value} {dx : Option Addr} (h : ExcR C c d cls dx) (x : Ext b C C') (r : RepS C S) (hb : refsB b d = true) : ExcR C' c d cls dx := by
  refine ⟨by rw [x.K]; exact h.1, ?_⟩
  rcases h.2 with h | ⟨a, f, d', v, ed, e, q, t⟩
  · exact .inl h
  · refine .inr ⟨a, f, d', v, ed, e, x.keep _ _ (fun m => ?_) q, RepV.ext x r d' v (by subst ed; simpa [refsB, refsBs] using hb) t⟩
    obtain ⟨u, hu, _, _, _, k⟩ := r.kind m
    rw [q] at hu; cases hu
    exact k _ rfl
/-- what is wanted of a result -/
def Wants {α : Type} (W : WX) (σ : L2.St) (C : RC) (r : R α) (Q : α → Sto → RC → Prop) : Prop := match r with
  | .ok a S => ∀ C', Grow C C' → RepS C' S → Q a S C'
  | .exc c d S => ∀ C' cls dx, Grow C C' → RepS C' S → ExcR C' c d cls dx → W cls dx σ C'.H
  | .stk => False
theorem Wants.bind {α β : Type} {W : WX} {σ : L2.St} {C : RC} {r : R α} {f : α → Sto → R β} {Q : β → Sto → RC → Prop} (h : Wants W σ C (r.bind f) Q) :
    Wants W σ C r (fun a S1 C1 => Wants W σ C1 (f a S1) Q ∧ Grow C C1) := by
  cases r with
  | ok a S =>
    intro C1 g r1
    refine ⟨?_, g⟩
    have h : Wants W σ C (f a S) Q := h
    revert h
    cases f a S with
    | ok b S2 => exact fun h C2 g2 r2 => h C2 (g.trans g2) r2
    | exc c d S2 => exact fun h C2 cls dx g2 r2 e => h C2 cls dx (g.trans g2) r2 e
    | stk => exact fun h => h
  | exc c d S => exact h
  | stk => exact h
theorem Wants.mono {α : Type} {W : WX} {σ : L2.St} {C : RC} {r : R α} {Q Q' : α → Sto → RC → Prop} (h : Wants W σ C r Q) (k : ∀ a S C', Grow C C' → RepS C' S → r = .ok a S → Q a S C' → Q' a S C') : Wants W σ C r Q' := by
  cases r with
  | ok a S => exact fun C' g r => k a S C' g r rfl (h C' g r)
  | exc c d S => exact h
  | stk => exact h
/-- the state of a walk: data for the slots, the store -/
structure Sv (X : Cx) (ρ : Ev) (σ : L2.St) (S : Sto) (C : RC) : Prop where
  w : C.w = X.w
  K : C.K = X.K
  rs : RepS C S
  ev : EnvR C ρ σ
  ln : ρ.length = σ.length
theorem Sv.grow {X : Cx} {ρ : Ev} {σ : L2.St} {S S' : Sto} {C C' : RC} (s : Sv X ρ σ S C) (g : Grow C C') (r : RepS C' S') : Sv X ρ σ S' C' :=
  ⟨g.w.trans s.w, g.K.trans s.K, r, s.ev.grow g s.rs, s.ln⟩
/-- readings: of an expression's value, a test, an argument list -/
def tE (X : Cx) (W : WX) (m : Ev → Sto → R MV) : TE := fun σ H Q => ∃ C ρ S, C.H = H ∧ Sv X ρ σ S C ∧ Wants W σ C (m ρ S) (fun d _ C' => ∀ v, RepV C' d v → Q v C'.H)
def tT (X : Cx) (W : WX) (m : Ev → Sto → R Bool) : TT := fun σ H Q => ∃ C ρ S, C.H = H ∧ Sv X ρ σ S C ∧ Wants W σ C (m ρ S) (fun b _ C' => Q b C'.H)
def tA (X : Cx) (W : WX) (m : Ev → Sto → R (List MV)) : TA := fun σ H Q => ∃ C ρ S, C.H = H ∧ Sv X ρ σ S C ∧ Wants W σ C (m ρ S) (fun ds _ C' => ∀ vs, RepVs C' ds vs → Q vs C'.H)
theorem _root_.L2.PE.imp {X : Cx} {e : Expr} {t t' : TE} (h : PE X e t) (k : ∀ σ H Q, t' σ H Q → t σ H Q) : PE X e t' := ⟨fun pins s σ H Q I q => h.run pins s σ H Q I (k σ H Q q)⟩
theorem _root_.L2.PT.imp {X : Cx} {e : Expr} {t t' : TT} (h : PT X e t) (k : ∀ σ H Q, t' σ H Q → t σ H Q) : PT X e t' := ⟨fun pins s σ H Q I q => h.run pins s σ H Q I (k σ H Q q)⟩
theorem _root_.L2.PW.imp {X : Cx} {e : Expr} {t t' : TT} (h : PW X e t) (k : ∀ σ H Q, t' σ H Q → t σ H Q) : PW X e t' := ⟨fun wh pins s σ H Q I q => h.run wh pins s σ H Q I (k σ H Q q)⟩
theorem _root_.L2.PA.imp {X : Cx} {es : List Expr} {t t' : TA} (h : PA X es t) (k : ∀ σ H Q, t' σ H Q → t σ H Q) : PA X es t' := ⟨fun pos pins s σ H Q I q => h.run pos pins s σ H Q I (k σ H Q q)⟩
theorem _root_.L2.PS.imp {X : Cx} {st : Stmt} {t t' : TS} (h : PS X st t) (k : ∀ D σ H, t' D σ H → t D σ H) : PS X st t' := ⟨fun pins s σ H D I q => h.run pins s σ H D I (k D σ H q)⟩
theorem _root_.L2.PSs.imp {X : Cx} {st : List Stmt} {t t' : TS} (h : PSs X st t) (k : ∀ D σ H, t' D σ H → t D σ H) : PSs X st t' := ⟨fun pins s σ H D I q => h.run pins s σ H D I (k D σ H q)⟩
/-- the step of a bind: behind the first part -/
theorem tE.bind {X : Cx} {W : WX} {m : Ev → Sto → R MV} {β : Type} {f : MV → Sto → R β} {σ : L2.St} {C : RC} {ρ : Ev} {S : Sto} {Q : β → Sto → RC → Prop} {Q1 : VK} (s : Sv X ρ σ S C) (h : Wants W σ C ((m ρ S).bind f) Q)
    (k : ∀ d S1 C1 v, Sv X ρ σ S1 C1 → Grow C C1 → RepV C1 d v → Wants W σ C1 (f d S1) Q → Q1 v C1.H) : tE X W m σ C.H Q1 :=
  ⟨C, ρ, S, rfl, s, h.bind.mono fun d S1 C1 g r _ q v hv => k d S1 C1 v (s.grow g r) g hv q.1⟩
theorem tT.bind {X : Cx} {W : WX} {m : Ev → Sto → R Bool} {β : Type} {f : Bool → Sto → R β} {σ : L2.St} {C : RC} {ρ : Ev} {S : Sto} {Q : β → Sto → RC → Prop} {Q1 : Bool → Hp → Prop} (s : Sv X ρ σ S C) (h : Wants W σ C ((m ρ S).bind f) Q)
    (k : ∀ b S1 C1, Sv X ρ σ S1 C1 → Grow C C1 → Wants W σ C1 (f b S1) Q → Q1 b C1.H) : tT X W m σ C.H Q1 :=
  ⟨C, ρ, S, rfl, s, h.bind.mono fun d S1 C1 g r _ q => k d S1 C1 (s.grow g r) g q.1⟩
theorem tA.bind {X : Cx} {W : WX} {m : Ev → Sto → R (List MV)} {β : Type} {f : List MV → Sto → R β} {σ : L2.St} {C : RC} {ρ : Ev} {S : Sto} {Q : β → Sto → RC → Prop} {Q1 : List V → Hp → Prop} (s : Sv X ρ σ S C) (h : Wants W σ C ((m ρ S).bind f) Q)
    (k : ∀ ds S1 C1 vs, Sv X ρ σ S1 C1 → Grow C C1 → RepVs C1 ds vs → Wants W σ C1 (f ds S1) Q → Q1 vs C1.H) : tA X W m σ C.H Q1 :=
  ⟨C, ρ, S, rfl, s, h.bind.mono fun d S1 C1 g r _ q vs hv => k d S1 C1 vs (s.grow g r) g hv q.1⟩
/-- a value told at once -/
theorem Wants.here {α : Type} {W : WX} {σ : L2.St} {C C' : RC} {a : α} {S' : Sto} {Q : α → Sto → RC → Prop} (h : Wants W σ C (.ok a S') Q) (g : Grow C C') (r : RepS C' S') : Q a S' C' := h C' g r
theorem Wants.now {α : Type} {W : WX} {σ : L2.St} {C : RC} {a : α} {S : Sto} {Q : α → Sto → RC → Prop} (h : Wants W σ C (.ok a S) Q) (r : RepS C S) : Q a S C := h C Grow.refl r
end Mi
set_option Elab.async false
set_option linter.all false
set_option maxRecDepth 100000
set_option maxHeartbeats 2000000
namespace Mi
open PySem PySem.Spec PyProof.Rows L2
def lstOf (S : Sto) : MV → Option (List MV)
  | .lst xs => some xs
  | .ref n => match S[n]? with
    | some (.lst xs) => some xs
    | _ => none
  | _ => none
def seqOf (S : Sto) : MV → Option (List MV)
  | .tup xs => some xs
  | .kls xs => some xs
  | d => lstOf S d
theorem lstOf_rep {C : RC} {S : Sto} {d : MV} {v : V} {xs : List MV} (r : RepS C S) (h : RepV C d v) (e : lstOf S d = some xs) : ∃ a vs, v = .ref a ∧ C.H a = some (.lst vs) ∧ RepVs C xs vs := by
  cases d with
  | lst ys =>
    rw [lstOf] at e; cases e
    rw [RepV] at h
    obtain ⟨a, vs, e, _, q, t⟩ := h
    exact ⟨a, vs, e, q, t⟩
  | ref n =>
    rw [RepV] at h
    obtain ⟨a, e1, e2⟩ := h
    rw [lstOf] at e
    cases q : S[n]? with
    | none => simp [q] at e
    | some o =>
      rw [q] at e
      cases o with
      | lst ys =>
        cases e
        obtain ⟨vs, h1, h2⟩ := r.ob n _ a q e2
        exact ⟨a, vs, e1, h1, h2⟩
      | _ => cases e
  | _ => cases e
theorem seqOf_rep {C : RC} {S : Sto} {d : MV} {v : V} {xs : List MV} (r : RepS C S) (h : RepV C d v) (e : seqOf S d = some xs) : ∃ a vs, v = .ref a ∧ (SqL C.K C.H a vs ∨ SqT C.K C.H a vs) ∧ RepVs C xs vs := by
  cases d with
  | tup ys =>
    rw [seqOf] at e; cases e
    rw [RepV] at h
    obtain ⟨a, vs, e, q, t⟩ := h
    exact ⟨a, vs, e, .inr q, t⟩
  | kls ys =>
    rw [seqOf] at e; cases e
    rw [RepV] at h
    obtain ⟨a, vs, e, q, t⟩ := h
    refine ⟨a, vs, e, .inl ?_, t⟩
    rcases q with ⟨o, q⟩ | q
    · exact .inl (.inr ⟨o, q⟩)
    · exact q.sq _
  | lst ys => obtain ⟨a, vs, e, q, t⟩ := lstOf_rep r h e; exact ⟨a, vs, e, .inl (.of q), t⟩
  | ref n => obtain ⟨a, vs, e, q, t⟩ := lstOf_rep r h e; exact ⟨a, vs, e, .inl (.of q), t⟩
  | _ => cases e
/-- a value op's reading -/
def rOf (X : Cx) (f : MV → MV → Sto → R MV) : R2 := fun x y H Q => ∃ C S d1 d2, C.H = H ∧ C.w = X.w ∧ C.K = X.K ∧ RepS C S ∧ RepV C d1 x ∧ RepV C d2 y ∧
  ∃ a S', f d1 d2 S = .ok a S' ∧ ∀ C', Grow C C' → RepS C' S' → ∀ v, RepV C' a v → Q v C'.H
theorem vInt {C : RC} {i : Int} {v : V} (h : RepV C (.int i) v) : v = .int i := by rw [RepV] at h; exact h
theorem vBl {C : RC} {i : Bool} {v : V} (h : RepV C (.bl i) v) : v = .bl i := by rw [RepV] at h; exact h
theorem vStr {C : RC} {i : Str} {v : V} (h : RepV C (.str i) v) : v = .str i := by rw [RepV] at h; exact h
theorem vNon {C : RC} {v : V} (h : RepV C .non v) : v = .non := by rw [RepV] at h; exact h
theorem repI {C : RC} (i : Int) : RepV C (.int i) (.int i) := by rw [RepV]
theorem repB {C : RC} (i : Bool) : RepV C (.bl i) (.bl i) := by rw [RepV]
theorem repS {C : RC} (i : Str) : RepV C (.str i) (.str i) := by rw [RepV]
theorem repN {C : RC} : RepV C .non .non := by rw [RepV]
theorem repTup {C : RC} {p : Addr} {ds : List MV} {vs : List V} (h : C.H p = some (.tup vs)) (t : RepVs C ds vs) : RepV C (.tup ds) (.ref p) := by
  rw [RepV]; exact ⟨p, vs, rfl, .of h, t⟩
theorem repLst {C : RC} {p : Addr} {ds : List MV} {vs : List V} (n : Froz C p) (h : C.H p = some (.lst vs)) (t : RepVs C ds vs) : RepV C (.lst ds) (.ref p) := by
  rw [RepV]; exact ⟨p, vs, rfl, n, h, t⟩
/-- a new tuple, a new frozen list -/
theorem newTup {C : RC} {S : Sto} {Q : VK} {ds : List MV} {vs : List V} (r : RepS C S) (t : RepVs C ds vs) (q : ∀ C', Grow C C' → RepS C' S → ∀ v, RepV C' (.tup ds) v → Q v C'.H) : ∀ p, C.H p = none → Q (.ref p) (upd C.H p (.tup vs)) := fun p hp =>
  q (C.put p (.tup vs)) (Grow.put hp) (r.put hp) (.ref p) (repTup put_same (t.grow (Grow.put hp) r))
theorem newLst {C : RC} {S : Sto} {Q : VK} {ds : List MV} {vs : List V} (r : RepS C S) (t : RepVs C ds vs) (q : ∀ C', Grow C C' → RepS C' S → ∀ v, RepV C' (.lst ds) v → Q v C'.H) : ∀ p, C.H p = none → Q (.ref p) (upd C.H p (.lst vs)) := fun p hp =>
  q (C.put p (.lst vs)) (Grow.put hp) (r.put hp) (.ref p) (repLst (.put r hp) put_same (t.grow (Grow.put hp) r))
/-- a new list cell -/
theorem newCell {C : RC} {S : Sto} {Q : VK} {ds : List MV} {vs : List V} (r : RepS C S) (t : RepVs C ds vs) (q : ∀ C', Grow C C' → RepS C' (S ++ [.lst ds]) → ∀ v, RepV C' (.ref S.length) v → Q v C'.H) : ∀ p, C.H p = none → Q (.ref p) (upd C.H p (.lst vs)) := fun p hp =>
  q (C.cell p (.lst vs)) (Grow.cell hp) (r.cell hp ⟨vs, cell_same, t.grow (Grow.cell hp) r⟩) (.ref p) (cell_ref r)
def addL (a b : MV) (S : Sto) : R MV := match lstOf S a, lstOf S b with
  | some xs, some ys => if xs.length + ys.length ≤ sizeLine then .ok (.lst (xs ++ ys)) S else .stk
  | _, _ => .stk
def addM : MV → MV → Sto → R MV
  | .int i, .int j, S => .ok (.int (i + j)) S
  | .str x, .str y, S => if x.length + y.length ≤ sizeLine then .ok (.str (x ++ y)) S else .stk
  | .tup xs, .tup ys, S => if xs.length + ys.length ≤ sizeLine then .ok (.tup (xs ++ ys)) S else .stk
  | a, b, S => addL a b S
theorem addL_of {a b : MV} {S S' : Sto} {d : MV} (h : addL a b S = .ok d S') : ∃ xs ys, lstOf S a = some xs ∧ lstOf S b = some ys ∧ xs.length + ys.length ≤ sizeLine ∧ d = .lst (xs ++ ys) ∧ S' = S := by
  unfold addL at h
  cases ha : lstOf S a with
  | none => rw [ha] at h; cases h
  | some xs =>
    cases hb : lstOf S b with
    | none => rw [ha, hb] at h; cases h
    | some ys =>
      rw [ha, hb] at h
      dsimp only at h
      by_cases hl : xs.length + ys.length ≤ sizeLine
      · rw [if_pos hl] at h; cases h; exact ⟨xs, ys, rfl, rfl, hl, rfl, rfl⟩
      · rw [if_neg hl] at h; cases h
theorem addM_cases {a b : MV} {S S' : Sto} {d : MV} (h : addM a b S = .ok d S') : (∃ i j, a = .int i ∧ b = .int j) ∨ (∃ x y, a = .str x ∧ b = .str y) ∨ (∃ x y, a = .tup x ∧ b = .tup y) ∨ addL a b S = .ok d S' := by
  unfold addM at h
  split at h
  · exact .inl ⟨_, _, rfl, rfl⟩
  · exact .inr (.inl ⟨_, _, rfl, rfl⟩)
  · exact .inr (.inr (.inl ⟨_, _, rfl, rfl⟩))
  · exact .inr (.inr (.inr h))
section
variable {X : Cx}
theorem opM_add : OpR X (binaryOp .Add) (rOf X addM) := by
  intro pins s σ H x y v u Q I rx ry rof
  obtain ⟨C, S, d1, d2, rfl, hw, hK, r, h1, h2, a, S', e, q⟩ := rof
  rcases addM_cases e with ⟨i, j, rfl, rfl⟩ | ⟨i, j, rfl, rfl⟩ | ⟨xs, ys, rfl, rfl⟩ | e
  · cases vInt h1; cases vInt h2
    cases e
    exact op_add pins s σ C.H _ _ v u Q I rx ry ⟨i, j, rfl, rfl, q C Grow.refl r _ (repI _)⟩
  · cases vStr h1; cases vStr h2
    simp only [addM] at e
    split at e
    · cases e
      exact op_add_str pins s σ C.H _ _ v u Q I rx ry ⟨i, j, rfl, rfl, by assumption, q C Grow.refl r _ (repS _)⟩
    · cases e
  · rw [RepV] at h1 h2
    obtain ⟨p1, vs1, rfl, q1, t1⟩ := h1
    obtain ⟨p2, vs2, rfl, q2, t2⟩ := h2
    simp only [addM] at e
    split at e
    · rename_i hl
      cases e
      rw [hK] at q1 q2
      have l1 := t1.length
      have l2 := t2.length
      refine op_catA pins s σ C.H _ _ v u Q I rx ry ⟨p1, p2, vs1, vs2, rfl, rfl, q1, q2, by omega, fun z => ?_, fun z1 z2 => ?_, fun z1 z2 => ?_⟩
      · subst z
        have : xs = [] := List.eq_nil_of_length_eq_zero (by simpa using l1)
        subst this
        exact q C Grow.refl r _ (by rw [RepV]; exact ⟨p2, vs2, rfl, by rw [hK]; exact q2, t2⟩)
      · subst z2
        have : ys = [] := List.eq_nil_of_length_eq_zero (by simpa using l2)
        subst this
        exact q C Grow.refl r _ (by rw [RepV]; exact ⟨p1, vs1, rfl, by rw [hK]; exact q1, by simpa using t1⟩)
      · exact newTup r (t1.append t2) q
    · cases e
  · obtain ⟨xs, ys, ha, hb, hl, rfl, rfl⟩ := addL_of e
    obtain ⟨p1, vs1, rfl, q1, t1⟩ := lstOf_rep r h1 ha
    obtain ⟨p2, vs2, rfl, q2, t2⟩ := lstOf_rep r h2 hb
    have l1 := t1.length
    have l2 := t2.length
    exact op_cat pins s σ C.H _ _ v u Q I rx ry ⟨p1, p2, vs1, vs2, rfl, rfl, q1, q2, by omega, newLst r (t1.append t2) q⟩
def modM : MV → MV → Sto → R MV
  | .int i, .int j, S => if 0 < j then .ok (.int (i % j)) S else .stk
  | _, _, _ => .stk
theorem opM_mod : OpR X (binaryOp .Mod) (rOf X modM) := by
  intro pins s σ H x y v u Q I rx ry rof
  obtain ⟨C, S, d1, d2, rfl, hw, hK, r, h1, h2, a, S', e, q⟩ := rof
  unfold modM at e
  split at e
  · split at e
    · cases vInt h1; cases vInt h2; cases e
      exact op_mod pins s σ C.H _ _ v u Q I rx ry ⟨_, _, rfl, rfl, by assumption, q C Grow.refl r _ (repI _)⟩
    · cases e
  · cases e
def fdivM : MV → MV → Sto → R MV
  | .int i, .int j, S => if 0 < j ∧ j < 1073741824 then .ok (.int (i / j)) S else .stk
  | _, _, _ => .stk
theorem opM_fdiv : OpR X (binaryOp .FloorDiv) (rOf X fdivM) := by
  intro pins s σ H x y v u Q I rx ry rof
  obtain ⟨C, S, d1, d2, rfl, hw, hK, r, h1, h2, a, S', e, q⟩ := rof
  unfold fdivM at e
  split at e
  · split at e
    · cases vInt h1; cases vInt h2; cases e
      exact op_fdiv pins s σ C.H _ _ v u Q I rx ry ⟨_, _, rfl, rfl, by assumption, q C Grow.refl r _ (repI _)⟩
    · cases e
  · cases e
def powM : MV → MV → Sto → R MV
  | .int i, .int j, S => if 0 ≤ j ∧ j ≤ 1000 ∧ i.natAbs < 1000 then .ok (.int (i ^ j.toNat)) S else .stk
  | _, _, _ => .stk
theorem opM_pow : OpR X (binaryOp .Pow) (rOf X powM) := by
  intro pins s σ H x y v u Q I rx ry rof
  obtain ⟨C, S, d1, d2, rfl, hw, hK, r, h1, h2, a, S', e, q⟩ := rof
  unfold powM at e
  split at e
  · split at e
    · cases vInt h1; cases vInt h2; cases e
      refine op_pow pins s σ C.H _ _ v u Q I rx ry ⟨_, _, rfl, rfl, ⟨by omega, by omega, ?_⟩, q C Grow.refl r _ (repI _)⟩
      exact Nat.lt_trans (by omega : _ < 1000) (by decide)
    · cases e
  · cases e
/-- t * 1 is t -/
theorem tuple_mul1 (l : Addr) (items : Array Value) (n : Nat) (dd : Option Addr) (sl : Array (Option Value)) (u : Tok) :
    Meets (Builtin.«tuple.__mul__» ⟨[.ref l, .int 1 u], []⟩) (fun _ R s => s.heap.get? l = some { cls := .type "tuple", dict := dd, data := .seq items n, slots := sl } ∧
      R (.ok (.ret (Value.ref l))) s) :=
  .of_wp fun prog w A R st hyp => by
    obtain ⟨hp, gs, dr, tk, os⟩ := st
    obtain ⟨hl, h⟩ := hyp
    have f1 := AutoSeq1.idx_int
    wp_walk using AutoSeq1.wpAny_loadPart' hl
    repeat (first
      | (refine wpAny_ite_true (by simp) ?_; wp_walk using AutoSeq1.wpAny_loadPart' hl)
      | (refine wpAny_ite_false (by simp) ?_; wp_walk using AutoSeq1.wpAny_loadPart' hl))
    exact ⟨_, rfl, h⟩
end
end Mi
set_option Elab.async false
set_option linter.all false
set_option maxRecDepth 100000
set_option maxHeartbeats 2000000
namespace Mi
open PySem PySem.Spec PyProof.Rows L2
def repM (xs : List MV) (k : Int) : List MV := (List.replicate k.toNat xs).flatten
def mulM : MV → MV → Sto → R MV
  | .int i, .int j, S => if -(2 ^ 64) < j ∧ j < 2 ^ 64 then .ok (.int (i * j)) S else .stk
  | .tup xs, .int k, S => if xs.isEmpty = false ∧ 1 ≤ k ∧ k ≤ 1000 ∧ xs.length ≤ 1000 then .ok (.tup (repM xs k)) S else .stk
  | d, .int k, S => match lstOf S d with
    | some xs => if 0 ≤ k ∧ k ≤ 1000 ∧ xs.length ≤ 1000 then .ok (.lst (repM xs k)) S else .stk
    | none => .stk
  | _, _, _ => .stk
section
variable {X : Cx}
theorem op_rep1 {pins : List (Addr × Obj)} {s : Shared} {σ : L2.St} {H : Hp} {v u : Value} {Q : VK} {l : Addr} {xs : List V} (I : Inv X pins σ H s) (rx : RelV (.ref l) v) (ry : RelV (.int 1) u) (hT : SqT X.K H l xs) (q : Q (.ref l) H) :
    wpAny (model X.prog X.w) X.A (binaryOp .Mult v u) (EP X pins σ Q) X.xe s := by
  cases rx
  obtain ⟨t, rfl⟩ := ry
  obtain ⟨its, r, ⟨ot, ho, hc, n, hd⟩, hs⟩ := I.tuple hT
  obtain ⟨cls, dd, data, sl⟩ := ot
  simp only at hc hd
  subst hc hd
  exact wpAny_binaryOp_repeat_ref (T := "tuple") (U := "int") (by decide) ⟨_, ho, rfl⟩ (fun s' => typeIs_int s' 1 t) noFill_tuple_mul F.fills_int_mul F.slot_int_rmul repeat_tuple F.slot_int_index.lookup
    (call_meets F.slot_int_rmul (typeIs_int s 1 t) F.entry_int_rmul (F.args_int_rmul_2 _ _) (int_rmul_tuple 1 t l its.toArray n dd sl)
      ⟨ho, rfl, ⟨_, ho, rfl⟩, call_meets F.slot_tuple_mul ⟨_, ho, rfl⟩ F.entry_tuple_mul (F.args_tuple_mul_2 _ _) (tuple_mul1 l its.toArray n dd sl t) ⟨ho, ⟨.ref l, H, I, rfl, q⟩⟩⟩)
theorem repM_one (xs : List MV) : repM xs 1 = xs := by simp [repM]
theorem opM_mul : OpR X (binaryOp .Mult) (rOf X mulM) := by
  intro pins s σ H x y v u Q I rx ry rof
  obtain ⟨C, S, d1, d2, rfl, hw, hK, r, h1, h2, a, S', e, q⟩ := rof
  unfold mulM at e
  split at e
  · split at e
    · cases vInt h1; cases vInt h2; cases e
      exact op_mul pins s σ C.H _ _ v u Q I rx ry ⟨_, _, rfl, rfl, .inr (by assumption), q C Grow.refl r _ (repI _)⟩
    · cases e
  · rename_i xs k
    split at e
    · rename_i hc
      cases e
      cases vInt h2
      obtain ⟨hne, hk1, hk2, hl⟩ := hc
      have h0 := h1
      rw [RepV] at h1
      obtain ⟨p1, vs1, rfl, q1, t1⟩ := h1
      rw [hK] at q1
      have l1 := t1.length
      by_cases hk : k = 1
      · subst hk
        rw [repM_one] at q
        exact op_rep1 I rx ry q1 (q C Grow.refl r _ h0)
      · refine op_repT pins s σ C.H _ _ v u Q I rx ry ⟨p1, k, vs1, rfl, rfl, q1, ?_, by omega, hk2, by omega, newTup r (t1.flatRep k.toNat) q⟩
        intro z; subst z
        have : xs = [] := List.eq_nil_of_length_eq_zero (by simpa using l1)
        subst this; simp at hne
    · cases e
  · rename_i k _ _
    cases ha : lstOf S d1 with
    | none => rw [ha] at e; cases e
    | some xs =>
      rw [ha] at e
      dsimp only at e
      split at e
      · rename_i hc
        obtain ⟨hk1, hk2, hl⟩ := hc
        cases e
        cases vInt h2
        obtain ⟨p1, vs1, rfl, q1, t1⟩ := lstOf_rep r h1 ha
        have l1 := t1.length
        refine op_rep pins s σ C.H _ _ v u Q I rx ry ⟨p1, k, vs1, rfl, rfl, q1, by omega, by omega, ?_, newLst r (t1.flatRep k.toNat) q⟩
        rw [sizeLine_eq]
        have := Nat.mul_le_mul (show vs1.length ≤ 1000 by omega) (show k.toNat ≤ 1000 by omega)
        omega
      · cases e
  · cases e
end
def pdF : Nat → Sto → MV → PyData
  | 0, _, _ => .dict []
  | _ + 1, _, .non => .none
  | _ + 1, _, .bl b => .bool b
  | _ + 1, _, .int i => .int i
  | _ + 1, _, .str x => .str x
  | n + 1, S, .tup xs => .tuple (xs.map (pdF n S))
  | n + 1, S, .lst xs => .list (xs.map (pdF n S))
  | n + 1, S, .ref k => match S[k]? with
    | some (.lst xs) => .list (xs.map (pdF n S))
    | _ => .dict []
  | _ + 1, _, _ => .dict []
theorem pdF_dp {C : RC} {S : Sto} (r : RepS C S) : ∀ (n : Nat) (d : MV) (v : V), RepV C d v → (pdF n S d).canLay0 = true → Dp C.K C.H v (pdF n S d) := by
  intro n
  induction n with
  | zero => intro d v _ h; simp [pdF, PyData.canLay0] at h
  | succ n ih =>
    have all : ∀ (xs : List MV) (vs : List V), RepVs C xs vs → PyData.canLayAll0 (xs.map (pdF n S)) = true → DpAll C.K C.H vs (xs.map (pdF n S)) := by
      intro xs
      induction xs with
      | nil => intro vs h _; rw [h.nil_inv]; exact .nil
      | cons x xs ihx =>
        intro vs h c
        obtain ⟨v, vr, rfl, h1, h2⟩ := h.cons_inv
        rw [List.map_cons] at c ⊢
        have c' : (pdF n S x).canLay0 = true ∧ PyData.canLayAll0 (xs.map (pdF n S)) = true := by simpa [PyData.canLayAll0] using c
        exact .cons (ih x v h1 c'.1) (ihx vr h2 c'.2)
    intro d v h c
    cases d with
    | non => rw [vNon h]; exact .non
    | bl b => rw [vBl h]; exact .bl b
    | int i => rw [vInt h]; exact .int i
    | str x => rw [vStr h]; exact .str x
    | tup xs =>
      rw [RepV] at h
      obtain ⟨a, vs, rfl, q, t⟩ := h
      exact .tup q (all xs vs t (by simpa [pdF, PyData.canLay0] using c))
    | lst xs =>
      rw [RepV] at h
      obtain ⟨a, vs, rfl, _, q, t⟩ := h
      exact .lst (.of q) (all xs vs t (by simpa [pdF, PyData.canLay0] using c))
    | ref k =>
      rw [RepV] at h
      obtain ⟨a, rfl, q⟩ := h
      rw [pdF] at c ⊢
      cases e : S[k]? with
      | none => rw [e] at c; simp [PyData.canLay0] at c
      | some o =>
        rw [e] at c
        cases o with
        | lst xs =>
          obtain ⟨vs, h1, h2⟩ := r.ob k _ a e q
          exact .lst (.of h1) (all xs vs h2 (by simpa [PyData.canLay0] using c))
        | _ => simp [PyData.canLay0] at c
    | _ => simp [pdF, PyData.canLay0] at c
/-- the scalars that == tells apart at once -/
def skind : MV → Nat
  | .non => 0 | .bl _ => 1 | .int _ => 2 | .str _ => 4
  | _ => 100
@[simp] theorem sk_non : skind .non = 0 := rfl
@[simp] theorem sk_bl {b : Bool} : skind (.bl b) = 1 := rfl
@[simp] theorem sk_int {i : Int} : skind (.int i) = 2 := rfl
@[simp] theorem sk_str {x : Str} : skind (.str x) = 4 := rfl
@[simp] theorem sk_tup {x : List MV} : skind (.tup x) = 100 := rfl
@[simp] theorem sk_lst {x : List MV} : skind (.lst x) = 100 := rfl
@[simp] theorem sk_kls {x : List MV} : skind (.kls x) = 100 := rfl
@[simp] theorem sk_ref {n : Nat} : skind (.ref n) = 100 := rfl
@[simp] theorem sk_obj {c : Str} {f : List Str} {x : List MV} : skind (.obj c f x) = 100 := rfl
@[simp] theorem sk_dct {k : List Key} {x : List MV} : skind (.dct k x) = 100 := rfl
@[simp] theorem sk_dcT {k x : List MV} : skind (.dcT k x) = 100 := rfl
/-- all pairs of scalars but a bool beside an int -/
def scalM (a b : MV) : Bool := let n := skind a + skind b; Nat.blt n 10 && !(n == 3)
def seqM : MV → MV → Bool
  | .non, .non => true
  | .int i, .int j => decide (i = j)
  | .bl i, .bl j => decide (i = j)
  | .str i, .str j => decide (i = j)
  | _, _ => false
def eqB (S : Sto) (a b : MV) : Option Bool :=
  if scalM a b then some (seqM a b)
  else if SeqAt.shaped (pdF 8 S a) && SeqAt.shaped (pdF 8 S b) then some (PyData.eqv (pdF 8 S a) (pdF 8 S b)) else none
def eqM (a b : MV) (S : Sto) : R MV := match eqB S a b with
  | some k => .ok (.bl k) S
  | none => .stk
def neM (a b : MV) (S : Sto) : R MV := match eqB S a b with
  | some k => .ok (.bl (!k)) S
  | none => .stk
theorem scal_rep {C : RC} {a b : MV} {x y : V} (h : scalM a b = true) (ha : RepV C a x) (hb : RepV C b y) : scal x y = true ∧ seqM a b = decide (x = y) := by
  cases a <;> cases b <;> first
    | (simp [scalM, skind, Nat.blt] at h; done)
    | (first
        | rw [vNon ha] | rw [vBl ha] | rw [vInt ha] | rw [vStr ha]
       first
        | rw [vNon hb] | rw [vBl hb] | rw [vInt hb] | rw [vStr hb]
       refine ⟨rfl, ?_⟩
       simp [seqM])
section
variable {X : Cx}
theorem opM_eq (hu : X.A.units + 64 < cLine) : OpR X (compareOp .Eq) (rOf X eqM) := by
  intro pins s σ H x y v u Q I rx ry rof
  obtain ⟨C, S, d1, d2, rfl, hw, hK, r, h1, h2, a, S', e, q⟩ := rof
  unfold eqM at e
  cases eb : eqB S d1 d2 with
  | none => rw [eb] at e; cases e
  | some k =>
    rw [eb] at e; cases e
    unfold eqB at eb
    by_cases hs : scalM d1 d2 = true
    · rw [if_pos hs] at eb; cases eb
      obtain ⟨g1, g2⟩ := scal_rep hs h1 h2
      rw [g2] at q
      exact op_eq pins s σ C.H _ _ v u Q I rx ry ⟨g1, q C Grow.refl r _ (repB _)⟩
    · rw [if_neg hs] at eb
      split at eb
      · rename_i hh
        obtain ⟨z1, z2⟩ := Bool.and_eq_true_iff.mp hh
        cases eb
        refine op_eqD hu pins s σ C.H _ _ v u Q I rx ry ⟨_, _, by rw [← hK]; exact pdF_dp r 8 d1 x h1 (SeqAt.canLay_of_shaped z1), by rw [← hK]; exact pdF_dp r 8 d2 y h2 (SeqAt.canLay_of_shaped z2), z1, z2, q C Grow.refl r _ (repB _)⟩
      · cases eb
theorem opM_ne (hu : X.A.units + 64 < cLine) : OpR X (compareOp .NotEq) (rOf X neM) := by
  intro pins s σ H x y v u Q I rx ry rof
  obtain ⟨C, S, d1, d2, rfl, hw, hK, r, h1, h2, a, S', e, q⟩ := rof
  unfold neM at e
  cases eb : eqB S d1 d2 with
  | none => rw [eb] at e; cases e
  | some k =>
    rw [eb] at e; cases e
    unfold eqB at eb
    by_cases hs : scalM d1 d2 = true
    · rw [if_pos hs] at eb; cases eb
      obtain ⟨g1, g2⟩ := scal_rep hs h1 h2
      rw [g2] at q
      exact op_ne pins s σ C.H _ _ v u Q I rx ry ⟨g1, q C Grow.refl r _ (repB _)⟩
    · rw [if_neg hs] at eb
      split at eb
      · rename_i hh
        obtain ⟨z1, z2⟩ := Bool.and_eq_true_iff.mp hh
        cases eb
        refine op_neD hu pins s σ C.H _ _ v u Q I rx ry ⟨_, _, by rw [← hK]; exact pdF_dp r 8 d1 x h1 (SeqAt.canLay_of_shaped z1), by rw [← hK]; exact pdF_dp r 8 d2 y h2 (SeqAt.canLay_of_shaped z2), z1, z2, q C Grow.refl r _ (repB _)⟩
      · cases eb
/-- is None, is True .. -/
def isB : MV → MV → Option Bool
  | .bl a, .bl b => some (decide (a = b))
  | .non, .non => some true
  | .bl _, .non | .int _, .non | .str _, .non | .tup _, .non | .lst _, .non | .dct _ _, .non | .dcT _ _, .non | .obj _ _ _, .non | .ref _, .non => some false
  | .non, .bl _ => some false
  | _, _ => none
def isM (a b : MV) (S : Sto) : R MV := match isB a b with
  | some k => .ok (.bl k) S
  | none => .stk
theorem isB_rep {C : RC} {a b : MV} {x y : V} {k : Bool} (h : isB a b = some k) (ha : RepV C a x) (hb : RepV C b y) : (y = .non ∧ k = decide (x = .non)) ∨ (∃ i j, x = .bl i ∧ y = .bl j ∧ k = decide (i = j)) ∨ ∃ j, x = .non ∧ y = .bl j ∧ k = false := by
  cases a <;> cases b <;> first
    | (simp [isB] at h; done)
    | (rw [vNon ha, vBl hb]; simp [isB] at h; exact .inr (.inr ⟨_, rfl, rfl, h⟩))
    | (rw [vBl ha, vBl hb]; simp [isB] at h; exact .inr (.inl ⟨_, _, rfl, rfl, h.symm⟩))
    | (refine .inl ⟨vNon hb, ?_⟩
       have h : some _ = some k := h
       cases h
       first
        | (rw [vNon ha]; simp; done)
        | (rw [vBl ha]; simp; done)
        | (rw [vInt ha]; simp; done)
        | (rw [vStr ha]; simp; done)
        | (rw [RepV] at ha
           obtain ⟨a, ha⟩ := ha
           first
            | (obtain ⟨vs, rfl, _⟩ := ha; simp; done)
            | (obtain ⟨rfl, _⟩ := ha; simp; done)
            | (obtain ⟨_, _, rfl, _⟩ := ha; simp; done)))
theorem opM_is : OpR X (compareOp .Is) (rOf X isM) := by
  intro pins s σ H x y v u Q I rx ry rof
  obtain ⟨C, S, d1, d2, rfl, hw, hK, r, h1, h2, a, S', e, q⟩ := rof
  unfold isM at e
  cases eb : isB d1 d2 with
  | none => rw [eb] at e; cases e
  | some k =>
    rw [eb] at e; cases e
    rcases isB_rep eb h1 h2 with ⟨rfl, rfl⟩ | ⟨i, j, rfl, rfl, rfl⟩ | ⟨j, rfl, rfl, rfl⟩
    · exact op_isN pins s σ C.H _ _ v u Q I rx ry ⟨rfl, q C Grow.refl r _ (repB _)⟩
    · exact op_isBl pins s σ C.H _ _ v u Q I rx ry ⟨i, j, rfl, rfl, q C Grow.refl r _ (repB _)⟩
    · cases rx; cases ry
      exact wpAny_is_other rfl (by intro z; cases z) ⟨.bl false, C.H, I, rfl, q C Grow.refl r _ (repB _)⟩
/-- orders of ints -/
def cmpI (f : Int → Int → Bool) : MV → MV → Sto → R MV
  | .int i, .int j, S => .ok (.bl (f i j)) S
  | _, _, _ => .stk
theorem opM_int {op : CmpOp} {f : Int → Int → Bool} (ho : OpR X (compareOp op) (rI0 fun i j => .bl (f i j))) : OpR X (compareOp op) (rOf X (cmpI f)) := by
  intro pins s σ H x y v u Q I rx ry rof
  obtain ⟨C, S, d1, d2, rfl, hw, hK, r, h1, h2, a, S', e, q⟩ := rof
  unfold cmpI at e
  split at e
  · cases vInt h1; cases vInt h2; cases e
    exact ho pins s σ C.H _ _ v u Q I rx ry ⟨_, _, rfl, rfl, q C Grow.refl r _ (repB _)⟩
  · cases e
abbrev ltM := cmpI fun i j => decide (i < j)
abbrev gtM := cmpI fun i j => decide (j < i)
abbrev geM := cmpI fun i j => decide (j ≤ i)
end
end Mi
set_option Elab.async false
set_option linter.all false
set_option maxRecDepth 100000
set_option maxHeartbeats 2000000
namespace Mi
open PySem PySem.Spec PyProof.Rows L2
def keyV : MV → Option Key
  | .int i => some (.inl i)
  | .str x => some (.inr x)
  | _ => none
theorem keyV_rep {C : RC} {d : MV} {v : V} {k : Key} (h : RepV C d v) (e : keyV d = some k) : v = kV k := by
  cases d with
  | int i => cases e; exact vInt h
  | str x => cases e; exact vStr h
  | _ => cases e
def dctOf (S : Sto) : MV → Option (List Key × List MV)
  | .dct ks vs => some (ks, vs)
  | .ref n => match S[n]? with
    | some (.dct ks vs) => some (ks, vs)
    | _ => none
  | _ => none
theorem dctOf_rep {C : RC} {S : Sto} {d : MV} {v : V} {ks : List Key} {ds : List MV} (r : RepS C S) (h : RepV C d v) (e : dctOf S d = some (ks, ds)) :
    ∃ a vs, v = .ref a ∧ Rd C.H a (.dK (ks.zip vs)) ∧ ks.length = vs.length ∧ ks.Nodup ∧ RepVs C ds vs := by
  cases d with
  | dct ks' ds' =>
    cases e
    rw [RepV] at h
    obtain ⟨a, vs, e, _, q, l, nd, t⟩ := h
    exact ⟨a, vs, e, q, l, nd, t⟩
  | ref n =>
    rw [RepV] at h
    obtain ⟨a, e1, e2⟩ := h
    rw [dctOf] at e
    cases q : S[n]? with
    | none => simp [q] at e
    | some o =>
      rw [q] at e
      cases o with
      | dct ks' ds' =>
        cases e
        obtain ⟨vs, h1, l, nd, h2⟩ := r.ob n _ a q e2
        exact ⟨a, vs, e1, .inl h1, l, nd, h2⟩
      | _ => cases e
  | _ => cases e
/-- what a dict holds -/
def dlook {κ : Type} [DecidableEq κ] : List κ → List MV → κ → Option MV
  | k' :: ks, v :: vs, k => if k' = k then some v else dlook ks vs k
  | _, _, _ => none
theorem dlook_rep {C : RC} {k : Key} : ∀ {ks : List Key} {ds : List MV} {vs : List V}, RepVs C ds vs →
    (∀ d, dlook ks ds k = some d → ∃ v, valV (ks.zip vs) k = some v ∧ RepV C d v) ∧ (dlook ks ds k = none → valV (ks.zip vs) k = none)
  | [], ds, vs, _ => ⟨fun d e => by simp [dlook] at e, fun _ => by simp [valV]⟩
  | k' :: ks, [], vs, t => by rw [t.nil_inv]; exact ⟨fun d e => by simp [dlook] at e, fun _ => by simp [valV]⟩
  | k' :: ks, d' :: ds, vs, t => by
    obtain ⟨v, vr, rfl, h1, h2⟩ := t.cons_inv
    rw [List.zip_cons_cons]
    by_cases e : k' = k
    · rw [valV_pos (p := (k', v)) e]
      simp only [dlook, if_pos e]
      exact ⟨fun d q => by cases q; exact ⟨v, rfl, h1⟩, fun q => by cases q⟩
    · rw [valV_neg (p := (k', v)) e]
      simp only [dlook, if_neg e]
      exact dlook_rep h2
def dsetV {κ : Type} [DecidableEq κ] : List κ → List MV → κ → MV → List MV
  | k' :: ks, v :: vs, k, d => (if k' = k then d else v) :: dsetV ks vs k d
  | _, vs, _, _ => vs
def dput {κ : Type} [DecidableEq κ] (ks : List κ) (vs : List MV) (k : κ) (d : MV) : List κ × List MV :=
  if k ∈ ks then (ks, dsetV ks vs k d) else (ks ++ [k], vs ++ [d])
def vsetV {κ : Type} [DecidableEq κ] : List κ → List V → κ → V → List V
  | k' :: ks, v :: vs, k, d => (if k' = k then d else v) :: vsetV ks vs k d
  | _, vs, _, _ => vs
theorem vsetV_len {κ : Type} [DecidableEq κ] (k : κ) (d : V) : ∀ (ks : List κ) (vs : List V), (vsetV ks vs k d).length = vs.length
  | [], vs => rfl
  | _ :: _, [] => rfl
  | k' :: ks, v :: vs => by simp [vsetV, vsetV_len k d ks vs]
theorem dsetV_rep {κ : Type} [DecidableEq κ] {C : RC} {k : κ} {d : MV} {v : V} (q : RepV C d v) : ∀ {ks : List κ} {ds : List MV} {vs : List V}, RepVs C ds vs → RepVs C (dsetV ks ds k d) (vsetV ks vs k v)
  | [], ds, vs, t => t
  | k' :: ks, [], vs, t => by rw [t.nil_inv]; exact .nil
  | k' :: ks, d' :: ds, vs, t => by
    obtain ⟨u, vr, rfl, h1, h2⟩ := t.cons_inv
    simp only [dsetV, vsetV]
    by_cases e : k' = k
    · rw [if_pos e, if_pos e]; exact .cons q (dsetV_rep q h2)
    · rw [if_neg e, if_neg e]; exact .cons h1 (dsetV_rep q h2)
theorem zip_map_set {κ : Type} [DecidableEq κ] (k : κ) (y : V) : ∀ (ks : List κ) (vs : List V), (ks.zip vs).map (fun kv => if kv.1 = k then (kv.1, y) else kv) = ks.zip (vsetV ks vs k y)
  | [], vs => by simp
  | k' :: ks, [] => by simp [vsetV]
  | k' :: ks, v :: vs => by
    rw [List.zip_cons_cons, List.map_cons, zip_map_set k y ks vs, vsetV, List.zip_cons_cons]
    by_cases e : k' = k
    · simp [e]
    · simp [e]
theorem any_zip {κ : Type} [DecidableEq κ] (k : κ) : ∀ (ks : List κ) (vs : List V), ks.length = vs.length → ((ks.zip vs).any fun kv => decide (kv.1 = k)) = decide (k ∈ ks)
  | [], vs, _ => by simp
  | k' :: ks, [], l => by simp at l
  | k' :: ks, v :: vs, l => by
    rw [List.zip_cons_cons, List.any_cons, any_zip k ks vs (by simpa using l)]
    by_cases e : k' = k
    · simp [e]
    · have e' : ¬ k = k' := fun z => e z.symm
      simp [e, e']
/-- the dict behind a store -/
theorem dput_rep {C : RC} {ks ks' : List Key} {ds ds' : List MV} {k : Key} {d : MV} {v : V} {vs : List V} (t : RepVs C ds vs) (l : ks.length = vs.length) (nd : ks.Nodup) (q : RepV C d v) (e : dput ks ds k d = (ks', ds')) :
    ∃ vs', putK (ks.zip vs) k v = ks'.zip vs' ∧ ks'.length = vs'.length ∧ ks'.Nodup ∧ RepVs C ds' vs' := by
  unfold dput at e
  unfold putK
  rw [any_zip k ks vs l]
  by_cases hm : k ∈ ks
  · rw [if_pos hm] at e; cases e
    rw [if_pos (by simp [hm])]
    exact ⟨vsetV ks vs k v, zip_map_set k v ks vs, by rw [vsetV_len]; exact l, nd, dsetV_rep q t⟩
  · rw [if_neg hm] at e; cases e
    rw [if_neg (by simp [hm])]
    refine ⟨vs ++ [v], ?_, by simp [l], ?_, t.append (.cons q .nil)⟩
    · rw [List.zip_append l]; simp
    · rw [List.nodup_append]
      refine ⟨nd, by simp, fun x hx y hy => ?_⟩
      have : y = k := by simpa using hy
      subst this
      intro z; subst z; exact hm hx
def idxD (d i : MV) (S : Sto) : R MV := match dctOf S d, keyV i with
  | some (ks, ds), some k => match dlook ks ds k with
    | some x => .ok x S
    | none => .stk
  | _, _ => .stk
def idxM (d i : MV) (S : Sto) : R MV := match seqOf S d with
  | some xs => match i with
    | .int k => match atI xs k with
      | some x => .ok x S
      | none => .stk
    | _ => .stk
  | none => idxD d i S
theorem atI_rep {C : RC} {ds : List MV} {vs : List V} {k : Int} {d : MV} (t : RepVs C ds vs) (e : atI ds k = some d) : ∃ v, atI vs k = some v ∧ RepV C d v := by
  unfold atI at e ⊢
  rw [← t.length]
  cases q : ixN ds.length k with
  | none => simp [q] at e
  | some j =>
    rw [q] at e
    obtain ⟨v, h1, h2⟩ := t.get (i := j) e
    exact ⟨v, h1, h2⟩
theorem idxM_cases {d i : MV} {S S' : Sto} {x : MV} (h : idxM d i S = .ok x S') : S' = S ∧ ((∃ xs k, seqOf S d = some xs ∧ i = .int k ∧ atI xs k = some x) ∨ ∃ ks ds k, dctOf S d = some (ks, ds) ∧ keyV i = some k ∧ dlook ks ds k = some x) := by
  unfold idxM at h
  cases hs : seqOf S d with
  | some xs =>
    rw [hs] at h
    cases i with
    | int k =>
      dsimp only at h
      cases q : atI xs k with
      | none => rw [q] at h; cases h
      | some y => rw [q] at h; cases h; exact ⟨rfl, .inl ⟨xs, k, rfl, rfl, q⟩⟩
    | _ => cases h
  | none =>
    rw [hs] at h
    dsimp only at h
    unfold idxD at h
    cases e1 : dctOf S d with
    | none => rw [e1] at h; cases h
    | some p =>
      obtain ⟨ks, ds⟩ := p
      cases e2 : keyV i with
      | none => rw [e1, e2] at h; cases h
      | some k =>
        rw [e1, e2] at h
        dsimp only at h
        cases q : dlook ks ds k with
        | none => rw [q] at h; cases h
        | some y => rw [q] at h; cases h; exact ⟨rfl, .inr ⟨ks, ds, k, rfl, rfl, q⟩⟩
section
variable {X : Cx}
theorem ixM (hu : X.A.units + 1 < cLine) : IxR X (rOf X idxM) := by
  intro value slice pins s σ H x y v u Q I rx ry rof hs
  obtain ⟨C, S, d1, d2, rfl, hw, hK, r, h1, h2, a, S', e, q⟩ := rof
  obtain ⟨rfl, ⟨xs, k, e1, rfl, e3⟩ | ⟨ks, ds, k, e1, e2, e3⟩⟩ := idxM_cases e
  · cases vInt h2
    obtain ⟨p, vs, rfl, sq, t⟩ := seqOf_rep r h1 e1
    obtain ⟨z, hz, rz⟩ := atI_rep t e3
    rw [hK] at sq
    rcases sq with sq | sq
    · exact ix_list value slice pins s σ C.H _ _ v u Q I rx ry ⟨p, vs, k, z, rfl, rfl, sq, hz, q C Grow.refl r z rz⟩ hs
    · exact ix_tup value slice pins s σ C.H _ _ v u Q I rx ry ⟨p, vs, k, z, rfl, rfl, sq, hz, q C Grow.refl r z rz⟩ hs
  · have ek := keyV_rep h2 e2
    subst ek
    obtain ⟨p, vs, rfl, rd, l, nd, t⟩ := dctOf_rep r h1 e1
    obtain ⟨z, hz, rz⟩ := (dlook_rep (ks := ks) t).1 a e3
    cases rx
    have g : DGet C.H p (kV k) (some z) := .inl ⟨_, k, rd, rfl, hz.symm⟩
    exact tail_any (dict_typeIs I g) PySem.F.slot_dict_getitem.lookup (d_getItem hu I g ry fun w' s' I' rw' => ⟨z, C.H, I', rw', q C Grow.refl r z rz⟩) hs
end
def cutM (xs : List MV) (lo hi : Option Int) : List MV := (xs.drop (HT.sIx xs.length 0 lo)).take (HT.sIx xs.length xs.length hi - HT.sIx xs.length 0 lo)
def slcM (d : MV) (lo hi : Option Int) (S : Sto) : R MV := match d with
  | .tup xs => .ok (.tup (cutM xs lo hi)) S
  | .str z => if z.length ≤ sizeLine then .ok (.str (cutS z lo hi)) S else .stk
  | d => match lstOf S d with
    | some xs => .ok (.lst (cutM xs lo hi)) S
    | none => .stk
def rSlM (X : Cx) : V → Option Int → Option Int → Hp → VK → Prop := fun x lo hi H Q => ∃ C S d, C.H = H ∧ C.w = X.w ∧ C.K = X.K ∧ RepS C S ∧ RepV C d x ∧ ∃ a S', slcM d lo hi S = .ok a S' ∧ ∀ C', Grow C C' → RepS C' S' → ∀ v, RepV C' a v → Q v C'.H
theorem cut_rep {C : RC} {ds : List MV} {vs : List V} (t : RepVs C ds vs) (lo hi : Option Int) : RepVs C (cutM ds lo hi) (cutV vs lo hi) := by
  unfold cutM cutV
  rw [← t.length]
  exact (t.drop _).take _
theorem cutM_all {xs : List MV} {lo hi : Option Int} (h : HT.sIx xs.length 0 lo = 0 ∧ HT.sIx xs.length xs.length hi = xs.length) : cutM xs lo hi = xs := by
  unfold cutM
  rw [h.1, h.2]; simp
theorem slM {X : Cx} : SlR X (rSlM X) := by
  intro pins s σ H x v vl vu lo hi sl Q I rx hs pl pu rof
  obtain ⟨C, S, d, rfl, hw, hK, r, h1, a, S', e, q⟩ := rof
  unfold slcM at e
  split at e
  · cases e
    have h0 := h1
    rw [RepV] at h1
    obtain ⟨p, vs, rfl, sq, t⟩ := h1
    rw [hK] at sq
    refine sl_tupA pins s σ C.H _ v vl vu lo hi sl Q I rx hs pl pu ⟨p, vs, rfl, sq, fun z => ?_, fun z => newTup r (cut_rep t lo hi) q⟩
    rw [← t.length] at z
    rw [cutM_all z] at q
    exact q C Grow.refl r _ h0
  · split at e
    · cases e
      cases vStr h1
      exact sl_str pins s σ C.H _ v vl vu lo hi sl Q I rx hs pl pu ⟨_, rfl, by assumption, q C Grow.refl r _ (repS _)⟩
    · cases e
  · cases el : lstOf S d with
    | none => rw [el] at e; cases e
    | some xs =>
      rw [el] at e; cases e
      obtain ⟨p, vs, rfl, sq, t⟩ := lstOf_rep r h1 el
      exact sl_list pins s σ C.H _ v vl vu lo hi sl Q I rx hs pl pu ⟨p, vs, rfl, .of sq, newLst r (cut_rep t lo hi) q⟩
def inB (S : Sto) (x c : MV) : Option Bool := match dctOf S c with
  | some (ks, ds) => match keyV x with
    | some k => some (dlook ks ds k).isSome
    | none => none
  | none => match pdF 8 S c with
    | .list ds => if SeqAt.shaped (pdF 8 S x) && SeqAt.shaped (.list ds) then some (ds.any fun z => PyData.eqv z (pdF 8 S x)) else none
    | .tuple ds => if SeqAt.shaped (pdF 8 S x) && SeqAt.shaped (.tuple ds) then some (ds.any fun z => PyData.eqv z (pdF 8 S x)) else none
    | _ => none
def ninM (a b : MV) (S : Sto) : R MV := match inB S a b with
  | some k => .ok (.bl (!k)) S
  | none => .stk
theorem room_in_shT {A : Around} {d : PyData} {ds : List PyData} (h : SeqAt.shaped d = true) (hu : A.units + 65 < cLine) : A.units + 1 + min (PyData.depthAll ds) d.depth < cLine := by
  have h1 := SeqAt.depth_of_shaped h
  have h2 : min (PyData.depthAll ds) d.depth ≤ d.depth := Nat.min_le_right _ _
  omega
section
variable {X : Cx}
theorem inB_rep {pins : List (Addr × Obj)} {s : Shared} {σ : L2.St} {C : RC} {S : Sto} {x y : V} {v u : Value} {d1 d2 : MV} {k : Bool} {Q1 Q2 : Value → Shared → Prop} (hu : X.A.units + 65 < cLine) (I : Inv X pins σ C.H s) (rx : RelV x v) (ry : RelV y u)
    (hK : C.K = X.K) (r : RepS C S) (h1 : RepV C d1 x) (h2 : RepV C d2 y) (e : inB S d1 d2 = some k) (q1 : ∀ s', Inv X pins σ C.H s' → Q1 (.bool k) s') (q2 : ∀ s', Inv X pins σ C.H s' → Q2 (.bool (!k)) s') :
    wpAny (model X.prog X.w) X.A (compareOp .In v u) Q1 X.xe s ∧ wpAny (model X.prog X.w) X.A (compareOp .NotIn v u) Q2 X.xe s := by
  unfold inB at e
  cases ed : dctOf S d2 with
  | some p =>
    obtain ⟨ks, ds⟩ := p
    rw [ed] at e
    dsimp only at e
    cases ek : keyV d1 with
    | none => rw [ek] at e; cases e
    | some key =>
      rw [ek] at e
      dsimp only at e
      have e' : (dlook ks ds key).isSome = k := Option.some.inj e
      have hv := keyV_rep h1 ek
      subst hv
      obtain ⟨p, vs, rfl, rd, l, nd, t⟩ := dctOf_rep r h2 ed
      cases ry
      have hk : (valV (ks.zip vs) key).isSome = k := by
        rw [← e']
        cases q : dlook ks ds key with
        | none => rw [(dlook_rep (ks := ks) t).2 q]; rfl
        | some d => obtain ⟨z, hz, _⟩ := (dlook_rep (ks := ks) t).1 d q; rw [hz]; rfl
      have g : DGet C.H p (kV key) (valV (ks.zip vs) key) := .inl ⟨_, key, rd, rfl, rfl⟩
      refine ⟨d_in (by omega) I g rx fun s' I' => ?_, d_notIn (by omega) I g rx fun s' I' => ?_⟩
      · rw [hk]; exact q1 s' I'
      · rw [hk]; exact q2 s' I'
  | none =>
    rw [ed] at e
    dsimp only at e
    cases ep : pdF 8 S d2 with
    | list ds =>
      rw [ep] at e
      dsimp only at e
      split at e
      · rename_i hh
        obtain ⟨z1, z2⟩ := Bool.and_eq_true_iff.mp hh
        have e' : (ds.any fun z => PyData.eqv z (pdF 8 S d1)) = k := Option.some.inj e
        have D1 := pdF_dp r 8 d1 x h1 (SeqAt.canLay_of_shaped z1)
        have D2 := pdF_dp r 8 d2 y h2 (by rw [ep]; exact SeqAt.canLay_of_shaped z2)
        rw [hK] at D1 D2
        rw [ep] at D2
        obtain ⟨as, r1⟩ := Dp.reads I _ x v D1 rx
        obtain ⟨bs, r2⟩ := Dp.reads I _ y u D2 ry
        have lay := SeqAt.canLay_of_shaped z2
        refine ⟨SeqAt.in_list_reads r2 r1 (by simpa [PyData.canLay0] using lay) (SeqAt.canLay_of_shaped z1) (room_in_shT z1 hu) (by rw [e']; exact q1 s I),
          SeqAt.notIn_list_reads r2 r1 (by simpa [PyData.canLay0] using lay) (SeqAt.canLay_of_shaped z1) (room_in_shT z1 hu) (by rw [e']; exact q2 s I)⟩
      · cases e
    | tuple ds =>
      rw [ep] at e
      dsimp only at e
      split at e
      · rename_i hh
        obtain ⟨z1, z2⟩ := Bool.and_eq_true_iff.mp hh
        have e' : (ds.any fun z => PyData.eqv z (pdF 8 S d1)) = k := Option.some.inj e
        have D1 := pdF_dp r 8 d1 x h1 (SeqAt.canLay_of_shaped z1)
        have D2 := pdF_dp r 8 d2 y h2 (by rw [ep]; exact SeqAt.canLay_of_shaped z2)
        rw [hK] at D1 D2
        rw [ep] at D2
        obtain ⟨as, r1⟩ := Dp.reads I _ x v D1 rx
        obtain ⟨bs, r2⟩ := Dp.reads I _ y u D2 ry
        have lay := SeqAt.canLay_of_shaped z2
        refine ⟨SeqAt.in_tuple_reads r2 r1 (by simpa [PyData.canLay0] using lay) (SeqAt.canLay_of_shaped z1) (room_in_shT z1 hu) (by rw [e']; exact q1 s I),
          SeqAt.notIn_tuple_reads r2 r1 (by simpa [PyData.canLay0] using lay) (SeqAt.canLay_of_shaped z1) (room_in_shT z1 hu) (by rw [e']; exact q2 s I)⟩
      · cases e
    | _ => rw [ep] at e; cases e
theorem opM_nin (hu : X.A.units + 65 < cLine) : OpR X (compareOp .NotIn) (rOf X ninM) := by
  intro pins s σ H x y v u Q I rx ry rof
  obtain ⟨C, S, d1, d2, rfl, hw, hK, r, h1, h2, a, S', e, q⟩ := rof
  unfold ninM at e
  cases eb : inB S d1 d2 with
  | none => rw [eb] at e; cases e
  | some k =>
    rw [eb] at e; cases e
    exact (inB_rep hu I rx ry hK r h1 h2 eb (Q1 := fun _ _ => True) (fun s' I' => True.intro) (fun s' I' => ⟨.bl _, C.H, I', rfl, q C Grow.refl r _ (repB _)⟩)).2
end
end Mi
set_option Elab.async false
set_option linter.all false
set_option maxRecDepth 100000
set_option maxHeartbeats 2000000
namespace Mi
open PySem PySem.Spec PyProof.Rows L2
/-- a call's reading -/
def rCf (X : Cx) (f : List MV → Sto → R MV) : List V → Hp → VK → Prop := fun vs H Q => ∃ C S ds, C.H = H ∧ C.w = X.w ∧ C.K = X.K ∧ RepS C S ∧ RepVs C ds vs ∧
  ∃ a S', f ds S = .ok a S' ∧ ∀ C', Grow C C' → RepS C' S' → ∀ v, RepV C' a v → Q v C'.H
theorem one_of {C : RC} {d : MV} {vs : List V} (t : RepVs C [d] vs) : ∃ v, vs = [v] ∧ RepV C d v := by
  obtain ⟨v, vr, rfl, h1, h2⟩ := t.cons_inv
  rw [h2.nil_inv]
  exact ⟨v, rfl, h1⟩
theorem two_of {C : RC} {d e : MV} {vs : List V} (t : RepVs C [d, e] vs) : ∃ v u, vs = [v, u] ∧ RepV C d v ∧ RepV C e u := by
  obtain ⟨v, vr, rfl, h1, h2⟩ := t.cons_inv
  obtain ⟨u, rfl, h3⟩ := one_of h2
  exact ⟨v, u, rfl, h1, h3⟩
def lenD (d : MV) (S : Sto) : R MV := match dctOf S d with
  | some (ks, _) => .ok (.int ks.length) S
  | none => match d with
    | .str x => if x.length ≤ sizeLine then .ok (.int x.length) S else .stk
    | _ => .stk
def lenM : List MV → Sto → R MV
  | [d], S => match seqOf S d with
    | some xs => .ok (.int xs.length) S
    | none => lenD d S
  | _, _ => .stk
section
variable {X : Cx}
theorem crM_len : CallR X (.builtin "len") (rCf X lenM) := by
  intro pins s σ H vs us Q I rv h
  obtain ⟨C, S, ds, rfl, hw, hK, r, t, a, S', e, q⟩ := h
  unfold lenM at e
  split at e
  · rename_i d
    obtain ⟨v, rfl, h1⟩ := one_of t
    cases hs : seqOf S d with
    | some xs =>
      rw [hs] at e; cases e
      obtain ⟨p, ws, rfl, sq, tt⟩ := seqOf_rep r h1 hs
      rw [hK] at sq
      have l := tt.length
      refine call_len pins s σ C.H _ us Q I rv ⟨.ref p, ws.length, rfl, ?_, ?_⟩
      · rcases sq with sq | sq
        · exact .inl ⟨ws, sq, rfl⟩
        · exact .inr ⟨ws, sq, rfl⟩
      · rw [← l]; exact q C Grow.refl r _ (repI _)
    | none =>
      rw [hs] at e
      dsimp only at e
      unfold lenD at e
      cases hd : dctOf S d with
      | some p =>
        obtain ⟨ks, es⟩ := p
        rw [hd] at e; cases e
        obtain ⟨p, ws, rfl, rd, l, nd, tt⟩ := dctOf_rep r h1 hd
        obtain ⟨u, rfl, ru⟩ := vals1 rv
        cases ru
        refine d_len I rd fun tk s' I' => ⟨.int ks.length, C.H, I', ⟨tk, ?_⟩, q C Grow.refl r _ (repI _)⟩
        simp [List.length_zip, l]
      | none =>
        rw [hd] at e
        dsimp only at e
        split at e
        · split at e
          · cases e
            cases vStr h1
            exact call_len pins s σ C.H _ us Q I rv ⟨_, _, rfl, ⟨by assumption, rfl⟩, q C Grow.refl r _ (repI _)⟩
          · cases e
        · cases e
  · cases e
def intM : List MV → Sto → R MV
  | [.int i], S => .ok (.int i) S
  | [.bl b], S => .ok (.int (if b then 1 else 0)) S
  | _, _ => .stk
theorem crM_int : CallR X (.type "int") (rCf X intM) := by
  intro pins s σ H vs us Q I rv h
  obtain ⟨C, S, ds, rfl, hw, hK, r, t, a, S', e, q⟩ := h
  unfold intM at e
  split at e
  · cases e
    obtain ⟨v, rfl, h1⟩ := one_of t
    cases vInt h1
    exact call_int1 pins s σ C.H _ us Q I rv (.inl ⟨_, rfl, q C Grow.refl r _ (repI _)⟩)
  · cases e
    obtain ⟨v, rfl, h1⟩ := one_of t
    cases vBl h1
    exact call_int1 pins s σ C.H _ us Q I rv (.inr ⟨_, rfl, q C Grow.refl r _ (repI _)⟩)
  · cases e
def tupM : List MV → Sto → R MV
  | [d], S => match seqOf S d with
    | some xs => .ok (.tup xs) S
    | none => .stk
  | _, _ => .stk
theorem crM_tuple : CallR X (.type "tuple") (rCf X tupM) := by
  intro pins s σ H vs us Q I rv h
  obtain ⟨C, S, ds, rfl, hw, hK, r, t, a, S', e, q⟩ := h
  unfold tupM at e
  split at e
  · rename_i d
    obtain ⟨v, rfl, h1⟩ := one_of t
    cases hs : seqOf S d with
    | some xs =>
      rw [hs] at e; cases e
      obtain ⟨p, ws, rfl, sq, tt⟩ := seqOf_rep r h1 hs
      refine call_tuple_of pins s σ C.H _ us Q I rv ⟨p, ws, rfl, ?_⟩
      rcases sq with sq | sq
      · exact .inl ⟨by rw [← hK]; exact sq, newTup r tt q⟩
      · exact .inr ⟨by rw [← hK]; exact sq, q C Grow.refl r _ (by rw [RepV]; exact ⟨p, ws, rfl, sq, tt⟩)⟩
    | none => rw [hs] at e; cases e
  · cases e
/-- list(x), not to be written | a cell -/
def lstM (fr : Bool) : List MV → Sto → R MV
  | [d], S => match seqOf S d with
    | some xs => if fr then .ok (.lst xs) S else .ok (.ref S.length) (S ++ [.lst xs])
    | none => .stk
  | _, _ => .stk
theorem crM_list (fr : Bool) : CallR X (.type "list") (rCf X (lstM fr)) := by
  intro pins s σ H vs us Q I rv h
  obtain ⟨C, S, ds, rfl, hw, hK, r, t, a, S', e, q⟩ := h
  unfold lstM at e
  split at e
  · rename_i d
    obtain ⟨v, rfl, h1⟩ := one_of t
    cases hs : seqOf S d with
    | some xs =>
      rw [hs] at e
      dsimp only at e
      obtain ⟨p, ws, rfl, sq, tt⟩ := seqOf_rep r h1 hs
      rw [hK] at sq
      refine call_list_of pins s σ C.H _ us Q I rv ⟨p, ws, rfl, sq, ?_⟩
      cases fr with
      | true => cases e; exact newLst r tt q
      | false => cases e; exact newCell r tt q
    | none => rw [hs] at e; cases e
  · cases e
def tyN (S : Sto) : MV → Option String
  | .non => some "NoneType"
  | .bl _ => some "bool"
  | .int _ => some "int"
  | .str _ => some "str"
  | .tup _ => some "tuple"
  | .lst _ => some "list"
  | .dct _ _ => some "dict"
  | .ref n => match S[n]? with
    | some (.dct _ _) => some "dict"
    | some (MO.lst _) => some "list"
    | _ => none
  | _ => none
def isiB (S : Sto) (d : MV) (t : String) : Option Bool := match tyN S d with
  | some n => kitB n t
  | none => none
theorem tyN_rep {C : RC} {S : Sto} {d : MV} {v : V} {n : String} (r : RepS C S) (h : RepV C d v) (e : tyN S d = some n) : TyX C.K C.H v (.type n) := by
  cases d with
  | non => cases e; rw [vNon h]; exact .base .non
  | bl b => cases e; rw [vBl h]; exact .base (.bl b)
  | int i => cases e; rw [vInt h]; exact .base (.int i)
  | str x => cases e; rw [vStr h]; exact .base (.str x)
  | tup xs =>
    cases e
    rw [RepV] at h
    obtain ⟨a, vs, rfl, q, t⟩ := h
    rcases q with (q | ⟨o, q⟩) | ⟨o, its, n, q1, q2, _⟩
    · exact .base (.tup q)
    · exact .fTuple q
    · exact .kTuple q1 q2
  | lst xs =>
    cases e
    rw [RepV] at h
    obtain ⟨a, vs, rfl, _, q, t⟩ := h
    exact .base (.lst q)
  | dct ks ds =>
    cases e
    rw [RepV] at h
    obtain ⟨a, vs, rfl, _, q, _⟩ := h
    rcases q with q | ⟨o, q⟩
    · exact .base (.dK q)
    · exact .fDict q
  | ref k =>
    rw [RepV] at h
    obtain ⟨a, rfl, q⟩ := h
    rw [tyN] at e
    cases es : S[k]? with
    | none => rw [es] at e; cases e
    | some o =>
      rw [es] at e
      cases o with
      | lst xs => cases e; obtain ⟨vs, h1, _⟩ := r.ob k _ a es q; exact .base (.lst h1)
      | dct ks ds => cases e; obtain ⟨vs, h1, _⟩ := r.ob k _ a es q; exact .base (.dK h1)
      | _ => cases e
  | _ => cases e
def isiM (t : String) : List MV → Sto → R MV
  | [d], S => match isiB S d t with
    | some b => .ok (.bl b) S
    | none => .stk
  | _, _ => .stk
end
end Mi
set_option Elab.async false
set_option linter.all false
set_option maxRecDepth 100000
set_option maxHeartbeats 2000000
namespace Mi
open PySem PySem.Spec PyProof.Rows L2
abbrev ME := Ev → Sto → R MV
abbrev MT := Ev → Sto → R Bool
abbrev MA := Ev → Sto → R (List MV)
abbrev SE (X : Cx) (W : WX) (e : Expr) (m : ME) : Prop := PE X e (tE X W m)
abbrev ST (X : Cx) (W : WX) (e : Expr) (m : MT) : Prop := PT X e (tT X W m)
abbrev SW (X : Cx) (W : WX) (e : Expr) (m : MT) : Prop := PW X e (tT X W m)
abbrev SA (X : Cx) (W : WX) (es : List Expr) (m : MA) : Prop := PA X es (tA X W m)
def mVar (i : Nat) : ME := fun ρ S => match ρ[i]? with
  | some (some d) => .ok d S
  | _ => .stk
def mC (d : MV) : ME := fun _ S => .ok d S
def mOp (f : MV → MV → Sto → R MV) (a b : ME) : ME := fun ρ S => (a ρ S).bind fun x S1 => (b ρ S1).bind fun y S2 => f x y S2
def toB (d : MV) (S : Sto) : R Bool := match d with
  | .bl b => .ok b S
  | _ => .stk
def mTest (a : ME) : MT := fun ρ S => (a ρ S).bind toB
def mNot (a : MT) : MT := fun ρ S => (a ρ S).bind fun b S1 => .ok (!b) S1
def mOr (a b : MT) : MT := fun ρ S => (a ρ S).bind fun x S1 => if x then .ok true S1 else b ρ S1
def mAndV (a b : ME) : ME := fun ρ S => (mTest a ρ S).bind fun x S1 => if x then b ρ S1 else .ok (.bl false) S1
def mIf (c : MT) (a b : ME) : ME := fun ρ S => (c ρ S).bind fun x S1 => if x then a ρ S1 else b ρ S1
def mNil : MA := fun _ S => .ok [] S
def mCons (a : ME) (r : MA) : MA := fun ρ S => (a ρ S).bind fun x S1 => (r ρ S1).bind fun xs S2 => .ok (x :: xs) S2
def mTup (a : MA) : ME := fun ρ S => (a ρ S).bind fun xs S1 => .ok (.tup xs) S1
def mLst (a : MA) : ME := fun ρ S => (a ρ S).bind fun xs S1 => .ok (.lst xs) S1
def mCell (a : MA) : ME := fun ρ S => (a ρ S).bind fun xs S1 => .ok (.ref S1.length) (S1 ++ [.lst xs])
def mCallF (f : List MV → Sto → R MV) (a : MA) : ME := fun ρ S => (a ρ S).bind f
section
variable {X : Cx} {W : WX} {a b c e : Expr} {es : List Expr} {ma mb mc : ME} {mt mu : MT} {mas : MA} {pos : Pos}
theorem se_var {i : Nat} {x : Str} (hN : X.N[i]? = some x) (hv : Vis X.env.scope x) (hd : (x == ("__debug__" : Str)) = false := by decide) (hcd : (x == ("__classdict__" : Str)) = false := by decide) : SE X W (.Name x pos) (mVar i) :=
  (pe_var hN hv hd hcd).imp fun σ H Q ⟨C, ρ, S, e, s, q⟩ => by
    subst e
    unfold mVar at q
    split at q
    · rename_i d hd
      obtain ⟨v, e1, r⟩ := s.ev i d hd
      exact ⟨v, e1, q.now s.rs v r⟩
    · exact q.elim
theorem se_c {v : V} {d : MV} (h : PE X e (tC v)) (r : ∀ C : RC, C.K = X.K → RepV C d v) : SE X W e (mC d) :=
  h.imp fun σ H Q ⟨C, ρ, S, e, s, q⟩ => by
    subst e
    exact q.now s.rs v (r C s.K)
theorem se_int {i : Int} {j} : SE X W (.Constant (.int i) j pos) (mC (.int i)) := se_c pe_int fun _ _ => repI i
theorem se_bl {i : Bool} {j} : SE X W (.Constant (.bool i) j pos) (mC (.bl i)) := se_c pe_bl fun _ _ => repB i
theorem se_str {i : Str} {j} : SE X W (.Constant (.str i) j pos) (mC (.str i)) := se_c pe_str fun _ _ => repS i
theorem se_non {j} : SE X W (.Constant .none j pos) (mC .non) := se_c pe_non fun _ _ => repN
/-- a module's constant -/
theorem se_glob {x : Str} {v : V} {u : Value} {d : MV} (hg : Gl X x) (hm : X.mg x = some u) (r : RelV v u) (q : ∀ C : RC, C.K = X.K → RepV C d v) (hd : (x == ("__debug__" : Str)) = false := by decide) : SE X W (.Name x pos) (mC d) :=
  se_c (pe_glob hg hm r hd) q
/-- a two-place reading over two subreadings -/
theorem op_imp {f : MV → MV → Sto → R MV} {σ : L2.St} {H : Hp} {Q : VK} (hf : ∀ d1 d2 S c d S', f d1 d2 S ≠ .exc c d S') (h : tE X W (mOp f ma mb) σ H Q) : tOp (rOf X f) (tE X W ma) (tE X W mb) σ H Q := by
  obtain ⟨C, ρ, S, e, s, q⟩ := h
  subst e
  refine tE.bind s q fun d1 S1 C1 v1 s1 g1 r1 q1 => ?_
  refine tE.bind s1 q1 fun d2 S2 C2 v2 s2 g2 r2 q2 => ?_
  refine ⟨C2, S2, d1, d2, rfl, s2.w, s2.K, s2.rs, r1.grow g2 s1.rs, r2, ?_⟩
  cases e : f d1 d2 S2 with
  | ok a S' =>
    rw [e] at q2
    exact ⟨a, S', rfl, q2⟩
  | exc c d S' => exact absurd e (hf _ _ _ _ _ _)
  | stk => rw [e] at q2; exact q2.elim
/-- no exception -/
def Pure2 (f : MV → MV → Sto → R MV) : Prop := ∀ d1 d2 S c d S', f d1 d2 S ≠ .exc c d S'
theorem se_op {op : Operator} {f : MV → MV → Sto → R MV} (ho : OpR X (binaryOp op) (rOf X f)) (hf : Pure2 f) (ha : SE X W a ma) (hb : SE X W b mb) : SE X W (.BinOp a op b pos) (mOp f ma mb) :=
  (pe_op ho ha hb).imp fun σ H Q h => op_imp hf h
theorem se_cmp {op : CmpOp} {f : MV → MV → Sto → R MV} (ho : OpR X (compareOp op) (rOf X f)) (hf : Pure2 f) (hm : behindInMarks op b = false) (ha : SE X W a ma) (hb : SE X W b mb) : SE X W (.Compare a [op] [b] pos) (mOp f ma mb) :=
  (pe_cmpR ho ha hb hm).imp fun σ H Q h => op_imp hf h
/-- a test by its value -/
theorem tTest_imp {t : TE} {m : ME} (k : ∀ σ H Q, tE X W m σ H Q → t σ H Q) : ∀ σ H Q, tT X W (mTest m) σ H Q → tTest t σ H Q := fun σ H Q h => by
  obtain ⟨C, ρ, S, e, s, q⟩ := h
  subst e
  refine k σ C.H _ (tE.bind s q fun d1 S1 C1 v1 s1 g1 r1 q1 => ?_)
  unfold toB at q1
  split at q1
  · exact ⟨_, vBl r1, q1.now s1.rs⟩
  · exact q1.elim
theorem st_cmp {op : CmpOp} {f : MV → MV → Sto → R MV} (ho : OpR X (compareOp op) (rOf X f)) (hf : Pure2 f) (hm : behindInMarks op b = false) (ha : SE X W a ma) (hb : SE X W b mb) : ST X W (.Compare a [op] [b] pos) (mTest (mOp f ma mb)) :=
  (pt_cmpR ho ha hb hm).imp (tTest_imp fun σ H Q h => op_imp hf h)
theorem st_val (h : SE X W e ma) (he : ∀ whole, isTrue e X.env whole = (do let v ← whole; standAt e.pos; holding [v] (truthy v)) := by intro _; rfl) : ST X W e (mTest ma) :=
  (pt_val h he).imp (tTest_imp fun σ H Q h => h)
theorem st_not (ha : ST X W a mt) : ST X W (.UnaryOp .Not a pos) (mNot mt) :=
  (pt_not ha).imp fun σ H Q ⟨C, ρ, S, e, s, q⟩ => by
    subst e
    exact tT.bind s q fun d S1 C1 s1 g1 q1 => q1.now s1.rs
variable {rest : List Expr}
theorem sw_or1 (ha : ST X W a mt) : SW X W (.BoolOp .Or [a] pos) mt := pw_or1 ha
theorem sw_or (ha : ST X W a mt) (hb : SW X W (.BoolOp .Or (b :: rest) pos) mu) : SW X W (.BoolOp .Or (a :: b :: rest) pos) (mOr mt mu) :=
  (pw_or ha hb).imp fun σ H Q ⟨C, ρ, S, e, s, q⟩ => by
    subst e
    refine tT.bind s q fun d S1 C1 s1 g1 q1 => ?_
    cases d with
    | false => rw [if_neg (by decide)] at q1 ⊢; exact ⟨C1, ρ, S1, rfl, s1, q1⟩
    | true => rw [if_pos rfl] at q1 ⊢; exact q1.now s1.rs
theorem st_w (h : SW X W e mt) : ST X W e mt := h.pt
theorem se_one {op} (h : SE X W a ma) : SE X W (.BoolOp op [a] pos) ma := pe_one h
theorem tB_step {C : RC} {ρ : Ev} {S : Sto} {σ : L2.St} {β : Type} {f : Bool → Sto → R β} {Q : β → Sto → RC → Prop} {Q1 : VK} (s : Sv X ρ σ S C) (h : Wants W σ C ((mTest ma ρ S).bind f) Q)
    (k : ∀ b S1 C1, Sv X ρ σ S1 C1 → Grow C C1 → Wants W σ C1 (f b S1) Q → Q1 (.bl b) C1.H) : tE X W ma σ C.H Q1 := by
  have h' : Wants W σ C ((ma ρ S).bind fun d S1 => (toB d S1).bind f) Q := by
    unfold mTest at h
    cases e : ma ρ S with
    | ok a S' => rw [e] at h; exact h
    | exc c d S' => rw [e] at h; exact h
    | stk => rw [e] at h; exact h
  refine tE.bind s h' fun d S1 C1 v s1 g r q => ?_
  unfold toB at q
  split at q
  · rw [vBl r]
    exact k _ S1 C1 s1 g q
  · exact q.elim
theorem se_and (ha : SE X W a ma) (hb : SE X W (.BoolOp .And (b :: rest) pos) mb) : SE X W (.BoolOp .And (a :: b :: rest) pos) (mAndV ma mb) :=
  (pe_and ha hb).imp fun σ H Q ⟨C, ρ, S, e, s, q⟩ => by
    subst e
    refine tB_step s q fun d S1 C1 s1 g1 q1 => ⟨d, rfl, ?_⟩
    cases d with
    | true => rw [if_pos rfl] at q1 ⊢; exact ⟨C1, ρ, S1, rfl, s1, q1⟩
    | false => rw [if_neg (by decide)] at q1 ⊢; exact q1.now s1.rs _ (repB _)
theorem se_if (hc : ST X W c mt) (ha : SE X W a ma) (hb : SE X W b mb) : SE X W (.IfExp c a b pos) (mIf mt ma mb) :=
  (pe_ifExp hc ha hb).imp fun σ H Q ⟨C, ρ, S, e, s, q⟩ => by
    subst e
    refine tT.bind s q fun d S1 C1 s1 g1 q1 => ?_
    cases d with
    | true => rw [if_pos rfl] at q1 ⊢; exact ⟨C1, ρ, S1, rfl, s1, q1⟩
    | false => rw [if_neg (by decide)] at q1 ⊢; exact ⟨C1, ρ, S1, rfl, s1, q1⟩
theorem sa_nil : SA X W [] mNil := pa_nil.imp fun σ H Q ⟨C, ρ, S, e, s, q⟩ => by
  subst e
  exact q.now s.rs [] .nil
theorem sa_cons (ha : SE X W e ma) (hr : SA X W es mas) (hs : starEach (e :: es) X.env = (false, eval e X.env) :: starEach es X.env := by rfl) : SA X W (e :: es) (mCons ma mas) :=
  (pa_cons ha hr hs).imp fun σ H Q ⟨C, ρ, S, e, s, q⟩ => by
    subst e
    refine tE.bind s q fun d1 S1 C1 v1 s1 g1 r1 q1 => ?_
    refine tA.bind s1 q1 fun d2 S2 C2 v2 s2 g2 r2 q2 => ?_
    exact q2.now s2.rs _ (.cons (r1.grow g2 s1.rs) r2)
/-- how many -/
def LenA (m : MA) (n : Nat) : Prop := ∀ ρ S ds S', m ρ S = .ok ds S' → ds.length = n
theorem lenNil : LenA mNil 0 := fun ρ S ds S' e => by cases e; rfl
theorem R.bind_ok' {α β : Type} {r : R α} {f : α → Sto → R β} {b : β} {S' : Sto} (h : r.bind f = .ok b S') : ∃ a S1, r = .ok a S1 ∧ f a S1 = .ok b S' := by
  cases r with
  | ok a S => exact ⟨a, S, rfl, h⟩
  | exc c d S => cases h
  | stk => cases h
theorem lenCons {n : Nat} (h : LenA mas n) : LenA (mCons ma mas) (n + 1) := fun ρ S ds S' e => by
  obtain ⟨x, S1, _, e⟩ := R.bind_ok' e
  obtain ⟨xs, S2, e2, e⟩ := R.bind_ok' e
  cases e
  rw [List.length_cons, h _ _ _ _ e2]
theorem se_tup {x1} {n : Nat} (h : SA X W es mas) (hl : LenA mas n) (hn : n ≤ 1000) : SE X W (.Tuple es x1 pos) (mTup mas) :=
  (pe_tup h).imp fun σ H Q ⟨C, ρ, S, e, s, q⟩ => by
    subst e
    refine ⟨C, ρ, S, rfl, s, ?_⟩
    refine Wants.mono (Wants.bind q) fun ds S1 C1 g r1 e1 q1 vs rv => ?_
    have hn' : vs.length ≤ sizeLine := by rw [← rv.length, hl _ _ _ _ e1, sizeLine_eq]; omega
    exact ⟨hn', newTup r1 rv fun C' g' r' v rv' => q1.1.here g' r' v rv'⟩
theorem se_lst {n : Nat} (h : SA X W es mas) (hl : LenA mas n) (hn : n ≤ 1000) : SE X W (.List es pos) (mLst mas) :=
  (pe_lst h).imp fun σ H Q ⟨C, ρ, S, e, s, q⟩ => by
    subst e
    refine ⟨C, ρ, S, rfl, s, ?_⟩
    refine Wants.mono (Wants.bind q) fun ds S1 C1 g r1 e1 q1 vs rv => ?_
    have hn' : vs.length ≤ sizeLine := by rw [← rv.length, hl _ _ _ _ e1, sizeLine_eq]; omega
    exact ⟨hn', newLst r1 rv fun C' g' r' v rv' => q1.1.here g' r' v rv'⟩
theorem se_cell {n : Nat} (h : SA X W es mas) (hl : LenA mas n) (hn : n ≤ 1000) : SE X W (.List es pos) (mCell mas) :=
  (pe_lst h).imp fun σ H Q ⟨C, ρ, S, e, s, q⟩ => by
    subst e
    refine ⟨C, ρ, S, rfl, s, ?_⟩
    refine Wants.mono (Wants.bind q) fun ds S1 C1 g r1 e1 q1 vs rv => ?_
    have hn' : vs.length ≤ sizeLine := by rw [← rv.length, hl _ _ _ _ e1, sizeLine_eq]; omega
    exact ⟨hn', newCell r1 rv fun C' g' r' v rv' => q1.1.here g' r' v rv'⟩
theorem se_ix (hu : X.A.units + 1 < cLine) (hs : PlainIx b) (ha : SE X W a ma) (hb : SE X W b mb) (hf : Pure2 idxM) : SE X W (.Subscript a b pos) (mOp idxM ma mb) :=
  (pe_ix (ixM hu) ha hb hs).imp fun σ H Q h => op_imp hf h
theorem cf_imp {f : List MV → Sto → R MV} {σ : L2.St} {H : Hp} {Q : VK} (hf : ∀ ds S c d S', f ds S ≠ .exc c d S') (h : tE X W (mCallF f mas) σ H Q) : tCB (rCf X f) (tA X W mas) σ H Q := by
  obtain ⟨C, ρ, S, e, s, q⟩ := h
  subst e
  refine tA.bind s q fun ds S1 C1 vs s1 g1 r1 q1 => ?_
  refine ⟨C1, S1, ds, rfl, s1.w, s1.K, s1.rs, r1, ?_⟩
  cases e : f ds S1 with
  | ok a S' =>
    rw [e] at q1
    exact ⟨a, S', rfl, q1⟩
  | exc c d S' => exact absurd e (hf _ _ _ _ _)
  | stk => rw [e] at q1; exact q1.elim
def Pure1 (f : List MV → Sto → R MV) : Prop := ∀ ds S c d S', f ds S ≠ .exc c d S'
theorem se_callB {x : Str} {id : String} {p : Pos} {f : List MV → Sto → R MV} (hc : CallR X (.builtin id) (rCf X f)) (hf : Pure1 f) (hg : Gl X x) (hm : X.mg x = none) (hv : bootBuiltins x = some (.builtin id)) (ha : SA X W (e :: es) mas) (hn : x ≠ "__name__" := by decide) (hdb : (x == ("__debug__" : Str)) = false := by decide)
    (he : starEach (e :: es) X.env = (false, eval e X.env) :: starEach es X.env := by rfl) (hpl : (backTo pos (starEach es X.env)).any (·.1) = false := by rfl) : SE X W (.Call (.Name x p) (e :: es) [] pos) (mCallF f mas) :=
  (pe_callB hc hg hm hv ha hn hdb he hpl).imp fun σ H Q h => cf_imp hf h
theorem se_callTy {x : Str} {id : String} {p : Pos} {f : List MV → Sto → R MV} (hc : CallR X (.type id) (rCf X f)) (hf : Pure1 f) (hg : Gl X x) (hm : X.mg x = none) (hv : bootBuiltins x = some (.type id)) (ha : SA X W (e :: es) mas) (hn : x ≠ "__name__" := by decide) (hdb : (x == ("__debug__" : Str)) = false := by decide)
    (he : starEach (e :: es) X.env = (false, eval e X.env) :: starEach es X.env := by rfl) (hpl : (backTo pos (starEach es X.env)).any (·.1) = false := by rfl) : SE X W (.Call (.Name x p) (e :: es) [] pos) (mCallF f mas) :=
  (pe_callTy hc hg hm hv ha hn hdb he hpl).imp fun σ H Q h => cf_imp hf h
end
theorem pu_add : Pure2 addM := by
  intro a b S c d S' h
  unfold addM at h
  split at h
  · cases h
  · split at h <;> cases h
  · split at h <;> cases h
  · unfold addL at h
    split at h
    · split at h <;> cases h
    · cases h
theorem pu_mod : Pure2 modM := by intro a b S c d S' h; unfold modM at h; split at h; (split at h <;> cases h); cases h
theorem pu_fdiv : Pure2 fdivM := by intro a b S c d S' h; unfold fdivM at h; split at h; (split at h <;> cases h); cases h
theorem pu_pow : Pure2 powM := by intro a b S c d S' h; unfold powM at h; split at h; (split at h <;> cases h); cases h
theorem pu_mul : Pure2 mulM := by
  intro a b S c d S' h
  unfold mulM at h
  split at h
  all_goals first
    | (cases h; done)
    | (split at h <;> first | (cases h; done) | (split at h <;> cases h; done))
theorem pu_eq : Pure2 eqM := by intro a b S c d S' h; unfold eqM at h; split at h <;> cases h
theorem pu_ne : Pure2 neM := by intro a b S c d S' h; unfold neM at h; split at h <;> cases h
theorem pu_is : Pure2 isM := by intro a b S c d S' h; unfold isM at h; split at h <;> cases h
theorem pu_nin : Pure2 ninM := by intro a b S c d S' h; unfold ninM at h; split at h <;> cases h
theorem pu_cmpI {f : Int → Int → Bool} : Pure2 (cmpI f) := by intro a b S c d S' h; unfold cmpI at h; split at h <;> cases h
theorem pu_ix : Pure2 idxM := by
  intro a b S c d S' h
  unfold idxM at h
  split at h
  · split at h
    · split at h <;> first | (cases h; done) | (split at h <;> cases h; done)
    · cases h
  · unfold idxD at h
    split at h
    · split at h <;> cases h
    · cases h
end Mi
set_option Elab.async false
set_option linter.all false
set_option maxRecDepth 100000
set_option maxHeartbeats 2000000
namespace Mi
open PySem PySem.Spec PyProof.Rows L2
inductive RS where
  | nx (ρ : Ev) (S : Sto)
  | rt (d : MV) (S : Sto)
  | exc (c : Str) (d : MV) (ρ : Ev) (S : Sto)
  | stk
abbrev MS := Ev → Sto → RS
def WantS (W : WX) (D : Ends) (C : RC) : RS → Prop
  | .nx ρ S => ∀ C' σ', Grow C C' → RepS C' S → EnvR C' ρ σ' → ρ.length = σ'.length → D.nx σ' C'.H
  | .rt d S => ∀ C' v, Grow C C' → RepS C' S → RepV C' d v → D.rt v C'.H
  | .exc c d ρ S => ∀ C' σ' cls dx, Grow C C' → RepS C' S → EnvR C' ρ σ' → ρ.length = σ'.length → ExcR C' c d cls dx → W cls dx σ' C'.H
  | .stk => False
def tS (X : Cx) (W : WX) (m : MS) : TS := fun D σ H => ∃ C ρ S, C.H = H ∧ Sv X ρ σ S C ∧ WantS W D C (m ρ S)
abbrev SS (X : Cx) (W : WX) (st : Stmt) (m : MS) : Prop := PS X st (tS X W m)
abbrev SSs (X : Cx) (W : WX) (st : List Stmt) (m : MS) : Prop := PSs X st (tS X W m)
theorem WantS.grow {W : WX} {D : Ends} {C C1 : RC} {r : RS} (h : WantS W D C r) (g : Grow C C1) : WantS W D C1 r := by
  cases r with
  | nx ρ S => exact fun C' σ' g' r' e l => h C' σ' (g.trans g') r' e l
  | rt d S => exact fun C' v g' r' e => h C' v (g.trans g') r' e
  | exc c d ρ S => exact fun C' σ' cls dx g' r' e l x => h C' σ' cls dx (g.trans g') r' e l x
  | stk => exact h
def R.thn {α : Type} (r : R α) (ρ : Ev) (k : α → Sto → RS) : RS := match r with
  | .ok a S => k a S
  | .exc c d S => .exc c d ρ S
  | .stk => .stk
@[simp] theorem R.thn_ok {α : Type} (a : α) (S : Sto) (ρ : Ev) (f : α → Sto → RS) : (R.ok a S).thn ρ f = f a S := rfl
@[simp] theorem R.thn_exc {α : Type} (c : Str) (d : MV) (S : Sto) (ρ : Ev) (f : α → Sto → RS) : (R.exc c d S : R α).thn ρ f = .exc c d ρ S := rfl
@[simp] theorem R.thn_stk {α : Type} (ρ : Ev) (f : α → Sto → RS) : (R.stk : R α).thn ρ f = .stk := rfl
theorem WantS.thn {α : Type} {X : Cx} {W : WX} {D : Ends} {C : RC} {ρ : Ev} {σ : L2.St} {S : Sto} {r : R α} {k : α → Sto → RS} (s : Sv X ρ σ S C) (h : WantS W D C (r.thn ρ k)) :
    Wants W σ C r (fun a S1 C1 => WantS W D C1 (k a S1) ∧ Grow C C1) := by
  cases r with
  | ok a S' => exact fun C1 g r1 => ⟨WantS.grow h g, g⟩
  | exc c d S' => exact fun C1 cls dx g r1 e => h C1 σ cls dx g r1 (s.ev.grow g s.rs) s.ln e
  | stk => exact h
section
variable {X : Cx} {W : WX} {D : Ends} {σ : L2.St} {C : RC} {ρ : Ev} {S : Sto}
theorem tE.thn {m : ME} {k : MV → Sto → RS} {Q1 : VK} (s : Sv X ρ σ S C) (h : WantS W D C ((m ρ S).thn ρ k))
    (z : ∀ d S1 C1 v, Sv X ρ σ S1 C1 → Grow C C1 → RepV C1 d v → WantS W D C1 (k d S1) → Q1 v C1.H) : tE X W m σ C.H Q1 :=
  ⟨C, ρ, S, rfl, s, (WantS.thn s h).mono fun d S1 C1 g r _ q v hv => z d S1 C1 v (s.grow g r) g hv q.1⟩
theorem tT.thn {m : MT} {k : Bool → Sto → RS} {Q1 : Bool → Hp → Prop} (s : Sv X ρ σ S C) (h : WantS W D C ((m ρ S).thn ρ k))
    (z : ∀ d S1 C1, Sv X ρ σ S1 C1 → Grow C C1 → WantS W D C1 (k d S1) → Q1 d C1.H) : tT X W m σ C.H Q1 :=
  ⟨C, ρ, S, rfl, s, (WantS.thn s h).mono fun d S1 C1 g r _ q => z d S1 C1 (s.grow g r) g q.1⟩
end
def mNext : MS := fun ρ S => .nx ρ S
def mSeq (a b : MS) : MS := fun ρ S => match a ρ S with
  | .nx ρ1 S1 => b ρ1 S1
  | r => r
def mIfS (c : MT) (a b : MS) : MS := fun ρ S => (c ρ S).thn ρ fun x S1 => if x then a ρ S1 else b ρ S1
def mRet (e : ME) : MS := fun ρ S => (e ρ S).thn ρ fun d S1 => .rt d S1
def mDrop (e : ME) : MS := fun ρ S => (e ρ S).thn ρ fun _ S1 => .nx ρ S1
/-- targets -/
structure Tg where
  f : MV → Ev → Option Ev
  ix : List Nat
structure Tgs where
  f : List MV → Ev → Option Ev
  ix : List Nat
  n : Nat
def oS (o : Option Ev) (S : Sto) : RS := match o with
  | some ρ => .nx ρ S
  | none => .stk
def mAsg (e : ME) (g : Tg) : MS := fun ρ S => (e ρ S).thn ρ fun d S1 => oS (g.f d ρ) S1
def tgName (i : Nat) : Tg := ⟨fun d ρ => some (ρ.set i (some d)), [i]⟩
def tgNil : Tgs := ⟨fun ds ρ => match ds with
  | [] => some ρ
  | _ => none, [], 0⟩
def tgCons (t : Tg) (u : Tgs) : Tgs := ⟨fun ds ρ => match ds with
  | d :: r => (t.f d ρ).bind (u.f r)
  | [] => none, t.ix ++ u.ix, u.n + 1⟩
def tgTup (u : Tgs) : Tg := ⟨fun d ρ => match d with
  | .tup xs => if xs.length = u.n then u.f xs ρ else none
  | _ => none, u.ix⟩
def tG (X : Cx) (t : Tg) : TG := fun v σ H Q => ∃ C ρ S d ρ', C.H = H ∧ Sv X ρ σ S C ∧ RepV C d v ∧ t.f d ρ = some ρ' ∧ ∀ σ', EnvR C ρ' σ' → ρ'.length = σ'.length → σ'.length = σ.length → (∀ vs, (∀ i ∈ t.ix, i ∈ vs) → wipe σ' vs = wipe σ vs) → Q σ' H
def tGs (X : Cx) (t : Tgs) : TGs := fun vs σ H Q => ∃ C ρ S ds ρ', C.H = H ∧ Sv X ρ σ S C ∧ RepVs C ds vs ∧ t.f ds ρ = some ρ' ∧ ∀ σ', EnvR C ρ' σ' → ρ'.length = σ'.length → σ'.length = σ.length → (∀ vs, (∀ i ∈ t.ix, i ∈ vs) → wipe σ' vs = wipe σ vs) → Q σ' H
theorem _root_.L2.PG.imp {X : Cx} {tg : Expr} {t t' : TG} (h : PG X tg t) (k : ∀ v σ H Q, t' v σ H Q → t v σ H Q) : PG X tg t' := ⟨fun pins s σ H v u Q I r q => h.run pins s σ H v u Q I r (k v σ H Q q)⟩
theorem _root_.L2.PGs.imp {X : Cx} {tg : List Expr} {t t' : TGs} (h : PGs X tg t) (k : ∀ v σ H Q, t' v σ H Q → t v σ H Q) : PGs X tg t' := ⟨fun pins s σ H v u Q I r q => h.run pins s σ H v u Q I r (k v σ H Q q)⟩
abbrev SG (X : Cx) (tg : Expr) (t : Tg) : Prop := PG X tg (tG X t)
abbrev SGs (X : Cx) (tg : List Expr) (t : Tgs) : Prop := PGs X tg (tGs X t)
theorem wipe_get (σ : L2.St) : ∀ (vs : List Nat) (j : Nat), (wipe σ vs)[j]? = if j ∈ vs then (σ[j]?).map (fun _ => none) else σ[j]?
  | [], j => by simp [wipe]
  | v :: vs, j => by
    unfold wipe
    by_cases hj : v = j
    · subst hj
      by_cases hl : v < (wipe σ vs).length
      · rw [List.getElem?_set_self hl]
        have : v < σ.length := by rw [wipe_length] at hl; exact hl
        simp [this]
      · rw [List.getElem?_eq_none (by simpa using hl)]
        have : ¬ v < σ.length := by rw [wipe_length] at hl; exact hl
        simp [this]
    · rw [List.getElem?_set_ne hj, wipe_get σ vs j]
      have : (j ∈ v :: vs) ↔ j ∈ vs := by simp [Ne.symm hj]
      simp only [this]
theorem wipe_set (σ : L2.St) (i : Nat) (x : Option V) (vs : List Nat) (h : i ∈ vs) : wipe (σ.set i x) vs = wipe σ vs := by
  apply List.ext_getElem?; intro j
  rw [wipe_get, wipe_get]
  by_cases hj : j ∈ vs
  · rw [if_pos hj, if_pos hj]
    by_cases e : i = j
    · subst e
      by_cases hl : i < σ.length
      · simp [hl]
      · simp [hl]
    · rw [List.getElem?_set_ne e]
  · rw [if_neg hj, if_neg hj, List.getElem?_set_ne (fun e => hj (by rw [← e]; exact h))]
theorem wipe_wipe (σ : L2.St) (vs : List Nat) : wipe (wipe σ vs) vs = wipe σ vs := by
  apply List.ext_getElem?; intro j
  rw [wipe_get, wipe_get]
  by_cases hj : j ∈ vs
  · rw [if_pos hj, if_pos hj]
    cases σ[j]? <;> rfl
  · rw [if_neg hj, if_neg hj]
section
variable {X : Cx} {W : WX} {a b c e : Expr} {es : List Expr} {me : ME} {mt : MT} {pos : Pos} {st : Stmt} {sts sts' : List Stmt} {m m1 m2 : MS}
theorem sg_name {i : Nat} {x : Str} (hN : X.N.Nodup) (hi : X.N[i]? = some x) (hx : Loc X.env.scope x) (hf : X.fn x = true ∨ X.env.scope.names.lookup x = some .local := by first | exact .inl rfl | exact .inr rfl | assumption) : SG X (.Name x pos) (tgName i) :=
  (pg_name hN hi hx hf).imp fun v σ H Q ⟨C, ρ, S, d, ρ', e, s, r, e1, q⟩ => by
    subst e
    have e1 : some (ρ.set i (some d)) = some ρ' := e1
    cases e1
    exact q _ (s.ev.set s.ln r) (by simp [s.ln]) (by simp) fun vs h => wipe_set σ i _ vs (h i (by simp [tgName]))
theorem sgs_nil : SGs X [] tgNil := pgs_nil.imp fun v σ H Q ⟨C, ρ, S, d, ρ', e, s, r, e1, q⟩ => by
  subst e
  cases d with
  | nil =>
    have e1 : some ρ = some ρ' := e1
    cases e1
    rw [r.nil_inv]
    exact ⟨rfl, q σ s.ev s.ln rfl fun _ _ => rfl⟩
  | cons x xs => cases e1
theorem sgs_cons {t : Tg} {u : Tgs} (h1 : SG X e t) (h2 : SGs X es u) (hs : (assignEach (e :: es) X.env).map (·.2) = assign e X.env :: (assignEach es X.env).map (·.2) := by rfl) : SGs X (e :: es) (tgCons t u) :=
  (pgs_cons h1 h2 hs).imp fun v σ H Q ⟨C, ρ, S, d, ρ', e, s, r, e1, q⟩ => by
    subst e
    cases d with
    | nil => cases e1
    | cons x xs =>
      obtain ⟨v1, vr, rfl, r1, r2⟩ := r.cons_inv
      have e1 : (t.f x ρ).bind (u.f xs) = some ρ' := e1
      cases e2 : t.f x ρ with
      | none => rw [e2] at e1; cases e1
      | some ρ1 =>
        rw [e2] at e1
        have e1 : u.f xs ρ1 = some ρ' := e1
        refine ⟨v1, vr, rfl, C, ρ, S, x, ρ1, rfl, s, r1, e2, fun σ1 ev1 l1 l1' w1 => ?_⟩
        refine ⟨C, ρ1, S, xs, ρ', rfl, ⟨s.w, s.K, s.rs, ev1, l1⟩, r2, e1, fun σ2 ev2 l2 l2' w2 => q σ2 ev2 l2 (l2'.trans l1') fun vs hv => ?_⟩
        rw [w2 vs fun i hi => hv i (List.mem_append_right _ hi), w1 vs fun i hi => hv i (List.mem_append_left _ hi)]
theorem sg_tup {k : Nat} {u : Tgs} (hc : X.calm = true) (h : SGs X es u) (hn : (assignEach es X.env).length = u.n := by rfl) (hst : (assignEach es X.env).findIdx? (·.1) = none := by rfl) : SG X (.Tuple es k pos) (tgTup u) :=
  (pg_tup hc h hn hst).imp fun v σ H Q ⟨C, ρ, S, d, ρ', e, s, r, e1, q⟩ => by
    subst e
    cases d with
    | tup xs =>
      have e1 : (if xs.length = u.n then u.f xs ρ else none) = some ρ' := e1
      split at e1
      · rename_i hl
        rw [RepV] at r
        obtain ⟨p, vs, rfl, sq, t⟩ := r
        rw [s.K] at sq
        exact ⟨p, vs, rfl, sq, by rw [← t.length, hl], C, ρ, S, xs, ρ', rfl, s, t, e1, q⟩
      · cases e1
    | _ => cases e1
theorem ss_set {i : Nat} {x : Str} {pos' : Pos} (hN : X.N.Nodup) (hi : X.N[i]? = some x) (hx : Loc X.env.scope x) (he : SE X W e me) (hs : swapsWith e (some (.Name x pos')) pos.line X.env = pure false := by rfl) (hf : X.fn x = true ∨ X.env.scope.names.lookup x = some .local := by first | exact .inl rfl | exact .inr rfl | assumption) :
    SS X W (.Assign [.Name x pos'] e pos) (mAsg me (tgName i)) :=
  (ps_set hN hi hx he hs hf).imp fun D σ H ⟨C, ρ, S, e, s, q⟩ => by
    subst e
    refine tE.thn s q fun d S1 C1 v s1 g1 r1 q1 => ?_
    exact q1 C1 _ Grow.refl s1.rs (s1.ev.set s1.ln r1) (by simp [s1.ln])
theorem sss_nil : SSs X W [] mNext := pss_nil.imp fun D σ H ⟨C, ρ, S, e, s, q⟩ => by
  subst e
  exact q C σ Grow.refl s.rs s.ev s.ln
theorem sss_cons (h1 : SS X W st m1) (h2 : SSs X W sts m2) : SSs X W (st :: sts) (mSeq m1 m2) :=
  (pss_cons h1 h2).imp fun D σ H ⟨C, ρ, S, e, s, q⟩ => by
    subst e
    refine ⟨C, ρ, S, rfl, s, ?_⟩
    unfold mSeq at q
    cases e : m1 ρ S with
    | nx ρ1 S1 =>
      rw [e] at q
      exact fun C' σ' g r ev l => ⟨C', ρ1, S1, rfl, ⟨g.w.trans s.w, g.K.trans s.K, r, ev, l⟩, q.grow g⟩
    | rt d S1 => rw [e] at q; exact q
    | exc c d ρ1 S1 => rw [e] at q; exact q
    | stk => rw [e] at q; exact q
theorem sss_one (h1 : SS X W st m1) : SSs X W [st] m1 := pss_one h1
theorem ss_if (hc : ST X W c mt) (ha : SSs X W sts m1) (hb : SSs X W sts' m2) : SS X W (.If c sts sts' pos) (mIfS mt m1 m2) :=
  (ps_if hc ha hb).imp fun D σ H ⟨C, ρ, S, e, s, q⟩ => by
    subst e
    refine tT.thn s q fun d S1 C1 s1 g1 q1 => ?_
    cases d with
    | true => rw [if_pos rfl] at q1 ⊢; exact ⟨C1, ρ, S1, rfl, s1, q1⟩
    | false => rw [if_neg (by decide)] at q1 ⊢; exact ⟨C1, ρ, S1, rfl, s1, q1⟩
theorem ss_ret (he : SE X W e me) : SS X W (.Return (some e) pos) (mRet me) :=
  (ps_ret he).imp fun D σ H ⟨C, ρ, S, e, s, q⟩ => by
    subst e
    exact tE.thn s q fun d S1 C1 v s1 g1 r1 q1 => q1 C1 v Grow.refl s1.rs r1
theorem ss_expr (he : SE X W e me) (hs : swapsWith e none pos.line X.env = pure false := by rfl) : SS X W (.Expr e pos) (mDrop me) :=
  (ps_expr he hs).imp fun D σ H ⟨C, ρ, S, e, s, q⟩ => by
    subst e
    exact tE.thn s q fun d S1 C1 v s1 g1 r1 q1 => q1 C1 σ Grow.refl s1.rs s1.ev s1.ln
end
abbrev MF := List MV → Sto → R MV
def spM (w : World) (K : PySem.W.Frag) (n : Nat) (m : MF) : Sp := fun vs H Q E => vs.length = n ∧ ∃ C S ds, C.H = H ∧ C.w = w ∧ C.K = K ∧ RepS C S ∧ RepVs C ds vs ∧
  Wants (fun cls dx _ H' => E cls dx H') [] C (m ds S) (fun d _ C' => ∀ v, RepV C' d v → Q v C'.H)
theorem Wants.wish {α : Type} {W W' : WX} {σ σ' : L2.St} {C : RC} {r : R α} {Q : α → Sto → RC → Prop} (h : Wants W σ C r Q) (k : ∀ cls dx H, W cls dx σ H → W' cls dx σ' H) : Wants W' σ' C r Q := by
  cases r with
  | ok a S => exact h
  | exc c d S => exact fun C' cls dx g r e => k _ _ _ (h C' cls dx g r e)
  | stk => exact h
def toR : RS → R MV
  | .nx _ S => .ok .non S
  | .rt d S => .ok d S
  | .exc c d _ S => .exc c d S
  | .stk => .stk
def ev0 (N : Nat) (ds : List MV) : Ev := ds.map some ++ List.replicate (N - ds.length) none
def mFn (N : Nat) (body : MS) : MF := fun ds S => toR (body (ev0 N ds) S)
section
variable {X : Cx} {W : WX} {e : Expr} {es : List Expr} {mas : MA} {pos p : Pos} {k : Nat} {f : Addr} {fd : FuncData} {ps : List Str} {x : Str} {m : MF}
theorem se_call {n : Nat} (F : FnOk X.prog X.w X.K X.mg X.base (L2.CX X.prog X.w) k f fd ps (spM X.w X.K n m)) (hr : Room k X.A) (hg : Gl X x) (hm : X.mg x = some (.ref f)) (hk : PySem.W.keepIn X.K (.ref f) = true) (hb : Binds X.K fd ps []) (tk : Takes X W)
    (ha : SA X W (e :: es) mas) (hl : LenA mas n) (hdb : (x == ("__debug__" : Str)) = false := by decide) (he : starEach (e :: es) X.env = (false, eval e X.env) :: starEach es X.env := by rfl) (hpl : (backTo pos (starEach es X.env)).any (·.1) = false := by rfl) :
    SE X W (.Call (.Name x p) (e :: es) [] pos) (mCallF m mas) :=
  (pe_callS (E := WE W) F hr hg hm hk hb (passAt tk) ha hdb he hpl).imp fun σ H Q ⟨C, ρ, S, e, s, q⟩ => by
    subst e
    refine ⟨C, ρ, S, rfl, s, ?_⟩
    refine Wants.mono (Wants.bind q) fun ds S1 C1 g r1 e1 q1 vs rv => ?_
    refine ⟨by rw [← rv.length]; exact hl _ _ _ _ e1, C1, S1, ds, rfl, g.w.trans s.w, g.K.trans s.K, r1, rv, ?_⟩
    exact q1.1.wish fun cls dx H h => h
theorem se_call0 (F : FnOk X.prog X.w X.K X.mg X.base (L2.CX X.prog X.w) k f fd ps (spM X.w X.K 0 m)) (hr : Room k X.A) (hg : Gl X x) (hm : X.mg x = some (.ref f)) (hk : PySem.W.keepIn X.K (.ref f) = true) (hb : Binds X.K fd ps [])
    (hpure : ∀ S c d S', m [] S ≠ .exc c d S') (hdb : (x == ("__debug__" : Str)) = false := by decide) :
    SE X W (.Call (.Name x p) [] [] pos) (mCallF m mNil) :=
  (pe_call0 (E := fun _ _ _ => False) (dvs := []) (ds := []) F hr hg hm hk hb .nil (fun pins σ H s e s' I c => by
    obtain ⟨_, _, _, _, _, _, _, _, _, _, _, _, h⟩ := c
    exact h.elim) hdb).imp fun σ H Q ⟨C, ρ, S, e, s, q⟩ => by
    subst e
    refine ⟨rfl, C, S, [], rfl, s.w, s.K, s.rs, .nil, ?_⟩
    have q : Wants W σ C (m [] S) (fun d _ C' => ∀ v, RepV C' d v → Q v C'.H) := q
    cases e : m [] S with
    | ok d S' => rw [e] at q; exact q
    | exc c d S' => exact absurd e (hpure _ _ _ _)
    | stk => rw [e] at q; exact q
end
theorem env_start {C : RC} {ds : List MV} {vs : List V} {N : List Str} (t : RepVs C ds vs) : EnvR C (ev0 N.length ds) (L2.start N vs) := fun i d e => by
  unfold ev0 at e
  by_cases hi : i < ds.length
  · rw [List.getElem?_append_left (by simpa using hi), List.getElem?_map] at e
    cases e1 : ds[i]? with
    | none => rw [e1] at e; cases e
    | some d' =>
      rw [e1] at e
      have : d' = d := by simpa using e
      subst this
      obtain ⟨v, h1, h2⟩ := t.get e1
      refine ⟨v, ?_, h2⟩
      unfold L2.start
      have hv : i < vs.length := by rw [← t.length]; exact hi
      rw [List.getElem?_append_left (by simpa using hv), List.getElem?_map, h1]
      rfl
  · rw [List.getElem?_append_right (by simpa using hi), List.getElem?_replicate] at e
    split at e <;> cases e
/-- a def's body gives its promise -/
theorem body_ok {X : Cx} {body : List Stmt} {m : MS} {N : List Str} {vs : List V} {H : Hp} {Q : VK} {E : XK} {n : Nat} (hN : n ≤ N.length) (hb : SSs X (fun cls dx _ H' => E cls dx H') body m) (hsp : spM X.w X.K n (mFn N.length m) vs H Q E) :
    ∃ t, PSs X body t ∧ t { nx := fun _ H' => Q .non H', rt := Q } (L2.start N vs) H := by
  refine ⟨_, hb, ?_⟩
  obtain ⟨hl, C, S, ds, rfl, hw, hK, r, t, q⟩ := hsp
  have hld := t.length
  refine ⟨C, ev0 N.length ds, S, rfl, ⟨hw, hK, r, env_start t, ?_⟩, ?_⟩
  · unfold ev0 L2.start
    simp [hld]
  · unfold mFn at q
    cases e : m (ev0 N.length ds) S with
    | nx ρ S1 =>
      rw [e] at q
      exact fun C' σ' g r' ev l => q C' g r' .non repN
    | rt d S1 => rw [e] at q; exact fun C' v g r' rv => q C' g r' v rv
    | exc c d ρ S1 => rw [e] at q; exact fun C' σ' cls dx g r' ev l x => q C' cls dx g r' x
    | stk => rw [e] at q; exact q
end Mi
set_option Elab.async false
set_option linter.all false
set_option maxRecDepth 100000
set_option maxHeartbeats 2000000
namespace Mi
open PySem PySem.Spec PyProof.Rows L2
def SqK (K : PySem.W.Frag) : Bool → Hp → Addr → List V → Prop
  | true, H, a, xs => SqT K H a xs
  | false, H, a, xs => SqL K H a xs
def ItK : Bool → Heap → Addr → Addr → Nat → Prop
  | true, h, it, a, i => h.IsTupleIter it a i
  | false, h, it, a, i => h.IsListIter it a i
def CoK : Bool → Heap → Addr → Array Value → Prop
  | true, h, a, its => h.IsTuple a its
  | false, h, a, its => h.IsList a its
def obK : Bool → Addr → Obj
  | true, a => { cls := .type "tuple_iterator", data := .fields #[.ref a, .int 0 0] }
  | false, a => { cls := .type "list_iterator", data := .fields #[.ref a, .int 0 0] }
theorem drawsK {prog : Program} {w : World} {A : Around} (hh : A.handled = none) (it a : Addr) (hne : a ≠ it) : ∀ (t : Bool) (items : Array Value),
    Draws prog w A it [it, a] items.size (fun i v => items[i]? = some v) (fun i h => ItK t h it a i ∧ CoK t h a items)
  | true, items => Draws.tuple hh it a hne items
  | false, items => Draws.list hh it a hne items
theorem beginsK (a : Addr) (items : Array Value) : ∀ t : Bool, Begins (.ref a) (obK t a) fun h => CoK t h a items
  | true => begins_tuple a items
  | false => begins_list a items
theorem itK_new {h : Heap} {it a : Addr} : ∀ {t : Bool}, h.get? it = some (obK t a) → ItK t h it a 0
  | true, e => ⟨_, e, rfl, rfl⟩
  | false, e => ⟨_, e, rfl, rfl⟩
theorem itK_obj {h : Heap} {it a : Addr} {i : Nat} : ∀ {t : Bool}, ItK t h it a i → ∃ o, h.get? it = some o ∧ ∀ v, o.data ≠ .cell v
  | true, ⟨o, e, _, d⟩ => ⟨o, e, fun v z => by rw [d] at z; cases z⟩
  | false, ⟨o, e, _, d⟩ => ⟨o, e, fun v z => by rw [d] at z; cases z⟩
theorem itK_at {h h' : Heap} {it a : Addr} {i : Nat} : ∀ {t : Bool}, ItK t h it a i → (∀ o, h.get? it = some o → h'.get? it = some o) → ItK t h' it a i
  | true, st, k => Heap.IsTupleIter.at st k
  | false, st, k => Heap.IsListIter.at st k
section
variable {X : Cx} {pins : List (Addr × Obj)} {σ : L2.St} {H : Hp} {s : Shared} {a : Addr} {xs ys : List V}
theorem seqK (I : Inv X pins σ H s) : ∀ {t : Bool}, SqK X.K t H a xs → ∃ its : List Value, Vals xs its ∧ CoK t s.heap a its.toArray ∧ a < s.heap.objs.size
  | true, h => by
    obtain ⟨its, rv, p, _⟩ := I.tuple h
    obtain ⟨o, e, _⟩ := id p
    exact ⟨its, rv, p, Heap.lt_size e⟩
  | false, h => by
    obtain ⟨its, rv, p, _⟩ := I.list h
    exact ⟨its, rv, p.isList, p.lt⟩
theorem injK (I : Inv X pins σ H s) : ∀ {t : Bool}, SqK X.K t H a xs → SqK X.K t H a ys → xs = ys
  | true, h, h' => I.tuple_inj h h'
  | false, h, h' => I.list_inj h h'
end
/-- two sources, three sources, the items in a new tuple -/
def ItZ2 (K : PySem.W.Frag) (t1 t2 : Bool) (a b : Addr) : It :=
  ⟨fun i H => ∃ (xs ys : List V) (x y : V), SqK K t1 H a xs ∧ SqK K t2 H b ys ∧ xs[i]? = some x ∧ ys[i]? = some y,
    fun i H v H' => ∃ T x y, v = .ref T ∧ H T = none ∧ H' = upd H T (.tup [x, y]) ∧ (∀ xs, SqK K t1 H a xs → xs[i]? = some x) ∧ ∀ ys, SqK K t2 H b ys → ys[i]? = some y,
    fun i H => ∃ xs ys : List V, SqK K t1 H a xs ∧ SqK K t2 H b ys ∧ i ≤ xs.length ∧ i ≤ ys.length ∧ (i = xs.length ∨ i = ys.length)⟩
def ItZ3 (K : PySem.W.Frag) (t1 t2 t3 : Bool) (a b c : Addr) : It :=
  ⟨fun i H => ∃ (xs ys zs : List V) (x y z : V), SqK K t1 H a xs ∧ SqK K t2 H b ys ∧ SqK K t3 H c zs ∧ xs[i]? = some x ∧ ys[i]? = some y ∧ zs[i]? = some z,
    fun i H v H' => ∃ T x y z, v = .ref T ∧ H T = none ∧ H' = upd H T (.tup [x, y, z]) ∧ (∀ xs, SqK K t1 H a xs → xs[i]? = some x) ∧ (∀ ys, SqK K t2 H b ys → ys[i]? = some y) ∧ ∀ zs, SqK K t3 H c zs → zs[i]? = some z,
    fun i H => ∃ xs ys zs : List V, SqK K t1 H a xs ∧ SqK K t2 H b ys ∧ SqK K t3 H c zs ∧ i ≤ xs.length ∧ i ≤ ys.length ∧ i ≤ zs.length ∧ (i = xs.length ∨ i = ys.length ∨ i = zs.length)⟩
theorem lenT {xs : List V} {its : List Value} {i : Nat} {x : V} (rv : Vals xs its) (h : xs[i]? = some x) : i < its.toArray.size := by
  have := (List.getElem?_eq_some_iff.mp h).1
  have := rv.length
  simp; omega
theorem itemT {xs : List V} {its : List Value} {i : Nat} {x : V} {u : Value} (rv : Vals xs its) (h : xs[i]? = some x) (hu : its.toArray[i]? = some u) : RelV x u := by
  obtain ⟨u', hu', ru⟩ := rv.get h
  have : u' = u := by
    have e : its[i]? = some u := by simpa using hu
    rw [hu'] at e; cases e; rfl
  rw [← this]; exact ru
structure NewWalk (P : Program) (w : World) (K : PySem.W.Frag) (tg : Expr) (J : It) (fp : List Addr) (I : Addr) (tn : Nat → Heap → Prop) : Prop where
  inI : I ∈ fp
  cells : ∀ i h, tn i h → ∀ b ∈ fp, ∃ o, h.get? b = some o ∧ ∀ v, o.data ≠ .cell v
  stay : ∀ i h h', tn i h → (∀ b ∈ fp, ∀ o, h.get? b = some o → h'.get? b = some o) → tn i h'
  own : ∀ (A : Around) (i : Nat) (s : Shared) (Q : Value → Shared → Prop) (E : Value → Shared → Prop), tn i s.heap → Q (.ref I) s → wpAny (model P w) A (pyIter (.ref I)) Q E s
  more : ∀ (X : Cx) (i : Nat) (pins : List (Addr × Obj)) (s : Shared) (σ : L2.St) (H : Hp), X.prog = P → X.w = w → X.K = K → X.A.in1.handled = none → Inv X pins σ H s →
    (∀ b ∈ fp, FpOk X pins H b ∧ b < s.heap.objs.size) → tn i s.heap → J.go i H →
    ∃ (gf wr : List Addr) (n : Nat) (Y : Nat → Heap → Value → Heap → Prop) (St : Nat → Heap → Prop), GoesN P w X.A tg I gf wr n Y St ∧ i < n ∧ St i s.heap ∧
      ∀ v h' tk, Y i s.heap v h' → St (i + 1) h' → (∀ b o, b ∉ wr → s.heap.get? b = some o → h'.get? b = some o) →
        ∃ x H', Inv X pins σ H' { s with heap := h', toks := tk } ∧ RelV x v ∧ J.yld i H x H' ∧ tn (i + 1) h' ∧ ∀ b ∈ fp, H' b = none
  last : ∀ (X : Cx) (i : Nat) (pins : List (Addr × Obj)) (s : Shared) (σ : L2.St) (H : Hp), X.prog = P → X.w = w → X.K = K → X.A.in1.handled = none → Inv X pins σ H s → tn i s.heap → J.stop i H →
    ∃ (gf wr : List Addr) (n : Nat) (Y : Nat → Heap → Value → Heap → Prop) (St : Nat → Heap → Prop), GoesN P w X.A tg I gf wr n Y St ∧ St n s.heap ∧ ∀ b ∈ wr, b ∈ fp
theorem NewWalk.turn {P : Program} {w : World} {K : PySem.W.Frag} {tg : Expr} {J : It} {fp : List Addr} {I : Addr} {tn : Nat → Heap → Prop} (N : NewWalk P w K tg J fp I tn) : Turn P w K tg J fp I tn := by
  refine ⟨N.inI, N.cells, N.stay, ?_, ?_, N.own⟩
  · intro X eP ew eK calm i pins s σ H E inv fresh now go
    have hh : X.A.in1.handled = none := inv.ok.hd calm
    obtain ⟨gf, wr, n, Y, St, G, lt, st, k⟩ := N.more X i pins s σ H eP ew eK hh inv (fun b hb => ⟨fresh b hb, by
      obtain ⟨o, ho, _⟩ := N.cells i s.heap now b hb
      exact Heap.lt_size ho⟩) now go
    exact G.goes i s _ E lt st fun v h' tk y st' kept _ => k v h' tk y st' kept
  · intro X eP ew eK calm i pins s σ H E inv fresh now over
    have hh : X.A.in1.handled = none := inv.ok.hd calm
    obtain ⟨gf, wr, n, Y, St, G, st, sub⟩ := N.last X i pins s σ H eP ew eK hh inv now over
    exact G.stops s _ E st fun h' tk kept _ => inv.turnedL (fun b o nb => kept b o fun m => nb (sub b m)) fresh
/-- one new tuple -/
theorem one_new {X : Cx} {pins : List (Addr × Obj)} {s : Shared} {σ : L2.St} {H : Hp} {fp wr : List Addr} {T : Addr} {h' : Heap} {tk : Tok} {xs : List V} {us : List Value} (inv : Inv X pins σ H s) (fresh : ∀ b ∈ fp, FpOk X pins H b ∧ b < s.heap.objs.size)
    (sub : ∀ b ∈ wr, b ∈ fp) (kept : ∀ b o, b ∉ wr → s.heap.get? b = some o → h'.get? b = some o) (hT : s.heap.objs.size ≤ T) (tup : h'.IsTuple T us.toArray) (rv : Vals xs us) (sz : xs.length ≤ sizeLine) :
    Inv X pins σ (upd H T (.tup xs)) { s with heap := h', toks := tk } ∧ H T = none ∧ ∀ b ∈ fp, upd H T (.tup xs) b = none :=
  ⟨inv.turnedNew (fun b o nb => kept b o fun m => nb (sub b m)) (fun b hb => (fresh b hb).1) hT ⟨sz, us, rv, tup⟩, inv.hok.fresh hT, fun b hb => by
    rw [upd_ne fun e => Nat.lt_irrefl b (Nat.lt_of_lt_of_le (fresh b hb).2 (by rw [e]; exact hT))]
    exact (fresh b hb).1.1⟩
section
variable {P : Program} {w : World} {K : PySem.W.Frag} {elts : List Expr} {kk : Nat} {tpos : Pos} {t1 t2 t3 : Bool} {a b c z e it TI TO i1 i2 i3 : Addr}
theorem walk_z2 (D : ZipSep2 z TI TO i1 i2 [i1, a] [i2, b]) (na : a ≠ i1) (nb : b ≠ i2) : NewWalk P w K (.Tuple elts kk tpos) (ItZ2 K t1 t2 a b) [z, TI, TO, i1, i2] z
    (fun i h => IsZip h z TI TO .none ∧ IsTupOf2 h TI (.ref i1) (.ref i2) ∧ (∃ x y, IsTupOf2 h TO x y) ∧ ItK t1 h i1 a i ∧ ItK t2 h i2 b i) where
  inI := List.mem_cons_self
  cells := by
    rintro i h ⟨oz, oI, ⟨x, y, oO⟩, o1, o2⟩ d hd
    simp only [List.mem_cons, List.not_mem_nil, or_false] at hd
    rcases hd with rfl | rfl | rfl | rfl | rfl
    · exact ⟨_, oz, nofun⟩
    · exact ⟨_, oI, nofun⟩
    · exact ⟨_, oO, nofun⟩
    · exact itK_obj o1
    · exact itK_obj o2
  stay := by
    rintro i h h' ⟨oz, oI, ⟨x, y, oO⟩, o1, o2⟩ k
    simp only [List.mem_cons, List.not_mem_nil, or_false, forall_eq_or_imp, forall_eq] at k
    exact ⟨k.1 _ oz, k.2.1 _ oI, ⟨x, y, k.2.2.1 _ oO⟩, itK_at o1 k.2.2.2.1, itK_at o2 k.2.2.2.2⟩
  own := fun A i s Q E st => wpAny_pyIter_zip st.1
  more := by
    rintro X i pins s σ H rfl rfl rfl hh inv fresh ⟨oz, oI, oO, o1, o2⟩ ⟨xs, ys, x, y, qx, qy, ex, ey⟩
    obtain ⟨us, ru, pu, _⟩ := seqK inv qx
    obtain ⟨vs, rv, pv, _⟩ := seqK inv qy
    refine ⟨_, _, _, _, _, GoesN.zip2 D (drawsK hh i1 a na t1 us.toArray) (drawsK hh i2 b nb t2 vs.toArray), Nat.lt_min.mpr ⟨lenT ru ex, lenT rv ey⟩, ⟨oz, oI, oO, ⟨o1, pu⟩, ⟨o2, pv⟩⟩, ?_⟩
    rintro v h' tk ⟨T, u, u', rfl, hT, eu, eu', tup⟩ ⟨oz', oI', oO', ⟨o1', _⟩, ⟨o2', _⟩⟩ kept
    obtain ⟨J1, J2, J3⟩ := one_new (tk := tk) (us := [u, u']) inv fresh (by simp) kept hT tup (.cons (itemT ru ex eu) (.cons (itemT rv ey eu') .nil)) (show 2 ≤ sizeLine by decide)
    exact ⟨.ref T, _, J1, rfl, ⟨T, x, y, rfl, J2, rfl, fun l q => injK inv q qx ▸ ex, fun l q => injK inv q qy ▸ ey⟩, ⟨oz', oI', oO', o1', o2'⟩, J3⟩
  last := by
    rintro X i pins s σ H rfl rfl rfl hh inv ⟨oz, oI, oO, o1, o2⟩ ⟨xs, ys, qx, qy, k1, k2, hend⟩
    obtain ⟨us, ru, pu, _⟩ := seqK inv qx
    obtain ⟨vs, rv, pv, _⟩ := seqK inv qy
    have em : min us.toArray.size vs.toArray.size = i := by
      have := ru.length
      have := rv.length
      simp only [List.size_toArray]
      omega
    refine ⟨_, _, _, _, _, GoesN.zip2 D (drawsK hh i1 a na t1 us.toArray) (drawsK hh i2 b nb t2 vs.toArray), ?_, by simp⟩
    rw [em]
    exact ⟨oz, oI, oO, ⟨o1, pu⟩, ⟨o2, pv⟩⟩
theorem walk_z3 (D : ZipSep3 z TI TO i1 i2 i3 [i1, a] [i2, b] [i3, c]) (na : a ≠ i1) (nb : b ≠ i2) (nc : c ≠ i3) : NewWalk P w K (.Tuple elts kk tpos) (ItZ3 K t1 t2 t3 a b c) [z, TI, TO, i1, i2, i3] z
    (fun i h => IsZip h z TI TO .none ∧ IsTupOf3 h TI (.ref i1) (.ref i2) (.ref i3) ∧ (∃ x y v, IsTupOf3 h TO x y v) ∧ ItK t1 h i1 a i ∧ ItK t2 h i2 b i ∧ ItK t3 h i3 c i) where
  inI := List.mem_cons_self
  cells := by
    rintro i h ⟨oz, oI, ⟨x, y, v, oO⟩, o1, o2, o3⟩ d hd
    simp only [List.mem_cons, List.not_mem_nil, or_false] at hd
    rcases hd with rfl | rfl | rfl | rfl | rfl | rfl
    · exact ⟨_, oz, nofun⟩
    · exact ⟨_, oI, nofun⟩
    · exact ⟨_, oO, nofun⟩
    · exact itK_obj o1
    · exact itK_obj o2
    · exact itK_obj o3
  stay := by
    rintro i h h' ⟨oz, oI, ⟨x, y, v, oO⟩, o1, o2, o3⟩ k
    simp only [List.mem_cons, List.not_mem_nil, or_false, forall_eq_or_imp, forall_eq] at k
    exact ⟨k.1 _ oz, k.2.1 _ oI, ⟨x, y, v, k.2.2.1 _ oO⟩, itK_at o1 k.2.2.2.1, itK_at o2 k.2.2.2.2.1, itK_at o3 k.2.2.2.2.2⟩
  own := fun A i s Q E st => wpAny_pyIter_zip st.1
  more := by
    rintro X i pins s σ H rfl rfl rfl hh inv fresh ⟨oz, oI, oO, o1, o2, o3⟩ ⟨xs, ys, zs, x, y, v, qx, qy, qv, ex, ey, ev⟩
    obtain ⟨us, ru, pu, _⟩ := seqK inv qx
    obtain ⟨vs, rv, pv, _⟩ := seqK inv qy
    obtain ⟨ws, rw', pw, _⟩ := seqK inv qv
    refine ⟨_, _, _, _, _, GoesN.zip3 D (drawsK hh i1 a na t1 us.toArray) (drawsK hh i2 b nb t2 vs.toArray) (drawsK hh i3 c nc t3 ws.toArray), Nat.lt_min.mpr ⟨Nat.lt_min.mpr ⟨lenT ru ex, lenT rv ey⟩, lenT rw' ev⟩, ⟨oz, oI, oO, ⟨o1, pu⟩, ⟨o2, pv⟩, ⟨o3, pw⟩⟩, ?_⟩
    rintro _ h' tk ⟨T, u, u', u'', rfl, hT, eu, eu', eu'', tup⟩ ⟨oz', oI', oO', ⟨o1', _⟩, ⟨o2', _⟩, ⟨o3', _⟩⟩ kept
    obtain ⟨J1, J2, J3⟩ := one_new (tk := tk) (us := [u, u', u'']) inv fresh (by simp) kept hT tup (.cons (itemT ru ex eu) (.cons (itemT rv ey eu') (.cons (itemT rw' ev eu'') .nil))) (show 3 ≤ sizeLine by decide)
    exact ⟨.ref T, _, J1, rfl, ⟨T, x, y, v, rfl, J2, rfl, fun l q => injK inv q qx ▸ ex, fun l q => injK inv q qy ▸ ey, fun l q => injK inv q qv ▸ ev⟩, ⟨oz', oI', oO', o1', o2', o3'⟩, J3⟩
  last := by
    rintro X i pins s σ H rfl rfl rfl hh inv ⟨oz, oI, oO, o1, o2, o3⟩ ⟨xs, ys, zs, qx, qy, qz, k1, k2, k3, hend⟩
    obtain ⟨us, ru, pu, _⟩ := seqK inv qx
    obtain ⟨vs, rv, pv, _⟩ := seqK inv qy
    obtain ⟨ws, rw', pw, _⟩ := seqK inv qz
    have em : min (min us.toArray.size vs.toArray.size) ws.toArray.size = i := by
      have := ru.length
      have := rv.length
      have := rw'.length
      simp only [List.size_toArray]
      omega
    refine ⟨_, _, _, _, _, GoesN.zip3 D (drawsK hh i1 a na t1 us.toArray) (drawsK hh i2 b nb t2 vs.toArray) (drawsK hh i3 c nc t3 ws.toArray), ?_, by simp⟩
    rw [em]
    exact ⟨oz, oI, oO, ⟨o1, pu⟩, ⟨o2, pv⟩, ⟨o3, pw⟩⟩
end
end Mi
set_option Elab.async false
set_option linter.all false
set_option maxRecDepth 100000
set_option maxHeartbeats 2000000
namespace Mi
open PySem PySem.Spec PyProof.Rows L2
inductive Src where
  | seq (d : MV) (xs : List MV)
  | rng (lo : Int) (n : Nat)
  | enm (d : MV) (xs : List MV)
  | zp2 (d : MV) (xs : List MV) (e : MV) (ys : List MV)
  | zp3 (d : MV) (xs : List MV) (e : MV) (ys : List MV) (f : MV) (zs : List MV)
  | ezp (d : MV) (xs : List MV) (e : MV) (ys : List MV)
def enmI : Nat → List MV → List MV
  | _, [] => []
  | i, x :: xs => .tup [.int (i : Nat), x] :: enmI (i + 1) xs
def zipI : List MV → List MV → List MV
  | x :: xs, y :: ys => .tup [x, y] :: zipI xs ys
  | _, _ => []
def zipI3 : List MV → List MV → List MV → List MV
  | x :: xs, y :: ys, z :: zs => .tup [x, y, z] :: zipI3 xs ys zs
  | _, _, _ => []
def Src.items : Src → List MV
  | .seq _ xs => xs
  | .rng lo n => (List.range n).map fun (i : Nat) => .int (lo + i)
  | .enm _ xs => enmI 0 xs
  | .zp2 _ xs _ ys => zipI xs ys
  | .zp3 _ xs _ ys _ zs => zipI3 xs ys zs
  | .ezp _ xs _ ys => enmI 0 (zipI xs ys)
def Src.ok (S : Sto) : Src → Bool
  | .seq d xs => decide (seqOf S d = some xs)
  | .rng _ _ => true
  | .enm d xs => decide (seqOf S d = some xs)
  | .zp2 d xs e ys => decide (seqOf S d = some xs) && decide (seqOf S e = some ys)
  | .zp3 d xs e ys f zs => decide (seqOf S d = some xs) && (decide (seqOf S e = some ys) && decide (seqOf S f = some zs))
  | .ezp d xs e ys => decide (seqOf S d = some xs) && decide (seqOf S e = some ys)
def isT : MV → Bool
  | .tup _ => true
  | _ => false
theorem seqK_of {C : RC} {S : Sto} {d : MV} {v : V} {xs : List MV} (r : RepS C S) (h : RepV C d v) (e : seqOf S d = some xs) : ∃ a vs, v = .ref a ∧ SqK C.K (isT d) C.H a vs ∧ RepVs C xs vs := by
  cases d with
  | tup ys =>
    rw [seqOf] at e; cases e
    rw [RepV] at h
    obtain ⟨a, vs, e, q, t⟩ := h
    exact ⟨a, vs, e, q, t⟩
  | kls ys =>
    rw [seqOf] at e; cases e
    rw [RepV] at h
    obtain ⟨a, vs, e, q, t⟩ := h
    refine ⟨a, vs, e, ?_, t⟩
    rcases q with ⟨o, q⟩ | q
    · exact .inl (.inr ⟨o, q⟩)
    · exact q.sq _
  | lst ys => obtain ⟨a, vs, e, q, t⟩ := lstOf_rep r h e; exact ⟨a, vs, e, (show SqL C.K C.H a vs from .of q), t⟩
  | ref n => obtain ⟨a, vs, e, q, t⟩ := lstOf_rep r h e; exact ⟨a, vs, e, (show SqL C.K C.H a vs from .of q), t⟩
  | _ => cases e
theorem Tr.refl {b : Nat} {C : RC} : Tr b C C := ⟨rfl, rfl, fun _ _ h => h, fun _ _ n h => ⟨n, h⟩, fun _ _ _ h => h, fun _ _ _ h => h⟩
theorem Tr.trans {b b' : Nat} {C C1 C2 : RC} (x : Tr b C C1) (y : Tr b' C1 C2) (h : b ≤ b') : Tr b C C2 where
  w := y.w.trans x.w
  K := y.K.trans x.K
  seqT := fun a vs q => y.seqT _ _ (x.seqT _ _ q)
  froz := fun a u n q => y.froz _ _ (x.froz _ _ n q).1 (x.froz _ _ n q).2
  frz := fun a o u q => y.frz _ _ _ (x.frz _ _ _ q)
  ref := fun n a hn q => y.ref n a (Nat.lt_of_lt_of_le hn h) (x.ref n a hn q)
theorem RepV.trn {C C' : RC} (x : Tr C.ι.length C C') {d : MV} {v : V} (h : RepV C d v) : RepV C' d v := RepV.tr x d v (RepV.refs d v h) h
theorem RepVs.trn {C C' : RC} (x : Tr C.ι.length C C') {d : List MV} {v : List V} (h : RepVs C d v) : RepVs C' d v := RepVs.tr x d v (RepVs.refs d v h) h
theorem RepO.trn {C C' : RC} {a : Addr} {o : MO} (x : Tr C.ι.length C C') (e : C'.H a = C.H a) (h : RepO C a o) : RepO C' a o := by
  cases o with
  | lst xs => obtain ⟨vs, q, t⟩ := h; exact ⟨vs, e.trans q, t.trn x⟩
  | dct ks ds => obtain ⟨vs, q, l, nd, t⟩ := h; exact ⟨vs, e.trans q, l, nd, t.trn x⟩
  | dcT ks ds =>
    obtain ⟨sm, ko, nd, l, z, ob, es, ep, ps, us, kvs, vs, q, ex, hd, he, hk, tk, rv, t⟩ := h
    exact ⟨sm, ko, nd, l, z, ob, es, ep, ps, us, kvs, vs, e.trans q, ex, hd, by rw [x.w]; exact he, hk, tk.trn x, rv, t.trn x⟩
  | obj c fs ds => obtain ⟨dx, vs, q, l, t⟩ := h; exact ⟨dx, vs, by rw [x.K]; exact e.trans q, l, t.trn x⟩
/-- what a walk over a source gives -/
def SrcW (X : Cx) (src : Src) (J : It) (C0 : RC) : Prop := ∀ C S, Tr C0.ι.length C0 C → RepS C S → src.ok S = true →
  (∀ i, i < src.items.length → J.go i C.H) ∧ J.stop src.items.length C.H ∧
  ∀ i x H', i < src.items.length → J.yld i C.H x H' → ∃ C' d, C'.H = H' ∧ Grow C C' ∧ RepS C' S ∧ src.items[i]? = some d ∧ RepV C' d x
def tI (X : Cx) (W : WX) (m : Ev → Sto → R Src) : TI := fun σ H Rr => ∃ C ρ S, C.H = H ∧ Sv X ρ σ S C ∧ Wants W σ C (m ρ S) (fun src _ C' => ∀ J, SrcW X src J C' → Rr J C'.H)
abbrev SI (X : Cx) (W : WX) (tg iter : Expr) (m : Ev → Sto → R Src) : Prop := PI X tg iter (tI X W m)
def srcOf (d : MV) (S : Sto) : R Src := match seqOf S d with
  | some xs => .ok (.seq d xs) S
  | none => .stk
def mSrc (e : ME) : Ev → Sto → R Src := fun ρ S => (e ρ S).bind srcOf
theorem srcOf_of {d : MV} {S S' : Sto} {s : Src} (h : srcOf d S = .ok s S') : ∃ xs, seqOf S d = some xs ∧ s = .seq d xs ∧ S' = S := by
  unfold srcOf at h
  split at h
  · cases h; exact ⟨_, by assumption, rfl, rfl⟩
  · cases h
def JSeq (K : PySem.W.Frag) : Bool → Addr → It
  | true, a => Itt K a
  | false, a => Itl K a
theorem src_seq {X : Cx} {C0 : RC} {d : MV} {xs : List MV} {a : Addr} (hK : C0.K = X.K) (rv : RepV C0 d (.ref a)) : SrcW X (.seq d xs) (JSeq X.K (isT d) a) C0 := fun C S x r ok => by
  have rv' := rv.trn x
  have e : seqOf S d = some xs := of_decide_eq_true ok
  obtain ⟨a', vs, e1, sq, t⟩ := seqK_of r rv' e
  cases e1
  rw [x.K, hK] at sq
  have l := t.length
  show (∀ i, i < xs.length → _) ∧ (JSeq X.K (isT d) a).stop xs.length C.H ∧ ∀ i x H', i < xs.length → _ → _
  cases hd : isT d with
  | true =>
    rw [hd] at sq
    refine ⟨fun i hi => ⟨vs, vs[i]'(by omega), sq, by rw [List.getElem?_eq_getElem]⟩, ⟨vs, sq, by omega⟩, fun i z H' hi y => ?_⟩
    obtain ⟨e2, y⟩ := y
    obtain ⟨d', h1, h2⟩ := t.get' (y vs sq)
    exact ⟨C, d', e2.symm, Grow.refl, r, h1, h2⟩
  | false =>
    rw [hd] at sq
    refine ⟨fun i hi => ⟨vs, vs[i]'(by omega), sq, by rw [List.getElem?_eq_getElem]⟩, ⟨vs, sq, by omega⟩, fun i z H' hi y => ?_⟩
    obtain ⟨e2, y⟩ := y
    obtain ⟨d', h1, h2⟩ := t.get' (y vs sq)
    exact ⟨C, d', e2.symm, Grow.refl, r, h1, h2⟩
theorem pi_seqK {X : Cx} {tg l : Expr} {tl : TE} (hl : PE X l tl) : PI X tg l (fun σ H Rr => tl σ H fun x H1 => ∃ a t xs, x = .ref a ∧ SqK X.K t H1 a xs ∧ Rr (JSeq X.K t a) H1) where
  run pins s σ H Rr inv q := by
    refine thn (hl.run pins s σ H _ inv q) ?_
    rintro v s1 ⟨_, H1, inv1, rv, a, t, xs, rfl, sq, q1⟩
    cases rv
    obtain ⟨us, _, p, _⟩ := seqK inv1 sq
    cases t
    · exact wpAny_pyIter_list p (pi_one (tk := s1.toks) inv1 _ (turn_list a _) ⟨_, Heap.get?_push_size _ rfl, rfl, rfl⟩ q1)
    · exact wpAny_pyIter_tuple p (pi_one (tk := s1.toks) inv1 _ (turn_tuple a _) ⟨_, Heap.get?_push_size _ rfl, rfl, rfl⟩ q1)
theorem _root_.L2.PI.imp {X : Cx} {tg it : Expr} {t t' : TI} (h : PI X tg it t) (k : ∀ σ H Q, t' σ H Q → t σ H Q) : PI X tg it t' := ⟨fun pins s σ H Q I q => h.run pins s σ H Q I (k σ H Q q)⟩
section
variable {X : Cx} {W : WX} {tg l e e2 e3 : Expr} {ml : ME} {mas : MA} {p pos tpos : Pos} {elts : List Expr} {kk : Nat}
theorem si_seq (hl : SE X W l ml) : SI X W tg l (mSrc ml) :=
  (pi_seqK hl).imp fun σ H Q ⟨C, ρ, S, e, s, q⟩ => by
    subst e
    refine tE.bind s q fun d S1 C1 v s1 g1 r1 q1 => ?_
    cases e : srcOf d S1 with
    | ok src S' =>
      rw [e] at q1
      obtain ⟨xs, e1, rfl, rfl⟩ := srcOf_of e
      obtain ⟨a, vs, rfl, sq, t⟩ := seqK_of s1.rs r1 e1
      rw [s1.K] at sq
      exact ⟨a, isT d, vs, rfl, sq, q1.now s1.rs _ (src_seq s1.K r1)⟩
    | exc c d' S' => unfold srcOf at e; split at e <;> cases e
    | stk => rw [e] at q1; exact q1.elim
def rngFit : Int → Bool
  | .ofNat m => Nat.blt m 4611686018427387904
  | .negSucc m => Nat.blt m 4611686018427387904
theorem rngFit_ok : ∀ {j : Int}, rngFit j = true → -(2 ^ 62) ≤ j ∧ j < 2 ^ 62
  | .ofNat m, h => by
    have h : m ≤ 4611686018427387903 := by simpa [rngFit, Nat.blt] using h
    have e : Int.ofNat m = (m : Int) := rfl
    rw [e]; omega
  | .negSucc m, h => by
    have h : m ≤ 4611686018427387903 := by simpa [rngFit, Nat.blt] using h
    have e : Int.negSucc m = -(m : Int) - 1 := by omega
    rw [e]; omega
def rngOf : List MV → Sto → R Src
  | [.int j], S => if rngFit j then .ok (.rng 0 j.toNat) S else .stk
  | _, _ => .stk
def mRng (m : MA) : Ev → Sto → R Src := fun ρ S => (m ρ S).bind rngOf
theorem src_rng {C0 : RC} {lo : Int} {n : Nat} : SrcW X (.rng lo n) (Itr lo n) C0 := fun C S x r ok => by
  have hl : (Src.rng lo n).items.length = n := by simp [Src.items]
  rw [hl]
  refine ⟨fun i hi => hi, Nat.le_refl _, fun i z H' hi y => ?_⟩
  obtain ⟨rfl, rfl⟩ := y
  exact ⟨C, .int (lo + i), rfl, Grow.refl, r, by simp [Src.items, hi], repI _⟩
theorem si_rng (hg : Gl X "range") (hm : X.mg "range" = none) (ha : SA X W [e] mas) (hs : starEach [e] X.env = [(false, eval e X.env)] := by rfl) : SI X W tg (.Call (.Name "range" p) [e] [] pos) (mRng mas) :=
  (pi_range1 hg hm ha hs).imp fun σ H Q ⟨C, ρ, S, e, s, q⟩ => by
    subst e
    refine tA.bind s q fun ds S1 C1 vs s1 g1 r1 q1 => ?_
    unfold rngOf at q1
    split at q1
    · split at q1
      · obtain ⟨v, rfl, rv⟩ := one_of r1
        rename_i h
        have h := rngFit_ok h
        exact ⟨_, by rw [vInt rv], h.1, h.2, q1.now s1.rs _ src_rng⟩
      · exact q1.elim
    · exact q1.elim
theorem refs_of : ∀ {as : List Addr} {us : List Value}, Vals (as.map V.ref) us → us = as.map Value.ref
  | [], _, .nil => rfl
  | a :: as, _, .cons r rr => by rw [refs_of rr]; cases r; rfl
theorem pi_made {ta : TA} {es : List Expr} {nm : Str} {T : String} {wq : List V → Hp → (It → Hp → Prop) → Prop} (hg : Gl X nm) (hm : X.mg nm = none) (hv : bootBuiltins nm = some (.type T)) (ha : PA X (e :: es) ta)
    (mk : ∀ (pins : List (Addr × Obj)) (σ : L2.St) (H : Hp) (s : Shared) (us : List Value) (vs : List V) (Rr : It → Hp → Prop), Inv X pins σ H s → Vals vs us → wq vs H Rr →
      wpAny (model X.prog X.w) X.A (call (.type T) us) (fun v s' => wpAny (model X.prog X.w) X.A (pyIter v) (PIE X pins σ tg Rr) X.xe s') X.xe s)
    (hs : starEach (e :: es) X.env = (false, eval e X.env) :: starEach es X.env) (hpl : (backTo pos (starEach es X.env)).any (·.1) = false) (nn : nm ≠ "__name__" := by decide) (nd : (nm == ("__debug__" : Str)) = false := by decide) :
    PI X tg (.Call (.Name nm p) (e :: es) [] pos) (fun σ H Rr => ta σ H fun vs H1 => wq vs H1 Rr) where
  run pins s σ H Rr inv q := Call_ (ld_blt inv hg hm hv (callWith_type1 (thn (ha.run pos pins s σ H _ inv q) fun us s1 ⟨vs, H1, inv1, r, q1⟩ => mk pins σ H1 s1 us vs Rr inv1 r q1) hs hpl) nn nd)
theorem all_new {pins : List (Addr × Obj)} {σ : L2.St} {H : Hp} {s : Shared} (inv : Inv X pins σ H s) {fp : List Addr} (h : fp.all (fun b => Nat.ble s.heap.objs.size b) = true) : ∀ b ∈ fp, FpOk X pins H b := fun b hb => by
  have le : s.heap.objs.size ≤ b := Nat.le_of_ble_eq_true (List.all_eq_true.mp h b hb)
  exact inv.fpOk le (inv.hok.fresh le)
theorem pi_z2 {ta : TA} (hg : Gl X "zip") (hm : X.mg "zip" = none) (ha : PA X [e, e2] ta)
    (hs : starEach (e :: [e2]) X.env = (false, eval e X.env) :: starEach [e2] X.env) (hpl : (backTo pos (starEach [e2] X.env)).any (·.1) = false) :
    PI X (.Tuple elts kk tpos) (.Call (.Name "zip" p) (e :: [e2]) [] pos) (fun σ H Rr => ta σ H fun vs H1 => ∃ a b t1 t2 xs ys, vs = [.ref a, .ref b] ∧ SqK X.K t1 H1 a xs ∧ SqK X.K t2 H1 b ys ∧ Rr (ItZ2 X.K t1 t2 a b) H1) := by
  refine pi_made hg hm PyProof.Rows.boot_zip ha ?_ hs hpl
  rintro pins σ H s us _ Rr inv r ⟨a, b, t1, t2, xs, ys, rfl, qx, qy, q⟩
  cases refs_of (as := [a, b]) r
  obtain ⟨ua, _, pa, la⟩ := seqK inv qx
  obtain ⟨ub, _, pb, lb⟩ := seqK inv qy
  refine zip_begins2 (beginsK a ua.toArray t1) (beginsK b ub.toArray t2) pa pb fun h' oz oI oO o1 o2 _ kept => wpAny_pyIter_zip oz ?_
  have sep := zip_sep2 (N := s.heap.objs.size) (fp1 := [a]) (fp2 := [b]) (by simpa using la) (by simpa using lb)
  exact ⟨_, _, _, _, H, rfl, inv.kept (t' := s.toks) kept, (walk_z2 sep (Nat.ne_of_lt la) (Nat.ne_of_lt (Nat.lt_succ_of_lt lb))).turn, ⟨oz, oI, ⟨_, _, oO⟩, itK_new o1, itK_new o2⟩, all_new inv (by simp [Nat.ble_eq]), q⟩
theorem pi_z3 {ta : TA} (hg : Gl X "zip") (hm : X.mg "zip" = none) (ha : PA X [e, e2, e3] ta)
    (hs : starEach (e :: [e2, e3]) X.env = (false, eval e X.env) :: starEach [e2, e3] X.env) (hpl : (backTo pos (starEach [e2, e3] X.env)).any (·.1) = false) :
    PI X (.Tuple elts kk tpos) (.Call (.Name "zip" p) (e :: [e2, e3]) [] pos) (fun σ H Rr => ta σ H fun vs H1 => ∃ a b c t1 t2 t3 xs ys zs, vs = [.ref a, .ref b, .ref c] ∧ SqK X.K t1 H1 a xs ∧ SqK X.K t2 H1 b ys ∧ SqK X.K t3 H1 c zs ∧ Rr (ItZ3 X.K t1 t2 t3 a b c) H1) := by
  refine pi_made hg hm PyProof.Rows.boot_zip ha ?_ hs hpl
  rintro pins σ H s us _ Rr inv r ⟨a, b, c, t1, t2, t3, xs, ys, zs, rfl, qx, qy, qz, q⟩
  cases refs_of (as := [a, b, c]) r
  obtain ⟨ua, _, pa, la⟩ := seqK inv qx
  obtain ⟨ub, _, pb, lb⟩ := seqK inv qy
  obtain ⟨uc, _, pc, lc⟩ := seqK inv qz
  refine zip_begins3 (beginsK a ua.toArray t1) (beginsK b ub.toArray t2) (beginsK c uc.toArray t3) pa pb pc fun h' oz oI oO o1 o2 o3 _ kept => wpAny_pyIter_zip oz ?_
  have sep := zip_sep3 (N := s.heap.objs.size) (fp1 := [a]) (fp2 := [b]) (fp3 := [c]) (by simpa using la) (by simpa using lb) (by simpa using lc)
  exact ⟨_, _, _, _, H, rfl, inv.kept (t' := s.toks) kept, (walk_z3 sep (Nat.ne_of_lt la) (Nat.ne_of_lt (Nat.lt_succ_of_lt lb)) (Nat.ne_of_lt (Nat.lt_add_right 2 lc))).turn, ⟨oz, oI, ⟨_, _, _, oO⟩, itK_new o1, itK_new o2, itK_new o3⟩, all_new inv (by simp [Nat.ble_eq]), q⟩
theorem zipI_get : ∀ {xs ys : List MV} {i : Nat} {x y : MV}, xs[i]? = some x → ys[i]? = some y → (zipI xs ys)[i]? = some (.tup [x, y])
  | [], _, _, _, _, e1, _ => by simp at e1
  | _ :: _, [], _, _, _, _, e2 => by simp at e2
  | a :: xs, b :: ys, 0, x, y, h, h' => by simp at h h'; subst h; subst h'; rfl
  | a :: xs, b :: ys, i + 1, x, y, h, h' => by
    have := zipI_get (xs := xs) (ys := ys) (i := i) (by simpa using h) (by simpa using h')
    simpa [zipI] using this
theorem zipI_len : ∀ {xs ys : List MV}, (zipI xs ys).length = min xs.length ys.length
  | [], _ => by simp [zipI]
  | _ :: _, [] => by simp [zipI]
  | a :: xs, b :: ys => by simp only [zipI, List.length_cons, zipI_len (xs := xs) (ys := ys)]; omega
theorem zipI3_get : ∀ {xs ys zs : List MV} {i : Nat} {x y z : MV}, xs[i]? = some x → ys[i]? = some y → zs[i]? = some z → (zipI3 xs ys zs)[i]? = some (.tup [x, y, z])
  | [], _, _, _, _, _, _, h, _, _ => by simp at h
  | _ :: _, [], _, _, _, _, _, _, h, _ => by simp at h
  | _ :: _, _ :: _, [], _, _, _, _, _, _, h => by simp at h
  | a :: xs, b :: ys, c :: zs, 0, x, y, z, h, h', h'' => by simp at h h' h''; subst h; subst h'; subst h''; rfl
  | a :: xs, b :: ys, c :: zs, i + 1, x, y, z, h, h', h'' => by
    have := zipI3_get (xs := xs) (ys := ys) (zs := zs) (i := i) (by simpa using h) (by simpa using h') (by simpa using h'')
    simpa [zipI3] using this
theorem zipI3_len : ∀ {xs ys zs : List MV}, (zipI3 xs ys zs).length = min xs.length (min ys.length zs.length)
  | [], _, _ => by simp [zipI3]
  | _ :: _, [], _ => by simp [zipI3]
  | _ :: _, _ :: _, [] => by simp [zipI3]
  | a :: xs, b :: ys, c :: zs => by simp only [zipI3, List.length_cons, zipI3_len (xs := xs) (ys := ys) (zs := zs)]; omega
theorem src_z2 {C0 : RC} {d e : MV} {xs ys : List MV} {a b : Addr} (hK : C0.K = X.K) (rv : RepV C0 d (.ref a)) (rv2 : RepV C0 e (.ref b)) : SrcW X (.zp2 d xs e ys) (ItZ2 X.K (isT d) (isT e) a b) C0 := fun C S x r ok => by
  have ok' : seqOf S d = some xs ∧ seqOf S e = some ys := by simpa [Src.ok] using ok
  obtain ⟨a', vs, e1, sq, t⟩ := seqK_of r (rv.trn x) ok'.1
  obtain ⟨b', us, e2, sq2, t2⟩ := seqK_of r (rv2.trn x) ok'.2
  cases e1
  cases e2
  rw [x.K, hK] at sq sq2
  have l := t.length
  have l2 := t2.length
  have hl : (Src.zp2 d xs e ys).items.length = min xs.length ys.length := zipI_len
  rw [hl]
  refine ⟨fun i hi => ⟨vs, us, vs[i]'(by omega), us[i]'(by omega), sq, sq2, by rw [List.getElem?_eq_getElem], by rw [List.getElem?_eq_getElem]⟩, ⟨vs, us, sq, sq2, by omega, by omega, by omega⟩, fun i z H' hi y => ?_⟩
  obtain ⟨T, x1, y1, rfl, hT, rfl, f1, f2⟩ := y
  obtain ⟨d1, h1, h2⟩ := t.get' (f1 vs sq)
  obtain ⟨d2, h3, h4⟩ := t2.get' (f2 us sq2)
  exact ⟨C.put T (.tup [x1, y1]), _, rfl, Grow.put hT, r.put hT, zipI_get h1 h3, repTup put_same (.cons (h2.grow (Grow.put hT) r) (.cons (h4.grow (Grow.put hT) r) .nil))⟩
theorem src_z3 {C0 : RC} {d e f : MV} {xs ys zs : List MV} {a b c : Addr} (hK : C0.K = X.K) (rv : RepV C0 d (.ref a)) (rv2 : RepV C0 e (.ref b)) (rv3 : RepV C0 f (.ref c)) : SrcW X (.zp3 d xs e ys f zs) (ItZ3 X.K (isT d) (isT e) (isT f) a b c) C0 := fun C S x r ok => by
  have ok' : seqOf S d = some xs ∧ seqOf S e = some ys ∧ seqOf S f = some zs := by simpa [Src.ok] using ok
  obtain ⟨a', vs, e1, sq, t⟩ := seqK_of r (rv.trn x) ok'.1
  obtain ⟨b', us, e2, sq2, t2⟩ := seqK_of r (rv2.trn x) ok'.2.1
  obtain ⟨c', ws, e3, sq3, t3⟩ := seqK_of r (rv3.trn x) ok'.2.2
  cases e1
  cases e2
  cases e3
  rw [x.K, hK] at sq sq2 sq3
  have l := t.length
  have l2 := t2.length
  have l3 := t3.length
  have hl : (Src.zp3 d xs e ys f zs).items.length = min xs.length (min ys.length zs.length) := zipI3_len
  rw [hl]
  refine ⟨fun i hi => ⟨vs, us, ws, vs[i]'(by omega), us[i]'(by omega), ws[i]'(by omega), sq, sq2, sq3, by rw [List.getElem?_eq_getElem], by rw [List.getElem?_eq_getElem], by rw [List.getElem?_eq_getElem]⟩, ⟨vs, us, ws, sq, sq2, sq3, by omega, by omega, by omega, by omega⟩, fun i z H' hi y => ?_⟩
  obtain ⟨T, x1, y1, z1, rfl, hT, rfl, f1, f2, f3⟩ := y
  obtain ⟨d1, h1, h2⟩ := t.get' (f1 vs sq)
  obtain ⟨d2, h3, h4⟩ := t2.get' (f2 us sq2)
  obtain ⟨d3, h5, h6⟩ := t3.get' (f3 ws sq3)
  exact ⟨C.put T (.tup [x1, y1, z1]), _, rfl, Grow.put hT, r.put hT, zipI3_get h1 h3 h5, repTup put_same (.cons (h2.grow (Grow.put hT) r) (.cons (h4.grow (Grow.put hT) r) (.cons (h6.grow (Grow.put hT) r) .nil)))⟩
def zp2Of : List MV → Sto → R Src
  | [d, e], S => match seqOf S d, seqOf S e with
    | some xs, some ys => .ok (.zp2 d xs e ys) S
    | _, _ => .stk
  | _, _ => .stk
def mZip2 (m : MA) : Ev → Sto → R Src := fun ρ S => (m ρ S).bind zp2Of
def zp3Of : List MV → Sto → R Src
  | [d, e, f], S => match seqOf S d, seqOf S e, seqOf S f with
    | some xs, some ys, some zs => .ok (.zp3 d xs e ys f zs) S
    | _, _, _ => .stk
  | _, _ => .stk
def mZip3 (m : MA) : Ev → Sto → R Src := fun ρ S => (m ρ S).bind zp3Of
theorem si_zip2 (hg : Gl X "zip") (hm : X.mg "zip" = none) (ha : SA X W [e, e2] mas)
    (hs : starEach (e :: [e2]) X.env = (false, eval e X.env) :: starEach [e2] X.env := by rfl)
    (hpl : (backTo pos (starEach [e2] X.env)).any (·.1) = false := by rfl) :
    SI X W (.Tuple elts kk tpos) (.Call (.Name "zip" p) [e, e2] [] pos) (mZip2 mas) :=
  (pi_z2 hg hm ha hs hpl).imp fun σ H Q ⟨C, ρ, S, e, s, q⟩ => by
    subst e
    refine tA.bind s q fun ds S1 C1 vs s1 g1 r1 q1 => ?_
    unfold zp2Of at q1
    split at q1
    · split at q1
      · rename_i e1 e2
        obtain ⟨v, u, rfl, rv, ru⟩ := two_of r1
        obtain ⟨a, vs, rfl, sq, t⟩ := seqK_of s1.rs rv e1
        obtain ⟨b, us, rfl, sq2, t2⟩ := seqK_of s1.rs ru e2
        rw [s1.K] at sq sq2
        exact ⟨a, b, _, _, vs, us, rfl, sq, sq2, q1.now s1.rs _ (src_z2 s1.K rv ru)⟩
      · exact q1.elim
    · exact q1.elim
theorem three_of {C : RC} {d e f : MV} {vs : List V} (t : RepVs C [d, e, f] vs) : ∃ v u w, vs = [v, u, w] ∧ RepV C d v ∧ RepV C e u ∧ RepV C f w := by
  obtain ⟨v, vr, rfl, r, t⟩ := t.cons_inv
  obtain ⟨u, w, rfl, r2, r3⟩ := two_of t
  exact ⟨v, u, w, rfl, r, r2, r3⟩
theorem si_zip3 (hg : Gl X "zip") (hm : X.mg "zip" = none) (ha : SA X W [e, e2, e3] mas)
    (hs : starEach (e :: [e2, e3]) X.env = (false, eval e X.env) :: starEach [e2, e3] X.env := by rfl)
    (hpl : (backTo pos (starEach [e2, e3] X.env)).any (·.1) = false := by rfl) :
    SI X W (.Tuple elts kk tpos) (.Call (.Name "zip" p) [e, e2, e3] [] pos) (mZip3 mas) :=
  (pi_z3 hg hm ha hs hpl).imp fun σ H Q ⟨C, ρ, S, e, s, q⟩ => by
    subst e
    refine tA.bind s q fun ds S1 C1 vs s1 g1 r1 q1 => ?_
    unfold zp3Of at q1
    split at q1
    · split at q1
      · rename_i e1 e2 e3
        obtain ⟨v, u, x, rfl, rv, ru, rx⟩ := three_of r1
        obtain ⟨a, vs, rfl, sq, t⟩ := seqK_of s1.rs rv e1
        obtain ⟨b, us, rfl, sq2, t2⟩ := seqK_of s1.rs ru e2
        obtain ⟨c, ws, rfl, sq3, t3⟩ := seqK_of s1.rs rx e3
        rw [s1.K] at sq sq2 sq3
        exact ⟨a, b, c, _, _, _, vs, us, ws, rfl, sq, sq2, sq3, q1.now s1.rs _ (src_z3 s1.K rv ru rx)⟩
      · exact q1.elim
    · exact q1.elim
end
end Mi
set_option Elab.async false
set_option linter.all false
set_option maxRecDepth 100000
set_option maxHeartbeats 2000000
namespace Mi
open PySem PySem.Spec PyProof.Rows L2
def forGo (ok : Sto → Bool) (g : Tg) (body : MS) : List MV → MS
  | [], ρ, S => if ok S then .nx ρ S else .stk
  | x :: xs, ρ, S => if ok S then (match g.f x ρ with
    | some ρ1 => match body ρ1 S with
      | .nx ρ2 S2 => forGo ok g body xs ρ2 S2
      | r => r
    | none => .stk) else .stk
def mFor (mi : Ev → Sto → R Src) (g : Tg) (body : MS) : MS := fun ρ S => (mi ρ S).thn ρ fun src S1 => forGo (fun S => src.ok S) g body src.items ρ S1
section
variable {X : Cx} {W : WX} {tg iter : Expr} {body : List Stmt} {mi : Ev → Sto → R Src} {g : Tg} {mb : MS} {pos : Pos}
theorem ss_for (hp : PassesOwn (model X.prog X.w) X.A X.env X.xe) (hc : X.calm = true) (hi : SI X W tg iter mi) (hg : SG X tg g) (hb : SSs X W body mb)
    (hs : ∀ x, foldedSetIterable iter X.env x = pure x := by intro _; rfl) : SS X W (.For tg iter body [] pos) (mFor mi g mb) :=
  (ps_for hp hc hi hg hb hs).imp fun D σ H ⟨C, ρ, S, e, s, q⟩ => by
    subst e
    refine ⟨C, ρ, S, rfl, s, ?_⟩
    refine (WantS.thn s q).mono fun src S1 C1 g1 r1 _ q1 J sw => ?_
    refine ⟨fun i m σ' H' => m = src.items.length - i ∧ i ≤ src.items.length ∧ ∃ C' ρ' S', C'.H = H' ∧ Sv X ρ' σ' S' C' ∧ Grow C1 C' ∧ WantS W D C' (forGo (fun S => src.ok S) g mb (src.items.drop i) ρ' S'), ⟨src.items.length, by simp, Nat.zero_le _, C1, ρ, S1, rfl, s.grow g1 r1, Grow.refl, q1.1⟩, ?_⟩
    rintro i m σ' H' ⟨rfl, hi, C', ρ', S', rfl, s', g', w⟩
    by_cases hlt : i < src.items.length
    · have ed : src.items.drop i = src.items[i] :: src.items.drop (i + 1) := List.drop_eq_getElem_cons hlt
      rw [ed, forGo] at w
      by_cases hok : src.ok S' = true
      · rw [if_pos hok] at w
        obtain ⟨k1, k2, k3⟩ := sw C' S' (g'.tr r1) s'.rs hok
        refine .inr ⟨k1 i hlt, fun σ'' H'' => (fun i m σ' H' => m = src.items.length - i ∧ i ≤ src.items.length ∧ ∃ C' ρ' S', C'.H = H' ∧ Sv X ρ' σ' S' C' ∧ Grow C1 C' ∧ WantS W D C' (forGo (fun S => src.ok S) g mb (src.items.drop i) ρ' S')) (i + 1) (src.items.length - (i + 1)) σ'' H'',
          fun σ'' H'' h => ⟨_, by omega, h⟩, fun x H'' y => ?_⟩
        obtain ⟨C2, d, rfl, g2, r2, e2, rv⟩ := k3 i x H'' hlt y
        rw [List.getElem?_eq_getElem hlt] at e2
        have e3 : src.items[i] = d := Option.some.inj e2
        cases e4 : g.f src.items[i] ρ' with
        | none => rw [e4] at w; exact w.elim
        | some ρ1 =>
          rw [e4] at w
          dsimp only at w
          refine ⟨C2, ρ', S', d, ρ1, rfl, s'.grow g2 r2, rv, by rw [← e3]; exact e4, fun σ1 ev1 l1 _ _ => ?_⟩
          refine ⟨C2, ρ1, S', rfl, ⟨g2.w.trans s'.w, g2.K.trans s'.K, r2, ev1, l1⟩, ?_⟩
          cases e5 : mb ρ1 S' with
          | nx ρ2 S2 =>
            rw [e5] at w
            exact fun C3 σ3 g3 r3 ev3 l3 => ⟨rfl, hlt, C3, ρ2, S2, rfl, ⟨g3.w.trans (g2.w.trans s'.w), g3.K.trans (g2.K.trans s'.K), r3, ev3, l3⟩, g'.trans (g2.trans g3), w.grow (g2.trans g3)⟩
          | rt d S2 => rw [e5] at w; exact w.grow g2
          | exc c d ρ2 S2 => rw [e5] at w; exact w.grow g2
          | stk => rw [e5] at w; exact w.elim
      · rw [if_neg hok] at w; exact w.elim
    · have e : i = src.items.length := by omega
      subst e
      rw [List.drop_length, forGo] at w
      by_cases hok : src.ok S' = true
      · rw [if_pos hok] at w
        obtain ⟨k1, k2, k3⟩ := sw C' S' (g'.tr r1) s'.rs hok
        exact .inl ⟨k2, w C' σ' Grow.refl s'.rs s'.ev s'.ln⟩
      · rw [if_neg hok] at w; exact w.elim
end
def wipeE (ρ : Ev) : List Nat → Ev
  | [] => ρ
  | v :: vs => (wipeE ρ vs).set v none
theorem wipeE_len (ρ : Ev) : ∀ vs, (wipeE ρ vs).length = ρ.length
  | [] => rfl
  | v :: vs => by unfold wipeE; rw [List.length_set, wipeE_len]
theorem env_wipe {C : RC} {ρ : Ev} {σ : L2.St} (h : EnvR C ρ σ) (l : ρ.length = σ.length) : ∀ vs, EnvR C (wipeE ρ vs) (wipe σ vs)
  | [] => h
  | v :: vs => fun i d e => by
    unfold wipeE at e
    by_cases hi : v = i
    · subst hi
      by_cases hl : v < (wipeE ρ vs).length
      · rw [List.getElem?_set_self hl] at e; cases e
      · rw [List.getElem?_eq_none (by simpa using hl)] at e; cases e
    · rw [List.getElem?_set_ne hi] at e
      obtain ⟨u, e1, r⟩ := env_wipe h l vs i d e
      refine ⟨u, ?_, r⟩
      unfold wipe
      rw [List.getElem?_set_ne hi]
      exact e1
theorem EnvR.trn {C C' : RC} {ρ : Ev} {σ : L2.St} (h : EnvR C ρ σ) (x : Tr C.ι.length C C') : EnvR C' ρ σ := fun i d e => by
  obtain ⟨v, e1, q⟩ := h i d e
  exact ⟨v, e1, q.trn x⟩
def R.calm {α : Type} : R α → R α
  | .exc _ _ _ => .stk
  | r => r
@[simp] theorem R.calm_ok {α : Type} (a : α) (S : Sto) : (R.ok a S).calm = .ok a S := rfl
def lcGo (ok : Sto → Bool) (g : Tg) (tt : MT) (te : ME) (ρ : Ev) : List MV → List MV → Sto → R (List MV)
  | [], acc, S => if ok S then .ok acc S else .stk
  | x :: xs, acc, S => if ok S then (match g.f x ρ with
    | some ρ1 => (tt ρ1 S).calm.bind fun b S1 => if b then (te ρ1 S1).calm.bind fun y S2 => lcGo ok g tt te ρ xs (acc ++ [y]) S2 else lcGo ok g tt te ρ xs acc S1
    | none => .stk) else .stk
def mkL (fr : Bool) (ys : List MV) (S : Sto) : R MV := if fr then .ok (.lst ys) S else .ok (.ref S.length) (S ++ [.lst ys])
def mLc (fr : Bool) (vs : List Nat) (mi : Ev → Sto → R Src) (g : Tg) (tt : MT) (te : ME) : ME := fun ρ S => (mi ρ S).bind fun src S1 =>
  if src.items.length ≤ sizeLine then (lcGo (fun S => src.ok S) g tt te (wipeE ρ vs) src.items [] S1).bind (mkL fr) else .stk
/-- the new list is being filled at D: it is not of the data yet -/
theorem Tr.wr {C : RC} {S : Sto} {D : Addr} {us vs : List V} (r : RepS C S) (hb : D ∈ C.bad) (h : C.H D = some (.lst us)) : Tr C.ι.length C (C.put D (.lst vs)) where
  w := rfl
  K := rfl
  seqT := fun a ws q => by
    rcases q with (q | ⟨o, q⟩) | q
    · exact .inl (.inl (by show upd C.H D (.lst vs) a = _; rw [upd_ne (fun z => by subst z; rw [h] at q; cases q)]; exact q))
    · exact .inl (.inr ⟨o, by show upd C.H D (.lst vs) a = _; rw [upd_ne (fun z => by subst z; rw [h] at q; cases q)]; exact q⟩)
    · exact .inr q
  froz := fun a u n q => ⟨n, by show upd C.H D (.lst vs) a = _; rw [upd_ne (fun z => n.2 (by rw [z]; exact hb))]; exact q⟩
  frz := fun a o u q => by show upd C.H D (.lst vs) a = _; rw [upd_ne (fun z => by subst z; rw [h] at q; cases q)]; exact q
  ref := fun n a _ q => q
theorem RepS.wr {C : RC} {S : Sto} {D : Addr} {us vs : List V} (r : RepS C S) (hb : D ∈ C.bad) (h : C.H D = some (.lst us)) : RepS (C.put D (.lst vs)) S := by
  refine ⟨r.len, r.nd, fun a m => ⟨(r.bad a m).1, ?_⟩, fun n mo a e1 e2 => ?_⟩
  · show upd C.H D (.lst vs) a ≠ none
    by_cases q : a = D
    · subst q; rw [upd_same]; simp
    · rw [upd_ne q]; exact (r.bad a m).2
  · refine (r.ob n mo a e1 e2).trn (Tr.wr r hb h) ?_
    show upd C.H D (.lst vs) a = C.H a
    exact upd_ne fun z => (r.bad D hb).1 (by rw [← z]; exact List.mem_of_getElem? e2)
/-- the state at the start -/
def RC.fill (C : RC) (D : Addr) : RC := { C.put D (.lst []) with bad := D :: C.bad }
theorem Grow.fill {C : RC} {D : Addr} (h : C.H D = none) : Grow C (C.fill D) where
  w := rfl
  K := rfl
  bad := fun a m => by
    rcases List.mem_cons.mp (show a ∈ D :: C.bad from m) with z | z
    · subst z; exact .inr (.inr h)
    · exact .inl z
  bad' := fun a m => List.mem_cons_of_mem _ m
  keep := (Grow.put h).keep
  new := fun a m => .inl m
  pre := rfl
  le := Nat.le_refl _
  le' := Nat.le_refl _
theorem RepS.fill {C : RC} {S : Sto} {D : Addr} (r : RepS C S) (h : C.H D = none) : RepS (C.fill D) S := by
  refine ⟨r.len, r.nd, fun a m => ?_, fun n mo a e1 e2 => ?_⟩
  · rcases List.mem_cons.mp (show a ∈ D :: C.bad from m) with z | z
    · subst z; exact ⟨r.notin h, by show upd C.H a _ a ≠ none; rw [upd_same]; simp⟩
    · refine ⟨(r.bad a z).1, ?_⟩
      show upd C.H D _ a ≠ none
      rw [upd_ne (fun q => (r.bad a z).2 (by rw [q]; exact h))]
      exact (r.bad a z).2
  · refine (r.ob n mo a e1 e2).trn ((Grow.fill h).tr r) ?_
    show upd C.H D _ a = C.H a
    exact upd_ne fun z => r.notin h (by rw [← z]; exact List.mem_of_getElem? e2)
/-- with the bad ones of an earlier state -/
def RC.rb (C C0 : RC) : RC := { C with bad := C0.bad }
theorem rb_step {C0 C C' : RC} (x : Grow C0 (C.rb C0)) (y : Grow C C') : Grow C0 (C'.rb C0) where
  w := y.w.trans x.w
  K := y.K.trans x.K
  bad := fun a m => .inl m
  bad' := fun a m => m
  keep := fun a o na h => y.keep a o (fun m => by
    rcases x.new a m with q | q
    · exact na q
    · rw [h] at q; cases q) (x.keep a o na h)
  new := fun a m => by
    rcases y.new a m with q | q
    · exact x.new a q
    · by_cases ha : a ∈ C0.ι
      · exact .inl ha
      · cases e : C0.H a with
        | none => exact .inr rfl
        | some o =>
          have z : C.H a = some o := x.keep a o ha e
          rw [z] at q; cases q
  pre := (y.weak x.le').pre.trans x.pre
  le := Nat.le_refl _
  le' := Nat.le_trans x.le' y.le'
theorem rb_wr {C0 C : RC} {D : Addr} {o : HO} (x : Grow C0 (C.rb C0)) (h : C0.H D = none) : Grow C0 ((C.put D o).rb C0) where
  w := x.w
  K := x.K
  bad := fun a m => .inl m
  bad' := fun a m => m
  keep := fun a u na e => by
    show upd C.H D o a = some u
    rw [upd_ne (ne_of_none e h)]
    exact x.keep a u na e
  new := x.new
  pre := x.pre
  le := x.le
  le' := x.le'
theorem Tr.rb {C C0 : RC} (h : ∀ a ∈ C0.bad, a ∈ C.bad) : Tr C.ι.length C (C.rb C0) :=
  ⟨rfl, rfl, fun _ _ q => q, fun a u n q => ⟨⟨n.1, fun m => n.2 (h a m)⟩, q⟩, fun _ _ _ q => q, fun _ _ _ q => q⟩
theorem RepS.rb {C C0 : RC} {S : Sto} (r : RepS C S) (h : ∀ a ∈ C0.bad, a ∈ C.bad) : RepS (C.rb C0) S :=
  ⟨r.len, r.nd, fun a m => r.bad a (h a m), fun n mo a e1 e2 => (r.ob n mo a e1 e2).trn (Tr.rb h) rfl⟩
/-- the filled list becomes a cell of the store -/
def RC.adopt (C : RC) (D : Addr) : RC := { C with ι := C.ι ++ [D] }
theorem Wants.calm {α β : Type} {W W' : WX} {σ σ' : L2.St} {C : RC} {r : R α} {f : α → Sto → R β} {Q : β → Sto → RC → Prop} (h : Wants W σ C (r.calm.bind f) Q) :
    Wants W' σ' C r (fun a S1 C1 => Wants W σ C1 (f a S1) Q ∧ Grow C C1) := by
  cases r with
  | ok a S => exact fun C1 g r1 => (Wants.bind h) C1 g r1
  | exc c d S => exact h.elim
  | stk => exact h
/-- what is wanted of the filled list -/
def LW (D : Addr) (Q : VK) (fr : Bool) (C0 : RC) : R (List MV) → Prop
  | .ok acc S => ∀ C, Grow C0 (C.rb C0) → (∀ a ∈ C0.bad, a ∈ C.bad) → RepS C S → D ∈ C.bad → ∀ vs, C.H D = some (.lst vs) → RepVs C acc vs → Q (.ref D) C.H
  | _ => False
section
variable {X : Cx} {W : WX}
theorem lw_end {σ : L2.St} {C0 : RC} {D : Addr} {Q : VK} {fr : Bool} {S0 : Sto} {r : R (List MV)} (r0 : RepS C0 S0) (hD : C0.H D = none) (hr : ∀ c d S, r ≠ .exc c d S) (h : Wants W σ C0 (r.bind (mkL fr)) (fun d _ C' => ∀ v, RepV C' d v → Q v C'.H)) : LW D Q fr C0 r := by
  cases r with
  | exc c d S => exact absurd rfl (hr c d S)
  | stk => exact h
  | ok acc S =>
    intro C g hb rs hbD vs hv rv
    have nD : D ∉ C.ι := (rs.bad D hbD).1
    have nb : D ∉ C0.bad := fun m => (r0.bad D m).2 hD
    have rs' := rs.rb hb
    have rv' := rv.trn (Tr.rb (C0 := C0) hb)
    cases fr with
    | true =>
      have h : Wants W σ C0 (.ok (.lst acc) S) (fun d _ C' => ∀ v, RepV C' d v → Q v C'.H) := h
      exact h (C.rb C0) g rs' (.ref D) (repLst ⟨nD, nb⟩ hv rv')
    | false =>
      have h : Wants W σ C0 (.ok (.ref S.length) (S ++ [.lst acc])) (fun d _ C' => ∀ v, RepV C' d v → Q v C'.H) := h
      have tr : Tr C.ι.length C ((C.rb C0).adopt D) := by
        refine ⟨rfl, rfl, fun _ _ q => q, fun a u n q => ⟨⟨fun m => ?_, fun m => n.2 (hb a m)⟩, q⟩, fun _ _ _ q => q, fun n a hn q => ?_⟩
        · rcases List.mem_append.mp (show a ∈ C.ι ++ [D] from m) with m | m
          · exact n.1 m
          · have e : a = D := by simpa using m
            exact n.2 (by rw [e]; exact hbD)
        · show (C.ι ++ [D])[n]? = some a
          rw [List.getElem?_append_left (by exact hn)]; exact q
      have g2 : Grow C0 ((C.rb C0).adopt D) := by
        refine ⟨g.w, g.K, fun a m => .inl m, fun a m => m, g.keep, fun a m => ?_, ?_, g.le, ?_⟩
        · rcases List.mem_append.mp (show a ∈ C.ι ++ [D] from m) with m | m
          · exact g.new a m
          · have e : a = D := by simpa using m
            exact .inr (by rw [e]; exact hD)
        · show (C.ι ++ [D]).take C0.ι.length = _
          rw [List.take_append_of_le_length (show C0.ι.length ≤ C.ι.length from g.le')]; exact g.pre
        · show C0.ι.length ≤ (C.ι ++ [D]).length
          rw [List.length_append]
          exact Nat.le_trans g.le' (Nat.le_add_right _ _)
      have rs2 : RepS ((C.rb C0).adopt D) (S ++ [.lst acc]) := by
        refine ⟨by show (C.ι ++ [D]).length = _; simp [rs.len], ?_, fun a m => ⟨fun m2 => ?_, (rs.bad a (hb a m)).2⟩, fun n mo a e1 e2 => ?_⟩
        · show (C.ι ++ [D]).Nodup
          rw [List.nodup_append]
          refine ⟨rs.nd, by simp, fun a ha b hb => ?_⟩
          have e : b = D := by simpa using hb
          subst e
          intro e; subst e
          exact nD ha
        · rcases List.mem_append.mp (show a ∈ C.ι ++ [D] from m2) with m2 | m2
          · exact (rs.bad a (hb a m)).1 m2
          · have e : a = D := by simpa using m2
            subst e; exact nb m
        · have e2 : (C.ι ++ [D])[n]? = some a := e2
          by_cases hn : n < S.length
          · rw [List.getElem?_append_left hn] at e1
            rw [List.getElem?_append_left (by rw [rs.len]; exact hn)] at e2
            exact (rs.ob n mo a e1 e2).trn tr rfl
          · rw [List.getElem?_append_right (by omega)] at e1
            rw [List.getElem?_append_right (by rw [rs.len]; omega), rs.len] at e2
            cases hz : n - S.length with
            | zero =>
              rw [hz] at e1 e2
              simp at e1 e2
              subst e1; subst e2
              exact ⟨vs, hv, rv.trn tr⟩
            | succ k => rw [hz] at e1; simp at e1
      refine h ((C.rb C0).adopt D) g2 rs2 (.ref D) ?_
      rw [RepV]
      exact ⟨D, rfl, by show (C.ι ++ [D])[S.length]? = some D; rw [← rs.len]; simp⟩
theorem lcGo_noexc {ok : Sto → Bool} {g : Tg} {tt : MT} {te : ME} {ρ : Ev} : ∀ (xs acc : List MV) (S : Sto) (c : Str) (d : MV) (S' : Sto), lcGo ok g tt te ρ xs acc S ≠ .exc c d S'
  | [], acc, S, c, d, S', h => by
    unfold lcGo at h
    split at h <;> cases h
  | x :: xs, acc, S, c, d, S', h => by
    unfold lcGo at h
    split at h
    · split at h
      · rename_i ρ1 e1
        cases e : tt ρ1 S with
        | ok b S1 =>
          rw [e] at h
          simp only [R.calm_ok, R.bind_ok] at h
          split at h
          · cases e2 : te ρ1 S1 with
            | ok y S2 =>
              rw [e2] at h
              simp only [R.calm_ok, R.bind_ok] at h
              exact lcGo_noexc xs _ S2 c d S' h
            | exc c' d' S2 => rw [e2] at h; cases h
            | stk => rw [e2] at h; cases h
          · exact lcGo_noexc xs _ S1 c d S' h
        | exc c' d' S1 => rw [e] at h; cases h
        | stk => rw [e] at h; cases h
      · cases h
    · cases h
end
abbrev WNo : WX := fun _ _ _ _ => False
theorem takesNo {X : Cx} {s : Shared} {H : Hp} {sc : Scope} {ce : Env} {fp : List Addr} : Takes (X.blk s H sc ce fp) WNo := fun u s' ⟨_, _, _, _, _, _, _, _, h⟩ => h.2.2.2.2.2.2.2.2
/-- several tests -/
theorem _root_.L2.PTs.imp {X : Cx} {ts : List Expr} {t t' : TT} (h : PTs X ts t) (k : ∀ σ H Q, t' σ H Q → t σ H Q) : PTs X ts t' := ⟨fun pins s σ H Q I q => h.run pins s σ H Q I (k σ H Q q)⟩
def mTrue : MT := fun _ S => .ok true S
section
variable {X : Cx} {W : WX} {tg iter elt : Expr} {ifs : List Expr} {scope : Scope} {own : List (Str × Nat)} {mi : Ev → Sto → R Src} {g : Tg} {tt : MT} {te : ME} {pos : Pos} {fr : Bool}
/-- the reading of a comprehension -/
theorem lc_imp {σ : L2.St} {H : Hp} {Q : VK} {vs : List Nat} (hix : ∀ i ∈ g.ix, i ∈ vs) (h : tE X W (mLc fr vs mi g tt te) σ H Q) : tLc (tI X W mi) (tG X g) (tT X WNo tt) (tE X WNo te) vs σ H Q := by
  obtain ⟨C, ρ, S, e, s, q⟩ := h
  subst e
  refine ⟨C, ρ, S, rfl, s, (Wants.bind q).mono fun src S1 C0 g0 r0 _ q0 J sw D hD => ?_⟩
  have q0 := q0.1
  split at q0
  case isFalse => exact q0.elim
  rename_i hsz
  have lw : LW D Q fr C0 (lcGo (fun S => src.ok S) g tt te (wipeE ρ vs) src.items [] S1) := lw_end r0 hD (lcGo_noexc _ _ _) q0
  have s0 : Sv X ρ σ S1 C0 := s.grow g0 r0
  refine ⟨fun i m H' => m = src.items.length - i ∧ i ≤ src.items.length ∧ ∃ C' S' acc accv, C'.H = H' ∧ Tr C0.ι.length C0 C' ∧ Grow C0 (C'.rb C0) ∧ (∀ a ∈ C0.bad, a ∈ C'.bad) ∧ RepS C' S' ∧ D ∈ C'.bad ∧ C'.H D = some (.lst accv) ∧ RepVs C' acc accv ∧ acc.length ≤ i ∧
      LW D Q fr C0 (lcGo (fun S => src.ok S) g tt te (wipeE ρ vs) (src.items.drop i) acc S'), ⟨src.items.length, by simp, Nat.zero_le _, C0.fill D, S1, [], [], rfl, (Grow.fill hD).tr r0, ?_, fun a m => List.mem_cons_of_mem _ m, r0.fill hD, List.mem_cons_self, upd_same, .nil, Nat.le_refl _, lw⟩, ?_⟩
  · exact rb_wr Grow.refl hD
  rintro i m H' ⟨rfl, hi, C1, S', acc, accv, rfl, tr, gr, hb, rs, hbD, hv, rv, hl, w⟩
  by_cases hlt : i < src.items.length
  · have ed : src.items.drop i = src.items[i] :: src.items.drop (i + 1) := List.drop_eq_getElem_cons hlt
    rw [ed, lcGo] at w
    by_cases hok : src.ok S' = true
    · rw [if_pos hok] at w
      obtain ⟨k1, k2, k3⟩ := sw C1 S' tr rs hok
      refine .inr ⟨k1 i hlt, fun H'' => (fun i m H' => m = src.items.length - i ∧ i ≤ src.items.length ∧ ∃ C' S' acc accv, C'.H = H' ∧ Tr C0.ι.length C0 C' ∧ Grow C0 (C'.rb C0) ∧ (∀ a ∈ C0.bad, a ∈ C'.bad) ∧ RepS C' S' ∧ D ∈ C'.bad ∧ C'.H D = some (.lst accv) ∧ RepVs C' acc accv ∧ acc.length ≤ i ∧
        LW D Q fr C0 (lcGo (fun S => src.ok S) g tt te (wipeE ρ vs) (src.items.drop i) acc S')) (i + 1) (src.items.length - (i + 1)) H'', fun H'' h => ⟨_, by omega, h⟩, fun x H'' y => ?_⟩
      obtain ⟨C2, d, rfl, g2, r2, e2, rd⟩ := k3 i x H'' hlt y
      rw [List.getElem?_eq_getElem hlt] at e2
      have e3 : src.items[i] = d := Option.some.inj e2
      have g01 : C0.ι.length ≤ C1.ι.length := gr.le'
      have tr2 : Tr C0.ι.length C0 C2 := tr.trans (g2.tr rs) g01
      have ew : EnvR C2 (wipeE ρ vs) (wipe σ vs) := (env_wipe s0.ev s0.ln vs).trn tr2
      have sv2 : Sv X (wipeE ρ vs) (wipe σ vs) S' C2 := ⟨tr2.w.trans s0.w, tr2.K.trans s0.K, r2, ew, by rw [wipeE_len, wipe_length]; exact s0.ln⟩
      have hvn : ∀ {Ca Cb : RC} {Sa : Sto} {us : List V}, Grow Ca Cb → RepS Ca Sa → D ∈ Ca.bad → Ca.H D = some (.lst us) → Cb.H D = some (.lst us) ∧ D ∈ Cb.bad := fun {Ca Cb Sa us} x r hb h => ⟨x.keep _ _ (r.bad D hb).1 h, x.bad' D hb⟩
      cases e4 : g.f src.items[i] (wipeE ρ vs) with
      | none => rw [e4] at w; exact w.elim
      | some ρ1 =>
        rw [e4] at w
        dsimp only at w
        refine ⟨C2, wipeE ρ vs, S', d, ρ1, rfl, sv2, rd, by rw [← e3]; exact e4, fun σ1 ev1 l1 l1' w1 => ⟨by rw [w1 vs hix, wipe_wipe], ?_⟩⟩
        have sv3 : Sv X ρ1 σ1 S' C2 := ⟨sv2.w, sv2.K, r2, ev1, l1⟩
        refine ⟨C2, ρ1, S', rfl, sv3, ?_⟩
        cases e5 : tt ρ1 S' with
        | exc c d S2 => rw [e5] at w; exact w.elim
        | stk => rw [e5] at w; exact w.elim
        | ok b S2 =>
          rw [e5] at w
          simp only [R.calm_ok, R.bind_ok] at w
          intro C3 g3 r3
          have sv4 := sv3.grow g3 r3
          have gr3 : Grow C0 (C3.rb C0) := rb_step (rb_step gr g2) g3
          have hb3 : ∀ a ∈ C0.bad, a ∈ C3.bad := fun a m => g3.bad' a (g2.bad' a (hb a m))
          have z2 := hvn g2 rs hbD hv
          have z3 := hvn g3 r2 z2.2 z2.1
          have tr3 : Tr C0.ι.length C0 C3 := tr2.trans (g3.tr r2) (Nat.le_trans g01 g2.le')
          have rv3 : RepVs C3 acc accv := (rv.grow g2 rs).grow g3 r2
          cases b with
          | false =>
            rw [if_neg (by decide)] at w
            dsimp only
            rw [if_neg (by decide)]
            exact ⟨rfl, hlt, C3, S2, acc, accv, rfl, tr3, gr3, hb3, r3, z3.2, z3.1, rv3, by omega, w⟩
          | true =>
            rw [if_pos rfl] at w
            dsimp only
            rw [if_pos rfl]
            refine ⟨C3, ρ1, S2, rfl, sv4, ?_⟩
            cases e6 : te ρ1 S2 with
            | exc c d S2 => rw [e6] at w; exact w.elim
            | stk => rw [e6] at w; exact w.elim
            | ok yv S3 =>
              rw [e6] at w
              simp only [R.calm_ok, R.bind_ok] at w
              intro C4 g4 r4 v rvv
              have z4 := hvn g4 r3 z3.2 z3.1
              have hb4 : ∀ a ∈ C0.bad, a ∈ C4.bad := fun a m => g4.bad' a (hb3 a m)
              have tr4 : Tr C0.ι.length C0 C4 := tr3.trans (g4.tr r3) (Nat.le_trans g01 (Nat.le_trans g2.le' g3.le'))
              have l4 : C0.ι.length ≤ C4.ι.length := Nat.le_trans g01 (Nat.le_trans g2.le' (Nat.le_trans g3.le' g4.le'))
              have rv4 : RepVs C4 acc accv := rv3.grow g4 r3
              have wr := Tr.wr (vs := accv ++ [v]) r4 z4.2 z4.1
              refine ⟨accv, z4.1, by rw [← rv4.length]; omega, rfl, hlt, C4.put D (.lst (accv ++ [v])), S3, acc ++ [yv], accv ++ [v], rfl, tr4.trans wr l4, rb_wr (rb_step gr3 g4) hD, hb4, r4.wr z4.2 z4.1, z4.2, put_same, (rv4.trn wr).append (.cons (rvv.trn wr) .nil), by simp; omega, w⟩
    · rw [if_neg hok] at w; exact w.elim
  · have e : i = src.items.length := by omega
    subst e
    rw [List.drop_length, lcGo] at w
    by_cases hok : src.ok S' = true
    · rw [if_pos hok] at w
      obtain ⟨k1, k2, k3⟩ := sw C1 S' tr rs hok
      exact .inl ⟨k2, w C1 gr hb rs hbD accv hv rv⟩
    · rw [if_neg hok] at w; exact w.elim
abbrev STs (X : Cx) (W : WX) (ts : List Expr) (m : MT) : Prop := PTs X ts (tT X W m)
theorem sts_nil : STs X W [] mTrue := by
  first
    | exact pts_nil.imp fun σ H Q ⟨C, ρ, S, e, s, q⟩ => by subst e; exact q.now s.rs
theorem tE.blk {X : Cx} {s0 : Shared} {H0 : Hp} {sc : Scope} {ce : Env} {fp : List Addr} {W : WX} {m : ME} {σ : L2.St} {H : Hp} {Q : VK} (h : tE X W m σ H Q) : tE (X.blk s0 H0 sc ce fp) W m σ H Q := by
  obtain ⟨C, ρ, S, e, s, q⟩ := h
  exact ⟨C, ρ, S, e, ⟨s.w, s.K, s.rs, s.ev, s.ln⟩, q⟩
theorem tT.blk {X : Cx} {s0 : Shared} {H0 : Hp} {sc : Scope} {ce : Env} {fp : List Addr} {W : WX} {m : MT} {σ : L2.St} {H : Hp} {Q : Bool → Hp → Prop} (h : tT X W m σ H Q) : tT (X.blk s0 H0 sc ce fp) W m σ H Q := by
  obtain ⟨C, ρ, S, e, s, q⟩ := h
  exact ⟨C, ρ, S, e, ⟨s.w, s.K, s.rs, s.ev, s.ln⟩, q⟩
theorem tG.blk {X : Cx} {s0 : Shared} {H0 : Hp} {sc : Scope} {ce : Env} {fp : List Addr} {t : Tg} {v : V} {σ : L2.St} {H : Hp} {Q : L2.St → Hp → Prop} (h : tG X t v σ H Q) : tG (X.blk s0 H0 sc ce fp) t v σ H Q := by
  obtain ⟨C, ρ, S, d, ρ', e, s, q⟩ := h
  exact ⟨C, ρ, S, d, ρ', e, ⟨s.w, s.K, s.rs, s.ev, s.ln⟩, q⟩
theorem se_lc (hc : X.calm = true) (hN : X.N.Nodup) (hi : SI X W tg iter mi) (ok : BlkOk X.N X.env.scope scope own)
    (hg : ∀ (s : Shared) (H : Hp) (C : Addr) (cl : List (Str × Addr)) (fp : List Addr), SG (X.blk s H scope (compEnvC scope cl C X.env) fp) tg g) (ht : ∀ (s : Shared) (H : Hp) (C : Addr) (cl : List (Str × Addr)) (fp : List Addr), STs (X.blk s H scope (compEnvC scope cl C X.env) fp) WNo ifs tt)
    (he : ∀ (s : Shared) (H : Hp) (C : Addr) (cl : List (Str × Addr)) (fp : List Addr), SE (X.blk s H scope (compEnvC scope cl C X.env) fp) WNo elt te) (hix : ∀ i ∈ g.ix, i ∈ own.map (·.2)) (hs : ∀ x, foldedSetIterable iter X.env x = pure x := by intro _; rfl) :
    SE X W (.ListComp elt [⟨tg, iter, ifs, 0⟩] scope pos) (mLc fr (own.map (·.2)) mi g tt te) :=
  (pe_lc hc hN hi ok (g := tG X g) (fun s H C cl fp => (hg s H C cl fp).imp fun v σ H Q h => tG.blk h) (fun s H C cl fp => (ht s H C cl fp).imp fun σ H Q h => tT.blk h) (fun s H C cl fp => (he s H C cl fp).imp fun σ H Q h => tE.blk h) hs).imp fun σ H Q h => lc_imp hix h
end
end Mi
set_option Elab.async false
set_option linter.all false
set_option maxRecDepth 100000
set_option maxHeartbeats 2000000
namespace Mi
open PySem PySem.Spec PyProof.Rows L2
def setM (o i d : MV) (S : Sto) : Option Sto := match o with
  | .ref n => (match S[n]? with
    | some (.lst xs) => (match i with
      | .int k => (match ixN xs.length k with
        | some j => some (S.set n (.lst (xs.set j d)))
        | none => none)
      | _ => none)
    | some (.dct ks vs) => (match keyV i with
      | some k => if ks.length < 1000 then some (S.set n (.dct (dput ks vs k d).1 (dput ks vs k d).2)) else none
      | none => none)
    | _ => none)
  | _ => none
def rSet (X : Cx) : TSet := fun o i v H Q => ∃ C S d1 d2 d3, C.H = H ∧ C.w = X.w ∧ C.K = X.K ∧ RepS C S ∧ RepV C d1 o ∧ RepV C d2 i ∧ RepV C d3 v ∧ ∃ S', setM d1 d2 d3 S = some S' ∧ ∀ C', Grow C C' → RepS C' S' → Q C'.H
theorem write_ok {C : RC} {S : Sto} {n : Nat} {a : Addr} {o : HO} {mo : MO} {Q : Hp → Prop} (r : RepS C S) (h : C.ι[n]? = some a) (q : RepO (C.put a o) a mo) (k : ∀ C', Grow C C' → RepS C' (S.set n mo) → Q C'.H) : Q (upd C.H a o) :=
  k (C.put a o) (Grow.write (List.mem_of_getElem? h)) (r.write h q)
theorem psetM {X : Cx} (hu : X.A.units + 1 < cLine) : PSet X (rSet X) := by
  intro pins s σ H o i v ov iv u Q I ro ri rv rof
  obtain ⟨C, S, d1, d2, d3, rfl, hw, hK, r, h1, h2, h3, S', e, q⟩ := rof
  cases d1 with
  | ref n =>
    rw [RepV] at h1
    obtain ⟨a, rfl, ha⟩ := h1
    unfold setM at e
    dsimp only at e
    have gw : ∀ {o : HO}, Grow C (C.put a o) := Grow.write (List.mem_of_getElem? ha)
    cases e0 : S[n]? with
    | none => rw [e0] at e; cases e
    | some mo =>
      rw [e0] at e
      have ro' := r.ob n mo a e0 ha
      cases mo with
      | lst xs =>
        dsimp only at e
        cases d2 with
        | int k =>
          dsimp only at e
          cases ej : ixN xs.length k with
          | none => rw [ej] at e; cases e
          | some j =>
            rw [ej] at e
            cases e
            obtain ⟨vs, hv, t⟩ := ro'
            refine set_list pins s σ C.H _ _ _ ov iv u Q I ro ri rv ⟨a, vs, k, j, rfl, vInt h2, hv, by rw [← t.length]; exact ej, ?_⟩
            exact write_ok (mo := .lst (xs.set j d3)) r ha ⟨_, put_same, (t.set h3 j).grow gw r⟩ q
        | _ => cases e
      | dct ks ds =>
        dsimp only at e
        cases ek : keyV d2 with
        | none => rw [ek] at e; cases e
        | some k =>
          rw [ek] at e
          dsimp only at e
          split at e
          · rename_i hz
            cases e
            obtain ⟨vs, hv, l, nd, t⟩ := ro'
            have ekv := keyV_rep h2 ek
            subst ekv
            obtain ⟨vs', e1, e2, e3, e4⟩ := dput_rep (ks' := (dput ks ds k d3).1) (ds' := (dput ks ds k d3).2) t l nd h3 rfl
            refine set_dict hu pins s σ C.H _ _ _ ov iv u Q I ro ri rv ⟨a, _, rfl, .k hv ?_, ?_⟩
            · rw [List.length_zip, ← l, sizeLine_eq]; omega
            · rw [e1]
              exact write_ok (mo := .dct (dput ks ds k d3).1 (dput ks ds k d3).2) r ha ⟨vs', put_same, e2, e3, e4.grow gw r⟩ q
          · cases e
      | _ => cases e
  | _ => cases e
def mSub (e o i : ME) : MS := fun ρ S => (e ρ S).thn ρ fun d S1 => (o ρ S1).thn ρ fun od S2 => (i ρ S2).thn ρ fun id S3 => match setM od id d S3 with
  | some S4 => .nx ρ S4
  | none => .stk
section
variable {X : Cx} {W : WX} {e o i : Expr} {me mo mi : ME} {pos tpos apos : Pos}
/-- o[i] = v by its parts -/
abbrev SubAs (X : Cx) (o i : Expr) (tpos : Pos) : Prop := ∀ v, assign (.Subscript o i tpos) X.env v =
  (holding [v] (eval o X.env) >>= fun to => holding [v, to] (eval i X.env) >>= fun at' => standAt tpos >>= fun _ => holding [v, to, at'] (setItem to at' v) >>= fun _ => release [v, to, at'] [])
theorem ss_sub (hu : X.A.units + 1 < cLine) (he : SE X W e me) (ho : SE X W o mo) (hi : SE X W i mi) (ha : SubAs X o i tpos := by intro _; rfl) (hs : swapsWithSole [.Subscript o i tpos] e pos.line X.env = pure false := by rfl) (hw : swappedStores [.Subscript o i tpos] e X.env = pure none := by rfl)
    (h1 : (assignEach [.Subscript o i tpos] X.env).map (·.2) = [assign (.Subscript o i tpos) X.env] := by rfl) : SS X W (.Assign [.Subscript o i tpos] e pos) (mSub me mo mi) :=
  (ps_asg he (pg_sub ho hi (psetM hu) ha) hs hw h1).imp fun D σ H ⟨C, ρ, S, e, s, q⟩ => by
    subst e
    refine tE.thn s q fun d S1 C1 v s1 g1 r1 q1 => ?_
    refine tE.thn s1 q1 fun od S2 C2 ov s2 g2 r2 q2 => ?_
    refine tE.thn s2 q2 fun id S3 C3 iv s3 g3 r3 q3 => ?_
    refine ⟨C3, S3, od, id, d, rfl, s3.w, s3.K, s3.rs, r2.grow g3 s2.rs, r3, (r1.grow g2 s1.rs).grow g3 s2.rs, ?_⟩
    cases e : setM od id d S3 with
    | none => rw [e] at q3; exact q3.elim
    | some S4 =>
      rw [e] at q3
      exact ⟨S4, rfl, fun C' g r => q3 C' σ g r (s3.ev.grow g s3.rs) s3.ln⟩
def mIsi (t : String) (e : ME) : ME := fun ρ S => (e ρ S).bind fun d S1 => isiM t [d] S1
theorem se_isi {t : String} {x : Str} {p1 p2 : Pos} (hg : Gl X "isinstance") (hm : X.mg "isinstance" = none) (hgx : Gl X x) (hmx : X.mg x = none) (hvx : bootBuiltins x = some (.type t)) (he : SE X W e me) (hnx : x ≠ "__name__" := by decide) (hdx : (x == ("__debug__" : Str)) = false := by decide)
    (hs : starEach [e, .Name x p2] X.env = (false, eval e X.env) :: starEach [.Name x p2] X.env := by rfl) (hs2 : starEach [.Name x p2] X.env = (false, eval (.Name x p2) X.env) :: starEach [] X.env := by rfl) (hpl : (backTo pos (starEach [.Name x p2] X.env)).any (·.1) = false := by rfl) :
    SE X W (.Call (.Name "isinstance" p1) [e, .Name x p2] [] pos) (mIsi t me) :=
  (pe_callB call_isi hg hm PyProof.Rows.boot_isinstance (pa_cons he (pa_cons (pe_bltn (v := .ty t) hgx hmx hvx rfl hnx hdx) pa_nil hs2) hs) (by decide) (by decide) hs hpl).imp fun σ H Q ⟨C, ρ, S, e, s, q⟩ => by
    subst e
    refine tE.bind s q fun d S1 C1 v s1 g1 r1 q1 => ?_
    unfold isiM at q1
    dsimp only at q1
    cases eb : isiB S1 d t with
    | none => rw [eb] at q1; exact q1.elim
    | some b =>
      rw [eb] at q1
      unfold isiB at eb
      cases en : tyN S1 d with
      | none => rw [en] at eb; cases eb
      | some n =>
        rw [en] at eb
        dsimp only at eb
        have ty := tyN_rep s1.rs r1 en
        rw [s1.K] at ty
        exact ⟨v, .ty t, _, _, b, rfl, .ty t, ty, kit_ty eb, q1.now s1.rs _ (repB _)⟩
end
end Mi
set_option Elab.async false
set_option linter.all false
set_option maxRecDepth 100000
set_option maxHeartbeats 2000000
namespace Mi
open PySem PySem.Spec PyProof.Rows L2
def objOf (S : Sto) : MV → Option (Str × List Str × List MV)
  | .obj c fs vs => some (c, fs, vs)
  | .ref n => (match S[n]? with
    | some (.obj c fs vs) => some (c, fs, vs)
    | _ => none)
  | _ => none
theorem objOf_rep {C : RC} {S : Sto} {d : MV} {v : V} {c : Str} {fs : List Str} {ds : List MV} (r : RepS C S) (h : RepV C d v) (e : objOf S d = some (c, fs, ds)) :
    ∃ a dx vs, v = .ref a ∧ C.H a = some (.ins (He.ga C.K c) dx (fs.zip vs)) ∧ fs.length = vs.length ∧ RepVs C ds vs := by
  cases d with
  | obj c' fs' vs' =>
    rw [objOf] at e; cases e
    rw [RepV] at h
    obtain ⟨a, dx, vs, e, _, q, l, t⟩ := h
    exact ⟨a, dx, vs, e, q, l, t⟩
  | ref n =>
    rw [RepV] at h
    obtain ⟨a, e1, e2⟩ := h
    rw [objOf] at e
    cases q : S[n]? with
    | none => simp [q] at e
    | some o =>
      rw [q] at e
      cases o with
      | obj c' fs' vs' =>
        cases e
        obtain ⟨dx, vs, h1, h2, h3⟩ := r.ob n _ a q e2
        exact ⟨a, dx, vs, e1, h1, h2, h3⟩
      | _ => cases e
  | _ => cases e
def flook : List Str → List MV → Str → Option MV
  | f :: fs, d :: ds, g => if g = f then some d else flook fs ds g
  | _, _, _ => none
theorem str_beq_ne {a b : Str} (h : a ≠ b) : (a == b) = false := by
  cases e : (a == b) with
  | false => rfl
  | true => exact absurd (eq_of_beq e) h
theorem flook_rep {C : RC} {g : Str} {d : MV} : ∀ {fs : List Str} {ds : List MV} {vs : List V}, RepVs C ds vs → flook fs ds g = some d → ∃ v, (fs.zip vs).lookup g = some v ∧ RepV C d v
  | [], _, _, _, e => by simp [flook] at e
  | _ :: _, [], _, _, e => by simp [flook] at e
  | f :: fs, x :: ds, vs, t, e => by
    obtain ⟨v, vr, rfl, r, t⟩ := t.cons_inv
    rw [flook] at e
    by_cases h : g = f
    · rw [if_pos h] at e; cases e
      subst h
      exact ⟨v, by simp [List.lookup], r⟩
    · rw [if_neg h] at e
      obtain ⟨u, h1, h2⟩ := flook_rep t e
      refine ⟨u, ?_, h2⟩
      rw [List.zip_cons_cons, List.lookup_cons, str_beq_ne h]
      exact h1
theorem flook_none {C : RC} {g : Str} : ∀ {fs : List Str} {ds : List MV} {vs : List V}, RepVs C ds vs → fs.length = vs.length → flook fs ds g = none → (fs.zip vs).lookup g = none
  | [], _, _, _, _, _ => rfl
  | f :: fs, [], vs, t, l, e => by
    have := t.nil_inv
    subst this
    simp at l
  | f :: fs, x :: ds, vs, t, l, e => by
    obtain ⟨v, vr, rfl, r, t⟩ := t.cons_inv
    rw [flook] at e
    by_cases h : g = f
    · rw [if_pos h] at e; cases e
    · rw [if_neg h] at e
      rw [List.zip_cons_cons, List.lookup_cons, str_beq_ne h]
      exact flook_none t (by simpa using l) e
def fput : List Str → List MV → Str → MV → List Str × List MV
  | f :: fs, d :: ds, g, x => if f = g then (f :: fs, x :: ds) else (f :: (fput fs ds g x).1, d :: (fput fs ds g x).2)
  | _, _, g, x => ([g], [x])
theorem fput_rep {C : RC} {g : Str} {x : MV} {v : V} (r : RepV C x v) : ∀ {fs : List Str} {ds : List MV} {vs : List V}, RepVs C ds vs → fs.length = vs.length →
    ∃ vs', putF g v (fs.zip vs) = (fput fs ds g x).1.zip vs' ∧ (fput fs ds g x).1.length = vs'.length ∧ RepVs C (fput fs ds g x).2 vs'
  | [], ds, vs, t, l => by
    have : vs = [] := List.eq_nil_of_length_eq_zero (by simpa using l.symm)
    subst this
    refine ⟨[v], ?_, ?_, ?_⟩ <;> simp [fput, putF]
    exact .cons r .nil
  | f :: fs, [], vs, t, l => by
    have := t.nil_inv
    subst this
    simp at l
  | f :: fs, d :: ds, vs, t, l => by
    obtain ⟨u, vr, rfl, ru, t⟩ := t.cons_inv
    rw [fput, List.zip_cons_cons, putF]
    by_cases h : f = g
    · rw [if_pos h, if_pos h]
      exact ⟨v :: vr, by rw [List.zip_cons_cons], by simpa using l, .cons r t⟩
    · rw [if_neg h, if_neg h]
      obtain ⟨vs', h1, h2, h3⟩ := fput_rep r t (by simpa using l)
      exact ⟨u :: vs', by rw [h1, List.zip_cons_cons], by simpa using h2, .cons ru h3⟩
def fldM (c f : Str) (d : MV) (S : Sto) : R MV := match objOf S d with
  | some (c', fs, ds) => if c' = c then (match flook fs ds f with
    | some x => .ok x S
    | none => .stk) else .stk
  | none => .stk
def mFld (c f : Str) (o : ME) : ME := fun ρ S => (o ρ S).bind fun d S1 => fldM c f d S1
def fsetM (c f : Str) (o d : MV) (S : Sto) : Option Sto := match o with
  | .ref n => (match S[n]? with
    | some (.obj c' fs ds) => if c' = c ∧ fs.length < 900 then some (S.set n (.obj c' (fput fs ds f d).1 (fput fs ds f d).2)) else none
    | _ => none)
  | _ => none
def mFset (c f : Str) (e o : ME) : MS := fun ρ S => (e ρ S).thn ρ fun d S1 => (o ρ S1).thn ρ fun od S2 => match fsetM c f od d S2 with
  | some S3 => .nx ρ S3
  | none => .stk
section
variable {X : Cx} {W : WX} {e o : Expr} {es : List Expr} {me mo : ME} {mas : MA} {pos tpos apos p : Pos} {c f x : Str}
theorem se_fld (hc : Cls X.K (He.ga X.K c)) (hn : NoAttr X.K (He.ga X.K c) f) (ho : SE X W e me) (hb : attributeBase e f X.env (eval e X.env) = eval e X.env := by rfl) : SE X W (.Attribute e f pos) (mFld c f me) :=
  (pe_fld ho hb).imp fun σ H Q ⟨C, ρ, S, e, s, q⟩ => by
    subst e
    refine tE.bind s q fun d S1 C1 v s1 g1 r1 q1 => ?_
    unfold fldM at q1
    cases e1 : objOf S1 d with
    | none => rw [e1] at q1; exact q1.elim
    | some z =>
      obtain ⟨c', fs, ds⟩ := z
      rw [e1] at q1
      dsimp only at q1
      split at q1
      · rename_i ec
        subst ec
        cases e2 : flook fs ds f with
        | none => rw [e2] at q1; exact q1.elim
        | some x =>
          rw [e2] at q1
          obtain ⟨a, dx, vs, rfl, ha, l, t⟩ := objOf_rep s1.rs r1 e1
          obtain ⟨u, h1, h2⟩ := flook_rep t e2
          rw [s1.K] at ha
          exact ⟨a, _, dx, _, u, rfl, ha, hc, hn, h1, q1.now s1.rs u h2⟩
      · exact q1.elim
theorem ss_fset (hc : Cls X.K (He.ga X.K c)) (hn : NoAttr X.K (He.ga X.K c) f) (he : SE X W e me) (ho : SE X W o mo) (hs : swapsWith e (some (.Attribute o f tpos)) pos.line X.env = pure false := by rfl) : SS X W (.Assign [.Attribute o f tpos] e pos) (mFset c f me mo) :=
  (ps_fld ho he hs).imp fun D σ H ⟨C, ρ, S, e, s, q⟩ => by
    subst e
    refine tE.thn s q fun d S1 C1 v s1 g1 r1 q1 => ?_
    refine tE.thn s1 q1 fun od S2 C2 ov s2 g2 r2 q2 => ?_
    have rd := r1.grow g2 s1.rs
    unfold fsetM at q2
    cases od with
    | ref n =>
      dsimp only at q2
      rw [RepV] at r2
      obtain ⟨a, rfl, ha⟩ := r2
      cases e0 : S2[n]? with
      | none => rw [e0] at q2; exact q2.elim
      | some z =>
        rw [e0] at q2
        cases z with
        | obj c' fs ds =>
          dsimp only at q2
          split at q2
          · rename_i h
            split at h
            · rename_i hh
              obtain ⟨rfl, hl⟩ := hh
              cases h
              obtain ⟨dx, vs, h1, h2, h3⟩ := s2.rs.ob n _ a e0 ha
              obtain ⟨vs', k1, k2, k3⟩ := fput_rep (g := f) rd h3 h2
              have hK := s2.K
              rw [hK] at h1
              refine ⟨a, _, dx, _, rfl, h1, hc, hn, by rw [List.length_zip]; omega, ?_⟩
              have gw : ∀ {o : HO}, Grow C2 (C2.put a o) := Grow.write (List.mem_of_getElem? ha)
              rw [k1]
              have w := s2.rs.write (mo := .obj c' (fput fs ds f d).1 (fput fs ds f d).2) (o := .ins (He.ga X.K c') dx ((fput fs ds f d).1.zip vs')) ha ⟨dx, vs', by rw [put_same, ← hK]; rfl, k2, k3.grow gw s2.rs⟩
              exact q2 _ σ gw w (s2.ev.grow gw s2.rs) s2.ln
            · cases h
          · exact q2.elim
        | _ => exact q2.elim
    | _ => exact q2.elim
def makM (c : Str) (m : MF) (ds : List MV) (S : Sto) : R MV := (m (.ref S.length :: ds) (S ++ [.obj c [] []])).bind fun r S2 => match r with
  | .non => .ok (.ref S.length) S2
  | _ => .stk
end
section
variable {X : Cx} {CX : CXT} {k : Nat} {f C : Addr} {fd : FuncData} {ps : List Str} {sp : Sp} {E : L2.St → XK} {x m : Str} {p pos apos : Pos} {e o : Expr} {es : List Expr} {ta : TE} {t : TA}
/-- o.m(..), what is raised wished for at the slots -/
def tMethS (C : Addr) (m : Str) (sp : Sp) (E : L2.St → XK) (ta : TE) (t : TA) : TE := fun σ H Q => ta σ H fun x H1 => ∃ a dx fs, x = .ref a ∧ H1 a = some (.ins C dx fs) ∧ fs.lookup m = none ∧
  t σ H1 fun vs H2 => sp (x :: vs) H2 Q (E σ)
/-- a method's call by its parts -/
abbrev MethAs (X : Cx) (o : Expr) (m : Str) (apos pos : Pos) (es : List Expr) (pl : Sem Bool) : Prop := eval (.Call (.Attribute o m apos) es [] pos) X.env =
  (eval o X.env >>= fun ov => standAt apos.atName >>= fun _ => holding [ov] (getMethod ov m pl) >>= fun q => callWith pos q.1 q.2 (backTo pos (starEach es X.env)) (backToKw pos (keywordEach [] X.env)))
/-- up to the arguments -/
theorem meth_run {pl : Sem Bool} {pins : List (Addr × Obj)} {σ : L2.St} {H : Hp} {s : Shared} {Q : VK} {ws : List Expr} {G : V → Hp → Prop} (ho : PE X o ta) (c : Cls X.K C) (hm : Meth X.K C m f) (form : MethAs X o m apos pos ws pl) (inv : Inv X pins σ H s)
    (h : ta σ H fun x H1 => ∃ a dx fs, x = .ref a ∧ H1 a = some (.ins C dx fs) ∧ fs.lookup m = none ∧ G x H1)
    (go : ∀ a H1 s1, Inv X pins σ H1 s1 → G (.ref a) H1 → wpAny (model X.prog X.w) X.A (callWith pos (.ref f) [.ref a] (backTo pos (starEach ws X.env)) []) (EP X pins σ Q) X.xe s1) :
    wpAny (model X.prog X.w) X.A (eval (.Call (.Attribute o m apos) ws [] pos) X.env) (EP X pins σ Q) X.xe s :=
  PySem.W.methodCall_KW (thn (ho.run pins s σ H _ inv h) fun _ s1 ⟨_, H1, inv1, at1, a, _, _, is1, obj1, no1, g⟩ => by
    cases is1; cases at1
    exact getmeth_ok inv1 obj1 c hm no1 (go a H1 s1 inv1 g)) form
theorem pe_methS1 {pl : Sem Bool} (he : PE X o ta) (c : Cls X.K C) (hm : Meth X.K C m f) (F : FnOk X.prog X.w X.K X.mg X.base CX k f fd ps sp) (hr : Room k X.A) (hb : Binds X.K fd ps []) (hx : ∀ σ, PassesAt CX X σ (E σ)) (ha : PA X (e :: es) t)
    (first : starEach (e :: es) X.env = (false, eval e X.env) :: starEach es X.env) (plain : (backTo pos (starEach es X.env)).any (·.1) = false) (form : MethAs X o m apos pos (e :: es) pl) : PE X (.Call (.Attribute o m apos) (e :: es) [] pos) (tMethS C m sp E ta t) where
  run pins s σ H Q inv q := meth_run (G := fun x H1 => t σ H1 fun vs H2 => sp (x :: vs) H2 Q (E σ)) he c hm form inv q fun a H1 s1 inv1 q1 =>
    PySem.W.callWith_K (h₀ := X.base) inv1.ok.mod.kin hm.kp (thn (ha.run pos pins s1 σ H1 _ inv1 q1) fun us _ ⟨vs, _, inv2, rs, q2⟩ => ⟨inv2.kIn, run_fnS F hr hb (hx σ) inv2 (.cons (show RelV (.ref a) (.ref a) from rfl) rs) q2⟩) first plain
theorem pe_methS0 {pl : Sem Bool} (he : PE X o ta) (c : Cls X.K C) (hm : Meth X.K C m f) (F : FnOk X.prog X.w X.K X.mg X.base CX k f fd ps sp) (hr : Room k X.A) (hb : Binds X.K fd ps []) (hx : ∀ σ, PassesAt CX X σ (E σ))
    (form : MethAs X o m apos pos [] pl) : PE X (.Call (.Attribute o m apos) [] [] pos) (tMethS C m sp E ta tNil) where
  run pins s σ H Q inv q := meth_run (G := fun x H1 => sp [x] H1 Q (E σ)) he c hm form inv q fun a H1 s1 inv1 q1 =>
    PySem.W.callWith_K0 (first := [.ref a]) inv1.kIn hm.kp (run_fnS F hr hb (hx σ) inv1 (.cons (show RelV (.ref a) (.ref a) from rfl) .nil) q1)
/-- C(..) with an __init__ of its own: the new object's two cells lie at the heap's end -/
theorem run_makeS {pins : List (Addr × Obj)} {σ : L2.St} {H : Hp} {s : Shared} {Q : VK} {us : List Value} {vs : List V} (M : Mk X.K C f) (F : FnOk X.prog X.w X.K X.mg X.base CX k f fd ps sp) (hr : Room (k + 1) X.A) (hb : Binds X.K fd ps [])
    (hx : PassesAt CX X σ (E σ)) (inv : Inv X pins σ H s) (rs : Vals vs us)
    (h : ∀ x dx, H x = none → H dx = none → dx ≠ x → sp (.ref x :: vs) (upd (upd H dx (.own x)) x (.ins C dx [])) (fun v H2 => v = .non ∧ Q (.ref x) H2) (E σ)) :
    wpAny (model X.prog X.w) X.A (call (.ref C) us []) (EP X pins σ Q) X.xe s := by
  have made := Inv.made (C := C) inv
  have self : Vals (V.ref (s.heap.objs.size + 1) :: vs) (Value.ref (s.heap.objs.size + 1) :: us) := .cons (show RelV (.ref _) (.ref _) from rfl) rs
  have told := h _ _ (inv.hok.fresh (Nat.le_add_right _ 1)) (inv.hok.fresh Nat.le.refl) fun z => Nat.succ_ne_self _ z.symm
  have bound := hb _ (Value.ref (s.heap.objs.size + 1) :: us) made.kIn (by rw [List.append_nil]; exact self.length.symm.trans (F.len _ _ _ _ told))
  simp only [List.append_nil] at bound
  refine wpAny_call (make_map inv.kIn M.makes M.init (beq_iff_eq.mp M.fn) (codeAny_mono (F.run _ X.stack _ _ ⟨Value.ref (s.heap.objs.size + 1) :: us, []⟩ _ _ _ (E σ) (hr.make C us []) (made.env0.make C us []) bound self told) ?_))
  rintro (x | fl) s' res
  · exact hx pins _ _ x s' made res
  · cases fl with
    | ret _ =>
      obtain ⟨_, H', inv3, is, rfl, q⟩ := made.after res
      exact ⟨is, V.ref (s.heap.objs.size + 1), H', inv3, rfl, q⟩
    | _ => exact res.elim
def tMakeS (C : Addr) (sp : Sp) (E : L2.St → XK) (t : TA) : TE := fun σ H Q => t σ H fun vs H1 => ∀ x dx, H1 x = none → H1 dx = none → dx ≠ x →
  sp (.ref x :: vs) (upd (upd H1 dx (.own x)) x (.ins C dx [])) (fun v H2 => v = .non ∧ Q (.ref x) H2) (E σ)
theorem pe_makeS (M : Mk X.K C f) (F : FnOk X.prog X.w X.K X.mg X.base CX k f fd ps sp) (hr : Room (k + 1) X.A) (hg : Gl X x) (hm : X.mg x = some (.ref C)) (hb : Binds X.K fd ps []) (hx : ∀ σ, PassesAt CX X σ (E σ)) (ha : PA X (e :: es) t)
    (nd : (x == ("__debug__" : Str)) = false) (first : starEach (e :: es) X.env = (false, eval e X.env) :: starEach es X.env) (plain : (backTo pos (starEach es X.env)).any (·.1) = false) : PE X (.Call (.Name x p) (e :: es) [] pos) (tMakeS C sp E t) where
  run pins s σ H Q inv q := wpAny_Call_Name_kw (ld_glob inv hg hm (PySem.W.callWith_K (h₀ := X.base) inv.ok.mod.kin M.kp (thn (ha.run pos pins s σ H _ inv q) fun us s1 ⟨vs, H1, inv1, rs, q1⟩ => ⟨inv1.kIn, run_makeS M F hr hb (hx σ) inv1 rs q1⟩) first plain) nd)
end
section
variable {X : Cx} {W : WX} {e o : Expr} {es : List Expr} {me mo : ME} {mas : MA} {pos tpos apos p : Pos} {c x mn : Str} {k n : Nat} {f : Addr} {fd : FuncData} {ps : List Str} {m : MF}
theorem se_make (M : Mk X.K (He.ga X.K c) f) (F : FnOk X.prog X.w X.K X.mg X.base (L2.CX X.prog X.w) k f fd ps (spM X.w X.K (n + 1) m)) (hr : Room (k + 1) X.A) (hg : Gl X x) (hm : X.mg x = some (.ref (He.ga X.K c))) (hb : Binds X.K fd ps []) (tk : Takes X W)
    (ha : SA X W (e :: es) mas) (hl : LenA mas n) (hdb : (x == ("__debug__" : Str)) = false := by decide) (he : starEach (e :: es) X.env = (false, eval e X.env) :: starEach es X.env := by rfl) (hpl : (backTo pos (starEach es X.env)).any (·.1) = false := by rfl) :
    SE X W (.Call (.Name x p) (e :: es) [] pos) (mCallF (makM c m) mas) :=
  (pe_makeS (E := WE W) M F hr hg hm hb (passAt tk) ha hdb he hpl).imp fun σ H Q ⟨C, ρ, S, e, s, q⟩ => by
    subst e
    refine ⟨C, ρ, S, rfl, s, ?_⟩
    refine Wants.mono (Wants.bind q) fun ds S1 C1 g r1 e1 q1 vs rv => ?_
    intro a dx ha hdx hne
    have s1 := s.grow g r1
    have g2 : Grow C1 (C1.put dx (.own a)) := Grow.put hdx
    have r2 : RepS (C1.put dx (.own a)) S1 := r1.put hdx
    have h2 : (C1.put dx (.own a)).H a = none := by
      show upd C1.H dx _ a = none
      rw [upd_ne (Ne.symm hne)]; exact ha
    have g3 := Grow.cell (o := .ins (He.ga X.K c) dx []) h2
    have r3 : RepS ((C1.put dx (.own a)).cell a (.ins (He.ga X.K c) dx [])) (S1 ++ [.obj c [] []]) :=
      r2.cell h2 ⟨dx, [], by rw [cell_same]; show _ = some (HO.ins (He.ga C1.K c) dx []); rw [s1.K], rfl, .nil⟩
    have q1 := q1.1
    refine ⟨by rw [List.length_cons, ← rv.length, hl _ _ _ _ e1], _, _, .ref S1.length :: ds, rfl, (g2.trans g3).w.trans s1.w, (g2.trans g3).K.trans s1.K, r3, .cons (cell_ref r2) (rv.grow (g2.trans g3) r1), ?_⟩
    have q2 : Wants W σ C1 ((m (.ref S1.length :: ds) (S1 ++ [.obj c [] []])).bind fun r S2 => match r with
      | .non => .ok (.ref S1.length) S2
      | _ => .stk) (fun d _ C' => ∀ v, RepV C' d v → Q v C'.H) := q1
    cases e2 : m (.ref S1.length :: ds) (S1 ++ [.obj c [] []]) with
    | exc c' d S' => rw [e2] at q2; exact fun C' cls dx' g' r' e' => q2 C' cls dx' ((g2.trans g3).trans g') r' e'
    | stk => rw [e2] at q2; exact q2.elim
    | ok r S2 =>
      rw [e2] at q2
      intro C' g' r' v rv'
      rw [R.bind_ok] at q2
      cases r with
      | non => exact ⟨vNon rv', q2.here ((g2.trans g3).trans g') r' _ ((cell_ref r2).grow g' r3)⟩
      | _ => exact q2.elim
def methM (c mn : Str) (m : MF) (od : MV) (S : Sto) : Bool := match objOf S od with
  | some (c', fs, ds) => decide (c' = c) && (flook fs ds mn).isNone
  | none => false
def mMeth (c mn : Str) (m : MF) (o : ME) (as : MA) : ME := fun ρ S => (o ρ S).bind fun od S1 => if methM c mn m od S1 then (as ρ S1).bind fun ds S2 => m (od :: ds) S2 else .stk
theorem meth_imp {σ : L2.St} {H : Hp} {Q : VK} (hl : LenA mas n) (h : tE X W (mMeth c mn m mo mas) σ H Q) : tMethS (He.ga X.K c) mn (spM X.w X.K (n + 1) m) (WE W) (tE X W mo) (tA X W mas) σ H Q := by
  obtain ⟨C, ρ, S, e, s, q⟩ := h
  subst e
  refine tE.bind s q fun od S1 C1 v s1 g1 r1 q1 => ?_
  split at q1
  · rename_i hh
    unfold methM at hh
    cases e1 : objOf S1 od with
    | none => rw [e1] at hh; cases hh
    | some z =>
      obtain ⟨c', fs, ds⟩ := z
      rw [e1] at hh
      simp only [Bool.and_eq_true, decide_eq_true_eq, Option.isNone_iff_eq_none] at hh
      obtain ⟨rfl, hn⟩ := hh
      obtain ⟨a, dx, vs, rfl, ha, l, t⟩ := objOf_rep s1.rs r1 e1
      rw [s1.K] at ha
      refine ⟨a, dx, _, rfl, ha, flook_none t l hn, C1, ρ, S1, rfl, s1, ?_⟩
      refine Wants.mono (Wants.bind q1) fun ds S2 C2 g2 r2 e2 q2 vs rv => ?_
      refine ⟨by rw [List.length_cons, ← rv.length, hl _ _ _ _ e2], C2, S2, od :: ds, rfl, g2.w.trans s1.w, g2.K.trans s1.K, r2, .cons (r1.grow g2 s1.rs) rv, ?_⟩
      exact q2.1.wish fun cls dx H h => h
  · exact q1.elim
theorem se_meth {pl : Sem Bool} (cl : Cls X.K (He.ga X.K c)) (hm : Meth X.K (He.ga X.K c) mn f) (F : FnOk X.prog X.w X.K X.mg X.base (L2.CX X.prog X.w) k f fd ps (spM X.w X.K (n + 1) m)) (hr : Room k X.A) (hb : Binds X.K fd ps []) (tk : Takes X W) (ho : SE X W o mo) (ha : SA X W (e :: es) mas) (hl : LenA mas n)
    (hst : starEach (e :: es) X.env = (false, eval e X.env) :: starEach es X.env := by rfl)
    (hpl : (backTo pos (starEach es X.env)).any (·.1) = false := by rfl) (ht : MethAs X o mn apos pos (e :: es) pl := by rfl) :
    SE X W (.Call (.Attribute o mn apos) (e :: es) [] pos) (mMeth c mn m mo mas) :=
  (pe_methS1 (E := WE W) ho cl hm F hr hb (passAt tk) ha hst hpl ht).imp fun σ H Q h => meth_imp hl h
theorem se_meth0 {pl : Sem Bool} (cl : Cls X.K (He.ga X.K c)) (hm : Meth X.K (He.ga X.K c) mn f) (F : FnOk X.prog X.w X.K X.mg X.base (L2.CX X.prog X.w) k f fd ps (spM X.w X.K 1 m)) (hr : Room k X.A) (hb : Binds X.K fd ps []) (tk : Takes X W) (ho : SE X W o mo)
    (ht : MethAs X o mn apos pos [] pl := by rfl) :
    SE X W (.Call (.Attribute o mn apos) [] [] pos) (mMeth c mn m mo mNil) :=
  (pe_methS0 (E := WE W) ho cl hm F hr hb (passAt tk) ht).imp fun σ H Q h => by
    have z := meth_imp (n := 0) lenNil h
    obtain ⟨C, ρ, S, e, s, w⟩ := z
    refine ⟨C, ρ, S, e, s, w.mono fun od S1 C1 g1 r1 e1 q v rv => ?_⟩
    obtain ⟨a, dx, fs, h1, h2, h3, C2, ρ2, S2, e2, s2, w2⟩ := q v rv
    refine ⟨a, dx, fs, h1, h2, h3, ?_⟩
    have := w2.now s2.rs [] .nil
    rw [e2] at this
    exact this
def eqO (c : Str) (m : MF) (a b : MV) (S : Sto) : R MV := match objOf S a, objOf S b with
  | some (c1, _, _), some (c2, _, _) => if c1 = c ∧ c2 = c then ((m [a, b] S).calm.bind fun r S' => match r with
    | .bl k => .ok (.bl k) S'
    | _ => .stk) else .stk
  | _, _ => .stk
theorem pu_eqO {c : Str} {m : MF} : Pure2 (eqO c m) := by
  intro a b S c' d S' h
  unfold eqO at h
  split at h
  · split at h
    · rename_i h1 h2
      revert h
      cases m [a, b] S with
      | ok r S1 =>
        intro h
        rw [R.calm_ok, R.bind_ok] at h
        split at h <;> cases h
      | exc c d S1 => intro h; cases h
      | stk => intro h; cases h
    · cases h
  · cases h
theorem opM_own (F : FnOk X.prog X.w X.K X.mg X.base (L2.CX X.prog X.w) k f fd ps (spM X.w X.K 2 m)) (hr : Room k X.A) (hs : PySem.W.findIn X.K (.ref (He.ga X.K c)) "__eq__" = some (some (.ref f))) (hf : PySem.W.isFn X.K (.ref f) = true) (hb : Binds X.K fd ps []) :
    OpR X (compareOp .Eq) (rOf X (eqO c m)) := by
  intro pins s σ H x y v u Q I rx ry rof
  obtain ⟨C, S, d1, d2, rfl, hw, hK, r, h1, h2, a, S', e, q⟩ := rof
  unfold eqO at e
  split at e
  · rename_i c1 f1 v1 c2 f2 v2 e1 e2
    split at e
    · rename_i hc
      obtain ⟨rfl, rfl⟩ := hc
      obtain ⟨a1, dx1, vs1, rfl, ha1, _⟩ := objOf_rep r h1 e1
      obtain ⟨a2, dx2, vs2, rfl, ha2, _⟩ := objOf_rep r h2 e2
      cases rx
      cases ry
      rw [hK] at ha1 ha2
      obtain ⟨_, at1, _⟩ := ins_get I.hok ha1
      obtain ⟨_, at2, _⟩ := ins_get I.hok ha2
      obtain ⟨_, look1, _⟩ := at1.look
      obtain ⟨_, look2, _⟩ := at2.look
      obtain ⟨_, hF⟩ := I.fr
      have hsp : spM X.w X.K 2 m [.ref a1, .ref a2] C.H (fun v H' => (∃ b, v = .bl b) ∧ Q v H') (fun _ _ _ => False) := by
        refine ⟨rfl, C, S, [d1, d2], rfl, hw, hK, r, .cons h1 (.cons h2 .nil), ?_⟩
        cases e3 : m [d1, d2] S with
        | exc c d S' => rw [e3] at e; cases e
        | stk => rw [e3] at e; cases e
        | ok r1 S1 =>
          rw [e3, R.calm_ok, R.bind_ok] at e
          cases r1 with
          | bl b =>
            cases e
            exact fun C' g' r' v' rv' => ⟨⟨b, vBl rv'⟩, q C' g' r' v' rv'⟩
          | _ => cases e
      have never : PassesAt (L2.CX X.prog X.w) X σ fun _ _ _ => False := fun _ _ _ _ _ _ ⟨_, _, _, _, _, _, _, _, _, _, _, _, z⟩ => z.elim
      have ran := run_fnS (E := fun _ => fun _ _ _ => False) (us := [.ref a1, .ref a2]) (pins := pins) F hr hb never I (.cons (show RelV (.ref a1) (.ref a1) from rfl) (.cons (show RelV (.ref a2) (.ref a2) from rfl) .nil)) hsp
      refine PySem.W.cmp_K (op := .Eq) hr.units0 hF I.ok.mod.kin look1 look2.type (by simp [PySem.W.notFirst]) hs hf (wpAny_mono ran ?_ fun _ _ z => z)
      rintro u' s' ⟨v', H', I', rz, ⟨b, rfl⟩, ex⟩
      cases rz
      exact ⟨V.bl b, H', I', rfl, ex⟩
    · cases e
  · cases e
end
end Mi
set_option Elab.async false
set_option linter.all false
set_option maxRecDepth 100000
set_option maxHeartbeats 2000000
namespace Mi
open PySem PySem.Spec PyProof.Rows L2
def spXI (K : PySem.W.Frag) (C : Addr) (f : Str) : Sp := fun vs H Q _ => ∃ a v, vs = [.ref a, v] ∧ H a = some (exo a C none) ∧ ∀ d, H d = none → d ≠ a → Q .non (upd (upd H d (exd d [(f, v)])) a (exo a C (some d)))
theorem xi_body {X : Cx} {body : List Stmt} {C : Addr} {f : Str} {vs : List V} {H : Hp} {Q : VK} {E : XK} {N : List Str} {n0 n1 : Str} {p0 p1 pp pos : Pos} (hN : X.N = [n0, n1]) (hNN : N = [n0, n1]) (v0 : Vis X.env.scope n0) (v1 : Vis X.env.scope n1) (T : OexC X.K C) (hno : PySem.W.findIn X.K (.ref C) f = some none)
    (d0 : (n0 == ("__debug__" : Str)) = false) (c0 : (n0 == ("__classdict__" : Str)) = false) (d1 : (n1 == ("__debug__" : Str)) = false) (c1 : (n1 == ("__classdict__" : Str)) = false)
    (hs : swapsWith (.Name n1 p1) (some (.Attribute (.Name n0 p0) f pp)) pos.line X.env = pure false) (hb : body = [.Assign [.Attribute (.Name n0 p0) f pp] (.Name n1 p1) pos]) (h : spXI X.K C f vs H Q E) :
    ∃ t, PSs X body t ∧ t { nx := fun _ H' => Q .non H', rt := Q } (L2.start N vs) H := by
  subst hb
  refine ⟨_, pss_one (ps_ost (pe_var (i := 0) (by rw [hN]; rfl) v0 d0 c0) (pe_var (i := 1) (by rw [hN]; rfl) v1 d1 c1) hs), ?_⟩
  obtain ⟨a, v, rfl, ha, q⟩ := h
  subst hNN
  exact ⟨v, rfl, .ref a, rfl, a, C, rfl, T, hno, .inl ⟨ha, fun dx hd ne => q dx hd ne⟩⟩
def mRaise (c f : Str) (e : ME) : MS := fun ρ S => (e ρ S).thn ρ fun d S1 => .exc c (.obj c [f] [d]) ρ S1
section
variable {X : Cx} {W : WX} {e : Expr} {me : ME} {p pos rpos : Pos} {x c f : Str} {fI : Addr} {k : Nat} {fd : FuncData} {ps : List Str}
theorem ss_raise1 (hcalm : X.calm = true) (tk : Takes X W) (T : OexC X.K (He.ga X.K c)) (iC : PySem.W.findIn X.K (.ref (He.ga X.K c)) "__init__" = some (some (.ref fI))) (tI : PySem.W.typeIn X.K (.ref fI) = some (.type "function"))
    (F1 : FnOk X.prog X.w X.K X.mg X.base (L2.CX X.prog X.w) k fI fd ps (spXI X.K (He.ga X.K c) f)) (hr : Room (k + 1) X.A) (hb : Binds X.K fd ps []) (hg : Gl X x) (hm : X.mg x = some (.ref (He.ga X.K c))) (he : SE X W e me)
    (hdb : (x == ("__debug__" : Str)) = false := by decide) (hs : starEach [e] X.env = (false, eval e X.env) :: starEach [] X.env := by rfl) (hpl : (backTo pos (starEach [] X.env)).any (·.1) = false := by rfl) :
    SS X W (.Raise (some (.Call (.Name x p) [e] [] pos)) none rpos) (mRaise c f me) :=
  (ps_raise hcalm tk (pmk_oex (ds := []) (dvs := []) T iC tI F1 hr hb .nil passL hg hm (pa_cons he pa_nil hs) hdb hs hpl)).imp fun D σ H ⟨C, ρ, S, e, s, q⟩ => by
    subst e
    refine tE.thn s q fun d S1 C1 v s1 g1 r1 q1 => ?_
    refine ⟨by simp, fun a ha => ?_⟩
    refine ⟨a, v, rfl, upd_same, fun dx hd ne => ⟨rfl, dx, [(f, v)], upd_same, by rw [upd_ne ne, upd_same], ?_, ?_⟩⟩
    · rw [upd_ne ne] at hd; exact hd
    · have hd1 : C1.H dx = none := by rw [upd_ne ne] at hd; exact hd
      have e1 : upd (del (upd (upd (upd C1.H a (exo a (He.ga X.K c) none)) dx (exd dx [(f, v)])) a (exo a (He.ga X.K c) (some dx))) a) dx (.xd [(f, v)]) = upd C1.H dx (.xd [(f, v)]) := by
        funext b
        by_cases h : b = dx
        · subst h; rw [upd_same, upd_same]
        · rw [upd_ne h, upd_ne h]
          by_cases h2 : b = a
          · subst h2; rw [del_same, ha]
          · rw [del_ne h2, upd_ne h2, upd_ne h, upd_ne h2]
      rw [e1]
      have gp : Grow C1 (C1.put dx (.xd [(f, v)])) := Grow.put hd1
      exact q1 _ σ _ _ gp (s1.rs.put hd1) (s1.ev.grow gp s1.rs) s1.ln ⟨by show _ = Value.ref (He.ga C1.K c); rw [s1.K], .inr ⟨dx, f, d, v, rfl, rfl, put_same, r1.grow gp s1.rs⟩⟩
end
theorem tS.to {X X' : Cx} {W : WX} {m : MS} (h1 : X'.w = X.w) (h2 : X'.K = X.K) {D : Ends} {σ : L2.St} {H : Hp} (h : tS X W m D σ H) : tS X' W m D σ H := by
  obtain ⟨C, ρ, S, e, s, q⟩ := h
  exact ⟨C, ρ, S, e, ⟨s.w.trans h1.symm, s.K.trans h2.symm, s.rs, s.ev, s.ln⟩, q⟩
def RS.calm : RS → RS
  | .exc _ _ _ _ => .stk
  | r => r
theorem WantS.calm {W : WX} {D : Ends} {C : RC} {r : RS} (h : WantS W D C r.calm) : WantS WNo D C r := by
  cases r with
  | nx ρ S => exact h
  | rt d S => exact h
  | exc c d ρ S => exact h.elim
  | stk => exact h
def mTry (ct : Str → Option Bool) (body suite : MS) : MS := fun ρ S => match body ρ S with
  | .exc c d ρ1 S1 => (match ct c with
    | some true => (suite ρ1 S1).calm
    | some false => .exc c d ρ1 S1
    | none => .stk)
  | r => r
/-- e.f of the caught one, kept in the slot j; the name's slot i -/
def mTryF (ct : Str → Option Bool) (f : Str) (i j : Nat) (body : MS) : MS := fun ρ S => match body ρ S with
  | .exc c d ρ1 S1 => (match ct c with
    | some true => (match d with
      | .obj _ [g] [x] => if g = f ∧ i ≠ j ∧ i < ρ1.length then .nx (((ρ1.set i none).set j (some x)).set i none) S1 else .stk
      | _ => .stk)
    | some false => .exc c d ρ1 S1
    | none => .stk)
  | r => r
section
variable {X : Cx} {W : WX} {x n : Str} {c : Value} {body suite : List Stmt} {b₀ : Stmt} {np pos pos' : Pos} {ct : Str → Option Bool} {mb ms : MS}
theorem ss_try (hs : X.stack = X.env :: X.outer) (hf : X.env.frame = some X.env.locals) (hc : Names X x c) (tk : Takes X W) (hct : ∀ c' b, ct c' = some b → PySem.W.exmOne X.K (.ref (He.ga X.K c')) c = some b)
    (hb : ∀ (W : WX) (pn : List (Addr × Obj)) (xe : Value → Shared → Prop), Takes (X.tr pn xe) W → PassesOwn (model X.prog X.w) X.A X.env xe → SSs (X.tr pn xe) W body mb)
    (hsu : ∀ (a : Addr) (pn : List (Addr × Obj)), SSs (X.suite a pn) WNo (b₀ :: suite) ms) :
    SS X W (.Try body [.ExceptHandler (some (.Name x np)) none (b₀ :: suite) pos'] [] [] pos) (mTry ct mb ms) :=
  (ps_try_only (tb := fun W => tS X W mb) (ts := fun _ _ _ => tS X WNo ms) hs hf hc tk (fun W pn xe t p => (hb W pn xe t p).imp fun D σ H h => tS.to (X := X) (X' := X.tr pn xe) rfl rfl h)
    (fun a oe cls d pn _ _ => (hsu a ((a, oe) :: pn)).imp fun D σ H h => tS.to (X := X) (X' := X.suite a ((a, oe) :: pn)) rfl rfl h)).imp fun D σ H ⟨C, ρ, S, e, s, q⟩ => by
    subst e
    refine ⟨C, ρ, S, rfl, s, ?_⟩
    unfold mTry at q
    cases e : mb ρ S with
    | nx ρ1 S1 => rw [e] at q; exact q
    | rt d S1 => rw [e] at q; exact q
    | stk => rw [e] at q; exact q
    | exc c' d ρ1 S1 =>
      rw [e] at q
      dsimp only at q
      intro C' σ' cls dx g r ev l xr
      have hK : C'.K = X.K := g.K.trans s.K
      have ec := xr.1
      rw [hK] at ec
      cases eb : ct c' with
      | none => rw [eb] at q; exact q.elim
      | some b =>
        rw [eb] at q
        have he := hct c' b eb
        refine ⟨b, by rw [ec]; exact he, fun hb1 a ha => ?_, fun hb0 => ?_⟩
        · subst hb1
          exact ⟨C', ρ1, S1, rfl, ⟨g.w.trans s.w, hK, r, ev, l⟩, (WantS.calm q).grow g⟩
        · subst hb0
          exact q C' σ' cls dx g r ev l xr
theorem ss_tryF {i j : Nat} {f c : Str} {t : Str} {np2 tp ap pa : Pos} (hs : X.stack = X.env :: X.outer) (hf : X.env.frame = some X.env.locals) (hN : X.N.Nodup) (hi : X.N[i]? = some n) (hln : X.env.kindOf n = some .local) (hc : Names X x (.ref (He.ga X.K c))) (tk : Takes X W)
    (hct : ∀ c' b, ct c' = some b → PySem.W.exmOne X.K (.ref (He.ga X.K c')) (.ref (He.ga X.K c)) = some b) (hone : ∀ c', ct c' = some true → c' = c) (T : XfC X.K (He.ga X.K c)) (hno : PySem.W.findIn X.K (.ref (He.ga X.K c)) f = some none)
    (hj : X.N[j]? = some t) (hjl : X.env.scope.names.lookup t = some .local) (hnd : (n == ("__debug__" : Str)) = false) (hnc : (n == ("__classdict__" : Str)) = false)
    (hb : ∀ (W : WX) (pn : List (Addr × Obj)) (xe : Value → Shared → Prop), Takes (X.tr pn xe) W → PassesOwn (model X.prog X.w) X.A X.env xe → SSs (X.tr pn xe) W body mb)
    (hatt : attributeBase (.Name n np2) f X.env (eval (.Name n np2) X.env) = eval (.Name n np2) X.env := by rfl) (hsw : swapsWith (.Attribute (.Name n np2) f ap) (some (.Name t tp)) pa.line X.env = pure false := by rfl) :
    SS X W (.Try body [.ExceptHandler (some (.Name x np)) (some n) [.Assign [.Name t tp] (.Attribute (.Name n np2) f ap) pa] pos'] [] [] pos) (mTryF ct f i j mb) :=
  (ps_try_as (i := i) (tb := fun W => tS X W mb) (ts := fun a cls d => tAsg (tXf a cls d (He.ga X.K c) f (tVar i)) (gName j)) hs hf hN hi hln hc tk (fun W pn xe t p => (hb W pn xe t p).imp fun D σ H h => tS.to (X := X) (X' := X.tr pn xe) rfl rfl h)
    (fun a oe cls d pn hz hf => pss_one (ps_set (X := X.suite a ((a, oe) :: pn)) hN hj (.inl hjl) (pe_xf T hno hz hf (pe_var (X := X.suite a ((a, oe) :: pn)) hi (.inl hln) hnd hnc) hatt) hsw (.inr hjl)))).imp fun D σ H ⟨C, ρ, S, e, s, q⟩ => by
    subst e
    refine ⟨C, ρ, S, rfl, s, ?_⟩
    unfold mTryF at q
    cases e : mb ρ S with
    | nx ρ1 S1 => rw [e] at q; exact q
    | rt d S1 => rw [e] at q; exact q
    | stk => rw [e] at q; exact q
    | exc c' d ρ1 S1 =>
      rw [e] at q
      dsimp only at q
      intro C' σ' cls dx g r ev l xr
      have hK : C'.K = X.K := g.K.trans s.K
      have ec := xr.1
      rw [hK] at ec
      cases eb : ct c' with
      | none => rw [eb] at q; exact q.elim
      | some b =>
        rw [eb] at q
        have he := hct c' b eb
        refine ⟨b, by rw [ec]; exact he, fun hb1 a ha => ?_, fun hb0 => ?_⟩
        · subst hb1
          dsimp only at q
          split at q
          · rename_i c2 g2 x2
            split at q
            · rename_i hh
              obtain ⟨rfl, hij, hil⟩ := hh
              rcases xr.2 with ⟨z, _⟩ | ⟨a2, f2, d2, v2, z, ed, eh, rv⟩
              · cases z
              · cases z
                have hc' := hone c' eb
                subst hc'
                refine ⟨.ref a, by rw [List.getElem?_set_self (by rw [← l]; exact hil)], rfl, ec, a2, _, v2, ed, eh, by simp [List.lookup], ?_⟩
                refine q C' _ g r ?_ (by simp [l])
                intro k d3 e3
                by_cases hk : k = i
                · subst hk
                  by_cases hl2 : k < (((ρ1.set k none).set j (some x2))).length
                  · rw [List.getElem?_set_self hl2] at e3; cases e3
                  · rw [List.getElem?_eq_none (by simpa using hl2)] at e3; cases e3
                · rw [List.getElem?_set_ne (Ne.symm hk)] at e3
                  by_cases hkj : k = j
                  · subst hkj
                    by_cases hl2 : k < (ρ1.set i none).length
                    · rw [List.getElem?_set_self hl2] at e3
                      cases e3
                      refine ⟨v2, ?_, rv⟩
                      rw [List.getElem?_set_ne (Ne.symm hk), List.getElem?_set_self (by simpa [← l] using hl2)]
                    · rw [List.getElem?_eq_none (by simpa using hl2)] at e3; cases e3
                  · rw [List.getElem?_set_ne (Ne.symm hkj), List.getElem?_set_ne (Ne.symm hk)] at e3
                    obtain ⟨u, h1, h2⟩ := ev k d3 e3
                    refine ⟨u, ?_, h2⟩
                    rw [List.getElem?_set_ne (Ne.symm hk), List.getElem?_set_ne (Ne.symm hkj), List.getElem?_set_ne (Ne.symm hk)]
                    exact h1
            · exact q.elim
          · exact q.elim
        · subst hb0
          exact q C' σ' cls dx g r ev l xr
end
end Mi
set_option Elab.async false
set_option linter.all false
set_option maxRecDepth 100000
set_option maxHeartbeats 2000000
namespace Mi
open PySem PySem.Spec PyProof.Rows L2
def frz (b : Nat) (S : Sto) : Nat → MV → Option MV
  | 0, d => if refsB b d then some d else none
  | n + 1, .ref k => if k < b then some (.ref k) else (match S[k]? with
    | some (.lst xs) => (xs.mapM (frz b S n)).map .lst
    | some (.dct ks vs) => (vs.mapM (frz b S n)).map (.dct ks)
    | some (.obj c fs vs) => (vs.mapM (frz b S n)).map (.obj c fs)
    | _ => none)
  | n + 1, .tup xs => (xs.mapM (frz b S n)).map .tup
  | n + 1, .lst xs => (xs.mapM (frz b S n)).map .lst
  | n + 1, .dct ks vs => (vs.mapM (frz b S n)).map (.dct ks)
  | n + 1, .obj c fs vs => (vs.mapM (frz b S n)).map (.obj c fs)
  | _ + 1, d => if refsB b d then some d else none
def RC.cut (C : RC) (b : Nat) : RC := { C with ι := C.ι.take b }
theorem Tr.cut {C : RC} {b : Nat} : Tr b C (C.cut b) := by
  refine ⟨rfl, rfl, fun _ _ q => q, fun a u n q => ⟨⟨fun m => n.1 (List.mem_of_mem_take m), n.2⟩, q⟩, fun _ _ _ q => q, fun n a hn q => ?_⟩
  show (C.ι.take b)[n]? = some a
  rw [List.getElem?_take_of_lt hn]; exact q
theorem mapM_rep {C C' : RC} {f : MV → Option MV} (h : ∀ d v d', RepV C d v → f d = some d' → RepV C' d' v) : ∀ {xs ys : List MV} {vs : List V}, RepVs C xs vs → xs.mapM f = some ys → RepVs C' ys vs
  | [], ys, vs, t, e => by
    simp at e; subst e
    rw [t.nil_inv]; exact .nil
  | x :: xs, ys, vs, t, e => by
    obtain ⟨v, vr, rfl, r, t⟩ := t.cons_inv
    rw [List.mapM_cons] at e
    cases e1 : f x with
    | none => rw [e1] at e; cases e
    | some y =>
      rw [e1] at e
      cases e2 : xs.mapM f with
      | none => rw [e2] at e; cases e
      | some zs =>
        rw [e2] at e
        have e : some (y :: zs) = some ys := e
        cases e
        exact .cons (h x v y r e1) (mapM_rep h t e2)
theorem notmem_take {C : RC} {n b : Nat} {a : Addr} (nd : C.ι.Nodup) (h : C.ι[n]? = some a) (hb : b ≤ n) : a ∉ C.ι.take b := fun m => by
  obtain ⟨j, hj⟩ := List.mem_iff_getElem?.mp m
  rw [List.getElem?_take] at hj
  split at hj
  · rename_i hl
    obtain ⟨h1, e1⟩ := List.getElem?_eq_some_iff.mp h
    obtain ⟨h2, e2⟩ := List.getElem?_eq_some_iff.mp hj
    have := (List.getElem_inj nd).mp (e1.trans e2.symm)
    omega
  · cases hj
theorem frz_rep {C : RC} {S : Sto} {b : Nat} (r : RepS C S) : ∀ (n : Nat) (d : MV) (v : V) (d' : MV), RepV C d v → frz b S n d = some d' → RepV (C.cut b) d' v
  | 0, d, v, d', h, e => by
    rw [frz] at e
    split at e
    · cases e
      exact RepV.tr Tr.cut d v (by assumption) h
    · cases e
  | n + 1, d, v, d', h, e => by
    have ih := frz_rep (b := b) r n
    have fz : ∀ {a : Addr} {k : Nat}, C.ι[k]? = some a → b ≤ k → Froz (C.cut b) a := fun {a k} hk hb => ⟨notmem_take r.nd hk hb, fun m => (r.bad a m).1 (List.mem_of_getElem? hk)⟩
    have fz2 : ∀ {a : Addr}, Froz C a → Froz (C.cut b) a := fun {a} n => ⟨fun m => n.1 (List.mem_of_mem_take m), n.2⟩
    have rest : ∀ d : MV, (if refsB b d then some d else none) = some d' → RepV C d v → RepV (C.cut b) d' v := fun d e h => by
      by_cases hb : refsB b d = true
      · rw [if_pos hb] at e
        cases e
        exact RepV.tr Tr.cut _ v hb h
      · rw [if_neg hb] at e; cases e
    cases d with
    | ref k =>
      rw [frz] at e
      rw [RepV] at h
      obtain ⟨a, rfl, ha⟩ := h
      split at e
      · cases e
        rw [RepV]
        refine ⟨a, rfl, ?_⟩
        show (C.ι.take b)[k]? = some a
        rw [List.getElem?_take_of_lt (by assumption)]; exact ha
      · rename_i hk
        have hk : b ≤ k := Nat.le_of_not_lt hk
        cases e0 : S[k]? with
        | none => rw [e0] at e; cases e
        | some o =>
          rw [e0] at e
          have ro := r.ob k o a e0 ha
          cases o with
          | lst xs =>
            dsimp only at e
            cases e1 : xs.mapM (frz b S n) with
            | none => rw [e1] at e; cases e
            | some ys =>
              rw [e1] at e; cases e
              obtain ⟨vs, hv, t⟩ := ro
              rw [RepV]
              exact ⟨a, vs, rfl, fz ha hk, hv, mapM_rep ih t e1⟩
          | dct ks xs =>
            dsimp only at e
            cases e1 : xs.mapM (frz b S n) with
            | none => rw [e1] at e; cases e
            | some ys =>
              rw [e1] at e; cases e
              obtain ⟨vs, hv, l, nd, t⟩ := ro
              rw [RepV]
              exact ⟨a, vs, rfl, fz ha hk, .inl hv, l, nd, mapM_rep ih t e1⟩
          | obj c fs xs =>
            dsimp only at e
            cases e1 : xs.mapM (frz b S n) with
            | none => rw [e1] at e; cases e
            | some ys =>
              rw [e1] at e; cases e
              obtain ⟨dx, vs, hv, l, t⟩ := ro
              rw [RepV]
              exact ⟨a, dx, vs, rfl, fz ha hk, hv, l, mapM_rep ih t e1⟩
          | dcT ks xs => cases e
    | tup xs =>
      rw [frz] at e
      cases e1 : xs.mapM (frz b S n) with
      | none => rw [e1] at e; cases e
      | some ys =>
        rw [e1] at e; cases e
        rw [RepV] at h ⊢
        obtain ⟨a, vs, ev, q, t⟩ := h
        exact ⟨a, vs, ev, q, mapM_rep ih t e1⟩
    | lst xs =>
      rw [frz] at e
      cases e1 : xs.mapM (frz b S n) with
      | none => rw [e1] at e; cases e
      | some ys =>
        rw [e1] at e; cases e
        rw [RepV] at h ⊢
        obtain ⟨a, vs, ev, nn, q, t⟩ := h
        exact ⟨a, vs, ev, fz2 nn, q, mapM_rep ih t e1⟩
    | dct ks xs =>
      rw [frz] at e
      cases e1 : xs.mapM (frz b S n) with
      | none => rw [e1] at e; cases e
      | some ys =>
        rw [e1] at e; cases e
        rw [RepV] at h ⊢
        obtain ⟨a, vs, ev, nn, q, l, nd, t⟩ := h
        exact ⟨a, vs, ev, fz2 nn, q, l, nd, mapM_rep ih t e1⟩
    | obj c fs xs =>
      rw [frz] at e
      cases e1 : xs.mapM (frz b S n) with
      | none => rw [e1] at e; cases e
      | some ys =>
        rw [e1] at e; cases e
        rw [RepV] at h ⊢
        obtain ⟨a, dx, vs, ev, nn, q, l, t⟩ := h
        exact ⟨a, dx, vs, ev, fz2 nn, q, l, mapM_rep ih t e1⟩
    | non => exact rest _ (by simpa only [frz] using e) h
    | bl x => exact rest _ (by simpa only [frz] using e) h
    | int x => exact rest _ (by simpa only [frz] using e) h
    | str x => exact rest _ (by simpa only [frz] using e) h
    | dcT x y => exact rest _ (by simpa only [frz] using e) h
    | kls x => exact rest _ (by simpa only [frz] using e) h
def refsO (b : Nat) : MO → Bool
  | .lst xs => refsBs b xs
  | .dct _ vs => refsBs b vs
  | .dcT ks vs => refsBs b ks && refsBs b vs
  | .obj _ _ vs => refsBs b vs
def cutS (b : Nat) (S S' : Sto) : Option Sto := if S'.take b = S then some S else if (S'.take b).all (refsO b) then some (S'.take b) else none
/-- at a def's end the cells that it made go -/
def frzF (m : MF) : MF := fun ds S => match m ds S with
  | .ok d S' => (match frz S.length S' 8 d, cutS S.length S S' with
    | some d', some S2 => .ok d' S2
    | _, _ => .stk)
  | .exc c d S' => (match cutS S.length S S' with
    | some S2 => if refsB S.length d then .exc c d S2 else .stk
    | none => .stk)
  | .stk => .stk
theorem RepO.refs {C : RC} {a : Addr} {o : MO} (h : RepO C a o) : refsO C.ι.length o = true := by
  cases o with
  | lst xs => obtain ⟨vs, q, t⟩ := h; exact RepVs.refs xs vs t
  | dct ks ds => obtain ⟨vs, q, l, nd, t⟩ := h; exact RepVs.refs ds vs t
  | dcT ks ds =>
    obtain ⟨sm, ko, nd, l, z, ob, es, ep, ps, us, kvs, vs, q, ex, hd, he, hk, tk, rv, t⟩ := h
    simp only [refsO, RepVs.refs ks kvs tk, RepVs.refs ds vs t, Bool.and_self]
  | obj c fs ds => obtain ⟨dx, vs, q, l, t⟩ := h; exact RepVs.refs ds vs t
theorem RepO.trb {C C' : RC} {b : Nat} {a : Addr} {o : MO} (x : Tr b C C') (e : C'.H a = C.H a) (hb : refsO b o = true) (h : RepO C a o) : RepO C' a o := by
  cases o with
  | lst xs => obtain ⟨vs, q, t⟩ := h; exact ⟨vs, e.trans q, RepVs.tr x _ _ hb t⟩
  | dct ks ds => obtain ⟨vs, q, l, nd, t⟩ := h; exact ⟨vs, e.trans q, l, nd, RepVs.tr x _ _ hb t⟩
  | dcT ks ds =>
    obtain ⟨sm, ko, nd, l, z, ob, es, ep, ps, us, kvs, vs, q, ex, hd, he, hk, tk, rv, t⟩ := h
    have hb' : refsBs b ks = true ∧ refsBs b ds = true := by simpa [refsO] using hb
    exact ⟨sm, ko, nd, l, z, ob, es, ep, ps, us, kvs, vs, e.trans q, ex, hd, by rw [x.w]; exact he, hk, RepVs.tr x _ _ hb'.1 tk, rv, RepVs.tr x _ _ hb'.2 t⟩
  | obj c fs ds => obtain ⟨dx, vs, q, l, t⟩ := h; exact ⟨dx, vs, by rw [x.K]; exact e.trans q, l, RepVs.tr x _ _ hb t⟩
theorem cut_rep' {C C' : RC} {S S' S2 : Sto} (r : RepS C S) (g : Grow C C') (r' : RepS C' S') (h : cutS S.length S S' = some S2) : RepS (C'.cut S.length) S2 ∧ Grow C (C'.cut S.length) := by
  have hl : S.length = C.ι.length := r.len.symm
  have key : ∀ S2, S'.take S.length = S2 → (∀ o ∈ S2, refsO S.length o = true) → RepS (C'.cut S.length) S2 := fun S2 e2 ho => by
    subst e2
    refine ⟨by show (C'.ι.take _).length = _; simp [r'.len], r'.nd.sublist (List.take_sublist _ _), fun a m => ⟨fun m2 => (r'.bad a m).1 (List.mem_of_mem_take m2), (r'.bad a m).2⟩, fun n mo a e1 e2 => ?_⟩
    have e2 : (C'.ι.take S.length)[n]? = some a := e2
    rw [List.getElem?_take] at e1 e2
    split at e1
    · rename_i hn
      rw [if_pos hn] at e2
      exact (r'.ob n mo a e1 e2).trb Tr.cut rfl (ho mo (List.mem_of_getElem? (by rw [List.getElem?_take_of_lt hn]; exact e1)))
    · cases e1
  refine ⟨?_, ?_⟩
  · unfold cutS at h
    split at h
    · rename_i e
      cases h
      refine key S e fun o ho => ?_
      obtain ⟨n, hn⟩ := List.mem_iff_getElem?.mp ho
      have hn2 : n < C.ι.length := by rw [r.len]; exact (List.getElem?_eq_some_iff.mp hn).1
      rw [hl]
      exact (r.ob n o C.ι[n] hn (List.getElem?_eq_getElem hn2)).refs
    · split at h
      · rename_i e
        cases h
        exact key _ rfl (List.all_eq_true.mp e)
      · cases h
  · refine ⟨g.w, g.K, g.bad, g.bad', g.keep, fun a m => g.new a (List.mem_of_mem_take m), ?_, g.le, ?_⟩
    · show (C'.ι.take S.length).take C.ι.length = _
      rw [hl, List.take_take, Nat.min_self]; exact g.pre
    · show C.ι.length ≤ (C'.ι.take S.length).length
      rw [List.length_take, hl]
      have := g.le'
      omega
theorem frz_ok {P : Program} {w : World} {K : PySem.W.Frag} {mg : Str → Option Value} {base : Heap} {k n : Nat} {f : Addr} {fd : FuncData} {ps : List Str} {m : MF} (F : FnOk P w K mg base (L2.CX P w) k f fd ps (spM w K n m)) :
    FnOk P w K mg base (L2.CX P w) k f fd ps (spM w K n (frzF m)) := F.imp fun vs H Q E ⟨hl, C, S, ds, e, hw, hK, r, t, q⟩ => by
  refine ⟨hl, C, S, ds, e, hw, hK, r, t, ?_⟩
  unfold frzF at q
  cases e1 : m ds S with
  | stk => rw [e1] at q; exact q
  | ok d S' =>
    rw [e1] at q
    dsimp only at q
    intro C' g r' v rv
    cases e2 : frz S.length S' 8 d with
    | none => rw [e2] at q; exact q.elim
    | some d' =>
      cases e3 : cutS S.length S S' with
      | none => rw [e2, e3] at q; exact q.elim
      | some S2 =>
        rw [e2, e3] at q
        obtain ⟨h1, h2⟩ := cut_rep' r g r' e3
        exact q (C'.cut S.length) h2 h1 v (frz_rep r' 8 d v d' rv e2)
  | exc c d S' =>
    rw [e1] at q
    dsimp only at q
    intro C' cls dx g r' xr
    cases e3 : cutS S.length S S' with
    | none => rw [e3] at q; exact q.elim
    | some S2 =>
      rw [e3] at q
      dsimp only at q
      split at q
      · rename_i hb
        obtain ⟨h1, h2⟩ := cut_rep' r g r' e3
        refine q (C'.cut S.length) cls dx h2 h1 ⟨xr.1, ?_⟩
        rcases xr.2 with z | ⟨a, f, d', v, ed, e, q, t⟩
        · exact .inl z
        · exact .inr ⟨a, f, d', v, ed, e, q, RepV.tr Tr.cut d' v (by subst ed; simpa [refsB, refsBs] using hb) t⟩
      · exact q.elim
mutual
def conB (K : PySem.W.Frag) : MV → Value → Bool
  | .non, .none => true
  | .bl b, .bool c => b == c
  | .str x, .str y _ => decide (y = x)
  | .int i, .int j _ => decide (j = i)
  | .tup xs, .ref a => (match K.lookup a with
    | some ⟨.type c, _, .seq its _, _⟩ => decide (c = "tuple") && (decide (its.size ≤ sizeLine) && conBs K xs its.toList)
    | _ => false)
  | _, _ => false
def conBs (K : PySem.W.Frag) : List MV → List Value → Bool
  | [], [] => true
  | d :: ds, u :: us => conB K d u && conBs K ds us
  | _, _ => false
end
mutual
theorem conB_ok {K : PySem.W.Frag} : ∀ (d : MV) (u : Value), conB K d u = true → ∃ v, RelV v u ∧ ∀ C : RC, C.K = K → RepV C d v
  | .non, u, h => by cases u <;> first | (exact ⟨.non, rfl, fun _ _ => repN⟩) | cases h
  | .bl b, u, h => by
    cases u with
    | bool c =>
      have : b = c := by simpa [conB] using h
      exact ⟨.bl b, by rw [this]; rfl, fun _ _ => repB _⟩
    | _ => cases h
  | .int i, u, h => by
    cases u with
    | int j t =>
      have : j = i := by simpa [conB] using h
      exact ⟨.int i, ⟨t, by rw [this]⟩, fun _ _ => repI _⟩
    | _ => cases h
  | .str x, u, h => by
    cases u with
    | str y t =>
      have : y = x := by simpa [conB] using h
      exact ⟨.str x, ⟨t, by rw [this]⟩, fun _ _ => repS _⟩
    | _ => cases h
  | .tup xs, u, h => by
    cases u with
    | ref a =>
      rw [conB] at h
      cases q : K.lookup a with
      | none => rw [q] at h; cases h
      | some o =>
        obtain ⟨oc, od, dt, osl⟩ := o
        rw [q] at h
        cases oc with
        | type c =>
          cases dt with
          | seq its n =>
            have both : (decide (c = "tuple") && (decide (its.size ≤ sizeLine) && conBs K xs its.toList)) = true := h
            rw [Bool.and_eq_true, Bool.and_eq_true, decide_eq_true_eq, decide_eq_true_eq] at both
            obtain ⟨rfl, hz, h3⟩ := both
            obtain ⟨vs, rv, t⟩ := conBs_ok xs its.toList h3
            refine ⟨.ref a, rfl, fun C hC => ?_⟩
            rw [RepV]
            exact ⟨a, vs, rfl, by rw [hC]; exact .inr ⟨_, its, n, q, rfl, rfl, hz, rv⟩, t C hC⟩
          | _ => cases h
        | _ => cases dt <;> cases h
    | _ => cases h
  | .lst _, u, h => by cases u <;> cases h
  | .dct _ _, u, h => by cases u <;> cases h
  | .dcT _ _, u, h => by cases u <;> cases h
  | .obj _ _ _, u, h => by cases u <;> cases h
  | .ref _, u, h => by cases u <;> cases h
  | .kls _, u, h => by cases u <;> cases h
theorem conBs_ok {K : PySem.W.Frag} : ∀ (ds : List MV) (us : List Value), conBs K ds us = true → ∃ vs, Vals vs us ∧ ∀ C : RC, C.K = K → RepVs C ds vs
  | [], [], _ => ⟨[], .nil, fun _ _ => .nil⟩
  | [], _ :: _, h => by cases h
  | _ :: _, [], h => by cases h
  | d :: ds, u :: us, h => by
    have both : (conB K d u && conBs K ds us) = true := h
    rw [Bool.and_eq_true] at both
    obtain ⟨v, r, t⟩ := conB_ok d u both.1
    obtain ⟨vs, rv, tv⟩ := conBs_ok ds us both.2
    exact ⟨v :: vs, .cons r rv, fun C hC => .cons (t C hC) (tv C hC)⟩
end
/-- an own exception class with an own __init__: its record, its lookups -/
def oexObj (C : Addr) : Option Obj → Bool
  | some ⟨.type "type", _, .cls ⟨_, _, .ref D :: up, _, _, true, _, _, _, _, false⟩, ⟨[_, _, _, _, some (.builtin n), _]⟩⟩ => D == C && (n == "ValueError.__new__" && PySem.HandSPX.refsVE up)
  | _ => false
def oexB (K : PySem.W.Frag) (C : Addr) : Bool := oexObj C (K.lookup C) && (He.eqO (PySem.W.findIn K (.ref C) "__setattr__") (some (some (.builtin "object.__setattr__"))) &&
  (decide (PySem.W.subIn K (.ref C) (.type "BaseException") = some true ∧ PySem.W.typeIn K (.ref C) = some (.type "type")) && PySem.W.keepIn K (.ref C)))
theorem oexB_ok {K : PySem.W.Frag} {C : Addr} (h : oexB K C = true) : OexC K C := by
  unfold oexB at h
  rw [Bool.and_eq_true, Bool.and_eq_true, Bool.and_eq_true, decide_eq_true_eq] at h
  obtain ⟨rec, sa, both, kept⟩ := h
  refine ⟨?_, He.eqO_ok sa, both.1, both.2, kept⟩
  unfold oexObj at rec
  split at rec
  · rename_i is
    rw [Bool.and_eq_true, Bool.and_eq_true, beq_iff_eq, beq_iff_eq] at rec
    obtain ⟨rfl, rfl, ve⟩ := rec
    exact ⟨_, _, _, _, _, _, _, _, _, _, _, _, _, _, _, is, ve⟩
  · cases rec
end Mi
set_option Elab.async false
set_option linter.all false
set_option maxRecDepth 100000
set_option maxHeartbeats 2000000
namespace Mi
open PySem PySem.Spec PyProof.Rows L2
/-- a def by its name, with what it does -/
def FN (P : Program) (w : World) (K : PySem.W.Frag) (mg : Str → Option Value) (base : Heap) (k n : Nat) (x : Str) (m : MF) : Prop :=
  ∃ f fd ps, FnOk P w K mg base (L2.CX P w) k f fd ps (spM w K n m) ∧ mg x = some (.ref f) ∧ PySem.W.keepIn K (.ref f) = true ∧ Binds K fd ps []
/-- a method -/
def MN (P : Program) (w : World) (K : PySem.W.Frag) (mg : Str → Option Value) (base : Heap) (k n : Nat) (c mn : Str) (m : MF) : Prop :=
  ∃ fd ps, FnOk P w K mg base (L2.CX P w) k (He.ma K (He.ga K c) mn) fd ps (spM w K n m) ∧ Binds K fd ps []
/-- a constant of the module -/
def KC (mg : Str → Option Value) (K : PySem.W.Frag) (x : Str) (d : MV) : Prop := ∃ u v, mg x = some u ∧ RelV v u ∧ ∀ C : RC, C.K = K → RepV C d v
theorem kc_of {mg : Str → Option Value} {K : PySem.W.Frag} {x : Str} {d : MV} {u : Value} (h : mg x = some u) (c : conB K d u = true) : KC mg K x d := by
  obtain ⟨v, r, q⟩ := conB_ok d u c
  exact ⟨u, v, h, r, q⟩
/-- an exception class with one field and its __init__ -/
structure XN (P : Program) (w : World) (K : PySem.W.Frag) (mg : Str → Option Value) (base : Heap) (k : Nat) (c f : Str) : Prop where
  g : mg c = some (.ref (He.ga K c))
  T : OexC K (He.ga K c)
  iC : PySem.W.findIn K (.ref (He.ga K c)) "__init__" = some (some (.ref (He.ma K (He.ga K c) "__init__")))
  tI : PySem.W.typeIn K (.ref (He.ma K (He.ga K c) "__init__")) = some (.type "function")
  F : ∃ fd ps, FnOk P w K mg base (L2.CX P w) k (He.ma K (He.ga K c) "__init__") fd ps (spXI K (He.ga K c) f) ∧ Binds K fd ps []
section
variable {X : Cx} {W : WX} {e o : Expr} {es : List Expr} {mo : ME} {mas : MA} {pos p apos rpos : Pos} {k n j : Nat} {x c mn f : Str} {m : MF}
theorem se_callN (h : FN X.prog X.w X.K X.mg X.base k n x m) (hr : Room j X.A) (hj : k ≤ j) (hg : Gl X x) (tk : Takes X W) (ha : SA X W (e :: es) mas) (hl : LenA mas n) (hdb : (x == ("__debug__" : Str)) = false := by decide)
    (he : starEach (e :: es) X.env = (false, eval e X.env) :: starEach es X.env := by rfl)
    (hpl : (backTo pos (starEach es X.env)).any (·.1) = false := by rfl) :
    SE X W (.Call (.Name x p) (e :: es) [] pos) (mCallF m mas) := by
  obtain ⟨f, fd, ps, F, h1, h2, h3⟩ := h
  exact se_call F (hr.mono hj) hg h1 h2 h3 tk ha hl hdb he hpl
theorem se_callN0 (h : FN X.prog X.w X.K X.mg X.base k 0 x m) (hr : Room j X.A) (hj : k ≤ j) (hg : Gl X x) (hpure : ∀ S c d S', m [] S ≠ .exc c d S') (hdb : (x == ("__debug__" : Str)) = false := by decide) :
    SE X W (.Call (.Name x p) [] [] pos) (mCallF m mNil) := by
  obtain ⟨f, fd, ps, F, h1, h2, h3⟩ := h
  exact se_call0 F (hr.mono hj) hg h1 h2 h3 hpure hdb
theorem se_makeN (h : MN X.prog X.w X.K X.mg X.base k (n + 1) c "__init__" m) (M : Mk X.K (He.ga X.K c) (He.ma X.K (He.ga X.K c) "__init__")) (hm : X.mg c = some (.ref (He.ga X.K c))) (hr : Room j X.A) (hj : k + 1 ≤ j) (hg : Gl X c) (tk : Takes X W) (ha : SA X W (e :: es) mas) (hl : LenA mas n) (hdb : (c == ("__debug__" : Str)) = false := by decide)
    (he : starEach (e :: es) X.env = (false, eval e X.env) :: starEach es X.env := by rfl)
    (hpl : (backTo pos (starEach es X.env)).any (·.1) = false := by rfl) :
    SE X W (.Call (.Name c p) (e :: es) [] pos) (mCallF (makM c m) mas) := by
  obtain ⟨fd, ps, F, h3⟩ := h
  exact se_make M F (hr.mono hj) hg hm h3 tk ha hl hdb he hpl
theorem se_methN {pl : Sem Bool} (h : MN X.prog X.w X.K X.mg X.base k (n + 1) c mn m) (cl : Cls X.K (He.ga X.K c)) (hm : Meth X.K (He.ga X.K c) mn (He.ma X.K (He.ga X.K c) mn)) (hr : Room j X.A) (hj : k ≤ j) (tk : Takes X W) (ho : SE X W o mo) (ha : SA X W (e :: es) mas) (hl : LenA mas n)
    (hst : starEach (e :: es) X.env = (false, eval e X.env) :: starEach es X.env := by rfl)
    (hpl : (backTo pos (starEach es X.env)).any (·.1) = false := by rfl) (ht : MethAs X o mn apos pos (e :: es) pl := by rfl) :
    SE X W (.Call (.Attribute o mn apos) (e :: es) [] pos) (mMeth c mn m mo mas) := by
  obtain ⟨fd, ps, F, h3⟩ := h
  exact se_meth cl hm F (hr.mono hj) h3 tk ho ha hl hst hpl ht
theorem se_methN0 {pl : Sem Bool} (h : MN X.prog X.w X.K X.mg X.base k 1 c mn m) (cl : Cls X.K (He.ga X.K c)) (hm : Meth X.K (He.ga X.K c) mn (He.ma X.K (He.ga X.K c) mn)) (hr : Room j X.A) (hj : k ≤ j) (tk : Takes X W) (ho : SE X W o mo)
    (ht : MethAs X o mn apos pos [] pl := by rfl) :
    SE X W (.Call (.Attribute o mn apos) [] [] pos) (mMeth c mn m mo mNil) := by
  obtain ⟨fd, ps, F, h3⟩ := h
  exact se_meth0 cl hm F (hr.mono hj) h3 tk ho ht
theorem opM_ownN (h : MN X.prog X.w X.K X.mg X.base k 2 c "__eq__" m) (hm : Meth X.K (He.ga X.K c) "__eq__" (He.ma X.K (He.ga X.K c) "__eq__")) (hr : Room j X.A) (hj : k ≤ j) : OpR X (compareOp .Eq) (rOf X (eqO c m)) := by
  obtain ⟨fd, ps, F, h3⟩ := h
  exact opM_own F (hr.mono hj) hm.at_ hm.fn h3
theorem se_globN {d : MV} (h : KC X.mg X.K x d) (hg : Gl X x) (hd : (x == ("__debug__" : Str)) = false := by decide) : SE X W (.Name x pos) (mC d) := by
  obtain ⟨u, v, h1, h2, h3⟩ := h
  exact se_glob hg h1 h2 h3 hd
theorem ss_raiseN {me : ME} (h : XN X.prog X.w X.K X.mg X.base k c f) (hcalm : X.calm = true) (tk : Takes X W) (hr : Room j X.A) (hj : k + 1 ≤ j) (hg : Gl X c) (he : SE X W e me)
    (hdb : (c == ("__debug__" : Str)) = false := by decide) (hs : starEach [e] X.env = (false, eval e X.env) :: starEach [] X.env := by rfl) (hpl : (backTo pos (starEach [] X.env)).any (·.1) = false := by rfl) :
    SS X W (.Raise (some (.Call (.Name c p) [e] [] pos)) none rpos) (mRaise c f me) := by
  obtain ⟨fd, ps, F, h3⟩ := h.F
  exact ss_raise1 hcalm tk h.T h.iC h.tI F (hr.mono hj) h3 hg h.g he hdb hs hpl
/-- isinstance(x, C), x an instance of C -/
def mIsO (c : Str) (e : ME) : ME := fun ρ S => (e ρ S).bind fun d S1 => match objOf S1 d with
  | some (c', _, _) => if c' = c then .ok (.bl true) S1 else .stk
  | none => .stk
/-- what isinstance asks of the class: the attribute __class__ is object's own, and object stands in its mro -/
def IsoC (K : PySem.W.Frag) (C : Addr) : Prop := Cls K C ∧ (PySem.W.mroIn K C (.type "object") = some true ∧ PySem.W.takesIn K (.builtin "object.__class__") = some true) ∧
  (PySem.W.findIn K (.ref C) "__class__", PySem.W.specialIn K (.builtin "object.__class__") "__get__") = (some (some (.builtin "object.__class__")), some (some (.builtin "getset_descriptor.__get__")))
def isoB (K : PySem.W.Frag) (C : Addr) : Bool :=
  (decide (PySem.W.mroIn K C (.type "object") = some true) && decide (PySem.W.takesIn K (.builtin "object.__class__") = some true)) &&
    (He.eqO (PySem.W.findIn K (.ref C) "__class__") (some (some (.builtin "object.__class__"))) && He.eqO (PySem.W.specialIn K (.builtin "object.__class__") "__get__") (some (some (.builtin "getset_descriptor.__get__"))))
theorem isoB_ok {K : PySem.W.Frag} {C : Addr} (cl : Cls K C) (h : isoB K C = true) : IsoC K C := by
  unfold isoB at h
  rw [Bool.and_eq_true, Bool.and_eq_true, Bool.and_eq_true, decide_eq_true_eq, decide_eq_true_eq] at h
  exact ⟨cl, h.1, by rw [He.eqO_ok h.2.1, He.eqO_ok h.2.2]⟩
theorem se_isO {me : ME} {p1 p2 : Pos} (T : IsoC X.K (He.ga X.K c)) (hg : Gl X "isinstance") (hm : X.mg "isinstance" = none) (hgx : Gl X c) (hmx : X.mg c = some (.ref (He.ga X.K c))) (he : SE X W e me) (hdx : (c == ("__debug__" : Str)) = false := by decide)
    (hs : starEach [e, .Name c p2] X.env = (false, eval e X.env) :: starEach [.Name c p2] X.env := by rfl) (hs2 : starEach [.Name c p2] X.env = (false, eval (.Name c p2) X.env) :: starEach [] X.env := by rfl) (hpl : (backTo pos (starEach [.Name c p2] X.env)).any (·.1) = false := by rfl) :
    SE X W (.Call (.Name "isinstance" p1) [e, .Name c p2] [] pos) (mIsO c me) :=
  (pe_callB call_isi hg hm PyProof.Rows.boot_isinstance (pa_cons he (pa_cons (pe_glob (v := .ref (He.ga X.K c)) hgx hmx rfl hdx) pa_nil hs2) hs) (by decide) (by decide) hs hpl).imp fun σ H Q ⟨C, ρ, S, e, s, q⟩ => by
    subst e
    refine tE.bind s q fun d S1 C1 v s1 g1 r1 q1 => ?_
    cases e1 : objOf S1 d with
    | none => rw [e1] at q1; exact q1.elim
    | some z =>
      obtain ⟨c', fs, ds⟩ := z
      rw [e1] at q1
      dsimp only at q1
      split at q1
      · rename_i ec
        subst ec
        obtain ⟨a, dx, vs, rfl, ha, _⟩ := objOf_rep s1.rs r1 e1
        rw [s1.K] at ha
        exact ⟨.ref a, .ref _, _, _, true, rfl, .own _, .base (.ins ha T.1 (congrArg Prod.fst T.2.2) (congrArg Prod.snd T.2.2) T.2.1.2 T.2.1.1), if_pos (beq_self_eq_true _), q1.now s1.rs _ (repB _)⟩
      · exact q1.elim
end
/-- an exception class's __init__: from its def -/
theorem xn_init {P : Program} {w : World} {K : PySem.W.Frag} {mg : Str → Option Value} {base : Heap} {st : Stmt} {fd : FuncData} {c q f n0 n1 : Str} {p0 p1 pp pos : Pos} (F : FunD K "__init__" q (defArgs st) (defBody st) (defScope st) [] [] (He.ma K (He.ga K c) "__init__") fd)
    (S : FnScope [n0, n1] [n0, n1] (defScope st)) (T : OexC K (He.ga K c)) (hno : PySem.W.findIn K (.ref (He.ga K c)) f = some none) (hb : defBody st = [.Assign [.Attribute (.Name n0 p0) f pp] (.Name n1 p1) pos])
    (v0 : Vis (defScope st) n0) (v1 : Vis (defScope st) n1)
    (d0 : (n0 == ("__debug__" : Str)) = false) (c0 : (n0 == ("__classdict__" : Str)) = false) (d1 : (n1 == ("__debug__" : Str)) = false) (c1 : (n1 == ("__classdict__" : Str)) = false)
    (hs : ∀ (cdv : Value) (s : Shared), swapsWith (.Name n1 p1) (some (.Attribute (.Name n0 p0) f pp)) pos.line (envOfC q (defScope st) s.heap.objs.size (He.ma K (He.ga K c) "__init__") cdv) = pure false) : FnOk P w K mg base (L2.CX P w) 1 (He.ma K (He.ga K c) "__init__") fd [n0, n1] (spXI K (He.ga K c) f) := by
  refine F.ok S (fun vs H Q E h => ?_) (fun cdv A outer s H vs Q E hr h => xi_body rfl rfl v0 v1 T hno d0 c0 d1 c1 (hs cdv s) hb h)
  obtain ⟨a, v, rfl, _⟩ := h
  rfl
section
variable {X : Cx} {W : WX} {pos : Pos} {x : Str} {k : Nat}
theorem sv (i : Nat) (hN : X.N[i]? = some x := by rfl) (hv : Vis X.env.scope x := by first | exact .inl rfl | exact .inr (.inl rfl) | exact .inr (.inr rfl)) (hd : (x == ("__debug__" : Str)) = false := by decide) (hcd : (x == ("__classdict__" : Str)) = false := by decide) : SE X W (.Name x pos) (mVar i) := se_var hN hv hd hcd
theorem sn (i : Nat) (nd : X.N.Nodup) (hN : X.N[i]? = some x := by rfl) (hx : Loc X.env.scope x := by first | exact .inl rfl | exact .inr rfl) (hf : X.fn x = true ∨ X.env.scope.names.lookup x = some .local := by first | exact .inl rfl | exact .inr rfl | assumption) : SG X (.Name x pos) (tgName i) := sg_name nd hN hx hf
theorem sset (i : Nat) {e : Expr} {me : ME} {pos' : Pos} (nd : X.N.Nodup) (he : SE X W e me) (hN : X.N[i]? = some x := by rfl) (hx : Loc X.env.scope x := by first | exact .inl rfl | exact .inr rfl) (hs : swapsWith e (some (.Name x pos')) pos.line X.env = pure false := by rfl) (hf : X.fn x = true ∨ X.env.scope.names.lookup x = some .local := by first | exact .inl rfl | exact .inr rfl | assumption) :
    SS X W (.Assign [.Name x pos'] e pos) (mAsg me (tgName i)) := ss_set nd hN hx he hs hf
theorem Room.u1 (r : Room k X.A) : X.A.units + 1 < cLine := by have := r.un; omega
theorem Room.u64 (r : Room k X.A) : X.A.units + 64 < cLine := by have := r.un; omega
theorem Room.u65 (r : Room k X.A) : X.A.units + 65 < cLine := by have := r.un; omega
end
end Mi
set_option Elab.async false
set_option linter.all false
set_option maxRecDepth 100000
set_option maxHeartbeats 2000000
namespace Mi
open PySem PySem.Spec PyProof.Rows L2
abbrev MO' := Ev → Sto → R (Option Int)
def moNone : MO' := fun _ S => .ok none S
def moSome (e : ME) : MO' := fun ρ S => (e ρ S).bind fun d S1 => match d with
  | .int i => .ok (some i) S1
  | _ => .stk
def tO (X : Cx) (W : WX) (m : MO') : TO := fun σ H Q => ∃ C ρ S, C.H = H ∧ Sv X ρ σ S C ∧ Wants W σ C (m ρ S) (fun o _ C' => Q o C'.H)
theorem _root_.L2.PO.imp {X : Cx} {e : Option Expr} {t t' : TO} (h : PO X e t) (k : ∀ σ H Q, t' σ H Q → t σ H Q) : PO X e t' := ⟨fun pins s σ H Q I q => h.run pins s σ H Q I (k σ H Q q)⟩
abbrev SO (X : Cx) (W : WX) (e : Option Expr) (m : MO') : Prop := PO X e (tO X W m)
def mSlice (e : ME) (lo hi : MO') : ME := fun ρ S => (e ρ S).bind fun d S1 => (lo ρ S1).bind fun l S2 => (hi ρ S2).bind fun h S3 => slcM d l h S3
theorem pu_slc : ∀ d l h S c x S', slcM d l h S ≠ .exc c x S' := by
  intro d l h S c x S' e
  unfold slcM at e
  split at e
  · cases e
  · split at e <;> cases e
  · split at e <;> cases e
section
variable {X : Cx} {W : WX} {e : Expr} {me : ME} {lo hi : Option Expr} {ml mh : MO'} {pos p2 : Pos}
theorem so_none : SO X W none moNone := po_none.imp fun σ H Q ⟨C, ρ, S, e, s, q⟩ => by
  subst e
  exact q.now s.rs
theorem so_some (h : SE X W e me) : SO X W (some e) (moSome me) := (po_some h).imp fun σ H Q ⟨C, ρ, S, e, s, q⟩ => by
  subst e
  refine tE.bind s q fun d S1 C1 v s1 g1 r1 q1 => ?_
  split at q1
  · exact ⟨_, vInt r1, q1.now s1.rs⟩
  · exact q1.elim
theorem se_slice (he : SE X W e me) (hl : SO X W lo ml) (hh : SO X W hi mh) : SE X W (.Subscript e (.Slice lo hi none p2) pos) (mSlice me ml mh) :=
  (pe_slice slM he hl hh).imp fun σ H Q ⟨C, ρ, S, e, s, q⟩ => by
    subst e
    refine tE.bind s q fun d S1 C1 v s1 g1 r1 q1 => ?_
    refine ⟨C1, ρ, S1, rfl, s1, (Wants.bind q1).mono fun l S2 C2 g2 r2 _ q2 => ?_⟩
    have s2 := s1.grow g2 r2
    refine ⟨C2, ρ, S2, rfl, s2, (Wants.bind q2.1).mono fun h S3 C3 g3 r3 _ q3 => ?_⟩
    have s3 := s2.grow g3 r3
    refine ⟨C3, S3, d, rfl, s3.w, s3.K, s3.rs, (r1.grow g2 s1.rs).grow g3 s2.rs, ?_⟩
    have q3 := q3.1
    cases e : slcM d l h S3 with
    | ok a S' => rw [e] at q3; exact ⟨a, S', rfl, q3⟩
    | exc c d S' => exact absurd e (pu_slc _ _ _ _ _ _ _)
    | stk => rw [e] at q3; exact q3.elim
end
theorem pu_len : Pure1 lenM := by
  intro ds S c d S' h
  unfold lenM at h
  split at h
  · split at h
    · cases h
    · unfold lenD at h
      split at h
      · cases h
      · split at h
        · split at h <;> cases h
        · cases h
  · cases h
theorem pu_int : Pure1 intM := by intro ds S c d S' h; unfold intM at h; split at h <;> cases h
theorem pu_tuple : Pure1 tupM := by
  intro ds S c d S' h
  unfold tupM at h
  split at h
  · split at h <;> cases h
  · cases h
theorem pu_list {fr : Bool} : Pure1 (lstM fr) := by
  intro ds S c d S' h
  unfold lstM at h
  split at h
  · split at h
    · split at h <;> cases h
    · cases h
  · cases h
theorem takes_cx {P : Program} {w : World} {K : PySem.W.Frag} {mg : Str → Option Value} {base : Heap} {N : List Str} {q : Str} {sc : Scope} {f : Addr} {cdv : Value} {A : Around} {outer : List Env} {s : Shared} {H : Hp} {E : XK} :
    Takes (cxOf (L2.CX P w) P w K mg base N q sc f cdv A outer s H E) (fun cls dx _ H => E cls dx H) := takes_of rfl rfl rfl rfl
theorem pass_cx {P : Program} {w : World} {K : PySem.W.Frag} {mg : Str → Option Value} {base : Heap} {N : List Str} {q : Str} {sc : Scope} {f : Addr} {cdv : Value} {A : Around} {outer : List Env} {s : Shared} {H : Hp} {E : XK} :
    PassesOwn (model P w) (cxOf (L2.CX P w) P w K mg base N q sc f cdv A outer s H E).A (cxOf (L2.CX P w) P w K mg base N q sc f cdv A outer s H E).env (cxOf (L2.CX P w) P w K mg base N q sc f cdv A outer s H E).xe := passes_of rfl
def oneC (c : Str) : Str → Option Bool := fun c' => if c' = c then some true else none
theorem oneC_is {c : Str} : ∀ c', oneC c c' = some true → c' = c := fun c' h => by
  unfold oneC at h
  by_cases e : c' = c
  · exact e
  · rw [if_neg e] at h; cases h
theorem oneC_ok {K : PySem.W.Frag} {c : Str} (x : PySem.W.exmOne K (.ref (He.ga K c)) (.ref (He.ga K c)) = some true) : ∀ c' b, oneC c c' = some b → PySem.W.exmOne K (.ref (He.ga K c')) (.ref (He.ga K c)) = some b := fun c' b h => by
  unfold oneC at h
  by_cases e : c' = c
  · rw [if_pos e] at h; cases h; rw [e]; exact x
  · rw [if_neg e] at h; cases h
theorem bt_len : bootBuiltins "len" = some (.builtin "len") := by decide +kernel
theorem bt_int : bootBuiltins "int" = some (.type "int") := by decide +kernel
theorem bt_str : bootBuiltins "str" = some (.type "str") := by decide +kernel
theorem bt_list : bootBuiltins "list" = some (.type "list") := by decide +kernel
theorem bt_tuple : bootBuiltins "tuple" = some (.type "tuple") := by decide +kernel
end Mi
set_option Elab.async false
set_option linter.all false
set_option maxRecDepth 100000
set_option maxHeartbeats 2000000
namespace Mi
open PySem PySem.Spec PyProof.Rows L2
mutual
def sh : MV → Bool
  | .non | .bl _ | .int _ => true
  | .str x => PyData.strOk x
  | .tup xs => shs xs
  | .lst xs => shs xs
  | _ => false
def shs : List MV → Bool
  | [] => true
  | x :: xs => sh x && shs xs
end
mutual
def dpt : MV → Nat
  | .tup xs => dpts xs + 1
  | .lst xs => dpts xs + 1
  | _ => 0
def dpts : List MV → Nat
  | [] => 0
  | x :: xs => max (dpt x) (dpts xs)
end
mutual
def cn : MV → MV
  | .bl b => .int (if b then 1 else 0)
  | .tup xs => .tup (cns xs)
  | .lst xs => .lst (cns xs)
  | x => x
def cns : List MV → List MV
  | [] => []
  | x :: xs => cn x :: cns xs
end
mutual
def pdO : MV → PyData
  | .non => .none
  | .bl b => .bool b
  | .int i => .int i
  | .str x => .str x
  | .tup xs => .tuple (pdOs xs)
  | .lst xs => .list (pdOs xs)
  | _ => .dict []
def pdOs : List MV → List PyData
  | [] => []
  | x :: xs => pdO x :: pdOs xs
end
mutual
theorem pdF_O (S : Sto) : ∀ (n : Nat) (x : MV), sh x = true → dpt x < n → pdF n S x = pdO x
  | 0, x, _, h => by omega
  | n + 1, .non, _, _ => by simp [pdF, pdO]
  | n + 1, .bl _, _, _ => by simp [pdF, pdO]
  | n + 1, .int _, _, _ => by simp [pdF, pdO]
  | n + 1, .str _, _, _ => by simp [pdF, pdO]
  | n + 1, .tup xs, h, d => by
    rw [pdF, pdO, pdF_Os S n xs (by simpa [sh] using h) (by rw [dpt] at d; omega)]
  | n + 1, .lst xs, h, d => by
    rw [pdF, pdO, pdF_Os S n xs (by simpa [sh] using h) (by rw [dpt] at d; omega)]
  | n + 1, .dct _ _, h, _ => by simp [sh] at h
  | n + 1, .dcT _ _, h, _ => by simp [sh] at h
  | n + 1, .obj _ _ _, h, _ => by simp [sh] at h
  | n + 1, .ref _, h, _ => by simp [sh] at h
  | n + 1, .kls _, h, _ => by simp [sh] at h
theorem pdF_Os (S : Sto) : ∀ (n : Nat) (xs : List MV), shs xs = true → dpts xs < n → xs.map (pdF n S) = pdOs xs
  | n, [], _, _ => by simp [pdOs]
  | n, x :: xs, h, d => by
    rw [shs, Bool.and_eq_true] at h
    rw [dpts] at d
    rw [List.map_cons, pdOs, pdF_O S n x h.1 (by omega), pdF_Os S n xs h.2 (by omega)]
end
mutual
theorem can_O : ∀ x : MV, sh x = true → (pdO x).canLay0 = true
  | .non, _ => by simp [pdO, PyData.canLay0]
  | .bl _, _ => by simp [pdO, PyData.canLay0]
  | .int _, _ => by simp [pdO, PyData.canLay0]
  | .str _, h => by simpa [pdO, PyData.canLay0, sh] using h
  | .tup xs, h => by rw [pdO, PyData.canLay0]; exact can_Os xs (by simpa [sh] using h)
  | .lst xs, h => by rw [pdO, PyData.canLay0]; exact can_Os xs (by simpa [sh] using h)
  | .dct _ _, h => by simp [sh] at h
  | .dcT _ _, h => by simp [sh] at h
  | .obj _ _ _, h => by simp [sh] at h
  | .ref _, h => by simp [sh] at h
  | .kls _, h => by simp [sh] at h
theorem can_Os : ∀ xs : List MV, shs xs = true → PyData.canLayAll0 (pdOs xs) = true
  | [], _ => by simp [pdOs, PyData.canLayAll0]
  | x :: xs, h => by
    rw [shs, Bool.and_eq_true] at h
    rw [pdOs, PyData.canLayAll0, can_O x h.1, can_Os xs h.2]; rfl
end
mutual
theorem dep_O : ∀ x : MV, (pdO x).depth ≤ dpt x ∨ sh x = false
  | .non => .inl (by simp [pdO, PyData.depth])
  | .bl _ => .inl (by simp [pdO, PyData.depth])
  | .int _ => .inl (by simp [pdO, PyData.depth])
  | .str _ => .inl (by simp [pdO, PyData.depth])
  | .tup xs => by
    rcases dep_Os xs with h | h
    · exact .inl (by rw [pdO, PyData.depth, dpt]; omega)
    · exact .inr (by rw [sh]; exact h)
  | .lst xs => by
    rcases dep_Os xs with h | h
    · exact .inl (by rw [pdO, PyData.depth, dpt]; omega)
    · exact .inr (by rw [sh]; exact h)
  | .dct _ _ => .inr (by simp [sh])
  | .dcT _ _ => .inr (by simp [sh])
  | .obj _ _ _ => .inr (by simp [sh])
  | .ref _ => .inr (by simp [sh])
  | .kls _ => .inr (by simp [sh])
theorem dep_Os : ∀ xs : List MV, PyData.depthAll (pdOs xs) ≤ dpts xs ∨ shs xs = false
  | [] => .inl (by simp [pdOs, PyData.depthAll])
  | x :: xs => by
    rcases dep_O x with h | h
    · rcases dep_Os xs with h2 | h2
      · exact .inl (by rw [pdOs, PyData.depthAll, dpts]; omega)
      · exact .inr (by rw [shs, h2]; simp)
    · exact .inr (by rw [shs, h]; simp)
end
theorem dec_and {p q r : Prop} [Decidable p] [Decidable q] [Decidable r] (h : r ↔ p ∧ q) : (decide p && decide q) = decide r := by
  by_cases hp : p <;> by_cases hq : q <;> simp [hp, hq, h]
mutual
theorem eqv_O : ∀ x y : MV, sh x = true → sh y = true → PyData.eqv (pdO x) (pdO y) = decide (cn x = cn y)
  | .non, y, hx, hy => by cases y <;> simp [pdO, PyData.eqv, cn, sh] at hy ⊢
  | .bl a, y, hx, hy => by
    cases y <;> simp [pdO, PyData.eqv, cn, sh] at hy ⊢
    · rename_i b; cases a <;> cases b <;> rfl
    · rw [Bool.beq_eq_decide_eq]
  | .int a, y, hx, hy => by
    cases y <;> simp [pdO, PyData.eqv, cn, sh] at hy ⊢
    all_goals first | rfl | rw [Bool.beq_eq_decide_eq]
  | .str a, y, hx, hy => by
    cases y <;> simp [pdO, PyData.eqv, cn, sh] at hy ⊢
    all_goals first | rfl | rw [Bool.beq_eq_decide_eq]
  | .tup xs, y, hx, hy => by
    cases y with
    | tup ys =>
      rw [pdO, pdO, PyData.eqv, cn, cn, eqv_Os xs ys (by simpa [sh] using hx) (by simpa [sh] using hy)]
      simp
    | _ => simp [pdO, PyData.eqv, cn, sh] at hy ⊢
  | .lst xs, y, hx, hy => by
    cases y with
    | lst ys =>
      rw [pdO, pdO, PyData.eqv, cn, cn, eqv_Os xs ys (by simpa [sh] using hx) (by simpa [sh] using hy)]
      simp
    | _ => simp [pdO, PyData.eqv, cn, sh] at hy ⊢
  | .dct _ _, _, h, _ => by simp [sh] at h
  | .dcT _ _, _, h, _ => by simp [sh] at h
  | .obj _ _ _, _, h, _ => by simp [sh] at h
  | .ref _, _, h, _ => by simp [sh] at h
  | .kls _, _, h, _ => by simp [sh] at h
theorem eqv_Os : ∀ xs ys : List MV, shs xs = true → shs ys = true → PyData.eqvAll (pdOs xs) (pdOs ys) = decide (cns xs = cns ys)
  | [], [], _, _ => by simp [pdOs, PyData.eqvAll, cns]
  | [], _ :: _, _, _ => by simp [pdOs, PyData.eqvAll, cns]
  | _ :: _, [], _, _ => by simp [pdOs, PyData.eqvAll, cns]
  | x :: xs, y :: ys, hx, hy => by
    rw [shs, Bool.and_eq_true] at hx hy
    rw [pdOs, pdOs, PyData.eqvAll, cns, cns, eqv_O x y hx.1 hy.1, eqv_Os xs ys hx.2 hy.2]
    exact dec_and (by simp)
end
theorem shaped_O {x : MV} (h : sh x = true) (d : dpt x ≤ 7) : SeqAt.shaped (pdO x) = true := by
  unfold SeqAt.shaped
  rw [can_O x h]
  rcases dep_O x with e | e
  · simp; omega
  · rw [h] at e; cases e
/-- a cell that is a list, looked through -/
def deref (S : Sto) : MV → MV
  | .ref n => (match S[n]? with
    | some (.lst xs) => .lst xs
    | _ => .ref n)
  | x => x
theorem pdF_deref (S : Sto) (x : MV) : pdF 8 S x = pdF 8 S (deref S x) := by
  unfold deref
  split
  · split
    · rename_i h
      simp only [pdF, h]
    · rfl
  · rfl
theorem scal_not_ref {x y : MV} (h : scalM x y = true) : (∀ n, x ≠ .ref n) ∧ ∀ n, y ≠ .ref n := by
  cases x <;> cases y <;> simp [scalM, skind] at h ⊢
theorem deref_of {S : Sto} {x : MV} (h : ∀ n, x ≠ .ref n) : deref S x = x := by
  unfold deref
  split
  · rename_i n; exact absurd rfl (h n)
  · rfl
theorem eqB_sh {S : Sto} {x y x' y' : MV} (ex : deref S x = x') (ey : deref S y = y') (hx : sh x' = true) (hy : sh y' = true) (dx : dpt x' ≤ 7) (dy : dpt y' ≤ 7) : eqB S x y = some (decide (cn x' = cn y')) := by
  unfold eqB
  by_cases hs : scalM x y = true
  · rw [if_pos hs]
    obtain ⟨h1, h2⟩ := scal_not_ref hs
    rw [deref_of h1] at ex
    rw [deref_of h2] at ey
    subst ex ey
    congr 1
    cases x <;> cases y <;> simp [scalM, skind] at hs <;> simp [seqM, cn]
    rename_i a b
    cases a <;> cases b <;> simp
  · rw [if_neg hs, pdF_deref S x, pdF_deref S y, ex, ey, pdF_O S 8 x' hx (by omega), pdF_O S 8 y' hy (by omega), shaped_O hx dx, shaped_O hy dy, eqv_O x' y' hx hy]
    rfl
theorem eqM_sh {S : Sto} {x y x' y' : MV} (ex : deref S x = x') (ey : deref S y = y') (hx : sh x' = true) (hy : sh y' = true) (dx : dpt x' ≤ 7) (dy : dpt y' ≤ 7) : eqM x y S = .ok (.bl (decide (cn x' = cn y'))) S := by
  unfold eqM; rw [eqB_sh ex ey hx hy dx dy]
theorem neM_sh {S : Sto} {x y x' y' : MV} (ex : deref S x = x') (ey : deref S y = y') (hx : sh x' = true) (hy : sh y' = true) (dx : dpt x' ≤ 7) (dy : dpt y' ≤ 7) : neM x y S = .ok (.bl (!decide (cn x' = cn y'))) S := by
  unfold neM; rw [eqB_sh ex ey hx hy dx dy]
theorem any_O {x : MV} (hx : sh x = true) : ∀ ys : List MV, shs ys = true → ((pdOs ys).any fun z => PyData.eqv z (pdO x)) = decide (cn x ∈ cns ys)
  | [], _ => by simp [pdOs, cns]
  | y :: ys, h => by
    rw [shs, Bool.and_eq_true] at h
    rw [pdOs, List.any_cons, cns, any_O hx ys h.2, eqv_O y x h.1 hx]
    by_cases e : cn x = cn y
    · simp [e]
    · simp [e, Ne.symm e]
theorem inB_sh {S : Sto} {x c : MV} {ys : List MV} (ec : deref S c = .tup ys ∨ deref S c = .lst ys) (hx : sh x = true) (hy : shs ys = true) (dx : dpt x ≤ 7) (dy : dpts ys ≤ 6) : inB S x c = some (decide (cn x ∈ cns ys)) := by
  have nd : dctOf S c = none := by
    cases c with
    | ref n =>
      simp only [deref] at ec
      simp only [dctOf]
      cases e : S[n]? with
      | none => rfl
      | some o =>
        rw [e] at ec
        cases o <;> first | rfl | (rcases ec with ec | ec <;> cases ec)
    | dct ks vs => rcases ec with ec | ec <;> cases ec
    | _ => rfl
  unfold inB
  rw [nd]
  dsimp only
  rw [pdF_deref S c]
  rcases ec with ec | ec
  · have hc : sh (.tup ys) = true := by rw [sh]; exact hy
    have hd : dpt (.tup ys) ≤ 7 := by rw [dpt]; omega
    have e0 := shaped_O hc hd
    rw [pdO] at e0
    rw [ec, pdF_O S 8 (.tup ys) hc (by omega), pdO]
    dsimp only
    rw [pdF_O S 8 x hx (by omega), shaped_O hx dx, e0, any_O hx ys hy]
    rfl
  · have hc : sh (.lst ys) = true := by rw [sh]; exact hy
    have hd : dpt (.lst ys) ≤ 7 := by rw [dpt]; omega
    have e0 := shaped_O hc hd
    rw [pdO] at e0
    rw [ec, pdF_O S 8 (.lst ys) hc (by omega), pdO]
    dsimp only
    rw [pdF_O S 8 x hx (by omega), shaped_O hx dx, e0, any_O hx ys hy]
    rfl
mutual
theorem frz_sh (b : Nat) (S : Sto) : ∀ (n : Nat) (x : MV), sh x = true → dpt x < n → frz b S n x = some x
  | 0, x, _, h => by omega
  | n + 1, .non, _, _ => by simp [frz, refsB]
  | n + 1, .bl _, _, _ => by simp [frz, refsB]
  | n + 1, .int _, _, _ => by simp [frz, refsB]
  | n + 1, .str _, _, _ => by simp [frz, refsB]
  | n + 1, .tup xs, h, d => by
    rw [frz, frz_shs b S n xs (by simpa [sh] using h) (by rw [dpt] at d; omega)]; rfl
  | n + 1, .lst xs, h, d => by
    rw [frz, frz_shs b S n xs (by simpa [sh] using h) (by rw [dpt] at d; omega)]; rfl
  | n + 1, .dct _ _, h, _ => by simp [sh] at h
  | n + 1, .dcT _ _, h, _ => by simp [sh] at h
  | n + 1, .obj _ _ _, h, _ => by simp [sh] at h
  | n + 1, .ref _, h, _ => by simp [sh] at h
  | n + 1, .kls _, h, _ => by simp [sh] at h
theorem frz_shs (b : Nat) (S : Sto) : ∀ (n : Nat) (xs : List MV), shs xs = true → dpts xs < n → xs.mapM (frz b S n) = some xs
  | n, [], _, _ => rfl
  | n, x :: xs, h, d => by
    rw [shs, Bool.and_eq_true] at h
    rw [dpts] at d
    rw [List.mapM_cons, frz_sh b S n x h.1 (by omega), frz_shs b S n xs h.2 (by omega)]; rfl
end
/-- what a frozen def answers -/
theorem frzF_ok {m : MF} {ds : List MV} {S S' : Sto} {d d' : MV} (h : m ds S = .ok d S') (h1 : frz S.length S' 8 d = some d') (h2 : S'.take S.length = S) : frzF m ds S = .ok d' S := by
  unfold frzF Mi.cutS
  rw [h]
  dsimp only
  rw [h1, if_pos h2]
theorem frzF_exc {m : MF} {ds : List MV} {S S' : Sto} {c : Str} {d : MV} (h : m ds S = .exc c d S') (h1 : refsB S.length d = true) (h2 : S'.take S.length = S) : frzF m ds S = .exc c d S := by
  unfold frzF Mi.cutS
  rw [h]
  dsimp only
  rw [if_pos h2]
  dsimp only
  rw [if_pos h1]
end Mi
set_option Elab.async false
set_option linter.all false
set_option maxRecDepth 100000
set_option maxHeartbeats 4000000
namespace Lw
open PySem PySem.Spec PyProof.Rows L2 Mi
def top (i : Nat) : Stmt := PySem.Challenge.pw_seriesbooked_k01_rules_refused.main.body.getD i (.Pass ⟨0, 0, 0, 0⟩)
def d_PARTS : MV := .tup [.str "checking", .str "singles", .str "halves", .str "telling"]
def d_VALUES : MV := .tup [.tup [.str "none", .str "room", .str "both"], .tup [.str "keep", .str "move", .str "reset"], .tup [.str "left", .str "undone"], .tup [.str "now", .str "seen"]]
/-- what the head tells -/
structure Gs (K : PySem.W.Frag) (mg : Str → Option Value) : Prop where
  b_int : mg "int" = none
  b_isinstance : mg "isinstance" = none
  b_len : mg "len" = none
  b_list : mg "list" = none
  b_range : mg "range" = none
  b_str : mg "str" = none
  b_tuple : mg "tuple" = none
  b_zip : mg "zip" = none
  k_PARTS : KC mg K "PARTS" d_PARTS
  k_VALUES : KC mg K "VALUES" d_VALUES
  gc_BadRule : mg "BadRule" = some (.ref (He.ga K "BadRule"))
  gc_Rule : mg "Rule" = some (.ref (He.ga K "Rule"))
  c_Rule : Cls K (He.ga K "Rule")
  n_Rule_checking : NoAttr K (He.ga K "Rule") "checking"
  n_Rule_halves : NoAttr K (He.ga K "Rule") "halves"
  n_Rule_singles : NoAttr K (He.ga K "Rule") "singles"
  n_Rule_telling : NoAttr K (He.ga K "Rule") "telling"
  n_BadRule_part : PySem.W.findIn K (.ref (He.ga K "BadRule")) "part" = some none
  xf_BadRule : XfC K (He.ga K "BadRule")
  xo_BadRule : OexC K (He.ga K "BadRule")
  xi_BadRule : PySem.W.findIn K (.ref (He.ga K "BadRule")) "__init__" = some (some (.ref (He.ma K (He.ga K "BadRule") "__init__")))
  xt_BadRule : PySem.W.typeIn K (.ref (He.ma K (He.ga K "BadRule") "__init__")) = some (.type "function")
  xm_BadRule_BadRule : PySem.W.exmOne K (.ref (He.ga K "BadRule")) (.ref (He.ga K "BadRule")) = some true
  m_Rule___eq__ : Meth K (He.ga K "Rule") "__eq__" (He.ma K (He.ga K "Rule") "__eq__")
  m_Rule_parts : Meth K (He.ga K "Rule") "parts" (He.ma K (He.ga K "Rule") "parts")
  m_Rule_turned : Meth K (He.ga K "Rule") "turned" (He.ma K (He.ga K "Rule") "turned")
  mk_Rule : Mk K (He.ga K "Rule") (He.ma K (He.ga K "Rule") "__init__")
  i_Rule : IsoC K (He.ga K "Rule")
abbrev s_law_begin : Stmt := top 9
def m_law_begin_36 : MS := (mRet (mCell (mCons (mCallF (lstM true) (mCons (mVar 0) mNil)) (mCons (mC (.int 0)) (mCons (mC (.int 0)) (mCons (mC (.int 7)) mNil))))))
def m_law_begin : MF := mFn 1 (m_law_begin_36)
theorem sc_m_law_begin : FnScope ["_law_script"] ["_law_script"] (defScope s_law_begin) := ⟨rfl, rfl, rfl, by decide +kernel, rfl, by decide +kernel, by decide +kernel⟩
theorem ok_law_begin {P : Program} {w : World} {K : PySem.W.Frag} {mg : Str → Option Value} {base : Heap} {f : Addr} {fd : FuncData} (g : Gs K mg) (F : FunD K "_law_begin" "_law_begin" (defArgs s_law_begin) (defBody s_law_begin) (defScope s_law_begin) [] [] f fd) (hg : mg "_law_begin" = some (.ref f)) : FN P w K mg base 1 1 "_law_begin" m_law_begin := by
  refine ⟨f, fd, ["_law_script"], ?_, hg, F.kp, F.bindsN fun _ _ _ _ _ _ us hl => match us, hl with | [_], _ => rfl⟩
  refine F.ok sc_m_law_begin (fun vs H Q E h => h.1) (fun cdv A outer s H vs Q E hr h => body_ok (m := m_law_begin_36) (by decide) ?_ h)
  exact (sss_one (ss_ret (se_cell (sa_cons (se_callTy (crM_list true) pu_list rfl g.b_list bt_list (sa_cons (sv 0) sa_nil)) (sa_cons se_int (sa_cons se_int (sa_cons se_int sa_nil)))) (lenCons (lenCons (lenCons (lenCons lenNil)))) (by decide))))
abbrev s_law_values : Stmt := top 11
def m_law_values_54 : MS := (mRet (mLst (mCons (mLst (mCons (mC (.str "none")) (mCons (mC (.str "room")) (mCons (mC (.str "both")) mNil)))) (mCons (mLst (mCons (mC (.str "keep")) (mCons (mC (.str "move")) (mCons (mC (.str "reset")) mNil)))) (mCons (mLst (mCons (mC (.str "left")) (mCons (mC (.str "undone")) mNil))) (mCons (mLst (mCons (mC (.str "now")) (mCons (mC (.str "seen")) mNil))) mNil))))))
def m_law_values : MF := mFn 0 (m_law_values_54)
theorem sc_m_law_values : FnScope [] [] (defScope s_law_values) := ⟨rfl, rfl, rfl, by decide +kernel, rfl, by decide +kernel, by decide +kernel⟩
theorem ok_law_values {P : Program} {w : World} {K : PySem.W.Frag} {mg : Str → Option Value} {base : Heap} {f : Addr} {fd : FuncData} (g : Gs K mg) (F : FunD K "_law_values" "_law_values" (defArgs s_law_values) (defBody s_law_values) (defScope s_law_values) [] [] f fd) (hg : mg "_law_values" = some (.ref f)) : FN P w K mg base 1 0 "_law_values" m_law_values := by
  refine ⟨f, fd, [], ?_, hg, F.kp, F.bindsN fun _ _ _ _ _ _ us hl => match us, hl with | [], _ => rfl⟩
  refine F.ok sc_m_law_values (fun vs H Q E h => h.1) (fun cdv A outer s H vs Q E hr h => body_ok (m := m_law_values_54) (by decide) ?_ h)
  exact (sss_one (ss_ret (se_lst (sa_cons (se_lst (sa_cons se_str (sa_cons se_str (sa_cons se_str sa_nil))) (lenCons (lenCons (lenCons lenNil))) (by decide)) (sa_cons (se_lst (sa_cons se_str (sa_cons se_str (sa_cons se_str sa_nil))) (lenCons (lenCons (lenCons lenNil))) (by decide)) (sa_cons (se_lst (sa_cons se_str (sa_cons se_str sa_nil)) (lenCons (lenCons lenNil)) (by decide)) (sa_cons (se_lst (sa_cons se_str (sa_cons se_str sa_nil)) (lenCons (lenCons lenNil)) (by decide)) sa_nil)))) (lenCons (lenCons (lenCons (lenCons lenNil)))) (by decide))))
theorem px_law_values : ∀ S c d S', m_law_values [] S ≠ .exc c d S' := by intro S c d S' h; first | (exact absurd h (by intro h; cases h)) | cases h
abbrev s_law_draw : Stmt := top 10
def m_law_draw_40 : MS := (mAsg (mOp idxM (mOp idxM (mVar 0) (mC (.int 0))) (mOp idxM (mVar 0) (mC (.int 1)))) (tgName 3))
def m_law_draw_41 : MS := (mSub (mOp addM (mOp idxM (mVar 0) (mC (.int 1))) (mC (.int 1))) (mVar 0) (mC (.int 1)))
def m_law_draw_43 : MS := (mSub (mVar 3) (mVar 0) (mC (.int 2)))
def m_law_draw_45 : MS := (mSub (mOp modM (mCallF intM (mCons (mOp addM (mOp addM (mOp mulM (mOp idxM (mVar 0) (mC (.int 3))) (mC (.int 48271))) (mOp mulM (mVar 3) (mC (.int 69621)))) (mC (.int 11))) mNil)) (mC (.int 2147483647))) (mVar 0) (mC (.int 3)))
def m_law_draw_42 : MS := (mIfS (mTest (mOp geM (mVar 3) (mOp powM (mC (.int 10)) (mC (.int 18))))) m_law_draw_43 m_law_draw_45)
def m_law_draw_47 : MS := (mSub (mOp modM (mCallF intM (mCons (mOp addM (mOp mulM (mOp idxM (mVar 0) (mC (.int 3))) (mC (.int 48271))) (mC (.int 7))) mNil)) (mC (.int 2147483647))) (mVar 0) (mC (.int 3)))
def m_law_draw_39 : MS := (mIfS (mTest (mOp ltM (mOp idxM (mVar 0) (mC (.int 1))) (mCallF lenM (mCons (mOp idxM (mVar 0) (mC (.int 0))) mNil)))) (mSeq m_law_draw_40 (mSeq m_law_draw_41 m_law_draw_42)) m_law_draw_47)
def m_law_draw_38 : MS := (mIfS (mTest (mOp eqM (mOp idxM (mVar 0) (mC (.int 2))) (mC (.int 0)))) m_law_draw_39 mNext)
def m_law_draw_49 : MS := (mAsg (mOp modM (mCallF intM (mCons (mOp idxM (mVar 0) (mC (.int 2))) mNil)) (mVar 1)) (tgName 2))
def m_law_draw_50 : MS := (mSub (mOp fdivM (mOp idxM (mVar 0) (mC (.int 2))) (mVar 1)) (mVar 0) (mC (.int 2)))
def m_law_draw_51 : MS := (mRet (mVar 2))
def m_law_draw_48 : MS := (mIfS (mTest (mOp gtM (mOp idxM (mVar 0) (mC (.int 2))) (mC (.int 0)))) (mSeq m_law_draw_49 (mSeq m_law_draw_50 m_law_draw_51)) mNext)
def m_law_draw_52 : MS := (mRet (mOp modM (mOp modM (mCallF intM (mCons (mOp mulM (mOp idxM (mVar 0) (mC (.int 3))) (mC (.int 16807))) mNil)) (mC (.int 2147483629))) (mVar 1)))
def m_law_draw : MF := mFn 4 ((mSeq m_law_draw_38 (mSeq m_law_draw_48 m_law_draw_52)))
theorem sc_m_law_draw : FnScope ["_law_draws", "_law_size", "_law_found", "_law_cell"] ["_law_draws", "_law_size"] (defScope s_law_draw) := ⟨rfl, rfl, rfl, by decide +kernel, rfl, by decide +kernel, by decide +kernel⟩
theorem ok_law_draw {P : Program} {w : World} {K : PySem.W.Frag} {mg : Str → Option Value} {base : Heap} {f : Addr} {fd : FuncData} (g : Gs K mg) (F : FunD K "_law_draw" "_law_draw" (defArgs s_law_draw) (defBody s_law_draw) (defScope s_law_draw) [] [] f fd) (hg : mg "_law_draw" = some (.ref f)) : FN P w K mg base 1 2 "_law_draw" m_law_draw := by
  refine ⟨f, fd, ["_law_draws", "_law_size"], ?_, hg, F.kp, F.bindsN fun _ _ _ _ _ _ us hl => match us, hl with | [_, _], _ => rfl⟩
  refine F.ok sc_m_law_draw (fun vs H Q E h => h.1) (fun cdv A outer s H vs Q E hr h => body_ok (m := (mSeq m_law_draw_38 (mSeq m_law_draw_48 m_law_draw_52))) (by decide) ?_ h)
  exact (sss_cons (ss_if (st_cmp (opM_eq (Room.u64 hr)) pu_eq (nomark _) (se_ix (Room.u1 hr) (fun _ _ => rfl) (sv 0) se_int pu_ix) se_int) (sss_one (ss_if (st_cmp (opM_int op_lt) pu_cmpI (nomark _) (se_ix (Room.u1 hr) (fun _ _ => rfl) (sv 0) se_int pu_ix) (se_callB crM_len pu_len rfl g.b_len bt_len (sa_cons (se_ix (Room.u1 hr) (fun _ _ => rfl) (sv 0) se_int pu_ix) sa_nil))) (sss_cons (sset 3 sc_m_law_draw.nd (se_ix (Room.u1 hr) (fun _ _ => rfl) (se_ix (Room.u1 hr) (fun _ _ => rfl) (sv 0) se_int pu_ix) (se_ix (Room.u1 hr) (fun _ _ => rfl) (sv 0) se_int pu_ix) pu_ix)) (sss_cons (ss_sub (Room.u1 hr) (se_op opM_add pu_add (se_ix (Room.u1 hr) (fun _ _ => rfl) (sv 0) se_int pu_ix) se_int) (sv 0) se_int) (sss_one (ss_if (st_cmp (opM_int op_ge) pu_cmpI (nomark _) (sv 3) (se_op opM_pow pu_pow se_int se_int)) (sss_one (ss_sub (Room.u1 hr) (sv 3) (sv 0) se_int)) (sss_one (ss_sub (Room.u1 hr) (se_op opM_mod pu_mod (se_callTy crM_int pu_int rfl g.b_int bt_int (sa_cons (se_op opM_add pu_add (se_op opM_add pu_add (se_op opM_mul pu_mul (se_ix (Room.u1 hr) (fun _ _ => rfl) (sv 0) se_int pu_ix) se_int) (se_op opM_mul pu_mul (sv 3) se_int)) se_int) sa_nil)) se_int) (sv 0) se_int)))))) (sss_one (ss_sub (Room.u1 hr) (se_op opM_mod pu_mod (se_callTy crM_int pu_int rfl g.b_int bt_int (sa_cons (se_op opM_add pu_add (se_op opM_mul pu_mul (se_ix (Room.u1 hr) (fun _ _ => rfl) (sv 0) se_int pu_ix) se_int) se_int) sa_nil)) se_int) (sv 0) se_int)))) sss_nil) (sss_cons (ss_if (st_cmp (opM_int op_gt) pu_cmpI (nomark _) (se_ix (Room.u1 hr) (fun _ _ => rfl) (sv 0) se_int pu_ix) se_int) (sss_cons (sset 2 sc_m_law_draw.nd (se_op opM_mod pu_mod (se_callTy crM_int pu_int rfl g.b_int bt_int (sa_cons (se_ix (Room.u1 hr) (fun _ _ => rfl) (sv 0) se_int pu_ix) sa_nil)) (sv 1))) (sss_cons (ss_sub (Room.u1 hr) (se_op opM_fdiv pu_fdiv (se_ix (Room.u1 hr) (fun _ _ => rfl) (sv 0) se_int pu_ix) (sv 1)) (sv 0) se_int) (sss_one (ss_ret (sv 2))))) sss_nil) (sss_one (ss_ret (se_op opM_mod pu_mod (se_op opM_mod pu_mod (se_callTy crM_int pu_int rfl g.b_int bt_int (sa_cons (se_op opM_mul pu_mul (se_ix (Room.u1 hr) (fun _ _ => rfl) (sv 0) se_int pu_ix) se_int) sa_nil)) se_int) (sv 1))))))
abbrev s_law_parts : Stmt := top 13
def m_law_parts_58 : MS := (mRet (mLc false [1] (mSrc (mCallF m_law_values mNil)) (tgName 1) mTrue (mOp idxM (mVar 1) (mCallF m_law_draw (mCons (mVar 0) (mCons (mCallF lenM (mCons (mVar 1) mNil)) mNil))))))
def m_law_parts : MF := mFn 2 (m_law_parts_58)
theorem sc_m_law_parts : FnScope ["_law_draws", "_law_some"] ["_law_draws"] (defScope s_law_parts) := ⟨rfl, rfl, rfl, by decide +kernel, rfl, by decide +kernel, by decide +kernel⟩
theorem ok_law_parts {P : Program} {w : World} {K : PySem.W.Frag} {mg : Str → Option Value} {base : Heap} {f : Addr} {fd : FuncData} (g : Gs K mg) (h_law_values : FN P w K mg base 1 0 "_law_values" m_law_values) (h_law_draw : FN P w K mg base 1 2 "_law_draw" m_law_draw) (F : FunD K "_law_parts" "_law_parts" (defArgs s_law_parts) (defBody s_law_parts) (defScope s_law_parts) [] [] f fd) (hg : mg "_law_parts" = some (.ref f)) : FN P w K mg base 2 1 "_law_parts" m_law_parts := by
  refine ⟨f, fd, ["_law_draws"], ?_, hg, F.kp, F.bindsN fun _ _ _ _ _ _ us hl => match us, hl with | [_], _ => rfl⟩
  refine F.ok sc_m_law_parts (fun vs H Q E h => h.1) (fun cdv A outer s H vs Q E hr h => body_ok (m := m_law_parts_58) (by decide) ?_ h)
  exact (sss_one (ss_ret (se_lc (fr := false) (own := [("_law_some", 1)]) rfl sc_m_law_parts.nd (si_seq (se_callN0 h_law_values hr (by decide) rfl px_law_values)) (blkOk_by rfl) (fun _ _ _ _ _ => (sn 1 sc_m_law_parts.nd)) (fun _ _ _ _ _ => sts_nil) (fun _ _ _ _ _ => (se_ix (Room.u1 hr) (fun _ _ => rfl) (sv 1) (se_callN h_law_draw hr (by decide) rfl takesNo (sa_cons (sv 0) (sa_cons (se_callB crM_len pu_len rfl g.b_len bt_len (sa_cons (sv 1) sa_nil)) sa_nil)) (lenCons (lenCons lenNil))) pu_ix)) (by decide))))
abbrev s_Rule___init__ : Stmt := inClass (top 6) 0
def m_Rule___init___16 : MS := (mRaise "BadRule" "part" (mVar 5))
def m_Rule___init___15 : MS := (mIfS (mOr (mNot (mTest (mIsi "str" (mVar 6)))) (mTest (mOp ninM (mVar 6) (mVar 7)))) m_Rule___init___16 mNext)
def m_Rule___init___14 : MS := (mFor (mZip3 (mCons (mC d_PARTS) (mCons (mTup (mCons (mVar 1) (mCons (mVar 2) (mCons (mVar 3) (mCons (mVar 4) mNil))))) (mCons (mC d_VALUES) mNil)))) (tgTup (tgCons (tgName 5) (tgCons (tgName 6) (tgCons (tgName 7) tgNil)))) m_Rule___init___15)
def m_Rule___init___17 : MS := (mFset "Rule" "checking" (mVar 1) (mVar 0))
def m_Rule___init___18 : MS := (mFset "Rule" "singles" (mVar 2) (mVar 0))
def m_Rule___init___19 : MS := (mFset "Rule" "halves" (mVar 3) (mVar 0))
def m_Rule___init___20 : MS := (mFset "Rule" "telling" (mVar 4) (mVar 0))
def m_Rule___init__ : MF := mFn 8 ((mSeq m_Rule___init___14 (mSeq m_Rule___init___17 (mSeq m_Rule___init___18 (mSeq m_Rule___init___19 m_Rule___init___20)))))
theorem sc_m_Rule___init__ : FnScope ["self", "checking", "singles", "halves", "telling", "part", "value", "some"] ["self", "checking", "singles", "halves", "telling"] (defScope s_Rule___init__) := ⟨rfl, rfl, rfl, by decide +kernel, rfl, by decide +kernel, by decide +kernel⟩
theorem ok_Rule___init__ {P : Program} {w : World} {K : PySem.W.Frag} {mg : Str → Option Value} {base : Heap} {fd : FuncData} (g : Gs K mg) (x_BadRule : XN P w K mg base 1 "BadRule" "part") (F : FunD K "__init__" "Rule.__init__" (defArgs s_Rule___init__) (defBody s_Rule___init__) (defScope s_Rule___init__) [] [] (He.ma K (He.ga K "Rule") "__init__") fd) : MN P w K mg base 3 5 "Rule" "__init__" m_Rule___init__ := by
  refine ⟨fd, ["self", "checking", "singles", "halves", "telling"], ?_, F.bindsN fun _ _ _ _ _ _ us hl => match us, hl with | [_, _, _, _, _], _ => rfl⟩
  refine F.ok sc_m_Rule___init__ (fun vs H Q E h => h.1) (fun cdv A outer s H vs Q E hr h => body_ok (m := (mSeq m_Rule___init___14 (mSeq m_Rule___init___17 (mSeq m_Rule___init___18 (mSeq m_Rule___init___19 m_Rule___init___20))))) (by decide) ?_ h)
  exact (sss_cons (ss_for pass_cx rfl (si_zip3 rfl g.b_zip (sa_cons (se_globN g.k_PARTS rfl) (sa_cons (se_tup (sa_cons (sv 1) (sa_cons (sv 2) (sa_cons (sv 3) (sa_cons (sv 4) sa_nil)))) (lenCons (lenCons (lenCons (lenCons lenNil)))) (by decide)) (sa_cons (se_globN g.k_VALUES rfl) sa_nil)))) (sg_tup rfl (sgs_cons (sn 5 sc_m_Rule___init__.nd) (sgs_cons (sn 6 sc_m_Rule___init__.nd) (sgs_cons (sn 7 sc_m_Rule___init__.nd) sgs_nil)))) (sss_one (ss_if (st_w (sw_or (st_not (st_val (se_isi rfl g.b_isinstance rfl g.b_str bt_str (sv 6)))) (sw_or1 (st_cmp (opM_nin (Room.u65 hr)) pu_nin (by with_unfolding_all rfl) (sv 6) (sv 7))))) (sss_one (ss_raiseN x_BadRule rfl takes_cx hr (by decide) rfl (sv 5))) sss_nil))) (sss_cons (ss_fset g.c_Rule g.n_Rule_checking (sv 1) (sv 0)) (sss_cons (ss_fset g.c_Rule g.n_Rule_singles (sv 2) (sv 0)) (sss_cons (ss_fset g.c_Rule g.n_Rule_halves (sv 3) (sv 0)) (sss_one (ss_fset g.c_Rule g.n_Rule_telling (sv 4) (sv 0)))))))
abbrev s_law_rule : Stmt := top 14
def m_law_rule_60 : MS := (mRet (mCallF (makM "Rule" m_Rule___init__) (mCons (mOp idxM (mVar 0) (mC (.int 0))) (mCons (mOp idxM (mVar 0) (mC (.int 1))) (mCons (mOp idxM (mVar 0) (mC (.int 2))) (mCons (mOp idxM (mVar 0) (mC (.int 3))) mNil))))))
def m_law_rule : MF := frzF (mFn 1 (m_law_rule_60))
theorem sc_m_law_rule : FnScope ["_law_parts_here"] ["_law_parts_here"] (defScope s_law_rule) := ⟨rfl, rfl, rfl, by decide +kernel, rfl, by decide +kernel, by decide +kernel⟩
theorem ok_law_rule {P : Program} {w : World} {K : PySem.W.Frag} {mg : Str → Option Value} {base : Heap} {f : Addr} {fd : FuncData} (g : Gs K mg) (h_Rule___init__ : MN P w K mg base 3 5 "Rule" "__init__" m_Rule___init__) (F : FunD K "_law_rule" "_law_rule" (defArgs s_law_rule) (defBody s_law_rule) (defScope s_law_rule) [] [] f fd) (hg : mg "_law_rule" = some (.ref f)) : FN P w K mg base 5 1 "_law_rule" m_law_rule := by
  refine ⟨f, fd, ["_law_parts_here"], ?_, hg, F.kp, F.bindsN fun _ _ _ _ _ _ us hl => match us, hl with | [_], _ => rfl⟩
  refine frz_ok (m := mFn _ _) (F.ok sc_m_law_rule (fun vs H Q E h => h.1) (fun cdv A outer s H vs Q E hr h => body_ok (m := m_law_rule_60) (by decide) ?_ h))
  exact (sss_one (ss_ret (se_makeN h_Rule___init__ g.mk_Rule g.gc_Rule hr (by decide) rfl takes_cx (sa_cons (se_ix (Room.u1 hr) (fun _ _ => rfl) (sv 0) se_int pu_ix) (sa_cons (se_ix (Room.u1 hr) (fun _ _ => rfl) (sv 0) se_int pu_ix) (sa_cons (se_ix (Room.u1 hr) (fun _ _ => rfl) (sv 0) se_int pu_ix) (sa_cons (se_ix (Room.u1 hr) (fun _ _ => rfl) (sv 0) se_int pu_ix) sa_nil)))) (lenCons (lenCons (lenCons (lenCons lenNil)))))))
abbrev s_law_names : Stmt := top 12
def m_law_names_56 : MS := (mRet (mLst (mCons (mC (.str "checking")) (mCons (mC (.str "singles")) (mCons (mC (.str "halves")) (mCons (mC (.str "telling")) mNil))))))
def m_law_names : MF := mFn 0 (m_law_names_56)
theorem sc_m_law_names : FnScope [] [] (defScope s_law_names) := ⟨rfl, rfl, rfl, by decide +kernel, rfl, by decide +kernel, by decide +kernel⟩
theorem ok_law_names {P : Program} {w : World} {K : PySem.W.Frag} {mg : Str → Option Value} {base : Heap} {f : Addr} {fd : FuncData} (g : Gs K mg) (F : FunD K "_law_names" "_law_names" (defArgs s_law_names) (defBody s_law_names) (defScope s_law_names) [] [] f fd) (hg : mg "_law_names" = some (.ref f)) : FN P w K mg base 1 0 "_law_names" m_law_names := by
  refine ⟨f, fd, [], ?_, hg, F.kp, F.bindsN fun _ _ _ _ _ _ us hl => match us, hl with | [], _ => rfl⟩
  refine F.ok sc_m_law_names (fun vs H Q E h => h.1) (fun cdv A outer s H vs Q E hr h => body_ok (m := m_law_names_56) (by decide) ?_ h)
  exact (sss_one (ss_ret (se_lst (sa_cons se_str (sa_cons se_str (sa_cons se_str (sa_cons se_str sa_nil)))) (lenCons (lenCons (lenCons (lenCons lenNil)))) (by decide))))
theorem px_law_names : ∀ S c d S', m_law_names [] S ≠ .exc c d S' := by intro S c d S' h; first | (exact absurd h (by intro h; cases h)) | cases h
abbrev s_law_due : Stmt := top 15
def m_law_due_64 : MS := (mRet (mOp idxM (mCallF m_law_names mNil) (mVar 1)))
def m_law_due_63 : MS := (mIfS (mOr (mNot (mTest (mIsi "str" (mOp idxM (mVar 0) (mVar 1))))) (mTest (mOp ninM (mOp idxM (mVar 0) (mVar 1)) (mOp idxM (mCallF m_law_values mNil) (mVar 1))))) m_law_due_64 mNext)
def m_law_due_62 : MS := (mFor (mRng (mCons (mC (.int 4)) mNil)) (tgName 1) m_law_due_63)
def m_law_due_65 : MS := (mRet (mC .non))
def m_law_due : MF := mFn 2 ((mSeq m_law_due_62 m_law_due_65))
theorem sc_m_law_due : FnScope ["_law_parts_here", "_law_k"] ["_law_parts_here"] (defScope s_law_due) := ⟨rfl, rfl, rfl, by decide +kernel, rfl, by decide +kernel, by decide +kernel⟩
theorem ok_law_due {P : Program} {w : World} {K : PySem.W.Frag} {mg : Str → Option Value} {base : Heap} {f : Addr} {fd : FuncData} (g : Gs K mg) (h_law_values : FN P w K mg base 1 0 "_law_values" m_law_values) (h_law_names : FN P w K mg base 1 0 "_law_names" m_law_names) (F : FunD K "_law_due" "_law_due" (defArgs s_law_due) (defBody s_law_due) (defScope s_law_due) [] [] f fd) (hg : mg "_law_due" = some (.ref f)) : FN P w K mg base 2 1 "_law_due" m_law_due := by
  refine ⟨f, fd, ["_law_parts_here"], ?_, hg, F.kp, F.bindsN fun _ _ _ _ _ _ us hl => match us, hl with | [_], _ => rfl⟩
  refine F.ok sc_m_law_due (fun vs H Q E h => h.1) (fun cdv A outer s H vs Q E hr h => body_ok (m := (mSeq m_law_due_62 m_law_due_65)) (by decide) ?_ h)
  exact (sss_cons (ss_for pass_cx rfl (si_rng rfl g.b_range (sa_cons se_int sa_nil)) (sn 1 sc_m_law_due.nd) (sss_one (ss_if (st_w (sw_or (st_not (st_val (se_isi rfl g.b_isinstance rfl g.b_str bt_str (se_ix (Room.u1 hr) (fun _ _ => rfl) (sv 0) (sv 1) pu_ix)))) (sw_or1 (st_cmp (opM_nin (Room.u65 hr)) pu_nin (by with_unfolding_all rfl) (se_ix (Room.u1 hr) (fun _ _ => rfl) (sv 0) (sv 1) pu_ix) (se_ix (Room.u1 hr) (fun _ _ => rfl) (se_callN0 h_law_values hr (by decide) rfl px_law_values) (sv 1) pu_ix))))) (sss_one (ss_ret (se_ix (Room.u1 hr) (fun _ _ => rfl) (se_callN0 h_law_names hr (by decide) rfl px_law_names) (sv 1) pu_ix))) sss_nil))) (sss_one (ss_ret se_non)))
abbrev s_rule_of : Stmt := top 7
def m_rule_of_33 : MS := (mRet (mCallF (makM "Rule" m_Rule___init__) (mCons (mOp idxM (mVar 0) (mC (.int 0))) (mCons (mOp idxM (mVar 0) (mC (.int 1))) (mCons (mOp idxM (mVar 0) (mC (.int 2))) (mCons (mOp idxM (mVar 0) (mC (.int 3))) mNil))))))
def m_rule_of : MF := frzF (mFn 1 (m_rule_of_33))
theorem sc_m_rule_of : FnScope ["row"] ["row"] (defScope s_rule_of) := ⟨rfl, rfl, rfl, by decide +kernel, rfl, by decide +kernel, by decide +kernel⟩
theorem ok_rule_of {P : Program} {w : World} {K : PySem.W.Frag} {mg : Str → Option Value} {base : Heap} {f : Addr} {fd : FuncData} (g : Gs K mg) (h_Rule___init__ : MN P w K mg base 3 5 "Rule" "__init__" m_Rule___init__) (F : FunD K "rule_of" "rule_of" (defArgs s_rule_of) (defBody s_rule_of) (defScope s_rule_of) [] [] f fd) (hg : mg "rule_of" = some (.ref f)) : FN P w K mg base 5 1 "rule_of" m_rule_of := by
  refine ⟨f, fd, ["row"], ?_, hg, F.kp, F.bindsN fun _ _ _ _ _ _ us hl => match us, hl with | [_], _ => rfl⟩
  refine frz_ok (m := mFn _ _) (F.ok sc_m_rule_of (fun vs H Q E h => h.1) (fun cdv A outer s H vs Q E hr h => body_ok (m := m_rule_of_33) (by decide) ?_ h))
  exact (sss_one (ss_ret (se_makeN h_Rule___init__ g.mk_Rule g.gc_Rule hr (by decide) rfl takes_cx (sa_cons (se_ix (Room.u1 hr) (fun _ _ => rfl) (sv 0) se_int pu_ix) (sa_cons (se_ix (Room.u1 hr) (fun _ _ => rfl) (sv 0) se_int pu_ix) (sa_cons (se_ix (Room.u1 hr) (fun _ _ => rfl) (sv 0) se_int pu_ix) (sa_cons (se_ix (Room.u1 hr) (fun _ _ => rfl) (sv 0) se_int pu_ix) sa_nil)))) (lenCons (lenCons (lenCons (lenCons lenNil)))))))
abbrev s_Rule_parts : Stmt := inClass (top 6) 1
def m_Rule_parts_23 : MS := (mRet (mTup (mCons (mFld "Rule" "checking" (mVar 0)) (mCons (mFld "Rule" "singles" (mVar 0)) (mCons (mFld "Rule" "halves" (mVar 0)) (mCons (mFld "Rule" "telling" (mVar 0)) mNil))))))
def m_Rule_parts : MF := mFn 1 (m_Rule_parts_23)
theorem sc_m_Rule_parts : FnScope ["self"] ["self"] (defScope s_Rule_parts) := ⟨rfl, rfl, rfl, by decide +kernel, rfl, by decide +kernel, by decide +kernel⟩
theorem ok_Rule_parts {P : Program} {w : World} {K : PySem.W.Frag} {mg : Str → Option Value} {base : Heap} {fd : FuncData} (g : Gs K mg) (F : FunD K "parts" "Rule.parts" (defArgs s_Rule_parts) (defBody s_Rule_parts) (defScope s_Rule_parts) [] [] (He.ma K (He.ga K "Rule") "parts") fd) : MN P w K mg base 1 1 "Rule" "parts" m_Rule_parts := by
  refine ⟨fd, ["self"], ?_, F.bindsN fun _ _ _ _ _ _ us hl => match us, hl with | [_], _ => rfl⟩
  refine F.ok sc_m_Rule_parts (fun vs H Q E h => h.1) (fun cdv A outer s H vs Q E hr h => body_ok (m := m_Rule_parts_23) (by decide) ?_ h)
  exact (sss_one (ss_ret (se_tup (sa_cons (se_fld g.c_Rule g.n_Rule_checking (sv 0)) (sa_cons (se_fld g.c_Rule g.n_Rule_singles (sv 0)) (sa_cons (se_fld g.c_Rule g.n_Rule_halves (sv 0)) (sa_cons (se_fld g.c_Rule g.n_Rule_telling (sv 0)) sa_nil)))) (lenCons (lenCons (lenCons (lenCons lenNil)))) (by decide))))
abbrev s_Rule_turned : Stmt := inClass (top 6) 3
def m_Rule_turned_30 : MS := (mRaise "BadRule" "part" (mVar 1))
def m_Rule_turned_29 : MS := (mIfS (mOr (mNot (mTest (mIsi "str" (mVar 1)))) (mTest (mOp ninM (mVar 1) (mC d_PARTS)))) m_Rule_turned_30 mNext)
def m_Rule_turned_31 : MS := (mRet (mCallF m_rule_of (mCons (mLc true [3, 4] (mZip2 (mCons (mC d_PARTS) (mCons (mMeth "Rule" "parts" m_Rule_parts (mVar 0) mNil) mNil))) (tgTup (tgCons (tgName 3) (tgCons (tgName 4) tgNil))) mTrue (mIf (mTest (mOp eqM (mVar 3) (mVar 1))) (mVar 2) (mVar 4))) mNil)))
def m_Rule_turned : MF := frzF (mFn 5 ((mSeq m_Rule_turned_29 m_Rule_turned_31)))
theorem sc_m_Rule_turned : FnScope ["self", "part", "value", "one", "before"] ["self", "part", "value"] (defScope s_Rule_turned) := ⟨rfl, rfl, rfl, by decide +kernel, rfl, by decide +kernel, by decide +kernel⟩
theorem ok_Rule_turned {P : Program} {w : World} {K : PySem.W.Frag} {mg : Str → Option Value} {base : Heap} {fd : FuncData} (g : Gs K mg) (h_rule_of : FN P w K mg base 5 1 "rule_of" m_rule_of) (h_Rule_parts : MN P w K mg base 1 1 "Rule" "parts" m_Rule_parts) (x_BadRule : XN P w K mg base 1 "BadRule" "part") (F : FunD K "turned" "Rule.turned" (defArgs s_Rule_turned) (defBody s_Rule_turned) (defScope s_Rule_turned) [] [] (He.ma K (He.ga K "Rule") "turned") fd) : MN P w K mg base 6 3 "Rule" "turned" m_Rule_turned := by
  refine ⟨fd, ["self", "part", "value"], ?_, F.bindsN fun _ _ _ _ _ _ us hl => match us, hl with | [_, _, _], _ => rfl⟩
  refine frz_ok (m := mFn _ _) (F.ok sc_m_Rule_turned (fun vs H Q E h => h.1) (fun cdv A outer s H vs Q E hr h => body_ok (m := (mSeq m_Rule_turned_29 m_Rule_turned_31)) (by decide) ?_ h))
  exact (sss_cons (ss_if (st_w (sw_or (st_not (st_val (se_isi rfl g.b_isinstance rfl g.b_str bt_str (sv 1)))) (sw_or1 (st_cmp (opM_nin (Room.u65 hr)) pu_nin (by with_unfolding_all rfl) (sv 1) (se_globN g.k_PARTS rfl))))) (sss_one (ss_raiseN x_BadRule rfl takes_cx hr (by decide) rfl (sv 1))) sss_nil) (sss_one (ss_ret (se_callN h_rule_of hr (by decide) rfl takes_cx (sa_cons (se_lc (fr := true) (own := [("one", 3), ("before", 4)]) rfl sc_m_Rule_turned.nd (si_zip2 rfl g.b_zip (sa_cons (se_globN g.k_PARTS rfl) (sa_cons (se_methN0 h_Rule_parts g.c_Rule g.m_Rule_parts hr (by decide) takes_cx (sv 0)) sa_nil))) (blkOk_by rfl) (fun _ _ _ _ _ => (sg_tup rfl (sgs_cons (sn 3 sc_m_Rule_turned.nd) (sgs_cons (sn 4 sc_m_Rule_turned.nd) sgs_nil)))) (fun _ _ _ _ _ => sts_nil) (fun _ _ _ _ _ => (se_if (st_cmp (opM_eq (Room.u64 hr)) pu_eq (nomark _) (sv 3) (sv 1)) (sv 2) (sv 4))) (by decide)) sa_nil) (lenCons lenNil)))))
abbrev s_Rule___eq__ : Stmt := inClass (top 6) 2
def m_Rule___eq___26 : MS := (mRet (mAndV (mIsO "Rule" (mVar 1)) (mOp eqM (mMeth "Rule" "parts" m_Rule_parts (mVar 0) mNil) (mMeth "Rule" "parts" m_Rule_parts (mVar 1) mNil))))
def m_Rule___eq__ : MF := mFn 2 (m_Rule___eq___26)
theorem sc_m_Rule___eq__ : FnScope ["self", "other"] ["self", "other"] (defScope s_Rule___eq__) := ⟨rfl, rfl, rfl, by decide +kernel, rfl, by decide +kernel, by decide +kernel⟩
theorem ok_Rule___eq__ {P : Program} {w : World} {K : PySem.W.Frag} {mg : Str → Option Value} {base : Heap} {fd : FuncData} (g : Gs K mg) (h_Rule_parts : MN P w K mg base 1 1 "Rule" "parts" m_Rule_parts) (F : FunD K "__eq__" "Rule.__eq__" (defArgs s_Rule___eq__) (defBody s_Rule___eq__) (defScope s_Rule___eq__) [] [] (He.ma K (He.ga K "Rule") "__eq__") fd) : MN P w K mg base 2 2 "Rule" "__eq__" m_Rule___eq__ := by
  refine ⟨fd, ["self", "other"], ?_, F.bindsN fun _ _ _ _ _ _ us hl => match us, hl with | [_, _], _ => rfl⟩
  refine F.ok sc_m_Rule___eq__ (fun vs H Q E h => h.1) (fun cdv A outer s H vs Q E hr h => body_ok (m := m_Rule___eq___26) (by decide) ?_ h)
  exact (sss_one (ss_ret (se_and (se_isO g.i_Rule rfl g.b_isinstance rfl g.gc_Rule (sv 1)) (se_one (se_cmp (opM_eq (Room.u64 hr)) pu_eq (nomark _) (se_methN0 h_Rule_parts g.c_Rule g.m_Rule_parts hr (by decide) takes_cx (sv 0)) (se_methN0 h_Rule_parts g.c_Rule g.m_Rule_parts hr (by decide) takes_cx (sv 1)))))))
abbrev s_law : Stmt := top 16
def m_law_67 : MS := (mAsg (mCallF m_law_begin (mCons (mVar 0) mNil)) (tgName 1))
def m_law_68 : MS := (mAsg (mCallF m_law_parts (mCons (mVar 1) mNil)) (tgName 2))
def m_law_70 : MS := (mAsg (mLst (mCons (mC .non) (mCons (mC (.int 0)) (mCons (mC (.bl true)) (mCons (mC (.str "none")) (mCons (mC (.str "keep")) (mCons (mC (.str "left")) (mCons (mC (.str "now")) (mCons (mC (.str "")) (mCons (mC (.str "Both")) (mCons (mTup (mCons (mC (.str "room")) mNil)) (mCons (mC (.str "undo")) (mCons (mC (.str "seen")) (mCons (mC (.str "reset")) (mCons (mC (.str "both")) mNil))))))))))))))) (tgName 12))
def m_law_71 : MS := (mSub (mOp idxM (mVar 12) (mCallF m_law_draw (mCons (mVar 1) (mCons (mCallF lenM (mCons (mVar 12) mNil)) mNil)))) (mVar 2) (mCallF m_law_draw (mCons (mVar 1) (mCons (mC (.int 4)) mNil))))
def m_law_69 : MS := (mFor (mRng (mCons (mCallF m_law_draw (mCons (mVar 1) (mCons (mC (.int 3)) mNil))) mNil)) (tgName 3) (mSeq m_law_70 m_law_71))
def m_law_72 : MS := (mAsg (mC .non) (tgName 4))
def m_law_73 : MS := (mAsg (mC .non) (tgName 5))
def m_law_75 : MS := (mAsg (mCallF m_law_rule (mCons (mVar 2) mNil)) (tgName 5))
def m_law_74 : MS := (mTryF (oneC "BadRule") "part" 6 4 m_law_75)
def m_law_79 : MS := (mRet (mC (.bl false)))
def m_law_78 : MS := (mIfS (mOr (mTest (mOp neM (mVar 4) (mCallF m_law_due (mCons (mVar 2) mNil)))) (mTest (mOp neM (mCallF (lstM true) (mCons (mC d_PARTS) mNil)) (mCallF m_law_names mNil)))) m_law_79 mNext)
def m_law_81 : MS := (mRet (mC (.bl false)))
def m_law_80 : MS := (mIfS (mTest (mOp neM (mLc true [13] (mSrc (mC d_VALUES)) (tgName 13) mTrue (mCallF (lstM true) (mCons (mVar 13) mNil))) (mCallF m_law_values mNil))) m_law_81 mNext)
def m_law_83 : MS := (mRet (mC (.bl true)))
def m_law_82 : MS := (mIfS (mTest (mOp isM (mVar 5) (mC .non))) m_law_83 mNext)
def m_law_84 : MS := (mAsg (mCallF m_law_parts (mCons (mVar 1) mNil)) (tgName 7))
def m_law_85 : MS := (mAsg (mCallF m_law_draw (mCons (mVar 1) (mCons (mC (.int 4)) mNil))) (tgName 8))
def m_law_86 : MS := (mAsg (mMeth "Rule" "turned" m_Rule_turned (mVar 5) (mCons (mOp idxM (mCallF m_law_names mNil) (mVar 8)) (mCons (mOp idxM (mVar 7) (mVar 8)) mNil))) (tgName 9))
def m_law_87 : MS := (mAsg (mOp addM (mOp addM (mSlice (mVar 2) moNone (moSome (mVar 8))) (mLst (mCons (mOp idxM (mVar 7) (mVar 8)) mNil))) (mSlice (mVar 2) (moSome (mOp addM (mVar 8) (mC (.int 1)))) moNone)) (tgName 10))
def m_law_89 : MS := (mRet (mC (.bl false)))
def m_law_88 : MS := (mIfS (mTest (mOp neM (mLst (mCons (mFld "Rule" "checking" (mVar 5)) (mCons (mFld "Rule" "singles" (mVar 5)) (mCons (mFld "Rule" "halves" (mVar 5)) (mCons (mFld "Rule" "telling" (mVar 5)) mNil))))) (mVar 2))) m_law_89 mNext)
def m_law_91 : MS := (mRet (mC (.bl false)))
def m_law_90 : MS := (mIfS (mOr (mTest (mOp neM (mMeth "Rule" "parts" m_Rule_parts (mVar 5) mNil) (mCallF tupM (mCons (mVar 2) mNil)))) (mTest (mOp neM (mMeth "Rule" "parts" m_Rule_parts (mVar 9) mNil) (mCallF tupM (mCons (mVar 10) mNil))))) m_law_91 mNext)
def m_law_92 : MS := (mAsg (mC (.bl false)) (tgName 11))
def m_law_94 : MS := (mDrop (mMeth "Rule" "turned" m_Rule_turned (mVar 5) (mCons (mC (.str "days")) (mCons (mC (.str "keep")) mNil))))
def m_law_96 : MS := (mAsg (mC (.bl true)) (tgName 11))
def m_law_93 : MS := (mTry (oneC "BadRule") m_law_94 m_law_96)
def m_law_97 : MS := (mRet (mAndV (mVar 11) (mOp eqM (mOp (eqO "Rule" m_Rule___eq__) (mVar 5) (mCallF m_law_rule (mCons (mVar 7) mNil))) (mOp eqM (mVar 2) (mVar 7)))))
def m_law : MF := mFn 14 ((mSeq m_law_67 (mSeq m_law_68 (mSeq m_law_69 (mSeq m_law_72 (mSeq m_law_73 (mSeq m_law_74 (mSeq m_law_78 (mSeq m_law_80 (mSeq m_law_82 (mSeq m_law_84 (mSeq m_law_85 (mSeq m_law_86 (mSeq m_law_87 (mSeq m_law_88 (mSeq m_law_90 (mSeq m_law_92 (mSeq m_law_93 m_law_97))))))))))))))))))
theorem sc_m_law : FnScope ["_law_script", "_law_draws", "_law_parts_here", "_law_k", "_law_told", "_law_rule_here", "e", "_law_other", "_law_at", "_law_turned", "_law_due_here", "_law_refused", "_law_odd", "_law_some"] ["_law_script"] (defScope s_law) := ⟨rfl, rfl, rfl, by decide +kernel, rfl, by decide +kernel, by decide +kernel⟩
theorem ok_law {P : Program} {w : World} {K : PySem.W.Frag} {mg : Str → Option Value} {base : Heap} {f : Addr} {fd : FuncData} (g : Gs K mg) (h_law_begin : FN P w K mg base 1 1 "_law_begin" m_law_begin) (h_law_parts : FN P w K mg base 2 1 "_law_parts" m_law_parts) (h_law_draw : FN P w K mg base 1 2 "_law_draw" m_law_draw) (h_law_rule : FN P w K mg base 5 1 "_law_rule" m_law_rule) (h_law_due : FN P w K mg base 2 1 "_law_due" m_law_due) (h_law_names : FN P w K mg base 1 0 "_law_names" m_law_names) (h_law_values : FN P w K mg base 1 0 "_law_values" m_law_values) (h_Rule_turned : MN P w K mg base 6 3 "Rule" "turned" m_Rule_turned) (h_Rule_parts : MN P w K mg base 1 1 "Rule" "parts" m_Rule_parts) (h_Rule___eq__ : MN P w K mg base 2 2 "Rule" "__eq__" m_Rule___eq__) (x_BadRule : XN P w K mg base 1 "BadRule" "part") (F : FunD K "law" "law" (defArgs s_law) (defBody s_law) (defScope s_law) [] [] f fd) : FnOk P w K mg base (L2.CX P w) 7 f fd ["_law_script"] (spM w K 1 m_law) := by
  refine F.ok sc_m_law (fun vs H Q E h => h.1) (fun cdv A outer s H vs Q E hr h => body_ok (m := (mSeq m_law_67 (mSeq m_law_68 (mSeq m_law_69 (mSeq m_law_72 (mSeq m_law_73 (mSeq m_law_74 (mSeq m_law_78 (mSeq m_law_80 (mSeq m_law_82 (mSeq m_law_84 (mSeq m_law_85 (mSeq m_law_86 (mSeq m_law_87 (mSeq m_law_88 (mSeq m_law_90 (mSeq m_law_92 (mSeq m_law_93 m_law_97)))))))))))))))))) (by decide) ?_ h)
  exact (sss_cons (sset 1 sc_m_law.nd (se_callN h_law_begin hr (by decide) rfl takes_cx (sa_cons (sv 0) sa_nil) (lenCons lenNil))) (sss_cons (sset 2 sc_m_law.nd (se_callN h_law_parts hr (by decide) rfl takes_cx (sa_cons (sv 1) sa_nil) (lenCons lenNil))) (sss_cons (ss_for pass_cx rfl (si_rng rfl g.b_range (sa_cons (se_callN h_law_draw hr (by decide) rfl takes_cx (sa_cons (sv 1) (sa_cons se_int sa_nil)) (lenCons (lenCons lenNil))) sa_nil)) (sn 3 sc_m_law.nd) (sss_cons (sset 12 sc_m_law.nd (se_lst (sa_cons se_non (sa_cons se_int (sa_cons se_bl (sa_cons se_str (sa_cons se_str (sa_cons se_str (sa_cons se_str (sa_cons se_str (sa_cons se_str (sa_cons (se_tup (sa_cons se_str sa_nil) (lenCons lenNil) (by decide)) (sa_cons se_str (sa_cons se_str (sa_cons se_str (sa_cons se_str sa_nil)))))))))))))) (lenCons (lenCons (lenCons (lenCons (lenCons (lenCons (lenCons (lenCons (lenCons (lenCons (lenCons (lenCons (lenCons (lenCons lenNil)))))))))))))) (by decide))) (sss_one (ss_sub (Room.u1 hr) (se_ix (Room.u1 hr) (fun _ _ => rfl) (sv 12) (se_callN h_law_draw hr (by decide) rfl takes_cx (sa_cons (sv 1) (sa_cons (se_callB crM_len pu_len rfl g.b_len bt_len (sa_cons (sv 12) sa_nil)) sa_nil)) (lenCons (lenCons lenNil))) pu_ix) (sv 2) (se_callN h_law_draw hr (by decide) rfl takes_cx (sa_cons (sv 1) (sa_cons se_int sa_nil)) (lenCons (lenCons lenNil))))))) (sss_cons (sset 4 sc_m_law.nd se_non) (sss_cons (sset 5 sc_m_law.nd se_non) (sss_cons (ss_tryF (i := 6) (j := 4) rfl rfl sc_m_law.nd rfl rfl ⟨rfl, by decide, .inl g.gc_BadRule⟩ takes_cx (oneC_ok g.xm_BadRule_BadRule) oneC_is g.xf_BadRule g.n_BadRule_part rfl rfl (by decide) (by decide) (fun _ _ _ tk pp => (sss_one (sset 5 sc_m_law.nd (se_callN h_law_rule hr (by decide) rfl tk (sa_cons (sv 2) sa_nil) (lenCons lenNil)))))) (sss_cons (ss_if (st_w (sw_or (st_cmp (opM_ne (Room.u64 hr)) pu_ne (nomark _) (sv 4) (se_callN h_law_due hr (by decide) rfl takes_cx (sa_cons (sv 2) sa_nil) (lenCons lenNil))) (sw_or1 (st_cmp (opM_ne (Room.u64 hr)) pu_ne (nomark _) (se_callTy (crM_list true) pu_list rfl g.b_list bt_list (sa_cons (se_globN g.k_PARTS rfl) sa_nil)) (se_callN0 h_law_names hr (by decide) rfl px_law_names))))) (sss_one (ss_ret se_bl)) sss_nil) (sss_cons (ss_if (st_cmp (opM_ne (Room.u64 hr)) pu_ne (nomark _) (se_lc (fr := true) (own := [("_law_some", 13)]) rfl sc_m_law.nd (si_seq (se_globN g.k_VALUES rfl)) (blkOk_by rfl) (fun _ _ _ _ _ => (sn 13 sc_m_law.nd)) (fun _ _ _ _ _ => sts_nil) (fun _ _ _ _ _ => (se_callTy (crM_list true) pu_list rfl g.b_list bt_list (sa_cons (sv 13) sa_nil))) (by decide)) (se_callN0 h_law_values hr (by decide) rfl px_law_values)) (sss_one (ss_ret se_bl)) sss_nil) (sss_cons (ss_if (st_cmp opM_is pu_is (nomark _) (sv 5) se_non) (sss_one (ss_ret se_bl)) sss_nil) (sss_cons (sset 7 sc_m_law.nd (se_callN h_law_parts hr (by decide) rfl takes_cx (sa_cons (sv 1) sa_nil) (lenCons lenNil))) (sss_cons (sset 8 sc_m_law.nd (se_callN h_law_draw hr (by decide) rfl takes_cx (sa_cons (sv 1) (sa_cons se_int sa_nil)) (lenCons (lenCons lenNil)))) (sss_cons (sset 9 sc_m_law.nd (se_methN h_Rule_turned g.c_Rule g.m_Rule_turned hr (by decide) takes_cx (sv 5) (sa_cons (se_ix (Room.u1 hr) (fun _ _ => rfl) (se_callN0 h_law_names hr (by decide) rfl px_law_names) (sv 8) pu_ix) (sa_cons (se_ix (Room.u1 hr) (fun _ _ => rfl) (sv 7) (sv 8) pu_ix) sa_nil)) (lenCons (lenCons lenNil)))) (sss_cons (sset 10 sc_m_law.nd (se_op opM_add pu_add (se_op opM_add pu_add (se_slice (sv 2) so_none (so_some (sv 8))) (se_lst (sa_cons (se_ix (Room.u1 hr) (fun _ _ => rfl) (sv 7) (sv 8) pu_ix) sa_nil) (lenCons lenNil) (by decide))) (se_slice (sv 2) (so_some (se_op opM_add pu_add (sv 8) se_int)) so_none))) (sss_cons (ss_if (st_cmp (opM_ne (Room.u64 hr)) pu_ne (nomark _) (se_lst (sa_cons (se_fld g.c_Rule g.n_Rule_checking (sv 5)) (sa_cons (se_fld g.c_Rule g.n_Rule_singles (sv 5)) (sa_cons (se_fld g.c_Rule g.n_Rule_halves (sv 5)) (sa_cons (se_fld g.c_Rule g.n_Rule_telling (sv 5)) sa_nil)))) (lenCons (lenCons (lenCons (lenCons lenNil)))) (by decide)) (sv 2)) (sss_one (ss_ret se_bl)) sss_nil) (sss_cons (ss_if (st_w (sw_or (st_cmp (opM_ne (Room.u64 hr)) pu_ne (nomark _) (se_methN0 h_Rule_parts g.c_Rule g.m_Rule_parts hr (by decide) takes_cx (sv 5)) (se_callTy crM_tuple pu_tuple rfl g.b_tuple bt_tuple (sa_cons (sv 2) sa_nil))) (sw_or1 (st_cmp (opM_ne (Room.u64 hr)) pu_ne (nomark _) (se_methN0 h_Rule_parts g.c_Rule g.m_Rule_parts hr (by decide) takes_cx (sv 9)) (se_callTy crM_tuple pu_tuple rfl g.b_tuple bt_tuple (sa_cons (sv 10) sa_nil)))))) (sss_one (ss_ret se_bl)) sss_nil) (sss_cons (sset 11 sc_m_law.nd se_bl) (sss_cons (ss_try (ct := (oneC "BadRule")) rfl rfl ⟨rfl, by decide, .inl g.gc_BadRule⟩ takes_cx (oneC_ok g.xm_BadRule_BadRule) (fun _ _ _ tk pp => (sss_one (ss_expr (se_methN h_Rule_turned g.c_Rule g.m_Rule_turned hr (by decide) tk (sv 5) (sa_cons se_str (sa_cons se_str sa_nil)) (lenCons (lenCons lenNil)))))) (fun _ _ => (sss_one (sset 11 sc_m_law.nd se_bl)))) (sss_one (ss_ret (se_and (sv 11) (se_one (se_cmp (opM_eq (Room.u64 hr)) pu_eq (nomark _) (se_cmp (opM_ownN h_Rule___eq__ g.m_Rule___eq__ hr (by decide)) pu_eqO (nomark _) (sv 5) (se_callN h_law_rule hr (by decide) rfl takes_cx (sa_cons (sv 7) sa_nil) (lenCons lenNil))) (se_cmp (opM_eq (Room.u64 hr)) pu_eq (nomark _) (sv 2) (sv 7))))))))))))))))))))))))
end Lw
set_option Elab.async false
set_option linter.all false
set_option maxRecDepth 100000
set_option maxHeartbeats 4000000
namespace Lw
open PySem PySem.Spec PyProof.Rows L2 Mi
/-- a value that the law tries as a part -/
theorem eq_ss {a b : Str} {S : Sto} : eqM (.str a) (.str b) S = .ok (.bl (decide (a = b))) S := rfl
theorem ne_ss {a b : Str} {S : Sto} : neM (.str a) (.str b) S = .ok (.bl (!decide (a = b))) S := rfl
theorem ne_nn {S : Sto} : neM .non .non S = .ok (.bl false) S := rfl
def srt : MV → Bool
  | .non | .bl _ | .int _ | .str _ | .tup _ => true
  | _ => false
def isS : MV → Bool
  | .str _ => true
  | _ => false
def Gd (q : MV) : Prop := srt q = true ∧ sh q = true ∧ dpt q ≤ 2
theorem isi_s {q : MV} {S : Sto} (h : srt q = true) : isiM "str" [q] S = .ok (.bl (isS q)) S := by
  cases q <;> first | (simp [srt] at h; done) | kernel_rfl
def row0 : List MV := [.str "none", .str "room", .str "both"]
def row1 : List MV := [.str "keep", .str "move", .str "reset"]
def row2 : List MV := [.str "left", .str "undone"]
def row3 : List MV := [.str "now", .str "seen"]
def okJ (row : List MV) (q : MV) : Bool := isS q && decide (cn q ∈ cns row)
def bad (nm : Str) : MV := .obj "BadRule" ["part"] [.str nm]
def GdR (row : List MV) : Prop := shs row = true ∧ dpts row ≤ 6
theorem gr0 : GdR row0 := ⟨by decide +kernel, by decide +kernel⟩
theorem gr1 : GdR row1 := ⟨by decide +kernel, by decide +kernel⟩
theorem gr2 : GdR row2 := ⟨by decide +kernel, by decide +kernel⟩
theorem gr3 : GdR row3 := ⟨by decide +kernel, by decide +kernel⟩
theorem nin_t {q : MV} {row : List MV} {S : Sto} (g : Gd q) (r : GdR row) : ninM q (.tup row) S = .ok (.bl (!decide (cn q ∈ cns row))) S := by
  unfold ninM
  rw [inB_sh (.inl rfl) g.2.1 r.1 (by have := g.2.2; omega) r.2]
theorem nin_l {q : MV} {row : List MV} {S : Sto} (g : Gd q) (r : GdR row) : ninM q (.lst row) S = .ok (.bl (!decide (cn q ∈ cns row))) S := by
  unfold ninM
  rw [inB_sh (.inr rfl) g.2.1 r.1 (by have := g.2.2; omega) r.2]
theorem step15 {a b c d e : Option MV} {nm : Str} {q : MV} {row : List MV} {S : Sto} (g : Gd q) (r : GdR row) :
    m_Rule___init___15 [a, b, c, d, e, some (.str nm), some q, some (.tup row)] S = if okJ row q then .nx [a, b, c, d, e, some (.str nm), some q, some (.tup row)] S else .exc "BadRule" (bad nm) [a, b, c, d, e, some (.str nm), some q, some (.tup row)] S := by
  simp only [m_Rule___init___15, mIfS, mOr, mNot, mTest, mIsi, mOp, mVar, List.getElem?_cons_succ, List.getElem?_cons_zero, R.bind_ok, isi_s g.1, toB]
  unfold okJ
  cases hs : isS q with
  | false => simp [m_Rule___init___16, mRaise, mVar, bad]
  | true =>
    simp only [Bool.not_true, Bool.false_eq_true, if_false, R.bind_ok, nin_t g r, toB, Bool.true_and]
    by_cases hm : cn q ∈ cns row
    · simp [hm, mNext]
    · simp [hm, m_Rule___init___16, mRaise, mVar, bad]
def fb (q0 q1 q2 q3 : MV) : Option Str := if okJ row0 q0 then (if okJ row1 q1 then (if okJ row2 q2 then (if okJ row3 q3 then none else some "telling") else some "halves") else some "singles") else some "checking"
def ruleO (q0 q1 q2 q3 : MV) : MO := .obj "Rule" ["checking", "singles", "halves", "telling"] [q0, q1, q2, q3]
def ruleV (q0 q1 q2 q3 : MV) : MV := .obj "Rule" ["checking", "singles", "halves", "telling"] [q0, q1, q2, q3]
theorem fset_last {c f : Str} {fs fs' : List Str} {vs vs' : List MV} {d : MV} {S : Sto} (h : fs.length < 900) (e : fput fs vs f d = (fs', vs')) : fsetM c f (.ref S.length) d (S ++ [.obj c fs vs]) = some (S ++ [.obj c fs' vs']) := by
  simp [fsetM, h, e]
theorem fset_st {c f : Str} {fs fs' : List Str} {vs vs' : List MV} {d : MV} {S : Sto} {ρ : Ev} {i : Nat} (h : fs.length < 900) (e : fput fs vs f d = (fs', vs')) (h0 : ρ[0]? = some (some (.ref S.length))) (hi : ρ[i]? = some (some d)) :
    mFset c f (mVar i) (mVar 0) ρ (S ++ [.obj c fs vs]) = .nx ρ (S ++ [.obj c fs' vs']) := by
  simp only [mFset, mVar, h0, hi, R.thn_ok, fset_last h e]
theorem init_eq {q0 q1 q2 q3 : MV} {S : Sto} (g0 : Gd q0) (g1 : Gd q1) (g2 : Gd q2) (g3 : Gd q3) :
    m_Rule___init__ [.ref S.length, q0, q1, q2, q3] (S ++ [.obj "Rule" [] []]) = match fb q0 q1 q2 q3 with
      | some nm => .exc "BadRule" (bad nm) (S ++ [.obj "Rule" [] []])
      | none => .ok .non (S ++ [ruleO q0 q1 q2 q3]) := by
  have e0 : ev0 8 [.ref S.length, q0, q1, q2, q3] = [some (.ref S.length), some q0, some q1, some q2, some q3, none, none, none] := rfl
  unfold m_Rule___init__ mFn
  rw [e0]
  simp only [mSeq, m_Rule___init___14, mFor, mZip3, mCons, mNil, mC, mTup, mVar, List.getElem?_cons_succ, List.getElem?_cons_zero, R.bind_ok, zp3Of, seqOf, d_PARTS, d_VALUES, R.thn_ok, Src.items, zipI3]
  have hok : Src.ok (S ++ [.obj "Rule" [] []]) (.zp3 d_PARTS [.str "checking", .str "singles", .str "halves", .str "telling"] (.tup [q0, q1, q2, q3]) [q0, q1, q2, q3] d_VALUES [.tup row0, .tup row1, .tup row2, .tup row3]) = true := by
    simp [Src.ok, seqOf, d_PARTS, d_VALUES, row0, row1, row2, row3]
  unfold d_PARTS d_VALUES row0 row1 row2 row3 at hok
  simp only [forGo, hok, if_true, tgTup, tgCons, tgName, tgNil, List.length_cons, List.length_nil, Option.bind_some, List.set_cons_succ, List.set_cons_zero]
  have s0 := fun (a b c d e : Option MV) (nm : Str) => step15 (a := a) (b := b) (c := c) (d := d) (e := e) (nm := nm) (S := S ++ [.obj "Rule" [] []]) g0 gr0
  have s1 := fun (a b c d e : Option MV) (nm : Str) => step15 (a := a) (b := b) (c := c) (d := d) (e := e) (nm := nm) (S := S ++ [.obj "Rule" [] []]) g1 gr1
  have s2 := fun (a b c d e : Option MV) (nm : Str) => step15 (a := a) (b := b) (c := c) (d := d) (e := e) (nm := nm) (S := S ++ [.obj "Rule" [] []]) g2 gr2
  have s3 := fun (a b c d e : Option MV) (nm : Str) => step15 (a := a) (b := b) (c := c) (d := d) (e := e) (nm := nm) (S := S ++ [.obj "Rule" [] []]) g3 gr3
  unfold row0 at s0
  unfold row1 at s1
  unfold row2 at s2
  unfold row3 at s3
  unfold fb row0 row1 row2 row3
  rw [s0]
  cases h0 : okJ [MV.str "none", MV.str "room", MV.str "both"] q0 with
  | false => simp [toR]
  | true =>
    simp only [if_true, hok, List.set_cons_succ, List.set_cons_zero]
    rw [s1]
    cases h1 : okJ [MV.str "keep", MV.str "move", MV.str "reset"] q1 with
    | false => simp [toR]
    | true =>
      simp only [if_true, hok, List.set_cons_succ, List.set_cons_zero]
      rw [s2]
      cases h2 : okJ [MV.str "left", MV.str "undone"] q2 with
      | false => simp [toR]
      | true =>
        simp only [if_true, hok, List.set_cons_succ, List.set_cons_zero]
        rw [s3]
        cases h3 : okJ [MV.str "now", MV.str "seen"] q3 with
        | false => simp [toR]
        | true =>
          simp only [if_true, hok, List.set_cons_succ, List.set_cons_zero, m_Rule___init___17, m_Rule___init___18, m_Rule___init___19, m_Rule___init___20]
          rw [fset_st (fs := []) (vs := []) (fs' := ["checking"]) (vs' := [q0]) (by decide) rfl rfl rfl]
          dsimp only
          rw [fset_st (fs' := ["checking", "singles"]) (vs' := [q0, q1]) (by decide) (by kernel_rfl) rfl rfl]
          dsimp only
          rw [fset_st (fs' := ["checking", "singles", "halves"]) (vs' := [q0, q1, q2]) (by decide) (by kernel_rfl) rfl rfl]
          dsimp only
          rw [fset_st (fs' := ["checking", "singles", "halves", "telling"]) (vs' := [q0, q1, q2, q3]) (by decide) (by kernel_rfl) rfl rfl]
          rfl
theorem rule_eq {r q0 q1 q2 q3 : MV} {S : Sto} (hr : seqOf S r = some [q0, q1, q2, q3]) (g0 : Gd q0) (g1 : Gd q1) (g2 : Gd q2) (g3 : Gd q3) : m_law_rule [r] S = match fb q0 q1 q2 q3 with
      | some nm => .exc "BadRule" (bad nm) S
      | none => .ok (ruleV q0 q1 q2 q3) S := by
  have e0 : ev0 1 [r] = [some r] := rfl
  have i0 : idxM r (.int 0) S = .ok q0 S := by simp only [idxM, hr]; rfl
  have i1 : idxM r (.int 1) S = .ok q1 S := by simp only [idxM, hr]; rfl
  have i2 : idxM r (.int 2) S = .ok q2 S := by simp only [idxM, hr]; rfl
  have i3 : idxM r (.int 3) S = .ok q3 S := by simp only [idxM, hr]; rfl
  have h : mFn 1 m_law_rule_60 [r] S = match fb q0 q1 q2 q3 with
      | some nm => .exc "BadRule" (bad nm) (S ++ [.obj "Rule" [] []])
      | none => .ok (.ref S.length) (S ++ [ruleO q0 q1 q2 q3]) := by
    unfold mFn
    rw [e0]
    simp only [m_law_rule_60, mRet, mCallF, mCons, mNil, mOp, mVar, mC, List.getElem?_cons_zero, R.bind_ok, i0, i1, i2, i3, makM]
    rw [init_eq g0 g1 g2 g3]
    cases fb q0 q1 q2 q3 <;> simp [toR]
  unfold m_law_rule
  cases hf : fb q0 q1 q2 q3 with
  | some nm =>
    rw [hf] at h
    exact frzF_exc h (by simp [bad, refsB, refsBs]) (by simp)
  | none =>
    rw [hf] at h
    refine frzF_ok h ?_ (by simp)
    rw [frz, if_neg (Nat.lt_irrefl _)]
    have e1 : (S ++ [ruleO q0 q1 q2 q3])[S.length]? = some (ruleO q0 q1 q2 q3) := by simp
    rw [e1]
    unfold ruleO
    dsimp only
    simp only [List.mapM_cons, List.mapM_nil]
    have fz : ∀ {q : MV}, Gd q → frz S.length (S ++ [MO.obj "Rule" ["checking", "singles", "halves", "telling"] [q0, q1, q2, q3]]) 7 q = some q := fun {q} g => frz_sh _ _ 7 q g.2.1 (by have := g.2.2; omega)
    rw [fz g0, fz g1, fz g2, fz g3]
    rfl
end Lw
set_option linter.all false
set_option maxRecDepth 100000
set_option maxHeartbeats 4000000
namespace Lw
open PySem PySem.Spec PyProof.Rows L2 Mi
structure Dr where
  ns : List Int
  i : Nat
  b : Int
  s : Int
def dr (d : Dr) : MO := .lst [.lst (d.ns.map MV.int), .int d.i, .int d.b, .int d.s]
def drS (d : Dr) : Dr := if d.b = 0 then (match d.ns[d.i]? with
  | some c => if 10 ^ 18 ≤ c then ⟨d.ns, d.i + 1, c, d.s⟩ else ⟨d.ns, d.i + 1, d.b, (d.s * 48271 + c * 69621 + 11) % 2147483647⟩
  | none => ⟨d.ns, d.i, d.b, (d.s * 48271 + 7) % 2147483647⟩) else d
def drK (d : Dr) (n : Int) : Int := if 0 < (drS d).b then (drS d).b % n else (drS d).s * 16807 % 2147483629 % n
def drN (d : Dr) (n : Int) : Dr := if 0 < (drS d).b then ⟨(drS d).ns, (drS d).i, (drS d).b / n, (drS d).s⟩ else drS d
theorem m38 (d : Dr) (T : Sto) (n : Int) : ∃ y, m_law_draw_38 [some (.ref 0), some (.int n), none, none] (dr d :: T) = .nx [some (.ref 0), some (.int n), none, y] (dr (drS d) :: T) := by
  by_cases hb : d.b = 0
  · by_cases hl : d.i < d.ns.length
    · have hc : d.ns[d.i]? = some d.ns[d.i] := List.getElem?_eq_getElem hl
      by_cases h18 : (10 : Int) ^ 18 ≤ d.ns[d.i]
      · refine ⟨some (.int d.ns[d.i]), ?_⟩
        have h18' : (1000000000000000000 : Int) ≤ d.ns[d.i] := by simpa using h18
        simp [m_law_draw_38, m_law_draw_39, m_law_draw_40, m_law_draw_41, m_law_draw_42, m_law_draw_43, m_law_draw_45, m_law_draw_47, mSeq, mIfS, mTest, mOp, mVar, mC, mCallF, mCons, mNil, mSub, mAsg, tgName, oS, toB, idxM, seqOf, lstOf, atI, ixN, eqM, eqB, scalM, seqM, cmpI, lenM, intM, addM, mulM, modM, powM, setM, dr, drS, hb, hl, hc, h18']
      · refine ⟨some (.int d.ns[d.i]), ?_⟩
        have h18' : ¬ (1000000000000000000 : Int) ≤ d.ns[d.i] := by simpa using h18
        simp [m_law_draw_38, m_law_draw_39, m_law_draw_40, m_law_draw_41, m_law_draw_42, m_law_draw_43, m_law_draw_45, m_law_draw_47, mSeq, mIfS, mTest, mOp, mVar, mC, mCallF, mCons, mNil, mSub, mAsg, tgName, oS, toB, idxM, seqOf, lstOf, atI, ixN, eqM, eqB, scalM, seqM, cmpI, lenM, intM, addM, mulM, modM, powM, setM, dr, drS, hb, hl, hc, h18']
    · have hc : d.ns[d.i]? = none := List.getElem?_eq_none (by omega)
      refine ⟨none, ?_⟩
      simp [m_law_draw_38, m_law_draw_39, m_law_draw_40, m_law_draw_41, m_law_draw_42, m_law_draw_43, m_law_draw_45, m_law_draw_47, mSeq, mIfS, mTest, mOp, mVar, mC, mCallF, mCons, mNil, mSub, mAsg, tgName, oS, toB, idxM, seqOf, lstOf, atI, ixN, eqM, eqB, scalM, seqM, cmpI, lenM, intM, addM, mulM, modM, powM, setM, dr, drS, hb, hl, hc]
  · refine ⟨none, ?_⟩
    simp [m_law_draw_38, mNext, mIfS, mTest, mOp, mVar, mC, toB, idxM, seqOf, lstOf, atI, ixN, eqM, eqB, scalM, seqM, dr, drS, hb]
theorem draw_eq (d : Dr) (T : Sto) (n : Int) (h0 : 0 < n) (h1 : n < 1073741824) : m_law_draw [.ref 0, .int n] (dr d :: T) = .ok (.int (drK d n)) (dr (drN d n) :: T) := by
  obtain ⟨y, e⟩ := m38 d T n
  have e0 : ev0 4 [.ref 0, .int n] = [some (.ref 0), some (.int n), none, none] := rfl
  unfold m_law_draw mFn
  rw [e0]
  simp only [mSeq, e]
  by_cases hb : 0 < (drS d).b
  · simp [m_law_draw_48, m_law_draw_49, m_law_draw_50, m_law_draw_51, mNext, mSeq, mRet, mIfS, mTest, mOp, mVar, mC, mCallF, mCons, mNil, mSub, mAsg, tgName, oS, toB, toR, idxM, seqOf, lstOf, atI, ixN, cmpI, intM, modM, fdivM, setM, dr, drK, drN, hb, h0, h1]
  · simp [m_law_draw_48, m_law_draw_49, m_law_draw_50, m_law_draw_51, m_law_draw_52, mNext, mSeq, mRet, mIfS, mTest, mOp, mVar, mC, mCallF, mCons, mNil, mSub, mAsg, tgName, oS, toB, toR, idxM, seqOf, lstOf, atI, ixN, cmpI, intM, mulM, modM, fdivM, setM, dr, drK, drN, hb, h0, h1]
theorem drK_lt (d : Dr) (n : Int) (h0 : 0 < n) : 0 ≤ drK d n ∧ drK d n < n := by
  unfold drK
  split
  · exact ⟨Int.emod_nonneg _ (by omega), Int.emod_lt_of_pos _ h0⟩
  · exact ⟨Int.emod_nonneg _ (by omega), Int.emod_lt_of_pos _ h0⟩
end Lw
set_option Elab.async false
set_option linter.all false
set_option maxRecDepth 100000
set_option maxHeartbeats 4000000
namespace Lw
open PySem PySem.Spec PyProof.Rows L2 Mi
theorem atI_in {α : Type} {xs : List α} {k : Int} (h0 : 0 ≤ k) (h1 : k < xs.length) : ∃ x ∈ xs, atI xs k = some x ∧ xs[k.toNat]? = some x := by
  have hl : k.toNat < xs.length := by omega
  refine ⟨xs[k.toNat], List.getElem_mem hl, ?_, List.getElem?_eq_getElem hl⟩
  unfold atI ixN
  rw [if_pos h0, if_pos h1]
  simp [hl]
theorem idx_l {xs : List MV} {k : Int} {S : Sto} {d : MV} (hd : seqOf S d = some xs) (h0 : 0 ≤ k) (h1 : k < xs.length) : ∃ x ∈ xs, idxM d (.int k) S = .ok x S ∧ xs[k.toNat]? = some x := by
  obtain ⟨x, hx, e, e2⟩ := atI_in h0 h1
  exact ⟨x, hx, by simp only [idxM, hd, e], e2⟩
theorem elt58 (row : List MV) (h : 0 < row.length) (h2 : row.length < 1000) (d : Dr) (T : Sto) : ∃ p ∈ row, mOp idxM (mVar 1) (mCallF m_law_draw (mCons (mVar 0) (mCons (mCallF lenM (mCons (mVar 1) mNil)) mNil))) [some (.ref 0), some (.lst row)] (dr d :: T) = .ok p (dr (drN d row.length) :: T) := by
  obtain ⟨h3, h4⟩ := drK_lt d row.length (by omega)
  obtain ⟨p, hp, e, _⟩ := idx_l (xs := row) (d := .lst row) (S := dr (drN d row.length) :: T) rfl h3 h4
  refine ⟨p, hp, ?_⟩
  simp only [mOp, mVar, mCallF, mCons, mNil, List.getElem?_cons_succ, List.getElem?_cons_zero, R.bind_ok, lenM, seqOf, lstOf, draw_eq d T row.length (by omega) (by omega), e]
theorem parts_eq (d : Dr) (T : Sto) : ∃ d' p0 p1 p2 p3, p0 ∈ row0 ∧ p1 ∈ row1 ∧ p2 ∈ row2 ∧ p3 ∈ row3 ∧ m_law_parts [.ref 0] (dr d :: T) = .ok (.ref (T.length + 1)) (dr d' :: (T ++ [.lst [p0, p1, p2, p3]])) := by
  obtain ⟨p0, h0, e0⟩ := elt58 row0 (by decide) (by decide) d T
  obtain ⟨p1, h1, e1⟩ := elt58 row1 (by decide) (by decide) (drN d row0.length) T
  obtain ⟨p2, h2, e2⟩ := elt58 row2 (by decide) (by decide) (drN (drN d row0.length) row1.length) T
  obtain ⟨p3, h3, e3⟩ := elt58 row3 (by decide) (by decide) (drN (drN (drN d row0.length) row1.length) row2.length) T
  refine ⟨drN (drN (drN (drN d row0.length) row1.length) row2.length) row3.length, p0, p1, p2, p3, h0, h1, h2, h3, ?_⟩
  have ee : ev0 2 [.ref 0] = [some (.ref 0), none] := rfl
  unfold m_law_parts mFn
  rw [ee]
  have hsz : ([MV.lst row0, .lst row1, .lst row2, .lst row3] : List MV).length ≤ sizeLine := by rw [sizeLine_eq]; decide
  have hok : ∀ S : Sto, Src.ok S (.seq (.lst [.lst row0, .lst row1, .lst row2, .lst row3]) [.lst row0, .lst row1, .lst row2, .lst row3]) = true := fun S => by simp [Src.ok, seqOf, lstOf]
  simp only [m_law_parts_58, mRet, mLc, mSrc]
  have e00 : mCallF m_law_values mNil [some (.ref 0), none] (dr d :: T) = .ok (.lst [.lst row0, .lst row1, .lst row2, .lst row3]) (dr d :: T) := rfl
  rw [e00]
  simp only [R.bind_ok, srcOf, seqOf, lstOf, Src.items, if_pos hsz, lcGo, hok, if_true, wipeE, tgName, List.set_cons_succ, List.set_cons_zero, mTrue, R.calm_ok, e0, e1, e2, e3, mkL, toR, R.thn_ok, List.nil_append, List.cons_append]
  simp [mkL, toR]
theorem due_step {r q : MV} {row : List MV} {S : Sto} {k : Int} (hi : idxM r (.int k) S = .ok q S) (hv : idxM (.lst [.lst row0, .lst row1, .lst row2, .lst row3]) (.int k) S = .ok (.lst row) S) {nm : Str} (hn : idxM (.lst [.str "checking", .str "singles", .str "halves", .str "telling"]) (.int k) S = .ok (.str nm) S) (g : Gd q) (gr : GdR row) :
    m_law_due_63 [some r, some (.int k)] S = if okJ row q then .nx [some r, some (.int k)] S else .rt (.str nm) S := by
  have e1 : mCallF m_law_values mNil [some r, some (.int k)] S = .ok (.lst [.lst row0, .lst row1, .lst row2, .lst row3]) S := rfl
  have e2 : mCallF m_law_names mNil [some r, some (.int k)] S = .ok (.lst [.str "checking", .str "singles", .str "halves", .str "telling"]) S := rfl
  simp only [m_law_due_63, m_law_due_64, mIfS, mRet, mOr, mNot, mTest, mIsi, mOp, e1, e2, mVar, List.getElem?_cons_succ, List.getElem?_cons_zero, R.bind_ok, hi, hv, hn, isi_s g.1, nin_l g gr, toB]
  unfold okJ
  cases hs : isS q with
  | false => simp [e2, hn]
  | true =>
    simp only [Bool.not_true, Bool.false_eq_true, if_false, R.bind_ok, toB, Bool.true_and]
    by_cases hm : cn q ∈ cns row
    · simp [hm, mNext]
    · simp [hm, e2, hn]
theorem due_eq {r q0 q1 q2 q3 : MV} {S : Sto} (hr : seqOf S r = some [q0, q1, q2, q3]) (g0 : Gd q0) (g1 : Gd q1) (g2 : Gd q2) (g3 : Gd q3) : m_law_due [r] S = .ok (match fb q0 q1 q2 q3 with
      | some nm => .str nm
      | none => .non) S := by
  have e0 : ev0 2 [r] = [some r, none] := rfl
  have i0 : idxM r (.int 0) S = .ok q0 S := by simp only [idxM, hr]; rfl
  have i1 : idxM r (.int 1) S = .ok q1 S := by simp only [idxM, hr]; rfl
  have i2 : idxM r (.int 2) S = .ok q2 S := by simp only [idxM, hr]; rfl
  have i3 : idxM r (.int 3) S = .ok q3 S := by simp only [idxM, hr]; rfl
  have t0 := due_step (k := 0) (nm := "checking") (row := row0) i0 rfl rfl g0 gr0
  have t1 := due_step (k := 1) (nm := "singles") (row := row1) i1 rfl rfl g1 gr1
  have t2 := due_step (k := 2) (nm := "halves") (row := row2) i2 rfl rfl g2 gr2
  have t3 := due_step (k := 3) (nm := "telling") (row := row3) i3 rfl rfl g3 gr3
  unfold m_law_due mFn
  rw [e0]
  have er : mRng (mCons (mC (.int 4)) mNil) [some r, none] S = .ok (.rng 0 4) S := rfl
  have ei : (Src.rng 0 4).items = [.int 0, .int 1, .int 2, .int 3] := rfl
  have hok : Src.ok S (.rng 0 4) = true := rfl
  simp only [mSeq, m_law_due_62, mFor, er, R.thn_ok, ei, forGo, hok, if_true, tgName, List.set_cons_succ, List.set_cons_zero, t0]
  unfold fb
  cases h0 : okJ row0 q0 with
  | false => simp [toR]
  | true =>
    simp only [if_true, hok, List.set_cons_succ, List.set_cons_zero, t1]
    cases h1 : okJ row1 q1 with
    | false => simp [toR]
    | true =>
      simp only [if_true, hok, List.set_cons_succ, List.set_cons_zero, t2]
      cases h2 : okJ row2 q2 with
      | false => simp [toR]
      | true =>
        simp only [if_true, hok, List.set_cons_succ, List.set_cons_zero, t3]
        cases h3 : okJ row3 q3 with
        | false => simp [toR]
        | true => simp [toR, m_law_due_65, mRet, mC, hok]
end Lw
set_option Elab.async false
set_option linter.all false
set_option maxRecDepth 100000
set_option maxHeartbeats 4000000
namespace Lw
open PySem PySem.Spec PyProof.Rows L2 Mi
def oddV : List MV := [.non, .int 0, .bl true, .str "none", .str "keep", .str "left", .str "now", .str "", .str "Both", .tup [.str "room"], .str "undo", .str "seen", .str "reset", .str "both"]
def gdB (q : MV) : Bool := srt q && (sh q && decide (dpt q ≤ 2))
theorem gd_of {q : MV} (h : gdB q = true) : Gd q := by
  simp only [gdB, Bool.and_eq_true, decide_eq_true_eq] at h
  exact ⟨h.1, h.2.1, h.2.2⟩
theorem gd_all {l : List MV} (h : l.all gdB = true) {q : MV} (hq : q ∈ l) : Gd q := gd_of (List.all_eq_true.mp h q hq)
theorem gdo : oddV.all gdB = true := by decide +kernel
theorem gd0 : row0.all gdB = true := by decide +kernel
theorem gd1 : row1.all gdB = true := by decide +kernel
theorem gd2 : row2.all gdB = true := by decide +kernel
theorem gd3 : row3.all gdB = true := by decide +kernel
abbrev rh (k : MV) (a3 a4 a5 a7 a8 a9 a10 a11 a12 : Option MV) : Ev := [some k, some (.ref 0), some (.ref 1), a3, a4, a5, none, a7, a8, a9, a10, a11, a12, none]
theorem body69 (k : MV) (a3 a12 : Option MV) (d : Dr) (qs : List MV) (hl : qs.length = 4) : ∃ d' j v, v ∈ oddV ∧ mSeq m_law_70 m_law_71 (rh k a3 none none none none none none none a12) [dr d, .lst qs] = .nx (rh k a3 none none none none none none none (some (.lst oddV))) [dr d', .lst (qs.set j v)] := by
  obtain ⟨h3, h4⟩ := drK_lt d 14 (by decide)
  obtain ⟨v, hv, e, _⟩ := idx_l (xs := oddV) (d := .lst oddV) (S := dr (drN d 14) :: [.lst qs]) rfl h3 (by simpa [oddV] using h4)
  obtain ⟨h5, h6⟩ := drK_lt (drN d 14) 4 (by decide)
  have e1 : m_law_70 (rh k a3 none none none none none none none a12) [dr d, .lst qs] = .nx (rh k a3 none none none none none none none (some (.lst oddV))) [dr d, .lst qs] := rfl
  have e2 : mCallF lenM (mCons (mVar 12) mNil) (rh k a3 none none none none none none none (some (.lst oddV))) (dr d :: [.lst qs]) = .ok (.int 14) (dr d :: [.lst qs]) := rfl
  have ej : ixN qs.length (drK (drN d 14) 4) = some (drK (drN d 14) 4).toNat := by
    unfold ixN
    rw [if_pos h5, if_pos (by rw [hl]; omega)]
  refine ⟨drN (drN d 14) 4, (drK (drN d 14) 4).toNat, v, hv, ?_⟩
  unfold mSeq
  rw [e1]
  dsimp only
  have e3 : mOp idxM (mVar 12) (mCallF m_law_draw (mCons (mVar 1) (mCons (mCallF lenM (mCons (mVar 12) mNil)) mNil))) (rh k a3 none none none none none none none (some (.lst oddV))) (dr d :: [.lst qs]) = .ok v (dr (drN d 14) :: [.lst qs]) := by
    have e4 : mCallF m_law_draw (mCons (mVar 1) (mCons (mCallF lenM (mCons (mVar 12) mNil)) mNil)) (rh k a3 none none none none none none none (some (.lst oddV))) (dr d :: [.lst qs]) = .ok (.int (drK d 14)) (dr (drN d 14) :: [.lst qs]) := by
      rw [← draw_eq d [.lst qs] 14 (by decide) (by decide)]
      rfl
    simp only [mOp, mVar, List.getElem?_cons_succ, List.getElem?_cons_zero, R.bind_ok, e4, e]
  have e5 : mCallF m_law_draw (mCons (mVar 1) (mCons (mC (.int 4)) mNil)) (rh k a3 none none none none none none none (some (.lst oddV))) (dr (drN d 14) :: [.lst qs]) = .ok (.int (drK (drN d 14) 4)) (dr (drN (drN d 14) 4) :: [.lst qs]) := by
    rw [← draw_eq (drN d 14) [.lst qs] 4 (by decide) (by decide)]
    rfl
  unfold m_law_71 mSub
  rw [e3]
  simp only [R.thn_ok, mVar, List.getElem?_cons_succ, List.getElem?_cons_zero, e5, setM, ej, List.set_cons_succ, List.set_cons_zero]
theorem for69 (k : MV) (n : Nat) : ∀ (xs : List MV) (a3 a12 : Option MV) (d : Dr) (qs : List MV), qs.length = 4 → (∀ q ∈ qs, Gd q) → ∃ a3' a12' d' qs', qs'.length = 4 ∧ (∀ q ∈ qs', Gd q) ∧
    forGo (fun S => Src.ok S (.rng 0 n)) (tgName 3) (mSeq m_law_70 m_law_71) xs (rh k a3 none none none none none none none a12) [dr d, .lst qs] = .nx (rh k a3' none none none none none none none a12') [dr d', .lst qs']
  | [], a3, a12, d, qs, hl, hg => ⟨a3, a12, d, qs, hl, hg, rfl⟩
  | x :: xs, a3, a12, d, qs, hl, hg => by
    obtain ⟨d1, j, v, hv, e⟩ := body69 k (some x) a12 d qs hl
    obtain ⟨a3', a12', d', qs', h1, h2, e2⟩ := for69 k n xs (some x) (some (.lst oddV)) d1 (qs.set j v) (by simpa using hl) (fun q hq => by
      rcases List.mem_or_eq_of_mem_set hq with h | h
      · exact hg q h
      · rw [h]; exact gd_all gdo hv)
    refine ⟨a3', a12', d', qs', h1, h2, ?_⟩
    rw [← e2, forGo]
    have ef : (tgName 3).f x (rh k a3 none none none none none none none a12) = some (rh k (some x) none none none none none none none a12) := rfl
    have eo : Src.ok [dr d, .lst qs] (.rng 0 n) = true := rfl
    simp only [eo, if_true, ef, e]
theorem stmt80 (k : MV) (a3 a4 a5 a12 : Option MV) (S : Sto) : m_law_80 (rh k a3 a4 a5 none none none none none a12) S = .nx (rh k a3 a4 a5 none none none none none a12) S := by kernel_rfl
theorem neNames (S : Sto) (ρ : Ev) : mTest (mOp neM (mCallF (lstM true) (mCons (mC d_PARTS) mNil)) (mCallF m_law_names mNil)) ρ S = .ok false S := by kernel_rfl
theorem rule_of_eq {r q0 q1 q2 q3 : MV} {S : Sto} (hr : seqOf S r = some [q0, q1, q2, q3]) (g0 : Gd q0) (g1 : Gd q1) (g2 : Gd q2) (g3 : Gd q3) (hf : fb q0 q1 q2 q3 = none) : m_rule_of [r] S = .ok (ruleV q0 q1 q2 q3) S := by
  have e : m_rule_of [r] S = m_law_rule [r] S := rfl
  rw [e, rule_eq hr g0 g1 g2 g3, hf]
theorem frz_rule {b : Nat} {S : Sto} {q0 q1 q2 q3 : MV} (g0 : Gd q0) (g1 : Gd q1) (g2 : Gd q2) (g3 : Gd q3) : frz b S 8 (ruleV q0 q1 q2 q3) = some (ruleV q0 q1 q2 q3) := by
  have fz : ∀ {q : MV}, Gd q → frz b S 7 q = some q := fun {q} g => frz_sh _ _ 7 q g.2.1 (by have := g.2.2; omega)
  unfold ruleV
  rw [frz]
  simp only [List.mapM_cons, List.mapM_nil]
  rw [fz g0, fz g1, fz g2, fz g3]
  rfl
def nm4 : Nat → Str
  | 0 => "checking"
  | 1 => "singles"
  | 2 => "halves"
  | _ => "telling"
theorem turned_eq {q0 q1 q2 q3 v r0 r1 r2 r3 : MV} {S : Sto} (k : Nat) (gv : Gd v) (g0 : Gd r0) (g1 : Gd r1) (g2 : Gd r2) (g3 : Gd r3) (hr : (k = 0 ∧ [r0, r1, r2, r3] = [v, q1, q2, q3]) ∨ (k = 1 ∧ [r0, r1, r2, r3] = [q0, v, q2, q3]) ∨ (k = 2 ∧ [r0, r1, r2, r3] = [q0, q1, v, q3]) ∨ (k = 3 ∧ [r0, r1, r2, r3] = [q0, q1, q2, v])) (hf : fb r0 r1 r2 r3 = none) :
    m_Rule_turned [ruleV q0 q1 q2 q3, .str (nm4 k), v] S = .ok (ruleV r0 r1 r2 r3) S := by
  unfold m_Rule_turned
  refine frzF_ok (S' := S) (d := ruleV r0 r1 r2 r3) ?_ (frz_rule g0 g1 g2 g3) (by simp)
  have ee : ev0 5 [ruleV q0 q1 q2 q3, .str (nm4 k), v] = [some (ruleV q0 q1 q2 q3), some (.str (nm4 k)), some v, none, none] := rfl
  unfold mFn
  rw [ee]
  have hok : Src.ok S (.zp2 d_PARTS [.str "checking", .str "singles", .str "halves", .str "telling"] (.tup [q0, q1, q2, q3]) [q0, q1, q2, q3]) = true := by
    simp [Src.ok, seqOf, d_PARTS]
  have hz : mZip2 (mCons (mC d_PARTS) (mCons (mMeth "Rule" "parts" m_Rule_parts (mVar 0) mNil) mNil)) [some (ruleV q0 q1 q2 q3), some (.str (nm4 k)), some v, none, none] S = .ok (.zp2 d_PARTS [.str "checking", .str "singles", .str "halves", .str "telling"] (.tup [q0, q1, q2, q3]) [q0, q1, q2, q3]) S := by kernel_rfl
  have h29 : m_Rule_turned_29 [some (ruleV q0 q1 q2 q3), some (.str (nm4 k)), some v, none, none] S = .nx [some (ruleV q0 q1 q2 q3), some (.str (nm4 k)), some v, none, none] S := by
    rcases hr with ⟨rfl, _⟩ | ⟨rfl, _⟩ | ⟨rfl, _⟩ | ⟨rfl, _⟩ <;> kernel_rfl
  have hsz : (Src.zp2 d_PARTS [.str "checking", .str "singles", .str "halves", .str "telling"] (.tup [q0, q1, q2, q3]) [q0, q1, q2, q3]).items.length ≤ sizeLine := by
    rw [sizeLine_eq]; simp [Src.items, zipI]
  have hlc : mLc true [3, 4] (mZip2 (mCons (mC d_PARTS) (mCons (mMeth "Rule" "parts" m_Rule_parts (mVar 0) mNil) mNil))) (tgTup (tgCons (tgName 3) (tgCons (tgName 4) tgNil))) mTrue (mIf (mTest (mOp eqM (mVar 3) (mVar 1))) (mVar 2) (mVar 4)) [some (ruleV q0 q1 q2 q3), some (.str (nm4 k)), some v, none, none] S = .ok (.lst [r0, r1, r2, r3]) S := by
    unfold mLc
    rw [hz]
    rw [R.bind_ok, if_pos hsz]
    have el : ∀ (a : Str) (q : MV), mIf (mTest (mOp eqM (mVar 3) (mVar 1))) (mVar 2) (mVar 4) [some (ruleV q0 q1 q2 q3), some (.str (nm4 k)), some v, some (.str a), some q] S = .ok (if a = nm4 k then v else q) S := fun a q => by
      simp only [mIf, mTest, mOp, mVar, List.getElem?_cons_succ, List.getElem?_cons_zero, R.bind_ok, eq_ss, toB]
      by_cases h : a = nm4 k
      · simp [h]
      · simp [h]
    simp only [Src.items, zipI, lcGo, hok, if_true, wipeE, List.set_cons_succ, List.set_cons_zero, tgTup, tgCons, tgName, tgNil, List.length_cons, List.length_nil, Option.bind_some, mTrue, R.calm_ok, R.bind_ok, el, List.nil_append, List.cons_append, mkL]
    rcases hr with ⟨rfl, hr⟩ | ⟨rfl, hr⟩ | ⟨rfl, hr⟩ | ⟨rfl, hr⟩ <;> (rw [hr]; kernel_rfl)
  simp only [mSeq, h29, m_Rule_turned_31, mRet, mCallF, mCons, mNil, hlc, R.bind_ok, rule_of_eq (r := .lst [r0, r1, r2, r3]) rfl g0 g1 g2 g3 hf, R.thn_ok, toR]
theorem turned_days {q0 q1 q2 q3 v : MV} {S : Sto} : m_Rule_turned [ruleV q0 q1 q2 q3, .str "days", v] S = .exc "BadRule" (bad "days") S := by
  unfold m_Rule_turned
  exact frzF_exc (S' := S) (by kernel_rfl) rfl (by simp)
theorem eq_obj {q0 q1 q2 q3 o0 o1 o2 o3 : MV} {S : Sto} (g : shs [q0, q1, q2, q3] = true) (g' : shs [o0, o1, o2, o3] = true) (d : dpts [q0, q1, q2, q3] ≤ 2) (d' : dpts [o0, o1, o2, o3] ≤ 2) :
    m_Rule___eq__ [ruleV q0 q1 q2 q3, ruleV o0 o1 o2 o3] S = .ok (.bl (decide (cns [q0, q1, q2, q3] = cns [o0, o1, o2, o3]))) S := by
  have e1 : mIsO "Rule" (mVar 1) [some (ruleV q0 q1 q2 q3), some (ruleV o0 o1 o2 o3)] S = .ok (.bl true) S := by kernel_rfl
  have e2 : mMeth "Rule" "parts" m_Rule_parts (mVar 0) mNil [some (ruleV q0 q1 q2 q3), some (ruleV o0 o1 o2 o3)] S = .ok (.tup [q0, q1, q2, q3]) S := by kernel_rfl
  have e3 : mMeth "Rule" "parts" m_Rule_parts (mVar 1) mNil [some (ruleV q0 q1 q2 q3), some (ruleV o0 o1 o2 o3)] S = .ok (.tup [o0, o1, o2, o3]) S := by kernel_rfl
  have ee : ev0 2 [ruleV q0 q1 q2 q3, ruleV o0 o1 o2 o3] = [some (ruleV q0 q1 q2 q3), some (ruleV o0 o1 o2 o3)] := rfl
  have h := eqM_sh (S := S) (x := .tup [q0, q1, q2, q3]) (y := .tup [o0, o1, o2, o3]) (x' := .tup [q0, q1, q2, q3]) (y' := .tup [o0, o1, o2, o3]) rfl rfl (by rw [sh]; exact g) (by rw [sh]; exact g') (by rw [dpt]; omega) (by rw [dpt]; omega)
  unfold m_Rule___eq__ mFn
  rw [ee]
  simp only [m_Rule___eq___26, mRet, mAndV, mTest, e1, R.bind_ok, toB, if_true, mOp, e2, e3, h, R.thn_ok, toR]
  simp [cn]
end Lw
set_option Elab.async false
set_option linter.all false
set_option maxRecDepth 100000
set_option maxHeartbeats 4000000
namespace Lw
open PySem PySem.Spec PyProof.Rows L2 Mi
theorem shs4 {q0 q1 q2 q3 : MV} (g0 : Gd q0) (g1 : Gd q1) (g2 : Gd q2) (g3 : Gd q3) : shs [q0, q1, q2, q3] = true := by simp [shs, g0.2.1, g1.2.1, g2.2.1, g3.2.1]
theorem dpts4 {q0 q1 q2 q3 : MV} (g0 : Gd q0) (g1 : Gd q1) (g2 : Gd q2) (g3 : Gd q3) : dpts [q0, q1, q2, q3] ≤ 2 := by
  have h0 := g0.2.2
  have h1 := g1.2.2
  have h2 := g2.2.2
  have h3 := g3.2.2
  simp only [dpts]; omega
theorem fb_none {q0 q1 q2 q3 : MV} : fb q0 q1 q2 q3 = none ↔ okJ row0 q0 = true ∧ okJ row1 q1 = true ∧ okJ row2 q2 = true ∧ okJ row3 q3 = true := by
  unfold fb
  cases okJ row0 q0 <;> cases okJ row1 q1 <;> cases okJ row2 q2 <;> cases okJ row3 q3 <;> simp
theorem ok_row {row : List MV} {q : MV} (h : row.all isS = true) (hq : q ∈ row) : okJ row q = true := by
  unfold okJ
  rw [List.all_eq_true.mp h q hq]
  have : cn q ∈ cns row := by
    clear h
    induction row with
    | nil => cases hq
    | cons x xs ih =>
      rw [cns]
      obtain e | e := List.mem_cons.mp hq
      · rw [e]; exact List.mem_cons_self
      · exact List.mem_cons_of_mem _ (ih e)
  simp [this]
/-- the end of a law whose rule stands -/
theorem tail84 (k : MV) (a3 a12 : Option MV) (d : Dr) (q0 q1 q2 q3 : MV) (g0 : Gd q0) (g1 : Gd q1) (g2 : Gd q2) (g3 : Gd q3) (hf : fb q0 q1 q2 q3 = none) :
    ∃ S', (mSeq m_law_84 (mSeq m_law_85 (mSeq m_law_86 (mSeq m_law_87 (mSeq m_law_88 (mSeq m_law_90 (mSeq m_law_92 (mSeq m_law_93 m_law_97)))))))) (rh k a3 (some .non) (some (ruleV q0 q1 q2 q3)) none none none none none a12) [dr d, .lst [q0, q1, q2, q3]] = .rt (.bl true) S' := by
  obtain ⟨k0, k1, k2, k3⟩ := fb_none.mp hf
  obtain ⟨d1, o0, o1, o2, o3, m0, m1, m2, m3, ep⟩ := parts_eq d [.lst [q0, q1, q2, q3]]
  have w0 := gd_all gd0 m0
  have w1 := gd_all gd1 m1
  have w2 := gd_all gd2 m2
  have w3 := gd_all gd3 m3
  have y0 := ok_row (by decide) m0
  have y1 := ok_row (by decide) m1
  have y2 := ok_row (by decide) m2
  have y3 := ok_row (by decide) m3
  have e84 : m_law_84 (rh k a3 (some .non) (some (ruleV q0 q1 q2 q3)) none none none none none a12) [dr d, .lst [q0, q1, q2, q3]] = .nx (rh k a3 (some .non) (some (ruleV q0 q1 q2 q3)) (some (.ref 2)) none none none none a12) [dr d1, .lst [q0, q1, q2, q3], .lst [o0, o1, o2, o3]] := by
    have : mCallF m_law_parts (mCons (mVar 1) mNil) (rh k a3 (some .non) (some (ruleV q0 q1 q2 q3)) none none none none none a12) [dr d, .lst [q0, q1, q2, q3]] = .ok (.ref 2) [dr d1, .lst [q0, q1, q2, q3], .lst [o0, o1, o2, o3]] := ep
    unfold m_law_84 mAsg
    rw [this]
    rfl
  obtain ⟨h3, h4⟩ := drK_lt d1 4 (by decide)
  have e85 : m_law_85 (rh k a3 (some .non) (some (ruleV q0 q1 q2 q3)) (some (.ref 2)) none none none none a12) [dr d1, .lst [q0, q1, q2, q3], .lst [o0, o1, o2, o3]] = .nx (rh k a3 (some .non) (some (ruleV q0 q1 q2 q3)) (some (.ref 2)) (some (.int (drK d1 4))) none none none a12) [dr (drN d1 4), .lst [q0, q1, q2, q3], .lst [o0, o1, o2, o3]] := by
    have : mCallF m_law_draw (mCons (mVar 1) (mCons (mC (.int 4)) mNil)) (rh k a3 (some .non) (some (ruleV q0 q1 q2 q3)) (some (.ref 2)) none none none none a12) [dr d1, .lst [q0, q1, q2, q3], .lst [o0, o1, o2, o3]] = .ok (.int (drK d1 4)) [dr (drN d1 4), .lst [q0, q1, q2, q3], .lst [o0, o1, o2, o3]] := draw_eq d1 _ 4 (by decide) (by decide)
    unfold m_law_85 mAsg
    rw [this]
    rfl
  refine ⟨[dr (drN d1 4), .lst [q0, q1, q2, q3], .lst [o0, o1, o2, o3]], ?_⟩
  -- the turned rule, by the place
  have key : ∀ (n : Nat) (v r0 r1 r2 r3 : MV), drK d1 4 = (n : Int) → Gd v → Gd r0 → Gd r1 → Gd r2 → Gd r3 → fb r0 r1 r2 r3 = none →
      ((n = 0 ∧ [r0, r1, r2, r3] = [v, q1, q2, q3]) ∨ (n = 1 ∧ [r0, r1, r2, r3] = [q0, v, q2, q3]) ∨ (n = 2 ∧ [r0, r1, r2, r3] = [q0, q1, v, q3]) ∨ (n = 3 ∧ [r0, r1, r2, r3] = [q0, q1, q2, v])) → [o0, o1, o2, o3][n]? = some v →
      (mSeq m_law_86 (mSeq m_law_87 (mSeq m_law_88 (mSeq m_law_90 (mSeq m_law_92 (mSeq m_law_93 m_law_97)))))) (rh k a3 (some .non) (some (ruleV q0 q1 q2 q3)) (some (.ref 2)) (some (.int (drK d1 4))) none none none a12) [dr (drN d1 4), .lst [q0, q1, q2, q3], .lst [o0, o1, o2, o3]] = .rt (.bl true) [dr (drN d1 4), .lst [q0, q1, q2, q3], .lst [o0, o1, o2, o3]] := by
    intro n v r0 r1 r2 r3 en gv gr0 gr1 gr2 gr3 hfr hr hv
    rw [en]
    generalize hS : ([dr (drN d1 4), .lst [q0, q1, q2, q3], .lst [o0, o1, o2, o3]] : Sto) = S
    have s1 : seqOf S (.ref 1) = some [q0, q1, q2, q3] := by rw [← hS]; rfl
    have s2 : seqOf S (.ref 2) = some [o0, o1, o2, o3] := by rw [← hS]; rfl
    have l1 : lstOf S (.ref 1) = some [q0, q1, q2, q3] := by rw [← hS]; rfl
    have dr1 : deref S (.ref 1) = .lst [q0, q1, q2, q3] := by rw [← hS]; rfl
    have dr2 : deref S (.ref 2) = .lst [o0, o1, o2, o3] := by rw [← hS]; rfl
    have hn : n < 4 := by rcases hr with ⟨h, _⟩ | ⟨h, _⟩ | ⟨h, _⟩ | ⟨h, _⟩ <;> omega
    have i2 : idxM (.ref 2) (.int n) S = .ok v S := by
      simp only [idxM, s2, atI, ixN]
      rw [if_pos (by omega), if_pos (by simp; omega)]
      simp [hv]
    have e86 : m_law_86 (rh k a3 (some .non) (some (ruleV q0 q1 q2 q3)) (some (.ref 2)) (some (.int n)) none none none a12) S = .nx (rh k a3 (some .non) (some (ruleV q0 q1 q2 q3)) (some (.ref 2)) (some (.int n)) (some (ruleV r0 r1 r2 r3)) none none a12) S := by
      have iN : mCallF m_law_names mNil (rh k a3 (some .non) (some (ruleV q0 q1 q2 q3)) (some (.ref 2)) (some (.int n)) none none none a12) S = .ok (.lst [.str "checking", .str "singles", .str "halves", .str "telling"]) S := rfl
      have iM : idxM (.lst [.str "checking", .str "singles", .str "halves", .str "telling"]) (.int n) S = .ok (.str (nm4 n)) S := by
        rcases hr with ⟨rfl, _⟩ | ⟨rfl, _⟩ | ⟨rfl, _⟩ | ⟨rfl, _⟩ <;> kernel_rfl
      have hm : methM "Rule" "turned" m_Rule_turned (ruleV q0 q1 q2 q3) S = true := by kernel_rfl
      simp only [m_law_86, mAsg, mMeth, mVar, List.getElem?_cons_succ, List.getElem?_cons_zero, R.bind_ok, hm, if_true, mCons, mOp, iN, iM, mNil, i2, turned_eq n gv gr0 gr1 gr2 gr3 hr hfr, R.thn_ok, oS, tgName, List.set_cons_succ, List.set_cons_zero]
    have e87 : m_law_87 (rh k a3 (some .non) (some (ruleV q0 q1 q2 q3)) (some (.ref 2)) (some (.int n)) (some (ruleV r0 r1 r2 r3)) none none a12) S = .nx (rh k a3 (some .non) (some (ruleV q0 q1 q2 q3)) (some (.ref 2)) (some (.int n)) (some (ruleV r0 r1 r2 r3)) (some (.lst [r0, r1, r2, r3])) none a12) S := by
      simp only [m_law_87, mAsg, mOp, mSlice, mVar, List.getElem?_cons_succ, List.getElem?_cons_zero, R.bind_ok, moNone, moSome, slcM, l1, mLst, mCons, mNil, i2, mC, addM, R.thn_ok, oS, tgName]
      rcases hr with ⟨rfl, hr⟩ | ⟨rfl, hr⟩ | ⟨rfl, hr⟩ | ⟨rfl, hr⟩ <;> (rw [hr]; kernel_rfl)
    have e88 : m_law_88 (rh k a3 (some .non) (some (ruleV q0 q1 q2 q3)) (some (.ref 2)) (some (.int n)) (some (ruleV r0 r1 r2 r3)) (some (.lst [r0, r1, r2, r3])) none a12) S = .nx (rh k a3 (some .non) (some (ruleV q0 q1 q2 q3)) (some (.ref 2)) (some (.int n)) (some (ruleV r0 r1 r2 r3)) (some (.lst [r0, r1, r2, r3])) none a12) S := by
      have ef : mLst (mCons (mFld "Rule" "checking" (mVar 5)) (mCons (mFld "Rule" "singles" (mVar 5)) (mCons (mFld "Rule" "halves" (mVar 5)) (mCons (mFld "Rule" "telling" (mVar 5)) mNil)))) (rh k a3 (some .non) (some (ruleV q0 q1 q2 q3)) (some (.ref 2)) (some (.int n)) (some (ruleV r0 r1 r2 r3)) (some (.lst [r0, r1, r2, r3])) none a12) S = .ok (.lst [q0, q1, q2, q3]) S := by kernel_rfl
      have en : neM (.lst [q0, q1, q2, q3]) (.ref 1) S = .ok (.bl false) S := by
        rw [neM_sh (x' := .lst [q0, q1, q2, q3]) (y' := .lst [q0, q1, q2, q3]) rfl dr1 (by rw [sh]; exact shs4 g0 g1 g2 g3) (by rw [sh]; exact shs4 g0 g1 g2 g3) (by have := dpts4 g0 g1 g2 g3; rw [dpt]; omega) (by have := dpts4 g0 g1 g2 g3; rw [dpt]; omega)]
        simp
      simp only [m_law_88, mIfS, mTest, mOp, ef, R.bind_ok, mVar, List.getElem?_cons_succ, List.getElem?_cons_zero, en, toB, R.thn_ok, Bool.false_eq_true, if_false, mNext]
    have e90 : m_law_90 (rh k a3 (some .non) (some (ruleV q0 q1 q2 q3)) (some (.ref 2)) (some (.int n)) (some (ruleV r0 r1 r2 r3)) (some (.lst [r0, r1, r2, r3])) none a12) S = .nx (rh k a3 (some .non) (some (ruleV q0 q1 q2 q3)) (some (.ref 2)) (some (.int n)) (some (ruleV r0 r1 r2 r3)) (some (.lst [r0, r1, r2, r3])) none a12) S := by
      have ne : ∀ (a b c d : MV), Gd a → Gd b → Gd c → Gd d → neM (.tup [a, b, c, d]) (.tup [a, b, c, d]) S = .ok (.bl false) S := fun a b c d ga gb gc gd => by
        rw [neM_sh (x' := .tup [a, b, c, d]) (y' := .tup [a, b, c, d]) rfl rfl (by rw [sh]; exact shs4 ga gb gc gd) (by rw [sh]; exact shs4 ga gb gc gd) (by have := dpts4 ga gb gc gd; rw [dpt]; omega) (by have := dpts4 ga gb gc gd; rw [dpt]; omega)]
        simp
      have p5 : mMeth "Rule" "parts" m_Rule_parts (mVar 5) mNil (rh k a3 (some .non) (some (ruleV q0 q1 q2 q3)) (some (.ref 2)) (some (.int n)) (some (ruleV r0 r1 r2 r3)) (some (.lst [r0, r1, r2, r3])) none a12) S = .ok (.tup [q0, q1, q2, q3]) S := by kernel_rfl
      have p9 : mMeth "Rule" "parts" m_Rule_parts (mVar 9) mNil (rh k a3 (some .non) (some (ruleV q0 q1 q2 q3)) (some (.ref 2)) (some (.int n)) (some (ruleV r0 r1 r2 r3)) (some (.lst [r0, r1, r2, r3])) none a12) S = .ok (.tup [r0, r1, r2, r3]) S := by kernel_rfl
      have t1 : mCallF tupM (mCons (mVar 2) mNil) (rh k a3 (some .non) (some (ruleV q0 q1 q2 q3)) (some (.ref 2)) (some (.int n)) (some (ruleV r0 r1 r2 r3)) (some (.lst [r0, r1, r2, r3])) none a12) S = .ok (.tup [q0, q1, q2, q3]) S := by
        show tupM [.ref 1] S = _
        simp only [tupM, s1]
      have t2 : mCallF tupM (mCons (mVar 10) mNil) (rh k a3 (some .non) (some (ruleV q0 q1 q2 q3)) (some (.ref 2)) (some (.int n)) (some (ruleV r0 r1 r2 r3)) (some (.lst [r0, r1, r2, r3])) none a12) S = .ok (.tup [r0, r1, r2, r3]) S := rfl
      simp only [m_law_90, mIfS, mOr, mTest, mOp, p5, p9, R.bind_ok, t1, t2, ne q0 q1 q2 q3 g0 g1 g2 g3, ne r0 r1 r2 r3 gr0 gr1 gr2 gr3, toB, Bool.false_eq_true, if_false, R.thn_ok, mNext]
    have e93 : m_law_93 (rh k a3 (some .non) (some (ruleV q0 q1 q2 q3)) (some (.ref 2)) (some (.int n)) (some (ruleV r0 r1 r2 r3)) (some (.lst [r0, r1, r2, r3])) (some (.bl false)) a12) S = .nx (rh k a3 (some .non) (some (ruleV q0 q1 q2 q3)) (some (.ref 2)) (some (.int n)) (some (ruleV r0 r1 r2 r3)) (some (.lst [r0, r1, r2, r3])) (some (.bl true)) a12) S := by
      have hm : methM "Rule" "turned" m_Rule_turned (ruleV q0 q1 q2 q3) S = true := by kernel_rfl
      have e94 : m_law_94 (rh k a3 (some .non) (some (ruleV q0 q1 q2 q3)) (some (.ref 2)) (some (.int n)) (some (ruleV r0 r1 r2 r3)) (some (.lst [r0, r1, r2, r3])) (some (.bl false)) a12) S = .exc "BadRule" (bad "days") (rh k a3 (some .non) (some (ruleV q0 q1 q2 q3)) (some (.ref 2)) (some (.int n)) (some (ruleV r0 r1 r2 r3)) (some (.lst [r0, r1, r2, r3])) (some (.bl false)) a12) S := by
        simp only [m_law_94, mDrop, mMeth, mVar, List.getElem?_cons_succ, List.getElem?_cons_zero, R.bind_ok, hm, if_true, mCons, mNil, mC, turned_days, R.thn_exc]
      unfold m_law_93 mTry
      rw [e94]
      rfl
    have e97 : m_law_97 (rh k a3 (some .non) (some (ruleV q0 q1 q2 q3)) (some (.ref 2)) (some (.int n)) (some (ruleV r0 r1 r2 r3)) (some (.lst [r0, r1, r2, r3])) (some (.bl true)) a12) S = .rt (.bl true) S := by
      have er : mCallF m_law_rule (mCons (mVar 7) mNil) (rh k a3 (some .non) (some (ruleV q0 q1 q2 q3)) (some (.ref 2)) (some (.int n)) (some (ruleV r0 r1 r2 r3)) (some (.lst [r0, r1, r2, r3])) (some (.bl true)) a12) S = .ok (ruleV o0 o1 o2 o3) S := by
        have z := rule_eq s2 w0 w1 w2 w3
        rw [fb_none.mpr ⟨y0, y1, y2, y3⟩] at z
        exact z
      have eo : eqO "Rule" m_Rule___eq__ (ruleV q0 q1 q2 q3) (ruleV o0 o1 o2 o3) S = .ok (.bl (decide (cns [q0, q1, q2, q3] = cns [o0, o1, o2, o3]))) S := by
        unfold eqO
        simp only [ruleV, objOf, and_self, if_true]
        have z := eq_obj (S := S) (shs4 g0 g1 g2 g3) (shs4 w0 w1 w2 w3) (dpts4 g0 g1 g2 g3) (dpts4 w0 w1 w2 w3)
        unfold ruleV at z
        rw [z]
        rfl
      have el : eqM (.ref 1) (.ref 2) S = .ok (.bl (decide (cns [q0, q1, q2, q3] = cns [o0, o1, o2, o3]))) S := by
        rw [eqM_sh dr1 dr2 (by rw [sh]; exact shs4 g0 g1 g2 g3) (by rw [sh]; exact shs4 w0 w1 w2 w3) (by have := dpts4 g0 g1 g2 g3; rw [dpt]; omega) (by have := dpts4 w0 w1 w2 w3; rw [dpt]; omega)]
        simp only [cn, MV.lst.injEq]
      simp only [m_law_97, mRet, mAndV, mTest, mOp, mVar, List.getElem?_cons_succ, List.getElem?_cons_zero, R.bind_ok, toB, if_true, er, eo, el]
      cases decide (cns [q0, q1, q2, q3] = cns [o0, o1, o2, o3]) <;> rfl
    have e92 : m_law_92 (rh k a3 (some .non) (some (ruleV q0 q1 q2 q3)) (some (.ref 2)) (some (.int n)) (some (ruleV r0 r1 r2 r3)) (some (.lst [r0, r1, r2, r3])) none a12) S = .nx (rh k a3 (some .non) (some (ruleV q0 q1 q2 q3)) (some (.ref 2)) (some (.int n)) (some (ruleV r0 r1 r2 r3)) (some (.lst [r0, r1, r2, r3])) (some (.bl false)) a12) S := rfl
    simp only [mSeq, e86, e87, e88, e90, e92, e93, e97]
  simp only [mSeq, e84, e85] at key ⊢
  have hk : drK d1 4 = ((0 : Nat) : Int) ∨ drK d1 4 = ((1 : Nat) : Int) ∨ drK d1 4 = ((2 : Nat) : Int) ∨ drK d1 4 = ((3 : Nat) : Int) := by omega
  rcases hk with h | h | h | h
  · exact key 0 o0 o0 q1 q2 q3 h w0 w0 g1 g2 g3 (fb_none.mpr ⟨y0, k1, k2, k3⟩) (.inl ⟨rfl, rfl⟩) rfl
  · exact key 1 o1 q0 o1 q2 q3 h w1 g0 w1 g2 g3 (fb_none.mpr ⟨k0, y1, k2, k3⟩) (.inr (.inl ⟨rfl, rfl⟩)) rfl
  · exact key 2 o2 q0 q1 o2 q3 h w2 g0 g1 w2 g3 (fb_none.mpr ⟨k0, k1, y2, k3⟩) (.inr (.inr (.inl ⟨rfl, rfl⟩))) rfl
  · exact key 3 o3 q0 q1 q2 o3 h w3 g0 g1 g2 w3 (fb_none.mpr ⟨k0, k1, k2, y3⟩) (.inr (.inr (.inr ⟨rfl, rfl⟩))) rfl
end Lw
set_option Elab.async false
set_option linter.all false
set_option maxRecDepth 100000
set_option maxHeartbeats 4000000
namespace Lw
open PySem PySem.Spec PyProof.Rows L2 Mi
theorem law_true (ns : List Int) (hl : ns.length ≤ 63) : ∃ S', m_law [.kls (ns.map MV.int)] [] = .ok (.bl true) S' := by
  generalize hk : MV.kls (ns.map MV.int) = k
  have e67 : m_law_67 [some k, none, none, none, none, none, none, none, none, none, none, none, none, none] [] = .nx [some k, some (.ref 0), none, none, none, none, none, none, none, none, none, none, none, none] [dr ⟨ns, 0, 0, 7⟩] := by
    rw [← hk]; rfl
  obtain ⟨d1, p0, p1, p2, p3, m0, m1, m2, m3, ep⟩ := parts_eq ⟨ns, 0, 0, 7⟩ []
  have e68 : m_law_68 [some k, some (.ref 0), none, none, none, none, none, none, none, none, none, none, none, none] [dr ⟨ns, 0, 0, 7⟩] = .nx (rh k none none none none none none none none none) [dr d1, .lst [p0, p1, p2, p3]] := by
    have : mCallF m_law_parts (mCons (mVar 1) mNil) [some k, some (.ref 0), none, none, none, none, none, none, none, none, none, none, none, none] [dr ⟨ns, 0, 0, 7⟩] = .ok (.ref 1) [dr d1, .lst [p0, p1, p2, p3]] := ep
    unfold m_law_68 mAsg
    rw [this]
    rfl
  obtain ⟨h3, h4⟩ := drK_lt d1 3 (by decide)
  obtain ⟨a3, a12, d2, qs, hq4, hg, ef⟩ := for69 k (drK d1 3).toNat (Src.rng 0 (drK d1 3).toNat).items none none (drN d1 3) [p0, p1, p2, p3] rfl (fun q hq => by
    simp only [List.mem_cons, List.not_mem_nil, or_false] at hq
    rcases hq with rfl | rfl | rfl | rfl
    · exact gd_all gd0 m0
    · exact gd_all gd1 m1
    · exact gd_all gd2 m2
    · exact gd_all gd3 m3)
  have e69 : m_law_69 (rh k none none none none none none none none none) [dr d1, .lst [p0, p1, p2, p3]] = .nx (rh k a3 none none none none none none none a12) [dr d2, .lst qs] := by
    have er : mRng (mCons (mCallF m_law_draw (mCons (mVar 1) (mCons (mC (.int 3)) mNil))) mNil) (rh k none none none none none none none none none) [dr d1, .lst [p0, p1, p2, p3]] = .ok (.rng 0 (drK d1 3).toNat) [dr (drN d1 3), .lst [p0, p1, p2, p3]] := by
      have ed : mCallF m_law_draw (mCons (mVar 1) (mCons (mC (.int 3)) mNil)) (rh k none none none none none none none none none) [dr d1, .lst [p0, p1, p2, p3]] = .ok (.int (drK d1 3)) [dr (drN d1 3), .lst [p0, p1, p2, p3]] := draw_eq d1 _ 3 (by decide) (by decide)
      unfold mRng
      simp only [mCons, ed, R.bind_ok, mNil, rngOf]
      have fit : rngFit (drK d1 3) = true := by
        obtain ⟨m, hm⟩ := Int.eq_ofNat_of_zero_le h3
        rw [hm] at h4 ⊢
        have h4 : m < 3 := by omega
        show Nat.blt m 4611686018427387904 = true
        simp [Nat.blt]; omega
      rw [if_pos fit]
    unfold m_law_69 mFor
    rw [er]
    exact ef
  obtain ⟨q0, q1, q2, q3, rfl⟩ : ∃ q0 q1 q2 q3, qs = [q0, q1, q2, q3] := by
    match qs, hq4 with
    | [a, b, c, d], _ => exact ⟨a, b, c, d, rfl⟩
  have g0 := hg q0 (by simp)
  have g1 := hg q1 (by simp)
  have g2 := hg q2 (by simp)
  have g3 := hg q3 (by simp)
  have e72 : m_law_72 (rh k a3 none none none none none none none a12) [dr d2, .lst [q0, q1, q2, q3]] = .nx (rh k a3 (some .non) none none none none none none a12) [dr d2, .lst [q0, q1, q2, q3]] := rfl
  have e73 : m_law_73 (rh k a3 (some .non) none none none none none none a12) [dr d2, .lst [q0, q1, q2, q3]] = .nx (rh k a3 (some .non) (some .non) none none none none none a12) [dr d2, .lst [q0, q1, q2, q3]] := rfl
  have er := rule_eq (r := .ref 1) (S := [dr d2, .lst [q0, q1, q2, q3]]) rfl g0 g1 g2 g3
  have ed := due_eq (r := .ref 1) (S := [dr d2, .lst [q0, q1, q2, q3]]) rfl g0 g1 g2 g3
  have es : ev0 14 [k] = [some k, none, none, none, none, none, none, none, none, none, none, none, none, none] := rfl
  unfold m_law mFn
  rw [es]
  simp only [mSeq, e67, e68, e69, e72, e73]
  cases hf : fb q0 q1 q2 q3 with
  | some nm =>
    rw [hf] at er ed
    have e74 : m_law_74 (rh k a3 (some .non) (some .non) none none none none none a12) [dr d2, .lst [q0, q1, q2, q3]] = .nx (rh k a3 (some (.str nm)) (some .non) none none none none none a12) [dr d2, .lst [q0, q1, q2, q3]] := by
      have e75 : m_law_75 (rh k a3 (some .non) (some .non) none none none none none a12) [dr d2, .lst [q0, q1, q2, q3]] = .exc "BadRule" (bad nm) (rh k a3 (some .non) (some .non) none none none none none a12) [dr d2, .lst [q0, q1, q2, q3]] := by
        have : mCallF m_law_rule (mCons (mVar 2) mNil) (rh k a3 (some .non) (some .non) none none none none none a12) [dr d2, .lst [q0, q1, q2, q3]] = .exc "BadRule" (bad nm) [dr d2, .lst [q0, q1, q2, q3]] := er
        unfold m_law_75 mAsg
        rw [this]
        rfl
      unfold m_law_74 mTryF
      rw [e75]
      kernel_rfl
    have e78 : m_law_78 (rh k a3 (some (.str nm)) (some .non) none none none none none a12) [dr d2, .lst [q0, q1, q2, q3]] = .nx (rh k a3 (some (.str nm)) (some .non) none none none none none a12) [dr d2, .lst [q0, q1, q2, q3]] := by
      have e1 : mTest (mOp neM (mVar 4) (mCallF m_law_due (mCons (mVar 2) mNil))) (rh k a3 (some (.str nm)) (some .non) none none none none none a12) [dr d2, .lst [q0, q1, q2, q3]] = .ok false [dr d2, .lst [q0, q1, q2, q3]] := by
        have : mCallF m_law_due (mCons (mVar 2) mNil) (rh k a3 (some (.str nm)) (some .non) none none none none none a12) [dr d2, .lst [q0, q1, q2, q3]] = .ok (.str nm) [dr d2, .lst [q0, q1, q2, q3]] := ed
        simp only [mTest, mOp, mVar, List.getElem?_cons_succ, List.getElem?_cons_zero, R.bind_ok, this, ne_ss, ne_nn, toB]
        simp
      simp only [m_law_78, mIfS, mOr, e1, R.bind_ok, Bool.false_eq_true, if_false, neNames, R.thn_ok, mNext]
    have e82 : m_law_82 (rh k a3 (some (.str nm)) (some .non) none none none none none a12) [dr d2, .lst [q0, q1, q2, q3]] = .rt (.bl true) [dr d2, .lst [q0, q1, q2, q3]] := by kernel_rfl
    simp only [e74, e78, stmt80, e82]
    exact ⟨_, rfl⟩
  | none =>
    rw [hf] at er ed
    have e74 : m_law_74 (rh k a3 (some .non) (some .non) none none none none none a12) [dr d2, .lst [q0, q1, q2, q3]] = .nx (rh k a3 (some .non) (some (ruleV q0 q1 q2 q3)) none none none none none a12) [dr d2, .lst [q0, q1, q2, q3]] := by
      have e75 : m_law_75 (rh k a3 (some .non) (some .non) none none none none none a12) [dr d2, .lst [q0, q1, q2, q3]] = .nx (rh k a3 (some .non) (some (ruleV q0 q1 q2 q3)) none none none none none a12) [dr d2, .lst [q0, q1, q2, q3]] := by
        have : mCallF m_law_rule (mCons (mVar 2) mNil) (rh k a3 (some .non) (some .non) none none none none none a12) [dr d2, .lst [q0, q1, q2, q3]] = .ok (ruleV q0 q1 q2 q3) [dr d2, .lst [q0, q1, q2, q3]] := er
        unfold m_law_75 mAsg
        rw [this]
        rfl
      unfold m_law_74 mTryF
      rw [e75]
    have e78 : m_law_78 (rh k a3 (some .non) (some (ruleV q0 q1 q2 q3)) none none none none none a12) [dr d2, .lst [q0, q1, q2, q3]] = .nx (rh k a3 (some .non) (some (ruleV q0 q1 q2 q3)) none none none none none a12) [dr d2, .lst [q0, q1, q2, q3]] := by
      have e1 : mTest (mOp neM (mVar 4) (mCallF m_law_due (mCons (mVar 2) mNil))) (rh k a3 (some .non) (some (ruleV q0 q1 q2 q3)) none none none none none a12) [dr d2, .lst [q0, q1, q2, q3]] = .ok false [dr d2, .lst [q0, q1, q2, q3]] := by
        have : mCallF m_law_due (mCons (mVar 2) mNil) (rh k a3 (some .non) (some (ruleV q0 q1 q2 q3)) none none none none none a12) [dr d2, .lst [q0, q1, q2, q3]] = .ok .non [dr d2, .lst [q0, q1, q2, q3]] := ed
        simp only [mTest, mOp, mVar, List.getElem?_cons_succ, List.getElem?_cons_zero, R.bind_ok, this, ne_ss, ne_nn, toB]
      simp only [m_law_78, mIfS, mOr, e1, R.bind_ok, Bool.false_eq_true, if_false, neNames, R.thn_ok, mNext]
    have e82 : m_law_82 (rh k a3 (some .non) (some (ruleV q0 q1 q2 q3)) none none none none none a12) [dr d2, .lst [q0, q1, q2, q3]] = .nx (rh k a3 (some .non) (some (ruleV q0 q1 q2 q3)) none none none none none a12) [dr d2, .lst [q0, q1, q2, q3]] := by kernel_rfl
    obtain ⟨S', et⟩ := tail84 k a3 a12 d2 q0 q1 q2 q3 g0 g1 g2 g3 hf
    simp only [mSeq] at et
    simp only [e74, e78, stmt80, e82, et]
    exact ⟨_, rfl⟩
end Lw
set_option Elab.async false
set_option linter.all false
set_option maxRecDepth 100000
set_option maxHeartbeats 0
namespace Lw
open PySem PySem.Spec PyProof.Rows L2 Mi
abbrev s_XBadRule : Stmt := inClass (top 2) 0
def D_law_begin : He.DefD := ⟨("_law_begin", none), "_law_begin", "_law_begin", defArgs s_law_begin, defBody s_law_begin, defScope s_law_begin, [], []⟩
def D_law_values : He.DefD := ⟨("_law_values", none), "_law_values", "_law_values", defArgs s_law_values, defBody s_law_values, defScope s_law_values, [], []⟩
def D_law_draw : He.DefD := ⟨("_law_draw", none), "_law_draw", "_law_draw", defArgs s_law_draw, defBody s_law_draw, defScope s_law_draw, [], []⟩
def D_law_parts : He.DefD := ⟨("_law_parts", none), "_law_parts", "_law_parts", defArgs s_law_parts, defBody s_law_parts, defScope s_law_parts, [], []⟩
def D_Rule___init__ : He.DefD := ⟨("Rule", some "__init__"), "__init__", "Rule.__init__", defArgs s_Rule___init__, defBody s_Rule___init__, defScope s_Rule___init__, [], []⟩
def D_law_rule : He.DefD := ⟨("_law_rule", none), "_law_rule", "_law_rule", defArgs s_law_rule, defBody s_law_rule, defScope s_law_rule, [], []⟩
def D_law_names : He.DefD := ⟨("_law_names", none), "_law_names", "_law_names", defArgs s_law_names, defBody s_law_names, defScope s_law_names, [], []⟩
def D_law_due : He.DefD := ⟨("_law_due", none), "_law_due", "_law_due", defArgs s_law_due, defBody s_law_due, defScope s_law_due, [], []⟩
def D_rule_of : He.DefD := ⟨("rule_of", none), "rule_of", "rule_of", defArgs s_rule_of, defBody s_rule_of, defScope s_rule_of, [], []⟩
def D_Rule_parts : He.DefD := ⟨("Rule", some "parts"), "parts", "Rule.parts", defArgs s_Rule_parts, defBody s_Rule_parts, defScope s_Rule_parts, [], []⟩
def D_Rule_turned : He.DefD := ⟨("Rule", some "turned"), "turned", "Rule.turned", defArgs s_Rule_turned, defBody s_Rule_turned, defScope s_Rule_turned, [], []⟩
def D_Rule___eq__ : He.DefD := ⟨("Rule", some "__eq__"), "__eq__", "Rule.__eq__", defArgs s_Rule___eq__, defBody s_Rule___eq__, defScope s_Rule___eq__, [], []⟩
def D_law : He.DefD := ⟨("law", none), "law", "law", defArgs s_law, defBody s_law, defScope s_law, [], []⟩
def D_XBadRule : He.DefD := ⟨("BadRule", some "__init__"), "__init__", "BadRule.__init__", defArgs s_XBadRule, defBody s_XBadRule, defScope s_XBadRule, [], []⟩
def fn : List He.DefD := [D_law_begin, D_law_values, D_law_draw, D_law_parts, D_Rule___init__, D_law_rule, D_law_names, D_law_due, D_rule_of, D_Rule_parts, D_Rule_turned, D_Rule___eq__, D_law, D_XBadRule]
def fa : List He.Fa := [.glo "_law_begin", .glo "_law_values", .glo "_law_draw", .glo "_law_parts", .glo "_law_rule", .glo "_law_names", .glo "_law_due", .glo "rule_of", .glo "law", .free "int", .free "isinstance", .free "len", .free "list", .free "range", .free "str", .free "tuple", .free "zip", .glo "PARTS", .glo "VALUES", .glo "BadRule", .glo "Rule", .cls "Rule", .noat "Rule" "checking", .noat "Rule" "halves", .noat "Rule" "singles", .noat "Rule" "telling", .noat "BadRule" "part", .exm "BadRule" "BadRule" true, .meth "Rule" "__eq__", .meth "Rule" "parts", .meth "Rule" "turned", .mkr "Rule"]
def exs : List (PySem.W.Frag → Bool) := [fun K => conB K d_PARTS (.ref (He.ga K "PARTS")), fun K => conB K d_VALUES (.ref (He.ga K "VALUES")), fun K => oexB K (He.ga K "BadRule"), fun K => xfB K (He.ga K "BadRule"), fun K => He.eqO (PySem.W.findIn K (.ref (He.ga K "BadRule")) "__init__") (some (some (.ref (He.ma K (He.ga K "BadRule") "__init__")))), fun K => decide (PySem.W.typeIn K (.ref (He.ma K (He.ga K "BadRule") "__init__")) = some (.type "function")), fun K => isoB K (He.ga K "Rule")]
def ex (K : PySem.W.Frag) : Bool := exs.all fun f => f K
theorem ex_at {K : PySem.W.Frag} (h : ex K = true) (i : Nat) {f : PySem.W.Frag → Bool} (e : exs[i]? = some f := by rfl) : f K = true := List.all_eq_true.mp h f (List.mem_of_getElem? e)
abbrev R0 : PySem.W.OpenRow := PySem.W.OpenLaw.row PySem.Challenge.rw_seriesbooked_k01_rules_refused
abbrev hk : PySem.W.Hook := He.hookX 5 fa fn [] [] ex
def ob (s : PySem.W.SharedT) : He.AlX := He.obsX 5 fa fn [] [] ex (HandSHeadRun.getT s)
theorem ob_eq (s : PySem.W.SharedT) : ob s = hk.obs s.abs := He.obsX_eq (HandSHeadRun.getT_eq s)
def ns0 : List PySem.Str := ["SeriesError", "BadRule", "PARTS", "VALUES", "Rule", "rule_of", "_law_begin", "_law_draw", "_law_values", "_law_names", "_law_parts", "_law_rule", "_law_due"]
def nms : List PySem.Str := ns0
theorem run0 (w : World) : HandSHeadRun.RunEq R0 (PySem.W.view R0.prog [16]) hk ob 4000 nms w := by
  intro os
  kernel_rfl
theorem fn_nox {P : Program} {w : World} {K : PySem.W.Frag} {mg : Str → Option Value} {base : Heap} {k : Nat} {f : Addr} {fd : FuncData} {ps : List Str} {sp : Sp} (F : FnOk P w K mg base (L2.CX P w) k f fd ps sp) :
    FnOk P w K mg base CX0 k f fd ps (fun vs H Q _ => sp vs H Q (fun _ _ _ => False)) :=
  ⟨fun vs H Q E h => F.len _ _ _ _ h, fun A outer s H args us vs Q E hr he hb hv hs => codeAny_mono (F.run A outer s H args us vs Q (fun _ _ _ => False) hr he hb hv hs) fun r s' q => by
    cases r with
    | error e =>
      obtain ⟨_, _, _, _, _, _, _, _, _, _, _, _, z⟩ := q
      exact z
    | ok fl =>
      cases fl with
      | ret u => exact q
      | next => exact q
      | brk => exact q
      | cont => exact q⟩
theorem gs_of {K : PySem.W.Frag} {h : Heap} {mg : Str → Option Value} (X : K.In h) (G : h.Ns mainGlobals mg) (c : He.SaysD fa fn K) (e : ex K = true) : Gs K mg where
  b_int := He.free_ok X G (c.fact 9)
  b_isinstance := He.free_ok X G (c.fact 10)
  b_len := He.free_ok X G (c.fact 11)
  b_list := He.free_ok X G (c.fact 12)
  b_range := He.free_ok X G (c.fact 13)
  b_str := He.free_ok X G (c.fact 14)
  b_tuple := He.free_ok X G (c.fact 15)
  b_zip := He.free_ok X G (c.fact 16)
  k_PARTS := kc_of (He.glo_ok X G (c.fact 17)) (ex_at e 0)
  k_VALUES := kc_of (He.glo_ok X G (c.fact 18)) (ex_at e 1)
  gc_BadRule := He.glo_ok X G (c.fact 19)
  gc_Rule := He.glo_ok X G (c.fact 20)
  c_Rule := He.cls_ok (c.fact 21)
  n_Rule_checking := He.noat_ok (c.fact 22)
  n_Rule_halves := He.noat_ok (c.fact 23)
  n_Rule_singles := He.noat_ok (c.fact 24)
  n_Rule_telling := He.noat_ok (c.fact 25)
  n_BadRule_part := He.noat_ok (c.fact 26)
  xf_BadRule := xfB_ok (ex_at e 3)
  xo_BadRule := oexB_ok (ex_at e 2)
  xi_BadRule := He.eqO_ok (ex_at e 4)
  xt_BadRule := of_decide_eq_true (ex_at e 5)
  xm_BadRule_BadRule := He.exm_ok (c.fact 27)
  m_Rule___eq__ := He.meth_ok (c.fact 28)
  m_Rule_parts := He.meth_ok (c.fact 29)
  m_Rule_turned := He.meth_ok (c.fact 30)
  mk_Rule := He.mkr_ok (c.fact 31)
  i_Rule := isoB_ok (He.cls_ok (c.fact 21)) (ex_at e 6)
theorem facts {P : Program} {w : World} {K : PySem.W.Frag} {h : Heap} {mg : Str → Option Value} {f : Addr} (X : K.In h) (G : h.Ns mainGlobals mg) (hfa : mg ("law" : Str) = some (.ref f)) (c : He.SaysD fa fn K) (e : ex K = true) :
    ∃ fd : FuncData, (∀ (s : Shared) (v : Value), BindsTo s fd ⟨[v], []⟩ [("_law_script", v)]) ∧ ∀ base : Heap, K.In base → base.Ns mainGlobals mg → FnOk P w K mg base (L2.CX P w) 7 f fd ["_law_script"] (spM w K 1 m_law) := by
  have g : Gs K mg := gs_of X G c e
  obtain ⟨fd0, F0⟩ := c.def_ 0 (d := D_law_begin) rfl
  obtain ⟨fd1, F1⟩ := c.def_ 1 (d := D_law_values) rfl
  obtain ⟨fd2, F2⟩ := c.def_ 2 (d := D_law_draw) rfl
  obtain ⟨fd3, F3⟩ := c.def_ 3 (d := D_law_parts) rfl
  obtain ⟨fd4, F4⟩ := c.def_ 4 (d := D_Rule___init__) rfl
  obtain ⟨fd5, F5⟩ := c.def_ 5 (d := D_law_rule) rfl
  obtain ⟨fd6, F6⟩ := c.def_ 6 (d := D_law_names) rfl
  obtain ⟨fd7, F7⟩ := c.def_ 7 (d := D_law_due) rfl
  obtain ⟨fd8, F8⟩ := c.def_ 8 (d := D_rule_of) rfl
  obtain ⟨fd9, F9⟩ := c.def_ 9 (d := D_Rule_parts) rfl
  obtain ⟨fd10, F10⟩ := c.def_ 10 (d := D_Rule_turned) rfl
  obtain ⟨fd11, F11⟩ := c.def_ 11 (d := D_Rule___eq__) rfl
  obtain ⟨fd12, F12⟩ := c.def_ 12 (d := D_law) rfl
  obtain ⟨fd13, F13⟩ := c.def_ 13 (d := D_XBadRule) rfl
  have e0 := hfa.symm.trans (He.glo_ok X G (c.fact 8))
  cases e0
  have b := FunD.bindsA (ps := ["_law_script"]) F12 fun _ _ _ _ _ _ us hl => match us, hl with | [_], _ => rfl
  refine ⟨fd12, fun s v => b s [v] rfl, fun base _ _ => ?_⟩
  have x_BadRule : XN P w K mg base 1 "BadRule" "part" := ⟨g.gc_BadRule, g.xo_BadRule, g.xi_BadRule, g.xt_BadRule, fd13, _, xn_init (st := s_XBadRule) F13 ⟨rfl, rfl, rfl, by decide +kernel, rfl, by decide +kernel, by decide +kernel⟩ g.xo_BadRule g.n_BadRule_part rfl (.inl rfl) (.inl rfl) (by decide) (by decide) (by decide) (by decide) (fun _ _ => rfl), F13.bindsN fun _ _ _ _ _ _ us hl => match us, hl with | [_, _], _ => rfl⟩
  have h_law_begin := ok_law_begin (P := P) (w := w) (base := base) g   F0 (He.glo_ok X G (c.fact 0))
  have h_law_values := ok_law_values (P := P) (w := w) (base := base) g   F1 (He.glo_ok X G (c.fact 1))
  have h_law_draw := ok_law_draw (P := P) (w := w) (base := base) g   F2 (He.glo_ok X G (c.fact 2))
  have h_law_parts := ok_law_parts (P := P) (w := w) (base := base) g h_law_values h_law_draw  F3 (He.glo_ok X G (c.fact 3))
  have h_Rule___init__ := ok_Rule___init__ (P := P) (w := w) (base := base) g  x_BadRule F4
  have h_law_rule := ok_law_rule (P := P) (w := w) (base := base) g h_Rule___init__  F5 (He.glo_ok X G (c.fact 4))
  have h_law_names := ok_law_names (P := P) (w := w) (base := base) g   F6 (He.glo_ok X G (c.fact 5))
  have h_law_due := ok_law_due (P := P) (w := w) (base := base) g h_law_values h_law_names  F7 (He.glo_ok X G (c.fact 6))
  have h_rule_of := ok_rule_of (P := P) (w := w) (base := base) g h_Rule___init__  F8 (He.glo_ok X G (c.fact 7))
  have h_Rule_parts := ok_Rule_parts (P := P) (w := w) (base := base) g   F9
  have h_Rule_turned := ok_Rule_turned (P := P) (w := w) (base := base) g h_rule_of h_Rule_parts x_BadRule F10
  have h_Rule___eq__ := ok_Rule___eq__ (P := P) (w := w) (base := base) g h_Rule_parts  F11
  exact ok_law g h_law_begin h_law_parts h_law_draw h_law_rule h_law_due h_law_names h_law_values h_Rule_turned h_Rule_parts h_Rule___eq__ x_BadRule F12
theorem law_sp {w : World} {K : PySem.W.Frag} (H : Hp) (a : Addr) (ns : List Int) (hl : ns.length ≤ 63) (hO : Only H) (hS : SqL K H a (ns.map V.int)) : spM w K 1 m_law [.ref a] H (fun v _ => v = .bl true) (fun _ _ _ => False) := by
  refine ⟨rfl, ⟨w, K, H, [], []⟩, [], [.kls (ns.map MV.int)], rfl, rfl, rfl, ⟨rfl, List.nodup_nil, (fun a m => nomatch m), fun n o a e _ => by simp at e⟩, ?_, ?_⟩
  · refine .cons ?_ .nil
    rw [RepV]
    have t : RepVs ⟨w, K, H, [], []⟩ (ns.map MV.int) (ns.map V.int) := by
      induction ns with
      | nil => exact .nil
      | cons n ns ih =>
        refine .cons (repI n) ?_
        have z : ∀ ns : List Int, RepVs ⟨w, K, H, [], []⟩ (ns.map MV.int) (ns.map V.int) := fun ns => by
          induction ns with
          | nil => exact .nil
          | cons n ns ih => exact .cons (repI n) ih
        exact z ns
    refine ⟨a, ns.map V.int, rfl, ?_, t⟩
    rcases hS with (h | ⟨o, h⟩) | h
    · rcases hO a with z | ⟨o, xs, z⟩ <;> rw [z] at h <;> cases h
    · exact .inl ⟨o, h⟩
    · exact .inr (.inr h)
  · obtain ⟨S', e⟩ := law_true ns hl
    rw [e]
    exact fun C' g r v rv => vBl rv
end Lw
open PySem PySem.W PySem.Calls PyProof.Rows
theorem PySem.Challenge.cw_seriesbooked_k01_rules_refused_holds : PySem.Challenge.rw_seriesbooked_k01_rules_refused.Holds := by
  w_on; o_law
  refine HandSHeadRun.head_any (r := OpenLaw.row PySem.Challenge.rw_seriesbooked_k01_rules_refused) (q := view (OpenLaw.row PySem.Challenge.rw_seriesbooked_k01_rules_refused).prog [16]) (H := Lw.hk) (ob := Lw.ob) (M := 4000) (loose := Lw.nms) (d := HandSHeadRun.topDef (OpenLaw.row PySem.Challenge.rw_seriesbooked_k01_rules_refused).prog 16) (kwd := []) Lw.ob_eq
    (by kernel_rfl) (fun s => by kernel_rfl) Lw.run0 (by kernel_rfl) (by kernel_rfl) (by kernel_rfl) (by rfl) (by first | assumption | decide +kernel) (by decide +kernel) ⟨rfl, rfl, rfl, rfl, rfl, by decide +kernel⟩ ?hw ?hc
  case hw => w_witness2
  case hc =>
    refine L2.walk_ofE (l := PySem.Challenge.rw_seriesbooked_k01_rules_refused) (n := 63) (k := 7) (x := "_law_script") (CX := L2.CX0) rfl (by decide) (by kernel_rfl) ⟨rfl, by decide, by decide⟩ ?F (fun _ _ _ _ z => z)
    intro w mg fa h Y G hmg0
    obtain ⟨K, KX, c⟩ := Y
    have glaw : mg ("law" : PySem.Str) = some (.ref fa) := by
      have e : (HandSHeadRun.topDef (OpenLaw.row PySem.Challenge.rw_seriesbooked_k01_rules_refused).prog 16).name = ("law" : PySem.Str) := by kernel_rfl
      rw [← e]
      exact hmg0
    obtain ⟨fd, hb, hF⟩ := Lw.facts (P := (PySem.Challenge.rw_seriesbooked_k01_rules_refused).prog) (w := w) KX G glaw c.t.d c.more
    exact ⟨K, fd, (fun vs H Q _ => Mi.spM w K 1 Lw.m_law vs H Q (fun _ _ _ => False)), KX, hb, fun H a ns hl hO hS => Lw.law_sp H a ns hl hO hS, fun base k1 k2 => Lw.fn_nox (hF base k1 k2)⟩
