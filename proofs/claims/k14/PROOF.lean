import PyProof.Rows.All
import Wide.All
import OpenK.AllK
import Wide.FinOn
import HandS.ForMost
import HandS.ForExc
import HandS.ExcInit
import HandS.TryMany
import HandS.TryOnly
import HandS.CallSlots
import HandS.IsInst
import HandS.Walk
import HandS.Zip
import HandS.HeadHook4
import HandS.Flow
import HandS.Wide
import HandS.TupAny
import HandS.TupMul
import HandS.Deep
import HandS.Style
import KE.GoesZip
import KE.GoesMore
import KE.GoesEnum
import KE.GoesNew
import HandS.Comp
import HandS.Small
import HandS.ExcField
import HandS.HeadEnd
import KE.KDictZip
import HandS.DictComp
import KE.KDictKeyed
import HandS.Dict
import KE.KDictDisplayH
import HandS.TupLen
import KE.KEqDict
import PySem.Challenge.RW_seriesbooked_k14_parts_that_touch_little
import HandS.Head0
import HandS.Head1
import HandS.Head2
import HandS.HeadHook1
import HandS.HeadHook2
import HandS.HeadHook3
import KE.KStateDown
import Lean
set_option Elab.async false
set_option linter.all false
set_option maxRecDepth 100000
set_option maxHeartbeats 2000000
namespace Mi
open PySem PySem.Spec PyProof.Rows L2
/-- plain data, and references into a store -/
inductive MV where
  | non | bl (b : Bool) | int (i : Int) | str (x : Str)
  | tup (xs : List MV) | lst (xs : List MV)
  | dct (ks : List Key) (vs : List MV)
  | dcT (ks : List MV) (vs : List MV)
  | obj (c : Str) (fs : List Str) (vs : List MV)
  | ref (n : Nat)
  | kls (xs : List MV)
  deriving Inhabited
/-- what stands in the store -/
inductive MO where
  | lst (xs : List MV)
  | dct (ks : List Key) (vs : List MV)
  | dcT (ks : List MV) (vs : List MV)
  | obj (c : Str) (fs : List Str) (vs : List MV)
  deriving Inhabited
abbrev Sto := List MO
abbrev Ev := List (Option MV)
mutual
def MV.beq : MV → MV → Bool
  | .non, .non => true
  | .bl a, .bl b => a == b
  | .int a, .int b => decide (a = b)
  | .str a, .str b => decide (a = b)
  | .tup a, .tup b => MV.beqs a b
  | .lst a, .lst b => MV.beqs a b
  | .dct ka a, .dct kb b => decide (ka = kb) && MV.beqs a b
  | .dcT ka a, .dcT kb b => MV.beqs ka kb && MV.beqs a b
  | .obj c f a, .obj c' f' b => decide (c = c') && (decide (f = f') && MV.beqs a b)
  | .ref a, .ref b => decide (a = b)
  | .kls a, .kls b => MV.beqs a b
  | _, _ => false
def MV.beqs : List MV → List MV → Bool
  | [], [] => true
  | a :: as, b :: bs => MV.beq a b && MV.beqs as bs
  | _, _ => false
end
mutual
theorem MV.beq_ok : ∀ a b : MV, MV.beq a b = true ↔ a = b
  | .non, b => by cases b <;> simp [MV.beq]
  | .bl a, b => by cases b <;> simp [MV.beq]
  | .int a, b => by cases b <;> simp [MV.beq]
  | .str a, b => by cases b <;> simp [MV.beq]
  | .tup a, b => by cases b <;> simp [MV.beq, MV.beqs_ok a]
  | .lst a, b => by cases b <;> simp [MV.beq, MV.beqs_ok a]
  | .dct ka a, b => by cases b <;> simp [MV.beq, MV.beqs_ok a]
  | .dcT ka a, b => by cases b <;> simp [MV.beq, MV.beqs_ok a, MV.beqs_ok ka]
  | .obj c f a, b => by cases b <;> simp [MV.beq, MV.beqs_ok a]
  | .ref a, b => by cases b <;> simp [MV.beq]
  | .kls a, b => by cases b <;> simp [MV.beq, MV.beqs_ok a]
theorem MV.beqs_ok : ∀ a b : List MV, MV.beqs a b = true ↔ a = b
  | [], b => by cases b <;> simp [MV.beqs]
  | a :: as, b => by
    cases b with
    | nil => simp [MV.beqs]
    | cons b bs => simp [MV.beqs, MV.beq_ok a b, MV.beqs_ok as bs]
end
instance : DecidableEq MV := fun a b => decidable_of_iff _ (MV.beq_ok a b)
def MO.beq : MO → MO → Bool
  | .lst a, .lst b => MV.beqs a b
  | .dct ka a, .dct kb b => decide (ka = kb) && MV.beqs a b
  | .dcT ka a, .dcT kb b => MV.beqs ka kb && MV.beqs a b
  | .obj c f a, .obj c' f' b => decide (c = c') && (decide (f = f') && MV.beqs a b)
  | _, _ => false
theorem MO.beq_ok (a b : MO) : MO.beq a b = true ↔ a = b := by
  cases a <;> cases b <;> simp [MO.beq, MV.beqs_ok]
instance : DecidableEq MO := fun a b => decidable_of_iff _ (MO.beq_ok a b)
mutual
def canon : MV → MV
  | .bl b => .int (if b then 1 else 0)
  | .tup xs => .tup (canons xs)
  | x => x
def canons : List MV → List MV
  | [] => []
  | x :: xs => canon x :: canons xs
end
theorem canons_map : ∀ xs : List MV, canons xs = xs.map canon
  | [] => rfl
  | x :: xs => by rw [canons, canons_map xs]; rfl
mutual
def keyOk : MV → Bool
  | .non | .bl _ | .int _ | .str _ => true
  | .tup xs => keyOks xs
  | _ => false
def keyOks : List MV → Bool
  | [] => true
  | x :: xs => keyOk x && keyOks xs
end
mutual
def kdep : MV → Nat
  | .tup xs => kdeps xs + 1
  | _ => 0
def kdeps : List MV → Nat
  | [] => 0
  | x :: xs => max (kdep x) (kdeps xs)
end
/-- keys of a dict: plain data, not too deep -/
def keyTs (ks : List MV) : Bool := keyOks ks && decide (kdeps ks ≤ 8)
/-- where data is read: the program, the world, the written part, the abstract heap, the addresses of the store -/
structure RC where
  w : World
  K : PySem.W.Frag
  H : Hp
  ι : List Addr
  bad : List Addr := []
/-- not to be written -/
def Froz (C : RC) (a : Addr) : Prop := a ∉ C.ι ∧ a ∉ C.bad
mutual
def hashK (w : World) : MV → Int
  | .non => 0xfca86420
  | .int i => hashInt i
  | .bl b => hashInt (if b then 1 else 0)
  | .str x => hashStr w x
  | .tup xs => reduceHash (Builtin.Tuple.tupleHashOf (hashKs w xs))
  | _ => 0
def hashKs (w : World) : List MV → List Int
  | [] => []
  | x :: xs => hashK w x :: hashKs w xs
end
/-- the entries of a dict whose keys are tuples -/
def entsOf (w : World) : List MV → List Addr → List Value → List DictEntry
  | k :: ks, p :: ps, u :: us => ⟨hashK w k, .ref p, u⟩ :: entsOf w ks ps us
  | _, _, _ => []
/-- a list of the written part -/
def KList (K : PySem.W.Frag) (a : Addr) (xs : List V) : Prop :=
  SqL K (fun _ => none) a xs
theorem KList.sq {K : PySem.W.Frag} {a : Addr} {xs : List V} (h : KList K a xs) (H : Hp) : SqL K H a xs := by
  rcases h with (k | ⟨ob, k⟩) | k
  · cases k
  · cases k
  · exact .inr k
theorem KList.of {K : PySem.W.Frag} {a : Addr} {xs : List V} {o : Obj} {its : Array Value} {n : Nat} (q : K.lookup a = some o) (c : o.cls = .type "list") (nd : o.dict = none) (dt : o.data = .seq its n) (z : its.size ≤ sizeLine) (rv : Vals xs its.toList) : KList K a xs :=
  .inr ⟨o, its, n, q, c, nd, dt, z, rv⟩
mutual
def RepV (C : RC) : MV → V → Prop
  | .non, v => v = .non
  | .bl b, v => v = .bl b
  | .int i, v => v = .int i
  | .str x, v => v = .str x
  | .tup xs, v => ∃ a vs, v = .ref a ∧ SqT C.K C.H a vs ∧ RepVs C xs vs
  | .lst xs, v => ∃ a vs, v = .ref a ∧ Froz C a ∧ C.H a = some (.lst vs) ∧ RepVs C xs vs
  | .dct ks ds, v => ∃ a vs, v = .ref a ∧ Froz C a ∧ Rd C.H a (.dK (ks.zip vs)) ∧ ks.length = vs.length ∧ ks.Nodup ∧ RepVs C ds vs
  | .dcT ks ds, v => ∃ a, v = .ref a ∧ Froz C a ∧ (a == sysModules) = false ∧ keyTs ks = true ∧ ((canons ks).Nodup) ∧ ks.length = ds.length ∧ ks.length ≤ sizeLine ∧
      ∃ (ob : Obj) (es : Array DictEntry) (ep : Nat) (ps : List Addr) (us : List Value) (kvs vs : List V),
        C.H a = some (.ext fun h => h.get? a = some ob) ∧ ob.ExactDict ∧ ob.data = .dict es ep ∧ es.toList = entsOf C.w ks ps us ∧ kvs = ps.map V.ref ∧ RepVs C ks kvs ∧ Vals vs us ∧ RepVs C ds vs
  | .obj c fs ds, v => ∃ a dx vs, v = .ref a ∧ Froz C a ∧ C.H a = some (.ins (He.ga C.K c) dx (fs.zip vs)) ∧ fs.length = vs.length ∧ RepVs C ds vs
  | .ref n, v => ∃ a, v = .ref a ∧ C.ι[n]? = some a
  | .kls xs, v => ∃ a vs, v = .ref a ∧ ((∃ o, C.H a = some (.frz o (.lst vs))) ∨ KList C.K a vs) ∧ RepVs C xs vs
def RepVs (C : RC) : List MV → List V → Prop
  | [], [] => True
  | d :: ds, v :: vs => RepV C d v ∧ RepVs C ds vs
  | _, _ => False
end
/-- an object of the store at its address -/
def RepO (C : RC) (a : Addr) : MO → Prop
  | .lst xs => ∃ vs, C.H a = some (.lst vs) ∧ RepVs C xs vs
  | .dct ks ds => ∃ vs, C.H a = some (.dK (ks.zip vs)) ∧ ks.length = vs.length ∧ ks.Nodup ∧ RepVs C ds vs
  | .dcT ks ds => (a == sysModules) = false ∧ keyTs ks = true ∧ ((canons ks).Nodup) ∧ ks.length = ds.length ∧ ks.length ≤ sizeLine ∧
      ∃ (ob : Obj) (es : Array DictEntry) (ep : Nat) (ps : List Addr) (us : List Value) (kvs vs : List V),
        C.H a = some (.ext fun h => h.get? a = some ob) ∧ ob.ExactDict ∧ ob.data = .dict es ep ∧ es.toList = entsOf C.w ks ps us ∧ kvs = ps.map V.ref ∧ RepVs C ks kvs ∧ Vals vs us ∧ RepVs C ds vs
  | .obj c fs ds => ∃ dx vs, C.H a = some (.ins (He.ga C.K c) dx (fs.zip vs)) ∧ fs.length = vs.length ∧ RepVs C ds vs
structure RepS (C : RC) (S : Sto) : Prop where
  len : C.ι.length = S.length
  nd : C.ι.Nodup
  bad : ∀ a ∈ C.bad, a ∉ C.ι ∧ C.H a ≠ none
  ob : ∀ (n : Nat) (o : MO) (a : Addr), S[n]? = some o → C.ι[n]? = some a → RepO C a o
theorem RepVs.length {C : RC} : ∀ {ds : List MV} {vs : List V}, RepVs C ds vs → ds.length = vs.length
  | [], [], _ => rfl
  | [], _ :: _, h => by simp [RepVs] at h
  | _ :: _, [], h => by simp [RepVs] at h
  | d :: ds, v :: vs, h => by
    rw [RepVs] at h
    simp [RepVs.length h.2]
theorem RepVs.get {C : RC} : ∀ {ds : List MV} {vs : List V} {i : Nat} {d : MV}, RepVs C ds vs → ds[i]? = some d → ∃ v, vs[i]? = some v ∧ RepV C d v
  | [], _, _, _, _, e => by simp at e
  | _ :: _, [], _, _, h, _ => by simp [RepVs] at h
  | d :: ds, v :: vs, 0, x, h, e => by
    rw [RepVs] at h
    simp at e; subst e
    exact ⟨v, rfl, h.1⟩
  | d :: ds, v :: vs, i + 1, x, h, e => by
    rw [RepVs] at h
    obtain ⟨w, k1, k2⟩ := RepVs.get (i := i) h.2 (by simpa using e)
    exact ⟨w, by simpa using k1, k2⟩
theorem RepVs.get' {C : RC} : ∀ {ds : List MV} {vs : List V} {i : Nat} {v : V}, RepVs C ds vs → vs[i]? = some v → ∃ d, ds[i]? = some d ∧ RepV C d v
  | [], [], _, _, _, e => by simp at e
  | [], _ :: _, _, _, h, _ => by simp [RepVs] at h
  | _ :: _, [], _, _, h, _ => by simp [RepVs] at h
  | d :: ds, v :: vs, 0, x, h, e => by
    rw [RepVs] at h
    simp at e; subst e
    exact ⟨d, rfl, h.1⟩
  | d :: ds, v :: vs, i + 1, x, h, e => by
    rw [RepVs] at h
    obtain ⟨w, k1, k2⟩ := RepVs.get' (i := i) h.2 (by simpa using e)
    exact ⟨w, by simpa using k1, k2⟩
theorem RepVs.cons {C : RC} {d : MV} {ds : List MV} {v : V} {vs : List V} (h : RepV C d v) (t : RepVs C ds vs) : RepVs C (d :: ds) (v :: vs) := by
  rw [RepVs]; exact ⟨h, t⟩
theorem RepVs.nil {C : RC} : RepVs C [] [] := by rw [RepVs]; trivial
theorem RepVs.cons_inv {C : RC} {d : MV} {ds : List MV} {vs : List V} (h : RepVs C (d :: ds) vs) : ∃ v vr, vs = v :: vr ∧ RepV C d v ∧ RepVs C ds vr := by
  cases vs with
  | nil => simp [RepVs] at h
  | cons v vr => rw [RepVs] at h; exact ⟨v, vr, rfl, h.1, h.2⟩
theorem RepVs.nil_inv {C : RC} {vs : List V} (h : RepVs C [] vs) : vs = [] := by
  cases vs with
  | nil => rfl
  | cons v vr => simp [RepVs] at h
theorem RepVs.append {C : RC} : ∀ {ds es : List MV} {vs us : List V}, RepVs C ds vs → RepVs C es us → RepVs C (ds ++ es) (vs ++ us)
  | [], _, vs, _, h, t => by rw [h.nil_inv]; exact t
  | d :: ds, _, vs, _, h, t => by
    obtain ⟨v, vr, rfl, h1, h2⟩ := h.cons_inv
    exact .cons h1 (RepVs.append h2 t)
theorem RepVs.take {C : RC} : ∀ {ds : List MV} {vs : List V} (n : Nat), RepVs C ds vs → RepVs C (ds.take n) (vs.take n)
  | _, _, 0, _ => by simp; exact .nil
  | [], vs, n + 1, h => by rw [h.nil_inv]; simpa using RepVs.nil
  | d :: ds, vs, n + 1, h => by
    obtain ⟨v, vr, rfl, h1, h2⟩ := h.cons_inv
    exact .cons h1 (RepVs.take n h2)
theorem RepVs.drop {C : RC} : ∀ {ds : List MV} {vs : List V} (n : Nat), RepVs C ds vs → RepVs C (ds.drop n) (vs.drop n)
  | _, _, 0, h => h
  | [], vs, n + 1, h => by rw [h.nil_inv]; simpa using RepVs.nil
  | d :: ds, vs, n + 1, h => by
    obtain ⟨v, vr, rfl, h1, h2⟩ := h.cons_inv
    exact RepVs.drop n h2
theorem RepVs.set {C : RC} {d : MV} {v : V} (r : RepV C d v) : ∀ {ds : List MV} {vs : List V} (i : Nat), RepVs C ds vs → RepVs C (ds.set i d) (vs.set i v)
  | [], vs, _, h => by rw [h.nil_inv]; simpa using RepVs.nil
  | x :: ds, vs, 0, h => by
    obtain ⟨u, vr, rfl, h1, h2⟩ := h.cons_inv
    exact .cons r h2
  | x :: ds, vs, i + 1, h => by
    obtain ⟨u, vr, rfl, h1, h2⟩ := h.cons_inv
    exact .cons h1 (RepVs.set r i h2)
theorem RepVs.flatRep {C : RC} {ds : List MV} {vs : List V} (h : RepVs C ds vs) : ∀ n : Nat, RepVs C ((List.replicate n ds).flatten) ((List.replicate n vs).flatten)
  | 0 => by simpa using RepVs.nil
  | n + 1 => by
    simp only [List.replicate_succ, List.flatten_cons]
    exact h.append (h.flatRep n)
/-- what stands at a later: the same, or a dict that is told to be read only from then on -/
def Kp (C C' : RC) (a : Addr) (o : HO) : Prop := C'.H a = some o ∨ a ∉ C.bad ∧ (∃ kvs, o = .dK kvs) ∧ ∃ ob, C'.H a = some (.frz ob o)
theorem Kp.isIt {C C' : RC} {a : Addr} {o : HO} (k : Kp C C' a o) : ∃ u, C'.H a = some u := by
  rcases k with k | ⟨_, _, ob, k⟩
  · exact ⟨_, k⟩
  · exact ⟨_, k⟩
theorem Kp.nix {C C' : RC} {a : Addr} {o : HO} (k : Kp C C' a o) : ¬ C'.H a = none := fun z => by
  obtain ⟨u, e⟩ := k.isIt
  rw [e] at z; cases z
theorem Kp.exact {C C' : RC} {a : Addr} {o : HO} (k : Kp C C' a o) (h : (∀ kvs, o ≠ .dK kvs) ∨ a ∈ C.bad) : C'.H a = some o := by
  rcases k with k | ⟨nb, ⟨kvs, e⟩, _⟩
  · exact k
  · rcases h with h | h
    · exact absurd e (h kvs)
    · exact absurd h nb
/-- from one state to a later one: b the least length of the store in between -/
structure Ext (b : Nat) (C C' : RC) : Prop where
  w : C'.w = C.w
  K : C'.K = C.K
  bad : ∀ a ∈ C'.bad, a ∈ C.bad ∨ a ∈ C.ι ∨ C.H a = none
  bad' : ∀ a ∈ C.bad, a ∈ C'.bad
  kp : ∀ a o, a ∉ C.ι → C.H a = some o → Kp C C' a o
  new : ∀ a ∈ C'.ι, a ∈ C.ι ∨ C.H a = none
  pre : C'.ι.take b = C.ι.take b
  le : b ≤ C.ι.length
  le' : b ≤ C'.ι.length
theorem Ext.refl {b : Nat} {C : RC} (h : b ≤ C.ι.length) : Ext b C C := ⟨rfl, rfl, fun _ h => .inl h, fun _ h => h, fun _ _ _ h => .inl h, fun _ h => .inl h, rfl, h, h⟩
theorem Ext.trans {b : Nat} {C C1 C2 : RC} (x : Ext b C C1) (y : Ext b C1 C2) : Ext b C C2 where
  w := y.w.trans x.w
  K := y.K.trans x.K
  bad := fun a m => by
    rcases y.bad a m with q | q | q
    · exact x.bad a q
    · rcases x.new a q with z | z
      · exact .inr (.inl z)
      · exact .inr (.inr z)
    · by_cases ha : a ∈ C.ι
      · exact .inr (.inl ha)
      · cases e : C.H a with
        | none => exact .inr (.inr rfl)
        | some o => exact absurd q (x.kp a o ha e).nix
  bad' := fun a m => y.bad' a (x.bad' a m)
  kp := fun a o na h => by
    have n1 : a ∉ C1.ι := fun m => by
      rcases x.new a m with q | q
      · exact na q
      · rw [h] at q; cases q
    rcases x.kp a o na h with k | ⟨nb, ⟨kvs, e⟩, ob, k⟩
    · rcases y.kp a o n1 k with j | ⟨nb, e, j⟩
      · exact .inl j
      · exact .inr ⟨fun m => nb (x.bad' a m), e, j⟩
    · exact .inr ⟨nb, ⟨kvs, e⟩, ob, (y.kp a _ n1 k).exact (.inl fun _ z => by cases z)⟩
  new := fun a m => by
    rcases y.new a m with q | q
    · exact x.new a q
    · by_cases ha : a ∈ C.ι
      · exact .inl ha
      · cases e : C.H a with
        | none => exact .inr rfl
        | some o => exact absurd q (x.kp a o ha e).nix
  pre := y.pre.trans x.pre
  le := x.le
  le' := y.le'
theorem Ext.weak {b b' : Nat} {C C' : RC} (x : Ext b C C') (h : b' ≤ b) : Ext b' C C' where
  w := x.w
  K := x.K
  bad := x.bad
  bad' := x.bad'
  kp := x.kp
  new := x.new
  pre := by
    have e := congrArg (List.take b') x.pre
    rw [List.take_take, List.take_take, Nat.min_eq_left h] at e
    exact e
  le := Nat.le_trans h x.le
  le' := Nat.le_trans h x.le'
/-- an address of the store carries no tuple and is not locked -/
theorem RepO.kind {C : RC} {a : Addr} {o : MO} (r : RepO C a o) : ∃ u, C.H a = some u ∧ (∀ xs, u ≠ .tup xs) ∧ (∀ ob x, u ≠ .frz ob x) ∧ (∀ y, u ≠ .own y) ∧ ∀ fs, u ≠ .xd fs := by
  cases o with
  | lst xs => obtain ⟨vs, h, _⟩ := r; exact ⟨_, h, by simp, by simp, by simp, by simp⟩
  | dct ks ds => obtain ⟨vs, h, _⟩ := r; exact ⟨_, h, by simp, by simp, by simp, by simp⟩
  | dcT ks ds => obtain ⟨_, _, _, _, _, ob, es, ep, ps, us, kvs, vs, h, _⟩ := r; exact ⟨_, h, by simp, by simp, by simp, by simp⟩
  | obj c fs ds => obtain ⟨dx, vs, h, _⟩ := r; exact ⟨_, h, by simp, by simp, by simp, by simp⟩
theorem RepS.kind {C : RC} {S : Sto} (r : RepS C S) {a : Addr} (h : a ∈ C.ι) : ∃ u, C.H a = some u ∧ (∀ xs, u ≠ .tup xs) ∧ (∀ ob x, u ≠ .frz ob x) ∧ (∀ y, u ≠ .own y) ∧ ∀ fs, u ≠ .xd fs := by
  obtain ⟨n, hn⟩ := List.mem_iff_getElem?.mp h
  have hl : n < S.length := by rw [← r.len]; exact (List.getElem?_eq_some_iff.mp hn).1
  exact (r.ob n S[n] a (List.getElem?_eq_getElem hl) hn).kind
mutual
def refsB (b : Nat) : MV → Bool
  | .ref n => decide (n < b)
  | .tup xs => refsBs b xs
  | .lst xs => refsBs b xs
  | .dct _ vs => refsBs b vs
  | .dcT ks vs => refsBs b ks && refsBs b vs
  | .obj _ _ vs => refsBs b vs
  | .kls vs => refsBs b vs
  | _ => true
def refsBs (b : Nat) : List MV → Bool
  | [] => true
  | x :: xs => refsB b x && refsBs b xs
end
theorem Ext.seqT {b : Nat} {C C' : RC} {S : Sto} (x : Ext b C C') (r : RepS C S) {a : Addr} {vs : List V} (h : SqT C.K C.H a vs) : SqT C'.K C'.H a vs := by
  rw [x.K]
  have na : ∀ {u}, C.H a = some u → ((∃ xs, u = .tup xs) ∨ ∃ ob y, u = .frz ob y) → a ∉ C.ι := fun {u} e k m => by
    obtain ⟨u', e', k1, k2, _⟩ := r.kind m
    rw [e] at e'; cases e'
    rcases k with ⟨xs, k⟩ | ⟨ob, y, k⟩
    · exact k1 _ k
    · exact k2 _ _ k
  rcases h with (k | ⟨ob, k⟩) | k
  · exact .inl (.inl ((x.kp _ _ (na k (.inl ⟨_, rfl⟩)) k).exact (.inl fun _ z => by cases z)))
  · exact .inl (.inr ⟨ob, (x.kp _ _ (na k (.inr ⟨_, _, rfl⟩)) k).exact (.inl fun _ z => by cases z)⟩)
  · exact .inr k
theorem Ext.out {b : Nat} {C C' : RC} (x : Ext b C C') {a : Addr} {u : HO} (n : Froz C a) (h : C.H a = some u) : Froz C' a := by
  refine ⟨fun m => ?_, fun m => ?_⟩
  rotate_left
  · rcases x.bad a m with q | q | q
    · exact n.2 q
    · exact n.1 q
    · rw [h] at q; cases q
  rcases x.new a m with q | q
  · exact n.1 q
  · rw [h] at q; cases q
theorem Ext.ref {b : Nat} {C C' : RC} (x : Ext b C C') {n : Nat} {a : Addr} (hn : n < b) (h : C.ι[n]? = some a) : C'.ι[n]? = some a := by
  have e := congrArg (fun l => l[n]?) x.pre
  simp only [List.getElem?_take_of_lt hn] at e
  rw [e]; exact h
/-- what data needs to stay -/
structure Tr (b : Nat) (C C' : RC) : Prop where
  w : C'.w = C.w
  K : C'.K = C.K
  seqT : ∀ a vs, SqT C.K C.H a vs → SqT C'.K C'.H a vs
  froz : ∀ a u, Froz C a → C.H a = some u → Froz C' a ∧ Kp C C' a u
  frz : ∀ a o u, C.H a = some (.frz o u) → C'.H a = some (.frz o u)
  ref : ∀ n a, n < b → C.ι[n]? = some a → C'.ι[n]? = some a
theorem Ext.tr {b : Nat} {C C' : RC} {S : Sto} (x : Ext b C C') (r : RepS C S) : Tr b C C' where
  w := x.w
  K := x.K
  seqT := fun a vs h => x.seqT r h
  froz := fun a u n h => ⟨x.out n h, x.kp _ _ n.1 h⟩
  frz := fun a o u q => (x.kp _ _ (fun m => by
    obtain ⟨u', e', _, k2, _⟩ := r.kind m
    rw [q] at e'; cases e'
    exact k2 _ _ rfl) q).exact (.inl fun _ z => by cases z)
  ref := fun n a hn h => x.ref hn h
mutual
theorem RepV.tr {b : Nat} {C C' : RC} (x : Tr b C C') : ∀ (d : MV) (v : V), refsB b d = true → RepV C d v → RepV C' d v
  | .non, v, _, h => by rw [RepV] at h ⊢; exact h
  | .bl _, v, _, h => by rw [RepV] at h ⊢; exact h
  | .int _, v, _, h => by rw [RepV] at h ⊢; exact h
  | .str _, v, _, h => by rw [RepV] at h ⊢; exact h
  | .tup xs, v, hb, h => by
    rw [RepV] at h ⊢
    obtain ⟨a, vs, e, q, t⟩ := h
    exact ⟨a, vs, e, x.seqT _ _ q, RepVs.tr x xs vs (by simpa [refsB] using hb) t⟩
  | .lst xs, v, hb, h => by
    rw [RepV] at h ⊢
    obtain ⟨a, vs, e, n, q, t⟩ := h
    exact ⟨a, vs, e, (x.froz _ _ n q).1, (x.froz _ _ n q).2.exact (.inl fun _ z => by cases z), RepVs.tr x xs vs (by simpa [refsB] using hb) t⟩
  | .kls xs, v, hb, h => by
    rw [RepV] at h ⊢
    obtain ⟨a, vs, e, q, t⟩ := h
    refine ⟨a, vs, e, ?_, RepVs.tr x xs vs (by simpa [refsB] using hb) t⟩
    rcases q with ⟨o, q⟩ | q
    · exact .inl ⟨o, x.frz _ _ _ q⟩
    · exact .inr (by rw [x.K]; exact q)
  | .dct ks ds, v, hb, h => by
    rw [RepV] at h ⊢
    obtain ⟨a, vs, e, n, q, l, nd, t⟩ := h
    have t' := RepVs.tr x ds vs (by simpa [refsB] using hb) t
    rcases q with q | ⟨o, q⟩
    · rcases (x.froz _ _ n q).2 with k | ⟨_, _, ob, k⟩
      · exact ⟨a, vs, e, (x.froz _ _ n q).1, .inl k, l, nd, t'⟩
      · exact ⟨a, vs, e, (x.froz _ _ n q).1, .inr ⟨ob, k⟩, l, nd, t'⟩
    · exact ⟨a, vs, e, (x.froz _ _ n q).1, .inr ⟨o, (x.froz _ _ n q).2.exact (.inl fun _ z => by cases z)⟩, l, nd, t'⟩
  | .dcT ks ds, v, hb, h => by
    rw [RepV] at h ⊢
    obtain ⟨a, e, n, sm, ko, nd, l, z, ob, es, ep, ps, us, kvs, vs, q, ex, hd, he, hk, tk, rv, t⟩ := h
    have hb' : refsBs b ks = true ∧ refsBs b ds = true := by simpa [refsB] using hb
    refine ⟨a, e, (x.froz _ _ n q).1, sm, ko, nd, l, z, ob, es, ep, ps, us, kvs, vs, (x.froz _ _ n q).2.exact (.inl fun _ z => by cases z), ex, hd, ?_, hk, RepVs.tr x ks kvs hb'.1 tk, rv, RepVs.tr x ds vs hb'.2 t⟩
    rw [x.w]; exact he
  | .obj c fs ds, v, hb, h => by
    rw [RepV] at h ⊢
    obtain ⟨a, dx, vs, e, n, q, l, t⟩ := h
    refine ⟨a, dx, vs, e, (x.froz _ _ n q).1, ?_, l, RepVs.tr x ds vs (by simpa [refsB] using hb) t⟩
    rw [x.K]; exact (x.froz _ _ n q).2.exact (.inl fun _ z => by cases z)
  | .ref n, v, hb, h => by
    rw [RepV] at h ⊢
    obtain ⟨a, e, q⟩ := h
    exact ⟨a, e, x.ref _ _ (by simpa [refsB] using hb) q⟩
theorem RepVs.tr {b : Nat} {C C' : RC} (x : Tr b C C') : ∀ (ds : List MV) (vs : List V), refsBs b ds = true → RepVs C ds vs → RepVs C' ds vs
  | [], vs, _, h => by rw [h.nil_inv]; exact .nil
  | d :: ds, vs, hb, h => by
    obtain ⟨v, vr, rfl, h1, h2⟩ := h.cons_inv
    have hb' : refsB b d = true ∧ refsBs b ds = true := by simpa [refsBs] using hb
    exact .cons (RepV.tr x d v hb'.1 h1) (RepVs.tr x ds vr hb'.2 h2)
end
theorem RepV.ext {b : Nat} {C C' : RC} {S : Sto} (x : Ext b C C') (r : RepS C S) (d : MV) (v : V) (hb : refsB b d = true) (h : RepV C d v) : RepV C' d v := RepV.tr (x.tr r) d v hb h
theorem RepVs.ext {b : Nat} {C C' : RC} {S : Sto} (x : Ext b C C') (r : RepS C S) (d : List MV) (v : List V) (hb : refsBs b d = true) (h : RepVs C d v) : RepVs C' d v := RepVs.tr (x.tr r) d v hb h
mutual
theorem RepV.refs {C : RC} : ∀ (d : MV) (v : V), RepV C d v → refsB C.ι.length d = true
  | .non, v, h => rfl
  | .bl _, v, h => rfl
  | .int _, v, h => rfl
  | .str _, v, h => rfl
  | .tup xs, v, h => by
    rw [RepV] at h; obtain ⟨a, vs, e, q, t⟩ := h
    rw [refsB]; exact RepVs.refs xs vs t
  | .lst xs, v, h => by
    rw [RepV] at h; obtain ⟨a, vs, e, n, q, t⟩ := h
    rw [refsB]; exact RepVs.refs xs vs t
  | .kls xs, v, h => by
    rw [RepV] at h; obtain ⟨a, vs, e, q, t⟩ := h
    rw [refsB]; exact RepVs.refs xs vs t
  | .dct ks ds, v, h => by
    rw [RepV] at h; obtain ⟨a, vs, e, n, q, l, nd, t⟩ := h
    rw [refsB]; exact RepVs.refs ds vs t
  | .dcT ks ds, v, h => by
    rw [RepV] at h
    obtain ⟨a, e, n, sm, ko, nd, l, z, ob, es, ep, ps, us, kvs, vs, q, ex, hd, he, hk, tk, rv, t⟩ := h
    rw [refsB, RepVs.refs ks kvs tk, RepVs.refs ds vs t]; rfl
  | .obj c fs ds, v, h => by
    rw [RepV] at h
    obtain ⟨a, dx, vs, e, n, q, l, t⟩ := h
    rw [refsB]; exact RepVs.refs ds vs t
  | .ref n, v, h => by
    rw [RepV] at h
    obtain ⟨a, e, q⟩ := h
    rw [refsB]; exact decide_eq_true (List.getElem?_eq_some_iff.mp q).1
theorem RepVs.refs {C : RC} : ∀ (ds : List MV) (vs : List V), RepVs C ds vs → refsBs C.ι.length ds = true
  | [], vs, _ => rfl
  | d :: ds, vs, h => by
    obtain ⟨v, vr, rfl, h1, h2⟩ := h.cons_inv
    rw [refsBs, RepV.refs d v h1, RepVs.refs ds vr h2]; rfl
end
/-- nothing of the store goes -/
abbrev Grow (C C' : RC) : Prop := Ext C.ι.length C C'
theorem Grow.refl {C : RC} : Grow C C := Ext.refl (Nat.le_refl _)
theorem Ext.grow {b : Nat} {C C' : RC} (x : Grow C C') (h : b ≤ C.ι.length) : Ext b C C' := x.weak h
theorem Grow.trans {C C1 C2 : RC} (x : Grow C C1) (y : Grow C1 C2) : Grow C C2 := Ext.trans x (y.weak x.le')
theorem RepV.grow {C C' : RC} {S : Sto} (x : Grow C C') (r : RepS C S) {d : MV} {v : V} (h : RepV C d v) : RepV C' d v := RepV.ext x r d v (RepV.refs d v h) h
theorem RepVs.grow {C C' : RC} {S : Sto} (x : Grow C C') (r : RepS C S) {ds : List MV} {vs : List V} (h : RepVs C ds vs) : RepVs C' ds vs := RepVs.ext x r ds vs (RepVs.refs ds vs h) h
/-- the slots -/
def EnvR (C : RC) (ρ : Ev) (σ : L2.St) : Prop := ∀ (i : Nat) (d : MV), ρ[i]? = some (some d) → ∃ v, σ[i]? = some (some v) ∧ RepV C d v
theorem EnvR.grow {C C' : RC} {S : Sto} {ρ : Ev} {σ : L2.St} (h : EnvR C ρ σ) (x : Grow C C') (r : RepS C S) : EnvR C' ρ σ := fun i d e => by
  obtain ⟨v, e1, q⟩ := h i d e
  exact ⟨v, e1, q.grow x r⟩
theorem EnvR.set {C : RC} {ρ : Ev} {σ : L2.St} (h : EnvR C ρ σ) {i : Nat} {d : MV} {v : V} (hi : ρ.length = σ.length) (q : RepV C d v) : EnvR C (ρ.set i (some d)) (σ.set i (some v)) := fun j e q' => by
  by_cases hj : j = i
  · subst hj
    by_cases hl : j < ρ.length
    · rw [List.getElem?_set_self hl] at q'
      cases q'
      exact ⟨v, by rw [List.getElem?_set_self (by omega)], q⟩
    · rw [List.getElem?_eq_none (by simpa using hl)] at q'; cases q'
  · rw [List.getElem?_set_ne (Ne.symm hj)] at q' ⊢
    exact h j e q'
end Mi
set_option Elab.async false
set_option linter.all false
set_option maxRecDepth 100000
set_option maxHeartbeats 2000000
namespace Mi
open PySem PySem.Spec PyProof.Rows L2
theorem RepO.grow {C C' : RC} {S : Sto} {a : Addr} {o : MO} (x : Grow C C') (r : RepS C S) (e : C'.H a = C.H a) (h : RepO C a o) : RepO C' a o := by
  cases o with
  | lst xs => obtain ⟨vs, q, t⟩ := h; exact ⟨vs, e.trans q, t.grow x r⟩
  | dct ks ds => obtain ⟨vs, q, l, nd, t⟩ := h; exact ⟨vs, e.trans q, l, nd, t.grow x r⟩
  | dcT ks ds =>
    obtain ⟨sm, ko, nd, l, z, ob, es, ep, ps, us, kvs, vs, q, ex, hd, he, hk, tk, rv, t⟩ := h
    exact ⟨sm, ko, nd, l, z, ob, es, ep, ps, us, kvs, vs, e.trans q, ex, hd, by rw [x.w]; exact he, hk, tk.grow x r, rv, t.grow x r⟩
  | obj c fs ds => obtain ⟨dx, vs, q, l, t⟩ := h; exact ⟨dx, vs, by rw [x.K]; exact e.trans q, l, t.grow x r⟩
/-- a new object, not of the store -/
def RC.put (C : RC) (p : Addr) (o : HO) : RC := { C with H := upd C.H p o }
theorem Grow.put {C : RC} {p : Addr} {o : HO} (h : C.H p = none) : Grow C (C.put p o) := by
  refine ⟨rfl, rfl, fun _ h => .inl h, fun _ h => h, fun a u _ e => ?_, fun a m => .inl m, rfl, Nat.le_refl _, Nat.le_refl _⟩
  refine .inl (show upd C.H p o a = some u from ?_)
  rw [upd_ne (ne_of_none e h)]; exact e
theorem RepS.put {C : RC} {S : Sto} {p : Addr} {o : HO} (r : RepS C S) (h : C.H p = none) : RepS (C.put p o) S := by
  refine ⟨r.len, r.nd, fun a m => ⟨(r.bad a m).1, ?_⟩, fun n mo a e1 e2 => ?_⟩
  · show upd C.H p o a ≠ none
    by_cases q : a = p
    · subst q; exact absurd h (r.bad a m).2
    · rw [upd_ne q]; exact (r.bad a m).2
  · have ro := r.ob n mo a e1 e2
    refine ro.grow (Grow.put h) r ?_
    obtain ⟨u, hu, _⟩ := ro.kind
    show upd C.H p o a = C.H a
    rw [upd_ne (ne_of_none hu h)]
theorem Froz.put {C : RC} {S : Sto} {p : Addr} {o : HO} (r : RepS C S) (h : C.H p = none) : Froz (C.put p o) p := by
  refine ⟨fun m => ?_, fun m => (r.bad p m).2 h⟩
  obtain ⟨u, hu, _⟩ := r.kind (show p ∈ C.ι from m)
  rw [h] at hu; cases hu
theorem put_same {C : RC} {p : Addr} {o : HO} : (C.put p o).H p = some o := upd_same
/-- a new cell of the store -/
def RC.cell (C : RC) (p : Addr) (o : HO) : RC := { C with H := upd C.H p o, ι := C.ι ++ [p] }
theorem Grow.cell {C : RC} {p : Addr} {o : HO} (h : C.H p = none) : Grow C (C.cell p o) := by
  refine ⟨rfl, rfl, fun _ h => .inl h, fun _ h => h, fun a u _ e => ?_, fun a m => ?_, by simp [RC.cell], Nat.le_refl _, by simp [RC.cell]⟩
  · refine .inl (show upd C.H p o a = some u from ?_)
    rw [upd_ne (ne_of_none e h)]; exact e
  · rcases List.mem_append.mp (show a ∈ C.ι ++ [p] from m) with m | m
    · exact .inl m
    · have e : a = p := by simpa using m
      subst e; exact .inr h
theorem RepS.notin {C : RC} {S : Sto} {p : Addr} (r : RepS C S) (h : C.H p = none) : p ∉ C.ι := fun m => by
  obtain ⟨u, hu, _⟩ := r.kind m
  rw [h] at hu; cases hu
theorem RepS.cell {C : RC} {S : Sto} {p : Addr} {o : HO} {mo : MO} (r : RepS C S) (h : C.H p = none) (q : RepO (C.cell p o) p mo) : RepS (C.cell p o) (S ++ [mo]) := by
  refine ⟨by simp [RC.cell, r.len], ?_, fun a m => ⟨fun m2 => ?_, ?_⟩, fun n mo' a e1 e2 => ?_⟩
  · show (C.ι ++ [p]).Nodup
    rw [List.nodup_append]
    refine ⟨r.nd, by simp, fun a ha b hb => ?_⟩
    have e : b = p := by simpa using hb
    subst e
    intro e; subst e
    exact r.notin h ha
  · rcases List.mem_append.mp (show a ∈ C.ι ++ [p] from m2) with m2 | m2
    · exact (r.bad a m).1 m2
    · have e : a = p := by simpa using m2
      subst e; exact (r.bad a m).2 h
  · show upd C.H p o a ≠ none
    by_cases z : a = p
    · subst z; exact absurd h (r.bad a m).2
    · rw [upd_ne z]; exact (r.bad a m).2
  · have e2 : (C.ι ++ [p])[n]? = some a := e2
    by_cases hn : n < S.length
    · rw [List.getElem?_append_left hn] at e1
      rw [List.getElem?_append_left (by rw [r.len]; exact hn)] at e2
      have ro := r.ob n mo' a e1 e2
      refine ro.grow (Grow.cell h) r ?_
      obtain ⟨u, hu, _⟩ := ro.kind
      show upd C.H p o a = C.H a
      rw [upd_ne (ne_of_none hu h)]
    · rw [List.getElem?_append_right (by omega)] at e1
      rw [List.getElem?_append_right (by rw [r.len]; omega), r.len] at e2
      cases hz : n - S.length with
      | zero =>
        rw [hz] at e1 e2
        simp at e1 e2
        subst e1; subst e2
        exact q
      | succ k => rw [hz] at e1; simp at e1
theorem cell_same {C : RC} {p : Addr} {o : HO} : (C.cell p o).H p = some o := upd_same
theorem cell_ref {C : RC} {S : Sto} {p : Addr} {o : HO} (r : RepS C S) : RepV (C.cell p o) (.ref S.length) (.ref p) := by
  rw [RepV]
  exact ⟨p, rfl, by simp [RC.cell, ← r.len]⟩
/-- a cell of the store is written -/
theorem Grow.write {C : RC} {a : Addr} {o : HO} (h : a ∈ C.ι) : Grow C (C.put a o) := by
  refine ⟨rfl, rfl, fun _ h => .inl h, fun _ h => h, fun b u n e => ?_, fun b m => .inl m, rfl, Nat.le_refl _, Nat.le_refl _⟩
  refine .inl (show upd C.H a o b = some u from ?_)
  rw [upd_ne (fun z => n (by rw [z]; exact h))]; exact e
theorem RepS.write {C : RC} {S : Sto} {n : Nat} {a : Addr} {o : HO} {mo : MO} (r : RepS C S) (h : C.ι[n]? = some a) (q : RepO (C.put a o) a mo) : RepS (C.put a o) (S.set n mo) := by
  have ha : a ∈ C.ι := List.mem_of_getElem? h
  refine ⟨by simp [RC.put, r.len], r.nd, fun b m => ⟨(r.bad b m).1, ?_⟩, fun k mo' b e1 e2 => ?_⟩
  · show upd C.H a o b ≠ none
    by_cases z : b = a
    · subst z; exact absurd ha (r.bad b m).1
    · rw [upd_ne z]; exact (r.bad b m).2
  · by_cases hk : k = n
    · subst hk
      have e2 : C.ι[k]? = some b := e2
      rw [h] at e2; cases e2
      have hl : k < S.length := by rw [← r.len]; exact (List.getElem?_eq_some_iff.mp h).1
      rw [List.getElem?_set_self hl] at e1
      cases e1
      exact q
    · rw [List.getElem?_set_ne (Ne.symm hk)] at e1
      have ro := r.ob k mo' b e1 e2
      refine ro.grow (Grow.write ha) r ?_
      show upd C.H a o b = C.H b
      refine upd_ne fun z => hk ?_
      subst z
      exact (List.getElem_inj r.nd).mp ((List.getElem?_eq_some_iff.mp e2).2.trans (List.getElem?_eq_some_iff.mp h).2.symm) |> fun e => by exact e
inductive R (α : Type) where
  | ok (a : α) (S : Sto)
  | exc (c : Str) (d : MV) (S : Sto)
  | stk
def R.bind {α β : Type} (r : R α) (f : α → Sto → R β) : R β := match r with
  | .ok a S => f a S
  | .exc c d S => .exc c d S
  | .stk => .stk
@[simp] theorem R.bind_ok {α β : Type} (a : α) (S : Sto) (f : α → Sto → R β) : (R.ok a S).bind f = f a S := rfl
@[simp] theorem R.bind_exc {α β : Type} (c : Str) (d : MV) (S : Sto) (f : α → Sto → R β) : (R.exc c d S : R α).bind f = .exc c d S := rfl
@[simp] theorem R.bind_stk {α β : Type} (f : α → Sto → R β) : (R.stk : R α).bind f = .stk := rfl
/-- an own exception: its class, and its one field's value (or none) -/
def ExcR (C : RC) (c : Str) (d : MV) (cls : Value) (dx : Option Addr) : Prop :=
  cls = .ref (He.ga C.K c) ∧ ((d = .non ∧ dx = none) ∨ ∃ a f d' v, d = .obj c [f] [d'] ∧ dx = some a ∧ C.H a = some (.xd [(f, v)]) ∧ RepV C d' v)
theorem ExcR.ext {b : Nat} {C C' : RC} {S : Sto} {c : Str} {d : MV} {cls : Value} {dx : Option Addr} (h : ExcR C c d cls dx) (x : Ext b C C') (r : RepS C S) (hb : refsB b d = true) : ExcR C' c d cls dx := by
  refine ⟨by rw [x.K]; exact h.1, ?_⟩
  rcases h.2 with h | ⟨a, f, d', v, ed, e, q, t⟩
  · exact .inl h
  · refine .inr ⟨a, f, d', v, ed, e, (x.kp _ _ (fun m => ?_) q).exact (.inl fun _ z => by cases z), RepV.ext x r d' v (by subst ed; simpa [refsB, refsBs] using hb) t⟩
    obtain ⟨u, hu, _, _, _, k⟩ := r.kind m
    rw [q] at hu; cases hu
    exact k _ rfl
/-- what is wanted of a result -/
def Wants {α : Type} (W : WX) (σ : L2.St) (C : RC) (r : R α) (Q : α → Sto → RC → Prop) : Prop := match r with
  | .ok a S => ∀ C', Grow C C' → RepS C' S → Q a S C'
  | .exc c d S => ∀ C' cls dx, Grow C C' → RepS C' S → ExcR C' c d cls dx → W cls dx σ C'.H
  | .stk => False
theorem Wants.bind {α β : Type} {W : WX} {σ : L2.St} {C : RC} {r : R α} {f : α → Sto → R β} {Q : β → Sto → RC → Prop} (h : Wants W σ C (r.bind f) Q) :
    Wants W σ C r (fun a S1 C1 => Wants W σ C1 (f a S1) Q ∧ Grow C C1) := by
  cases r with
  | ok a S =>
    intro C1 g r1
    refine ⟨?_, g⟩
    have h : Wants W σ C (f a S) Q := h
    revert h
    cases f a S with
    | ok b S2 => exact fun h C2 g2 r2 => h C2 (g.trans g2) r2
    | exc c d S2 => exact fun h C2 cls dx g2 r2 e => h C2 cls dx (g.trans g2) r2 e
    | stk => exact fun h => h
  | exc c d S => exact h
  | stk => exact h
theorem Wants.mono {α : Type} {W : WX} {σ : L2.St} {C : RC} {r : R α} {Q Q' : α → Sto → RC → Prop} (h : Wants W σ C r Q) (k : ∀ a S C', Grow C C' → RepS C' S → r = .ok a S → Q a S C' → Q' a S C') : Wants W σ C r Q' := by
  cases r with
  | ok a S => exact fun C' g r => k a S C' g r rfl (h C' g r)
  | exc c d S => exact h
  | stk => exact h
/-- the state of a walk: data for the slots, the store -/
structure Sv (X : Cx) (ρ : Ev) (σ : L2.St) (S : Sto) (C : RC) : Prop where
  w : C.w = X.w
  K : C.K = X.K
  rs : RepS C S
  ev : EnvR C ρ σ
  ln : ρ.length = σ.length
theorem Sv.grow {X : Cx} {ρ : Ev} {σ : L2.St} {S S' : Sto} {C C' : RC} (s : Sv X ρ σ S C) (g : Grow C C') (r : RepS C' S') : Sv X ρ σ S' C' :=
  ⟨g.w.trans s.w, g.K.trans s.K, r, s.ev.grow g s.rs, s.ln⟩
/-- readings: of an expression's value, a test, an argument list -/
def tE (X : Cx) (W : WX) (m : Ev → Sto → R MV) : TE := fun σ H Q => ∃ C ρ S, C.H = H ∧ Sv X ρ σ S C ∧ Wants W σ C (m ρ S) (fun d _ C' => ∀ v, RepV C' d v → Q v C'.H)
def tT (X : Cx) (W : WX) (m : Ev → Sto → R Bool) : TT := fun σ H Q => ∃ C ρ S, C.H = H ∧ Sv X ρ σ S C ∧ Wants W σ C (m ρ S) (fun b _ C' => Q b C'.H)
def tA (X : Cx) (W : WX) (m : Ev → Sto → R (List MV)) : TA := fun σ H Q => ∃ C ρ S, C.H = H ∧ Sv X ρ σ S C ∧ Wants W σ C (m ρ S) (fun ds _ C' => ∀ vs, RepVs C' ds vs → Q vs C'.H)
theorem _root_.L2.PE.imp {X : Cx} {e : Expr} {t t' : TE} (h : PE X e t) (k : ∀ σ H Q, t' σ H Q → t σ H Q) : PE X e t' := ⟨fun pins s σ H Q I q => h.run pins s σ H Q I (k σ H Q q)⟩
theorem _root_.L2.PT.imp {X : Cx} {e : Expr} {t t' : TT} (h : PT X e t) (k : ∀ σ H Q, t' σ H Q → t σ H Q) : PT X e t' := ⟨fun pins s σ H Q I q => h.run pins s σ H Q I (k σ H Q q)⟩
theorem _root_.L2.PW.imp {X : Cx} {e : Expr} {t t' : TT} (h : PW X e t) (k : ∀ σ H Q, t' σ H Q → t σ H Q) : PW X e t' := ⟨fun wh pins s σ H Q I q => h.run wh pins s σ H Q I (k σ H Q q)⟩
theorem _root_.L2.PA.imp {X : Cx} {es : List Expr} {t t' : TA} (h : PA X es t) (k : ∀ σ H Q, t' σ H Q → t σ H Q) : PA X es t' := ⟨fun pos pins s σ H Q I q => h.run pos pins s σ H Q I (k σ H Q q)⟩
theorem _root_.L2.PS.imp {X : Cx} {st : Stmt} {t t' : TS} (h : PS X st t) (k : ∀ D σ H, t' D σ H → t D σ H) : PS X st t' := ⟨fun pins s σ H D I q => h.run pins s σ H D I (k D σ H q)⟩
theorem _root_.L2.PSs.imp {X : Cx} {st : List Stmt} {t t' : TS} (h : PSs X st t) (k : ∀ D σ H, t' D σ H → t D σ H) : PSs X st t' := ⟨fun pins s σ H D I q => h.run pins s σ H D I (k D σ H q)⟩
/-- the step of a bind: behind the first part -/
theorem tE.bind {X : Cx} {W : WX} {m : Ev → Sto → R MV} {β : Type} {f : MV → Sto → R β} {σ : L2.St} {C : RC} {ρ : Ev} {S : Sto} {Q : β → Sto → RC → Prop} {Q1 : VK} (s : Sv X ρ σ S C) (h : Wants W σ C ((m ρ S).bind f) Q)
    (k : ∀ d S1 C1 v, Sv X ρ σ S1 C1 → Grow C C1 → RepV C1 d v → Wants W σ C1 (f d S1) Q → Q1 v C1.H) : tE X W m σ C.H Q1 :=
  ⟨C, ρ, S, rfl, s, h.bind.mono fun d S1 C1 g r _ q v hv => k d S1 C1 v (s.grow g r) g hv q.1⟩
theorem tT.bind {X : Cx} {W : WX} {m : Ev → Sto → R Bool} {β : Type} {f : Bool → Sto → R β} {σ : L2.St} {C : RC} {ρ : Ev} {S : Sto} {Q : β → Sto → RC → Prop} {Q1 : Bool → Hp → Prop} (s : Sv X ρ σ S C) (h : Wants W σ C ((m ρ S).bind f) Q)
    (k : ∀ b S1 C1, Sv X ρ σ S1 C1 → Grow C C1 → Wants W σ C1 (f b S1) Q → Q1 b C1.H) : tT X W m σ C.H Q1 :=
  ⟨C, ρ, S, rfl, s, h.bind.mono fun d S1 C1 g r _ q => k d S1 C1 (s.grow g r) g q.1⟩
theorem tA.bind {X : Cx} {W : WX} {m : Ev → Sto → R (List MV)} {β : Type} {f : List MV → Sto → R β} {σ : L2.St} {C : RC} {ρ : Ev} {S : Sto} {Q : β → Sto → RC → Prop} {Q1 : List V → Hp → Prop} (s : Sv X ρ σ S C) (h : Wants W σ C ((m ρ S).bind f) Q)
    (k : ∀ ds S1 C1 vs, Sv X ρ σ S1 C1 → Grow C C1 → RepVs C1 ds vs → Wants W σ C1 (f ds S1) Q → Q1 vs C1.H) : tA X W m σ C.H Q1 :=
  ⟨C, ρ, S, rfl, s, h.bind.mono fun d S1 C1 g r _ q vs hv => k d S1 C1 vs (s.grow g r) g hv q.1⟩
/-- a value told at once -/
theorem Wants.here {α : Type} {W : WX} {σ : L2.St} {C C' : RC} {a : α} {S' : Sto} {Q : α → Sto → RC → Prop} (h : Wants W σ C (.ok a S') Q) (g : Grow C C') (r : RepS C' S') : Q a S' C' := h C' g r
theorem Wants.now {α : Type} {W : WX} {σ : L2.St} {C : RC} {a : α} {S : Sto} {Q : α → Sto → RC → Prop} (h : Wants W σ C (.ok a S) Q) (r : RepS C S) : Q a S C := h C Grow.refl r
end Mi
set_option Elab.async false
set_option linter.all false
set_option maxRecDepth 100000
set_option maxHeartbeats 2000000
namespace Mi
open PySem PySem.Spec PyProof.Rows L2
def lstOf (S : Sto) : MV → Option (List MV)
  | .lst xs => some xs
  | .ref n => match S[n]? with
    | some (.lst xs) => some xs
    | _ => none
  | _ => none
def seqOf (S : Sto) : MV → Option (List MV)
  | .tup xs => some xs
  | .kls xs => some xs
  | d => lstOf S d
theorem lstOf_rep {C : RC} {S : Sto} {d : MV} {v : V} {xs : List MV} (r : RepS C S) (h : RepV C d v) (e : lstOf S d = some xs) : ∃ a vs, v = .ref a ∧ C.H a = some (.lst vs) ∧ RepVs C xs vs := by
  cases d with
  | lst ys =>
    rw [lstOf] at e; cases e
    rw [RepV] at h
    obtain ⟨a, vs, e, _, q, t⟩ := h
    exact ⟨a, vs, e, q, t⟩
  | ref n =>
    rw [RepV] at h
    obtain ⟨a, e1, e2⟩ := h
    rw [lstOf] at e
    cases q : S[n]? with
    | none => simp [q] at e
    | some o =>
      rw [q] at e
      cases o with
      | lst ys =>
        cases e
        obtain ⟨vs, h1, h2⟩ := r.ob n _ a q e2
        exact ⟨a, vs, e1, h1, h2⟩
      | _ => cases e
  | _ => cases e
theorem seqOf_rep {C : RC} {S : Sto} {d : MV} {v : V} {xs : List MV} (r : RepS C S) (h : RepV C d v) (e : seqOf S d = some xs) : ∃ a vs, v = .ref a ∧ (SqL C.K C.H a vs ∨ SqT C.K C.H a vs) ∧ RepVs C xs vs := by
  cases d with
  | tup ys =>
    rw [seqOf] at e; cases e
    rw [RepV] at h
    obtain ⟨a, vs, e, q, t⟩ := h
    exact ⟨a, vs, e, .inr q, t⟩
  | kls ys =>
    rw [seqOf] at e; cases e
    rw [RepV] at h
    obtain ⟨a, vs, e, q, t⟩ := h
    refine ⟨a, vs, e, .inl ?_, t⟩
    rcases q with ⟨o, q⟩ | q
    · exact .inl (.inr ⟨o, q⟩)
    · exact q.sq _
  | lst ys => obtain ⟨a, vs, e, q, t⟩ := lstOf_rep r h e; exact ⟨a, vs, e, .inl (.of q), t⟩
  | ref n => obtain ⟨a, vs, e, q, t⟩ := lstOf_rep r h e; exact ⟨a, vs, e, .inl (.of q), t⟩
  | _ => cases e
/-- a value op's reading -/
def rOf (X : Cx) (f : MV → MV → Sto → R MV) : R2 := fun x y H Q => ∃ C S d1 d2, C.H = H ∧ C.w = X.w ∧ C.K = X.K ∧ RepS C S ∧ RepV C d1 x ∧ RepV C d2 y ∧
  ∃ a S', f d1 d2 S = .ok a S' ∧ ∀ C', Grow C C' → RepS C' S' → ∀ v, RepV C' a v → Q v C'.H
theorem vInt {C : RC} {i : Int} {v : V} (h : RepV C (.int i) v) : v = .int i := by rw [RepV] at h; exact h
theorem vBl {C : RC} {i : Bool} {v : V} (h : RepV C (.bl i) v) : v = .bl i := by rw [RepV] at h; exact h
theorem vStr {C : RC} {i : Str} {v : V} (h : RepV C (.str i) v) : v = .str i := by rw [RepV] at h; exact h
theorem vNon {C : RC} {v : V} (h : RepV C .non v) : v = .non := by rw [RepV] at h; exact h
theorem repI {C : RC} (i : Int) : RepV C (.int i) (.int i) := by rw [RepV]
theorem repB {C : RC} (i : Bool) : RepV C (.bl i) (.bl i) := by rw [RepV]
theorem repS {C : RC} (i : Str) : RepV C (.str i) (.str i) := by rw [RepV]
theorem repN {C : RC} : RepV C .non .non := by rw [RepV]
theorem repTup {C : RC} {p : Addr} {ds : List MV} {vs : List V} (h : C.H p = some (.tup vs)) (t : RepVs C ds vs) : RepV C (.tup ds) (.ref p) := by
  rw [RepV]; exact ⟨p, vs, rfl, .of h, t⟩
theorem repLst {C : RC} {p : Addr} {ds : List MV} {vs : List V} (n : Froz C p) (h : C.H p = some (.lst vs)) (t : RepVs C ds vs) : RepV C (.lst ds) (.ref p) := by
  rw [RepV]; exact ⟨p, vs, rfl, n, h, t⟩
/-- a new tuple, a new frozen list -/
theorem newTup {C : RC} {S : Sto} {Q : VK} {ds : List MV} {vs : List V} (r : RepS C S) (t : RepVs C ds vs) (q : ∀ C', Grow C C' → RepS C' S → ∀ v, RepV C' (.tup ds) v → Q v C'.H) : ∀ p, C.H p = none → Q (.ref p) (upd C.H p (.tup vs)) := fun p hp =>
  q (C.put p (.tup vs)) (Grow.put hp) (r.put hp) (.ref p) (repTup put_same (t.grow (Grow.put hp) r))
theorem newLst {C : RC} {S : Sto} {Q : VK} {ds : List MV} {vs : List V} (r : RepS C S) (t : RepVs C ds vs) (q : ∀ C', Grow C C' → RepS C' S → ∀ v, RepV C' (.lst ds) v → Q v C'.H) : ∀ p, C.H p = none → Q (.ref p) (upd C.H p (.lst vs)) := fun p hp =>
  q (C.put p (.lst vs)) (Grow.put hp) (r.put hp) (.ref p) (repLst (.put r hp) put_same (t.grow (Grow.put hp) r))
/-- a new list cell -/
theorem newCell {C : RC} {S : Sto} {Q : VK} {ds : List MV} {vs : List V} (r : RepS C S) (t : RepVs C ds vs) (q : ∀ C', Grow C C' → RepS C' (S ++ [.lst ds]) → ∀ v, RepV C' (.ref S.length) v → Q v C'.H) : ∀ p, C.H p = none → Q (.ref p) (upd C.H p (.lst vs)) := fun p hp =>
  q (C.cell p (.lst vs)) (Grow.cell hp) (r.cell hp ⟨vs, cell_same, t.grow (Grow.cell hp) r⟩) (.ref p) (cell_ref r)
def addL (a b : MV) (S : Sto) : R MV := match lstOf S a, lstOf S b with
  | some xs, some ys => if xs.length + ys.length ≤ sizeLine then .ok (.lst (xs ++ ys)) S else .stk
  | _, _ => .stk
def addM : MV → MV → Sto → R MV
  | .int i, .int j, S => .ok (.int (i + j)) S
  | .str x, .str y, S => if x.length + y.length ≤ sizeLine then .ok (.str (x ++ y)) S else .stk
  | .tup xs, .tup ys, S => if xs.length + ys.length ≤ sizeLine then .ok (.tup (xs ++ ys)) S else .stk
  | a, b, S => addL a b S
theorem addL_of {a b : MV} {S S' : Sto} {d : MV} (h : addL a b S = .ok d S') : ∃ xs ys, lstOf S a = some xs ∧ lstOf S b = some ys ∧ xs.length + ys.length ≤ sizeLine ∧ d = .lst (xs ++ ys) ∧ S' = S := by
  unfold addL at h
  cases ha : lstOf S a with
  | none => rw [ha] at h; cases h
  | some xs =>
    cases hb : lstOf S b with
    | none => rw [ha, hb] at h; cases h
    | some ys =>
      rw [ha, hb] at h
      dsimp only at h
      by_cases hl : xs.length + ys.length ≤ sizeLine
      · rw [if_pos hl] at h; cases h; exact ⟨xs, ys, rfl, rfl, hl, rfl, rfl⟩
      · rw [if_neg hl] at h; cases h
theorem addM_cases {a b : MV} {S S' : Sto} {d : MV} (h : addM a b S = .ok d S') : (∃ i j, a = .int i ∧ b = .int j) ∨ (∃ x y, a = .str x ∧ b = .str y) ∨ (∃ x y, a = .tup x ∧ b = .tup y) ∨ addL a b S = .ok d S' := by
  unfold addM at h
  split at h
  · exact .inl ⟨_, _, rfl, rfl⟩
  · exact .inr (.inl ⟨_, _, rfl, rfl⟩)
  · exact .inr (.inr (.inl ⟨_, _, rfl, rfl⟩))
  · exact .inr (.inr (.inr h))
section
variable {X : Cx}
theorem opM_add : OpR X (binaryOp .Add) (rOf X addM) := by
  intro pins s σ H x y v u Q I rx ry rof
  obtain ⟨C, S, d1, d2, rfl, hw, hK, r, h1, h2, a, S', e, q⟩ := rof
  rcases addM_cases e with ⟨i, j, rfl, rfl⟩ | ⟨i, j, rfl, rfl⟩ | ⟨xs, ys, rfl, rfl⟩ | e
  · cases vInt h1; cases vInt h2
    cases e
    exact op_add pins s σ C.H _ _ v u Q I rx ry ⟨i, j, rfl, rfl, q C Grow.refl r _ (repI _)⟩
  · cases vStr h1; cases vStr h2
    simp only [addM] at e
    split at e
    · cases e
      exact op_add_str pins s σ C.H _ _ v u Q I rx ry ⟨i, j, rfl, rfl, by assumption, q C Grow.refl r _ (repS _)⟩
    · cases e
  · rw [RepV] at h1 h2
    obtain ⟨p1, vs1, rfl, q1, t1⟩ := h1
    obtain ⟨p2, vs2, rfl, q2, t2⟩ := h2
    simp only [addM] at e
    split at e
    · rename_i hl
      cases e
      rw [hK] at q1 q2
      have l1 := t1.length
      have l2 := t2.length
      refine op_catA pins s σ C.H _ _ v u Q I rx ry ⟨p1, p2, vs1, vs2, rfl, rfl, q1, q2, by omega, fun z => ?_, fun z1 z2 => ?_, fun z1 z2 => ?_⟩
      · subst z
        have : xs = [] := List.eq_nil_of_length_eq_zero (by simpa using l1)
        subst this
        exact q C Grow.refl r _ (by rw [RepV]; exact ⟨p2, vs2, rfl, by rw [hK]; exact q2, t2⟩)
      · subst z2
        have : ys = [] := List.eq_nil_of_length_eq_zero (by simpa using l2)
        subst this
        exact q C Grow.refl r _ (by rw [RepV]; exact ⟨p1, vs1, rfl, by rw [hK]; exact q1, by simpa using t1⟩)
      · exact newTup r (t1.append t2) q
    · cases e
  · obtain ⟨xs, ys, ha, hb, hl, rfl, rfl⟩ := addL_of e
    obtain ⟨p1, vs1, rfl, q1, t1⟩ := lstOf_rep r h1 ha
    obtain ⟨p2, vs2, rfl, q2, t2⟩ := lstOf_rep r h2 hb
    have l1 := t1.length
    have l2 := t2.length
    exact op_cat pins s σ C.H _ _ v u Q I rx ry ⟨p1, p2, vs1, vs2, rfl, rfl, q1, q2, by omega, newLst r (t1.append t2) q⟩
def subM : MV → MV → Sto → R MV
  | .int i, .int j, S => .ok (.int (i - j)) S
  | _, _, _ => .stk
theorem opM_sub : OpR X (binaryOp .Sub) (rOf X subM) := by
  intro pins s σ H x y v u Q I rx ry rof
  obtain ⟨C, S, d1, d2, rfl, hw, hK, r, h1, h2, a, S', e, q⟩ := rof
  unfold subM at e
  split at e
  · cases vInt h1; cases vInt h2; cases e
    exact op_sub pins s σ C.H _ _ v u Q I rx ry ⟨_, _, rfl, rfl, q C Grow.refl r _ (repI _)⟩
  · cases e
def modM : MV → MV → Sto → R MV
  | .int i, .int j, S => if 0 < j then .ok (.int (i % j)) S else .stk
  | _, _, _ => .stk
theorem opM_mod : OpR X (binaryOp .Mod) (rOf X modM) := by
  intro pins s σ H x y v u Q I rx ry rof
  obtain ⟨C, S, d1, d2, rfl, hw, hK, r, h1, h2, a, S', e, q⟩ := rof
  unfold modM at e
  split at e
  · split at e
    · cases vInt h1; cases vInt h2; cases e
      exact op_mod pins s σ C.H _ _ v u Q I rx ry ⟨_, _, rfl, rfl, by assumption, q C Grow.refl r _ (repI _)⟩
    · cases e
  · cases e
def fdivM : MV → MV → Sto → R MV
  | .int i, .int j, S => if 0 < j ∧ j < 1073741824 then .ok (.int (i / j)) S else .stk
  | _, _, _ => .stk
theorem opM_fdiv : OpR X (binaryOp .FloorDiv) (rOf X fdivM) := by
  intro pins s σ H x y v u Q I rx ry rof
  obtain ⟨C, S, d1, d2, rfl, hw, hK, r, h1, h2, a, S', e, q⟩ := rof
  unfold fdivM at e
  split at e
  · split at e
    · cases vInt h1; cases vInt h2; cases e
      exact op_fdiv pins s σ C.H _ _ v u Q I rx ry ⟨_, _, rfl, rfl, by assumption, q C Grow.refl r _ (repI _)⟩
    · cases e
  · cases e
def powM : MV → MV → Sto → R MV
  | .int i, .int j, S => if 0 ≤ j ∧ j ≤ 1000 ∧ i.natAbs < 1000 then .ok (.int (i ^ j.toNat)) S else .stk
  | _, _, _ => .stk
theorem opM_pow : OpR X (binaryOp .Pow) (rOf X powM) := by
  intro pins s σ H x y v u Q I rx ry rof
  obtain ⟨C, S, d1, d2, rfl, hw, hK, r, h1, h2, a, S', e, q⟩ := rof
  unfold powM at e
  split at e
  · split at e
    · cases vInt h1; cases vInt h2; cases e
      refine op_pow pins s σ C.H _ _ v u Q I rx ry ⟨_, _, rfl, rfl, ⟨by omega, by omega, ?_⟩, q C Grow.refl r _ (repI _)⟩
      exact Nat.lt_trans (by omega : _ < 1000) (by decide)
    · cases e
  · cases e
/-- t * 1 is t -/
theorem tuple_mul1 (l : Addr) (items : Array Value) (n : Nat) (dd : Option Addr) (sl : Array (Option Value)) (u : Tok) :
    Meets (Builtin.«tuple.__mul__» ⟨[.ref l, .int 1 u], []⟩) (fun _ R s => s.heap.get? l = some { cls := .type "tuple", dict := dd, data := .seq items n, slots := sl } ∧
      R (.ok (.ret (Value.ref l))) s) :=
  .of_wp fun prog w A R st hyp => by
    obtain ⟨hp, gs, dr, tk, os⟩ := st
    obtain ⟨hl, h⟩ := hyp
    have f1 := AutoSeq1.idx_int
    wp_walk using AutoSeq1.wpAny_loadPart' hl
    repeat (first
      | (refine wpAny_ite_true (by simp) ?_; wp_walk using AutoSeq1.wpAny_loadPart' hl)
      | (refine wpAny_ite_false (by simp) ?_; wp_walk using AutoSeq1.wpAny_loadPart' hl))
    exact ⟨_, rfl, h⟩
end
end Mi
set_option Elab.async false
set_option linter.all false
set_option maxRecDepth 100000
set_option maxHeartbeats 2000000
namespace Mi
open PySem PySem.Spec PyProof.Rows L2
def repM (xs : List MV) (k : Int) : List MV := (List.replicate k.toNat xs).flatten
def mulM : MV → MV → Sto → R MV
  | .int i, .int j, S => if -(2 ^ 64) < j ∧ j < 2 ^ 64 then .ok (.int (i * j)) S else .stk
  | .tup xs, .int k, S => if xs.isEmpty = false ∧ 1 ≤ k ∧ k ≤ 1000 ∧ xs.length ≤ 1000 then .ok (.tup (repM xs k)) S else .stk
  | d, .int k, S => match lstOf S d with
    | some xs => if 0 ≤ k ∧ k ≤ 1000 ∧ xs.length ≤ 1000 then .ok (.lst (repM xs k)) S else .stk
    | none => .stk
  | _, _, _ => .stk
section
variable {X : Cx}
theorem op_rep1 {pins : List (Addr × Obj)} {s : Shared} {σ : L2.St} {H : Hp} {v u : Value} {Q : VK} {l : Addr} {xs : List V} (I : Inv X pins σ H s) (rx : RelV (.ref l) v) (ry : RelV (.int 1) u) (hT : SqT X.K H l xs) (q : Q (.ref l) H) :
    wpAny (model X.prog X.w) X.A (binaryOp .Mult v u) (EP X pins σ Q) X.xe s := by
  cases rx
  obtain ⟨t, rfl⟩ := ry
  obtain ⟨its, r, ⟨ot, ho, hc, n, hd⟩, hs⟩ := I.tuple hT
  obtain ⟨cls, dd, data, sl⟩ := ot
  simp only at hc hd
  subst hc hd
  exact wpAny_binaryOp_repeat_ref (T := "tuple") (U := "int") (by decide) ⟨_, ho, rfl⟩ (fun s' => typeIs_int s' 1 t) noFill_tuple_mul F.fills_int_mul F.slot_int_rmul repeat_tuple F.slot_int_index.lookup
    (call_meets F.slot_int_rmul (typeIs_int s 1 t) F.entry_int_rmul (F.args_int_rmul_2 _ _) (int_rmul_tuple 1 t l its.toArray n dd sl)
      ⟨ho, rfl, ⟨_, ho, rfl⟩, call_meets F.slot_tuple_mul ⟨_, ho, rfl⟩ F.entry_tuple_mul (F.args_tuple_mul_2 _ _) (tuple_mul1 l its.toArray n dd sl t) ⟨ho, ⟨.ref l, H, I, rfl, q⟩⟩⟩)
theorem repM_one (xs : List MV) : repM xs 1 = xs := by simp [repM]
theorem opM_mul : OpR X (binaryOp .Mult) (rOf X mulM) := by
  intro pins s σ H x y v u Q I rx ry rof
  obtain ⟨C, S, d1, d2, rfl, hw, hK, r, h1, h2, a, S', e, q⟩ := rof
  unfold mulM at e
  split at e
  · split at e
    · cases vInt h1; cases vInt h2; cases e
      exact op_mul pins s σ C.H _ _ v u Q I rx ry ⟨_, _, rfl, rfl, .inr (by assumption), q C Grow.refl r _ (repI _)⟩
    · cases e
  · rename_i xs k
    split at e
    · rename_i hc
      cases e
      cases vInt h2
      obtain ⟨hne, hk1, hk2, hl⟩ := hc
      have h0 := h1
      rw [RepV] at h1
      obtain ⟨p1, vs1, rfl, q1, t1⟩ := h1
      rw [hK] at q1
      have l1 := t1.length
      by_cases hk : k = 1
      · subst hk
        rw [repM_one] at q
        exact op_rep1 I rx ry q1 (q C Grow.refl r _ h0)
      · refine op_repT pins s σ C.H _ _ v u Q I rx ry ⟨p1, k, vs1, rfl, rfl, q1, ?_, by omega, hk2, by omega, newTup r (t1.flatRep k.toNat) q⟩
        intro z; subst z
        have : xs = [] := List.eq_nil_of_length_eq_zero (by simpa using l1)
        subst this; simp at hne
    · cases e
  · rename_i k _ _
    cases ha : lstOf S d1 with
    | none => rw [ha] at e; cases e
    | some xs =>
      rw [ha] at e
      dsimp only at e
      split at e
      · rename_i hc
        obtain ⟨hk1, hk2, hl⟩ := hc
        cases e
        cases vInt h2
        obtain ⟨p1, vs1, rfl, q1, t1⟩ := lstOf_rep r h1 ha
        have l1 := t1.length
        refine op_rep pins s σ C.H _ _ v u Q I rx ry ⟨p1, k, vs1, rfl, rfl, q1, by omega, by omega, ?_, newLst r (t1.flatRep k.toNat) q⟩
        rw [sizeLine_eq]
        have := Nat.mul_le_mul (show vs1.length ≤ 1000 by omega) (show k.toNat ≤ 1000 by omega)
        omega
      · cases e
  · cases e
end
def pdF : Nat → Sto → MV → PyData
  | 0, _, _ => .dict []
  | _ + 1, _, .non => .none
  | _ + 1, _, .bl b => .bool b
  | _ + 1, _, .int i => .int i
  | _ + 1, _, .str x => .str x
  | n + 1, S, .tup xs => .tuple (xs.map (pdF n S))
  | n + 1, S, .lst xs => .list (xs.map (pdF n S))
  | n + 1, S, .ref k => match S[k]? with
    | some (.lst xs) => .list (xs.map (pdF n S))
    | _ => .dict []
  | _ + 1, _, _ => .dict []
theorem pdF_dp {C : RC} {S : Sto} (r : RepS C S) : ∀ (n : Nat) (d : MV) (v : V), RepV C d v → (pdF n S d).canLay0 = true → Dp C.K C.H v (pdF n S d) := by
  intro n
  induction n with
  | zero => intro d v _ h; simp [pdF, PyData.canLay0] at h
  | succ n ih =>
    have all : ∀ (xs : List MV) (vs : List V), RepVs C xs vs → PyData.canLayAll0 (xs.map (pdF n S)) = true → DpAll C.K C.H vs (xs.map (pdF n S)) := by
      intro xs
      induction xs with
      | nil => intro vs h _; rw [h.nil_inv]; exact .nil
      | cons x xs ihx =>
        intro vs h c
        obtain ⟨v, vr, rfl, h1, h2⟩ := h.cons_inv
        rw [List.map_cons] at c ⊢
        have c' : (pdF n S x).canLay0 = true ∧ PyData.canLayAll0 (xs.map (pdF n S)) = true := by simpa [PyData.canLayAll0] using c
        exact .cons (ih x v h1 c'.1) (ihx vr h2 c'.2)
    intro d v h c
    cases d with
    | non => rw [vNon h]; exact .non
    | bl b => rw [vBl h]; exact .bl b
    | int i => rw [vInt h]; exact .int i
    | str x => rw [vStr h]; exact .str x
    | tup xs =>
      rw [RepV] at h
      obtain ⟨a, vs, rfl, q, t⟩ := h
      exact .tup q (all xs vs t (by simpa [pdF, PyData.canLay0] using c))
    | lst xs =>
      rw [RepV] at h
      obtain ⟨a, vs, rfl, _, q, t⟩ := h
      exact .lst (.of q) (all xs vs t (by simpa [pdF, PyData.canLay0] using c))
    | ref k =>
      rw [RepV] at h
      obtain ⟨a, rfl, q⟩ := h
      rw [pdF] at c ⊢
      cases e : S[k]? with
      | none => rw [e] at c; simp [PyData.canLay0] at c
      | some o =>
        rw [e] at c
        cases o with
        | lst xs =>
          obtain ⟨vs, h1, h2⟩ := r.ob k _ a e q
          exact .lst (.of h1) (all xs vs h2 (by simpa [PyData.canLay0] using c))
        | _ => simp [PyData.canLay0] at c
    | _ => simp [pdF, PyData.canLay0] at c
/-- the scalars that == tells apart at once -/
def skind : MV → Nat
  | .non => 0 | .bl _ => 1 | .int _ => 2 | .str _ => 4
  | _ => 100
@[simp] theorem sk_non : skind .non = 0 := rfl
@[simp] theorem sk_bl {b : Bool} : skind (.bl b) = 1 := rfl
@[simp] theorem sk_int {i : Int} : skind (.int i) = 2 := rfl
@[simp] theorem sk_str {x : Str} : skind (.str x) = 4 := rfl
@[simp] theorem sk_tup {x : List MV} : skind (.tup x) = 100 := rfl
@[simp] theorem sk_lst {x : List MV} : skind (.lst x) = 100 := rfl
@[simp] theorem sk_kls {x : List MV} : skind (.kls x) = 100 := rfl
@[simp] theorem sk_ref {n : Nat} : skind (.ref n) = 100 := rfl
@[simp] theorem sk_obj {c : Str} {f : List Str} {x : List MV} : skind (.obj c f x) = 100 := rfl
@[simp] theorem sk_dct {k : List Key} {x : List MV} : skind (.dct k x) = 100 := rfl
@[simp] theorem sk_dcT {k x : List MV} : skind (.dcT k x) = 100 := rfl
/-- all pairs of scalars but a bool beside an int -/
def scalM (a b : MV) : Bool := let n := skind a + skind b; Nat.blt n 10 && !(n == 3)
def seqM : MV → MV → Bool
  | .non, .non => true
  | .int i, .int j => decide (i = j)
  | .bl i, .bl j => decide (i = j)
  | .str i, .str j => decide (i = j)
  | _, _ => false
def eqB (S : Sto) (a b : MV) : Option Bool :=
  if scalM a b then some (seqM a b)
  else if SeqAt.shaped (pdF 8 S a) && SeqAt.shaped (pdF 8 S b) then some (PyData.eqv (pdF 8 S a) (pdF 8 S b)) else none
def eqM (a b : MV) (S : Sto) : R MV := match eqB S a b with
  | some k => .ok (.bl k) S
  | none => .stk
def neM (a b : MV) (S : Sto) : R MV := match eqB S a b with
  | some k => .ok (.bl (!k)) S
  | none => .stk
theorem scal_rep {C : RC} {a b : MV} {x y : V} (h : scalM a b = true) (ha : RepV C a x) (hb : RepV C b y) : scal x y = true ∧ seqM a b = decide (x = y) := by
  cases a <;> cases b <;> first
    | (simp [scalM, skind, Nat.blt] at h; done)
    | (first
        | rw [vNon ha] | rw [vBl ha] | rw [vInt ha] | rw [vStr ha]
       first
        | rw [vNon hb] | rw [vBl hb] | rw [vInt hb] | rw [vStr hb]
       refine ⟨rfl, ?_⟩
       simp [seqM])
section
variable {X : Cx}
theorem opM_eq (hu : X.A.units + 64 < cLine) : OpR X (compareOp .Eq) (rOf X eqM) := by
  intro pins s σ H x y v u Q I rx ry rof
  obtain ⟨C, S, d1, d2, rfl, hw, hK, r, h1, h2, a, S', e, q⟩ := rof
  unfold eqM at e
  cases eb : eqB S d1 d2 with
  | none => rw [eb] at e; cases e
  | some k =>
    rw [eb] at e; cases e
    unfold eqB at eb
    by_cases hs : scalM d1 d2 = true
    · rw [if_pos hs] at eb; cases eb
      obtain ⟨g1, g2⟩ := scal_rep hs h1 h2
      rw [g2] at q
      exact op_eq pins s σ C.H _ _ v u Q I rx ry ⟨g1, q C Grow.refl r _ (repB _)⟩
    · rw [if_neg hs] at eb
      split at eb
      · rename_i hh
        obtain ⟨z1, z2⟩ := Bool.and_eq_true_iff.mp hh
        cases eb
        refine op_eqD hu pins s σ C.H _ _ v u Q I rx ry ⟨_, _, by rw [← hK]; exact pdF_dp r 8 d1 x h1 (SeqAt.canLay_of_shaped z1), by rw [← hK]; exact pdF_dp r 8 d2 y h2 (SeqAt.canLay_of_shaped z2), z1, z2, q C Grow.refl r _ (repB _)⟩
      · cases eb
theorem opM_ne (hu : X.A.units + 64 < cLine) : OpR X (compareOp .NotEq) (rOf X neM) := by
  intro pins s σ H x y v u Q I rx ry rof
  obtain ⟨C, S, d1, d2, rfl, hw, hK, r, h1, h2, a, S', e, q⟩ := rof
  unfold neM at e
  cases eb : eqB S d1 d2 with
  | none => rw [eb] at e; cases e
  | some k =>
    rw [eb] at e; cases e
    unfold eqB at eb
    by_cases hs : scalM d1 d2 = true
    · rw [if_pos hs] at eb; cases eb
      obtain ⟨g1, g2⟩ := scal_rep hs h1 h2
      rw [g2] at q
      exact op_ne pins s σ C.H _ _ v u Q I rx ry ⟨g1, q C Grow.refl r _ (repB _)⟩
    · rw [if_neg hs] at eb
      split at eb
      · rename_i hh
        obtain ⟨z1, z2⟩ := Bool.and_eq_true_iff.mp hh
        cases eb
        refine op_neD hu pins s σ C.H _ _ v u Q I rx ry ⟨_, _, by rw [← hK]; exact pdF_dp r 8 d1 x h1 (SeqAt.canLay_of_shaped z1), by rw [← hK]; exact pdF_dp r 8 d2 y h2 (SeqAt.canLay_of_shaped z2), z1, z2, q C Grow.refl r _ (repB _)⟩
      · cases eb
/-- is None, is True .. -/
def isB : MV → MV → Option Bool
  | .bl a, .bl b => some (decide (a = b))
  | .non, .non => some true
  | .bl _, .non | .int _, .non | .str _, .non | .tup _, .non | .lst _, .non | .dct _ _, .non | .dcT _ _, .non | .obj _ _ _, .non | .ref _, .non => some false
  | .non, .bl _ => some false
  | _, _ => none
def isM (a b : MV) (S : Sto) : R MV := match isB a b with
  | some k => .ok (.bl k) S
  | none => .stk
def isnM (a b : MV) (S : Sto) : R MV := match isB a b with
  | some k => .ok (.bl (!k)) S
  | none => .stk
theorem isB_rep {C : RC} {a b : MV} {x y : V} {k : Bool} (h : isB a b = some k) (ha : RepV C a x) (hb : RepV C b y) : (y = .non ∧ k = decide (x = .non)) ∨ (∃ i j, x = .bl i ∧ y = .bl j ∧ k = decide (i = j)) ∨ ∃ j, x = .non ∧ y = .bl j ∧ k = false := by
  cases a <;> cases b <;> first
    | (simp [isB] at h; done)
    | (rw [vNon ha, vBl hb]; simp [isB] at h; exact .inr (.inr ⟨_, rfl, rfl, h⟩))
    | (rw [vBl ha, vBl hb]; simp [isB] at h; exact .inr (.inl ⟨_, _, rfl, rfl, h.symm⟩))
    | (refine .inl ⟨vNon hb, ?_⟩
       have h : some _ = some k := h
       cases h
       first
        | (rw [vNon ha]; simp; done)
        | (rw [vBl ha]; simp; done)
        | (rw [vInt ha]; simp; done)
        | (rw [vStr ha]; simp; done)
        | (rw [RepV] at ha
           obtain ⟨a, ha⟩ := ha
           first
            | (obtain ⟨vs, rfl, _⟩ := ha; simp; done)
            | (obtain ⟨rfl, _⟩ := ha; simp; done)
            | (obtain ⟨_, _, rfl, _⟩ := ha; simp; done)))
theorem opM_is : OpR X (compareOp .Is) (rOf X isM) := by
  intro pins s σ H x y v u Q I rx ry rof
  obtain ⟨C, S, d1, d2, rfl, hw, hK, r, h1, h2, a, S', e, q⟩ := rof
  unfold isM at e
  cases eb : isB d1 d2 with
  | none => rw [eb] at e; cases e
  | some k =>
    rw [eb] at e; cases e
    rcases isB_rep eb h1 h2 with ⟨rfl, rfl⟩ | ⟨i, j, rfl, rfl, rfl⟩ | ⟨j, rfl, rfl, rfl⟩
    · exact op_isN pins s σ C.H _ _ v u Q I rx ry ⟨rfl, q C Grow.refl r _ (repB _)⟩
    · exact op_isBl pins s σ C.H _ _ v u Q I rx ry ⟨i, j, rfl, rfl, q C Grow.refl r _ (repB _)⟩
    · cases rx; cases ry
      exact wpAny_is_other rfl (by intro z; cases z) ⟨.bl false, C.H, I, rfl, q C Grow.refl r _ (repB _)⟩
theorem opM_isn : OpR X (compareOp .IsNot) (rOf X isnM) := by
  intro pins s σ H x y v u Q I rx ry rof
  obtain ⟨C, S, d1, d2, rfl, hw, hK, r, h1, h2, a, S', e, q⟩ := rof
  unfold isnM at e
  cases eb : isB d1 d2 with
  | none => rw [eb] at e; cases e
  | some k =>
    rw [eb] at e; cases e
    rcases isB_rep eb h1 h2 with ⟨rfl, rfl⟩ | ⟨i, j, rfl, rfl, rfl⟩ | ⟨j, rfl, rfl, rfl⟩
    · exact op_notN pins s σ C.H _ _ v u Q I rx ry ⟨rfl, q C Grow.refl r _ (repB _)⟩
    · exact op_notBl pins s σ C.H _ _ v u Q I rx ry ⟨i, j, rfl, rfl, q C Grow.refl r _ (repB _)⟩
    · cases rx; cases ry
      exact wpAny_isNot_other rfl (by intro z; cases z) ⟨.bl true, C.H, I, rfl, q C Grow.refl r _ (repB _)⟩
/-- orders of ints -/
def cmpI (f : Int → Int → Bool) : MV → MV → Sto → R MV
  | .int i, .int j, S => .ok (.bl (f i j)) S
  | _, _, _ => .stk
theorem opM_int {op : CmpOp} {f : Int → Int → Bool} (ho : OpR X (compareOp op) (rI0 fun i j => .bl (f i j))) : OpR X (compareOp op) (rOf X (cmpI f)) := by
  intro pins s σ H x y v u Q I rx ry rof
  obtain ⟨C, S, d1, d2, rfl, hw, hK, r, h1, h2, a, S', e, q⟩ := rof
  unfold cmpI at e
  split at e
  · cases vInt h1; cases vInt h2; cases e
    exact ho pins s σ C.H _ _ v u Q I rx ry ⟨_, _, rfl, rfl, q C Grow.refl r _ (repB _)⟩
  · cases e
abbrev ltM := cmpI fun i j => decide (i < j)
abbrev leM := cmpI fun i j => decide (i ≤ j)
abbrev gtM := cmpI fun i j => decide (j < i)
abbrev geM := cmpI fun i j => decide (j ≤ i)
end
end Mi
set_option Elab.async false
set_option linter.all false
set_option maxRecDepth 100000
set_option maxHeartbeats 2000000
namespace Mi
open PySem PySem.Spec PyProof.Rows L2
def keyV : MV → Option Key
  | .int i => some (.inl i)
  | .str x => some (.inr x)
  | _ => none
theorem keyV_rep {C : RC} {d : MV} {v : V} {k : Key} (h : RepV C d v) (e : keyV d = some k) : v = kV k := by
  cases d with
  | int i => cases e; exact vInt h
  | str x => cases e; exact vStr h
  | _ => cases e
def dctOf (S : Sto) : MV → Option (List Key × List MV)
  | .dct ks vs => some (ks, vs)
  | .ref n => match S[n]? with
    | some (.dct ks vs) => some (ks, vs)
    | _ => none
  | _ => none
theorem dctOf_rep {C : RC} {S : Sto} {d : MV} {v : V} {ks : List Key} {ds : List MV} (r : RepS C S) (h : RepV C d v) (e : dctOf S d = some (ks, ds)) :
    ∃ a vs, v = .ref a ∧ Rd C.H a (.dK (ks.zip vs)) ∧ ks.length = vs.length ∧ ks.Nodup ∧ RepVs C ds vs := by
  cases d with
  | dct ks' ds' =>
    cases e
    rw [RepV] at h
    obtain ⟨a, vs, e, _, q, l, nd, t⟩ := h
    exact ⟨a, vs, e, q, l, nd, t⟩
  | ref n =>
    rw [RepV] at h
    obtain ⟨a, e1, e2⟩ := h
    rw [dctOf] at e
    cases q : S[n]? with
    | none => simp [q] at e
    | some o =>
      rw [q] at e
      cases o with
      | dct ks' ds' =>
        cases e
        obtain ⟨vs, h1, l, nd, h2⟩ := r.ob n _ a q e2
        exact ⟨a, vs, e1, .inl h1, l, nd, h2⟩
      | _ => cases e
  | _ => cases e
/-- what a dict holds -/
def dlook {κ : Type} [DecidableEq κ] : List κ → List MV → κ → Option MV
  | k' :: ks, v :: vs, k => if k' = k then some v else dlook ks vs k
  | _, _, _ => none
theorem dlook_rep {C : RC} {k : Key} : ∀ {ks : List Key} {ds : List MV} {vs : List V}, RepVs C ds vs →
    (∀ d, dlook ks ds k = some d → ∃ v, valV (ks.zip vs) k = some v ∧ RepV C d v) ∧ (dlook ks ds k = none → valV (ks.zip vs) k = none)
  | [], ds, vs, _ => ⟨fun d e => by simp [dlook] at e, fun _ => by simp [valV]⟩
  | k' :: ks, [], vs, t => by rw [t.nil_inv]; exact ⟨fun d e => by simp [dlook] at e, fun _ => by simp [valV]⟩
  | k' :: ks, d' :: ds, vs, t => by
    obtain ⟨v, vr, rfl, h1, h2⟩ := t.cons_inv
    rw [List.zip_cons_cons]
    by_cases e : k' = k
    · rw [valV_pos (p := (k', v)) e]
      simp only [dlook, if_pos e]
      exact ⟨fun d q => by cases q; exact ⟨v, rfl, h1⟩, fun q => by cases q⟩
    · rw [valV_neg (p := (k', v)) e]
      simp only [dlook, if_neg e]
      exact dlook_rep h2
def dsetV {κ : Type} [DecidableEq κ] : List κ → List MV → κ → MV → List MV
  | k' :: ks, v :: vs, k, d => (if k' = k then d else v) :: dsetV ks vs k d
  | _, vs, _, _ => vs
def dput {κ : Type} [DecidableEq κ] (ks : List κ) (vs : List MV) (k : κ) (d : MV) : List κ × List MV :=
  if k ∈ ks then (ks, dsetV ks vs k d) else (ks ++ [k], vs ++ [d])
def vsetV {κ : Type} [DecidableEq κ] : List κ → List V → κ → V → List V
  | k' :: ks, v :: vs, k, d => (if k' = k then d else v) :: vsetV ks vs k d
  | _, vs, _, _ => vs
theorem vsetV_len {κ : Type} [DecidableEq κ] (k : κ) (d : V) : ∀ (ks : List κ) (vs : List V), (vsetV ks vs k d).length = vs.length
  | [], vs => rfl
  | _ :: _, [] => rfl
  | k' :: ks, v :: vs => by simp [vsetV, vsetV_len k d ks vs]
theorem dsetV_rep {κ : Type} [DecidableEq κ] {C : RC} {k : κ} {d : MV} {v : V} (q : RepV C d v) : ∀ {ks : List κ} {ds : List MV} {vs : List V}, RepVs C ds vs → RepVs C (dsetV ks ds k d) (vsetV ks vs k v)
  | [], ds, vs, t => t
  | k' :: ks, [], vs, t => by rw [t.nil_inv]; exact .nil
  | k' :: ks, d' :: ds, vs, t => by
    obtain ⟨u, vr, rfl, h1, h2⟩ := t.cons_inv
    simp only [dsetV, vsetV]
    by_cases e : k' = k
    · rw [if_pos e, if_pos e]; exact .cons q (dsetV_rep q h2)
    · rw [if_neg e, if_neg e]; exact .cons h1 (dsetV_rep q h2)
theorem zip_map_set {κ : Type} [DecidableEq κ] (k : κ) (y : V) : ∀ (ks : List κ) (vs : List V), (ks.zip vs).map (fun kv => if kv.1 = k then (kv.1, y) else kv) = ks.zip (vsetV ks vs k y)
  | [], vs => by simp
  | k' :: ks, [] => by simp [vsetV]
  | k' :: ks, v :: vs => by
    rw [List.zip_cons_cons, List.map_cons, zip_map_set k y ks vs, vsetV, List.zip_cons_cons]
    by_cases e : k' = k
    · simp [e]
    · simp [e]
theorem any_zip {κ : Type} [DecidableEq κ] (k : κ) : ∀ (ks : List κ) (vs : List V), ks.length = vs.length → ((ks.zip vs).any fun kv => decide (kv.1 = k)) = decide (k ∈ ks)
  | [], vs, _ => by simp
  | k' :: ks, [], l => by simp at l
  | k' :: ks, v :: vs, l => by
    rw [List.zip_cons_cons, List.any_cons, any_zip k ks vs (by simpa using l)]
    by_cases e : k' = k
    · simp [e]
    · have e' : ¬ k = k' := fun z => e z.symm
      simp [e, e']
/-- the dict behind a store -/
theorem dput_rep {C : RC} {ks ks' : List Key} {ds ds' : List MV} {k : Key} {d : MV} {v : V} {vs : List V} (t : RepVs C ds vs) (l : ks.length = vs.length) (nd : ks.Nodup) (q : RepV C d v) (e : dput ks ds k d = (ks', ds')) :
    ∃ vs', putK (ks.zip vs) k v = ks'.zip vs' ∧ ks'.length = vs'.length ∧ ks'.Nodup ∧ RepVs C ds' vs' := by
  unfold dput at e
  unfold putK
  rw [any_zip k ks vs l]
  by_cases hm : k ∈ ks
  · rw [if_pos hm] at e; cases e
    rw [if_pos (by simp [hm])]
    exact ⟨vsetV ks vs k v, zip_map_set k v ks vs, by rw [vsetV_len]; exact l, nd, dsetV_rep q t⟩
  · rw [if_neg hm] at e; cases e
    rw [if_neg (by simp [hm])]
    refine ⟨vs ++ [v], ?_, by simp [l], ?_, t.append (.cons q .nil)⟩
    · rw [List.zip_append l]; simp
    · rw [List.nodup_append]
      refine ⟨nd, by simp, fun x hx y hy => ?_⟩
      have : y = k := by simpa using hy
      subst this
      intro z; subst z; exact hm hx
theorem dput_len {C : RC} {ks ks' : List Key} {ds ds' : List MV} {k : Key} {d : MV} (e : dput ks ds k d = (ks', ds')) : ks'.length ≤ ks.length + 1 := by
  unfold dput at e
  split at e
  · cases e; omega
  · cases e; simp
def idxD (d i : MV) (S : Sto) : R MV := match dctOf S d, keyV i with
  | some (ks, ds), some k => match dlook ks ds k with
    | some x => .ok x S
    | none => .stk
  | _, _ => .stk
def idxM (d i : MV) (S : Sto) : R MV := match seqOf S d with
  | some xs => match i with
    | .int k => match atI xs k with
      | some x => .ok x S
      | none => .stk
    | _ => .stk
  | none => idxD d i S
theorem atI_rep {C : RC} {ds : List MV} {vs : List V} {k : Int} {d : MV} (t : RepVs C ds vs) (e : atI ds k = some d) : ∃ v, atI vs k = some v ∧ RepV C d v := by
  unfold atI at e ⊢
  rw [← t.length]
  cases q : ixN ds.length k with
  | none => simp [q] at e
  | some j =>
    rw [q] at e
    obtain ⟨v, h1, h2⟩ := t.get (i := j) e
    exact ⟨v, h1, h2⟩
theorem idxM_cases {d i : MV} {S S' : Sto} {x : MV} (h : idxM d i S = .ok x S') : S' = S ∧ ((∃ xs k, seqOf S d = some xs ∧ i = .int k ∧ atI xs k = some x) ∨ ∃ ks ds k, dctOf S d = some (ks, ds) ∧ keyV i = some k ∧ dlook ks ds k = some x) := by
  unfold idxM at h
  cases hs : seqOf S d with
  | some xs =>
    rw [hs] at h
    cases i with
    | int k =>
      dsimp only at h
      cases q : atI xs k with
      | none => rw [q] at h; cases h
      | some y => rw [q] at h; cases h; exact ⟨rfl, .inl ⟨xs, k, rfl, rfl, q⟩⟩
    | _ => cases h
  | none =>
    rw [hs] at h
    dsimp only at h
    unfold idxD at h
    cases e1 : dctOf S d with
    | none => rw [e1] at h; cases h
    | some p =>
      obtain ⟨ks, ds⟩ := p
      cases e2 : keyV i with
      | none => rw [e1, e2] at h; cases h
      | some k =>
        rw [e1, e2] at h
        dsimp only at h
        cases q : dlook ks ds k with
        | none => rw [q] at h; cases h
        | some y => rw [q] at h; cases h; exact ⟨rfl, .inr ⟨ks, ds, k, rfl, rfl, q⟩⟩
section
variable {X : Cx}
theorem ixM (hu : X.A.units + 1 < cLine) : IxR X (rOf X idxM) := by
  intro value slice pins s σ H x y v u Q I rx ry rof hs
  obtain ⟨C, S, d1, d2, rfl, hw, hK, r, h1, h2, a, S', e, q⟩ := rof
  obtain ⟨rfl, ⟨xs, k, e1, rfl, e3⟩ | ⟨ks, ds, k, e1, e2, e3⟩⟩ := idxM_cases e
  · cases vInt h2
    obtain ⟨p, vs, rfl, sq, t⟩ := seqOf_rep r h1 e1
    obtain ⟨z, hz, rz⟩ := atI_rep t e3
    rw [hK] at sq
    rcases sq with sq | sq
    · exact ix_list value slice pins s σ C.H _ _ v u Q I rx ry ⟨p, vs, k, z, rfl, rfl, sq, hz, q C Grow.refl r z rz⟩ hs
    · exact ix_tup value slice pins s σ C.H _ _ v u Q I rx ry ⟨p, vs, k, z, rfl, rfl, sq, hz, q C Grow.refl r z rz⟩ hs
  · have ek := keyV_rep h2 e2
    subst ek
    obtain ⟨p, vs, rfl, rd, l, nd, t⟩ := dctOf_rep r h1 e1
    obtain ⟨z, hz, rz⟩ := (dlook_rep (ks := ks) t).1 a e3
    cases rx
    have g : DGet C.H p (kV k) (some z) := .inl ⟨_, k, rd, rfl, hz.symm⟩
    exact tail_any (dict_typeIs I g) PySem.F.slot_dict_getitem.lookup (d_getItem hu I g ry fun w' s' I' rw' => ⟨z, C.H, I', rw', q C Grow.refl r z rz⟩) hs
end
def cutM (xs : List MV) (lo hi : Option Int) : List MV := (xs.drop (HT.sIx xs.length 0 lo)).take (HT.sIx xs.length xs.length hi - HT.sIx xs.length 0 lo)
def slcM (d : MV) (lo hi : Option Int) (S : Sto) : R MV := match d with
  | .tup xs => .ok (.tup (cutM xs lo hi)) S
  | .str z => if z.length ≤ sizeLine then .ok (.str (cutS z lo hi)) S else .stk
  | d => match lstOf S d with
    | some xs => .ok (.lst (cutM xs lo hi)) S
    | none => .stk
def rSlM (X : Cx) : V → Option Int → Option Int → Hp → VK → Prop := fun x lo hi H Q => ∃ C S d, C.H = H ∧ C.w = X.w ∧ C.K = X.K ∧ RepS C S ∧ RepV C d x ∧ ∃ a S', slcM d lo hi S = .ok a S' ∧ ∀ C', Grow C C' → RepS C' S' → ∀ v, RepV C' a v → Q v C'.H
theorem cut_rep {C : RC} {ds : List MV} {vs : List V} (t : RepVs C ds vs) (lo hi : Option Int) : RepVs C (cutM ds lo hi) (cutV vs lo hi) := by
  unfold cutM cutV
  rw [← t.length]
  exact (t.drop _).take _
theorem cutM_all {xs : List MV} {lo hi : Option Int} (h : HT.sIx xs.length 0 lo = 0 ∧ HT.sIx xs.length xs.length hi = xs.length) : cutM xs lo hi = xs := by
  unfold cutM
  rw [h.1, h.2]; simp
theorem slM {X : Cx} : SlR X (rSlM X) := by
  intro pins s σ H x v vl vu lo hi sl Q I rx hs pl pu rof
  obtain ⟨C, S, d, rfl, hw, hK, r, h1, a, S', e, q⟩ := rof
  unfold slcM at e
  split at e
  · cases e
    have h0 := h1
    rw [RepV] at h1
    obtain ⟨p, vs, rfl, sq, t⟩ := h1
    rw [hK] at sq
    refine sl_tupA pins s σ C.H _ v vl vu lo hi sl Q I rx hs pl pu ⟨p, vs, rfl, sq, fun z => ?_, fun z => newTup r (cut_rep t lo hi) q⟩
    rw [← t.length] at z
    rw [cutM_all z] at q
    exact q C Grow.refl r _ h0
  · split at e
    · cases e
      cases vStr h1
      exact sl_str pins s σ C.H _ v vl vu lo hi sl Q I rx hs pl pu ⟨_, rfl, by assumption, q C Grow.refl r _ (repS _)⟩
    · cases e
  · cases el : lstOf S d with
    | none => rw [el] at e; cases e
    | some xs =>
      rw [el] at e; cases e
      obtain ⟨p, vs, rfl, sq, t⟩ := lstOf_rep r h1 el
      exact sl_list pins s σ C.H _ v vl vu lo hi sl Q I rx hs pl pu ⟨p, vs, rfl, .of sq, newLst r (cut_rep t lo hi) q⟩
def inB (S : Sto) (x c : MV) : Option Bool := match dctOf S c with
  | some (ks, ds) => match keyV x with
    | some k => some (dlook ks ds k).isSome
    | none => none
  | none => match pdF 8 S c with
    | .list ds => if SeqAt.shaped (pdF 8 S x) && SeqAt.shaped (.list ds) then some (ds.any fun z => PyData.eqv z (pdF 8 S x)) else none
    | .tuple ds => if SeqAt.shaped (pdF 8 S x) && SeqAt.shaped (.tuple ds) then some (ds.any fun z => PyData.eqv z (pdF 8 S x)) else none
    | _ => none
def inM (a b : MV) (S : Sto) : R MV := match inB S a b with
  | some k => .ok (.bl k) S
  | none => .stk
def ninM (a b : MV) (S : Sto) : R MV := match inB S a b with
  | some k => .ok (.bl (!k)) S
  | none => .stk
theorem room_in_shT {A : Around} {d : PyData} {ds : List PyData} (h : SeqAt.shaped d = true) (hu : A.units + 65 < cLine) : A.units + 1 + min (PyData.depthAll ds) d.depth < cLine := by
  have h1 := SeqAt.depth_of_shaped h
  have h2 : min (PyData.depthAll ds) d.depth ≤ d.depth := Nat.min_le_right _ _
  omega
section
variable {X : Cx}
theorem inB_rep {pins : List (Addr × Obj)} {s : Shared} {σ : L2.St} {C : RC} {S : Sto} {x y : V} {v u : Value} {d1 d2 : MV} {k : Bool} {Q1 Q2 : Value → Shared → Prop} (hu : X.A.units + 65 < cLine) (I : Inv X pins σ C.H s) (rx : RelV x v) (ry : RelV y u)
    (hK : C.K = X.K) (r : RepS C S) (h1 : RepV C d1 x) (h2 : RepV C d2 y) (e : inB S d1 d2 = some k) (q1 : ∀ s', Inv X pins σ C.H s' → Q1 (.bool k) s') (q2 : ∀ s', Inv X pins σ C.H s' → Q2 (.bool (!k)) s') :
    wpAny (model X.prog X.w) X.A (compareOp .In v u) Q1 X.xe s ∧ wpAny (model X.prog X.w) X.A (compareOp .NotIn v u) Q2 X.xe s := by
  unfold inB at e
  cases ed : dctOf S d2 with
  | some p =>
    obtain ⟨ks, ds⟩ := p
    rw [ed] at e
    dsimp only at e
    cases ek : keyV d1 with
    | none => rw [ek] at e; cases e
    | some key =>
      rw [ek] at e
      dsimp only at e
      have e' : (dlook ks ds key).isSome = k := Option.some.inj e
      have hv := keyV_rep h1 ek
      subst hv
      obtain ⟨p, vs, rfl, rd, l, nd, t⟩ := dctOf_rep r h2 ed
      cases ry
      have hk : (valV (ks.zip vs) key).isSome = k := by
        rw [← e']
        cases q : dlook ks ds key with
        | none => rw [(dlook_rep (ks := ks) t).2 q]; rfl
        | some d => obtain ⟨z, hz, _⟩ := (dlook_rep (ks := ks) t).1 d q; rw [hz]; rfl
      have g : DGet C.H p (kV key) (valV (ks.zip vs) key) := .inl ⟨_, key, rd, rfl, rfl⟩
      refine ⟨d_in (by omega) I g rx fun s' I' => ?_, d_notIn (by omega) I g rx fun s' I' => ?_⟩
      · rw [hk]; exact q1 s' I'
      · rw [hk]; exact q2 s' I'
  | none =>
    rw [ed] at e
    dsimp only at e
    cases ep : pdF 8 S d2 with
    | list ds =>
      rw [ep] at e
      dsimp only at e
      split at e
      · rename_i hh
        obtain ⟨z1, z2⟩ := Bool.and_eq_true_iff.mp hh
        have e' : (ds.any fun z => PyData.eqv z (pdF 8 S d1)) = k := Option.some.inj e
        have D1 := pdF_dp r 8 d1 x h1 (SeqAt.canLay_of_shaped z1)
        have D2 := pdF_dp r 8 d2 y h2 (by rw [ep]; exact SeqAt.canLay_of_shaped z2)
        rw [hK] at D1 D2
        rw [ep] at D2
        obtain ⟨as, r1⟩ := Dp.reads I _ x v D1 rx
        obtain ⟨bs, r2⟩ := Dp.reads I _ y u D2 ry
        have lay := SeqAt.canLay_of_shaped z2
        refine ⟨SeqAt.in_list_reads r2 r1 (by simpa [PyData.canLay0] using lay) (SeqAt.canLay_of_shaped z1) (room_in_shT z1 hu) (by rw [e']; exact q1 s I),
          SeqAt.notIn_list_reads r2 r1 (by simpa [PyData.canLay0] using lay) (SeqAt.canLay_of_shaped z1) (room_in_shT z1 hu) (by rw [e']; exact q2 s I)⟩
      · cases e
    | tuple ds =>
      rw [ep] at e
      dsimp only at e
      split at e
      · rename_i hh
        obtain ⟨z1, z2⟩ := Bool.and_eq_true_iff.mp hh
        have e' : (ds.any fun z => PyData.eqv z (pdF 8 S d1)) = k := Option.some.inj e
        have D1 := pdF_dp r 8 d1 x h1 (SeqAt.canLay_of_shaped z1)
        have D2 := pdF_dp r 8 d2 y h2 (by rw [ep]; exact SeqAt.canLay_of_shaped z2)
        rw [hK] at D1 D2
        rw [ep] at D2
        obtain ⟨as, r1⟩ := Dp.reads I _ x v D1 rx
        obtain ⟨bs, r2⟩ := Dp.reads I _ y u D2 ry
        have lay := SeqAt.canLay_of_shaped z2
        refine ⟨SeqAt.in_tuple_reads r2 r1 (by simpa [PyData.canLay0] using lay) (SeqAt.canLay_of_shaped z1) (room_in_shT z1 hu) (by rw [e']; exact q1 s I),
          SeqAt.notIn_tuple_reads r2 r1 (by simpa [PyData.canLay0] using lay) (SeqAt.canLay_of_shaped z1) (room_in_shT z1 hu) (by rw [e']; exact q2 s I)⟩
      · cases e
    | _ => rw [ep] at e; cases e
theorem opM_in (hu : X.A.units + 65 < cLine) : OpR X (compareOp .In) (rOf X inM) := by
  intro pins s σ H x y v u Q I rx ry rof
  obtain ⟨C, S, d1, d2, rfl, hw, hK, r, h1, h2, a, S', e, q⟩ := rof
  unfold inM at e
  cases eb : inB S d1 d2 with
  | none => rw [eb] at e; cases e
  | some k =>
    rw [eb] at e; cases e
    exact (inB_rep hu I rx ry hK r h1 h2 eb (fun s' I' => ⟨.bl _, C.H, I', rfl, q C Grow.refl r _ (repB _)⟩) (Q2 := fun _ _ => True) (fun s' I' => True.intro)).1
theorem opM_nin (hu : X.A.units + 65 < cLine) : OpR X (compareOp .NotIn) (rOf X ninM) := by
  intro pins s σ H x y v u Q I rx ry rof
  obtain ⟨C, S, d1, d2, rfl, hw, hK, r, h1, h2, a, S', e, q⟩ := rof
  unfold ninM at e
  cases eb : inB S d1 d2 with
  | none => rw [eb] at e; cases e
  | some k =>
    rw [eb] at e; cases e
    exact (inB_rep hu I rx ry hK r h1 h2 eb (Q1 := fun _ _ => True) (fun s' I' => True.intro) (fun s' I' => ⟨.bl _, C.H, I', rfl, q C Grow.refl r _ (repB _)⟩)).2
end
end Mi
set_option Elab.async false
set_option linter.all false
set_option maxRecDepth 100000
set_option maxHeartbeats 2000000
namespace Mi
open PySem PySem.Spec PyProof.Rows L2
/-- a call's reading -/
def rCf (X : Cx) (f : List MV → Sto → R MV) : List V → Hp → VK → Prop := fun vs H Q => ∃ C S ds, C.H = H ∧ C.w = X.w ∧ C.K = X.K ∧ RepS C S ∧ RepVs C ds vs ∧
  ∃ a S', f ds S = .ok a S' ∧ ∀ C', Grow C C' → RepS C' S' → ∀ v, RepV C' a v → Q v C'.H
theorem one_of {C : RC} {d : MV} {vs : List V} (t : RepVs C [d] vs) : ∃ v, vs = [v] ∧ RepV C d v := by
  obtain ⟨v, vr, rfl, h1, h2⟩ := t.cons_inv
  rw [h2.nil_inv]
  exact ⟨v, rfl, h1⟩
theorem two_of {C : RC} {d e : MV} {vs : List V} (t : RepVs C [d, e] vs) : ∃ v u, vs = [v, u] ∧ RepV C d v ∧ RepV C e u := by
  obtain ⟨v, vr, rfl, h1, h2⟩ := t.cons_inv
  obtain ⟨u, rfl, h3⟩ := one_of h2
  exact ⟨v, u, rfl, h1, h3⟩
def lenD (d : MV) (S : Sto) : R MV := match dctOf S d with
  | some (ks, _) => .ok (.int ks.length) S
  | none => match d with
    | .str x => if x.length ≤ sizeLine then .ok (.int x.length) S else .stk
    | _ => .stk
def lenM : List MV → Sto → R MV
  | [d], S => match seqOf S d with
    | some xs => .ok (.int xs.length) S
    | none => lenD d S
  | _, _ => .stk
section
variable {X : Cx}
theorem crM_len : CallR X (.builtin "len") (rCf X lenM) := by
  intro pins s σ H vs us Q I rv h
  obtain ⟨C, S, ds, rfl, hw, hK, r, t, a, S', e, q⟩ := h
  unfold lenM at e
  split at e
  · rename_i d
    obtain ⟨v, rfl, h1⟩ := one_of t
    cases hs : seqOf S d with
    | some xs =>
      rw [hs] at e; cases e
      obtain ⟨p, ws, rfl, sq, tt⟩ := seqOf_rep r h1 hs
      rw [hK] at sq
      have l := tt.length
      refine call_len pins s σ C.H _ us Q I rv ⟨.ref p, ws.length, rfl, ?_, ?_⟩
      · rcases sq with sq | sq
        · exact .inl ⟨ws, sq, rfl⟩
        · exact .inr ⟨ws, sq, rfl⟩
      · rw [← l]; exact q C Grow.refl r _ (repI _)
    | none =>
      rw [hs] at e
      dsimp only at e
      unfold lenD at e
      cases hd : dctOf S d with
      | some p =>
        obtain ⟨ks, es⟩ := p
        rw [hd] at e; cases e
        obtain ⟨p, ws, rfl, rd, l, nd, tt⟩ := dctOf_rep r h1 hd
        obtain ⟨u, rfl, ru⟩ := vals1 rv
        cases ru
        refine d_len I rd fun tk s' I' => ⟨.int ks.length, C.H, I', ⟨tk, ?_⟩, q C Grow.refl r _ (repI _)⟩
        simp [List.length_zip, l]
      | none =>
        rw [hd] at e
        dsimp only at e
        split at e
        · split at e
          · cases e
            cases vStr h1
            exact call_len pins s σ C.H _ us Q I rv ⟨_, _, rfl, ⟨by assumption, rfl⟩, q C Grow.refl r _ (repI _)⟩
          · cases e
        · cases e
  · cases e
def intM : List MV → Sto → R MV
  | [.int i], S => .ok (.int i) S
  | [.bl b], S => .ok (.int (if b then 1 else 0)) S
  | _, _ => .stk
theorem crM_int : CallR X (.type "int") (rCf X intM) := by
  intro pins s σ H vs us Q I rv h
  obtain ⟨C, S, ds, rfl, hw, hK, r, t, a, S', e, q⟩ := h
  unfold intM at e
  split at e
  · cases e
    obtain ⟨v, rfl, h1⟩ := one_of t
    cases vInt h1
    exact call_int1 pins s σ C.H _ us Q I rv (.inl ⟨_, rfl, q C Grow.refl r _ (repI _)⟩)
  · cases e
    obtain ⟨v, rfl, h1⟩ := one_of t
    cases vBl h1
    exact call_int1 pins s σ C.H _ us Q I rv (.inr ⟨_, rfl, q C Grow.refl r _ (repI _)⟩)
  · cases e
def tupM : List MV → Sto → R MV
  | [d], S => match seqOf S d with
    | some xs => .ok (.tup xs) S
    | none => .stk
  | _, _ => .stk
theorem crM_tuple : CallR X (.type "tuple") (rCf X tupM) := by
  intro pins s σ H vs us Q I rv h
  obtain ⟨C, S, ds, rfl, hw, hK, r, t, a, S', e, q⟩ := h
  unfold tupM at e
  split at e
  · rename_i d
    obtain ⟨v, rfl, h1⟩ := one_of t
    cases hs : seqOf S d with
    | some xs =>
      rw [hs] at e; cases e
      obtain ⟨p, ws, rfl, sq, tt⟩ := seqOf_rep r h1 hs
      refine call_tuple_of pins s σ C.H _ us Q I rv ⟨p, ws, rfl, ?_⟩
      rcases sq with sq | sq
      · exact .inl ⟨by rw [← hK]; exact sq, newTup r tt q⟩
      · exact .inr ⟨by rw [← hK]; exact sq, q C Grow.refl r _ (by rw [RepV]; exact ⟨p, ws, rfl, sq, tt⟩)⟩
    | none => rw [hs] at e; cases e
  · cases e
/-- list(x), not to be written | a cell -/
def lstM (fr : Bool) : List MV → Sto → R MV
  | [d], S => match seqOf S d with
    | some xs => if fr then .ok (.lst xs) S else .ok (.ref S.length) (S ++ [.lst xs])
    | none => .stk
  | _, _ => .stk
theorem crM_list (fr : Bool) : CallR X (.type "list") (rCf X (lstM fr)) := by
  intro pins s σ H vs us Q I rv h
  obtain ⟨C, S, ds, rfl, hw, hK, r, t, a, S', e, q⟩ := h
  unfold lstM at e
  split at e
  · rename_i d
    obtain ⟨v, rfl, h1⟩ := one_of t
    cases hs : seqOf S d with
    | some xs =>
      rw [hs] at e
      dsimp only at e
      obtain ⟨p, ws, rfl, sq, tt⟩ := seqOf_rep r h1 hs
      rw [hK] at sq
      refine call_list_of pins s σ C.H _ us Q I rv ⟨p, ws, rfl, sq, ?_⟩
      cases fr with
      | true => cases e; exact newLst r tt q
      | false => cases e; exact newCell r tt q
    | none => rw [hs] at e; cases e
  · cases e
def allBl : List MV → Option (List Bool)
  | [] => some []
  | .bl b :: r => (allBl r).map (b :: ·)
  | _ => none
theorem allBl_rep {C : RC} : ∀ {ds : List MV} {vs : List V} {bs : List Bool}, RepVs C ds vs → allBl ds = some bs → vs = bs.map V.bl
  | [], vs, bs, t, e => by rw [t.nil_inv]; cases e; rfl
  | d :: ds, vs, bs, t, e => by
    obtain ⟨v, vr, rfl, h1, h2⟩ := t.cons_inv
    cases d with
    | bl b =>
      rw [allBl] at e
      obtain ⟨bs', e1, rfl⟩ := Option.map_eq_some_iff.mp e
      rw [vBl h1, allBl_rep h2 e1]; rfl
    | _ => cases e
def allIn : List MV → Option (List Int)
  | [] => some []
  | .int b :: r => (allIn r).map (b :: ·)
  | _ => none
theorem allIn_rep {C : RC} : ∀ {ds : List MV} {vs : List V} {bs : List Int}, RepVs C ds vs → allIn ds = some bs → vs = bs.map V.int
  | [], vs, bs, t, e => by rw [t.nil_inv]; cases e; rfl
  | d :: ds, vs, bs, t, e => by
    obtain ⟨v, vr, rfl, h1, h2⟩ := t.cons_inv
    cases d with
    | int b =>
      rw [allIn] at e
      obtain ⟨bs', e1, rfl⟩ := Option.map_eq_some_iff.mp e
      rw [vInt h1, allIn_rep h2 e1]; rfl
    | _ => cases e
def overBl (f : List Bool → Bool) : List MV → Sto → R MV
  | [d], S => match lstOf S d with
    | some xs => match allBl xs with
      | some bs => .ok (.bl (f bs)) S
      | none => .stk
    | none => .stk
  | _, _ => .stk
abbrev anyM := overBl fun bs => bs.any id
abbrev allM := overBl fun bs => bs.all id
theorem overBl_of {f : List Bool → Bool} {C : RC} {S S' : Sto} {ds : List MV} {vs : List V} {a : MV} (r : RepS C S) (t : RepVs C ds vs) (e : overBl f ds S = .ok a S') :
    ∃ p bs, vs = [.ref p] ∧ SqL C.K C.H p (bs.map V.bl) ∧ a = .bl (f bs) ∧ S' = S := by
  unfold overBl at e
  split at e
  · rename_i d
    obtain ⟨v, rfl, h1⟩ := one_of t
    cases hs : lstOf S d with
    | none => rw [hs] at e; cases e
    | some xs =>
      rw [hs] at e
      dsimp only at e
      cases hb : allBl xs with
      | none => rw [hb] at e; cases e
      | some bs =>
        rw [hb] at e; cases e
        obtain ⟨p, ws, rfl, sq, tt⟩ := lstOf_rep r h1 hs
        rw [allBl_rep tt hb] at sq
        exact ⟨p, bs, rfl, .of sq, rfl, rfl⟩
  · cases e
theorem crM_any (hc : X.calm = true) : CallR X (.builtin "any") (rCf X anyM) := by
  intro pins s σ H vs us Q I rv h
  obtain ⟨C, S, ds, rfl, hw, hK, r, t, a, S', e, q⟩ := h
  obtain ⟨p, bs, rfl, sq, rfl, rfl⟩ := overBl_of r t e
  rw [hK] at sq
  exact cr_any hc pins s σ C.H _ us Q I rv ⟨p, bs, rfl, sq, q C Grow.refl r _ (repB _)⟩
theorem crM_all (hc : X.calm = true) : CallR X (.builtin "all") (rCf X allM) := by
  intro pins s σ H vs us Q I rv h
  obtain ⟨C, S, ds, rfl, hw, hK, r, t, a, S', e, q⟩ := h
  obtain ⟨p, bs, rfl, sq, rfl, rfl⟩ := overBl_of r t e
  rw [hK] at sq
  exact cr_all hc pins s σ C.H _ us Q I rv ⟨p, bs, rfl, sq, q C Grow.refl r _ (repB _)⟩
def sumM : List MV → Sto → R MV
  | [d], S => match lstOf S d with
    | some xs => match allIn xs with
      | some bs => .ok (.int bs.sum) S
      | none => .stk
    | none => .stk
  | _, _ => .stk
theorem crM_sum (hc : X.calm = true) : CallR X (.builtin "sum") (rCf X sumM) := by
  intro pins s σ H vs us Q I rv h
  obtain ⟨C, S, ds, rfl, hw, hK, r, t, a, S', e, q⟩ := h
  unfold sumM at e
  split at e
  · rename_i d
    obtain ⟨v, rfl, h1⟩ := one_of t
    cases hs : lstOf S d with
    | none => rw [hs] at e; cases e
    | some xs =>
      rw [hs] at e
      dsimp only at e
      cases hb : allIn xs with
      | none => rw [hb] at e; cases e
      | some bs =>
        rw [hb] at e; cases e
        obtain ⟨p, ws, rfl, sq, tt⟩ := lstOf_rep r h1 hs
        rw [allIn_rep tt hb] at sq
        exact cr_sum hc pins s σ C.H _ us Q I rv ⟨p, bs, rfl, .of sq, q C Grow.refl r _ (repI _)⟩
  · cases e
def maxM : List MV → Sto → R MV
  | [.int i, .int j], S => .ok (.int (if j > i then j else i)) S
  | _, _ => .stk
theorem crM_max (hc : X.calm = true) : CallR X (.builtin "max") (rCf X maxM) := by
  intro pins s σ H vs us Q I rv h
  obtain ⟨C, S, ds, rfl, hw, hK, r, t, a, S', e, q⟩ := h
  unfold maxM at e
  split at e
  · cases e
    obtain ⟨v, u, rfl, h1, h2⟩ := two_of t
    cases vInt h1; cases vInt h2
    exact call_max2 hc pins s σ C.H _ us Q I rv ⟨_, _, rfl, q C Grow.refl r _ (repI _)⟩
  · cases e
def tyN (S : Sto) : MV → Option String
  | .non => some "NoneType"
  | .bl _ => some "bool"
  | .int _ => some "int"
  | .str _ => some "str"
  | .tup _ => some "tuple"
  | .lst _ => some "list"
  | .dct _ _ => some "dict"
  | .ref n => match S[n]? with
    | some (.dct _ _) => some "dict"
    | some (MO.lst _) => some "list"
    | _ => none
  | _ => none
def isiB (S : Sto) (d : MV) (t : String) : Option Bool := match tyN S d with
  | some n => kitB n t
  | none => none
theorem tyN_rep {C : RC} {S : Sto} {d : MV} {v : V} {n : String} (r : RepS C S) (h : RepV C d v) (e : tyN S d = some n) : TyX C.K C.H v (.type n) := by
  cases d with
  | non => cases e; rw [vNon h]; exact .base .non
  | bl b => cases e; rw [vBl h]; exact .base (.bl b)
  | int i => cases e; rw [vInt h]; exact .base (.int i)
  | str x => cases e; rw [vStr h]; exact .base (.str x)
  | tup xs =>
    cases e
    rw [RepV] at h
    obtain ⟨a, vs, rfl, q, t⟩ := h
    rcases q with (q | ⟨o, q⟩) | ⟨o, its, n, q1, q2, _⟩
    · exact .base (.tup q)
    · exact .fTuple q
    · exact .kTuple q1 q2
  | lst xs =>
    cases e
    rw [RepV] at h
    obtain ⟨a, vs, rfl, _, q, t⟩ := h
    exact .base (.lst q)
  | dct ks ds =>
    cases e
    rw [RepV] at h
    obtain ⟨a, vs, rfl, _, q, _⟩ := h
    rcases q with q | ⟨o, q⟩
    · exact .base (.dK q)
    · exact .fDict q
  | ref k =>
    rw [RepV] at h
    obtain ⟨a, rfl, q⟩ := h
    rw [tyN] at e
    cases es : S[k]? with
    | none => rw [es] at e; cases e
    | some o =>
      rw [es] at e
      cases o with
      | lst xs => cases e; obtain ⟨vs, h1, _⟩ := r.ob k _ a es q; exact .base (.lst h1)
      | dct ks ds => cases e; obtain ⟨vs, h1, _⟩ := r.ob k _ a es q; exact .base (.dK h1)
      | _ => cases e
  | _ => cases e
def isiM (t : String) : List MV → Sto → R MV
  | [d], S => match isiB S d t with
    | some b => .ok (.bl b) S
    | none => .stk
  | _, _ => .stk
end
end Mi
set_option Elab.async false
set_option linter.all false
set_option maxRecDepth 100000
set_option maxHeartbeats 2000000
namespace Mi
open PySem PySem.Spec PyProof.Rows L2
abbrev ME := Ev → Sto → R MV
abbrev MT := Ev → Sto → R Bool
abbrev MA := Ev → Sto → R (List MV)
abbrev SE (X : Cx) (W : WX) (e : Expr) (m : ME) : Prop := PE X e (tE X W m)
abbrev ST (X : Cx) (W : WX) (e : Expr) (m : MT) : Prop := PT X e (tT X W m)
abbrev SW (X : Cx) (W : WX) (e : Expr) (m : MT) : Prop := PW X e (tT X W m)
abbrev SA (X : Cx) (W : WX) (es : List Expr) (m : MA) : Prop := PA X es (tA X W m)
def mVar (i : Nat) : ME := fun ρ S => match ρ[i]? with
  | some (some d) => .ok d S
  | _ => .stk
def mC (d : MV) : ME := fun _ S => .ok d S
def mOp (f : MV → MV → Sto → R MV) (a b : ME) : ME := fun ρ S => (a ρ S).bind fun x S1 => (b ρ S1).bind fun y S2 => f x y S2
def toB (d : MV) (S : Sto) : R Bool := match d with
  | .bl b => .ok b S
  | _ => .stk
def mTest (a : ME) : MT := fun ρ S => (a ρ S).bind toB
def mChain (f g : MV → MV → Sto → R MV) (a b c : ME) : ME := fun ρ S => (a ρ S).bind fun x S1 => (b ρ S1).bind fun y S2 => (f x y S2).bind fun z S3 => (toB z S3).bind fun k S4 =>
  if k then (c ρ S4).bind fun u S5 => g y u S5 else .ok (.bl false) S4
def mNot (a : MT) : MT := fun ρ S => (a ρ S).bind fun b S1 => .ok (!b) S1
def mAnd (a b : MT) : MT := fun ρ S => (a ρ S).bind fun x S1 => if x then b ρ S1 else .ok false S1
def mOr (a b : MT) : MT := fun ρ S => (a ρ S).bind fun x S1 => if x then .ok true S1 else b ρ S1
def mAndV (a b : ME) : ME := fun ρ S => (mTest a ρ S).bind fun x S1 => if x then b ρ S1 else .ok (.bl false) S1
def mOrV (a b : ME) : ME := fun ρ S => (mTest a ρ S).bind fun x S1 => if x then .ok (.bl true) S1 else b ρ S1
def mNotV (a : ME) : ME := fun ρ S => (mTest a ρ S).bind fun x S1 => .ok (.bl (!x)) S1
def mIf (c : MT) (a b : ME) : ME := fun ρ S => (c ρ S).bind fun x S1 => if x then a ρ S1 else b ρ S1
def mNil : MA := fun _ S => .ok [] S
def mCons (a : ME) (r : MA) : MA := fun ρ S => (a ρ S).bind fun x S1 => (r ρ S1).bind fun xs S2 => .ok (x :: xs) S2
def mTup (a : MA) : ME := fun ρ S => (a ρ S).bind fun xs S1 => .ok (.tup xs) S1
def mLst (a : MA) : ME := fun ρ S => (a ρ S).bind fun xs S1 => .ok (.lst xs) S1
def mCell (a : MA) : ME := fun ρ S => (a ρ S).bind fun xs S1 => .ok (.ref S1.length) (S1 ++ [.lst xs])
def mCallF (f : List MV → Sto → R MV) (a : MA) : ME := fun ρ S => (a ρ S).bind f
section
variable {X : Cx} {W : WX} {a b c e : Expr} {es : List Expr} {ma mb mc : ME} {mt mu : MT} {mas : MA} {pos : Pos}
theorem se_var {i : Nat} {x : Str} (hN : X.N[i]? = some x) (hv : Vis X.env.scope x) (hd : (x == ("__debug__" : Str)) = false := by decide) (hcd : (x == ("__classdict__" : Str)) = false := by decide) : SE X W (.Name x pos) (mVar i) :=
  (pe_var hN hv hd hcd).imp fun σ H Q ⟨C, ρ, S, e, s, q⟩ => by
    subst e
    unfold mVar at q
    split at q
    · rename_i d hd
      obtain ⟨v, e1, r⟩ := s.ev i d hd
      exact ⟨v, e1, q.now s.rs v r⟩
    · exact q.elim
theorem se_c {v : V} {d : MV} (h : PE X e (tC v)) (r : ∀ C : RC, C.K = X.K → RepV C d v) : SE X W e (mC d) :=
  h.imp fun σ H Q ⟨C, ρ, S, e, s, q⟩ => by
    subst e
    exact q.now s.rs v (r C s.K)
theorem se_int {i : Int} {j} : SE X W (.Constant (.int i) j pos) (mC (.int i)) := se_c pe_int fun _ _ => repI i
theorem se_bl {i : Bool} {j} : SE X W (.Constant (.bool i) j pos) (mC (.bl i)) := se_c pe_bl fun _ _ => repB i
theorem se_str {i : Str} {j} : SE X W (.Constant (.str i) j pos) (mC (.str i)) := se_c pe_str fun _ _ => repS i
theorem se_non {j} : SE X W (.Constant .none j pos) (mC .non) := se_c pe_non fun _ _ => repN
/-- a module's constant -/
theorem se_glob {x : Str} {v : V} {u : Value} {d : MV} (hg : Gl X x) (hm : X.mg x = some u) (r : RelV v u) (q : ∀ C : RC, C.K = X.K → RepV C d v) (hd : (x == ("__debug__" : Str)) = false := by decide) : SE X W (.Name x pos) (mC d) :=
  se_c (pe_glob hg hm r hd) q
/-- a two-place reading over two subreadings -/
theorem op_imp {f : MV → MV → Sto → R MV} {σ : L2.St} {H : Hp} {Q : VK} (hf : ∀ d1 d2 S c d S', f d1 d2 S ≠ .exc c d S') (h : tE X W (mOp f ma mb) σ H Q) : tOp (rOf X f) (tE X W ma) (tE X W mb) σ H Q := by
  obtain ⟨C, ρ, S, e, s, q⟩ := h
  subst e
  refine tE.bind s q fun d1 S1 C1 v1 s1 g1 r1 q1 => ?_
  refine tE.bind s1 q1 fun d2 S2 C2 v2 s2 g2 r2 q2 => ?_
  refine ⟨C2, S2, d1, d2, rfl, s2.w, s2.K, s2.rs, r1.grow g2 s1.rs, r2, ?_⟩
  cases e : f d1 d2 S2 with
  | ok a S' =>
    rw [e] at q2
    exact ⟨a, S', rfl, q2⟩
  | exc c d S' => exact absurd e (hf _ _ _ _ _ _)
  | stk => rw [e] at q2; exact q2.elim
/-- no exception -/
def Pure2 (f : MV → MV → Sto → R MV) : Prop := ∀ d1 d2 S c d S', f d1 d2 S ≠ .exc c d S'
theorem se_op {op : Operator} {f : MV → MV → Sto → R MV} (ho : OpR X (binaryOp op) (rOf X f)) (hf : Pure2 f) (ha : SE X W a ma) (hb : SE X W b mb) : SE X W (.BinOp a op b pos) (mOp f ma mb) :=
  (pe_op ho ha hb).imp fun σ H Q h => op_imp hf h
theorem se_cmp {op : CmpOp} {f : MV → MV → Sto → R MV} (ho : OpR X (compareOp op) (rOf X f)) (hf : Pure2 f) (hm : behindInMarks op b = false) (ha : SE X W a ma) (hb : SE X W b mb) : SE X W (.Compare a [op] [b] pos) (mOp f ma mb) :=
  (pe_cmpR ho ha hb hm).imp fun σ H Q h => op_imp hf h
/-- a test by its value -/
theorem tTest_imp {t : TE} {m : ME} (k : ∀ σ H Q, tE X W m σ H Q → t σ H Q) : ∀ σ H Q, tT X W (mTest m) σ H Q → tTest t σ H Q := fun σ H Q h => by
  obtain ⟨C, ρ, S, e, s, q⟩ := h
  subst e
  refine k σ C.H _ (tE.bind s q fun d1 S1 C1 v1 s1 g1 r1 q1 => ?_)
  unfold toB at q1
  split at q1
  · exact ⟨_, vBl r1, q1.now s1.rs⟩
  · exact q1.elim
theorem st_cmp {op : CmpOp} {f : MV → MV → Sto → R MV} (ho : OpR X (compareOp op) (rOf X f)) (hf : Pure2 f) (hm : behindInMarks op b = false) (ha : SE X W a ma) (hb : SE X W b mb) : ST X W (.Compare a [op] [b] pos) (mTest (mOp f ma mb)) :=
  (pt_cmpR ho ha hb hm).imp (tTest_imp fun σ H Q h => op_imp hf h)
theorem st_val (h : SE X W e ma) (he : ∀ whole, isTrue e X.env whole = (do let v ← whole; standAt e.pos; holding [v] (truthy v)) := by intro _; rfl) : ST X W e (mTest ma) :=
  (pt_val h he).imp (tTest_imp fun σ H Q h => h)
theorem chain_imp {f g : MV → MV → Sto → R MV} {σ : L2.St} {H : Hp} {Q : VK} (hf : Pure2 f) (hg : Pure2 g) (h : tE X W (mChain f g ma mb mc) σ H Q) : tChain (rOf X f) (rOf X g) (tE X W ma) (tE X W mb) (tE X W mc) σ H Q := by
  obtain ⟨C, ρ, S, e, s, q⟩ := h
  subst e
  refine tE.bind s q fun d1 S1 C1 v1 s1 g1 r1 q1 => ?_
  refine tE.bind s1 q1 fun d2 S2 C2 v2 s2 g2 r2 q2 => ?_
  refine ⟨C2, S2, d1, d2, rfl, s2.w, s2.K, s2.rs, r1.grow g2 s1.rs, r2, ?_⟩
  cases e : f d1 d2 S2 with
  | exc c d S' => exact absurd e (hf _ _ _ _ _ _)
  | stk => rw [e] at q2; exact q2.elim
  | ok z S' =>
    rw [e] at q2
    refine ⟨z, S', rfl, fun C3 g3 rs3 v rv => ?_⟩
    have q3 : Wants W σ C2 ((toB z S').bind fun k S4 => if k then (mc ρ S4).bind fun u S5 => g d2 u S5 else .ok (.bl false) S4) _ := q2
    unfold toB at q3
    split at q3
    · rename_i k
      refine ⟨k, vBl rv, ?_⟩
      have s3 := s2.grow g3 rs3
      rw [R.bind_ok] at q3
      cases k with
      | true =>
        have q4 : Wants W σ C3 ((mc ρ S').bind fun u S5 => g d2 u S5) (fun d _ C' => ∀ v, RepV C' d v → Q v C'.H) := by
          revert q3
          rw [if_pos rfl]
          cases ((mc ρ S').bind fun u S5 => g d2 u S5) with
          | ok b S2 => exact fun h C2 g2 r2 => h C2 (g3.trans g2) r2
          | exc c d S2 => exact fun h C2 cls dx g2 r2 e => h C2 cls dx (g3.trans g2) r2 e
          | stk => exact fun h => h
        rw [if_pos rfl]
        refine tE.bind s3 q4 fun d3 S4 C4 v3 s4 g4 r3 q5 => ?_
        refine ⟨C4, S4, d2, d3, rfl, s4.w, s4.K, s4.rs, (r2.grow g3 s2.rs).grow g4 s3.rs, r3, ?_⟩
        cases e : g d2 d3 S4 with
        | ok a S' =>
          rw [e] at q5
          exact ⟨a, S', rfl, q5⟩
        | exc c d S' => exact absurd e (hg _ _ _ _ _ _)
        | stk => rw [e] at q5; exact q5.elim
      | false =>
        rw [if_neg (by decide)] at q3 ⊢
        exact q3.here g3 rs3 _ (repB _)
    · exact q3.elim
theorem se_chain {op op' : CmpOp} {f g : MV → MV → Sto → R MV} (ho : OpR X (compareOp op) (rOf X f)) (hf : Pure2 f) (ho' : OpR X (compareOp op') (rOf X g)) (hg : Pure2 g) (ha : SE X W a ma) (hb : SE X W b mb) (hc : SE X W c mc)
    (hm : lastMarks [op, op'] [b, c] = false := by with_unfolding_all rfl) : SE X W (.Compare a [op, op'] [b, c] pos) (mChain f g ma mb mc) := (pe_chain ho ho' ha hb hc hm).imp fun σ H Q h => chain_imp hf hg h
theorem st_chain {op op' : CmpOp} {f g : MV → MV → Sto → R MV} (ho : OpR X (compareOp op) (rOf X f)) (hf : Pure2 f) (ho' : OpR X (compareOp op') (rOf X g)) (hg : Pure2 g) (ha : SE X W a ma) (hb : SE X W b mb) (hc : SE X W c mc)
    (hm : lastMarks [op, op'] [b, c] = false := by with_unfolding_all rfl) : ST X W (.Compare a [op, op'] [b, c] pos) (mTest (mChain f g ma mb mc)) := (pt_chain ho ho' ha hb hc hm).imp (tTest_imp fun σ H Q h => chain_imp hf hg h)
theorem st_not (ha : ST X W a mt) : ST X W (.UnaryOp .Not a pos) (mNot mt) :=
  (pt_not ha).imp fun σ H Q ⟨C, ρ, S, e, s, q⟩ => by
    subst e
    exact tT.bind s q fun d S1 C1 s1 g1 q1 => q1.now s1.rs
variable {rest : List Expr}
theorem sw_and1 (ha : ST X W a mt) : SW X W (.BoolOp .And [a] pos) mt := pw_and1 ha
theorem sw_or1 (ha : ST X W a mt) : SW X W (.BoolOp .Or [a] pos) mt := pw_or1 ha
theorem sw_and (ha : ST X W a mt) (hb : SW X W (.BoolOp .And (b :: rest) pos) mu) : SW X W (.BoolOp .And (a :: b :: rest) pos) (mAnd mt mu) :=
  (pw_and ha hb).imp fun σ H Q ⟨C, ρ, S, e, s, q⟩ => by
    subst e
    refine tT.bind s q fun d S1 C1 s1 g1 q1 => ?_
    cases d with
    | true => rw [if_pos rfl] at q1 ⊢; exact ⟨C1, ρ, S1, rfl, s1, q1⟩
    | false => rw [if_neg (by decide)] at q1 ⊢; exact q1.now s1.rs
theorem sw_or (ha : ST X W a mt) (hb : SW X W (.BoolOp .Or (b :: rest) pos) mu) : SW X W (.BoolOp .Or (a :: b :: rest) pos) (mOr mt mu) :=
  (pw_or ha hb).imp fun σ H Q ⟨C, ρ, S, e, s, q⟩ => by
    subst e
    refine tT.bind s q fun d S1 C1 s1 g1 q1 => ?_
    cases d with
    | false => rw [if_neg (by decide)] at q1 ⊢; exact ⟨C1, ρ, S1, rfl, s1, q1⟩
    | true => rw [if_pos rfl] at q1 ⊢; exact q1.now s1.rs
theorem st_w (h : SW X W e mt) : ST X W e mt := h.pt
theorem se_one {op} (h : SE X W a ma) : SE X W (.BoolOp op [a] pos) ma := pe_one h
theorem tB_step {C : RC} {ρ : Ev} {S : Sto} {σ : L2.St} {β : Type} {f : Bool → Sto → R β} {Q : β → Sto → RC → Prop} {Q1 : VK} (s : Sv X ρ σ S C) (h : Wants W σ C ((mTest ma ρ S).bind f) Q)
    (k : ∀ b S1 C1, Sv X ρ σ S1 C1 → Grow C C1 → Wants W σ C1 (f b S1) Q → Q1 (.bl b) C1.H) : tE X W ma σ C.H Q1 := by
  have h' : Wants W σ C ((ma ρ S).bind fun d S1 => (toB d S1).bind f) Q := by
    unfold mTest at h
    cases e : ma ρ S with
    | ok a S' => rw [e] at h; exact h
    | exc c d S' => rw [e] at h; exact h
    | stk => rw [e] at h; exact h
  refine tE.bind s h' fun d S1 C1 v s1 g r q => ?_
  unfold toB at q
  split at q
  · rw [vBl r]
    exact k _ S1 C1 s1 g q
  · exact q.elim
theorem se_and (ha : SE X W a ma) (hb : SE X W (.BoolOp .And (b :: rest) pos) mb) : SE X W (.BoolOp .And (a :: b :: rest) pos) (mAndV ma mb) :=
  (pe_and ha hb).imp fun σ H Q ⟨C, ρ, S, e, s, q⟩ => by
    subst e
    refine tB_step s q fun d S1 C1 s1 g1 q1 => ⟨d, rfl, ?_⟩
    cases d with
    | true => rw [if_pos rfl] at q1 ⊢; exact ⟨C1, ρ, S1, rfl, s1, q1⟩
    | false => rw [if_neg (by decide)] at q1 ⊢; exact q1.now s1.rs _ (repB _)
theorem se_not (ha : SE X W a ma) : SE X W (.UnaryOp .Not a pos) (mNotV ma) :=
  (pe_not ha).imp fun σ H Q ⟨C, ρ, S, e, s, q⟩ => by
    subst e
    exact tB_step s q fun d S1 C1 s1 g1 q1 => ⟨d, rfl, q1.now s1.rs _ (repB _)⟩
theorem se_if (hc : ST X W c mt) (ha : SE X W a ma) (hb : SE X W b mb) : SE X W (.IfExp c a b pos) (mIf mt ma mb) :=
  (pe_ifExp hc ha hb).imp fun σ H Q ⟨C, ρ, S, e, s, q⟩ => by
    subst e
    refine tT.bind s q fun d S1 C1 s1 g1 q1 => ?_
    cases d with
    | true => rw [if_pos rfl] at q1 ⊢; exact ⟨C1, ρ, S1, rfl, s1, q1⟩
    | false => rw [if_neg (by decide)] at q1 ⊢; exact ⟨C1, ρ, S1, rfl, s1, q1⟩
theorem sa_nil : SA X W [] mNil := pa_nil.imp fun σ H Q ⟨C, ρ, S, e, s, q⟩ => by
  subst e
  exact q.now s.rs [] .nil
theorem sa_cons (ha : SE X W e ma) (hr : SA X W es mas) (hs : starEach (e :: es) X.env = (false, eval e X.env) :: starEach es X.env := by rfl) : SA X W (e :: es) (mCons ma mas) :=
  (pa_cons ha hr hs).imp fun σ H Q ⟨C, ρ, S, e, s, q⟩ => by
    subst e
    refine tE.bind s q fun d1 S1 C1 v1 s1 g1 r1 q1 => ?_
    refine tA.bind s1 q1 fun d2 S2 C2 v2 s2 g2 r2 q2 => ?_
    exact q2.now s2.rs _ (.cons (r1.grow g2 s1.rs) r2)
/-- how many -/
def LenA (m : MA) (n : Nat) : Prop := ∀ ρ S ds S', m ρ S = .ok ds S' → ds.length = n
theorem lenNil : LenA mNil 0 := fun ρ S ds S' e => by cases e; rfl
theorem R.bind_ok' {α β : Type} {r : R α} {f : α → Sto → R β} {b : β} {S' : Sto} (h : r.bind f = .ok b S') : ∃ a S1, r = .ok a S1 ∧ f a S1 = .ok b S' := by
  cases r with
  | ok a S => exact ⟨a, S, rfl, h⟩
  | exc c d S => cases h
  | stk => cases h
theorem lenCons {n : Nat} (h : LenA mas n) : LenA (mCons ma mas) (n + 1) := fun ρ S ds S' e => by
  obtain ⟨x, S1, _, e⟩ := R.bind_ok' e
  obtain ⟨xs, S2, e2, e⟩ := R.bind_ok' e
  cases e
  rw [List.length_cons, h _ _ _ _ e2]
theorem se_tup {x1} {n : Nat} (h : SA X W es mas) (hl : LenA mas n) (hn : n ≤ 1000) : SE X W (.Tuple es x1 pos) (mTup mas) :=
  (pe_tup h).imp fun σ H Q ⟨C, ρ, S, e, s, q⟩ => by
    subst e
    refine ⟨C, ρ, S, rfl, s, ?_⟩
    refine Wants.mono (Wants.bind q) fun ds S1 C1 g r1 e1 q1 vs rv => ?_
    have hn' : vs.length ≤ sizeLine := by rw [← rv.length, hl _ _ _ _ e1, sizeLine_eq]; omega
    exact ⟨hn', newTup r1 rv fun C' g' r' v rv' => q1.1.here g' r' v rv'⟩
theorem se_lst {n : Nat} (h : SA X W es mas) (hl : LenA mas n) (hn : n ≤ 1000) : SE X W (.List es pos) (mLst mas) :=
  (pe_lst h).imp fun σ H Q ⟨C, ρ, S, e, s, q⟩ => by
    subst e
    refine ⟨C, ρ, S, rfl, s, ?_⟩
    refine Wants.mono (Wants.bind q) fun ds S1 C1 g r1 e1 q1 vs rv => ?_
    have hn' : vs.length ≤ sizeLine := by rw [← rv.length, hl _ _ _ _ e1, sizeLine_eq]; omega
    exact ⟨hn', newLst r1 rv fun C' g' r' v rv' => q1.1.here g' r' v rv'⟩
theorem se_cell {n : Nat} (h : SA X W es mas) (hl : LenA mas n) (hn : n ≤ 1000) : SE X W (.List es pos) (mCell mas) :=
  (pe_lst h).imp fun σ H Q ⟨C, ρ, S, e, s, q⟩ => by
    subst e
    refine ⟨C, ρ, S, rfl, s, ?_⟩
    refine Wants.mono (Wants.bind q) fun ds S1 C1 g r1 e1 q1 vs rv => ?_
    have hn' : vs.length ≤ sizeLine := by rw [← rv.length, hl _ _ _ _ e1, sizeLine_eq]; omega
    exact ⟨hn', newCell r1 rv fun C' g' r' v rv' => q1.1.here g' r' v rv'⟩
theorem se_ix (hu : X.A.units + 1 < cLine) (hs : PlainIx b) (ha : SE X W a ma) (hb : SE X W b mb) (hf : Pure2 idxM) : SE X W (.Subscript a b pos) (mOp idxM ma mb) :=
  (pe_ix (ixM hu) ha hb hs).imp fun σ H Q h => op_imp hf h
theorem cf_imp {f : List MV → Sto → R MV} {σ : L2.St} {H : Hp} {Q : VK} (hf : ∀ ds S c d S', f ds S ≠ .exc c d S') (h : tE X W (mCallF f mas) σ H Q) : tCB (rCf X f) (tA X W mas) σ H Q := by
  obtain ⟨C, ρ, S, e, s, q⟩ := h
  subst e
  refine tA.bind s q fun ds S1 C1 vs s1 g1 r1 q1 => ?_
  refine ⟨C1, S1, ds, rfl, s1.w, s1.K, s1.rs, r1, ?_⟩
  cases e : f ds S1 with
  | ok a S' =>
    rw [e] at q1
    exact ⟨a, S', rfl, q1⟩
  | exc c d S' => exact absurd e (hf _ _ _ _ _)
  | stk => rw [e] at q1; exact q1.elim
def Pure1 (f : List MV → Sto → R MV) : Prop := ∀ ds S c d S', f ds S ≠ .exc c d S'
theorem se_callB {x : Str} {id : String} {p : Pos} {f : List MV → Sto → R MV} (hc : CallR X (.builtin id) (rCf X f)) (hf : Pure1 f) (hg : Gl X x) (hm : X.mg x = none) (hv : bootBuiltins x = some (.builtin id)) (ha : SA X W (e :: es) mas) (hn : x ≠ "__name__" := by decide) (hdb : (x == ("__debug__" : Str)) = false := by decide)
    (he : starEach (e :: es) X.env = (false, eval e X.env) :: starEach es X.env := by rfl) (hpl : (backTo pos (starEach es X.env)).any (·.1) = false := by rfl) : SE X W (.Call (.Name x p) (e :: es) [] pos) (mCallF f mas) :=
  (pe_callB hc hg hm hv ha hn hdb he hpl).imp fun σ H Q h => cf_imp hf h
theorem se_callTy {x : Str} {id : String} {p : Pos} {f : List MV → Sto → R MV} (hc : CallR X (.type id) (rCf X f)) (hf : Pure1 f) (hg : Gl X x) (hm : X.mg x = none) (hv : bootBuiltins x = some (.type id)) (ha : SA X W (e :: es) mas) (hn : x ≠ "__name__" := by decide) (hdb : (x == ("__debug__" : Str)) = false := by decide)
    (he : starEach (e :: es) X.env = (false, eval e X.env) :: starEach es X.env := by rfl) (hpl : (backTo pos (starEach es X.env)).any (·.1) = false := by rfl) : SE X W (.Call (.Name x p) (e :: es) [] pos) (mCallF f mas) :=
  (pe_callTy hc hg hm hv ha hn hdb he hpl).imp fun σ H Q h => cf_imp hf h
end
theorem pu_add : Pure2 addM := by
  intro a b S c d S' h
  unfold addM at h
  split at h
  · cases h
  · split at h <;> cases h
  · split at h <;> cases h
  · unfold addL at h
    split at h
    · split at h <;> cases h
    · cases h
theorem pu_sub : Pure2 subM := by intro a b S c d S' h; unfold subM at h; split at h <;> cases h
theorem pu_mod : Pure2 modM := by intro a b S c d S' h; unfold modM at h; split at h; (split at h <;> cases h); cases h
theorem pu_fdiv : Pure2 fdivM := by intro a b S c d S' h; unfold fdivM at h; split at h; (split at h <;> cases h); cases h
theorem pu_pow : Pure2 powM := by intro a b S c d S' h; unfold powM at h; split at h; (split at h <;> cases h); cases h
theorem pu_mul : Pure2 mulM := by
  intro a b S c d S' h
  unfold mulM at h
  split at h
  all_goals first
    | (cases h; done)
    | (split at h <;> first | (cases h; done) | (split at h <;> cases h; done))
theorem pu_eq : Pure2 eqM := by intro a b S c d S' h; unfold eqM at h; split at h <;> cases h
theorem pu_ne : Pure2 neM := by intro a b S c d S' h; unfold neM at h; split at h <;> cases h
theorem pu_is : Pure2 isM := by intro a b S c d S' h; unfold isM at h; split at h <;> cases h
theorem pu_isn : Pure2 isnM := by intro a b S c d S' h; unfold isnM at h; split at h <;> cases h
theorem pu_in : Pure2 inM := by intro a b S c d S' h; unfold inM at h; split at h <;> cases h
theorem pu_nin : Pure2 ninM := by intro a b S c d S' h; unfold ninM at h; split at h <;> cases h
theorem pu_cmpI {f : Int → Int → Bool} : Pure2 (cmpI f) := by intro a b S c d S' h; unfold cmpI at h; split at h <;> cases h
theorem pu_ix : Pure2 idxM := by
  intro a b S c d S' h
  unfold idxM at h
  split at h
  · split at h
    · split at h <;> first | (cases h; done) | (split at h <;> cases h; done)
    · cases h
  · unfold idxD at h
    split at h
    · split at h <;> cases h
    · cases h
end Mi
set_option Elab.async false
set_option linter.all false
set_option maxRecDepth 100000
set_option maxHeartbeats 2000000
namespace Mi
open PySem PySem.Spec PyProof.Rows L2
inductive RS where
  | nx (ρ : Ev) (S : Sto)
  | rt (d : MV) (S : Sto)
  | exc (c : Str) (d : MV) (ρ : Ev) (S : Sto)
  | stk
abbrev MS := Ev → Sto → RS
def WantS (W : WX) (D : Ends) (C : RC) : RS → Prop
  | .nx ρ S => ∀ C' σ', Grow C C' → RepS C' S → EnvR C' ρ σ' → ρ.length = σ'.length → D.nx σ' C'.H
  | .rt d S => ∀ C' v, Grow C C' → RepS C' S → RepV C' d v → D.rt v C'.H
  | .exc c d ρ S => ∀ C' σ' cls dx, Grow C C' → RepS C' S → EnvR C' ρ σ' → ρ.length = σ'.length → ExcR C' c d cls dx → W cls dx σ' C'.H
  | .stk => False
def tS (X : Cx) (W : WX) (m : MS) : TS := fun D σ H => ∃ C ρ S, C.H = H ∧ Sv X ρ σ S C ∧ WantS W D C (m ρ S)
abbrev SS (X : Cx) (W : WX) (st : Stmt) (m : MS) : Prop := PS X st (tS X W m)
abbrev SSs (X : Cx) (W : WX) (st : List Stmt) (m : MS) : Prop := PSs X st (tS X W m)
theorem WantS.grow {W : WX} {D : Ends} {C C1 : RC} {r : RS} (h : WantS W D C r) (g : Grow C C1) : WantS W D C1 r := by
  cases r with
  | nx ρ S => exact fun C' σ' g' r' e l => h C' σ' (g.trans g') r' e l
  | rt d S => exact fun C' v g' r' e => h C' v (g.trans g') r' e
  | exc c d ρ S => exact fun C' σ' cls dx g' r' e l x => h C' σ' cls dx (g.trans g') r' e l x
  | stk => exact h
def R.thn {α : Type} (r : R α) (ρ : Ev) (k : α → Sto → RS) : RS := match r with
  | .ok a S => k a S
  | .exc c d S => .exc c d ρ S
  | .stk => .stk
@[simp] theorem R.thn_ok {α : Type} (a : α) (S : Sto) (ρ : Ev) (f : α → Sto → RS) : (R.ok a S).thn ρ f = f a S := rfl
@[simp] theorem R.thn_exc {α : Type} (c : Str) (d : MV) (S : Sto) (ρ : Ev) (f : α → Sto → RS) : (R.exc c d S : R α).thn ρ f = .exc c d ρ S := rfl
@[simp] theorem R.thn_stk {α : Type} (ρ : Ev) (f : α → Sto → RS) : (R.stk : R α).thn ρ f = .stk := rfl
theorem WantS.thn {α : Type} {X : Cx} {W : WX} {D : Ends} {C : RC} {ρ : Ev} {σ : L2.St} {S : Sto} {r : R α} {k : α → Sto → RS} (s : Sv X ρ σ S C) (h : WantS W D C (r.thn ρ k)) :
    Wants W σ C r (fun a S1 C1 => WantS W D C1 (k a S1) ∧ Grow C C1) := by
  cases r with
  | ok a S' => exact fun C1 g r1 => ⟨WantS.grow h g, g⟩
  | exc c d S' => exact fun C1 cls dx g r1 e => h C1 σ cls dx g r1 (s.ev.grow g s.rs) s.ln e
  | stk => exact h
section
variable {X : Cx} {W : WX} {D : Ends} {σ : L2.St} {C : RC} {ρ : Ev} {S : Sto}
theorem tE.thn {m : ME} {k : MV → Sto → RS} {Q1 : VK} (s : Sv X ρ σ S C) (h : WantS W D C ((m ρ S).thn ρ k))
    (z : ∀ d S1 C1 v, Sv X ρ σ S1 C1 → Grow C C1 → RepV C1 d v → WantS W D C1 (k d S1) → Q1 v C1.H) : tE X W m σ C.H Q1 :=
  ⟨C, ρ, S, rfl, s, (WantS.thn s h).mono fun d S1 C1 g r _ q v hv => z d S1 C1 v (s.grow g r) g hv q.1⟩
theorem tT.thn {m : MT} {k : Bool → Sto → RS} {Q1 : Bool → Hp → Prop} (s : Sv X ρ σ S C) (h : WantS W D C ((m ρ S).thn ρ k))
    (z : ∀ d S1 C1, Sv X ρ σ S1 C1 → Grow C C1 → WantS W D C1 (k d S1) → Q1 d C1.H) : tT X W m σ C.H Q1 :=
  ⟨C, ρ, S, rfl, s, (WantS.thn s h).mono fun d S1 C1 g r _ q => z d S1 C1 (s.grow g r) g q.1⟩
end
def mNext : MS := fun ρ S => .nx ρ S
def mSeq (a b : MS) : MS := fun ρ S => match a ρ S with
  | .nx ρ1 S1 => b ρ1 S1
  | r => r
def mIfS (c : MT) (a b : MS) : MS := fun ρ S => (c ρ S).thn ρ fun x S1 => if x then a ρ S1 else b ρ S1
def mRet (e : ME) : MS := fun ρ S => (e ρ S).thn ρ fun d S1 => .rt d S1
def mDrop (e : ME) : MS := fun ρ S => (e ρ S).thn ρ fun _ S1 => .nx ρ S1
/-- targets -/
structure Tg where
  f : MV → Ev → Option Ev
  ix : List Nat
structure Tgs where
  f : List MV → Ev → Option Ev
  ix : List Nat
  n : Nat
def oS (o : Option Ev) (S : Sto) : RS := match o with
  | some ρ => .nx ρ S
  | none => .stk
def mAsg (e : ME) (g : Tg) : MS := fun ρ S => (e ρ S).thn ρ fun d S1 => oS (g.f d ρ) S1
def tgName (i : Nat) : Tg := ⟨fun d ρ => some (ρ.set i (some d)), [i]⟩
def tgNil : Tgs := ⟨fun ds ρ => match ds with
  | [] => some ρ
  | _ => none, [], 0⟩
def tgCons (t : Tg) (u : Tgs) : Tgs := ⟨fun ds ρ => match ds with
  | d :: r => (t.f d ρ).bind (u.f r)
  | [] => none, t.ix ++ u.ix, u.n + 1⟩
def tgTup (u : Tgs) : Tg := ⟨fun d ρ => match d with
  | .tup xs => if xs.length = u.n then u.f xs ρ else none
  | _ => none, u.ix⟩
def tG (X : Cx) (t : Tg) : TG := fun v σ H Q => ∃ C ρ S d ρ', C.H = H ∧ Sv X ρ σ S C ∧ RepV C d v ∧ t.f d ρ = some ρ' ∧ ∀ σ', EnvR C ρ' σ' → ρ'.length = σ'.length → σ'.length = σ.length → (∀ vs, (∀ i ∈ t.ix, i ∈ vs) → wipe σ' vs = wipe σ vs) → Q σ' H
def tGs (X : Cx) (t : Tgs) : TGs := fun vs σ H Q => ∃ C ρ S ds ρ', C.H = H ∧ Sv X ρ σ S C ∧ RepVs C ds vs ∧ t.f ds ρ = some ρ' ∧ ∀ σ', EnvR C ρ' σ' → ρ'.length = σ'.length → σ'.length = σ.length → (∀ vs, (∀ i ∈ t.ix, i ∈ vs) → wipe σ' vs = wipe σ vs) → Q σ' H
theorem _root_.L2.PG.imp {X : Cx} {tg : Expr} {t t' : TG} (h : PG X tg t) (k : ∀ v σ H Q, t' v σ H Q → t v σ H Q) : PG X tg t' := ⟨fun pins s σ H v u Q I r q => h.run pins s σ H v u Q I r (k v σ H Q q)⟩
theorem _root_.L2.PGs.imp {X : Cx} {tg : List Expr} {t t' : TGs} (h : PGs X tg t) (k : ∀ v σ H Q, t' v σ H Q → t v σ H Q) : PGs X tg t' := ⟨fun pins s σ H v u Q I r q => h.run pins s σ H v u Q I r (k v σ H Q q)⟩
abbrev SG (X : Cx) (tg : Expr) (t : Tg) : Prop := PG X tg (tG X t)
abbrev SGs (X : Cx) (tg : List Expr) (t : Tgs) : Prop := PGs X tg (tGs X t)
theorem wipe_get (σ : L2.St) : ∀ (vs : List Nat) (j : Nat), (wipe σ vs)[j]? = if j ∈ vs then (σ[j]?).map (fun _ => none) else σ[j]?
  | [], j => by simp [wipe]
  | v :: vs, j => by
    unfold wipe
    by_cases hj : v = j
    · subst hj
      by_cases hl : v < (wipe σ vs).length
      · rw [List.getElem?_set_self hl]
        have : v < σ.length := by rw [wipe_length] at hl; exact hl
        simp [this]
      · rw [List.getElem?_eq_none (by simpa using hl)]
        have : ¬ v < σ.length := by rw [wipe_length] at hl; exact hl
        simp [this]
    · rw [List.getElem?_set_ne hj, wipe_get σ vs j]
      have : (j ∈ v :: vs) ↔ j ∈ vs := by simp [Ne.symm hj]
      simp only [this]
theorem wipe_set (σ : L2.St) (i : Nat) (x : Option V) (vs : List Nat) (h : i ∈ vs) : wipe (σ.set i x) vs = wipe σ vs := by
  apply List.ext_getElem?; intro j
  rw [wipe_get, wipe_get]
  by_cases hj : j ∈ vs
  · rw [if_pos hj, if_pos hj]
    by_cases e : i = j
    · subst e
      by_cases hl : i < σ.length
      · simp [hl]
      · simp [hl]
    · rw [List.getElem?_set_ne e]
  · rw [if_neg hj, if_neg hj, List.getElem?_set_ne (fun e => hj (by rw [← e]; exact h))]
theorem wipe_wipe (σ : L2.St) (vs : List Nat) : wipe (wipe σ vs) vs = wipe σ vs := by
  apply List.ext_getElem?; intro j
  rw [wipe_get, wipe_get]
  by_cases hj : j ∈ vs
  · rw [if_pos hj, if_pos hj]
    cases σ[j]? <;> rfl
  · rw [if_neg hj, if_neg hj]
section
variable {X : Cx} {W : WX} {a b c e : Expr} {es : List Expr} {me : ME} {mt : MT} {pos : Pos} {st : Stmt} {sts sts' : List Stmt} {m m1 m2 : MS}
theorem sg_name {i : Nat} {x : Str} (hN : X.N.Nodup) (hi : X.N[i]? = some x) (hx : Loc X.env.scope x) (hf : X.fn x = true ∨ X.env.scope.names.lookup x = some .local := by first | exact .inl rfl | exact .inr rfl | assumption) : SG X (.Name x pos) (tgName i) :=
  (pg_name hN hi hx hf).imp fun v σ H Q ⟨C, ρ, S, d, ρ', e, s, r, e1, q⟩ => by
    subst e
    have e1 : some (ρ.set i (some d)) = some ρ' := e1
    cases e1
    exact q _ (s.ev.set s.ln r) (by simp [s.ln]) (by simp) fun vs h => wipe_set σ i _ vs (h i (by simp [tgName]))
theorem sgs_nil : SGs X [] tgNil := pgs_nil.imp fun v σ H Q ⟨C, ρ, S, d, ρ', e, s, r, e1, q⟩ => by
  subst e
  cases d with
  | nil =>
    have e1 : some ρ = some ρ' := e1
    cases e1
    rw [r.nil_inv]
    exact ⟨rfl, q σ s.ev s.ln rfl fun _ _ => rfl⟩
  | cons x xs => cases e1
theorem sgs_cons {t : Tg} {u : Tgs} (h1 : SG X e t) (h2 : SGs X es u) (hs : (assignEach (e :: es) X.env).map (·.2) = assign e X.env :: (assignEach es X.env).map (·.2) := by rfl) : SGs X (e :: es) (tgCons t u) :=
  (pgs_cons h1 h2 hs).imp fun v σ H Q ⟨C, ρ, S, d, ρ', e, s, r, e1, q⟩ => by
    subst e
    cases d with
    | nil => cases e1
    | cons x xs =>
      obtain ⟨v1, vr, rfl, r1, r2⟩ := r.cons_inv
      have e1 : (t.f x ρ).bind (u.f xs) = some ρ' := e1
      cases e2 : t.f x ρ with
      | none => rw [e2] at e1; cases e1
      | some ρ1 =>
        rw [e2] at e1
        have e1 : u.f xs ρ1 = some ρ' := e1
        refine ⟨v1, vr, rfl, C, ρ, S, x, ρ1, rfl, s, r1, e2, fun σ1 ev1 l1 l1' w1 => ?_⟩
        refine ⟨C, ρ1, S, xs, ρ', rfl, ⟨s.w, s.K, s.rs, ev1, l1⟩, r2, e1, fun σ2 ev2 l2 l2' w2 => q σ2 ev2 l2 (l2'.trans l1') fun vs hv => ?_⟩
        rw [w2 vs fun i hi => hv i (List.mem_append_right _ hi), w1 vs fun i hi => hv i (List.mem_append_left _ hi)]
theorem sg_tup {k : Nat} {u : Tgs} (hc : X.calm = true) (h : SGs X es u) (hn : (assignEach es X.env).length = u.n := by rfl) (hst : (assignEach es X.env).findIdx? (·.1) = none := by rfl) : SG X (.Tuple es k pos) (tgTup u) :=
  (pg_tup hc h hn hst).imp fun v σ H Q ⟨C, ρ, S, d, ρ', e, s, r, e1, q⟩ => by
    subst e
    cases d with
    | tup xs =>
      have e1 : (if xs.length = u.n then u.f xs ρ else none) = some ρ' := e1
      split at e1
      · rename_i hl
        rw [RepV] at r
        obtain ⟨p, vs, rfl, sq, t⟩ := r
        rw [s.K] at sq
        exact ⟨p, vs, rfl, sq, by rw [← t.length, hl], C, ρ, S, xs, ρ', rfl, s, t, e1, q⟩
      · cases e1
    | _ => cases e1
theorem ss_asg {g : Tg} (he : SE X W e me) (hg : SG X a g) (hs : swapsWithSole [a] e pos.line X.env = pure false := by rfl) (hw : swappedStores [a] e X.env = pure none := by rfl)
    (h1 : (assignEach [a] X.env).map (·.2) = [assign a X.env] := by rfl) : SS X W (.Assign [a] e pos) (mAsg me g) :=
  (ps_asg he hg hs hw h1).imp fun D σ H ⟨C, ρ, S, e, s, q⟩ => by
    subst e
    refine tE.thn s q fun d S1 C1 v s1 g1 r1 q1 => ?_
    unfold oS at q1
    split at q1
    · rename_i ρ' e1
      exact ⟨C1, ρ, S1, d, ρ', rfl, s1, r1, e1, fun σ' ev l _ _ => q1 C1 σ' Grow.refl s1.rs ev l⟩
    · exact q1.elim
theorem ss_set {i : Nat} {x : Str} {pos' : Pos} (hN : X.N.Nodup) (hi : X.N[i]? = some x) (hx : Loc X.env.scope x) (he : SE X W e me) (hs : swapsWith e (some (.Name x pos')) pos.line X.env = pure false := by rfl) (hf : X.fn x = true ∨ X.env.scope.names.lookup x = some .local := by first | exact .inl rfl | exact .inr rfl | assumption) :
    SS X W (.Assign [.Name x pos'] e pos) (mAsg me (tgName i)) :=
  (ps_set hN hi hx he hs hf).imp fun D σ H ⟨C, ρ, S, e, s, q⟩ => by
    subst e
    refine tE.thn s q fun d S1 C1 v s1 g1 r1 q1 => ?_
    exact q1 C1 _ Grow.refl s1.rs (s1.ev.set s1.ln r1) (by simp [s1.ln])
theorem sss_nil : SSs X W [] mNext := pss_nil.imp fun D σ H ⟨C, ρ, S, e, s, q⟩ => by
  subst e
  exact q C σ Grow.refl s.rs s.ev s.ln
theorem sss_cons (h1 : SS X W st m1) (h2 : SSs X W sts m2) : SSs X W (st :: sts) (mSeq m1 m2) :=
  (pss_cons h1 h2).imp fun D σ H ⟨C, ρ, S, e, s, q⟩ => by
    subst e
    refine ⟨C, ρ, S, rfl, s, ?_⟩
    unfold mSeq at q
    cases e : m1 ρ S with
    | nx ρ1 S1 =>
      rw [e] at q
      exact fun C' σ' g r ev l => ⟨C', ρ1, S1, rfl, ⟨g.w.trans s.w, g.K.trans s.K, r, ev, l⟩, q.grow g⟩
    | rt d S1 => rw [e] at q; exact q
    | exc c d ρ1 S1 => rw [e] at q; exact q
    | stk => rw [e] at q; exact q
theorem sss_one (h1 : SS X W st m1) : SSs X W [st] m1 := pss_one h1
theorem ss_if (hc : ST X W c mt) (ha : SSs X W sts m1) (hb : SSs X W sts' m2) : SS X W (.If c sts sts' pos) (mIfS mt m1 m2) :=
  (ps_if hc ha hb).imp fun D σ H ⟨C, ρ, S, e, s, q⟩ => by
    subst e
    refine tT.thn s q fun d S1 C1 s1 g1 q1 => ?_
    cases d with
    | true => rw [if_pos rfl] at q1 ⊢; exact ⟨C1, ρ, S1, rfl, s1, q1⟩
    | false => rw [if_neg (by decide)] at q1 ⊢; exact ⟨C1, ρ, S1, rfl, s1, q1⟩
theorem ss_ret (he : SE X W e me) : SS X W (.Return (some e) pos) (mRet me) :=
  (ps_ret he).imp fun D σ H ⟨C, ρ, S, e, s, q⟩ => by
    subst e
    exact tE.thn s q fun d S1 C1 v s1 g1 r1 q1 => q1 C1 v Grow.refl s1.rs r1
theorem ss_expr (he : SE X W e me) (hs : swapsWith e none pos.line X.env = pure false := by rfl) : SS X W (.Expr e pos) (mDrop me) :=
  (ps_expr he hs).imp fun D σ H ⟨C, ρ, S, e, s, q⟩ => by
    subst e
    exact tE.thn s q fun d S1 C1 v s1 g1 r1 q1 => q1 C1 σ Grow.refl s1.rs s1.ev s1.ln
end
abbrev MF := List MV → Sto → R MV
def spM (w : World) (K : PySem.W.Frag) (n : Nat) (m : MF) : Sp := fun vs H Q E => vs.length = n ∧ ∃ C S ds, C.H = H ∧ C.w = w ∧ C.K = K ∧ RepS C S ∧ RepVs C ds vs ∧
  Wants (fun cls dx _ H' => E cls dx H') [] C (m ds S) (fun d _ C' => ∀ v, RepV C' d v → Q v C'.H)
theorem Wants.wish {α : Type} {W W' : WX} {σ σ' : L2.St} {C : RC} {r : R α} {Q : α → Sto → RC → Prop} (h : Wants W σ C r Q) (k : ∀ cls dx H, W cls dx σ H → W' cls dx σ' H) : Wants W' σ' C r Q := by
  cases r with
  | ok a S => exact h
  | exc c d S => exact fun C' cls dx g r e => k _ _ _ (h C' cls dx g r e)
  | stk => exact h
def toR : RS → R MV
  | .nx _ S => .ok .non S
  | .rt d S => .ok d S
  | .exc c d _ S => .exc c d S
  | .stk => .stk
def ev0 (N : Nat) (ds : List MV) : Ev := ds.map some ++ List.replicate (N - ds.length) none
def mFn (N : Nat) (body : MS) : MF := fun ds S => toR (body (ev0 N ds) S)
section
variable {X : Cx} {W : WX} {e : Expr} {es : List Expr} {mas : MA} {pos p : Pos} {k : Nat} {f : Addr} {fd : FuncData} {ps : List Str} {x : Str} {m : MF}
theorem se_call {n : Nat} (F : FnOk X.prog X.w X.K X.mg X.base (L2.CX X.prog X.w) k f fd ps (spM X.w X.K n m)) (hr : Room k X.A) (hg : Gl X x) (hm : X.mg x = some (.ref f)) (hk : PySem.W.keepIn X.K (.ref f) = true) (hb : Binds X.K fd ps []) (tk : Takes X W)
    (ha : SA X W (e :: es) mas) (hl : LenA mas n) (hdb : (x == ("__debug__" : Str)) = false := by decide) (he : starEach (e :: es) X.env = (false, eval e X.env) :: starEach es X.env := by rfl) (hpl : (backTo pos (starEach es X.env)).any (·.1) = false := by rfl) :
    SE X W (.Call (.Name x p) (e :: es) [] pos) (mCallF m mas) :=
  (pe_callS (E := WE W) F hr hg hm hk hb (passAt tk) ha hdb he hpl).imp fun σ H Q ⟨C, ρ, S, e, s, q⟩ => by
    subst e
    refine ⟨C, ρ, S, rfl, s, ?_⟩
    refine Wants.mono (Wants.bind q) fun ds S1 C1 g r1 e1 q1 vs rv => ?_
    refine ⟨by rw [← rv.length]; exact hl _ _ _ _ e1, C1, S1, ds, rfl, g.w.trans s.w, g.K.trans s.K, r1, rv, ?_⟩
    exact q1.1.wish fun cls dx H h => h
theorem se_call0 (F : FnOk X.prog X.w X.K X.mg X.base (L2.CX X.prog X.w) k f fd ps (spM X.w X.K 0 m)) (hr : Room k X.A) (hg : Gl X x) (hm : X.mg x = some (.ref f)) (hk : PySem.W.keepIn X.K (.ref f) = true) (hb : Binds X.K fd ps [])
    (hpure : ∀ S c d S', m [] S ≠ .exc c d S') (hdb : (x == ("__debug__" : Str)) = false := by decide) :
    SE X W (.Call (.Name x p) [] [] pos) (mCallF m mNil) :=
  (pe_call0 (E := fun _ _ _ => False) (dvs := []) (ds := []) F hr hg hm hk hb .nil (fun pins σ H s e s' I c => by
    obtain ⟨_, _, _, _, _, _, _, _, _, _, _, _, h⟩ := c
    exact h.elim) hdb).imp fun σ H Q ⟨C, ρ, S, e, s, q⟩ => by
    subst e
    refine ⟨rfl, C, S, [], rfl, s.w, s.K, s.rs, .nil, ?_⟩
    have q : Wants W σ C (m [] S) (fun d _ C' => ∀ v, RepV C' d v → Q v C'.H) := q
    cases e : m [] S with
    | ok d S' => rw [e] at q; exact q
    | exc c d S' => exact absurd e (hpure _ _ _ _)
    | stk => rw [e] at q; exact q
end
theorem env_start {C : RC} {ds : List MV} {vs : List V} {N : List Str} (t : RepVs C ds vs) : EnvR C (ev0 N.length ds) (L2.start N vs) := fun i d e => by
  unfold ev0 at e
  by_cases hi : i < ds.length
  · rw [List.getElem?_append_left (by simpa using hi), List.getElem?_map] at e
    cases e1 : ds[i]? with
    | none => rw [e1] at e; cases e
    | some d' =>
      rw [e1] at e
      have : d' = d := by simpa using e
      subst this
      obtain ⟨v, h1, h2⟩ := t.get e1
      refine ⟨v, ?_, h2⟩
      unfold L2.start
      have hv : i < vs.length := by rw [← t.length]; exact hi
      rw [List.getElem?_append_left (by simpa using hv), List.getElem?_map, h1]
      rfl
  · rw [List.getElem?_append_right (by simpa using hi), List.getElem?_replicate] at e
    split at e <;> cases e
/-- a def's body gives its promise -/
theorem body_ok {X : Cx} {body : List Stmt} {m : MS} {N : List Str} {vs : List V} {H : Hp} {Q : VK} {E : XK} {n : Nat} (hN : n ≤ N.length) (hb : SSs X (fun cls dx _ H' => E cls dx H') body m) (hsp : spM X.w X.K n (mFn N.length m) vs H Q E) :
    ∃ t, PSs X body t ∧ t { nx := fun _ H' => Q .non H', rt := Q } (L2.start N vs) H := by
  refine ⟨_, hb, ?_⟩
  obtain ⟨hl, C, S, ds, rfl, hw, hK, r, t, q⟩ := hsp
  have hld := t.length
  refine ⟨C, ev0 N.length ds, S, rfl, ⟨hw, hK, r, env_start t, ?_⟩, ?_⟩
  · unfold ev0 L2.start
    simp [hld]
  · unfold mFn at q
    cases e : m (ev0 N.length ds) S with
    | nx ρ S1 =>
      rw [e] at q
      exact fun C' σ' g r' ev l => q C' g r' .non repN
    | rt d S1 => rw [e] at q; exact fun C' v g r' rv => q C' g r' v rv
    | exc c d ρ S1 => rw [e] at q; exact fun C' σ' cls dx g r' ev l x => q C' cls dx g r' x
    | stk => rw [e] at q; exact q
end Mi
set_option Elab.async false
set_option linter.all false
set_option maxRecDepth 100000
set_option maxHeartbeats 2000000
namespace Mi
open PySem PySem.Spec PyProof.Rows L2
def SqK (K : PySem.W.Frag) : Bool → Hp → Addr → List V → Prop
  | true, H, a, xs => SqT K H a xs
  | false, H, a, xs => SqL K H a xs
def ItK : Bool → Heap → Addr → Addr → Nat → Prop
  | true, h, it, a, i => h.IsTupleIter it a i
  | false, h, it, a, i => h.IsListIter it a i
def CoK : Bool → Heap → Addr → Array Value → Prop
  | true, h, a, its => h.IsTuple a its
  | false, h, a, its => h.IsList a its
def obK : Bool → Addr → Obj
  | true, a => { cls := .type "tuple_iterator", data := .fields #[.ref a, .int 0 0] }
  | false, a => { cls := .type "list_iterator", data := .fields #[.ref a, .int 0 0] }
theorem drawsK {prog : Program} {w : World} {A : Around} (hh : A.handled = none) (it a : Addr) (hne : a ≠ it) : ∀ (t : Bool) (items : Array Value),
    Draws prog w A it [it, a] items.size (fun i v => items[i]? = some v) (fun i h => ItK t h it a i ∧ CoK t h a items)
  | true, items => Draws.tuple hh it a hne items
  | false, items => Draws.list hh it a hne items
theorem beginsK (a : Addr) (items : Array Value) : ∀ t : Bool, Begins (.ref a) (obK t a) fun h => CoK t h a items
  | true => begins_tuple a items
  | false => begins_list a items
theorem itK_new {h : Heap} {it a : Addr} : ∀ {t : Bool}, h.get? it = some (obK t a) → ItK t h it a 0
  | true, e => ⟨_, e, rfl, rfl⟩
  | false, e => ⟨_, e, rfl, rfl⟩
theorem itK_obj {h : Heap} {it a : Addr} {i : Nat} : ∀ {t : Bool}, ItK t h it a i → ∃ o, h.get? it = some o ∧ ∀ v, o.data ≠ .cell v
  | true, ⟨o, e, _, d⟩ => ⟨o, e, fun v z => by rw [d] at z; cases z⟩
  | false, ⟨o, e, _, d⟩ => ⟨o, e, fun v z => by rw [d] at z; cases z⟩
theorem itK_at {h h' : Heap} {it a : Addr} {i : Nat} : ∀ {t : Bool}, ItK t h it a i → (∀ o, h.get? it = some o → h'.get? it = some o) → ItK t h' it a i
  | true, st, k => Heap.IsTupleIter.at st k
  | false, st, k => Heap.IsListIter.at st k
section
variable {X : Cx} {pins : List (Addr × Obj)} {σ : L2.St} {H : Hp} {s : Shared} {a : Addr} {xs ys : List V}
theorem seqK (I : Inv X pins σ H s) : ∀ {t : Bool}, SqK X.K t H a xs → ∃ its : List Value, Vals xs its ∧ CoK t s.heap a its.toArray ∧ a < s.heap.objs.size
  | true, h => by
    obtain ⟨its, rv, p, _⟩ := I.tuple h
    obtain ⟨o, e, _⟩ := id p
    exact ⟨its, rv, p, Heap.lt_size e⟩
  | false, h => by
    obtain ⟨its, rv, p, _⟩ := I.list h
    exact ⟨its, rv, p.isList, p.lt⟩
theorem injK (I : Inv X pins σ H s) : ∀ {t : Bool}, SqK X.K t H a xs → SqK X.K t H a ys → xs = ys
  | true, h, h' => I.tuple_inj h h'
  | false, h, h' => I.list_inj h h'
end
/-- two sources, three sources, the items in a new tuple -/
def ItZ2 (K : PySem.W.Frag) (t1 t2 : Bool) (a b : Addr) : It :=
  ⟨fun i H => ∃ (xs ys : List V) (x y : V), SqK K t1 H a xs ∧ SqK K t2 H b ys ∧ xs[i]? = some x ∧ ys[i]? = some y,
    fun i H v H' => ∃ T x y, v = .ref T ∧ H T = none ∧ H' = upd H T (.tup [x, y]) ∧ (∀ xs, SqK K t1 H a xs → xs[i]? = some x) ∧ ∀ ys, SqK K t2 H b ys → ys[i]? = some y,
    fun i H => ∃ xs ys : List V, SqK K t1 H a xs ∧ SqK K t2 H b ys ∧ i ≤ xs.length ∧ i ≤ ys.length ∧ (i = xs.length ∨ i = ys.length)⟩
def ItZ3 (K : PySem.W.Frag) (t1 t2 t3 : Bool) (a b c : Addr) : It :=
  ⟨fun i H => ∃ (xs ys zs : List V) (x y z : V), SqK K t1 H a xs ∧ SqK K t2 H b ys ∧ SqK K t3 H c zs ∧ xs[i]? = some x ∧ ys[i]? = some y ∧ zs[i]? = some z,
    fun i H v H' => ∃ T x y z, v = .ref T ∧ H T = none ∧ H' = upd H T (.tup [x, y, z]) ∧ (∀ xs, SqK K t1 H a xs → xs[i]? = some x) ∧ (∀ ys, SqK K t2 H b ys → ys[i]? = some y) ∧ ∀ zs, SqK K t3 H c zs → zs[i]? = some z,
    fun i H => ∃ xs ys zs : List V, SqK K t1 H a xs ∧ SqK K t2 H b ys ∧ SqK K t3 H c zs ∧ i ≤ xs.length ∧ i ≤ ys.length ∧ i ≤ zs.length ∧ (i = xs.length ∨ i = ys.length ∨ i = zs.length)⟩
def ItE (K : PySem.W.Frag) (t1 : Bool) (a : Addr) : It :=
  ⟨fun i H => ∃ (xs : List V) (x : V), SqK K t1 H a xs ∧ xs[i]? = some x,
    fun i H v H' => ∃ T x, v = .ref T ∧ H T = none ∧ H' = upd H T (.tup [.int (i : Nat), x]) ∧ (∀ xs, SqK K t1 H a xs → xs[i]? = some x),
    fun i H => ∃ xs : List V, SqK K t1 H a xs ∧ i = xs.length⟩
theorem lenT {xs : List V} {its : List Value} {i : Nat} {x : V} (rv : Vals xs its) (h : xs[i]? = some x) : i < its.toArray.size := by
  have := (List.getElem?_eq_some_iff.mp h).1
  have := rv.length
  simp; omega
theorem itemT {xs : List V} {its : List Value} {i : Nat} {x : V} {u : Value} (rv : Vals xs its) (h : xs[i]? = some x) (hu : its.toArray[i]? = some u) : RelV x u := by
  obtain ⟨u', hu', ru⟩ := rv.get h
  have : u' = u := by
    have e : its[i]? = some u := by simpa using hu
    rw [hu'] at e; cases e; rfl
  rw [← this]; exact ru
structure NewWalk (P : Program) (w : World) (K : PySem.W.Frag) (tg : Expr) (J : It) (fp : List Addr) (I : Addr) (tn : Nat → Heap → Prop) : Prop where
  inI : I ∈ fp
  cells : ∀ i h, tn i h → ∀ b ∈ fp, ∃ o, h.get? b = some o ∧ ∀ v, o.data ≠ .cell v
  stay : ∀ i h h', tn i h → (∀ b ∈ fp, ∀ o, h.get? b = some o → h'.get? b = some o) → tn i h'
  own : ∀ (A : Around) (i : Nat) (s : Shared) (Q : Value → Shared → Prop) (E : Value → Shared → Prop), tn i s.heap → Q (.ref I) s → wpAny (model P w) A (pyIter (.ref I)) Q E s
  more : ∀ (X : Cx) (i : Nat) (pins : List (Addr × Obj)) (s : Shared) (σ : L2.St) (H : Hp), X.prog = P → X.w = w → X.K = K → X.A.in1.handled = none → Inv X pins σ H s →
    (∀ b ∈ fp, FpOk X pins H b ∧ b < s.heap.objs.size) → tn i s.heap → J.go i H →
    ∃ (gf wr : List Addr) (n : Nat) (Y : Nat → Heap → Value → Heap → Prop) (St : Nat → Heap → Prop), GoesN P w X.A tg I gf wr n Y St ∧ i < n ∧ St i s.heap ∧
      ∀ v h' tk, Y i s.heap v h' → St (i + 1) h' → (∀ b o, b ∉ wr → s.heap.get? b = some o → h'.get? b = some o) →
        ∃ x H', Inv X pins σ H' { s with heap := h', toks := tk } ∧ RelV x v ∧ J.yld i H x H' ∧ tn (i + 1) h' ∧ ∀ b ∈ fp, H' b = none
  last : ∀ (X : Cx) (i : Nat) (pins : List (Addr × Obj)) (s : Shared) (σ : L2.St) (H : Hp), X.prog = P → X.w = w → X.K = K → X.A.in1.handled = none → Inv X pins σ H s → tn i s.heap → J.stop i H →
    ∃ (gf wr : List Addr) (n : Nat) (Y : Nat → Heap → Value → Heap → Prop) (St : Nat → Heap → Prop), GoesN P w X.A tg I gf wr n Y St ∧ St n s.heap ∧ ∀ b ∈ wr, b ∈ fp
theorem NewWalk.turn {P : Program} {w : World} {K : PySem.W.Frag} {tg : Expr} {J : It} {fp : List Addr} {I : Addr} {tn : Nat → Heap → Prop} (N : NewWalk P w K tg J fp I tn) : Turn P w K tg J fp I tn := by
  refine ⟨N.inI, N.cells, N.stay, ?_, ?_, N.own⟩
  · intro X eP ew eK calm i pins s σ H E inv fresh now go
    have hh : X.A.in1.handled = none := inv.ok.hd calm
    obtain ⟨gf, wr, n, Y, St, G, lt, st, k⟩ := N.more X i pins s σ H eP ew eK hh inv (fun b hb => ⟨fresh b hb, by
      obtain ⟨o, ho, _⟩ := N.cells i s.heap now b hb
      exact Heap.lt_size ho⟩) now go
    exact G.goes i s _ E lt st fun v h' tk y st' kept _ => k v h' tk y st' kept
  · intro X eP ew eK calm i pins s σ H E inv fresh now over
    have hh : X.A.in1.handled = none := inv.ok.hd calm
    obtain ⟨gf, wr, n, Y, St, G, st, sub⟩ := N.last X i pins s σ H eP ew eK hh inv now over
    exact G.stops s _ E st fun h' tk kept _ => inv.turnedL (fun b o nb => kept b o fun m => nb (sub b m)) fresh
/-- one new tuple -/
theorem one_new {X : Cx} {pins : List (Addr × Obj)} {s : Shared} {σ : L2.St} {H : Hp} {fp wr : List Addr} {T : Addr} {h' : Heap} {tk : Tok} {xs : List V} {us : List Value} (inv : Inv X pins σ H s) (fresh : ∀ b ∈ fp, FpOk X pins H b ∧ b < s.heap.objs.size)
    (sub : ∀ b ∈ wr, b ∈ fp) (kept : ∀ b o, b ∉ wr → s.heap.get? b = some o → h'.get? b = some o) (hT : s.heap.objs.size ≤ T) (tup : h'.IsTuple T us.toArray) (rv : Vals xs us) (sz : xs.length ≤ sizeLine) :
    Inv X pins σ (upd H T (.tup xs)) { s with heap := h', toks := tk } ∧ H T = none ∧ ∀ b ∈ fp, upd H T (.tup xs) b = none :=
  ⟨inv.turnedNew (fun b o nb => kept b o fun m => nb (sub b m)) (fun b hb => (fresh b hb).1) hT ⟨sz, us, rv, tup⟩, inv.hok.fresh hT, fun b hb => by
    rw [upd_ne fun e => Nat.lt_irrefl b (Nat.lt_of_lt_of_le (fresh b hb).2 (by rw [e]; exact hT))]
    exact (fresh b hb).1.1⟩
section
variable {P : Program} {w : World} {K : PySem.W.Frag} {elts : List Expr} {kk : Nat} {tpos : Pos} {t1 t2 t3 : Bool} {a b c z e it TI TO i1 i2 i3 : Addr}
theorem walk_z2 (D : ZipSep2 z TI TO i1 i2 [i1, a] [i2, b]) (na : a ≠ i1) (nb : b ≠ i2) : NewWalk P w K (.Tuple elts kk tpos) (ItZ2 K t1 t2 a b) [z, TI, TO, i1, i2] z
    (fun i h => IsZip h z TI TO .none ∧ IsTupOf2 h TI (.ref i1) (.ref i2) ∧ (∃ x y, IsTupOf2 h TO x y) ∧ ItK t1 h i1 a i ∧ ItK t2 h i2 b i) where
  inI := List.mem_cons_self
  cells := by
    rintro i h ⟨oz, oI, ⟨x, y, oO⟩, o1, o2⟩ d hd
    simp only [List.mem_cons, List.not_mem_nil, or_false] at hd
    rcases hd with rfl | rfl | rfl | rfl | rfl
    · exact ⟨_, oz, nofun⟩
    · exact ⟨_, oI, nofun⟩
    · exact ⟨_, oO, nofun⟩
    · exact itK_obj o1
    · exact itK_obj o2
  stay := by
    rintro i h h' ⟨oz, oI, ⟨x, y, oO⟩, o1, o2⟩ k
    simp only [List.mem_cons, List.not_mem_nil, or_false, forall_eq_or_imp, forall_eq] at k
    exact ⟨k.1 _ oz, k.2.1 _ oI, ⟨x, y, k.2.2.1 _ oO⟩, itK_at o1 k.2.2.2.1, itK_at o2 k.2.2.2.2⟩
  own := fun A i s Q E st => wpAny_pyIter_zip st.1
  more := by
    rintro X i pins s σ H rfl rfl rfl hh inv fresh ⟨oz, oI, oO, o1, o2⟩ ⟨xs, ys, x, y, qx, qy, ex, ey⟩
    obtain ⟨us, ru, pu, _⟩ := seqK inv qx
    obtain ⟨vs, rv, pv, _⟩ := seqK inv qy
    refine ⟨_, _, _, _, _, GoesN.zip2 D (drawsK hh i1 a na t1 us.toArray) (drawsK hh i2 b nb t2 vs.toArray), Nat.lt_min.mpr ⟨lenT ru ex, lenT rv ey⟩, ⟨oz, oI, oO, ⟨o1, pu⟩, ⟨o2, pv⟩⟩, ?_⟩
    rintro v h' tk ⟨T, u, u', rfl, hT, eu, eu', tup⟩ ⟨oz', oI', oO', ⟨o1', _⟩, ⟨o2', _⟩⟩ kept
    obtain ⟨J1, J2, J3⟩ := one_new (tk := tk) (us := [u, u']) inv fresh (by simp) kept hT tup (.cons (itemT ru ex eu) (.cons (itemT rv ey eu') .nil)) (show 2 ≤ sizeLine by decide)
    exact ⟨.ref T, _, J1, rfl, ⟨T, x, y, rfl, J2, rfl, fun l q => injK inv q qx ▸ ex, fun l q => injK inv q qy ▸ ey⟩, ⟨oz', oI', oO', o1', o2'⟩, J3⟩
  last := by
    rintro X i pins s σ H rfl rfl rfl hh inv ⟨oz, oI, oO, o1, o2⟩ ⟨xs, ys, qx, qy, k1, k2, hend⟩
    obtain ⟨us, ru, pu, _⟩ := seqK inv qx
    obtain ⟨vs, rv, pv, _⟩ := seqK inv qy
    have em : min us.toArray.size vs.toArray.size = i := by
      have := ru.length
      have := rv.length
      simp only [List.size_toArray]
      omega
    refine ⟨_, _, _, _, _, GoesN.zip2 D (drawsK hh i1 a na t1 us.toArray) (drawsK hh i2 b nb t2 vs.toArray), ?_, by simp⟩
    rw [em]
    exact ⟨oz, oI, oO, ⟨o1, pu⟩, ⟨o2, pv⟩⟩
theorem walk_z3 (D : ZipSep3 z TI TO i1 i2 i3 [i1, a] [i2, b] [i3, c]) (na : a ≠ i1) (nb : b ≠ i2) (nc : c ≠ i3) : NewWalk P w K (.Tuple elts kk tpos) (ItZ3 K t1 t2 t3 a b c) [z, TI, TO, i1, i2, i3] z
    (fun i h => IsZip h z TI TO .none ∧ IsTupOf3 h TI (.ref i1) (.ref i2) (.ref i3) ∧ (∃ x y v, IsTupOf3 h TO x y v) ∧ ItK t1 h i1 a i ∧ ItK t2 h i2 b i ∧ ItK t3 h i3 c i) where
  inI := List.mem_cons_self
  cells := by
    rintro i h ⟨oz, oI, ⟨x, y, v, oO⟩, o1, o2, o3⟩ d hd
    simp only [List.mem_cons, List.not_mem_nil, or_false] at hd
    rcases hd with rfl | rfl | rfl | rfl | rfl | rfl
    · exact ⟨_, oz, nofun⟩
    · exact ⟨_, oI, nofun⟩
    · exact ⟨_, oO, nofun⟩
    · exact itK_obj o1
    · exact itK_obj o2
    · exact itK_obj o3
  stay := by
    rintro i h h' ⟨oz, oI, ⟨x, y, v, oO⟩, o1, o2, o3⟩ k
    simp only [List.mem_cons, List.not_mem_nil, or_false, forall_eq_or_imp, forall_eq] at k
    exact ⟨k.1 _ oz, k.2.1 _ oI, ⟨x, y, v, k.2.2.1 _ oO⟩, itK_at o1 k.2.2.2.1, itK_at o2 k.2.2.2.2.1, itK_at o3 k.2.2.2.2.2⟩
  own := fun A i s Q E st => wpAny_pyIter_zip st.1
  more := by
    rintro X i pins s σ H rfl rfl rfl hh inv fresh ⟨oz, oI, oO, o1, o2, o3⟩ ⟨xs, ys, zs, x, y, v, qx, qy, qv, ex, ey, ev⟩
    obtain ⟨us, ru, pu, _⟩ := seqK inv qx
    obtain ⟨vs, rv, pv, _⟩ := seqK inv qy
    obtain ⟨ws, rw', pw, _⟩ := seqK inv qv
    refine ⟨_, _, _, _, _, GoesN.zip3 D (drawsK hh i1 a na t1 us.toArray) (drawsK hh i2 b nb t2 vs.toArray) (drawsK hh i3 c nc t3 ws.toArray), Nat.lt_min.mpr ⟨Nat.lt_min.mpr ⟨lenT ru ex, lenT rv ey⟩, lenT rw' ev⟩, ⟨oz, oI, oO, ⟨o1, pu⟩, ⟨o2, pv⟩, ⟨o3, pw⟩⟩, ?_⟩
    rintro _ h' tk ⟨T, u, u', u'', rfl, hT, eu, eu', eu'', tup⟩ ⟨oz', oI', oO', ⟨o1', _⟩, ⟨o2', _⟩, ⟨o3', _⟩⟩ kept
    obtain ⟨J1, J2, J3⟩ := one_new (tk := tk) (us := [u, u', u'']) inv fresh (by simp) kept hT tup (.cons (itemT ru ex eu) (.cons (itemT rv ey eu') (.cons (itemT rw' ev eu'') .nil))) (show 3 ≤ sizeLine by decide)
    exact ⟨.ref T, _, J1, rfl, ⟨T, x, y, v, rfl, J2, rfl, fun l q => injK inv q qx ▸ ex, fun l q => injK inv q qy ▸ ey, fun l q => injK inv q qv ▸ ev⟩, ⟨oz', oI', oO', o1', o2', o3'⟩, J3⟩
  last := by
    rintro X i pins s σ H rfl rfl rfl hh inv ⟨oz, oI, oO, o1, o2, o3⟩ ⟨xs, ys, zs, qx, qy, qz, k1, k2, k3, hend⟩
    obtain ⟨us, ru, pu, _⟩ := seqK inv qx
    obtain ⟨vs, rv, pv, _⟩ := seqK inv qy
    obtain ⟨ws, rw', pw, _⟩ := seqK inv qz
    have em : min (min us.toArray.size vs.toArray.size) ws.toArray.size = i := by
      have := ru.length
      have := rv.length
      have := rw'.length
      simp only [List.size_toArray]
      omega
    refine ⟨_, _, _, _, _, GoesN.zip3 D (drawsK hh i1 a na t1 us.toArray) (drawsK hh i2 b nb t2 vs.toArray) (drawsK hh i3 c nc t3 ws.toArray), ?_, by simp⟩
    rw [em]
    exact ⟨oz, oI, oO, ⟨o1, pu⟩, ⟨o2, pv⟩, ⟨o3, pw⟩⟩
theorem walk_e (na : a ≠ it) (ne : e ≠ it) (nea : e ≠ a) : NewWalk P w K (.Tuple elts kk tpos) (ItE K t1 a) [e, it] e (fun i h => (∃ old, IsEnum h e it ((i : Nat) : Int) old) ∧ ItK t1 h it a i) where
  inI := List.mem_cons_self
  cells := by
    rintro i h ⟨⟨old, oe⟩, o1⟩ d hd
    simp only [List.mem_cons, List.not_mem_nil, or_false] at hd
    rcases hd with rfl | rfl
    · exact ⟨_, oe, nofun⟩
    · exact itK_obj o1
  stay := by
    rintro i h h' ⟨⟨old, oe⟩, o1⟩ k
    simp only [List.mem_cons, List.not_mem_nil, or_false, forall_eq_or_imp, forall_eq] at k
    exact ⟨⟨old, k.1 _ oe⟩, itK_at o1 k.2⟩
  own := fun A i s Q E st q => st.1.elim fun old oe => wpAny_pyIter_enum oe q
  more := by
    rintro X i pins s σ H rfl rfl rfl hh inv fresh ⟨⟨old, oe⟩, o1⟩ ⟨xs, x, qx, ex⟩
    obtain ⟨us, ru, pu, _⟩ := seqK inv qx
    refine ⟨_, _, _, _, _, GoesN.enumFrom 0 (drawsK hh it a na t1 us.toArray) e ne (by simp [ne, nea]) (by simp), lenT ru ex, ⟨⟨old, by rw [Int.zero_add]; exact oe⟩, o1, pu⟩, ?_⟩
    rintro v h' tk ⟨T, t, u, rfl, hT, eu, tup⟩ ⟨⟨old', oe'⟩, o1', _⟩ kept
    rw [Int.zero_add] at tup oe'
    obtain ⟨J1, J2, J3⟩ := one_new (tk := tk) (us := [.int i t, u]) inv fresh (by simp) kept hT tup (.cons (show RelV (.int (i : Nat)) (.int i t) from ⟨_, rfl⟩) (.cons (itemT ru ex eu) .nil)) (show 2 ≤ sizeLine by decide)
    exact ⟨.ref T, _, J1, rfl, ⟨T, x, rfl, J2, rfl, fun l q => injK inv q qx ▸ ex⟩, ⟨⟨old', oe'⟩, o1'⟩, J3⟩
  last := by
    rintro X i pins s σ H rfl rfl rfl hh inv ⟨⟨old, oe⟩, o1⟩ ⟨xs, qx, hend⟩
    obtain ⟨us, ru, pu, _⟩ := seqK inv qx
    have em : us.toArray.size = i := by
      have := ru.length
      simp only [List.size_toArray]
      omega
    refine ⟨_, _, _, _, _, GoesN.enumFrom 0 (drawsK hh it a na t1 us.toArray) e ne (by simp [ne, nea]) (by simp), ?_, by simp⟩
    rw [em]
    exact ⟨⟨old, by rw [Int.zero_add]; exact oe⟩, o1, pu⟩
end
end Mi
set_option Elab.async false
set_option linter.all false
set_option maxRecDepth 100000
set_option maxHeartbeats 2000000
namespace Mi
open PySem PySem.Spec PyProof.Rows L2
/-- a key as data -/
def keyMV : Key → MV
  | .inl i => .int i
  | .inr x => .str x
inductive Src where
  | seq (d : MV) (xs : List MV)
  | rng (lo : Int) (n : Nat)
  | enm (d : MV) (xs : List MV)
  | zp2 (d : MV) (xs : List MV) (e : MV) (ys : List MV)
  | zp3 (d : MV) (xs : List MV) (e : MV) (ys : List MV) (f : MV) (zs : List MV)
  | ezp (d : MV) (xs : List MV) (e : MV) (ys : List MV)
  | dks (ks : List Key)
  | dkt (ks : List MV)
def enmI : Nat → List MV → List MV
  | _, [] => []
  | i, x :: xs => .tup [.int (i : Nat), x] :: enmI (i + 1) xs
def zipI : List MV → List MV → List MV
  | x :: xs, y :: ys => .tup [x, y] :: zipI xs ys
  | _, _ => []
def zipI3 : List MV → List MV → List MV → List MV
  | x :: xs, y :: ys, z :: zs => .tup [x, y, z] :: zipI3 xs ys zs
  | _, _, _ => []
def Src.items : Src → List MV
  | .seq _ xs => xs
  | .rng lo n => (List.range n).map fun (i : Nat) => .int (lo + i)
  | .enm _ xs => enmI 0 xs
  | .zp2 _ xs _ ys => zipI xs ys
  | .zp3 _ xs _ ys _ zs => zipI3 xs ys zs
  | .ezp _ xs _ ys => enmI 0 (zipI xs ys)
  | .dks ks => ks.map keyMV
  | .dkt ks => ks
def Src.ok (S : Sto) : Src → Bool
  | .seq d xs => decide (seqOf S d = some xs)
  | .rng _ _ => true
  | .enm d xs => decide (seqOf S d = some xs)
  | .zp2 d xs e ys => decide (seqOf S d = some xs) && decide (seqOf S e = some ys)
  | .zp3 d xs e ys f zs => decide (seqOf S d = some xs) && (decide (seqOf S e = some ys) && decide (seqOf S f = some zs))
  | .ezp d xs e ys => decide (seqOf S d = some xs) && decide (seqOf S e = some ys)
  | .dks _ => true
  | .dkt _ => true
def isT : MV → Bool
  | .tup _ => true
  | _ => false
theorem seqK_of {C : RC} {S : Sto} {d : MV} {v : V} {xs : List MV} (r : RepS C S) (h : RepV C d v) (e : seqOf S d = some xs) : ∃ a vs, v = .ref a ∧ SqK C.K (isT d) C.H a vs ∧ RepVs C xs vs := by
  cases d with
  | tup ys =>
    rw [seqOf] at e; cases e
    rw [RepV] at h
    obtain ⟨a, vs, e, q, t⟩ := h
    exact ⟨a, vs, e, q, t⟩
  | kls ys =>
    rw [seqOf] at e; cases e
    rw [RepV] at h
    obtain ⟨a, vs, e, q, t⟩ := h
    refine ⟨a, vs, e, ?_, t⟩
    rcases q with ⟨o, q⟩ | q
    · exact .inl (.inr ⟨o, q⟩)
    · exact q.sq _
  | lst ys => obtain ⟨a, vs, e, q, t⟩ := lstOf_rep r h e; exact ⟨a, vs, e, (show SqL C.K C.H a vs from .of q), t⟩
  | ref n => obtain ⟨a, vs, e, q, t⟩ := lstOf_rep r h e; exact ⟨a, vs, e, (show SqL C.K C.H a vs from .of q), t⟩
  | _ => cases e
theorem Tr.refl {b : Nat} {C : RC} : Tr b C C := ⟨rfl, rfl, fun _ _ h => h, fun _ _ n h => ⟨n, .inl h⟩, fun _ _ _ h => h, fun _ _ _ h => h⟩
theorem Tr.trans {b b' : Nat} {C C1 C2 : RC} (x : Tr b C C1) (y : Tr b' C1 C2) (h : b ≤ b') : Tr b C C2 where
  w := y.w.trans x.w
  K := y.K.trans x.K
  seqT := fun a vs q => y.seqT _ _ (x.seqT _ _ q)
  froz := fun a u n q => by
    obtain ⟨n1, k⟩ := x.froz _ _ n q
    rcases k with k | ⟨nb, e, ob, k⟩
    · obtain ⟨n2, j⟩ := y.froz _ _ n1 k
      rcases j with j | ⟨_, e, j⟩
      · exact ⟨n2, .inl j⟩
      · exact ⟨n2, .inr ⟨n.2, e, j⟩⟩
    · obtain ⟨n2, j⟩ := y.froz _ _ n1 k
      exact ⟨n2, .inr ⟨nb, e, ob, j.exact (.inl fun _ z => by cases z)⟩⟩
  frz := fun a o u q => y.frz _ _ _ (x.frz _ _ _ q)
  ref := fun n a hn q => y.ref n a (Nat.lt_of_lt_of_le hn h) (x.ref n a hn q)
theorem RepV.trn {C C' : RC} (x : Tr C.ι.length C C') {d : MV} {v : V} (h : RepV C d v) : RepV C' d v := RepV.tr x d v (RepV.refs d v h) h
theorem RepVs.trn {C C' : RC} (x : Tr C.ι.length C C') {d : List MV} {v : List V} (h : RepVs C d v) : RepVs C' d v := RepVs.tr x d v (RepVs.refs d v h) h
theorem RepO.trn {C C' : RC} {a : Addr} {o : MO} (x : Tr C.ι.length C C') (e : C'.H a = C.H a) (h : RepO C a o) : RepO C' a o := by
  cases o with
  | lst xs => obtain ⟨vs, q, t⟩ := h; exact ⟨vs, e.trans q, t.trn x⟩
  | dct ks ds => obtain ⟨vs, q, l, nd, t⟩ := h; exact ⟨vs, e.trans q, l, nd, t.trn x⟩
  | dcT ks ds =>
    obtain ⟨sm, ko, nd, l, z, ob, es, ep, ps, us, kvs, vs, q, ex, hd, he, hk, tk, rv, t⟩ := h
    exact ⟨sm, ko, nd, l, z, ob, es, ep, ps, us, kvs, vs, e.trans q, ex, hd, by rw [x.w]; exact he, hk, tk.trn x, rv, t.trn x⟩
  | obj c fs ds => obtain ⟨dx, vs, q, l, t⟩ := h; exact ⟨dx, vs, by rw [x.K]; exact e.trans q, l, t.trn x⟩
/-- what a walk over a source gives -/
def SrcW (X : Cx) (src : Src) (J : It) (C0 : RC) : Prop := ∀ C S, Tr C0.ι.length C0 C → RepS C S → src.ok S = true →
  (∀ i, i < src.items.length → J.go i C.H) ∧ J.stop src.items.length C.H ∧
  ∀ i x H', i < src.items.length → J.yld i C.H x H' → ∃ C' d, C'.H = H' ∧ Grow C C' ∧ RepS C' S ∧ src.items[i]? = some d ∧ RepV C' d x
def tI (X : Cx) (W : WX) (m : Ev → Sto → R Src) : TI := fun σ H Rr => ∃ C ρ S, C.H = H ∧ Sv X ρ σ S C ∧ Wants W σ C (m ρ S) (fun src _ C' => ∀ J, SrcW X src J C' → Rr J C'.H)
abbrev SI (X : Cx) (W : WX) (tg iter : Expr) (m : Ev → Sto → R Src) : Prop := PI X tg iter (tI X W m)
def srcOf (d : MV) (S : Sto) : R Src := match seqOf S d with
  | some xs => .ok (.seq d xs) S
  | none => .stk
def mSrc (e : ME) : Ev → Sto → R Src := fun ρ S => (e ρ S).bind srcOf
theorem srcOf_of {d : MV} {S S' : Sto} {s : Src} (h : srcOf d S = .ok s S') : ∃ xs, seqOf S d = some xs ∧ s = .seq d xs ∧ S' = S := by
  unfold srcOf at h
  split at h
  · cases h; exact ⟨_, by assumption, rfl, rfl⟩
  · cases h
def JSeq (K : PySem.W.Frag) : Bool → Addr → It
  | true, a => Itt K a
  | false, a => Itl K a
theorem src_seq {X : Cx} {C0 : RC} {d : MV} {xs : List MV} {a : Addr} (hK : C0.K = X.K) (rv : RepV C0 d (.ref a)) : SrcW X (.seq d xs) (JSeq X.K (isT d) a) C0 := fun C S x r ok => by
  have rv' := rv.trn x
  have e : seqOf S d = some xs := of_decide_eq_true ok
  obtain ⟨a', vs, e1, sq, t⟩ := seqK_of r rv' e
  cases e1
  rw [x.K, hK] at sq
  have l := t.length
  show (∀ i, i < xs.length → _) ∧ (JSeq X.K (isT d) a).stop xs.length C.H ∧ ∀ i x H', i < xs.length → _ → _
  cases hd : isT d with
  | true =>
    rw [hd] at sq
    refine ⟨fun i hi => ⟨vs, vs[i]'(by omega), sq, by rw [List.getElem?_eq_getElem]⟩, ⟨vs, sq, by omega⟩, fun i z H' hi y => ?_⟩
    obtain ⟨e2, y⟩ := y
    obtain ⟨d', h1, h2⟩ := t.get' (y vs sq)
    exact ⟨C, d', e2.symm, Grow.refl, r, h1, h2⟩
  | false =>
    rw [hd] at sq
    refine ⟨fun i hi => ⟨vs, vs[i]'(by omega), sq, by rw [List.getElem?_eq_getElem]⟩, ⟨vs, sq, by omega⟩, fun i z H' hi y => ?_⟩
    obtain ⟨e2, y⟩ := y
    obtain ⟨d', h1, h2⟩ := t.get' (y vs sq)
    exact ⟨C, d', e2.symm, Grow.refl, r, h1, h2⟩
theorem pi_seqK {X : Cx} {tg l : Expr} {tl : TE} (hl : PE X l tl) : PI X tg l (fun σ H Rr => tl σ H fun x H1 => ∃ a t xs, x = .ref a ∧ SqK X.K t H1 a xs ∧ Rr (JSeq X.K t a) H1) where
  run pins s σ H Rr inv q := by
    refine thn (hl.run pins s σ H _ inv q) ?_
    rintro v s1 ⟨_, H1, inv1, rv, a, t, xs, rfl, sq, q1⟩
    cases rv
    obtain ⟨us, _, p, _⟩ := seqK inv1 sq
    cases t
    · exact wpAny_pyIter_list p (pi_one (tk := s1.toks) inv1 _ (turn_list a _) ⟨_, Heap.get?_push_size _ rfl, rfl, rfl⟩ q1)
    · exact wpAny_pyIter_tuple p (pi_one (tk := s1.toks) inv1 _ (turn_tuple a _) ⟨_, Heap.get?_push_size _ rfl, rfl, rfl⟩ q1)
theorem _root_.L2.PI.imp {X : Cx} {tg it : Expr} {t t' : TI} (h : PI X tg it t) (k : ∀ σ H Q, t' σ H Q → t σ H Q) : PI X tg it t' := ⟨fun pins s σ H Q I q => h.run pins s σ H Q I (k σ H Q q)⟩
section
variable {X : Cx} {W : WX} {tg l e e2 e3 : Expr} {ml : ME} {mas : MA} {p pos tpos : Pos} {elts : List Expr} {kk : Nat}
theorem si_seq (hl : SE X W l ml) : SI X W tg l (mSrc ml) :=
  (pi_seqK hl).imp fun σ H Q ⟨C, ρ, S, e, s, q⟩ => by
    subst e
    refine tE.bind s q fun d S1 C1 v s1 g1 r1 q1 => ?_
    cases e : srcOf d S1 with
    | ok src S' =>
      rw [e] at q1
      obtain ⟨xs, e1, rfl, rfl⟩ := srcOf_of e
      obtain ⟨a, vs, rfl, sq, t⟩ := seqK_of s1.rs r1 e1
      rw [s1.K] at sq
      exact ⟨a, isT d, vs, rfl, sq, q1.now s1.rs _ (src_seq s1.K r1)⟩
    | exc c d' S' => unfold srcOf at e; split at e <;> cases e
    | stk => rw [e] at q1; exact q1.elim
def rngFit : Int → Bool
  | .ofNat m => Nat.blt m 4611686018427387904
  | .negSucc m => Nat.blt m 4611686018427387904
theorem rngFit_ok : ∀ {j : Int}, rngFit j = true → -(2 ^ 62) ≤ j ∧ j < 2 ^ 62
  | .ofNat m, h => by
    have h : m ≤ 4611686018427387903 := by simpa [rngFit, Nat.blt] using h
    have e : Int.ofNat m = (m : Int) := rfl
    rw [e]; omega
  | .negSucc m, h => by
    have h : m ≤ 4611686018427387903 := by simpa [rngFit, Nat.blt] using h
    have e : Int.negSucc m = -(m : Int) - 1 := by omega
    rw [e]; omega
def rngOf : List MV → Sto → R Src
  | [.int j], S => if rngFit j then .ok (.rng 0 j.toNat) S else .stk
  | _, _ => .stk
def mRng (m : MA) : Ev → Sto → R Src := fun ρ S => (m ρ S).bind rngOf
def rng2Of : List MV → Sto → R Src
  | [.int i, .int j], S => if rngFit i && rngFit j then .ok (.rng i (j - i).toNat) S else .stk
  | _, _ => .stk
def mRng2 (m : MA) : Ev → Sto → R Src := fun ρ S => (m ρ S).bind rng2Of
theorem src_rng {C0 : RC} {lo : Int} {n : Nat} : SrcW X (.rng lo n) (Itr lo n) C0 := fun C S x r ok => by
  have hl : (Src.rng lo n).items.length = n := by simp [Src.items]
  rw [hl]
  refine ⟨fun i hi => hi, Nat.le_refl _, fun i z H' hi y => ?_⟩
  obtain ⟨rfl, rfl⟩ := y
  exact ⟨C, .int (lo + i), rfl, Grow.refl, r, by simp [Src.items, hi], repI _⟩
theorem si_rng (hg : Gl X "range") (hm : X.mg "range" = none) (ha : SA X W [e] mas) (hs : starEach [e] X.env = [(false, eval e X.env)] := by rfl) : SI X W tg (.Call (.Name "range" p) [e] [] pos) (mRng mas) :=
  (pi_range1 hg hm ha hs).imp fun σ H Q ⟨C, ρ, S, e, s, q⟩ => by
    subst e
    refine tA.bind s q fun ds S1 C1 vs s1 g1 r1 q1 => ?_
    unfold rngOf at q1
    split at q1
    · split at q1
      · obtain ⟨v, rfl, rv⟩ := one_of r1
        rename_i h
        have h := rngFit_ok h
        exact ⟨_, by rw [vInt rv], h.1, h.2, q1.now s1.rs _ src_rng⟩
      · exact q1.elim
    · exact q1.elim
theorem refs_of : ∀ {as : List Addr} {us : List Value}, Vals (as.map V.ref) us → us = as.map Value.ref
  | [], _, .nil => rfl
  | a :: as, _, .cons r rr => by rw [refs_of rr]; cases r; rfl
theorem pi_made {ta : TA} {es : List Expr} {nm : Str} {T : String} {wq : List V → Hp → (It → Hp → Prop) → Prop} (hg : Gl X nm) (hm : X.mg nm = none) (hv : bootBuiltins nm = some (.type T)) (ha : PA X (e :: es) ta)
    (mk : ∀ (pins : List (Addr × Obj)) (σ : L2.St) (H : Hp) (s : Shared) (us : List Value) (vs : List V) (Rr : It → Hp → Prop), Inv X pins σ H s → Vals vs us → wq vs H Rr →
      wpAny (model X.prog X.w) X.A (call (.type T) us) (fun v s' => wpAny (model X.prog X.w) X.A (pyIter v) (PIE X pins σ tg Rr) X.xe s') X.xe s)
    (hs : starEach (e :: es) X.env = (false, eval e X.env) :: starEach es X.env) (hpl : (backTo pos (starEach es X.env)).any (·.1) = false) (nn : nm ≠ "__name__" := by decide) (nd : (nm == ("__debug__" : Str)) = false := by decide) :
    PI X tg (.Call (.Name nm p) (e :: es) [] pos) (fun σ H Rr => ta σ H fun vs H1 => wq vs H1 Rr) where
  run pins s σ H Rr inv q := Call_ (ld_blt inv hg hm hv (callWith_type1 (thn (ha.run pos pins s σ H _ inv q) fun us s1 ⟨vs, H1, inv1, r, q1⟩ => mk pins σ H1 s1 us vs Rr inv1 r q1) hs hpl) nn nd)
theorem all_new {pins : List (Addr × Obj)} {σ : L2.St} {H : Hp} {s : Shared} (inv : Inv X pins σ H s) {fp : List Addr} (h : fp.all (fun b => Nat.ble s.heap.objs.size b) = true) : ∀ b ∈ fp, FpOk X pins H b := fun b hb => by
  have le : s.heap.objs.size ≤ b := Nat.le_of_ble_eq_true (List.all_eq_true.mp h b hb)
  exact inv.fpOk le (inv.hok.fresh le)
theorem pi_z2 {ta : TA} (hg : Gl X "zip") (hm : X.mg "zip" = none) (ha : PA X [e, e2] ta)
    (hs : starEach (e :: [e2]) X.env = (false, eval e X.env) :: starEach [e2] X.env) (hpl : (backTo pos (starEach [e2] X.env)).any (·.1) = false) :
    PI X (.Tuple elts kk tpos) (.Call (.Name "zip" p) (e :: [e2]) [] pos) (fun σ H Rr => ta σ H fun vs H1 => ∃ a b t1 t2 xs ys, vs = [.ref a, .ref b] ∧ SqK X.K t1 H1 a xs ∧ SqK X.K t2 H1 b ys ∧ Rr (ItZ2 X.K t1 t2 a b) H1) := by
  refine pi_made hg hm PyProof.Rows.boot_zip ha ?_ hs hpl
  rintro pins σ H s us _ Rr inv r ⟨a, b, t1, t2, xs, ys, rfl, qx, qy, q⟩
  cases refs_of (as := [a, b]) r
  obtain ⟨ua, _, pa, la⟩ := seqK inv qx
  obtain ⟨ub, _, pb, lb⟩ := seqK inv qy
  refine zip_begins2 (beginsK a ua.toArray t1) (beginsK b ub.toArray t2) pa pb fun h' oz oI oO o1 o2 _ kept => wpAny_pyIter_zip oz ?_
  have sep := zip_sep2 (N := s.heap.objs.size) (fp1 := [a]) (fp2 := [b]) (by simpa using la) (by simpa using lb)
  exact ⟨_, _, _, _, H, rfl, inv.kept (t' := s.toks) kept, (walk_z2 sep (Nat.ne_of_lt la) (Nat.ne_of_lt (Nat.lt_succ_of_lt lb))).turn, ⟨oz, oI, ⟨_, _, oO⟩, itK_new o1, itK_new o2⟩, all_new inv (by simp [Nat.ble_eq]), q⟩
theorem pi_z3 {ta : TA} (hg : Gl X "zip") (hm : X.mg "zip" = none) (ha : PA X [e, e2, e3] ta)
    (hs : starEach (e :: [e2, e3]) X.env = (false, eval e X.env) :: starEach [e2, e3] X.env) (hpl : (backTo pos (starEach [e2, e3] X.env)).any (·.1) = false) :
    PI X (.Tuple elts kk tpos) (.Call (.Name "zip" p) (e :: [e2, e3]) [] pos) (fun σ H Rr => ta σ H fun vs H1 => ∃ a b c t1 t2 t3 xs ys zs, vs = [.ref a, .ref b, .ref c] ∧ SqK X.K t1 H1 a xs ∧ SqK X.K t2 H1 b ys ∧ SqK X.K t3 H1 c zs ∧ Rr (ItZ3 X.K t1 t2 t3 a b c) H1) := by
  refine pi_made hg hm PyProof.Rows.boot_zip ha ?_ hs hpl
  rintro pins σ H s us _ Rr inv r ⟨a, b, c, t1, t2, t3, xs, ys, zs, rfl, qx, qy, qz, q⟩
  cases refs_of (as := [a, b, c]) r
  obtain ⟨ua, _, pa, la⟩ := seqK inv qx
  obtain ⟨ub, _, pb, lb⟩ := seqK inv qy
  obtain ⟨uc, _, pc, lc⟩ := seqK inv qz
  refine zip_begins3 (beginsK a ua.toArray t1) (beginsK b ub.toArray t2) (beginsK c uc.toArray t3) pa pb pc fun h' oz oI oO o1 o2 o3 _ kept => wpAny_pyIter_zip oz ?_
  have sep := zip_sep3 (N := s.heap.objs.size) (fp1 := [a]) (fp2 := [b]) (fp3 := [c]) (by simpa using la) (by simpa using lb) (by simpa using lc)
  exact ⟨_, _, _, _, H, rfl, inv.kept (t' := s.toks) kept, (walk_z3 sep (Nat.ne_of_lt la) (Nat.ne_of_lt (Nat.lt_succ_of_lt lb)) (Nat.ne_of_lt (Nat.lt_add_right 2 lc))).turn, ⟨oz, oI, ⟨_, _, _, oO⟩, itK_new o1, itK_new o2, itK_new o3⟩, all_new inv (by simp [Nat.ble_eq]), q⟩
theorem zipI_get : ∀ {xs ys : List MV} {i : Nat} {x y : MV}, xs[i]? = some x → ys[i]? = some y → (zipI xs ys)[i]? = some (.tup [x, y])
  | [], _, _, _, _, e1, _ => by simp at e1
  | _ :: _, [], _, _, _, _, e2 => by simp at e2
  | a :: xs, b :: ys, 0, x, y, h, h' => by simp at h h'; subst h; subst h'; rfl
  | a :: xs, b :: ys, i + 1, x, y, h, h' => by
    have := zipI_get (xs := xs) (ys := ys) (i := i) (by simpa using h) (by simpa using h')
    simpa [zipI] using this
theorem zipI_len : ∀ {xs ys : List MV}, (zipI xs ys).length = min xs.length ys.length
  | [], _ => by simp [zipI]
  | _ :: _, [] => by simp [zipI]
  | a :: xs, b :: ys => by simp only [zipI, List.length_cons, zipI_len (xs := xs) (ys := ys)]; omega
theorem zipI3_get : ∀ {xs ys zs : List MV} {i : Nat} {x y z : MV}, xs[i]? = some x → ys[i]? = some y → zs[i]? = some z → (zipI3 xs ys zs)[i]? = some (.tup [x, y, z])
  | [], _, _, _, _, _, _, h, _, _ => by simp at h
  | _ :: _, [], _, _, _, _, _, _, h, _ => by simp at h
  | _ :: _, _ :: _, [], _, _, _, _, _, _, h => by simp at h
  | a :: xs, b :: ys, c :: zs, 0, x, y, z, h, h', h'' => by simp at h h' h''; subst h; subst h'; subst h''; rfl
  | a :: xs, b :: ys, c :: zs, i + 1, x, y, z, h, h', h'' => by
    have := zipI3_get (xs := xs) (ys := ys) (zs := zs) (i := i) (by simpa using h) (by simpa using h') (by simpa using h'')
    simpa [zipI3] using this
theorem zipI3_len : ∀ {xs ys zs : List MV}, (zipI3 xs ys zs).length = min xs.length (min ys.length zs.length)
  | [], _, _ => by simp [zipI3]
  | _ :: _, [], _ => by simp [zipI3]
  | _ :: _, _ :: _, [] => by simp [zipI3]
  | a :: xs, b :: ys, c :: zs => by simp only [zipI3, List.length_cons, zipI3_len (xs := xs) (ys := ys) (zs := zs)]; omega
theorem enmI_get : ∀ {xs : List MV} {i k : Nat} {x : MV}, xs[i]? = some x → (enmI k xs)[i]? = some (.tup [.int ((k + i : Nat) : Int), x])
  | [], _, _, _, e1 => by simp at e1
  | a :: xs, 0, k, x, h => by simp at h; subst h; rfl
  | a :: xs, i + 1, k, x, h => by
    have := enmI_get (xs := xs) (i := i) (k := k + 1) (by simpa using h)
    rw [show k + 1 + i = k + (i + 1) by omega] at this
    simpa [enmI] using this
theorem enmI_len : ∀ {xs : List MV} {k : Nat}, (enmI k xs).length = xs.length
  | [], _ => rfl
  | a :: xs, k => by simp only [enmI, List.length_cons, enmI_len (xs := xs)]
theorem src_z2 {C0 : RC} {d e : MV} {xs ys : List MV} {a b : Addr} (hK : C0.K = X.K) (rv : RepV C0 d (.ref a)) (rv2 : RepV C0 e (.ref b)) : SrcW X (.zp2 d xs e ys) (ItZ2 X.K (isT d) (isT e) a b) C0 := fun C S x r ok => by
  have ok' : seqOf S d = some xs ∧ seqOf S e = some ys := by simpa [Src.ok] using ok
  obtain ⟨a', vs, e1, sq, t⟩ := seqK_of r (rv.trn x) ok'.1
  obtain ⟨b', us, e2, sq2, t2⟩ := seqK_of r (rv2.trn x) ok'.2
  cases e1
  cases e2
  rw [x.K, hK] at sq sq2
  have l := t.length
  have l2 := t2.length
  have hl : (Src.zp2 d xs e ys).items.length = min xs.length ys.length := zipI_len
  rw [hl]
  refine ⟨fun i hi => ⟨vs, us, vs[i]'(by omega), us[i]'(by omega), sq, sq2, by rw [List.getElem?_eq_getElem], by rw [List.getElem?_eq_getElem]⟩, ⟨vs, us, sq, sq2, by omega, by omega, by omega⟩, fun i z H' hi y => ?_⟩
  obtain ⟨T, x1, y1, rfl, hT, rfl, f1, f2⟩ := y
  obtain ⟨d1, h1, h2⟩ := t.get' (f1 vs sq)
  obtain ⟨d2, h3, h4⟩ := t2.get' (f2 us sq2)
  exact ⟨C.put T (.tup [x1, y1]), _, rfl, Grow.put hT, r.put hT, zipI_get h1 h3, repTup put_same (.cons (h2.grow (Grow.put hT) r) (.cons (h4.grow (Grow.put hT) r) .nil))⟩
theorem src_z3 {C0 : RC} {d e f : MV} {xs ys zs : List MV} {a b c : Addr} (hK : C0.K = X.K) (rv : RepV C0 d (.ref a)) (rv2 : RepV C0 e (.ref b)) (rv3 : RepV C0 f (.ref c)) : SrcW X (.zp3 d xs e ys f zs) (ItZ3 X.K (isT d) (isT e) (isT f) a b c) C0 := fun C S x r ok => by
  have ok' : seqOf S d = some xs ∧ seqOf S e = some ys ∧ seqOf S f = some zs := by simpa [Src.ok] using ok
  obtain ⟨a', vs, e1, sq, t⟩ := seqK_of r (rv.trn x) ok'.1
  obtain ⟨b', us, e2, sq2, t2⟩ := seqK_of r (rv2.trn x) ok'.2.1
  obtain ⟨c', ws, e3, sq3, t3⟩ := seqK_of r (rv3.trn x) ok'.2.2
  cases e1
  cases e2
  cases e3
  rw [x.K, hK] at sq sq2 sq3
  have l := t.length
  have l2 := t2.length
  have l3 := t3.length
  have hl : (Src.zp3 d xs e ys f zs).items.length = min xs.length (min ys.length zs.length) := zipI3_len
  rw [hl]
  refine ⟨fun i hi => ⟨vs, us, ws, vs[i]'(by omega), us[i]'(by omega), ws[i]'(by omega), sq, sq2, sq3, by rw [List.getElem?_eq_getElem], by rw [List.getElem?_eq_getElem], by rw [List.getElem?_eq_getElem]⟩, ⟨vs, us, ws, sq, sq2, sq3, by omega, by omega, by omega, by omega⟩, fun i z H' hi y => ?_⟩
  obtain ⟨T, x1, y1, z1, rfl, hT, rfl, f1, f2, f3⟩ := y
  obtain ⟨d1, h1, h2⟩ := t.get' (f1 vs sq)
  obtain ⟨d2, h3, h4⟩ := t2.get' (f2 us sq2)
  obtain ⟨d3, h5, h6⟩ := t3.get' (f3 ws sq3)
  exact ⟨C.put T (.tup [x1, y1, z1]), _, rfl, Grow.put hT, r.put hT, zipI3_get h1 h3 h5, repTup put_same (.cons (h2.grow (Grow.put hT) r) (.cons (h4.grow (Grow.put hT) r) (.cons (h6.grow (Grow.put hT) r) .nil)))⟩
theorem src_e {C0 : RC} {d : MV} {xs : List MV} {a : Addr} (hK : C0.K = X.K) (rv : RepV C0 d (.ref a)) : SrcW X (.enm d xs) (ItE X.K (isT d) a) C0 := fun C S x r ok => by
  have ok' : seqOf S d = some xs := by simpa [Src.ok] using ok
  obtain ⟨a', vs, e1, sq, t⟩ := seqK_of r (rv.trn x) ok'
  cases e1
  rw [x.K, hK] at sq
  have l := t.length
  have hl : (Src.enm d xs).items.length = xs.length := enmI_len
  rw [hl]
  refine ⟨fun i hi => ⟨vs, vs[i]'(by omega), sq, by rw [List.getElem?_eq_getElem]⟩, ⟨vs, sq, by omega⟩, fun i z H' hi y => ?_⟩
  obtain ⟨T, x1, rfl, hT, rfl, f1⟩ := y
  obtain ⟨d1, h1, h2⟩ := t.get' (f1 vs sq)
  have := enmI_get (k := 0) h1
  rw [Nat.zero_add] at this
  exact ⟨C.put T (.tup [.int (i : Nat), x1]), _, rfl, Grow.put hT, r.put hT, this, repTup put_same (.cons (repI _) (.cons (h2.grow (Grow.put hT) r) .nil))⟩
def zp2Of : List MV → Sto → R Src
  | [d, e], S => match seqOf S d, seqOf S e with
    | some xs, some ys => .ok (.zp2 d xs e ys) S
    | _, _ => .stk
  | _, _ => .stk
def mZip2 (m : MA) : Ev → Sto → R Src := fun ρ S => (m ρ S).bind zp2Of
def zp3Of : List MV → Sto → R Src
  | [d, e, f], S => match seqOf S d, seqOf S e, seqOf S f with
    | some xs, some ys, some zs => .ok (.zp3 d xs e ys f zs) S
    | _, _, _ => .stk
  | _, _ => .stk
def mZip3 (m : MA) : Ev → Sto → R Src := fun ρ S => (m ρ S).bind zp3Of
def enmOf : List MV → Sto → R Src
  | [d], S => match seqOf S d with
    | some xs => .ok (.enm d xs) S
    | none => .stk
  | _, _ => .stk
def mEnum (m : MA) : Ev → Sto → R Src := fun ρ S => (m ρ S).bind enmOf
theorem si_zip2 (hg : Gl X "zip") (hm : X.mg "zip" = none) (ha : SA X W [e, e2] mas)
    (hs : starEach (e :: [e2]) X.env = (false, eval e X.env) :: starEach [e2] X.env := by rfl)
    (hpl : (backTo pos (starEach [e2] X.env)).any (·.1) = false := by rfl) :
    SI X W (.Tuple elts kk tpos) (.Call (.Name "zip" p) [e, e2] [] pos) (mZip2 mas) :=
  (pi_z2 hg hm ha hs hpl).imp fun σ H Q ⟨C, ρ, S, e, s, q⟩ => by
    subst e
    refine tA.bind s q fun ds S1 C1 vs s1 g1 r1 q1 => ?_
    unfold zp2Of at q1
    split at q1
    · split at q1
      · rename_i e1 e2
        obtain ⟨v, u, rfl, rv, ru⟩ := two_of r1
        obtain ⟨a, vs, rfl, sq, t⟩ := seqK_of s1.rs rv e1
        obtain ⟨b, us, rfl, sq2, t2⟩ := seqK_of s1.rs ru e2
        rw [s1.K] at sq sq2
        exact ⟨a, b, _, _, vs, us, rfl, sq, sq2, q1.now s1.rs _ (src_z2 s1.K rv ru)⟩
      · exact q1.elim
    · exact q1.elim
theorem three_of {C : RC} {d e f : MV} {vs : List V} (t : RepVs C [d, e, f] vs) : ∃ v u w, vs = [v, u, w] ∧ RepV C d v ∧ RepV C e u ∧ RepV C f w := by
  obtain ⟨v, vr, rfl, r, t⟩ := t.cons_inv
  obtain ⟨u, w, rfl, r2, r3⟩ := two_of t
  exact ⟨v, u, w, rfl, r, r2, r3⟩
theorem si_zip3 (hg : Gl X "zip") (hm : X.mg "zip" = none) (ha : SA X W [e, e2, e3] mas)
    (hs : starEach (e :: [e2, e3]) X.env = (false, eval e X.env) :: starEach [e2, e3] X.env := by rfl)
    (hpl : (backTo pos (starEach [e2, e3] X.env)).any (·.1) = false := by rfl) :
    SI X W (.Tuple elts kk tpos) (.Call (.Name "zip" p) [e, e2, e3] [] pos) (mZip3 mas) :=
  (pi_z3 hg hm ha hs hpl).imp fun σ H Q ⟨C, ρ, S, e, s, q⟩ => by
    subst e
    refine tA.bind s q fun ds S1 C1 vs s1 g1 r1 q1 => ?_
    unfold zp3Of at q1
    split at q1
    · split at q1
      · rename_i e1 e2 e3
        obtain ⟨v, u, x, rfl, rv, ru, rx⟩ := three_of r1
        obtain ⟨a, vs, rfl, sq, t⟩ := seqK_of s1.rs rv e1
        obtain ⟨b, us, rfl, sq2, t2⟩ := seqK_of s1.rs ru e2
        obtain ⟨c, ws, rfl, sq3, t3⟩ := seqK_of s1.rs rx e3
        rw [s1.K] at sq sq2 sq3
        exact ⟨a, b, c, _, _, _, vs, us, ws, rfl, sq, sq2, sq3, q1.now s1.rs _ (src_z3 s1.K rv ru rx)⟩
      · exact q1.elim
    · exact q1.elim
end
end Mi
set_option Elab.async false
set_option linter.all false
set_option maxRecDepth 100000
set_option maxHeartbeats 2000000
namespace Mi
open PySem PySem.Spec PyProof.Rows L2
def forGo (ok : Sto → Bool) (g : Tg) (body : MS) : List MV → MS
  | [], ρ, S => if ok S then .nx ρ S else .stk
  | x :: xs, ρ, S => if ok S then (match g.f x ρ with
    | some ρ1 => match body ρ1 S with
      | .nx ρ2 S2 => forGo ok g body xs ρ2 S2
      | r => r
    | none => .stk) else .stk
def mFor (mi : Ev → Sto → R Src) (g : Tg) (body : MS) : MS := fun ρ S => (mi ρ S).thn ρ fun src S1 => forGo (fun S => src.ok S) g body src.items ρ S1
section
variable {X : Cx} {W : WX} {tg iter : Expr} {body : List Stmt} {mi : Ev → Sto → R Src} {g : Tg} {mb : MS} {pos : Pos}
theorem ss_for (hp : PassesOwn (model X.prog X.w) X.A X.env X.xe) (hc : X.calm = true) (hi : SI X W tg iter mi) (hg : SG X tg g) (hb : SSs X W body mb)
    (hs : ∀ x, foldedSetIterable iter X.env x = pure x := by intro _; rfl) : SS X W (.For tg iter body [] pos) (mFor mi g mb) :=
  (ps_for hp hc hi hg hb hs).imp fun D σ H ⟨C, ρ, S, e, s, q⟩ => by
    subst e
    refine ⟨C, ρ, S, rfl, s, ?_⟩
    refine (WantS.thn s q).mono fun src S1 C1 g1 r1 _ q1 J sw => ?_
    refine ⟨fun i m σ' H' => m = src.items.length - i ∧ i ≤ src.items.length ∧ ∃ C' ρ' S', C'.H = H' ∧ Sv X ρ' σ' S' C' ∧ Grow C1 C' ∧ WantS W D C' (forGo (fun S => src.ok S) g mb (src.items.drop i) ρ' S'), ⟨src.items.length, by simp, Nat.zero_le _, C1, ρ, S1, rfl, s.grow g1 r1, Grow.refl, q1.1⟩, ?_⟩
    rintro i m σ' H' ⟨rfl, hi, C', ρ', S', rfl, s', g', w⟩
    by_cases hlt : i < src.items.length
    · have ed : src.items.drop i = src.items[i] :: src.items.drop (i + 1) := List.drop_eq_getElem_cons hlt
      rw [ed, forGo] at w
      by_cases hok : src.ok S' = true
      · rw [if_pos hok] at w
        obtain ⟨k1, k2, k3⟩ := sw C' S' (g'.tr r1) s'.rs hok
        refine .inr ⟨k1 i hlt, fun σ'' H'' => (fun i m σ' H' => m = src.items.length - i ∧ i ≤ src.items.length ∧ ∃ C' ρ' S', C'.H = H' ∧ Sv X ρ' σ' S' C' ∧ Grow C1 C' ∧ WantS W D C' (forGo (fun S => src.ok S) g mb (src.items.drop i) ρ' S')) (i + 1) (src.items.length - (i + 1)) σ'' H'',
          fun σ'' H'' h => ⟨_, by omega, h⟩, fun x H'' y => ?_⟩
        obtain ⟨C2, d, rfl, g2, r2, e2, rv⟩ := k3 i x H'' hlt y
        rw [List.getElem?_eq_getElem hlt] at e2
        have e3 : src.items[i] = d := Option.some.inj e2
        cases e4 : g.f src.items[i] ρ' with
        | none => rw [e4] at w; exact w.elim
        | some ρ1 =>
          rw [e4] at w
          dsimp only at w
          refine ⟨C2, ρ', S', d, ρ1, rfl, s'.grow g2 r2, rv, by rw [← e3]; exact e4, fun σ1 ev1 l1 _ _ => ?_⟩
          refine ⟨C2, ρ1, S', rfl, ⟨g2.w.trans s'.w, g2.K.trans s'.K, r2, ev1, l1⟩, ?_⟩
          cases e5 : mb ρ1 S' with
          | nx ρ2 S2 =>
            rw [e5] at w
            exact fun C3 σ3 g3 r3 ev3 l3 => ⟨rfl, hlt, C3, ρ2, S2, rfl, ⟨g3.w.trans (g2.w.trans s'.w), g3.K.trans (g2.K.trans s'.K), r3, ev3, l3⟩, g'.trans (g2.trans g3), w.grow (g2.trans g3)⟩
          | rt d S2 => rw [e5] at w; exact w.grow g2
          | exc c d ρ2 S2 => rw [e5] at w; exact w.grow g2
          | stk => rw [e5] at w; exact w.elim
      · rw [if_neg hok] at w; exact w.elim
    · have e : i = src.items.length := by omega
      subst e
      rw [List.drop_length, forGo] at w
      by_cases hok : src.ok S' = true
      · rw [if_pos hok] at w
        obtain ⟨k1, k2, k3⟩ := sw C' S' (g'.tr r1) s'.rs hok
        exact .inl ⟨k2, w C' σ' Grow.refl s'.rs s'.ev s'.ln⟩
      · rw [if_neg hok] at w; exact w.elim
end
def wipeE (ρ : Ev) : List Nat → Ev
  | [] => ρ
  | v :: vs => (wipeE ρ vs).set v none
theorem wipeE_len (ρ : Ev) : ∀ vs, (wipeE ρ vs).length = ρ.length
  | [] => rfl
  | v :: vs => by unfold wipeE; rw [List.length_set, wipeE_len]
theorem env_wipe {C : RC} {ρ : Ev} {σ : L2.St} (h : EnvR C ρ σ) (l : ρ.length = σ.length) : ∀ vs, EnvR C (wipeE ρ vs) (wipe σ vs)
  | [] => h
  | v :: vs => fun i d e => by
    unfold wipeE at e
    by_cases hi : v = i
    · subst hi
      by_cases hl : v < (wipeE ρ vs).length
      · rw [List.getElem?_set_self hl] at e; cases e
      · rw [List.getElem?_eq_none (by simpa using hl)] at e; cases e
    · rw [List.getElem?_set_ne hi] at e
      obtain ⟨u, e1, r⟩ := env_wipe h l vs i d e
      refine ⟨u, ?_, r⟩
      unfold wipe
      rw [List.getElem?_set_ne hi]
      exact e1
theorem EnvR.trn {C C' : RC} {ρ : Ev} {σ : L2.St} (h : EnvR C ρ σ) (x : Tr C.ι.length C C') : EnvR C' ρ σ := fun i d e => by
  obtain ⟨v, e1, q⟩ := h i d e
  exact ⟨v, e1, q.trn x⟩
def R.calm {α : Type} : R α → R α
  | .exc _ _ _ => .stk
  | r => r
@[simp] theorem R.calm_ok {α : Type} (a : α) (S : Sto) : (R.ok a S).calm = .ok a S := rfl
def lcGo (ok : Sto → Bool) (g : Tg) (tt : MT) (te : ME) (ρ : Ev) : List MV → List MV → Sto → R (List MV)
  | [], acc, S => if ok S then .ok acc S else .stk
  | x :: xs, acc, S => if ok S then (match g.f x ρ with
    | some ρ1 => (tt ρ1 S).calm.bind fun b S1 => if b then (te ρ1 S1).calm.bind fun y S2 => lcGo ok g tt te ρ xs (acc ++ [y]) S2 else lcGo ok g tt te ρ xs acc S1
    | none => .stk) else .stk
def mkL (fr : Bool) (ys : List MV) (S : Sto) : R MV := if fr then .ok (.lst ys) S else .ok (.ref S.length) (S ++ [.lst ys])
def mLc (fr : Bool) (vs : List Nat) (mi : Ev → Sto → R Src) (g : Tg) (tt : MT) (te : ME) : ME := fun ρ S => (mi ρ S).bind fun src S1 =>
  if src.items.length ≤ sizeLine then (lcGo (fun S => src.ok S) g tt te (wipeE ρ vs) src.items [] S1).bind (mkL fr) else .stk
/-- the new list is being filled at D: it is not of the data yet -/
theorem Tr.wr {C : RC} {S : Sto} {D : Addr} {us vs : List V} (r : RepS C S) (hb : D ∈ C.bad) (h : C.H D = some (.lst us)) : Tr C.ι.length C (C.put D (.lst vs)) where
  w := rfl
  K := rfl
  seqT := fun a ws q => by
    rcases q with (q | ⟨o, q⟩) | q
    · exact .inl (.inl (by show upd C.H D (.lst vs) a = _; rw [upd_ne (fun z => by subst z; rw [h] at q; cases q)]; exact q))
    · exact .inl (.inr ⟨o, by show upd C.H D (.lst vs) a = _; rw [upd_ne (fun z => by subst z; rw [h] at q; cases q)]; exact q⟩)
    · exact .inr q
  froz := fun a u n q => ⟨n, .inl (by show upd C.H D (.lst vs) a = _; rw [upd_ne (fun z => n.2 (by rw [z]; exact hb))]; exact q)⟩
  frz := fun a o u q => by show upd C.H D (.lst vs) a = _; rw [upd_ne (fun z => by subst z; rw [h] at q; cases q)]; exact q
  ref := fun n a _ q => q
theorem RepS.wr {C : RC} {S : Sto} {D : Addr} {us vs : List V} (r : RepS C S) (hb : D ∈ C.bad) (h : C.H D = some (.lst us)) : RepS (C.put D (.lst vs)) S := by
  refine ⟨r.len, r.nd, fun a m => ⟨(r.bad a m).1, ?_⟩, fun n mo a e1 e2 => ?_⟩
  · show upd C.H D (.lst vs) a ≠ none
    by_cases q : a = D
    · subst q; rw [upd_same]; simp
    · rw [upd_ne q]; exact (r.bad a m).2
  · refine (r.ob n mo a e1 e2).trn (Tr.wr r hb h) ?_
    show upd C.H D (.lst vs) a = C.H a
    exact upd_ne fun z => (r.bad D hb).1 (by rw [← z]; exact List.mem_of_getElem? e2)
/-- the state at the start -/
def RC.fill (C : RC) (D : Addr) : RC := { C.put D (.lst []) with bad := D :: C.bad }
theorem Grow.fill {C : RC} {D : Addr} (h : C.H D = none) : Grow C (C.fill D) where
  w := rfl
  K := rfl
  bad := fun a m => by
    rcases List.mem_cons.mp (show a ∈ D :: C.bad from m) with z | z
    · subst z; exact .inr (.inr h)
    · exact .inl z
  bad' := fun a m => List.mem_cons_of_mem _ m
  kp := fun a o na e => .inl (by show upd C.H D _ a = _; rw [upd_ne (ne_of_none e h)]; exact e)
  new := fun a m => .inl m
  pre := rfl
  le := Nat.le_refl _
  le' := Nat.le_refl _
theorem RepS.fill {C : RC} {S : Sto} {D : Addr} (r : RepS C S) (h : C.H D = none) : RepS (C.fill D) S := by
  refine ⟨r.len, r.nd, fun a m => ?_, fun n mo a e1 e2 => ?_⟩
  · rcases List.mem_cons.mp (show a ∈ D :: C.bad from m) with z | z
    · subst z; exact ⟨r.notin h, by show upd C.H a _ a ≠ none; rw [upd_same]; simp⟩
    · refine ⟨(r.bad a z).1, ?_⟩
      show upd C.H D _ a ≠ none
      rw [upd_ne (fun q => (r.bad a z).2 (by rw [q]; exact h))]
      exact (r.bad a z).2
  · refine (r.ob n mo a e1 e2).trn ((Grow.fill h).tr r) ?_
    show upd C.H D _ a = C.H a
    exact upd_ne fun z => r.notin h (by rw [← z]; exact List.mem_of_getElem? e2)
/-- with the bad ones of an earlier state -/
def RC.rb (C C0 : RC) : RC := { C with bad := C0.bad }
theorem rb_step {C0 C C' : RC} (x : Grow C0 (C.rb C0)) (hb : ∀ a ∈ C0.bad, a ∈ C.bad) (y : Grow C C') : Grow C0 (C'.rb C0) where
  w := y.w.trans x.w
  K := y.K.trans x.K
  bad := fun a m => .inl m
  bad' := fun a m => m
  kp := fun a o na h => by
    have n1 : a ∉ C.ι := fun m => by
      rcases x.new a m with q | q
      · exact na q
      · rw [h] at q; cases q
    rcases x.kp a o na h with k | ⟨nb, e, ob, k⟩
    · rcases y.kp a o n1 k with j | ⟨nb, e, j⟩
      · exact .inl j
      · exact .inr ⟨fun m => nb (hb a m), e, j⟩
    · exact .inr ⟨nb, e, ob, (y.kp a _ n1 k).exact (.inl fun _ z => by cases z)⟩
  new := fun a m => by
    rcases y.new a m with q | q
    · exact x.new a q
    · by_cases ha : a ∈ C0.ι
      · exact .inl ha
      · cases e : C0.H a with
        | none => exact .inr rfl
        | some o =>
          exact absurd q (x.kp a o ha e).nix
  pre := (y.weak x.le').pre.trans x.pre
  le := Nat.le_refl _
  le' := Nat.le_trans x.le' y.le'
theorem rb_wr {C0 C : RC} {D : Addr} {o : HO} (x : Grow C0 (C.rb C0)) (h : C0.H D = none) : Grow C0 ((C.put D o).rb C0) where
  w := x.w
  K := x.K
  bad := fun a m => .inl m
  bad' := fun a m => m
  kp := fun a u na e => by
    show upd C.H D o a = some u ∨ _ ∧ _ ∧ ∃ ob, upd C.H D o a = some (.frz ob u)
    rw [upd_ne (ne_of_none e h)]
    exact x.kp a u na e
  new := x.new
  pre := x.pre
  le := x.le
  le' := x.le'
theorem Tr.rb {C C0 : RC} (h : ∀ a ∈ C0.bad, a ∈ C.bad) : Tr C.ι.length C (C.rb C0) :=
  ⟨rfl, rfl, fun _ _ q => q, fun a u n q => ⟨⟨n.1, fun m => n.2 (h a m)⟩, .inl q⟩, fun _ _ _ q => q, fun _ _ _ q => q⟩
theorem RepS.rb {C C0 : RC} {S : Sto} (r : RepS C S) (h : ∀ a ∈ C0.bad, a ∈ C.bad) : RepS (C.rb C0) S :=
  ⟨r.len, r.nd, fun a m => r.bad a (h a m), fun n mo a e1 e2 => (r.ob n mo a e1 e2).trn (Tr.rb h) rfl⟩
/-- the filled list becomes a cell of the store -/
def RC.adopt (C : RC) (D : Addr) : RC := { C with ι := C.ι ++ [D] }
theorem Wants.calm {α β : Type} {W W' : WX} {σ σ' : L2.St} {C : RC} {r : R α} {f : α → Sto → R β} {Q : β → Sto → RC → Prop} (h : Wants W σ C (r.calm.bind f) Q) :
    Wants W' σ' C r (fun a S1 C1 => Wants W σ C1 (f a S1) Q ∧ Grow C C1) := by
  cases r with
  | ok a S => exact fun C1 g r1 => (Wants.bind h) C1 g r1
  | exc c d S => exact h.elim
  | stk => exact h
/-- what is wanted of the filled list -/
def LW (D : Addr) (Q : VK) (fr : Bool) (C0 : RC) : R (List MV) → Prop
  | .ok acc S => ∀ C, Grow C0 (C.rb C0) → (∀ a ∈ C0.bad, a ∈ C.bad) → RepS C S → D ∈ C.bad → ∀ vs, C.H D = some (.lst vs) → RepVs C acc vs → Q (.ref D) C.H
  | _ => False
section
variable {X : Cx} {W : WX}
theorem lw_end {σ : L2.St} {C0 : RC} {D : Addr} {Q : VK} {fr : Bool} {S0 : Sto} {r : R (List MV)} (r0 : RepS C0 S0) (hD : C0.H D = none) (hr : ∀ c d S, r ≠ .exc c d S) (h : Wants W σ C0 (r.bind (mkL fr)) (fun d _ C' => ∀ v, RepV C' d v → Q v C'.H)) : LW D Q fr C0 r := by
  cases r with
  | exc c d S => exact absurd rfl (hr c d S)
  | stk => exact h
  | ok acc S =>
    intro C g hb rs hbD vs hv rv
    have nD : D ∉ C.ι := (rs.bad D hbD).1
    have nb : D ∉ C0.bad := fun m => (r0.bad D m).2 hD
    have rs' := rs.rb hb
    have rv' := rv.trn (Tr.rb (C0 := C0) hb)
    cases fr with
    | true =>
      have h : Wants W σ C0 (.ok (.lst acc) S) (fun d _ C' => ∀ v, RepV C' d v → Q v C'.H) := h
      exact h (C.rb C0) g rs' (.ref D) (repLst ⟨nD, nb⟩ hv rv')
    | false =>
      have h : Wants W σ C0 (.ok (.ref S.length) (S ++ [.lst acc])) (fun d _ C' => ∀ v, RepV C' d v → Q v C'.H) := h
      have tr : Tr C.ι.length C ((C.rb C0).adopt D) := by
        refine ⟨rfl, rfl, fun _ _ q => q, fun a u n q => ⟨⟨fun m => ?_, fun m => n.2 (hb a m)⟩, .inl q⟩, fun _ _ _ q => q, fun n a hn q => ?_⟩
        · rcases List.mem_append.mp (show a ∈ C.ι ++ [D] from m) with m | m
          · exact n.1 m
          · have e : a = D := by simpa using m
            exact n.2 (by rw [e]; exact hbD)
        · show (C.ι ++ [D])[n]? = some a
          rw [List.getElem?_append_left (by exact hn)]; exact q
      have g2 : Grow C0 ((C.rb C0).adopt D) := by
        refine ⟨g.w, g.K, fun a m => .inl m, fun a m => m, g.kp, fun a m => ?_, ?_, g.le, ?_⟩
        · rcases List.mem_append.mp (show a ∈ C.ι ++ [D] from m) with m | m
          · exact g.new a m
          · have e : a = D := by simpa using m
            exact .inr (by rw [e]; exact hD)
        · show (C.ι ++ [D]).take C0.ι.length = _
          rw [List.take_append_of_le_length (show C0.ι.length ≤ C.ι.length from g.le')]; exact g.pre
        · show C0.ι.length ≤ (C.ι ++ [D]).length
          rw [List.length_append]
          exact Nat.le_trans g.le' (Nat.le_add_right _ _)
      have rs2 : RepS ((C.rb C0).adopt D) (S ++ [.lst acc]) := by
        refine ⟨by show (C.ι ++ [D]).length = _; simp [rs.len], ?_, fun a m => ⟨fun m2 => ?_, (rs.bad a (hb a m)).2⟩, fun n mo a e1 e2 => ?_⟩
        · show (C.ι ++ [D]).Nodup
          rw [List.nodup_append]
          refine ⟨rs.nd, by simp, fun a ha b hb => ?_⟩
          have e : b = D := by simpa using hb
          subst e
          intro e; subst e
          exact nD ha
        · rcases List.mem_append.mp (show a ∈ C.ι ++ [D] from m2) with m2 | m2
          · exact (rs.bad a (hb a m)).1 m2
          · have e : a = D := by simpa using m2
            subst e; exact nb m
        · have e2 : (C.ι ++ [D])[n]? = some a := e2
          by_cases hn : n < S.length
          · rw [List.getElem?_append_left hn] at e1
            rw [List.getElem?_append_left (by rw [rs.len]; exact hn)] at e2
            exact (rs.ob n mo a e1 e2).trn tr rfl
          · rw [List.getElem?_append_right (by omega)] at e1
            rw [List.getElem?_append_right (by rw [rs.len]; omega), rs.len] at e2
            cases hz : n - S.length with
            | zero =>
              rw [hz] at e1 e2
              simp at e1 e2
              subst e1; subst e2
              exact ⟨vs, hv, rv.trn tr⟩
            | succ k => rw [hz] at e1; simp at e1
      refine h ((C.rb C0).adopt D) g2 rs2 (.ref D) ?_
      rw [RepV]
      exact ⟨D, rfl, by show (C.ι ++ [D])[S.length]? = some D; rw [← rs.len]; simp⟩
theorem lcGo_noexc {ok : Sto → Bool} {g : Tg} {tt : MT} {te : ME} {ρ : Ev} : ∀ (xs acc : List MV) (S : Sto) (c : Str) (d : MV) (S' : Sto), lcGo ok g tt te ρ xs acc S ≠ .exc c d S'
  | [], acc, S, c, d, S', h => by
    unfold lcGo at h
    split at h <;> cases h
  | x :: xs, acc, S, c, d, S', h => by
    unfold lcGo at h
    split at h
    · split at h
      · rename_i ρ1 e1
        cases e : tt ρ1 S with
        | ok b S1 =>
          rw [e] at h
          simp only [R.calm_ok, R.bind_ok] at h
          split at h
          · cases e2 : te ρ1 S1 with
            | ok y S2 =>
              rw [e2] at h
              simp only [R.calm_ok, R.bind_ok] at h
              exact lcGo_noexc xs _ S2 c d S' h
            | exc c' d' S2 => rw [e2] at h; cases h
            | stk => rw [e2] at h; cases h
          · exact lcGo_noexc xs _ S1 c d S' h
        | exc c' d' S1 => rw [e] at h; cases h
        | stk => rw [e] at h; cases h
      · cases h
    · cases h
end
abbrev WNo : WX := fun _ _ _ _ => False
theorem takesNo {X : Cx} {s : Shared} {H : Hp} {sc : Scope} {ce : Env} {fp : List Addr} : Takes (X.blk s H sc ce fp) WNo := fun u s' ⟨_, _, _, _, _, _, _, _, h⟩ => h.2.2.2.2.2.2.2.2
/-- several tests -/
theorem _root_.L2.PTs.imp {X : Cx} {ts : List Expr} {t t' : TT} (h : PTs X ts t) (k : ∀ σ H Q, t' σ H Q → t σ H Q) : PTs X ts t' := ⟨fun pins s σ H Q I q => h.run pins s σ H Q I (k σ H Q q)⟩
def mTrue : MT := fun _ S => .ok true S
section
variable {X : Cx} {W : WX} {tg iter elt : Expr} {ifs : List Expr} {scope : Scope} {own : List (Str × Nat)} {mi : Ev → Sto → R Src} {g : Tg} {tt : MT} {te : ME} {pos : Pos} {fr : Bool}
/-- the reading of a comprehension -/
theorem lc_imp {σ : L2.St} {H : Hp} {Q : VK} {vs : List Nat} (hix : ∀ i ∈ g.ix, i ∈ vs) (h : tE X W (mLc fr vs mi g tt te) σ H Q) : tLc (tI X W mi) (tG X g) (tT X WNo tt) (tE X WNo te) vs σ H Q := by
  obtain ⟨C, ρ, S, e, s, q⟩ := h
  subst e
  refine ⟨C, ρ, S, rfl, s, (Wants.bind q).mono fun src S1 C0 g0 r0 _ q0 J sw D hD => ?_⟩
  have q0 := q0.1
  split at q0
  case isFalse => exact q0.elim
  rename_i hsz
  have lw : LW D Q fr C0 (lcGo (fun S => src.ok S) g tt te (wipeE ρ vs) src.items [] S1) := lw_end r0 hD (lcGo_noexc _ _ _) q0
  have s0 : Sv X ρ σ S1 C0 := s.grow g0 r0
  refine ⟨fun i m H' => m = src.items.length - i ∧ i ≤ src.items.length ∧ ∃ C' S' acc accv, C'.H = H' ∧ Tr C0.ι.length C0 C' ∧ Grow C0 (C'.rb C0) ∧ (∀ a ∈ C0.bad, a ∈ C'.bad) ∧ RepS C' S' ∧ D ∈ C'.bad ∧ C'.H D = some (.lst accv) ∧ RepVs C' acc accv ∧ acc.length ≤ i ∧
      LW D Q fr C0 (lcGo (fun S => src.ok S) g tt te (wipeE ρ vs) (src.items.drop i) acc S'), ⟨src.items.length, by simp, Nat.zero_le _, C0.fill D, S1, [], [], rfl, (Grow.fill hD).tr r0, ?_, fun a m => List.mem_cons_of_mem _ m, r0.fill hD, List.mem_cons_self, upd_same, .nil, Nat.le_refl _, lw⟩, ?_⟩
  · exact rb_wr Grow.refl hD
  rintro i m H' ⟨rfl, hi, C1, S', acc, accv, rfl, tr, gr, hb, rs, hbD, hv, rv, hl, w⟩
  by_cases hlt : i < src.items.length
  · have ed : src.items.drop i = src.items[i] :: src.items.drop (i + 1) := List.drop_eq_getElem_cons hlt
    rw [ed, lcGo] at w
    by_cases hok : src.ok S' = true
    · rw [if_pos hok] at w
      obtain ⟨k1, k2, k3⟩ := sw C1 S' tr rs hok
      refine .inr ⟨k1 i hlt, fun H'' => (fun i m H' => m = src.items.length - i ∧ i ≤ src.items.length ∧ ∃ C' S' acc accv, C'.H = H' ∧ Tr C0.ι.length C0 C' ∧ Grow C0 (C'.rb C0) ∧ (∀ a ∈ C0.bad, a ∈ C'.bad) ∧ RepS C' S' ∧ D ∈ C'.bad ∧ C'.H D = some (.lst accv) ∧ RepVs C' acc accv ∧ acc.length ≤ i ∧
        LW D Q fr C0 (lcGo (fun S => src.ok S) g tt te (wipeE ρ vs) (src.items.drop i) acc S')) (i + 1) (src.items.length - (i + 1)) H'', fun H'' h => ⟨_, by omega, h⟩, fun x H'' y => ?_⟩
      obtain ⟨C2, d, rfl, g2, r2, e2, rd⟩ := k3 i x H'' hlt y
      rw [List.getElem?_eq_getElem hlt] at e2
      have e3 : src.items[i] = d := Option.some.inj e2
      have g01 : C0.ι.length ≤ C1.ι.length := gr.le'
      have tr2 : Tr C0.ι.length C0 C2 := tr.trans (g2.tr rs) g01
      have ew : EnvR C2 (wipeE ρ vs) (wipe σ vs) := (env_wipe s0.ev s0.ln vs).trn tr2
      have sv2 : Sv X (wipeE ρ vs) (wipe σ vs) S' C2 := ⟨tr2.w.trans s0.w, tr2.K.trans s0.K, r2, ew, by rw [wipeE_len, wipe_length]; exact s0.ln⟩
      have hvn : ∀ {Ca Cb : RC} {Sa : Sto} {us : List V}, Grow Ca Cb → RepS Ca Sa → D ∈ Ca.bad → Ca.H D = some (.lst us) → Cb.H D = some (.lst us) ∧ D ∈ Cb.bad := fun {Ca Cb Sa us} x r hb h => ⟨(x.kp _ _ (r.bad D hb).1 h).exact (.inr hb), x.bad' D hb⟩
      cases e4 : g.f src.items[i] (wipeE ρ vs) with
      | none => rw [e4] at w; exact w.elim
      | some ρ1 =>
        rw [e4] at w
        dsimp only at w
        refine ⟨C2, wipeE ρ vs, S', d, ρ1, rfl, sv2, rd, by rw [← e3]; exact e4, fun σ1 ev1 l1 l1' w1 => ⟨by rw [w1 vs hix, wipe_wipe], ?_⟩⟩
        have sv3 : Sv X ρ1 σ1 S' C2 := ⟨sv2.w, sv2.K, r2, ev1, l1⟩
        refine ⟨C2, ρ1, S', rfl, sv3, ?_⟩
        cases e5 : tt ρ1 S' with
        | exc c d S2 => rw [e5] at w; exact w.elim
        | stk => rw [e5] at w; exact w.elim
        | ok b S2 =>
          rw [e5] at w
          simp only [R.calm_ok, R.bind_ok] at w
          intro C3 g3 r3
          have sv4 := sv3.grow g3 r3
          have gr3 : Grow C0 (C3.rb C0) := rb_step (rb_step gr hb g2) (fun a m => g2.bad' a (hb a m)) g3
          have hb3 : ∀ a ∈ C0.bad, a ∈ C3.bad := fun a m => g3.bad' a (g2.bad' a (hb a m))
          have z2 := hvn g2 rs hbD hv
          have z3 := hvn g3 r2 z2.2 z2.1
          have tr3 : Tr C0.ι.length C0 C3 := tr2.trans (g3.tr r2) (Nat.le_trans g01 g2.le')
          have rv3 : RepVs C3 acc accv := (rv.grow g2 rs).grow g3 r2
          cases b with
          | false =>
            rw [if_neg (by decide)] at w
            dsimp only
            rw [if_neg (by decide)]
            exact ⟨rfl, hlt, C3, S2, acc, accv, rfl, tr3, gr3, hb3, r3, z3.2, z3.1, rv3, by omega, w⟩
          | true =>
            rw [if_pos rfl] at w
            dsimp only
            rw [if_pos rfl]
            refine ⟨C3, ρ1, S2, rfl, sv4, ?_⟩
            cases e6 : te ρ1 S2 with
            | exc c d S2 => rw [e6] at w; exact w.elim
            | stk => rw [e6] at w; exact w.elim
            | ok yv S3 =>
              rw [e6] at w
              simp only [R.calm_ok, R.bind_ok] at w
              intro C4 g4 r4 v rvv
              have z4 := hvn g4 r3 z3.2 z3.1
              have hb4 : ∀ a ∈ C0.bad, a ∈ C4.bad := fun a m => g4.bad' a (hb3 a m)
              have tr4 : Tr C0.ι.length C0 C4 := tr3.trans (g4.tr r3) (Nat.le_trans g01 (Nat.le_trans g2.le' g3.le'))
              have l4 : C0.ι.length ≤ C4.ι.length := Nat.le_trans g01 (Nat.le_trans g2.le' (Nat.le_trans g3.le' g4.le'))
              have rv4 : RepVs C4 acc accv := rv3.grow g4 r3
              have wr := Tr.wr (vs := accv ++ [v]) r4 z4.2 z4.1
              refine ⟨accv, z4.1, by rw [← rv4.length]; omega, rfl, hlt, C4.put D (.lst (accv ++ [v])), S3, acc ++ [yv], accv ++ [v], rfl, tr4.trans wr l4, rb_wr (rb_step gr3 hb3 g4) hD, hb4, r4.wr z4.2 z4.1, z4.2, put_same, (rv4.trn wr).append (.cons (rvv.trn wr) .nil), by simp; omega, w⟩
    · rw [if_neg hok] at w; exact w.elim
  · have e : i = src.items.length := by omega
    subst e
    rw [List.drop_length, lcGo] at w
    by_cases hok : src.ok S' = true
    · rw [if_pos hok] at w
      obtain ⟨k1, k2, k3⟩ := sw C1 S' tr rs hok
      exact .inl ⟨k2, w C1 gr hb rs hbD accv hv rv⟩
    · rw [if_neg hok] at w; exact w.elim
abbrev STs (X : Cx) (W : WX) (ts : List Expr) (m : MT) : Prop := PTs X ts (tT X W m)
theorem sts_one {c : Expr} {mt : MT} (h : ST X W c mt) : STs X W [c] mt := pts_one h
theorem sts_nil : STs X W [] mTrue := by
  first
    | exact pts_nil.imp fun σ H Q ⟨C, ρ, S, e, s, q⟩ => by subst e; exact q.now s.rs
theorem tE.blk {X : Cx} {s0 : Shared} {H0 : Hp} {sc : Scope} {ce : Env} {fp : List Addr} {W : WX} {m : ME} {σ : L2.St} {H : Hp} {Q : VK} (h : tE X W m σ H Q) : tE (X.blk s0 H0 sc ce fp) W m σ H Q := by
  obtain ⟨C, ρ, S, e, s, q⟩ := h
  exact ⟨C, ρ, S, e, ⟨s.w, s.K, s.rs, s.ev, s.ln⟩, q⟩
theorem tT.blk {X : Cx} {s0 : Shared} {H0 : Hp} {sc : Scope} {ce : Env} {fp : List Addr} {W : WX} {m : MT} {σ : L2.St} {H : Hp} {Q : Bool → Hp → Prop} (h : tT X W m σ H Q) : tT (X.blk s0 H0 sc ce fp) W m σ H Q := by
  obtain ⟨C, ρ, S, e, s, q⟩ := h
  exact ⟨C, ρ, S, e, ⟨s.w, s.K, s.rs, s.ev, s.ln⟩, q⟩
theorem tG.blk {X : Cx} {s0 : Shared} {H0 : Hp} {sc : Scope} {ce : Env} {fp : List Addr} {t : Tg} {v : V} {σ : L2.St} {H : Hp} {Q : L2.St → Hp → Prop} (h : tG X t v σ H Q) : tG (X.blk s0 H0 sc ce fp) t v σ H Q := by
  obtain ⟨C, ρ, S, d, ρ', e, s, q⟩ := h
  exact ⟨C, ρ, S, d, ρ', e, ⟨s.w, s.K, s.rs, s.ev, s.ln⟩, q⟩
theorem se_lc (hc : X.calm = true) (hN : X.N.Nodup) (hi : SI X W tg iter mi) (ok : BlkOk X.N X.env.scope scope own)
    (hg : ∀ (s : Shared) (H : Hp) (C : Addr) (cl : List (Str × Addr)) (fp : List Addr), SG (X.blk s H scope (compEnvC scope cl C X.env) fp) tg g) (ht : ∀ (s : Shared) (H : Hp) (C : Addr) (cl : List (Str × Addr)) (fp : List Addr), STs (X.blk s H scope (compEnvC scope cl C X.env) fp) WNo ifs tt)
    (he : ∀ (s : Shared) (H : Hp) (C : Addr) (cl : List (Str × Addr)) (fp : List Addr), SE (X.blk s H scope (compEnvC scope cl C X.env) fp) WNo elt te) (hix : ∀ i ∈ g.ix, i ∈ own.map (·.2)) (hs : ∀ x, foldedSetIterable iter X.env x = pure x := by intro _; rfl) :
    SE X W (.ListComp elt [⟨tg, iter, ifs, 0⟩] scope pos) (mLc fr (own.map (·.2)) mi g tt te) :=
  (pe_lc hc hN hi ok (g := tG X g) (fun s H C cl fp => (hg s H C cl fp).imp fun v σ H Q h => tG.blk h) (fun s H C cl fp => (ht s H C cl fp).imp fun σ H Q h => tT.blk h) (fun s H C cl fp => (he s H C cl fp).imp fun σ H Q h => tE.blk h) hs).imp fun σ H Q h => lc_imp hix h
theorem ss_setLc {i : Nat} {y : Str} {py spos : Pos} (hc : X.calm = true) (hN : X.N.Nodup) (hy : X.N[i]? = some y) (hyl : X.env.scope.names.lookup y = some .local)
    (hsw : swapsWith (.ListComp elt [⟨tg, iter, ifs, 0⟩] scope pos) (some (.Name y py)) spos.line X.env = pure true) (hi : SI X W tg iter mi) (ok : BlkOk X.N X.env.scope scope own)
    (hg : ∀ (s : Shared) (H : Hp) (C : Addr) (cl : List (Str × Addr)) (fp : List Addr), SG (X.blk s H scope (compEnvC scope cl C X.env) fp) tg g) (ht : ∀ (s : Shared) (H : Hp) (C : Addr) (cl : List (Str × Addr)) (fp : List Addr), STs (X.blk s H scope (compEnvC scope cl C X.env) fp) WNo ifs tt)
    (he : ∀ (s : Shared) (H : Hp) (C : Addr) (cl : List (Str × Addr)) (fp : List Addr), SE (X.blk s H scope (compEnvC scope cl C X.env) fp) WNo elt te) (hix : ∀ i ∈ g.ix, i ∈ own.map (·.2)) (hs : ∀ x, foldedSetIterable iter X.env x = pure x := by intro _; rfl) :
    SS X W (.Assign [.Name y py] (.ListComp elt [⟨tg, iter, ifs, 0⟩] scope pos) spos) (mAsg (mLc fr (own.map (·.2)) mi g tt te) (tgName i)) :=
  (ps_setLc hc hN hy hyl hsw hi ok (g := tG X g) (fun s H C cl fp => (hg s H C cl fp).imp fun v σ H Q h => tG.blk h) (fun s H C cl fp => (ht s H C cl fp).imp fun σ H Q h => tT.blk h) (fun s H C cl fp => (he s H C cl fp).imp fun σ H Q h => tE.blk h) hs).imp fun D σ H ⟨C, ρ, S, e, s, q⟩ => by
    subst e
    refine lc_imp (fr := fr) hix ?_
    refine tE.thn s q fun d S1 C1 v s1 g1 r1 q1 => ?_
    exact q1 C1 _ Grow.refl s1.rs (s1.ev.set s1.ln r1) (by simp [s1.ln])
end
end Mi
set_option Elab.async false
set_option linter.all false
set_option maxRecDepth 100000
set_option maxHeartbeats 2000000
namespace Mi
open PySem PySem.Spec PyProof.Rows L2
def setM (o i d : MV) (S : Sto) : Option Sto := match o with
  | .ref n => (match S[n]? with
    | some (.lst xs) => (match i with
      | .int k => (match ixN xs.length k with
        | some j => some (S.set n (.lst (xs.set j d)))
        | none => none)
      | _ => none)
    | some (.dct ks vs) => (match keyV i with
      | some k => if ks.length < 1000 then some (S.set n (.dct (dput ks vs k d).1 (dput ks vs k d).2)) else none
      | none => none)
    | _ => none)
  | _ => none
def rSet (X : Cx) : TSet := fun o i v H Q => ∃ C S d1 d2 d3, C.H = H ∧ C.w = X.w ∧ C.K = X.K ∧ RepS C S ∧ RepV C d1 o ∧ RepV C d2 i ∧ RepV C d3 v ∧ ∃ S', setM d1 d2 d3 S = some S' ∧ ∀ C', Grow C C' → RepS C' S' → Q C'.H
theorem write_ok {C : RC} {S : Sto} {n : Nat} {a : Addr} {o : HO} {mo : MO} {Q : Hp → Prop} (r : RepS C S) (h : C.ι[n]? = some a) (q : RepO (C.put a o) a mo) (k : ∀ C', Grow C C' → RepS C' (S.set n mo) → Q C'.H) : Q (upd C.H a o) :=
  k (C.put a o) (Grow.write (List.mem_of_getElem? h)) (r.write h q)
theorem psetM {X : Cx} (hu : X.A.units + 1 < cLine) : PSet X (rSet X) := by
  intro pins s σ H o i v ov iv u Q I ro ri rv rof
  obtain ⟨C, S, d1, d2, d3, rfl, hw, hK, r, h1, h2, h3, S', e, q⟩ := rof
  cases d1 with
  | ref n =>
    rw [RepV] at h1
    obtain ⟨a, rfl, ha⟩ := h1
    unfold setM at e
    dsimp only at e
    have gw : ∀ {o : HO}, Grow C (C.put a o) := Grow.write (List.mem_of_getElem? ha)
    cases e0 : S[n]? with
    | none => rw [e0] at e; cases e
    | some mo =>
      rw [e0] at e
      have ro' := r.ob n mo a e0 ha
      cases mo with
      | lst xs =>
        dsimp only at e
        cases d2 with
        | int k =>
          dsimp only at e
          cases ej : ixN xs.length k with
          | none => rw [ej] at e; cases e
          | some j =>
            rw [ej] at e
            cases e
            obtain ⟨vs, hv, t⟩ := ro'
            refine set_list pins s σ C.H _ _ _ ov iv u Q I ro ri rv ⟨a, vs, k, j, rfl, vInt h2, hv, by rw [← t.length]; exact ej, ?_⟩
            exact write_ok (mo := .lst (xs.set j d3)) r ha ⟨_, put_same, (t.set h3 j).grow gw r⟩ q
        | _ => cases e
      | dct ks ds =>
        dsimp only at e
        cases ek : keyV d2 with
        | none => rw [ek] at e; cases e
        | some k =>
          rw [ek] at e
          dsimp only at e
          split at e
          · rename_i hz
            cases e
            obtain ⟨vs, hv, l, nd, t⟩ := ro'
            have ekv := keyV_rep h2 ek
            subst ekv
            obtain ⟨vs', e1, e2, e3, e4⟩ := dput_rep (ks' := (dput ks ds k d3).1) (ds' := (dput ks ds k d3).2) t l nd h3 rfl
            refine set_dict hu pins s σ C.H _ _ _ ov iv u Q I ro ri rv ⟨a, _, rfl, .k hv ?_, ?_⟩
            · rw [List.length_zip, ← l, sizeLine_eq]; omega
            · rw [e1]
              exact write_ok (mo := .dct (dput ks ds k d3).1 (dput ks ds k d3).2) r ha ⟨vs', put_same, e2, e3, e4.grow gw r⟩ q
          · cases e
      | _ => cases e
  | _ => cases e
def mSub (e o i : ME) : MS := fun ρ S => (e ρ S).thn ρ fun d S1 => (o ρ S1).thn ρ fun od S2 => (i ρ S2).thn ρ fun id S3 => match setM od id d S3 with
  | some S4 => .nx ρ S4
  | none => .stk
section
variable {X : Cx} {W : WX} {e o i : Expr} {me mo mi : ME} {pos tpos apos : Pos}
/-- o[i] = v by its parts -/
abbrev SubAs (X : Cx) (o i : Expr) (tpos : Pos) : Prop := ∀ v, assign (.Subscript o i tpos) X.env v =
  (holding [v] (eval o X.env) >>= fun to => holding [v, to] (eval i X.env) >>= fun at' => standAt tpos >>= fun _ => holding [v, to, at'] (setItem to at' v) >>= fun _ => release [v, to, at'] [])
theorem ss_sub (hu : X.A.units + 1 < cLine) (he : SE X W e me) (ho : SE X W o mo) (hi : SE X W i mi) (ha : SubAs X o i tpos := by intro _; rfl) (hs : swapsWithSole [.Subscript o i tpos] e pos.line X.env = pure false := by rfl) (hw : swappedStores [.Subscript o i tpos] e X.env = pure none := by rfl)
    (h1 : (assignEach [.Subscript o i tpos] X.env).map (·.2) = [assign (.Subscript o i tpos) X.env] := by rfl) : SS X W (.Assign [.Subscript o i tpos] e pos) (mSub me mo mi) :=
  (ps_asg he (pg_sub ho hi (psetM hu) ha) hs hw h1).imp fun D σ H ⟨C, ρ, S, e, s, q⟩ => by
    subst e
    refine tE.thn s q fun d S1 C1 v s1 g1 r1 q1 => ?_
    refine tE.thn s1 q1 fun od S2 C2 ov s2 g2 r2 q2 => ?_
    refine tE.thn s2 q2 fun id S3 C3 iv s3 g3 r3 q3 => ?_
    refine ⟨C3, S3, od, id, d, rfl, s3.w, s3.K, s3.rs, r2.grow g3 s2.rs, r3, (r1.grow g2 s1.rs).grow g3 s2.rs, ?_⟩
    cases e : setM od id d S3 with
    | none => rw [e] at q3; exact q3.elim
    | some S4 =>
      rw [e] at q3
      exact ⟨S4, rfl, fun C' g r => q3 C' σ g r (s3.ev.grow g s3.rs) s3.ln⟩
def appM (o d : MV) (S : Sto) : R MV := match o with
  | .ref n => (match S[n]? with
    | some (.lst xs) => if xs.length < sizeLine then .ok .non (S.set n (.lst (xs ++ [d]))) else .stk
    | _ => .stk)
  | _ => .stk
def isLst (S : Sto) (o : MV) : Bool := (lstOf S o).isSome
def mApp (o : ME) (e : ME) : ME := fun ρ S => (o ρ S).bind fun od S1 => if isLst S1 od then (e ρ S1).bind fun d S2 => appM od d S2 else .stk
abbrev FewArgs (X : Cx) (pos : Pos) (e : Expr) : Prop := ((backTo pos (starEach [e] X.env)).all (fun x => !x.1) && (backToKw pos (keywordEach [] X.env)).all (fun x => x.1.isSome) && decide (([e] : List Expr).length +
  ([] : List Keyword).length + (if ([] : List Keyword).isEmpty then 0 else 1) < 30)) = true
theorem se_app (ho : SE X W o mo) (he : SE X W e me) (hbase : attributeBase o "append" X.env (eval o X.env) = eval o X.env := by rfl)
    (hfew : FewArgs X pos e := by rfl)
    (hline : (apos.endLine == pos.line) = true := by rfl) (hs : starEach [e] X.env = (false, eval e X.env) :: starEach [] X.env := by rfl) (hplain : (backTo pos (starEach [] X.env)).any (·.1) = false := by rfl) :
    SE X W (.Call (.Attribute o "append" apos) [e] [] pos) (mApp mo me) :=
  (pe_bm PySem.F.plainAttrs_list PySem.F.slot_list_append PySem.F.type_list_append mt_append ho (pa_cons he pa_nil hs) hbase hfew hline hs hplain).imp fun σ H Q ⟨C, ρ, S, e, s, q⟩ => by
    subst e
    refine tE.bind s q fun od S1 C1 ov s1 g1 r1 q1 => ?_
    split at q1
    · rename_i hl
      unfold isLst at hl
      obtain ⟨xs, hx⟩ := Option.isSome_iff_exists.mp hl
      obtain ⟨a, vs, rfl, ha, t⟩ := lstOf_rep s1.rs r1 hx
      refine ⟨.inl ⟨rfl, vs, .of ha⟩, ?_⟩
      refine tE.bind s1 q1 fun d S2 C2 v s2 g2 r2 q2 => ?_
      have ro := r1.grow g2 s1.rs
      unfold appM at q2
      cases od with
      | ref n =>
        dsimp only at q2
        rw [RepV] at ro
        obtain ⟨a', ea, ha2⟩ := ro
        cases ea
        cases e0 : S2[n]? with
        | none => rw [e0] at q2; exact q2.elim
        | some mo =>
          rw [e0] at q2
          cases mo with
          | lst xs =>
            dsimp only at q2
            obtain ⟨us, hv, t2⟩ := s2.rs.ob n _ _ e0 ha2
            split at q2
            · rename_i hz
              refine ⟨a, us, v, rfl, rfl, hv, by rw [← t2.length]; exact hz, ?_⟩
              have gw : Grow C2 (C2.put a (.lst (us ++ [v]))) := Grow.write (List.mem_of_getElem? ha2)
              exact q2.here gw (s2.rs.write (mo := .lst (xs ++ [d])) ha2 ⟨_, put_same, (t2.append (.cons r2 .nil)).grow gw s2.rs⟩) _ repN
            · exact q2.elim
          | _ => exact q2.elim
      | _ => exact q2.elim
    · exact q1.elim
def mIsi (t : String) (e : ME) : ME := fun ρ S => (e ρ S).bind fun d S1 => isiM t [d] S1
theorem se_isi {t : String} {x : Str} {p1 p2 : Pos} (hg : Gl X "isinstance") (hm : X.mg "isinstance" = none) (hgx : Gl X x) (hmx : X.mg x = none) (hvx : bootBuiltins x = some (.type t)) (he : SE X W e me) (hnx : x ≠ "__name__" := by decide) (hdx : (x == ("__debug__" : Str)) = false := by decide)
    (hs : starEach [e, .Name x p2] X.env = (false, eval e X.env) :: starEach [.Name x p2] X.env := by rfl) (hs2 : starEach [.Name x p2] X.env = (false, eval (.Name x p2) X.env) :: starEach [] X.env := by rfl) (hpl : (backTo pos (starEach [.Name x p2] X.env)).any (·.1) = false := by rfl) :
    SE X W (.Call (.Name "isinstance" p1) [e, .Name x p2] [] pos) (mIsi t me) :=
  (pe_callB call_isi hg hm PyProof.Rows.boot_isinstance (pa_cons he (pa_cons (pe_bltn (v := .ty t) hgx hmx hvx rfl hnx hdx) pa_nil hs2) hs) (by decide) (by decide) hs hpl).imp fun σ H Q ⟨C, ρ, S, e, s, q⟩ => by
    subst e
    refine tE.bind s q fun d S1 C1 v s1 g1 r1 q1 => ?_
    unfold isiM at q1
    dsimp only at q1
    cases eb : isiB S1 d t with
    | none => rw [eb] at q1; exact q1.elim
    | some b =>
      rw [eb] at q1
      unfold isiB at eb
      cases en : tyN S1 d with
      | none => rw [en] at eb; cases eb
      | some n =>
        rw [en] at eb
        dsimp only at eb
        have ty := tyN_rep s1.rs r1 en
        rw [s1.K] at ty
        exact ⟨v, .ty t, _, _, b, rfl, .ty t, ty, kit_ty eb, q1.now s1.rs _ (repB _)⟩
end
end Mi
set_option Elab.async false
set_option linter.all false
set_option maxRecDepth 100000
set_option maxHeartbeats 2000000
namespace Mi
open PySem PySem.Spec PyProof.Rows L2
def objOf (S : Sto) : MV → Option (Str × List Str × List MV)
  | .obj c fs vs => some (c, fs, vs)
  | .ref n => (match S[n]? with
    | some (.obj c fs vs) => some (c, fs, vs)
    | _ => none)
  | _ => none
theorem objOf_rep {C : RC} {S : Sto} {d : MV} {v : V} {c : Str} {fs : List Str} {ds : List MV} (r : RepS C S) (h : RepV C d v) (e : objOf S d = some (c, fs, ds)) :
    ∃ a dx vs, v = .ref a ∧ C.H a = some (.ins (He.ga C.K c) dx (fs.zip vs)) ∧ fs.length = vs.length ∧ RepVs C ds vs := by
  cases d with
  | obj c' fs' vs' =>
    rw [objOf] at e; cases e
    rw [RepV] at h
    obtain ⟨a, dx, vs, e, _, q, l, t⟩ := h
    exact ⟨a, dx, vs, e, q, l, t⟩
  | ref n =>
    rw [RepV] at h
    obtain ⟨a, e1, e2⟩ := h
    rw [objOf] at e
    cases q : S[n]? with
    | none => simp [q] at e
    | some o =>
      rw [q] at e
      cases o with
      | obj c' fs' vs' =>
        cases e
        obtain ⟨dx, vs, h1, h2, h3⟩ := r.ob n _ a q e2
        exact ⟨a, dx, vs, e1, h1, h2, h3⟩
      | _ => cases e
  | _ => cases e
def flook : List Str → List MV → Str → Option MV
  | f :: fs, d :: ds, g => if g = f then some d else flook fs ds g
  | _, _, _ => none
theorem str_beq_ne {a b : Str} (h : a ≠ b) : (a == b) = false := by
  cases e : (a == b) with
  | false => rfl
  | true => exact absurd (eq_of_beq e) h
theorem flook_rep {C : RC} {g : Str} {d : MV} : ∀ {fs : List Str} {ds : List MV} {vs : List V}, RepVs C ds vs → flook fs ds g = some d → ∃ v, (fs.zip vs).lookup g = some v ∧ RepV C d v
  | [], _, _, _, e => by simp [flook] at e
  | _ :: _, [], _, _, e => by simp [flook] at e
  | f :: fs, x :: ds, vs, t, e => by
    obtain ⟨v, vr, rfl, r, t⟩ := t.cons_inv
    rw [flook] at e
    by_cases h : g = f
    · rw [if_pos h] at e; cases e
      subst h
      exact ⟨v, by simp [List.lookup], r⟩
    · rw [if_neg h] at e
      obtain ⟨u, h1, h2⟩ := flook_rep t e
      refine ⟨u, ?_, h2⟩
      rw [List.zip_cons_cons, List.lookup_cons, str_beq_ne h]
      exact h1
def fput : List Str → List MV → Str → MV → List Str × List MV
  | f :: fs, d :: ds, g, x => if f = g then (f :: fs, x :: ds) else (f :: (fput fs ds g x).1, d :: (fput fs ds g x).2)
  | _, _, g, x => ([g], [x])
theorem fput_rep {C : RC} {g : Str} {x : MV} {v : V} (r : RepV C x v) : ∀ {fs : List Str} {ds : List MV} {vs : List V}, RepVs C ds vs → fs.length = vs.length →
    ∃ vs', putF g v (fs.zip vs) = (fput fs ds g x).1.zip vs' ∧ (fput fs ds g x).1.length = vs'.length ∧ RepVs C (fput fs ds g x).2 vs'
  | [], ds, vs, t, l => by
    have : vs = [] := List.eq_nil_of_length_eq_zero (by simpa using l.symm)
    subst this
    refine ⟨[v], ?_, ?_, ?_⟩ <;> simp [fput, putF]
    exact .cons r .nil
  | f :: fs, [], vs, t, l => by
    have := t.nil_inv
    subst this
    simp at l
  | f :: fs, d :: ds, vs, t, l => by
    obtain ⟨u, vr, rfl, ru, t⟩ := t.cons_inv
    rw [fput, List.zip_cons_cons, putF]
    by_cases h : f = g
    · rw [if_pos h, if_pos h]
      exact ⟨v :: vr, by rw [List.zip_cons_cons], by simpa using l, .cons r t⟩
    · rw [if_neg h, if_neg h]
      obtain ⟨vs', h1, h2, h3⟩ := fput_rep r t (by simpa using l)
      exact ⟨u :: vs', by rw [h1, List.zip_cons_cons], by simpa using h2, .cons ru h3⟩
def fldM (c f : Str) (d : MV) (S : Sto) : R MV := match objOf S d with
  | some (c', fs, ds) => if c' = c then (match flook fs ds f with
    | some x => .ok x S
    | none => .stk) else .stk
  | none => .stk
def mFld (c f : Str) (o : ME) : ME := fun ρ S => (o ρ S).bind fun d S1 => fldM c f d S1
def fsetM (c f : Str) (o d : MV) (S : Sto) : Option Sto := match o with
  | .ref n => (match S[n]? with
    | some (.obj c' fs ds) => if c' = c ∧ fs.length < 900 then some (S.set n (.obj c' (fput fs ds f d).1 (fput fs ds f d).2)) else none
    | _ => none)
  | _ => none
def mFset (c f : Str) (e o : ME) : MS := fun ρ S => (e ρ S).thn ρ fun d S1 => (o ρ S1).thn ρ fun od S2 => match fsetM c f od d S2 with
  | some S3 => .nx ρ S3
  | none => .stk
section
variable {X : Cx} {W : WX} {e o : Expr} {es : List Expr} {me mo : ME} {mas : MA} {pos tpos apos p : Pos} {c f x : Str}
theorem se_fld (hc : Cls X.K (He.ga X.K c)) (hn : NoAttr X.K (He.ga X.K c) f) (ho : SE X W e me) (hb : attributeBase e f X.env (eval e X.env) = eval e X.env := by rfl) : SE X W (.Attribute e f pos) (mFld c f me) :=
  (pe_fld ho hb).imp fun σ H Q ⟨C, ρ, S, e, s, q⟩ => by
    subst e
    refine tE.bind s q fun d S1 C1 v s1 g1 r1 q1 => ?_
    unfold fldM at q1
    cases e1 : objOf S1 d with
    | none => rw [e1] at q1; exact q1.elim
    | some z =>
      obtain ⟨c', fs, ds⟩ := z
      rw [e1] at q1
      dsimp only at q1
      split at q1
      · rename_i ec
        subst ec
        cases e2 : flook fs ds f with
        | none => rw [e2] at q1; exact q1.elim
        | some x =>
          rw [e2] at q1
          obtain ⟨a, dx, vs, rfl, ha, l, t⟩ := objOf_rep s1.rs r1 e1
          obtain ⟨u, h1, h2⟩ := flook_rep t e2
          rw [s1.K] at ha
          exact ⟨a, _, dx, _, u, rfl, ha, hc, hn, h1, q1.now s1.rs u h2⟩
      · exact q1.elim
theorem ss_fset (hc : Cls X.K (He.ga X.K c)) (hn : NoAttr X.K (He.ga X.K c) f) (he : SE X W e me) (ho : SE X W o mo) (hs : swapsWith e (some (.Attribute o f tpos)) pos.line X.env = pure false := by rfl) : SS X W (.Assign [.Attribute o f tpos] e pos) (mFset c f me mo) :=
  (ps_fld ho he hs).imp fun D σ H ⟨C, ρ, S, e, s, q⟩ => by
    subst e
    refine tE.thn s q fun d S1 C1 v s1 g1 r1 q1 => ?_
    refine tE.thn s1 q1 fun od S2 C2 ov s2 g2 r2 q2 => ?_
    have rd := r1.grow g2 s1.rs
    unfold fsetM at q2
    cases od with
    | ref n =>
      dsimp only at q2
      rw [RepV] at r2
      obtain ⟨a, rfl, ha⟩ := r2
      cases e0 : S2[n]? with
      | none => rw [e0] at q2; exact q2.elim
      | some z =>
        rw [e0] at q2
        cases z with
        | obj c' fs ds =>
          dsimp only at q2
          split at q2
          · rename_i h
            split at h
            · rename_i hh
              obtain ⟨rfl, hl⟩ := hh
              cases h
              obtain ⟨dx, vs, h1, h2, h3⟩ := s2.rs.ob n _ a e0 ha
              obtain ⟨vs', k1, k2, k3⟩ := fput_rep (g := f) rd h3 h2
              have hK := s2.K
              rw [hK] at h1
              refine ⟨a, _, dx, _, rfl, h1, hc, hn, by rw [List.length_zip]; omega, ?_⟩
              have gw : ∀ {o : HO}, Grow C2 (C2.put a o) := Grow.write (List.mem_of_getElem? ha)
              rw [k1]
              have w := s2.rs.write (mo := .obj c' (fput fs ds f d).1 (fput fs ds f d).2) (o := .ins (He.ga X.K c') dx ((fput fs ds f d).1.zip vs')) ha ⟨dx, vs', by rw [put_same, ← hK]; rfl, k2, k3.grow gw s2.rs⟩
              exact q2 _ σ gw w (s2.ev.grow gw s2.rs) s2.ln
            · cases h
          · exact q2.elim
        | _ => exact q2.elim
    | _ => exact q2.elim
def makM (c : Str) (m : MF) (ds : List MV) (S : Sto) : R MV := (m (.ref S.length :: ds) (S ++ [.obj c [] []])).bind fun r S2 => match r with
  | .non => .ok (.ref S.length) S2
  | _ => .stk
end
section
variable {X : Cx} {CX : CXT} {k : Nat} {f C : Addr} {fd : FuncData} {ps : List Str} {sp : Sp} {E : L2.St → XK} {x m : Str} {p pos apos : Pos} {e o : Expr} {es : List Expr} {ta : TE} {t : TA}
/-- C(..) with an __init__ of its own: the new object's two cells lie at the heap's end -/
theorem run_makeS {pins : List (Addr × Obj)} {σ : L2.St} {H : Hp} {s : Shared} {Q : VK} {us : List Value} {vs : List V} (M : Mk X.K C f) (F : FnOk X.prog X.w X.K X.mg X.base CX k f fd ps sp) (hr : Room (k + 1) X.A) (hb : Binds X.K fd ps [])
    (hx : PassesAt CX X σ (E σ)) (inv : Inv X pins σ H s) (rs : Vals vs us)
    (h : ∀ x dx, H x = none → H dx = none → dx ≠ x → sp (.ref x :: vs) (upd (upd H dx (.own x)) x (.ins C dx [])) (fun v H2 => v = .non ∧ Q (.ref x) H2) (E σ)) :
    wpAny (model X.prog X.w) X.A (call (.ref C) us []) (EP X pins σ Q) X.xe s := by
  have made := Inv.made (C := C) inv
  have self : Vals (V.ref (s.heap.objs.size + 1) :: vs) (Value.ref (s.heap.objs.size + 1) :: us) := .cons (show RelV (.ref _) (.ref _) from rfl) rs
  have told := h _ _ (inv.hok.fresh (Nat.le_add_right _ 1)) (inv.hok.fresh Nat.le.refl) fun z => Nat.succ_ne_self _ z.symm
  have bound := hb _ (Value.ref (s.heap.objs.size + 1) :: us) made.kIn (by rw [List.append_nil]; exact self.length.symm.trans (F.len _ _ _ _ told))
  simp only [List.append_nil] at bound
  refine wpAny_call (make_map inv.kIn M.makes M.init (beq_iff_eq.mp M.fn) (codeAny_mono (F.run _ X.stack _ _ ⟨Value.ref (s.heap.objs.size + 1) :: us, []⟩ _ _ _ (E σ) (hr.make C us []) (made.env0.make C us []) bound self told) ?_))
  rintro (x | fl) s' res
  · exact hx pins _ _ x s' made res
  · cases fl with
    | ret _ =>
      obtain ⟨_, H', inv3, is, rfl, q⟩ := made.after res
      exact ⟨is, V.ref (s.heap.objs.size + 1), H', inv3, rfl, q⟩
    | _ => exact res.elim
def tMakeS (C : Addr) (sp : Sp) (E : L2.St → XK) (t : TA) : TE := fun σ H Q => t σ H fun vs H1 => ∀ x dx, H1 x = none → H1 dx = none → dx ≠ x →
  sp (.ref x :: vs) (upd (upd H1 dx (.own x)) x (.ins C dx [])) (fun v H2 => v = .non ∧ Q (.ref x) H2) (E σ)
theorem pe_makeS (M : Mk X.K C f) (F : FnOk X.prog X.w X.K X.mg X.base CX k f fd ps sp) (hr : Room (k + 1) X.A) (hg : Gl X x) (hm : X.mg x = some (.ref C)) (hb : Binds X.K fd ps []) (hx : ∀ σ, PassesAt CX X σ (E σ)) (ha : PA X (e :: es) t)
    (nd : (x == ("__debug__" : Str)) = false) (first : starEach (e :: es) X.env = (false, eval e X.env) :: starEach es X.env) (plain : (backTo pos (starEach es X.env)).any (·.1) = false) : PE X (.Call (.Name x p) (e :: es) [] pos) (tMakeS C sp E t) where
  run pins s σ H Q inv q := wpAny_Call_Name_kw (ld_glob inv hg hm (PySem.W.callWith_K (h₀ := X.base) inv.ok.mod.kin M.kp (thn (ha.run pos pins s σ H _ inv q) fun us s1 ⟨vs, H1, inv1, rs, q1⟩ => ⟨inv1.kIn, run_makeS M F hr hb (hx σ) inv1 rs q1⟩) first plain) nd)
end
section
variable {X : Cx} {W : WX} {e o : Expr} {es : List Expr} {me mo : ME} {mas : MA} {pos tpos apos p : Pos} {c x mn : Str} {k n : Nat} {f : Addr} {fd : FuncData} {ps : List Str} {m : MF}
theorem se_make (M : Mk X.K (He.ga X.K c) f) (F : FnOk X.prog X.w X.K X.mg X.base (L2.CX X.prog X.w) k f fd ps (spM X.w X.K (n + 1) m)) (hr : Room (k + 1) X.A) (hg : Gl X x) (hm : X.mg x = some (.ref (He.ga X.K c))) (hb : Binds X.K fd ps []) (tk : Takes X W)
    (ha : SA X W (e :: es) mas) (hl : LenA mas n) (hdb : (x == ("__debug__" : Str)) = false := by decide) (he : starEach (e :: es) X.env = (false, eval e X.env) :: starEach es X.env := by rfl) (hpl : (backTo pos (starEach es X.env)).any (·.1) = false := by rfl) :
    SE X W (.Call (.Name x p) (e :: es) [] pos) (mCallF (makM c m) mas) :=
  (pe_makeS (E := WE W) M F hr hg hm hb (passAt tk) ha hdb he hpl).imp fun σ H Q ⟨C, ρ, S, e, s, q⟩ => by
    subst e
    refine ⟨C, ρ, S, rfl, s, ?_⟩
    refine Wants.mono (Wants.bind q) fun ds S1 C1 g r1 e1 q1 vs rv => ?_
    intro a dx ha hdx hne
    have s1 := s.grow g r1
    have g2 : Grow C1 (C1.put dx (.own a)) := Grow.put hdx
    have r2 : RepS (C1.put dx (.own a)) S1 := r1.put hdx
    have h2 : (C1.put dx (.own a)).H a = none := by
      show upd C1.H dx _ a = none
      rw [upd_ne (Ne.symm hne)]; exact ha
    have g3 := Grow.cell (o := .ins (He.ga X.K c) dx []) h2
    have r3 : RepS ((C1.put dx (.own a)).cell a (.ins (He.ga X.K c) dx [])) (S1 ++ [.obj c [] []]) :=
      r2.cell h2 ⟨dx, [], by rw [cell_same]; show _ = some (HO.ins (He.ga C1.K c) dx []); rw [s1.K], rfl, .nil⟩
    have q1 := q1.1
    refine ⟨by rw [List.length_cons, ← rv.length, hl _ _ _ _ e1], _, _, .ref S1.length :: ds, rfl, (g2.trans g3).w.trans s1.w, (g2.trans g3).K.trans s1.K, r3, .cons (cell_ref r2) (rv.grow (g2.trans g3) r1), ?_⟩
    have q2 : Wants W σ C1 ((m (.ref S1.length :: ds) (S1 ++ [.obj c [] []])).bind fun r S2 => match r with
      | .non => .ok (.ref S1.length) S2
      | _ => .stk) (fun d _ C' => ∀ v, RepV C' d v → Q v C'.H) := q1
    cases e2 : m (.ref S1.length :: ds) (S1 ++ [.obj c [] []]) with
    | exc c' d S' => rw [e2] at q2; exact fun C' cls dx' g' r' e' => q2 C' cls dx' ((g2.trans g3).trans g') r' e'
    | stk => rw [e2] at q2; exact q2.elim
    | ok r S2 =>
      rw [e2] at q2
      intro C' g' r' v rv'
      rw [R.bind_ok] at q2
      cases r with
      | non => exact ⟨vNon rv', q2.here ((g2.trans g3).trans g') r' _ ((cell_ref r2).grow g' r3)⟩
      | _ => exact q2.elim
end
end Mi
set_option Elab.async false
set_option linter.all false
set_option maxRecDepth 100000
set_option maxHeartbeats 2000000
namespace Mi
open PySem PySem.Spec PyProof.Rows L2
def RS.calm : RS → RS
  | .exc _ _ _ _ => .stk
  | r => r
theorem WantS.calm {W : WX} {D : Ends} {C : RC} {r : RS} (h : WantS W D C r.calm) : WantS WNo D C r := by
  cases r with
  | nx ρ S => exact h
  | rt d S => exact h
  | exc c d ρ S => exact h.elim
  | stk => exact h
end Mi
set_option Elab.async false
set_option linter.all false
set_option maxRecDepth 100000
set_option maxHeartbeats 2000000
namespace Mi
open PySem PySem.Spec PyProof.Rows L2
def frz (b : Nat) (S : Sto) : Nat → MV → Option MV
  | 0, d => if refsB b d then some d else none
  | n + 1, .ref k => if k < b then some (.ref k) else (match S[k]? with
    | some (.lst xs) => (xs.mapM (frz b S n)).map .lst
    | some (.dct ks vs) => (vs.mapM (frz b S n)).map (.dct ks)
    | some (.dcT ks vs) => if refsBs b ks then (vs.mapM (frz b S n)).map (.dcT ks) else none
    | some (.obj c fs vs) => (vs.mapM (frz b S n)).map (.obj c fs)
    | _ => none)
  | n + 1, .tup xs => (xs.mapM (frz b S n)).map .tup
  | n + 1, .lst xs => (xs.mapM (frz b S n)).map .lst
  | n + 1, .dct ks vs => (vs.mapM (frz b S n)).map (.dct ks)
  | n + 1, .obj c fs vs => (vs.mapM (frz b S n)).map (.obj c fs)
  | _ + 1, d => if refsB b d then some d else none
def RC.cut (C : RC) (b : Nat) : RC := { C with ι := C.ι.take b }
theorem Tr.cut {C : RC} {b : Nat} : Tr b C (C.cut b) := by
  refine ⟨rfl, rfl, fun _ _ q => q, fun a u n q => ⟨⟨fun m => n.1 (List.mem_of_mem_take m), n.2⟩, .inl q⟩, fun _ _ _ q => q, fun n a hn q => ?_⟩
  show (C.ι.take b)[n]? = some a
  rw [List.getElem?_take_of_lt hn]; exact q
theorem mapM_rep {C C' : RC} {f : MV → Option MV} (h : ∀ d v d', RepV C d v → f d = some d' → RepV C' d' v) : ∀ {xs ys : List MV} {vs : List V}, RepVs C xs vs → xs.mapM f = some ys → RepVs C' ys vs
  | [], ys, vs, t, e => by
    simp at e; subst e
    rw [t.nil_inv]; exact .nil
  | x :: xs, ys, vs, t, e => by
    obtain ⟨v, vr, rfl, r, t⟩ := t.cons_inv
    rw [List.mapM_cons] at e
    cases e1 : f x with
    | none => rw [e1] at e; cases e
    | some y =>
      rw [e1] at e
      cases e2 : xs.mapM f with
      | none => rw [e2] at e; cases e
      | some zs =>
        rw [e2] at e
        have e : some (y :: zs) = some ys := e
        cases e
        exact .cons (h x v y r e1) (mapM_rep h t e2)
theorem notmem_take {C : RC} {n b : Nat} {a : Addr} (nd : C.ι.Nodup) (h : C.ι[n]? = some a) (hb : b ≤ n) : a ∉ C.ι.take b := fun m => by
  obtain ⟨j, hj⟩ := List.mem_iff_getElem?.mp m
  rw [List.getElem?_take] at hj
  split at hj
  · rename_i hl
    obtain ⟨h1, e1⟩ := List.getElem?_eq_some_iff.mp h
    obtain ⟨h2, e2⟩ := List.getElem?_eq_some_iff.mp hj
    have := (List.getElem_inj nd).mp (e1.trans e2.symm)
    omega
  · cases hj
theorem frz_rep {C : RC} {S : Sto} {b : Nat} (r : RepS C S) : ∀ (n : Nat) (d : MV) (v : V) (d' : MV), RepV C d v → frz b S n d = some d' → RepV (C.cut b) d' v
  | 0, d, v, d', h, e => by
    rw [frz] at e
    split at e
    · cases e
      exact RepV.tr Tr.cut d v (by assumption) h
    · cases e
  | n + 1, d, v, d', h, e => by
    have ih := frz_rep (b := b) r n
    have fz : ∀ {a : Addr} {k : Nat}, C.ι[k]? = some a → b ≤ k → Froz (C.cut b) a := fun {a k} hk hb => ⟨notmem_take r.nd hk hb, fun m => (r.bad a m).1 (List.mem_of_getElem? hk)⟩
    have fz2 : ∀ {a : Addr}, Froz C a → Froz (C.cut b) a := fun {a} n => ⟨fun m => n.1 (List.mem_of_mem_take m), n.2⟩
    have rest : ∀ d : MV, (if refsB b d then some d else none) = some d' → RepV C d v → RepV (C.cut b) d' v := fun d e h => by
      by_cases hb : refsB b d = true
      · rw [if_pos hb] at e
        cases e
        exact RepV.tr Tr.cut _ v hb h
      · rw [if_neg hb] at e; cases e
    cases d with
    | ref k =>
      rw [frz] at e
      rw [RepV] at h
      obtain ⟨a, rfl, ha⟩ := h
      split at e
      · cases e
        rw [RepV]
        refine ⟨a, rfl, ?_⟩
        show (C.ι.take b)[k]? = some a
        rw [List.getElem?_take_of_lt (by assumption)]; exact ha
      · rename_i hk
        have hk : b ≤ k := Nat.le_of_not_lt hk
        cases e0 : S[k]? with
        | none => rw [e0] at e; cases e
        | some o =>
          rw [e0] at e
          have ro := r.ob k o a e0 ha
          cases o with
          | lst xs =>
            dsimp only at e
            cases e1 : xs.mapM (frz b S n) with
            | none => rw [e1] at e; cases e
            | some ys =>
              rw [e1] at e; cases e
              obtain ⟨vs, hv, t⟩ := ro
              rw [RepV]
              exact ⟨a, vs, rfl, fz ha hk, hv, mapM_rep ih t e1⟩
          | dct ks xs =>
            dsimp only at e
            cases e1 : xs.mapM (frz b S n) with
            | none => rw [e1] at e; cases e
            | some ys =>
              rw [e1] at e; cases e
              obtain ⟨vs, hv, l, nd, t⟩ := ro
              rw [RepV]
              exact ⟨a, vs, rfl, fz ha hk, .inl hv, l, nd, mapM_rep ih t e1⟩
          | obj c fs xs =>
            dsimp only at e
            cases e1 : xs.mapM (frz b S n) with
            | none => rw [e1] at e; cases e
            | some ys =>
              rw [e1] at e; cases e
              obtain ⟨dx, vs, hv, l, t⟩ := ro
              rw [RepV]
              exact ⟨a, dx, vs, rfl, fz ha hk, hv, l, mapM_rep ih t e1⟩
          | dcT ks xs =>
            dsimp only at e
            by_cases hb : refsBs b ks = true
            · rw [if_pos hb] at e
              cases e1 : xs.mapM (frz b S n) with
              | none => rw [e1] at e; cases e
              | some ys =>
                rw [e1] at e; cases e
                obtain ⟨sm, ko, nd, l, z, ob, es, ep, ps, us, kvs, vs, q, ex, hd, he, hk', tk, rv, t⟩ := ro
                have t' := mapM_rep ih t e1
                rw [RepV]
                exact ⟨a, rfl, fz ha hk, sm, ko, nd, by rw [l, t.length, t'.length], z, ob, es, ep, ps, us, kvs, vs, q, ex, hd, he, hk', RepVs.tr Tr.cut ks kvs hb tk, rv, t'⟩
            · rw [if_neg hb] at e; cases e
    | tup xs =>
      rw [frz] at e
      cases e1 : xs.mapM (frz b S n) with
      | none => rw [e1] at e; cases e
      | some ys =>
        rw [e1] at e; cases e
        rw [RepV] at h ⊢
        obtain ⟨a, vs, ev, q, t⟩ := h
        exact ⟨a, vs, ev, q, mapM_rep ih t e1⟩
    | lst xs =>
      rw [frz] at e
      cases e1 : xs.mapM (frz b S n) with
      | none => rw [e1] at e; cases e
      | some ys =>
        rw [e1] at e; cases e
        rw [RepV] at h ⊢
        obtain ⟨a, vs, ev, nn, q, t⟩ := h
        exact ⟨a, vs, ev, fz2 nn, q, mapM_rep ih t e1⟩
    | dct ks xs =>
      rw [frz] at e
      cases e1 : xs.mapM (frz b S n) with
      | none => rw [e1] at e; cases e
      | some ys =>
        rw [e1] at e; cases e
        rw [RepV] at h ⊢
        obtain ⟨a, vs, ev, nn, q, l, nd, t⟩ := h
        exact ⟨a, vs, ev, fz2 nn, q, l, nd, mapM_rep ih t e1⟩
    | obj c fs xs =>
      rw [frz] at e
      cases e1 : xs.mapM (frz b S n) with
      | none => rw [e1] at e; cases e
      | some ys =>
        rw [e1] at e; cases e
        rw [RepV] at h ⊢
        obtain ⟨a, dx, vs, ev, nn, q, l, t⟩ := h
        exact ⟨a, dx, vs, ev, fz2 nn, q, l, mapM_rep ih t e1⟩
    | non => exact rest _ (by simpa only [frz] using e) h
    | bl x => exact rest _ (by simpa only [frz] using e) h
    | int x => exact rest _ (by simpa only [frz] using e) h
    | str x => exact rest _ (by simpa only [frz] using e) h
    | dcT x y => exact rest _ (by simpa only [frz] using e) h
    | kls x => exact rest _ (by simpa only [frz] using e) h
def refsO (b : Nat) : MO → Bool
  | .lst xs => refsBs b xs
  | .dct _ vs => refsBs b vs
  | .dcT ks vs => refsBs b ks && refsBs b vs
  | .obj _ _ vs => refsBs b vs
def cutS (b : Nat) (S S' : Sto) : Option Sto := if S'.take b = S then some S else if (S'.take b).all (refsO b) then some (S'.take b) else none
/-- at a def's end the cells that it made go -/
def frzF (m : MF) : MF := fun ds S => match m ds S with
  | .ok d S' => (match frz S.length S' 8 d, cutS S.length S S' with
    | some d', some S2 => .ok d' S2
    | _, _ => .stk)
  | .exc c d S' => (match cutS S.length S S' with
    | some S2 => if refsB S.length d then .exc c d S2 else .stk
    | none => .stk)
  | .stk => .stk
theorem RepO.refs {C : RC} {a : Addr} {o : MO} (h : RepO C a o) : refsO C.ι.length o = true := by
  cases o with
  | lst xs => obtain ⟨vs, q, t⟩ := h; exact RepVs.refs xs vs t
  | dct ks ds => obtain ⟨vs, q, l, nd, t⟩ := h; exact RepVs.refs ds vs t
  | dcT ks ds =>
    obtain ⟨sm, ko, nd, l, z, ob, es, ep, ps, us, kvs, vs, q, ex, hd, he, hk, tk, rv, t⟩ := h
    simp only [refsO, RepVs.refs ks kvs tk, RepVs.refs ds vs t, Bool.and_self]
  | obj c fs ds => obtain ⟨dx, vs, q, l, t⟩ := h; exact RepVs.refs ds vs t
theorem RepO.trb {C C' : RC} {b : Nat} {a : Addr} {o : MO} (x : Tr b C C') (e : C'.H a = C.H a) (hb : refsO b o = true) (h : RepO C a o) : RepO C' a o := by
  cases o with
  | lst xs => obtain ⟨vs, q, t⟩ := h; exact ⟨vs, e.trans q, RepVs.tr x _ _ hb t⟩
  | dct ks ds => obtain ⟨vs, q, l, nd, t⟩ := h; exact ⟨vs, e.trans q, l, nd, RepVs.tr x _ _ hb t⟩
  | dcT ks ds =>
    obtain ⟨sm, ko, nd, l, z, ob, es, ep, ps, us, kvs, vs, q, ex, hd, he, hk, tk, rv, t⟩ := h
    have hb' : refsBs b ks = true ∧ refsBs b ds = true := by simpa [refsO] using hb
    exact ⟨sm, ko, nd, l, z, ob, es, ep, ps, us, kvs, vs, e.trans q, ex, hd, by rw [x.w]; exact he, hk, RepVs.tr x _ _ hb'.1 tk, rv, RepVs.tr x _ _ hb'.2 t⟩
  | obj c fs ds => obtain ⟨dx, vs, q, l, t⟩ := h; exact ⟨dx, vs, by rw [x.K]; exact e.trans q, l, RepVs.tr x _ _ hb t⟩
theorem cut_rep' {C C' : RC} {S S' S2 : Sto} (r : RepS C S) (g : Grow C C') (r' : RepS C' S') (h : cutS S.length S S' = some S2) : RepS (C'.cut S.length) S2 ∧ Grow C (C'.cut S.length) := by
  have hl : S.length = C.ι.length := r.len.symm
  have key : ∀ S2, S'.take S.length = S2 → (∀ o ∈ S2, refsO S.length o = true) → RepS (C'.cut S.length) S2 := fun S2 e2 ho => by
    subst e2
    refine ⟨by show (C'.ι.take _).length = _; simp [r'.len], r'.nd.sublist (List.take_sublist _ _), fun a m => ⟨fun m2 => (r'.bad a m).1 (List.mem_of_mem_take m2), (r'.bad a m).2⟩, fun n mo a e1 e2 => ?_⟩
    have e2 : (C'.ι.take S.length)[n]? = some a := e2
    rw [List.getElem?_take] at e1 e2
    split at e1
    · rename_i hn
      rw [if_pos hn] at e2
      exact (r'.ob n mo a e1 e2).trb Tr.cut rfl (ho mo (List.mem_of_getElem? (by rw [List.getElem?_take_of_lt hn]; exact e1)))
    · cases e1
  refine ⟨?_, ?_⟩
  · unfold cutS at h
    split at h
    · rename_i e
      cases h
      refine key S e fun o ho => ?_
      obtain ⟨n, hn⟩ := List.mem_iff_getElem?.mp ho
      have hn2 : n < C.ι.length := by rw [r.len]; exact (List.getElem?_eq_some_iff.mp hn).1
      rw [hl]
      exact (r.ob n o C.ι[n] hn (List.getElem?_eq_getElem hn2)).refs
    · split at h
      · rename_i e
        cases h
        exact key _ rfl (List.all_eq_true.mp e)
      · cases h
  · refine ⟨g.w, g.K, g.bad, g.bad', g.kp, fun a m => g.new a (List.mem_of_mem_take m), ?_, g.le, ?_⟩
    · show (C'.ι.take S.length).take C.ι.length = _
      rw [hl, List.take_take, Nat.min_self]; exact g.pre
    · show C.ι.length ≤ (C'.ι.take S.length).length
      rw [List.length_take, hl]
      have := g.le'
      omega
theorem frz_ok {P : Program} {w : World} {K : PySem.W.Frag} {mg : Str → Option Value} {base : Heap} {k n : Nat} {f : Addr} {fd : FuncData} {ps : List Str} {m : MF} (F : FnOk P w K mg base (L2.CX P w) k f fd ps (spM w K n m)) :
    FnOk P w K mg base (L2.CX P w) k f fd ps (spM w K n (frzF m)) := F.imp fun vs H Q E ⟨hl, C, S, ds, e, hw, hK, r, t, q⟩ => by
  refine ⟨hl, C, S, ds, e, hw, hK, r, t, ?_⟩
  unfold frzF at q
  cases e1 : m ds S with
  | stk => rw [e1] at q; exact q
  | ok d S' =>
    rw [e1] at q
    dsimp only at q
    intro C' g r' v rv
    cases e2 : frz S.length S' 8 d with
    | none => rw [e2] at q; exact q.elim
    | some d' =>
      cases e3 : cutS S.length S S' with
      | none => rw [e2, e3] at q; exact q.elim
      | some S2 =>
        rw [e2, e3] at q
        obtain ⟨h1, h2⟩ := cut_rep' r g r' e3
        exact q (C'.cut S.length) h2 h1 v (frz_rep r' 8 d v d' rv e2)
  | exc c d S' =>
    rw [e1] at q
    dsimp only at q
    intro C' cls dx g r' xr
    cases e3 : cutS S.length S S' with
    | none => rw [e3] at q; exact q.elim
    | some S2 =>
      rw [e3] at q
      dsimp only at q
      split at q
      · rename_i hb
        obtain ⟨h1, h2⟩ := cut_rep' r g r' e3
        refine q (C'.cut S.length) cls dx h2 h1 ⟨xr.1, ?_⟩
        rcases xr.2 with z | ⟨a, f, d', v, ed, e, q, t⟩
        · exact .inl z
        · exact .inr ⟨a, f, d', v, ed, e, q, RepV.tr Tr.cut d' v (by subst ed; simpa [refsB, refsBs] using hb) t⟩
      · exact q.elim
mutual
def conB (K : PySem.W.Frag) : MV → Value → Bool
  | .non, .none => true
  | .bl b, .bool c => b == c
  | .str x, .str y _ => decide (y = x)
  | .int i, .int j _ => decide (j = i)
  | .tup xs, .ref a => (match K.lookup a with
    | some ⟨.type c, _, .seq its _, _⟩ => decide (c = "tuple") && (decide (its.size ≤ sizeLine) && conBs K xs its.toList)
    | _ => false)
  | _, _ => false
def conBs (K : PySem.W.Frag) : List MV → List Value → Bool
  | [], [] => true
  | d :: ds, u :: us => conB K d u && conBs K ds us
  | _, _ => false
end
mutual
theorem conB_ok {K : PySem.W.Frag} : ∀ (d : MV) (u : Value), conB K d u = true → ∃ v, RelV v u ∧ ∀ C : RC, C.K = K → RepV C d v
  | .non, u, h => by cases u <;> first | (exact ⟨.non, rfl, fun _ _ => repN⟩) | cases h
  | .bl b, u, h => by
    cases u with
    | bool c =>
      have : b = c := by simpa [conB] using h
      exact ⟨.bl b, by rw [this]; rfl, fun _ _ => repB _⟩
    | _ => cases h
  | .int i, u, h => by
    cases u with
    | int j t =>
      have : j = i := by simpa [conB] using h
      exact ⟨.int i, ⟨t, by rw [this]⟩, fun _ _ => repI _⟩
    | _ => cases h
  | .str x, u, h => by
    cases u with
    | str y t =>
      have : y = x := by simpa [conB] using h
      exact ⟨.str x, ⟨t, by rw [this]⟩, fun _ _ => repS _⟩
    | _ => cases h
  | .tup xs, u, h => by
    cases u with
    | ref a =>
      rw [conB] at h
      cases q : K.lookup a with
      | none => rw [q] at h; cases h
      | some o =>
        obtain ⟨oc, od, dt, osl⟩ := o
        rw [q] at h
        cases oc with
        | type c =>
          cases dt with
          | seq its n =>
            have both : (decide (c = "tuple") && (decide (its.size ≤ sizeLine) && conBs K xs its.toList)) = true := h
            rw [Bool.and_eq_true, Bool.and_eq_true, decide_eq_true_eq, decide_eq_true_eq] at both
            obtain ⟨rfl, hz, h3⟩ := both
            obtain ⟨vs, rv, t⟩ := conBs_ok xs its.toList h3
            refine ⟨.ref a, rfl, fun C hC => ?_⟩
            rw [RepV]
            exact ⟨a, vs, rfl, by rw [hC]; exact .inr ⟨_, its, n, q, rfl, rfl, hz, rv⟩, t C hC⟩
          | _ => cases h
        | _ => cases dt <;> cases h
    | _ => cases h
  | .lst _, u, h => by cases u <;> cases h
  | .dct _ _, u, h => by cases u <;> cases h
  | .dcT _ _, u, h => by cases u <;> cases h
  | .obj _ _ _, u, h => by cases u <;> cases h
  | .ref _, u, h => by cases u <;> cases h
  | .kls _, u, h => by cases u <;> cases h
theorem conBs_ok {K : PySem.W.Frag} : ∀ (ds : List MV) (us : List Value), conBs K ds us = true → ∃ vs, Vals vs us ∧ ∀ C : RC, C.K = K → RepVs C ds vs
  | [], [], _ => ⟨[], .nil, fun _ _ => .nil⟩
  | [], _ :: _, h => by cases h
  | _ :: _, [], h => by cases h
  | d :: ds, u :: us, h => by
    have both : (conB K d u && conBs K ds us) = true := h
    rw [Bool.and_eq_true] at both
    obtain ⟨v, r, t⟩ := conB_ok d u both.1
    obtain ⟨vs, rv, tv⟩ := conBs_ok ds us both.2
    exact ⟨v :: vs, .cons r rv, fun C hC => .cons (t C hC) (tv C hC)⟩
end
end Mi
set_option Elab.async false
set_option linter.all false
set_option maxRecDepth 100000
set_option maxHeartbeats 2000000
namespace Mi
open PySem PySem.Spec PyProof.Rows L2
/-- a def by its name, with what it does -/
def FN (P : Program) (w : World) (K : PySem.W.Frag) (mg : Str → Option Value) (base : Heap) (k n : Nat) (x : Str) (m : MF) : Prop :=
  ∃ f fd ps, FnOk P w K mg base (L2.CX P w) k f fd ps (spM w K n m) ∧ mg x = some (.ref f) ∧ PySem.W.keepIn K (.ref f) = true ∧ Binds K fd ps []
/-- a method -/
def MN (P : Program) (w : World) (K : PySem.W.Frag) (mg : Str → Option Value) (base : Heap) (k n : Nat) (c mn : Str) (m : MF) : Prop :=
  ∃ fd ps, FnOk P w K mg base (L2.CX P w) k (He.ma K (He.ga K c) mn) fd ps (spM w K n m) ∧ Binds K fd ps []
/-- a constant of the module -/
def KC (mg : Str → Option Value) (K : PySem.W.Frag) (x : Str) (d : MV) : Prop := ∃ u v, mg x = some u ∧ RelV v u ∧ ∀ C : RC, C.K = K → RepV C d v
theorem kc_of {mg : Str → Option Value} {K : PySem.W.Frag} {x : Str} {d : MV} {u : Value} (h : mg x = some u) (c : conB K d u = true) : KC mg K x d := by
  obtain ⟨v, r, q⟩ := conB_ok d u c
  exact ⟨u, v, h, r, q⟩
section
variable {X : Cx} {W : WX} {e o : Expr} {es : List Expr} {mo : ME} {mas : MA} {pos p apos rpos : Pos} {k n j : Nat} {x c mn f : Str} {m : MF}
theorem se_callN (h : FN X.prog X.w X.K X.mg X.base k n x m) (hr : Room j X.A) (hj : k ≤ j) (hg : Gl X x) (tk : Takes X W) (ha : SA X W (e :: es) mas) (hl : LenA mas n) (hdb : (x == ("__debug__" : Str)) = false := by decide)
    (he : starEach (e :: es) X.env = (false, eval e X.env) :: starEach es X.env := by rfl)
    (hpl : (backTo pos (starEach es X.env)).any (·.1) = false := by rfl) :
    SE X W (.Call (.Name x p) (e :: es) [] pos) (mCallF m mas) := by
  obtain ⟨f, fd, ps, F, h1, h2, h3⟩ := h
  exact se_call F (hr.mono hj) hg h1 h2 h3 tk ha hl hdb he hpl
theorem se_callN0 (h : FN X.prog X.w X.K X.mg X.base k 0 x m) (hr : Room j X.A) (hj : k ≤ j) (hg : Gl X x) (hpure : ∀ S c d S', m [] S ≠ .exc c d S') (hdb : (x == ("__debug__" : Str)) = false := by decide) :
    SE X W (.Call (.Name x p) [] [] pos) (mCallF m mNil) := by
  obtain ⟨f, fd, ps, F, h1, h2, h3⟩ := h
  exact se_call0 F (hr.mono hj) hg h1 h2 h3 hpure hdb
theorem se_makeN (h : MN X.prog X.w X.K X.mg X.base k (n + 1) c "__init__" m) (M : Mk X.K (He.ga X.K c) (He.ma X.K (He.ga X.K c) "__init__")) (hm : X.mg c = some (.ref (He.ga X.K c))) (hr : Room j X.A) (hj : k + 1 ≤ j) (hg : Gl X c) (tk : Takes X W) (ha : SA X W (e :: es) mas) (hl : LenA mas n) (hdb : (c == ("__debug__" : Str)) = false := by decide)
    (he : starEach (e :: es) X.env = (false, eval e X.env) :: starEach es X.env := by rfl)
    (hpl : (backTo pos (starEach es X.env)).any (·.1) = false := by rfl) :
    SE X W (.Call (.Name c p) (e :: es) [] pos) (mCallF (makM c m) mas) := by
  obtain ⟨fd, ps, F, h3⟩ := h
  exact se_make M F (hr.mono hj) hg hm h3 tk ha hl hdb he hpl
theorem se_globN {d : MV} (h : KC X.mg X.K x d) (hg : Gl X x) (hd : (x == ("__debug__" : Str)) = false := by decide) : SE X W (.Name x pos) (mC d) := by
  obtain ⟨u, v, h1, h2, h3⟩ := h
  exact se_glob hg h1 h2 h3 hd
end
section
variable {X : Cx} {W : WX} {pos : Pos} {x : Str} {k : Nat}
theorem sv (i : Nat) (hN : X.N[i]? = some x := by rfl) (hv : Vis X.env.scope x := by first | exact .inl rfl | exact .inr (.inl rfl) | exact .inr (.inr rfl)) (hd : (x == ("__debug__" : Str)) = false := by decide) (hcd : (x == ("__classdict__" : Str)) = false := by decide) : SE X W (.Name x pos) (mVar i) := se_var hN hv hd hcd
theorem sn (i : Nat) (nd : X.N.Nodup) (hN : X.N[i]? = some x := by rfl) (hx : Loc X.env.scope x := by first | exact .inl rfl | exact .inr rfl) (hf : X.fn x = true ∨ X.env.scope.names.lookup x = some .local := by first | exact .inl rfl | exact .inr rfl | assumption) : SG X (.Name x pos) (tgName i) := sg_name nd hN hx hf
theorem sset (i : Nat) {e : Expr} {me : ME} {pos' : Pos} (nd : X.N.Nodup) (he : SE X W e me) (hN : X.N[i]? = some x := by rfl) (hx : Loc X.env.scope x := by first | exact .inl rfl | exact .inr rfl) (hs : swapsWith e (some (.Name x pos')) pos.line X.env = pure false := by rfl) (hf : X.fn x = true ∨ X.env.scope.names.lookup x = some .local := by first | exact .inl rfl | exact .inr rfl | assumption) :
    SS X W (.Assign [.Name x pos'] e pos) (mAsg me (tgName i)) := ss_set nd hN hx he hs hf
theorem Room.u1 (r : Room k X.A) : X.A.units + 1 < cLine := by have := r.un; omega
theorem Room.u64 (r : Room k X.A) : X.A.units + 64 < cLine := by have := r.un; omega
theorem Room.u65 (r : Room k X.A) : X.A.units + 65 < cLine := by have := r.un; omega
end
end Mi
set_option maxHeartbeats 0
namespace Lw
open PySem PySem.Spec PyProof.Rows L2 Mi
def top (i : Nat) : Stmt := PySem.Challenge.pw_seriesbooked_k14_parts_that_touch_little.main.body.getD i (.Pass ⟨0, 0, 0, 0⟩)
def d_BLANK : MV := .tup [.non, .non, .non]
def d_FAULTS : MV := .tup [.str "room", .str "person", .str "lost", .str "elder", .str "half"]
def d_PARTS : MV := .tup [.str "checking", .str "singles", .str "halves", .str "telling"]
def d_VALUES : MV := .tup [.tup [.str "none", .str "room", .str "both"], .tup [.str "keep", .str "move", .str "reset"], .tup [.str "left", .str "undone"], .tup [.str "now", .str "seen"]]
abbrev s_law_begin : Stmt := top 52
abbrev s_law_values : Stmt := top 54
abbrev s_law_draw : Stmt := top 53
abbrev s_law_parts : Stmt := top 56
abbrev s_law_hour_step : Stmt := top 69
abbrev s_law_world : Stmt := top 70
abbrev s_law_without : Stmt := top 72
abbrev s_Rule___init__ : Stmt := inClass (top 50) 0
abbrev s_law_rule : Stmt := top 57
abbrev s_is_whole : Stmt := top 21
abbrev s_are_series : Stmt := top 24
abbrev s_is_step : Stmt := top 22
abbrev s_is_hand : Stmt := top 23
abbrev s_is_world : Stmt := top 25
abbrev s_check_world : Stmt := top 26
abbrev s_fresh : Stmt := top 6
abbrev s_begin : Stmt := top 27
abbrev s_has_step : Stmt := top 39
abbrev s_hands_at : Stmt := top 41
abbrev s_is_room_free : Stmt := top 7
abbrev s_is_person_free : Stmt := top 8
abbrev s_is_gap : Stmt := top 9
abbrev s_person_hours : Stmt := top 17
abbrev s_find_step : Stmt := top 28
abbrev s_tell_step : Stmt := top 29
abbrev s_room_day : Stmt := top 11
abbrev s_with_series : Stmt := top 10
abbrev s_room_set : Stmt := top 12
abbrev s_room_step : Stmt := top 30
abbrev s_person_set : Stmt := top 13
abbrev s_taken_back : Stmt := top 14
abbrev s_person_step : Stmt := top 31
abbrev s_one_set : Stmt := top 15
abbrev s_off_set : Stmt := top 16
abbrev s_stepped : Stmt := top 32
abbrev s_meets_room : Stmt := top 33
abbrev s_meets_person : Stmt := top 34
abbrev s_lost_single : Stmt := top 35
abbrev s_step_faults : Stmt := top 36
abbrev s_is_half : Stmt := top 37
abbrev s_led : Stmt := top 38
abbrev s_first_unlike : Stmt := top 45
abbrev s_alike : Stmt := top 46
abbrev s_walked : Stmt := top 42
abbrev s_can : Stmt := top 43
abbrev s_ends : Stmt := top 44
abbrev s_law : Stmt := top 73
def D_law_begin : He.DefD := ⟨("_law_begin", none), "_law_begin", "_law_begin", defArgs s_law_begin, defBody s_law_begin, defScope s_law_begin, [], []⟩
def D_law_values : He.DefD := ⟨("_law_values", none), "_law_values", "_law_values", defArgs s_law_values, defBody s_law_values, defScope s_law_values, [], []⟩
def D_law_draw : He.DefD := ⟨("_law_draw", none), "_law_draw", "_law_draw", defArgs s_law_draw, defBody s_law_draw, defScope s_law_draw, [], []⟩
def D_law_parts : He.DefD := ⟨("_law_parts", none), "_law_parts", "_law_parts", defArgs s_law_parts, defBody s_law_parts, defScope s_law_parts, [], []⟩
def D_law_hour_step : He.DefD := ⟨("_law_hour_step", none), "_law_hour_step", "_law_hour_step", defArgs s_law_hour_step, defBody s_law_hour_step, defScope s_law_hour_step, [], []⟩
def D_law_world : He.DefD := ⟨("_law_world", none), "_law_world", "_law_world", defArgs s_law_world, defBody s_law_world, defScope s_law_world, [], []⟩
def D_law_without : He.DefD := ⟨("_law_without", none), "_law_without", "_law_without", defArgs s_law_without, defBody s_law_without, defScope s_law_without, [], []⟩
def D_Rule___init__ : He.DefD := ⟨("Rule", some "__init__"), "__init__", "Rule.__init__", defArgs s_Rule___init__, defBody s_Rule___init__, defScope s_Rule___init__, [], []⟩
def D_law_rule : He.DefD := ⟨("_law_rule", none), "_law_rule", "_law_rule", defArgs s_law_rule, defBody s_law_rule, defScope s_law_rule, [], []⟩
def D_is_whole : He.DefD := ⟨("is_whole", none), "is_whole", "is_whole", defArgs s_is_whole, defBody s_is_whole, defScope s_is_whole, [], []⟩
def D_are_series : He.DefD := ⟨("are_series", none), "are_series", "are_series", defArgs s_are_series, defBody s_are_series, defScope s_are_series, [], []⟩
def D_is_step : He.DefD := ⟨("is_step", none), "is_step", "is_step", defArgs s_is_step, defBody s_is_step, defScope s_is_step, [], []⟩
def D_is_hand : He.DefD := ⟨("is_hand", none), "is_hand", "is_hand", defArgs s_is_hand, defBody s_is_hand, defScope s_is_hand, [], []⟩
def D_is_world : He.DefD := ⟨("is_world", none), "is_world", "is_world", defArgs s_is_world, defBody s_is_world, defScope s_is_world, [], []⟩
def D_check_world : He.DefD := ⟨("check_world", none), "check_world", "check_world", defArgs s_check_world, defBody s_check_world, defScope s_check_world, [], []⟩
def D_fresh : He.DefD := ⟨("fresh", none), "fresh", "fresh", defArgs s_fresh, defBody s_fresh, defScope s_fresh, [], []⟩
def D_begin : He.DefD := ⟨("begin", none), "begin", "begin", defArgs s_begin, defBody s_begin, defScope s_begin, [], []⟩
def D_has_step : He.DefD := ⟨("has_step", none), "has_step", "has_step", defArgs s_has_step, defBody s_has_step, defScope s_has_step, [], []⟩
def D_hands_at : He.DefD := ⟨("hands_at", none), "hands_at", "hands_at", defArgs s_hands_at, defBody s_hands_at, defScope s_hands_at, [], []⟩
def D_is_room_free : He.DefD := ⟨("is_room_free", none), "is_room_free", "is_room_free", defArgs s_is_room_free, defBody s_is_room_free, defScope s_is_room_free, [], []⟩
def D_is_person_free : He.DefD := ⟨("is_person_free", none), "is_person_free", "is_person_free", defArgs s_is_person_free, defBody s_is_person_free, defScope s_is_person_free, [], []⟩
def D_is_gap : He.DefD := ⟨("is_gap", none), "is_gap", "is_gap", defArgs s_is_gap, defBody s_is_gap, defScope s_is_gap, [], []⟩
def D_person_hours : He.DefD := ⟨("person_hours", none), "person_hours", "person_hours", defArgs s_person_hours, defBody s_person_hours, defScope s_person_hours, [], []⟩
def D_find_step : He.DefD := ⟨("find_step", none), "find_step", "find_step", defArgs s_find_step, defBody s_find_step, defScope s_find_step, [], []⟩
def D_tell_step : He.DefD := ⟨("tell_step", none), "tell_step", "tell_step", defArgs s_tell_step, defBody s_tell_step, defScope s_tell_step, [], []⟩
def D_room_day : He.DefD := ⟨("room_day", none), "room_day", "room_day", defArgs s_room_day, defBody s_room_day, defScope s_room_day, [], []⟩
def D_with_series : He.DefD := ⟨("with_series", none), "with_series", "with_series", defArgs s_with_series, defBody s_with_series, defScope s_with_series, [], []⟩
def D_room_set : He.DefD := ⟨("room_set", none), "room_set", "room_set", defArgs s_room_set, defBody s_room_set, defScope s_room_set, [], []⟩
def D_room_step : He.DefD := ⟨("room_step", none), "room_step", "room_step", defArgs s_room_step, defBody s_room_step, defScope s_room_step, [], []⟩
def D_person_set : He.DefD := ⟨("person_set", none), "person_set", "person_set", defArgs s_person_set, defBody s_person_set, defScope s_person_set, [], []⟩
def D_taken_back : He.DefD := ⟨("taken_back", none), "taken_back", "taken_back", defArgs s_taken_back, defBody s_taken_back, defScope s_taken_back, [], []⟩
def D_person_step : He.DefD := ⟨("person_step", none), "person_step", "person_step", defArgs s_person_step, defBody s_person_step, defScope s_person_step, [], []⟩
def D_one_set : He.DefD := ⟨("one_set", none), "one_set", "one_set", defArgs s_one_set, defBody s_one_set, defScope s_one_set, [], []⟩
def D_off_set : He.DefD := ⟨("off_set", none), "off_set", "off_set", defArgs s_off_set, defBody s_off_set, defScope s_off_set, [], []⟩
def D_stepped : He.DefD := ⟨("stepped", none), "stepped", "stepped", defArgs s_stepped, defBody s_stepped, defScope s_stepped, [], []⟩
def D_meets_room : He.DefD := ⟨("meets_room", none), "meets_room", "meets_room", defArgs s_meets_room, defBody s_meets_room, defScope s_meets_room, [], []⟩
def D_meets_person : He.DefD := ⟨("meets_person", none), "meets_person", "meets_person", defArgs s_meets_person, defBody s_meets_person, defScope s_meets_person, [], []⟩
def D_lost_single : He.DefD := ⟨("lost_single", none), "lost_single", "lost_single", defArgs s_lost_single, defBody s_lost_single, defScope s_lost_single, [], []⟩
def D_step_faults : He.DefD := ⟨("step_faults", none), "step_faults", "step_faults", defArgs s_step_faults, defBody s_step_faults, defScope s_step_faults, [], []⟩
def D_is_half : He.DefD := ⟨("is_half", none), "is_half", "is_half", defArgs s_is_half, defBody s_is_half, defScope s_is_half, [], []⟩
def D_led : He.DefD := ⟨("led", none), "led", "led", defArgs s_led, defBody s_led, defScope s_led, [], []⟩
def D_first_unlike : He.DefD := ⟨("first_unlike", none), "first_unlike", "first_unlike", defArgs s_first_unlike, defBody s_first_unlike, defScope s_first_unlike, [], []⟩
def D_alike : He.DefD := ⟨("alike", none), "alike", "alike", defArgs s_alike, defBody s_alike, defScope s_alike, [], []⟩
def D_walked : He.DefD := ⟨("walked", none), "walked", "walked", defArgs s_walked, defBody s_walked, defScope s_walked, [], []⟩
def D_can : He.DefD := ⟨("can", none), "can", "can", defArgs s_can, defBody s_can, defScope s_can, [], []⟩
def D_ends : He.DefD := ⟨("ends", none), "ends", "ends", defArgs s_ends, defBody s_ends, defScope s_ends, [], []⟩
def D_law : He.DefD := ⟨("law", none), "law", "law", defArgs s_law, defBody s_law, defScope s_law, [], []⟩
def fn : List He.DefD := [D_law_begin, D_law_values, D_law_draw, D_law_parts, D_law_hour_step, D_law_world, D_law_without, D_Rule___init__, D_law_rule, D_is_whole, D_are_series, D_is_step, D_is_hand, D_is_world, D_check_world, D_fresh, D_begin, D_has_step, D_hands_at, D_is_room_free, D_is_person_free, D_is_gap, D_person_hours, D_find_step, D_tell_step, D_room_day, D_with_series, D_room_set, D_room_step, D_person_set, D_taken_back, D_person_step, D_one_set, D_off_set, D_stepped, D_meets_room, D_meets_person, D_lost_single, D_step_faults, D_is_half, D_led, D_first_unlike, D_alike, D_walked, D_can, D_ends, D_law]
def fa : List He.Fa := [.glo "_law_begin", .glo "_law_values", .glo "_law_draw", .glo "_law_parts", .glo "_law_hour_step", .glo "_law_world", .glo "_law_without", .glo "_law_rule", .glo "is_whole", .glo "are_series", .glo "is_step", .glo "is_hand", .glo "is_world", .glo "check_world", .glo "fresh", .glo "begin", .glo "has_step", .glo "hands_at", .glo "is_room_free", .glo "is_person_free", .glo "is_gap", .glo "person_hours", .glo "find_step", .glo "tell_step", .glo "room_day", .glo "with_series", .glo "room_set", .glo "room_step", .glo "person_set", .glo "taken_back", .glo "person_step", .glo "one_set", .glo "off_set", .glo "stepped", .glo "meets_room", .glo "meets_person", .glo "lost_single", .glo "step_faults", .glo "is_half", .glo "led", .glo "first_unlike", .glo "alike", .glo "walked", .glo "can", .glo "ends", .glo "law", .free "all", .free "any", .free "bool", .free "enumerate", .free "int", .free "isinstance", .free "len", .free "list", .free "max", .free "range", .free "str", .free "sum", .free "tuple", .free "zip", .glo "BLANK", .glo "FAULTS", .glo "PARTS", .glo "VALUES", .glo "Rule", .cls "Rule", .noat "Rule" "checking", .noat "Rule" "halves", .noat "Rule" "singles", .noat "Rule" "telling", .mkr "Rule"]
def exs : List (PySem.W.Frag → Bool) := [fun K => conB K d_BLANK (.ref (He.ga K "BLANK")), fun K => conB K d_FAULTS (.ref (He.ga K "FAULTS")), fun K => conB K d_PARTS (.ref (He.ga K "PARTS")), fun K => conB K d_VALUES (.ref (He.ga K "VALUES"))]
def ex (K : PySem.W.Frag) : Bool := exs.all fun f => f K
theorem ex_at {K : PySem.W.Frag} (h : ex K = true) (i : Nat) {f : PySem.W.Frag → Bool} (e : exs[i]? = some f := by rfl) : f K = true := List.all_eq_true.mp h f (List.mem_of_getElem? e)
abbrev R0 : PySem.W.OpenRow := PySem.W.OpenLaw.row PySem.Challenge.rw_seriesbooked_k14_parts_that_touch_little
abbrev hk : PySem.W.Hook := He.hookX 5 fa fn [] [] ex
def ob (s : PySem.W.SharedT) : He.AlX := He.obsX 5 fa fn [] [] ex (HandSHeadRun.getT s)
theorem ob_eq (s : PySem.W.SharedT) : ob s = hk.obs s.abs := He.obsX_eq (HandSHeadRun.getT_eq s)
def ns0 : List PySem.Str := ["_wall", "SeriesError", "BadWorld", "BadRule", "fresh", "is_room_free", "is_person_free", "is_gap", "with_series", "room_day", "room_set", "person_set", "taken_back", "one_set", "off_set", "person_hours", "FAULTS", "BLANK", "is_whole", "is_step"]
def ns1 : List PySem.Str := ["is_hand", "are_series", "is_world", "check_world", "begin", "find_step", "tell_step", "room_step", "person_step", "stepped", "meets_room", "meets_person", "lost_single", "step_faults", "is_half", "led", "has_step", "hands_at", "walked", "can"]
def ns2 : List PySem.Str := ["ends", "first_unlike", "alike", "PARTS", "VALUES", "Rule", "_law_begin", "_law_draw", "_law_values", "_law_names", "_law_parts", "_law_rule", "_law_new", "_law_copy", "_law_key", "_law_free", "_law_gap", "_law_room", "_law_person", "_law_fits"]
def ns3 : List PySem.Str := ["_law_single", "_law_undone", "_law_told", "_law_hour_step", "_law_world", "_law_sizes", "_law_without"]
def nms : List PySem.Str := ns0 ++ ns1 ++ ns2 ++ ns3
theorem run0 (w : PySem.World) : HandSHeadRun.RunEq R0 (PySem.W.view R0.prog [73]) hk ob 4000 nms w := by
  intro os
  kernel_rfl
end Lw
set_option Elab.async false
set_option linter.all false
set_option maxRecDepth 100000
set_option maxHeartbeats 2000000
namespace Mi
open PySem PySem.Spec PyProof.Rows L2
abbrev MO' := Ev → Sto → R (Option Int)
def moNone : MO' := fun _ S => .ok none S
def moSome (e : ME) : MO' := fun ρ S => (e ρ S).bind fun d S1 => match d with
  | .int i => .ok (some i) S1
  | _ => .stk
def tO (X : Cx) (W : WX) (m : MO') : TO := fun σ H Q => ∃ C ρ S, C.H = H ∧ Sv X ρ σ S C ∧ Wants W σ C (m ρ S) (fun o _ C' => Q o C'.H)
theorem _root_.L2.PO.imp {X : Cx} {e : Option Expr} {t t' : TO} (h : PO X e t) (k : ∀ σ H Q, t' σ H Q → t σ H Q) : PO X e t' := ⟨fun pins s σ H Q I q => h.run pins s σ H Q I (k σ H Q q)⟩
abbrev SO (X : Cx) (W : WX) (e : Option Expr) (m : MO') : Prop := PO X e (tO X W m)
def mSlice (e : ME) (lo hi : MO') : ME := fun ρ S => (e ρ S).bind fun d S1 => (lo ρ S1).bind fun l S2 => (hi ρ S2).bind fun h S3 => slcM d l h S3
theorem pu_slc : ∀ d l h S c x S', slcM d l h S ≠ .exc c x S' := by
  intro d l h S c x S' e
  unfold slcM at e
  split at e
  · cases e
  · split at e <;> cases e
  · split at e <;> cases e
section
variable {X : Cx} {W : WX} {e : Expr} {me : ME} {lo hi : Option Expr} {ml mh : MO'} {pos p2 : Pos}
theorem so_none : SO X W none moNone := po_none.imp fun σ H Q ⟨C, ρ, S, e, s, q⟩ => by
  subst e
  exact q.now s.rs
theorem so_some (h : SE X W e me) : SO X W (some e) (moSome me) := (po_some h).imp fun σ H Q ⟨C, ρ, S, e, s, q⟩ => by
  subst e
  refine tE.bind s q fun d S1 C1 v s1 g1 r1 q1 => ?_
  split at q1
  · exact ⟨_, vInt r1, q1.now s1.rs⟩
  · exact q1.elim
theorem se_slice (he : SE X W e me) (hl : SO X W lo ml) (hh : SO X W hi mh) : SE X W (.Subscript e (.Slice lo hi none p2) pos) (mSlice me ml mh) :=
  (pe_slice slM he hl hh).imp fun σ H Q ⟨C, ρ, S, e, s, q⟩ => by
    subst e
    refine tE.bind s q fun d S1 C1 v s1 g1 r1 q1 => ?_
    refine ⟨C1, ρ, S1, rfl, s1, (Wants.bind q1).mono fun l S2 C2 g2 r2 _ q2 => ?_⟩
    have s2 := s1.grow g2 r2
    refine ⟨C2, ρ, S2, rfl, s2, (Wants.bind q2.1).mono fun h S3 C3 g3 r3 _ q3 => ?_⟩
    have s3 := s2.grow g3 r3
    refine ⟨C3, S3, d, rfl, s3.w, s3.K, s3.rs, (r1.grow g2 s1.rs).grow g3 s2.rs, ?_⟩
    have q3 := q3.1
    cases e : slcM d l h S3 with
    | ok a S' => rw [e] at q3; exact ⟨a, S', rfl, q3⟩
    | exc c d S' => exact absurd e (pu_slc _ _ _ _ _ _ _)
    | stk => rw [e] at q3; exact q3.elim
end
theorem pu_len : Pure1 lenM := by
  intro ds S c d S' h
  unfold lenM at h
  split at h
  · split at h
    · cases h
    · unfold lenD at h
      split at h
      · cases h
      · split at h
        · split at h <;> cases h
        · cases h
  · cases h
theorem pu_int : Pure1 intM := by intro ds S c d S' h; unfold intM at h; split at h <;> cases h
theorem pu_tuple : Pure1 tupM := by
  intro ds S c d S' h
  unfold tupM at h
  split at h
  · split at h <;> cases h
  · cases h
theorem pu_list {fr : Bool} : Pure1 (lstM fr) := by
  intro ds S c d S' h
  unfold lstM at h
  split at h
  · split at h
    · split at h <;> cases h
    · cases h
  · cases h
theorem takes_cx {P : Program} {w : World} {K : PySem.W.Frag} {mg : Str → Option Value} {base : Heap} {N : List Str} {q : Str} {sc : Scope} {f : Addr} {cdv : Value} {A : Around} {outer : List Env} {s : Shared} {H : Hp} {E : XK} :
    Takes (cxOf (L2.CX P w) P w K mg base N q sc f cdv A outer s H E) (fun cls dx _ H => E cls dx H) := takes_of rfl rfl rfl rfl
theorem pass_cx {P : Program} {w : World} {K : PySem.W.Frag} {mg : Str → Option Value} {base : Heap} {N : List Str} {q : Str} {sc : Scope} {f : Addr} {cdv : Value} {A : Around} {outer : List Env} {s : Shared} {H : Hp} {E : XK} :
    PassesOwn (model P w) (cxOf (L2.CX P w) P w K mg base N q sc f cdv A outer s H E).A (cxOf (L2.CX P w) P w K mg base N q sc f cdv A outer s H E).env (cxOf (L2.CX P w) P w K mg base N q sc f cdv A outer s H E).xe := passes_of rfl
theorem bt_len : bootBuiltins "len" = some (.builtin "len") := by decide +kernel
theorem bt_int : bootBuiltins "int" = some (.type "int") := by decide +kernel
theorem bt_str : bootBuiltins "str" = some (.type "str") := by decide +kernel
theorem bt_bool : bootBuiltins "bool" = some (.type "bool") := by decide +kernel
theorem bt_list : bootBuiltins "list" = some (.type "list") := by decide +kernel
theorem bt_tuple : bootBuiltins "tuple" = some (.type "tuple") := by decide +kernel
theorem bt_any : bootBuiltins "any" = some (.builtin "any") := by decide +kernel
theorem bt_all : bootBuiltins "all" = some (.builtin "all") := by decide +kernel
theorem bt_sum : bootBuiltins "sum" = some (.builtin "sum") := by decide +kernel
theorem bt_max : bootBuiltins "max" = some (.builtin "max") := by decide +kernel
end Mi
set_option Elab.async false
set_option linter.all false
set_option maxRecDepth 100000
set_option maxHeartbeats 2000000
namespace Mi
open PySem PySem.Spec PyProof.Rows L2
mutual
def sh : MV → Bool
  | .non | .bl _ | .int _ => true
  | .str x => PyData.strOk x
  | .tup xs => shs xs
  | .lst xs => shs xs
  | _ => false
def shs : List MV → Bool
  | [] => true
  | x :: xs => sh x && shs xs
end
mutual
def dpt : MV → Nat
  | .tup xs => dpts xs + 1
  | .lst xs => dpts xs + 1
  | _ => 0
def dpts : List MV → Nat
  | [] => 0
  | x :: xs => max (dpt x) (dpts xs)
end
mutual
def cn : MV → MV
  | .bl b => .int (if b then 1 else 0)
  | .tup xs => .tup (cns xs)
  | .lst xs => .lst (cns xs)
  | x => x
def cns : List MV → List MV
  | [] => []
  | x :: xs => cn x :: cns xs
end
mutual
def pdO : MV → PyData
  | .non => .none
  | .bl b => .bool b
  | .int i => .int i
  | .str x => .str x
  | .tup xs => .tuple (pdOs xs)
  | .lst xs => .list (pdOs xs)
  | _ => .dict []
def pdOs : List MV → List PyData
  | [] => []
  | x :: xs => pdO x :: pdOs xs
end
mutual
theorem pdF_O (S : Sto) : ∀ (n : Nat) (x : MV), sh x = true → dpt x < n → pdF n S x = pdO x
  | 0, x, _, h => by omega
  | n + 1, .non, _, _ => by simp [pdF, pdO]
  | n + 1, .bl _, _, _ => by simp [pdF, pdO]
  | n + 1, .int _, _, _ => by simp [pdF, pdO]
  | n + 1, .str _, _, _ => by simp [pdF, pdO]
  | n + 1, .tup xs, h, d => by
    rw [pdF, pdO, pdF_Os S n xs (by simpa [sh] using h) (by rw [dpt] at d; omega)]
  | n + 1, .lst xs, h, d => by
    rw [pdF, pdO, pdF_Os S n xs (by simpa [sh] using h) (by rw [dpt] at d; omega)]
  | n + 1, .dct _ _, h, _ => by simp [sh] at h
  | n + 1, .dcT _ _, h, _ => by simp [sh] at h
  | n + 1, .obj _ _ _, h, _ => by simp [sh] at h
  | n + 1, .ref _, h, _ => by simp [sh] at h
  | n + 1, .kls _, h, _ => by simp [sh] at h
theorem pdF_Os (S : Sto) : ∀ (n : Nat) (xs : List MV), shs xs = true → dpts xs < n → xs.map (pdF n S) = pdOs xs
  | n, [], _, _ => by simp [pdOs]
  | n, x :: xs, h, d => by
    rw [shs, Bool.and_eq_true] at h
    rw [dpts] at d
    rw [List.map_cons, pdOs, pdF_O S n x h.1 (by omega), pdF_Os S n xs h.2 (by omega)]
end
mutual
theorem can_O : ∀ x : MV, sh x = true → (pdO x).canLay0 = true
  | .non, _ => by simp [pdO, PyData.canLay0]
  | .bl _, _ => by simp [pdO, PyData.canLay0]
  | .int _, _ => by simp [pdO, PyData.canLay0]
  | .str _, h => by simpa [pdO, PyData.canLay0, sh] using h
  | .tup xs, h => by rw [pdO, PyData.canLay0]; exact can_Os xs (by simpa [sh] using h)
  | .lst xs, h => by rw [pdO, PyData.canLay0]; exact can_Os xs (by simpa [sh] using h)
  | .dct _ _, h => by simp [sh] at h
  | .dcT _ _, h => by simp [sh] at h
  | .obj _ _ _, h => by simp [sh] at h
  | .ref _, h => by simp [sh] at h
  | .kls _, h => by simp [sh] at h
theorem can_Os : ∀ xs : List MV, shs xs = true → PyData.canLayAll0 (pdOs xs) = true
  | [], _ => by simp [pdOs, PyData.canLayAll0]
  | x :: xs, h => by
    rw [shs, Bool.and_eq_true] at h
    rw [pdOs, PyData.canLayAll0, can_O x h.1, can_Os xs h.2]; rfl
end
mutual
theorem dep_O : ∀ x : MV, (pdO x).depth ≤ dpt x ∨ sh x = false
  | .non => .inl (by simp [pdO, PyData.depth])
  | .bl _ => .inl (by simp [pdO, PyData.depth])
  | .int _ => .inl (by simp [pdO, PyData.depth])
  | .str _ => .inl (by simp [pdO, PyData.depth])
  | .tup xs => by
    rcases dep_Os xs with h | h
    · exact .inl (by rw [pdO, PyData.depth, dpt]; omega)
    · exact .inr (by rw [sh]; exact h)
  | .lst xs => by
    rcases dep_Os xs with h | h
    · exact .inl (by rw [pdO, PyData.depth, dpt]; omega)
    · exact .inr (by rw [sh]; exact h)
  | .dct _ _ => .inr (by simp [sh])
  | .dcT _ _ => .inr (by simp [sh])
  | .obj _ _ _ => .inr (by simp [sh])
  | .ref _ => .inr (by simp [sh])
  | .kls _ => .inr (by simp [sh])
theorem dep_Os : ∀ xs : List MV, PyData.depthAll (pdOs xs) ≤ dpts xs ∨ shs xs = false
  | [] => .inl (by simp [pdOs, PyData.depthAll])
  | x :: xs => by
    rcases dep_O x with h | h
    · rcases dep_Os xs with h2 | h2
      · exact .inl (by rw [pdOs, PyData.depthAll, dpts]; omega)
      · exact .inr (by rw [shs, h2]; simp)
    · exact .inr (by rw [shs, h]; simp)
end
theorem dec_and {p q r : Prop} [Decidable p] [Decidable q] [Decidable r] (h : r ↔ p ∧ q) : (decide p && decide q) = decide r := by
  by_cases hp : p <;> by_cases hq : q <;> simp [hp, hq, h]
mutual
theorem eqv_O : ∀ x y : MV, sh x = true → sh y = true → PyData.eqv (pdO x) (pdO y) = decide (cn x = cn y)
  | .non, y, hx, hy => by cases y <;> simp [pdO, PyData.eqv, cn, sh] at hy ⊢
  | .bl a, y, hx, hy => by
    cases y <;> simp [pdO, PyData.eqv, cn, sh] at hy ⊢
    · rename_i b; cases a <;> cases b <;> rfl
    · rw [Bool.beq_eq_decide_eq]
  | .int a, y, hx, hy => by
    cases y <;> simp [pdO, PyData.eqv, cn, sh] at hy ⊢
    all_goals first | rfl | rw [Bool.beq_eq_decide_eq]
  | .str a, y, hx, hy => by
    cases y <;> simp [pdO, PyData.eqv, cn, sh] at hy ⊢
    all_goals first | rfl | rw [Bool.beq_eq_decide_eq]
  | .tup xs, y, hx, hy => by
    cases y with
    | tup ys =>
      rw [pdO, pdO, PyData.eqv, cn, cn, eqv_Os xs ys (by simpa [sh] using hx) (by simpa [sh] using hy)]
      simp
    | _ => simp [pdO, PyData.eqv, cn, sh] at hy ⊢
  | .lst xs, y, hx, hy => by
    cases y with
    | lst ys =>
      rw [pdO, pdO, PyData.eqv, cn, cn, eqv_Os xs ys (by simpa [sh] using hx) (by simpa [sh] using hy)]
      simp
    | _ => simp [pdO, PyData.eqv, cn, sh] at hy ⊢
  | .dct _ _, _, h, _ => by simp [sh] at h
  | .dcT _ _, _, h, _ => by simp [sh] at h
  | .obj _ _ _, _, h, _ => by simp [sh] at h
  | .ref _, _, h, _ => by simp [sh] at h
  | .kls _, _, h, _ => by simp [sh] at h
theorem eqv_Os : ∀ xs ys : List MV, shs xs = true → shs ys = true → PyData.eqvAll (pdOs xs) (pdOs ys) = decide (cns xs = cns ys)
  | [], [], _, _ => by simp [pdOs, PyData.eqvAll, cns]
  | [], _ :: _, _, _ => by simp [pdOs, PyData.eqvAll, cns]
  | _ :: _, [], _, _ => by simp [pdOs, PyData.eqvAll, cns]
  | x :: xs, y :: ys, hx, hy => by
    rw [shs, Bool.and_eq_true] at hx hy
    rw [pdOs, pdOs, PyData.eqvAll, cns, cns, eqv_O x y hx.1 hy.1, eqv_Os xs ys hx.2 hy.2]
    exact dec_and (by simp)
end
theorem shaped_O {x : MV} (h : sh x = true) (d : dpt x ≤ 7) : SeqAt.shaped (pdO x) = true := by
  unfold SeqAt.shaped
  rw [can_O x h]
  rcases dep_O x with e | e
  · simp; omega
  · rw [h] at e; cases e
/-- a cell that is a list, looked through -/
def deref (S : Sto) : MV → MV
  | .ref n => (match S[n]? with
    | some (.lst xs) => .lst xs
    | _ => .ref n)
  | x => x
theorem pdF_deref (S : Sto) (x : MV) : pdF 8 S x = pdF 8 S (deref S x) := by
  unfold deref
  split
  · split
    · rename_i h
      simp only [pdF, h]
    · rfl
  · rfl
theorem scal_not_ref {x y : MV} (h : scalM x y = true) : (∀ n, x ≠ .ref n) ∧ ∀ n, y ≠ .ref n := by
  cases x <;> cases y <;> simp [scalM, skind] at h ⊢
theorem deref_of {S : Sto} {x : MV} (h : ∀ n, x ≠ .ref n) : deref S x = x := by
  unfold deref
  split
  · rename_i n; exact absurd rfl (h n)
  · rfl
theorem eqB_sh {S : Sto} {x y x' y' : MV} (ex : deref S x = x') (ey : deref S y = y') (hx : sh x' = true) (hy : sh y' = true) (dx : dpt x' ≤ 7) (dy : dpt y' ≤ 7) : eqB S x y = some (decide (cn x' = cn y')) := by
  unfold eqB
  by_cases hs : scalM x y = true
  · rw [if_pos hs]
    obtain ⟨h1, h2⟩ := scal_not_ref hs
    rw [deref_of h1] at ex
    rw [deref_of h2] at ey
    subst ex ey
    congr 1
    cases x <;> cases y <;> simp [scalM, skind] at hs <;> simp [seqM, cn]
    rename_i a b
    cases a <;> cases b <;> simp
  · rw [if_neg hs, pdF_deref S x, pdF_deref S y, ex, ey, pdF_O S 8 x' hx (by omega), pdF_O S 8 y' hy (by omega), shaped_O hx dx, shaped_O hy dy, eqv_O x' y' hx hy]
    rfl
theorem eqM_sh {S : Sto} {x y x' y' : MV} (ex : deref S x = x') (ey : deref S y = y') (hx : sh x' = true) (hy : sh y' = true) (dx : dpt x' ≤ 7) (dy : dpt y' ≤ 7) : eqM x y S = .ok (.bl (decide (cn x' = cn y'))) S := by
  unfold eqM; rw [eqB_sh ex ey hx hy dx dy]
theorem neM_sh {S : Sto} {x y x' y' : MV} (ex : deref S x = x') (ey : deref S y = y') (hx : sh x' = true) (hy : sh y' = true) (dx : dpt x' ≤ 7) (dy : dpt y' ≤ 7) : neM x y S = .ok (.bl (!decide (cn x' = cn y'))) S := by
  unfold neM; rw [eqB_sh ex ey hx hy dx dy]
theorem any_O {x : MV} (hx : sh x = true) : ∀ ys : List MV, shs ys = true → ((pdOs ys).any fun z => PyData.eqv z (pdO x)) = decide (cn x ∈ cns ys)
  | [], _ => by simp [pdOs, cns]
  | y :: ys, h => by
    rw [shs, Bool.and_eq_true] at h
    rw [pdOs, List.any_cons, cns, any_O hx ys h.2, eqv_O y x h.1 hx]
    by_cases e : cn x = cn y
    · simp [e]
    · simp [e, Ne.symm e]
theorem inB_sh {S : Sto} {x c : MV} {ys : List MV} (ec : deref S c = .tup ys ∨ deref S c = .lst ys) (hx : sh x = true) (hy : shs ys = true) (dx : dpt x ≤ 7) (dy : dpts ys ≤ 6) : inB S x c = some (decide (cn x ∈ cns ys)) := by
  have nd : dctOf S c = none := by
    cases c with
    | ref n =>
      simp only [deref] at ec
      simp only [dctOf]
      cases e : S[n]? with
      | none => rfl
      | some o =>
        rw [e] at ec
        cases o <;> first | rfl | (rcases ec with ec | ec <;> cases ec)
    | dct ks vs => rcases ec with ec | ec <;> cases ec
    | _ => rfl
  unfold inB
  rw [nd]
  dsimp only
  rw [pdF_deref S c]
  rcases ec with ec | ec
  · have hc : sh (.tup ys) = true := by rw [sh]; exact hy
    have hd : dpt (.tup ys) ≤ 7 := by rw [dpt]; omega
    have e0 := shaped_O hc hd
    rw [pdO] at e0
    rw [ec, pdF_O S 8 (.tup ys) hc (by omega), pdO]
    dsimp only
    rw [pdF_O S 8 x hx (by omega), shaped_O hx dx, e0, any_O hx ys hy]
    rfl
  · have hc : sh (.lst ys) = true := by rw [sh]; exact hy
    have hd : dpt (.lst ys) ≤ 7 := by rw [dpt]; omega
    have e0 := shaped_O hc hd
    rw [pdO] at e0
    rw [ec, pdF_O S 8 (.lst ys) hc (by omega), pdO]
    dsimp only
    rw [pdF_O S 8 x hx (by omega), shaped_O hx dx, e0, any_O hx ys hy]
    rfl
/-- what a frozen def answers -/
theorem frzF_ok {m : MF} {ds : List MV} {S S' : Sto} {d d' : MV} (h : m ds S = .ok d S') (h1 : frz S.length S' 8 d = some d') (h2 : S'.take S.length = S) : frzF m ds S = .ok d' S := by
  unfold frzF Mi.cutS
  rw [h]
  dsimp only
  rw [h1, if_pos h2]
end Mi
set_option Elab.async false
set_option linter.all false
set_option maxRecDepth 100000
set_option maxHeartbeats 2000000
namespace Mi
open PySem PySem.Spec PyProof.Rows L2
/-- a statement, a def that the proof never comes to -/
def mStk : MS := fun _ _ => .stk
theorem ss_stk {X : Cx} {W : WX} {st : Stmt} : SS X W st mStk := ps_never.imp fun D σ H ⟨C, ρ, S, e, s, q⟩ => q.elim
end Mi
set_option Elab.async false
set_option linter.all false
set_option maxRecDepth 100000
set_option maxHeartbeats 4000000
namespace PySem
open Sem (wp)
open AutoSeq1 (wpAny_loadPart')
/-- what iter(v) gives where the heap is hp -/
def IterTo (v it : Value) (hp hp' : Heap) : Prop := ∀ (prog : Program) (w : World) (A : Around) (E : Value → Shared → Prop) (s : Shared) (Q : Value → Shared → Prop), s.heap = hp → Q it { s with heap := hp' } → wpAny (model prog w) A (pyIter v) Q E s
/-- a fresh enumerate over it -/
abbrev enumOb (it : Value) : Obj := { cls := .type "enumerate", data := .fields #[.none, .bool false, it, rawInt 0, .none, .none] }
theorem enum_made {v it : Value} {hp hp' : Heap} (go : IterTo v it hp hp') :
    Meets (Builtin.«enumerate.__new__» ⟨[.type "enumerate", v], []⟩) (fun _ R st => st.heap = hp ∧ R (.ok (.ret (.ref hp'.objs.size))) { st with heap := hp'.push (enumOb it) }) := by
  refine .of_wp fun prog w A R st both => ?_
  obtain ⟨h0, gs, dr, tk, os⟩ := st
  obtain ⟨at0, fin⟩ := both
  have own := sub_enumerate
  have next : ∀ {A' : Around} {E' : Value → Shared → Prop} {Q' : Value → Shared → Prop}, Q' it ⟨hp', gs, dr, tk, os⟩ → wpAny (model prog w) A' (pyIter v) Q' E' ⟨h0, gs, dr, tk, os⟩ := fun q => go prog w _ _ ⟨h0, gs, dr, tk, os⟩ _ at0 q
  wp_walk using next
  refine wpAny_stack_any fun who => wpAny_pure ?_
  split
  · rename_i cl _ _ _ _ _
    rcases (cl == Value.type "enumerate") with _ | _ <;> (wp_walk using next; exact ⟨_, rfl, fin⟩)
  · wp_walk using next; exact ⟨_, rfl, fin⟩
/-- enumerate(v) -/
theorem enum_call {prog : Program} {w : World} {A : Around} {E : Value → Shared → Prop} {s : Shared} {v it : Value} {hp' : Heap} {Q : Value → Shared → Prop} (go : IterTo v it s.heap hp') (q : Q (.ref hp'.objs.size) { s with heap := hp'.push (enumOb it) }) :
    wpAny (model prog w) A (call (.type "enumerate") [v]) Q E s :=
  callType_new F.called_enumerate (by decide) (F.typeCall_enumerate_1 _) (F.newCall_enumerate_1 _) (fun o => F.args_object_init_2 o _) F.entry_enumerate_new (enum_made go) ⟨rfl, ⟨⟨_, Heap.get?_push_size _ rfl, rfl⟩, q⟩⟩
end PySem
namespace Mi
open PySem PySem.Spec PyProof.Rows L2
/-- over a list or a tuple: its own iterator lies ahead of the enumerate's record -/
theorem iterK {s : Shared} {a : Addr} {us : Array Value} {t : Bool} (p : CoK t s.heap a us) : IterTo (.ref a) (.ref s.heap.objs.size) s.heap (s.heap.push (obK t a)) := fun prog w A E s' Q es q => by
  have b := (beginsK a us t).iter prog w A E s' Q (es ▸ p)
  rw [es] at b
  exact b q
section
variable {X : Cx} {W : WX} {tg l e e2 e3 : Expr} {ml : ME} {mas : MA} {p pos tpos : Pos} {elts : List Expr} {kk : Nat}
theorem pi_e {ta : TA} (hg : Gl X "enumerate") (hm : X.mg "enumerate" = none) (ha : PA X [e] ta) (hs : starEach (e :: []) X.env = (false, eval e X.env) :: starEach [] X.env) (hpl : (backTo pos (starEach [] X.env)).any (·.1) = false) :
    PI X (.Tuple elts kk tpos) (.Call (.Name "enumerate" p) [e] [] pos) (fun σ H Rr => ta σ H fun vs H1 => ∃ a t xs, vs = [.ref a] ∧ SqK X.K t H1 a xs ∧ Rr (ItE X.K t a) H1) := by
  refine pi_made hg hm boot_enumerate ha ?_ hs hpl
  rintro pins σ H s us _ Rr inv r ⟨a, t, xs, rfl, sq, q⟩
  cases refs_of (as := [a]) r
  obtain ⟨ua, _, pa, la⟩ := seqK inv sq
  refine enum_call (iterK pa) ?_
  have nf : (obK t a).isFreed = false := by cases t <;> rfl
  have sz : (s.heap.push (obK t a)).objs.size = s.heap.objs.size + 1 := Heap.size_push ..
  have oe : IsEnum ((s.heap.push (obK t a)).push (enumOb (.ref s.heap.objs.size))) (s.heap.push (obK t a)).objs.size s.heap.objs.size 0 .none := Heap.get?_push_size _ rfl
  have oi : ((s.heap.push (obK t a)).push (enumOb (.ref s.heap.objs.size))).get? s.heap.objs.size = some (obK t a) := Heap.get?_push_of_some _ (Heap.get?_push_size _ nf)
  rw [sz] at oe ⊢
  refine wpAny_pyIter_enum oe ⟨_, _, _, _, H, rfl, inv.kept (t' := s.toks) fun b o q => Heap.get?_push_of_some _ (Heap.get?_push_of_some _ q),
    (walk_e (Nat.ne_of_lt la) (Nat.succ_ne_self _) (Nat.ne_of_gt (Nat.lt_succ_of_lt la))).turn, ⟨⟨_, oe⟩, itK_new oi⟩, all_new inv (by simp [Nat.ble_eq]), q⟩
theorem si_enum (hg : Gl X "enumerate") (hm : X.mg "enumerate" = none) (ha : SA X W [e] mas) (hs : starEach (e :: []) X.env = (false, eval e X.env) :: starEach [] X.env := by rfl) (hpl : (backTo pos (starEach [] X.env)).any (·.1) = false := by rfl) :
    SI X W (.Tuple elts kk tpos) (.Call (.Name "enumerate" p) [e] [] pos) (mEnum mas) :=
  (pi_e hg hm ha hs hpl).imp fun σ H Q ⟨C, ρ, S, e, s, q⟩ => by
    subst e
    refine tA.bind s q fun ds S1 C1 vs s1 g1 r1 q1 => ?_
    unfold enmOf at q1
    split at q1
    · split at q1
      · rename_i e1
        obtain ⟨v, rfl, rv⟩ := one_of r1
        obtain ⟨a, vs, rfl, sq, t⟩ := seqK_of s1.rs rv e1
        rw [s1.K] at sq
        exact ⟨a, _, vs, rfl, sq, q1.now s1.rs _ (src_e s1.K rv)⟩
      · exact q1.elim
    · exact q1.elim
end
end Mi
set_option Elab.async false
set_option linter.all false
set_option maxRecDepth 100000
set_option maxHeartbeats 4000000
namespace Mi
open PySem
/-- the record of an iterator that owns a tuple: what it knows of the tuple, whether it holds it for out, the rest of its fields -/
abbrev OwnRec (h : Heap) (a : Addr) (c : String) (v0 : Value) (f : Bool) (rest : List Value) : Prop :=
  h.get? a = some { cls := .type c, dict := none, data := .fields (v0 :: .bool f :: rest).toArray, slots := #[] }
/-- nothing, or where a tuple once lay -/
def Tells (v : Value) : Prop := v = .none ∨ ∃ T : Addr, v = rawInt T
/-- all but the cells W stands -/
def Stays (W : List Addr) (h h' : Heap) : Prop := ∀ b o, b ∉ W → h.get? b = some o → h'.get? b = some o
theorem Stays.trans {W : List Addr} {h h1 h2 : Heap} (x : Stays W h h1) (y : Stays W h1 h2) : Stays W h h2 := fun b o nb e => y b o nb (x b o nb e)
theorem Stays.of {W : List Addr} {a : Addr} {h h' : Heap} (x : Heap.SameBut a h h') (m : a ∈ W) : Stays W h h' := fun b o nb e => x.extBut b o (fun z => nb (z ▸ m)) e
section
variable {prog : Program} {w : World} {A : Around} {s : Shared} {E : Value → Shared → Prop}
/-- is the owned tuple free? whatever the answer, only the second field may be written -/
theorem own_free {a : Addr} {c : String} {v0 : Value} {f : Bool} {rest : List Value} {Q : Bool → Shared → Prop} (rec : OwnRec s.heap a c v0 f rest) (tells : Tells v0)
    (k : ∀ b f' h', OwnRec h' a c v0 f' rest → Heap.SameBut a s.heap h' → Q b { s with heap := h' }) : wpAny (model prog w) A (Builtin.SmallTypes.ownedTupleIsFree (.ref a)) Q E s := by
  have asis : ∀ b, Q b s := fun b => k b f s.heap rec (Heap.SameBut.refl _ _)
  have look : ∀ {T : Addr} {Q' : Option Obj → Shared → Prop}, Q' (s.heap.get? T) s → wpAny (model prog w) A (loadIfAlive T) Q' E s := fun q _ _ _ => q
  simp only [Builtin.SmallTypes.ownedTupleIsFree]
  refine wpAny_bind (wpAny_field rec rfl (x := v0) rfl ?_)
  obtain rfl | ⟨T, rfl⟩ := tells
  · exact wpAny_pure (asis true)
  · simp only [rawInt, Int.toNat_natCast]
    apply wpAny_bind
    apply look
    rcases s.heap.get? T with _ | oT
    · exact wpAny_pure (asis true)
    · refine wpAny_bind (wpAny_field rec rfl (x := .bool f) rfl ?_)
      cases f
      · exact wpAny_bind (wpAny_setField_rec rec (by simp) fun h' rec' sb => wpAny_pure (k false true h' rec' sb))
      · exact wpAny_pure (asis false)
/-- a new tuple goes out -/
theorem own_out {a T : Addr} {c : String} {v0 : Value} {f : Bool} {rest : List Value} {Q : Unit → Shared → Prop} (ir : OwnRec s.heap a c v0 f rest) (k : ∀ h', OwnRec h' a c (rawInt T) false rest → Heap.SameBut a s.heap h' → Q () { s with heap := h' }) :
    wpAny (model prog w) A (Builtin.SmallTypes.ownedTupleHandOut (.ref a) (.ref T)) Q E s :=
  wpAny_bind (wpAny_setField_rec ir (by simp) fun _ ir1 sb1 => wpAny_setField_rec ir1 (by simp) fun h2 ir2 sb2 => k h2 ir2 ⟨sb2.1.trans sb1.1, fun b nb => (sb2.2 b nb).trans (sb1.2 b nb)⟩)
end
section
variable {prog : Program} {w : World} {A : Around} {E : Value → Shared → Prop} {s : Shared} {z TI TO i1 i2 : Addr} {fp1 fp2 : List Addr} {n1 n2 i : Nat} {P1 P2 : Nat → Value → Prop} {St1 St2 : Nat → Heap → Prop} {v0 : Value} {f : Bool}
/-- a zip over two sources, whatever has become of its tuple -/
structure ZipAt (h : Heap) (z TI TO i1 i2 : Addr) : Prop where
  it : ∃ v0 f, Tells v0 ∧ OwnRec h z "zip" v0 f [.bool false, .ref TI, .ref TO]
  src : IsTupOf2 h TI (.ref i1) (.ref i2)
  own : ∃ a b, IsTupOf2 h TO a b
theorem zip_more {Q : Value → Shared → Prop} (S : ZipSep2 z TI TO i1 i2 fp1 fp2) (D1 : Draws prog w A i1 fp1 n1 P1 St1) (D2 : Draws prog w A i2 fp2 n2 P2 St2) (at0 : ZipAt s.heap z TI TO i1 i2) (st1 : St1 i s.heap) (st2 : St2 i s.heap) (lt1 : i < n1) (lt2 : i < n2)
    (k : ∀ x y h' tk, P1 i x → P2 i y → ZipAt h' z TI TO i1 i2 → St1 (i + 1) h' → St2 (i + 1) h' → IsTupOf2 h' s.heap.objs.size x y → s.heap.objs.size < h'.objs.size → Stays [z, TO, i1, i2] s.heap h' → Q (.ref s.heap.objs.size) { s with heap := h', toks := tk }) :
    wpAny (model prog w) A (Builtin.«zip.__next__» ⟨[.ref z], []⟩) (fun r s' => ∃ v, r = .done (.ret v) ∧ Q v s') E s := by
  obtain ⟨⟨v0, f, tells, ir⟩, src, a, b, own⟩ := at0
  obtain ⟨hp, gs, dr, tk0, os⟩ := s
  dsimp only at k st1 st2 src ir own
  have free := fun {Q'} => own_free (prog := prog) (w := w) (A := A) (E := E) (s := ⟨hp, gs, dr, tk0, os⟩) (Q := Q') ir tells
  wp_walk using free
  rintro (_ | _) f' h0 ir0 sb0
  · simp only [← Array.forIn_toList, List.forIn_cons, List.forIn_nil, Bool.false_eq_true, if_false]
    have d1 := fun {Q'} {E'} => D1.item i ⟨h0, gs, dr, tk0, os⟩ Q' E' lt1 (D1.over st1 sb0 S.zf1)
    wp_walk using d1
    intro x h1 tk1 px go1 sb1
    dsimp only
    have d2 := fun {Q'} {E'} => D2.item i ⟨h1, gs, dr, tk1, os⟩ Q' E' lt2 (D2.over (D2.over st2 sb0 S.zf2) sb1 S.sep1_2)
    wp_walk using d2
    intro y h2 tk2 py go2 sb2
    dsimp only
    wp_walk
    have sz : h2.objs.size = hp.objs.size := sb2.1.trans (sb1.1.trans sb0.1)
    have far : Stays [z, TO, i1, i2] hp h2 := ((Stays.of sb0 (by simp)).trans (Stays.of sb1 (by simp))).trans (Stays.of sb2 (by simp))
    have ir2 : OwnRec h2 z "zip" v0 f' [.bool false, .ref TI, .ref TO] := sb2.extBut _ _ S.zi2 (sb1.extBut _ _ S.zi1 ir0)
    have own2 : IsTupOf2 h2 TO a b := sb2.extBut _ _ S.Ti2 (sb1.extBut _ _ S.Ti1 (sb0.extBut _ _ S.TOz own))
    have src2 : IsTupOf2 h2 TI (.ref i1) (.ref i2) := far _ _ (by simp [S.TIz, S.TITO, S.TIi1, S.TIi2]) src
    have up : ∀ {b o p}, h2.get? b = some o → (h2.push p).get? b = some o := Heap.get?_push_of_some _
    have last : IsTupOf2 (h2.push { cls := .type "tuple", data := .seq #[x, y] }) h2.objs.size x y := Heap.get?_push_size _ rfl
    refine ⟨_, rfl, ?_⟩
    rw [sz] at last ⊢
    exact k x y _ tk2 px py ⟨⟨v0, f', tells, up ir2⟩, up src2, a, b, up own2⟩ (D1.frame _ _ _ (D1.over go1 sb2 S.sep2_1) fun _ _ _ => up) (D2.frame _ _ _ go2 fun _ _ _ => up) last
      (by rw [Heap.size_push, sz]; exact Nat.lt_succ_self _) (far.trans fun _ _ _ => up)
  · simp only [if_true, List.zipIdx_cons, List.zipIdx_nil, List.forIn_cons, List.forIn_nil]
    have mark := fun {Q'} {E'} => wpAny_setField_rec (prog := prog) (w := w) (A := A) (E := E') (s := ⟨h0, gs, dr, tk0, os⟩) (k := 0) (x := .ellipsis) (Q := Q') ir0 (by simp)
    wp_walk using mark
    intro h1 ir1 sb1
    dsimp only at ir1 sb1 ⊢
    have d1 := fun {Q'} {E'} => D1.item i ⟨h1, gs, dr, tk0, os⟩ Q' E' lt1 (D1.over (D1.over st1 sb0 S.zf1) sb1 S.zf1)
    wp_walk using wpAny_onRaise, d1
    intro x h2 tk1 px go1 sb2
    dsimp only at sb2 ⊢
    have own2 : IsTupOf2 h2 TO a b := sb2.extBut _ _ S.Ti1 (sb1.extBut _ _ S.TOz (sb0.extBut _ _ S.TOz own))
    have put1 := fun {Q'} {E'} => updateSeq_IsTupOf2 (prog := prog) (w := w) (A := A) (E := E') (s := ⟨h2, gs, dr, tk1, os⟩) (x := x) (k := 0) (Q := Q') own2
    wp_walk using put1
    intro h3 own3 sb3
    replace own3 : IsTupOf2 h3 TO x b := own3
    dsimp only at sb3 ⊢
    have d2 := fun {Q'} {E'} => D2.item i ⟨h3, gs, dr, tk1, os⟩ Q' E' lt2 (D2.over (D2.over (D2.over (D2.over st2 sb0 S.zf2) sb1 S.zf2) sb2 S.sep1_2) sb3 S.Tf2)
    wp_walk using wpAny_onRaise, d2
    intro y h4 tk2 py go2 sb4
    dsimp only at sb4 ⊢
    have own4 : IsTupOf2 h4 TO x b := sb4.extBut _ _ S.Ti2 own3
    have put2 := fun {Q'} {E'} => updateSeq_IsTupOf2 (prog := prog) (w := w) (A := A) (E := E') (s := ⟨h4, gs, dr, tk2, os⟩) (x := y) (k := 0 + 1) (Q := Q') own4
    wp_walk using put2
    intro h5 own5 sb5
    replace own5 : IsTupOf2 h5 TO x y := own5
    dsimp only at sb5 ⊢
    have far : Stays [z, TO, i1, i2] hp h5 := ((((((Stays.of sb0 (by simp)).trans (Stays.of sb1 (by simp))).trans (Stays.of sb2 (by simp)))).trans (Stays.of sb3 (by simp))).trans (Stays.of sb4 (by simp))).trans (Stays.of sb5 (by simp))
    have sz : h5.objs.size = hp.objs.size := sb5.1.trans (sb4.1.trans (sb3.1.trans (sb2.1.trans (sb1.1.trans sb0.1))))
    have ir5 : OwnRec h5 z "zip" .ellipsis f' [.bool false, .ref TI, .ref TO] := sb5.extBut _ _ S.TOz.symm (sb4.extBut _ _ S.zi2 (sb3.extBut _ _ S.TOz.symm (sb2.extBut _ _ S.zi1 ir1)))
    have src5 : IsTupOf2 h5 TI (.ref i1) (.ref i2) := far _ _ (by simp [S.TIz, S.TITO, S.TIi1, S.TIi2]) src
    have up : ∀ {b o p}, h5.get? b = some o → (h5.push p).get? b = some o := Heap.get?_push_of_some _
    have give := fun {Q'} {E'} => own_out (prog := prog) (w := w) (A := A) (E := E') (s := ⟨h5.push { cls := .type "tuple", data := .seq #[x, y] }, gs, dr, tk2, os⟩) (T := h5.objs.size) (Q := Q') (up ir5)
    wp_walk using give
    intro h6 ir6 sb6
    dsimp only at sb6
    have z0 : z < h5.objs.size := Heap.lt_size ir5
    have six : ∀ {c o}, c ≠ z → h5.get? c = some o → h6.get? c = some o := fun n e => sb6.extBut _ _ n (up e)
    have far6 : Stays [z, TO, i1, i2] h5 h6 := fun c o n e => six (fun q => n (by simp [q])) e
    have last : IsTupOf2 h6 h5.objs.size x y := sb6.extBut _ _ (Nat.ne_of_gt z0) (Heap.get?_push_size _ rfl)
    apply wpAny_pure; refine ⟨_, rfl, ?_⟩
    have more : hp.objs.size < h6.objs.size := by rw [sb6.1, Heap.size_push, sz]; exact Nat.lt_succ_self _
    rw [sz] at last ⊢
    exact k x y h6 tk2 px py ⟨⟨_, _, .inr ⟨_, rfl⟩, ir6⟩, six S.TIz src5, x, y, six S.TOz own5⟩
      (D1.over (D1.frame _ _ _ (D1.over (D1.over (D1.over go1 sb3 S.Tf1) sb4 S.sep2_1) sb5 S.Tf1) fun _ _ _ => up) sb6 S.zf1) (D2.over (D2.frame _ _ _ (D2.over go2 sb5 S.Tf2) fun _ _ _ => up) sb6 S.zf2) last more (far.trans far6)
theorem Stays.ofE {W : List Addr} {a : Addr} {h h' : Heap} (x : Heap.ExtBut a h h') (m : a ∈ W) : Stays W h h' := fun b o nb e => x b o (fun z => nb (z ▸ m)) e
/-- the zip ends: the first or the second source has no more -/
theorem zip_last {Q : Fin → Shared → Prop} (S : ZipSep2 z TI TO i1 i2 fp1 fp2) (D1 : Draws prog w A i1 fp1 n1 P1 St1) (D2 : Draws prog w A i2 fp2 n2 P2 St2) (at0 : ZipAt s.heap z TI TO i1 i2) (st1 : St1 i s.heap) (st2 : St2 i s.heap) (over : i = n1 ∨ i < n1 ∧ i = n2)
    (k : ∀ h' tk x, Stays [z, TO, i1, i2] s.heap h' → (∃ o, h'.get? x = some o ∧ o.cls = .type "StopIteration") → E (.ref x) { s with heap := h', toks := tk }) :
    wpAny (model prog w) A (Builtin.«zip.__next__» { pos := [.ref z], kw := [] }) Q E s := by
  obtain ⟨⟨v0, f, tells, ir⟩, src, a, b, own⟩ := at0
  obtain ⟨hp, gs, dr, tk0, os⟩ := s
  dsimp only at k st1 st2 src ir own
  have free := fun {Q'} => own_free (prog := prog) (w := w) (A := A) (E := E) (s := ⟨hp, gs, dr, tk0, os⟩) (Q := Q') ir tells
  wp_walk using free
  rintro (_ | _) f' h0 ir0 sb0
  · simp only [← Array.forIn_toList, List.forIn_cons, List.forIn_nil, Bool.false_eq_true, if_false]
    obtain e1 | ⟨lt1, e2⟩ := over
    · have d1 := fun {Q'} {E'} => D1.done ⟨h0, gs, dr, tk0, os⟩ Q' E' (e1 ▸ D1.over st1 sb0 S.zf1)
      wp_walk using d1
      exact fun h1 x eb stop => k h1 tk0 x ((Stays.of sb0 (by simp)).trans (Stays.ofE eb (by simp))) stop
    · have d1 := fun {Q'} {E'} => D1.item i ⟨h0, gs, dr, tk0, os⟩ Q' E' lt1 (D1.over st1 sb0 S.zf1)
      wp_walk using d1
      intro x h1 tk1 px go1 sb1
      dsimp only at sb1 ⊢
      have d2 := fun {Q'} {E'} => D2.done ⟨h1, gs, dr, tk1, os⟩ Q' E' (e2 ▸ D2.over (D2.over st2 sb0 S.zf2) sb1 S.sep1_2)
      wp_walk using d2
      exact fun h2 x eb stop => k h2 tk1 x (((Stays.of sb0 (by simp)).trans (Stays.of sb1 (by simp))).trans (Stays.ofE eb (by simp))) stop
  · simp only [if_true, List.zipIdx_cons, List.zipIdx_nil, List.forIn_cons, List.forIn_nil]
    have mark := fun {Q'} {E'} => wpAny_setField_rec (prog := prog) (w := w) (A := A) (E := E') (s := ⟨h0, gs, dr, tk0, os⟩) (k := 0) (x := .ellipsis) (Q := Q') ir0 (by simp)
    wp_walk using mark
    intro h1 ir1 sb1
    dsimp only at ir1 sb1 ⊢
    have upto : Stays [z, TO, i1, i2] hp h1 := (Stays.of sb0 (by simp)).trans (Stays.of sb1 (by simp))
    /- what is done when a source stops -/
    have clean : ∀ {hq hr : Heap} {tk : Tok} {j x : Addr}, Stays [z, TO, i1, i2] hp hq → Heap.ExtBut j hq hr → j ∈ [z, TO, i1, i2] → OwnRec hr z "zip" .ellipsis f' [.bool false, .ref TI, .ref TO] → (∃ o, hr.get? x = some o ∧ o.cls = .type "StopIteration") →
        wpAny (model prog w) A (setField (.ref z) 0 .none) (fun _ s' => E (.ref x) s') E ⟨hr, gs, dr, tk, os⟩ := fun {hq hr tk j x} st eb m irq ⟨o, ox, oc⟩ =>
      wpAny_setField_rec irq (by simp) fun hs _ sbs => k hs tk x ((st.trans (Stays.ofE eb m)).trans (Stays.of sbs (by simp))) ⟨o, sbs.extBut _ _ (fun e => by
        have same := ox.symm.trans (e ▸ irq)
        cases same; simp at oc) ox, oc⟩
    obtain e1 | ⟨lt1, e2⟩ := over
    · have d1 := fun {Q'} {E'} => D1.done ⟨h1, gs, dr, tk0, os⟩ Q' E' (e1 ▸ D1.over (D1.over st1 sb0 S.zf1) sb1 S.zf1)
      wp_walk using wpAny_onRaise, d1
      exact fun h2 x eb stop => clean upto eb (by simp) (eb _ _ S.zi1 ir1) stop
    · have d1 := fun {Q'} {E'} => D1.item i ⟨h1, gs, dr, tk0, os⟩ Q' E' lt1 (D1.over (D1.over st1 sb0 S.zf1) sb1 S.zf1)
      wp_walk using wpAny_onRaise, d1
      intro x h2 tk1 px go1 sb2
      dsimp only at sb2 ⊢
      have own2 : IsTupOf2 h2 TO a b := sb2.extBut _ _ S.Ti1 (sb1.extBut _ _ S.TOz (sb0.extBut _ _ S.TOz own))
      have put1 := fun {Q'} {E'} => updateSeq_IsTupOf2 (prog := prog) (w := w) (A := A) (E := E') (s := ⟨h2, gs, dr, tk1, os⟩) (x := x) (k := 0) (Q := Q') own2
      wp_walk using put1
      intro h3 own3 sb3
      dsimp only at sb3 ⊢
      have d2 := fun {Q'} {E'} => D2.done ⟨h3, gs, dr, tk1, os⟩ Q' E' (e2 ▸ D2.over (D2.over (D2.over (D2.over st2 sb0 S.zf2) sb1 S.zf2) sb2 S.sep1_2) sb3 S.Tf2)
      wp_walk using wpAny_onRaise, d2
      exact fun h4 x eb stop => clean ((upto.trans (Stays.of sb2 (by simp))).trans (Stays.of sb3 (by simp))) eb (by simp) (eb _ _ S.zi2 (sb3.extBut _ _ S.TOz.symm (sb2.extBut _ _ S.zi1 ir1))) stop
end
end Mi
set_option Elab.async false
set_option linter.all false
set_option maxRecDepth 100000
set_option maxHeartbeats 4000000
namespace Mi
open PySem
section
variable {prog : Program} {w : World} {A : Around} {s : Shared} {E : Value → Shared → Prop}
/-- an enumerate, whatever has become of its tuple -/
def EnumAt (h : Heap) (e it : Addr) (i : Int) : Prop := ∃ v0 f old, Tells v0 ∧ OwnRec h e "enumerate" v0 f [.ref it, rawInt i, .none, old]
theorem EnumAt.kept {h h' : Heap} {e it : Addr} {i : Int} (x : EnumAt h e it i) (k : ∀ o, h.get? e = some o → h'.get? e = some o) : EnumAt h' e it i := x.imp fun _ y => y.imp fun _ z => z.imp fun _ q => ⟨q.1, k _ q.2⟩
theorem EnumAt.obj {h : Heap} {e it : Addr} {i : Int} : EnumAt h e it i → ∃ o, h.get? e = some o ∧ (o.cls = .type "enumerate" ∧ ∀ v, o.data ≠ .cell v)
  | ⟨_, _, _, _, q⟩ => ⟨_, q, rfl, nofun⟩
/-- enumerate's turn over whatever gives the items -/
theorem enum_more {e it : Addr} {i : Int} {G : Value → Heap → Prop} {Q : Value → Shared → Prop} (at0 : EnumAt s.heap e it i)
    (inner : ∀ {Q' E' : Value → Shared → Prop}, (∀ x h1 tk, G x h1 → (∀ o, s.heap.get? e = some o → h1.get? e = some o) → Q' x { s with heap := h1, toks := tk }) → wpAny (model prog w) A (Builtin.SmallTypes.nextOf (.ref it)) Q' E' s)
    (k : ∀ x h1 h' tk, G x h1 → EnumAt h' e it (i + 1) → IsTupOf2 h' h1.objs.size (.int i tk) x → h1.objs.size < h'.objs.size → Stays [e] h1 h' → Q (.ref h1.objs.size) { s with heap := h', toks := tk + 1 }) :
    wpAny (model prog w) A (Builtin.«enumerate.__next__» ⟨[.ref e], []⟩) (fun r s' => ∃ v, r = .done (.ret v) ∧ Q v s') E s := by
  obtain ⟨v0, f, old, tells, er⟩ := at0
  obtain ⟨hp, gs, dr, tk0, os⟩ := s
  dsimp only at k inner er
  refine wpAny_bind (wpAny_pure (wpAny_bind (wpAny_field er rfl (x := .ref it) rfl (wpAny_bind (inner fun x h1 tk g ke => ?_)))))
  dsimp only
  have er1 := ke _ er
  have set1 := fun {Q'} {E'} => wpAny_setField_rec (prog := prog) (w := w) (A := A) (E := E') (s := ⟨h1, gs, dr, tk + 1, os⟩) (k := 3) (x := rawInt (i + 1)) (Q := Q') er1 (by simp)
  wp_walk using set1
  intro h2 er2 sb2
  dsimp only at sb2 er2 ⊢
  have set2 := fun {Q'} {E'} => wpAny_setField_rec (prog := prog) (w := w) (A := A) (E := E') (s := ⟨h2, gs, dr, tk + 1, os⟩) (k := 4) (x := .none) (Q := Q') er2 (by simp)
  wp_walk using set2
  intro h3 er3 sb3
  dsimp only at sb3 er3 ⊢
  have sz3 : h3.objs.size = h1.objs.size := sb3.1.trans sb2.1
  have el : e < h1.objs.size := Heap.lt_size er1
  have up : ∀ {b o p}, h3.get? b = some o → (h3.push p).get? b = some o := Heap.get?_push_of_some _
  have free := fun {Q'} {E'} => own_free (prog := prog) (w := w) (A := A) (E := E') (s := ⟨h3.push { cls := .type "tuple", data := .seq #[.int i tk, x] }, gs, dr, tk + 1, os⟩) (Q := Q') (up (show OwnRec h3 e "enumerate" v0 f [.ref it, rawInt (i + 1), .none, old] from er3)) tells
  wp_walk using free
  have far : ∀ {h' : Heap}, Stays [e] (h3.push { cls := .type "tuple", data := .seq #[.int i tk, x] }) h' → Stays [e] h1 h' := fun st => ((Stays.of sb2 (by simp)).trans (Stays.of sb3 (by simp))).trans fun b o nb q => st b o nb (up q)
  have new : IsTupOf2 (h3.push { cls := .type "tuple", data := .seq #[.int i tk, x] }) h1.objs.size (.int i tk) x := by rw [← sz3]; exact Heap.get?_push_size _ rfl
  have grown : ∀ {h' : Heap}, h'.objs.size = (h3.push { cls := .type "tuple", data := .seq #[.int i tk, x] }).objs.size → h1.objs.size < h'.objs.size := fun q => by rw [q, Heap.size_push, sz3]; exact Nat.lt_succ_self _
  rintro (_ | _) f' h4 er4 sb4
  · wp_walk
    refine ⟨_, rfl, ?_⟩
    rw [sz3]
    exact k x h1 h4 tk g ⟨v0, f', old, tells, er4⟩ (sb4.extBut _ _ (Nat.ne_of_gt el) new) (grown sb4.1) (far (Stays.of sb4 (by simp)))
  · have set5 := fun {Q'} {E'} => wpAny_setField_rec (prog := prog) (w := w) (A := A) (E := E') (s := ⟨h4, gs, dr, tk + 1, os⟩) (k := 5) (x := x) (Q := Q') er4 (by simp)
    wp_walk using set5
    intro h5 er5 sb5
    dsimp only at sb5 er5 ⊢
    have give := fun {Q'} {E'} => own_out (prog := prog) (w := w) (A := A) (E := E') (s := ⟨h5, gs, dr, tk + 1, os⟩) (T := h3.objs.size) (Q := Q') (show OwnRec h5 e "enumerate" v0 f' [.ref it, rawInt (i + 1), .none, x] from er5)
    wp_walk using give
    intro h6 er6 sb6
    dsimp only at sb6 er6 ⊢
    wp_walk
    refine ⟨_, rfl, ?_⟩
    rw [sz3]
    exact k x h1 h6 tk g ⟨_, _, x, .inr ⟨_, rfl⟩, er6⟩ (sb6.extBut _ _ (Nat.ne_of_gt el) (sb5.extBut _ _ (Nat.ne_of_gt el) (sb4.extBut _ _ (Nat.ne_of_gt el) new))) (grown (sb6.1.trans (sb5.1.trans sb4.1))) (far (((Stays.of sb4 (by simp)).trans (Stays.of sb5 (by simp))).trans (Stays.of sb6 (by simp))))
theorem enum_last {e it : Addr} {i : Int} {Q : PySem.Fin → Shared → Prop} (at0 : EnumAt s.heap e it i) (inner : ∀ {Q' : Value → Shared → Prop}, wpAny (model prog w) A (Builtin.SmallTypes.nextOf (.ref it)) Q' E s) :
    wpAny (model prog w) A (Builtin.«enumerate.__next__» { pos := [.ref e], kw := [] }) Q E s := by
  obtain ⟨_, _, _, _, er⟩ := at0
  exact wpAny_bind (wpAny_pure (wpAny_bind (wpAny_field er rfl (x := .ref it) rfl (wpAny_bind inner))))
/-- the step ahead of the store: at most the owned tuple is forgotten -/
theorem enum_letgo {e it T : Addr} {i : Int} {elts : List Expr} {kk : Nat} {pos : Pos} {Q : Unit → Shared → Prop} (at0 : EnumAt s.heap e it i) (k : ∀ h', EnumAt h' e it i → Heap.SameBut e s.heap h' → Q () { s with heap := h' }) :
    wpAny (model prog w) A (letOwnedTupleGo (.Tuple elts kk pos) (.ref e) (.ref T)) Q E s := by
  obtain ⟨v0, f, old, tells, er⟩ := at0
  simp only [letOwnedTupleGo]
  refine wpAny_bind (wpAny_load er ?_)
  dsimp only
  refine wpAny_ite ?_
  split
  · refine wpAny_bind (wpAny_rule (show wpAny _ _ (setField (.ref e) 0 .none) Q E s from ?_))
    exact wpAny_setField_rec er (by simp) fun h' er' sb => k h' ⟨.none, f, old, .inl rfl, er'⟩ sb
  · exact wpAny_pure (k s.heap ⟨v0, f, old, tells, er⟩ (Heap.SameBut.refl _ _))
/-- next by its slot: an item, or a StopIteration -/
theorem next_by {T id : String} {b : Builtin} {a : Addr} {Q : Option Value → Shared → Prop} (ty : s.TypeIs (.ref a) T) (sl : Slot T "__next__" id) (en : entryFor table id = some b) (ar : argsOk id ⟨[.ref a], []⟩)
    (h : wpAny (model prog w) A.in1 (b ⟨[.ref a], []⟩) (fun r s' => ∃ v, r = .done (.ret v) ∧ Q (some v) s') (fun x s' => (∃ p o, x = .ref p ∧ s'.heap.get? p = some o ∧ o.cls = .type "StopIteration") ∧ Q none s') s) :
    wpAny (model prog w) A (pyNext (Value.ref a)) Q E s := by
  simp only [pyNext]
  refine wpAny_bind (wpAny_attempt (wpAny_callSpecial?_slot ty sl (wpAny_mono (wpAny_call_entry sl ty en h ar) (fun v s' q => wpAny_pure q) ?_)))
  rintro _ s' ⟨⟨p, o, rfl, ho, hc⟩, q⟩
  exact wpAny_bind (wpAny_isInstance ⟨o, ho, hc⟩ isSubtype_stop (wpAny_pure q))
theorem nextOf_by {T id : String} {b : Builtin} {a : Addr} {Q : Value → Shared → Prop} (ty : s.TypeIs (.ref a) T) (sl : Slot T "__next__" id) (en : entryFor table id = some b) (ar : argsOk id ⟨[.ref a], []⟩)
    (h : wpAny (model prog w) A.in1 (b ⟨[.ref a], []⟩) (fun r s' => ∃ v, r = .done (.ret v) ∧ Q v s') E s) : wpAny (model prog w) A (Builtin.SmallTypes.nextOf (.ref a)) Q E s :=
  wpAny_bind (wpAny_callSpecial?_slot ty sl (wpAny_mono (wpAny_call_entry sl ty en h ar) (fun _ _ q => wpAny_pure q) fun _ _ q => q))
theorem enum_self {e it : Addr} {i : Int} {Q : Value → Shared → Prop} (at0 : EnumAt s.heap e it i) (q : Q (.ref e) s) : wpAny (model prog w) A (pyIter (.ref e)) Q E s := by
  obtain ⟨o, ho, hc, _⟩ := at0.obj
  have ty : s.TypeIs (.ref e) "enumerate" := ⟨o, ho, hc⟩
  exact wpAny_pyIter_slot ty F.slot_enumerate_iter (wpAny_call_entry F.slot_enumerate_iter ty F.entry_enumerate_iter (wpAny_bind (wpAny_pure (wpAny_pure ⟨_, rfl, _, _, ty, F.slot_enumerate_next.lookup, q⟩))) (F.args_enumerate_iter_1 _))
end
open PySem.Spec PyProof.Rows L2
def ItEz (K : PySem.W.Frag) (t1 t2 : Bool) (a b : Addr) : It :=
  ⟨fun i H => ∃ (xs ys : List V) (x y : V), SqK K t1 H a xs ∧ SqK K t2 H b ys ∧ xs[i]? = some x ∧ ys[i]? = some y,
    fun i H v H' => ∃ T U x y, v = .ref U ∧ H T = none ∧ H U = none ∧ T ≠ U ∧ H' = upd (upd H T (.tup [x, y])) U (.tup [.int (i : Nat), .ref T]) ∧ (∀ xs, SqK K t1 H a xs → xs[i]? = some x) ∧ ∀ ys, SqK K t2 H b ys → ys[i]? = some y,
    fun i H => ∃ xs ys : List V, SqK K t1 H a xs ∧ SqK K t2 H b ys ∧ i ≤ xs.length ∧ i ≤ ys.length ∧ (i = xs.length ∨ i = ys.length)⟩
/-- the enumerate's cell lies apart -/
def Apart (e : Addr) (W : List Addr) : Prop := ∀ b ∈ W, b ≠ e
def EzAt (t1 t2 : Bool) (a b e z TI TO i1 i2 : Addr) (i : Nat) (h : Heap) : Prop := EnumAt h e z (i : Nat) ∧ ZipAt h z TI TO i1 i2 ∧ ItK t1 h i1 a i ∧ ItK t2 h i2 b i
theorem ZipAt.kept {h h' : Heap} {z TI TO i1 i2 : Addr} (x : ZipAt h z TI TO i1 i2) (k : ∀ b ∈ [z, TI, TO], ∀ o, h.get? b = some o → h'.get? b = some o) : ZipAt h' z TI TO i1 i2 := by
  simp only [List.mem_cons, List.not_mem_nil, or_false, forall_eq_or_imp, forall_eq] at k
  obtain ⟨⟨v0, f, tl, ir⟩, src, p, q, own⟩ := x
  exact ⟨⟨v0, f, tl, k.1 _ ir⟩, k.2.1 _ src, p, q, k.2.2 _ own⟩
section
variable {P : Program} {w : World} {K : PySem.W.Frag} {elts : List Expr} {kk : Nat} {tpos : Pos} {t1 t2 : Bool} {a b e z TI TO i1 i2 : Addr}
theorem EzAt.cells {i : Nat} {h : Heap} (x : EzAt t1 t2 a b e z TI TO i1 i2 i h) : ∀ d ∈ [e, z, TI, TO, i1, i2], ∃ o, h.get? d = some o ∧ ∀ v, o.data ≠ .cell v := by
  obtain ⟨en, ⟨⟨_, _, _, ir⟩, src, _, _, own⟩, o1, o2⟩ := x
  intro d hd
  simp only [List.mem_cons, List.not_mem_nil, or_false] at hd
  rcases hd with rfl | rfl | rfl | rfl | rfl | rfl
  · exact en.obj.imp fun _ q => ⟨q.1, q.2.2⟩
  · exact ⟨_, ir, nofun⟩
  · exact ⟨_, src, nofun⟩
  · exact ⟨_, own, nofun⟩
  · exact itK_obj o1
  · exact itK_obj o2
theorem EzAt.stay {i : Nat} {h h' : Heap} (x : EzAt t1 t2 a b e z TI TO i1 i2 i h) (k : ∀ d ∈ [e, z, TI, TO, i1, i2], ∀ o, h.get? d = some o → h'.get? d = some o) : EzAt t1 t2 a b e z TI TO i1 i2 i h' :=
  ⟨x.1.kept (k e (by simp)), x.2.1.kept fun d m => k d (by simp only [List.mem_cons, List.not_mem_nil, or_false] at m ⊢; rcases m with m | m | m <;> simp [m]), itK_at x.2.2.1 (k i1 (by simp)), itK_at x.2.2.2 (k i2 (by simp))⟩
theorem ez_item (D : ZipSep2 z TI TO i1 i2 [i1, a] [i2, b]) (ap : Apart e [z, TI, TO, i1, i2]) (na : a ≠ i1) (nb : b ≠ i2) {X : Cx} {pins : List (Addr × Obj)} {s : Shared} {σ : L2.St} {H : Hp} {E : Value → Shared → Prop} {i : Nat} (hh : X.A.in1.handled = none)
    (inv : Inv X pins σ H s) (fresh : ∀ d ∈ [e, z, TI, TO, i1, i2], FpOk X pins H d) (now : EzAt t1 t2 a b e z TI TO i1 i2 i s.heap) (go : (ItEz X.K t1 t2 a b).go i H) :
    wpAny (model X.prog X.w) X.A (pyNext (.ref e)) (fun r s1 => ∃ u, r = some u ∧ wpAny (model X.prog X.w) X.A (letOwnedTupleGo (.Tuple elts kk tpos) (.ref e) u) (fun _ s2 => ∃ x H', Inv X pins σ H' s2 ∧ RelV x u ∧ (ItEz X.K t1 t2 a b).yld i H x H' ∧
      EzAt t1 t2 a b e z TI TO i1 i2 (i + 1) s2.heap ∧ ∀ d ∈ [e, z, TI, TO, i1, i2], H' d = none) E s1) E s := by
  have small : ∀ d ∈ [e, z, TI, TO, i1, i2], d < s.heap.objs.size := fun d m => (now.cells d m).elim fun o q => Heap.lt_size q.1
  have fresh2 : ∀ d ∈ [e, z, TI, TO, i1, i2], FpOk X pins H d ∧ d < s.heap.objs.size := fun d m => ⟨fresh d m, small d m⟩
  obtain ⟨en, za, o1, o2⟩ := now
  obtain ⟨xs, ys, x, y, qx, qy, ex, ey⟩ := go
  obtain ⟨us, ru, pu, _⟩ := seqK inv qx
  obtain ⟨vs, rv, pv, _⟩ := seqK inv qy
  obtain ⟨oe, he, ce, _⟩ := en.obj
  obtain ⟨_, _, _, zr⟩ := za.it
  have ne := fun c m => ap c m
  simp only [List.mem_cons, List.not_mem_nil, or_false, forall_eq_or_imp, forall_eq] at ne
  refine next_by ⟨oe, he, ce⟩ F.slot_enumerate_next F.entry_enumerate_next (F.args_enumerate_next_1 _)
    (enum_more (G := fun v h1 => v = .ref s.heap.objs.size ∧ ∃ u u', us.toArray[i]? = some u ∧ vs.toArray[i]? = some u' ∧ ZipAt h1 z TI TO i1 i2 ∧ ItK t1 h1 i1 a (i + 1) ∧ ItK t2 h1 i2 b (i + 1) ∧ IsTupOf2 h1 s.heap.objs.size u u' ∧ s.heap.objs.size < h1.objs.size ∧ Stays [z, TO, i1, i2] s.heap h1)
      en (fun {Q' E'} cont => nextOf_by (b := Builtin.«zip.__next__») ⟨_, zr, rfl⟩ F.slot_zip_next F.entry_zip_next (F.args_zip_next_1 _)
        (zip_more D (drawsK (prog := X.prog) (w := X.w) (A := X.A.in1.in1) hh i1 a na t1 us.toArray) (drawsK (prog := X.prog) (w := X.w) (A := X.A.in1.in1) hh i2 b nb t2 vs.toArray) za ⟨o1, pu⟩ ⟨o2, pv⟩ (lenT ru ex) (lenT rv ey)
          fun u u' h1 tk eu eu' za1 p1 p2 tup big st => cont _ h1 tk ⟨rfl, u, u', eu, eu', za1, p1.1, p2.1, tup, big, st⟩ fun o q => st e o (by simp [Ne.symm ne.1, Ne.symm ne.2.2.1, Ne.symm ne.2.2.2.1, Ne.symm ne.2.2.2.2]) q)) ?_)
  rintro _ h1 h' tk ⟨rfl, u, u', eu, eu', za1, p1, p2, tup1, big1, st1⟩ en' tup2 big2 st2
  refine ⟨_, rfl, enum_letgo en' fun h'' en'' sb => ?_⟩
  have st3 : Stays [e] h1 h'' := st2.trans (Stays.of sb (by simp))
  have tup3 : IsTupOf2 h'' h1.objs.size (.int i tk) (.ref s.heap.objs.size) := sb.extBut _ _ (Nat.ne_of_gt (Nat.lt_trans (small e (by simp)) big1)) tup2
  obtain ⟨J1, J2, J3⟩ := one_new (tk := tk) (us := [u, u']) (fp := [e, z, TI, TO, i1, i2]) (wr := [z, TO, i1, i2]) (h' := h1) inv fresh2 (by simp) st1 (Nat.le_refl _) (show h1.IsTuple _ _ from ⟨_, tup1, rfl, _, rfl⟩) (.cons (itemT ru ex eu) (.cons (itemT rv ey eu') .nil)) (show 2 ≤ sizeLine by decide)
  obtain ⟨L1, L2, L3⟩ := one_new (tk := tk + 1) (us := [.int i tk, .ref s.heap.objs.size]) (fp := [e, z, TI, TO, i1, i2]) (wr := [e]) (h' := h'') J1 (fun d m => ⟨⟨J3 d m, (fresh d m).2⟩, Nat.lt_trans (small d m) big1⟩) (by simp) st3 (Nat.le_refl _)
    (show h''.IsTuple _ _ from ⟨_, tup3, rfl, _, rfl⟩) (.cons (show RelV (.int (i : Nat)) (.int i tk) from ⟨_, rfl⟩) (.cons (show RelV (.ref s.heap.objs.size) (.ref s.heap.objs.size) from rfl) .nil)) (show 2 ≤ sizeLine by decide)
  have off : s.heap.objs.size ≠ h1.objs.size := Nat.ne_of_lt big1
  refine ⟨.ref h1.objs.size, _, L1, rfl, ⟨s.heap.objs.size, h1.objs.size, x, y, rfl, J2, ?_, off, rfl, fun l q => injK inv q qx ▸ ex, fun l q => injK inv q qy ▸ ey⟩, ⟨?_, za1.kept ?_, itK_at p1 fun o q => st3 _ o ?_ q, itK_at p2 fun o q => st3 _ o ?_ q⟩, L3⟩
  · have z2 : upd H s.heap.objs.size (.tup [x, y]) h1.objs.size = none := L2
    rwa [upd_ne off.symm] at z2
  · have en2 : EnumAt h'' e z ((i : Int) + 1) := en''
    rwa [← Int.natCast_succ] at en2
  · intro d m o q
    refine st3 d o ?_ q
    simp only [List.mem_cons, List.not_mem_nil, or_false] at m ⊢
    rcases m with rfl | rfl | rfl
    · exact ne.1
    · exact ne.2.1
    · exact ne.2.2.1
  · simpa using ne.2.2.2.1
  · simpa using ne.2.2.2.2
theorem turn_ez (D : ZipSep2 z TI TO i1 i2 [i1, a] [i2, b]) (ap : Apart e [z, TI, TO, i1, i2]) (na : a ≠ i1) (nb : b ≠ i2) : Turn P w K (.Tuple elts kk tpos) (ItEz K t1 t2 a b) [e, z, TI, TO, i1, i2] e (EzAt t1 t2 a b e z TI TO i1 i2) := by
  refine ⟨List.mem_cons_self, fun i h x => x.cells, fun i h h' x k => x.stay k, ?_, ?_, fun A i s Q E x q => enum_self x.1 q⟩
  · rintro X rfl rfl rfl calm i pins s σ H E inv fresh now go
    exact ez_item D ap na nb (show X.A.in1.handled = none from inv.ok.hd calm) inv fresh now go
  · rintro X rfl rfl rfl calm i pins s σ H E inv fresh ⟨en, za, o1, o2⟩ ⟨xs, ys, qx, qy, l1, l2, over⟩
    have hh : X.A.in1.handled = none := inv.ok.hd calm
    obtain ⟨us, ru, pu, _⟩ := seqK inv qx
    obtain ⟨vs, rv, pv, _⟩ := seqK inv qy
    obtain ⟨oe, he, ce, _⟩ := en.obj
    obtain ⟨_, _, _, zr⟩ := za.it
    have m1 : xs.length = us.toArray.size := by simp [ru.length]
    have m2 : ys.length = vs.toArray.size := by simp [rv.length]
    refine next_by ⟨oe, he, ce⟩ F.slot_enumerate_next F.entry_enumerate_next (F.args_enumerate_next_1 _) (enum_last en fun {Q'} => nextOf_by (b := Builtin.«zip.__next__») ⟨_, zr, rfl⟩ F.slot_zip_next F.entry_zip_next (F.args_zip_next_1 _)
      (zip_last D (drawsK (prog := X.prog) (w := X.w) (A := X.A.in1.in1) hh i1 a na t1 us.toArray) (drawsK (prog := X.prog) (w := X.w) (A := X.A.in1.in1) hh i2 b nb t2 vs.toArray) za ⟨o1, pu⟩ ⟨o2, pv⟩ (by omega) fun h' tk p st ⟨o, ho, hc⟩ => ⟨⟨p, o, rfl, ho, hc⟩, rfl, ?_⟩))
    exact inv.turnedL (t' := tk) (ch := [e, z, TI, TO, i1, i2]) (fun d o nd => st d o fun m => nd (by simp only [List.mem_cons, List.not_mem_nil, or_false] at m ⊢; rcases m with m | m | m | m <;> simp [m])) fresh
end
section
variable {X : Cx} {W : WX} {tg e e2 : Expr} {mas : MA} {p p2 pos pos2 tpos : Pos} {elts : List Expr} {kk : Nat}
theorem pi_ez {ta : TA} (hge : Gl X "enumerate") (hme : X.mg "enumerate" = none) (hg : Gl X "zip") (hm : X.mg "zip" = none) (ha : PA X [e, e2] ta) (hs : starEach (e :: [e2]) X.env = (false, eval e X.env) :: starEach [e2] X.env) (hpl : (backTo pos2 (starEach [e2] X.env)).any (·.1) = false)
    (na : starEach [.Call (.Name "zip" p2) [e, e2] [] pos2] X.env = (false, eval (.Call (.Name "zip" p2) [e, e2] [] pos2) X.env) :: starEach [] X.env) :
    PI X (.Tuple elts kk tpos) (.Call (.Name "enumerate" p) [.Call (.Name "zip" p2) [e, e2] [] pos2] [] pos) (fun σ H Rr => ta σ H fun vs H1 => ∃ a b t1 t2 xs ys, vs = [.ref a, .ref b] ∧ SqK X.K t1 H1 a xs ∧ SqK X.K t2 H1 b ys ∧ Rr (ItEz X.K t1 t2 a b) H1) where
  run pins s σ H Rr inv h := by
    refine Call_ (ld_blt inv hge hme boot_enumerate (callWith_type1 (args_cons (Call_ (ld_blt inv hg hm PyProof.Rows.boot_zip (callWith_type1 (thn (ha.run pos2 pins s σ H _ inv h) ?_) hs hpl))) na) na rfl))
    rintro us s1 ⟨_, H1, inv1, r, a, b, t1, t2, xs, ys, rfl, qx, qy, q⟩
    cases refs_of (as := [a, b]) r
    obtain ⟨ua, _, pa, la⟩ := seqK inv1 qx
    obtain ⟨ub, _, pb, lb⟩ := seqK inv1 qy
    refine zip_begins2 (beginsK a ua.toArray t1) (beginsK b ub.toArray t2) pa pb fun h' oz oI oO o1 o2 sz kept => args_nil ?_
    have iz : IterTo (.ref (s1.heap.objs.size + 4)) (.ref (s1.heap.objs.size + 4)) h' h' := fun prog w A E s' Q es q' => wpAny_pyIter_zip (s := s') (es ▸ oz) (by subst es; exact q')
    refine enum_call (s := { s1 with heap := h' }) iz ?_
    have up : ∀ {c o}, h'.get? c = some o → (h'.push (enumOb (.ref (s1.heap.objs.size + 4)))).get? c = some o := Heap.get?_push_of_some _
    have oe : IsEnum (h'.push (enumOb (.ref (s1.heap.objs.size + 4)))) h'.objs.size (s1.heap.objs.size + 4) 0 .none := Heap.get?_push_size _ rfl
    rw [sz] at oe ⊢
    have sep := zip_sep2 (N := s1.heap.objs.size) (fp1 := [a]) (fp2 := [b]) (by simpa using la) (by simpa using lb)
    refine wpAny_pyIter_enum oe ⟨_, _, _, _, H1, rfl, inv1.kept (t' := s1.toks) fun c o q => up (kept c o q), turn_ez sep (e := s1.heap.objs.size + 5) ?_ (Nat.ne_of_lt la) (Nat.ne_of_lt (Nat.lt_succ_of_lt lb)),
      ⟨⟨.none, false, .none, .inl rfl, oe⟩, ⟨⟨.none, false, .inl rfl, up oz⟩, up oI, _, _, up oO⟩, itK_new (up o1), itK_new (up o2)⟩, all_new inv1 (by simp [Nat.ble_eq]), q⟩
    intro c m z
    simp only [List.mem_cons, List.not_mem_nil, or_false] at m
    rcases m with rfl | rfl | rfl | rfl | rfl <;> (have zn : (_ : Nat) = (_ : Nat) := z; omega)
theorem src_ez {C0 : RC} {d e : MV} {xs ys : List MV} {a b : Addr} (hK : C0.K = X.K) (rv : RepV C0 d (.ref a)) (rv2 : RepV C0 e (.ref b)) : SrcW X (.ezp d xs e ys) (ItEz X.K (isT d) (isT e) a b) C0 := fun C S x r ok => by
  have ok' : seqOf S d = some xs ∧ seqOf S e = some ys := by simpa [Src.ok] using ok
  obtain ⟨a', vs, e1, sq, t⟩ := seqK_of r (rv.trn x) ok'.1
  obtain ⟨b', us, e2, sq2, t2⟩ := seqK_of r (rv2.trn x) ok'.2
  cases e1
  cases e2
  rw [x.K, hK] at sq sq2
  have l := t.length
  have l2 := t2.length
  have hl : (Src.ezp d xs e ys).items.length = min xs.length ys.length := by
    show (enmI 0 (zipI xs ys)).length = _
    rw [enmI_len, zipI_len]
  rw [hl]
  refine ⟨fun i hi => ⟨vs, us, vs[i]'(by omega), us[i]'(by omega), sq, sq2, by rw [List.getElem?_eq_getElem], by rw [List.getElem?_eq_getElem]⟩, ⟨vs, us, sq, sq2, by omega, by omega, by omega⟩, fun i z H' hi y => ?_⟩
  obtain ⟨T, U, x1, y1, rfl, hT, hU, hTU, rfl, f1, f2⟩ := y
  obtain ⟨d1, h1, h2⟩ := t.get' (f1 vs sq)
  obtain ⟨d2, h3, h4⟩ := t2.get' (f2 us sq2)
  have g1 : Grow C (C.put T (.tup [x1, y1])) := Grow.put hT
  have r1 := r.put (o := .tup [x1, y1]) hT
  have hU1 : (C.put T (.tup [x1, y1])).H U = none := by
    show upd C.H T _ U = none
    rw [upd_ne (Ne.symm hTU)]; exact hU
  have tT : RepV (C.put T (.tup [x1, y1])) (.tup [d1, d2]) (.ref T) := repTup put_same (.cons (h2.grow g1 r) (.cons (h4.grow g1 r) .nil))
  have hi0 := enmI_get (k := 0) (zipI_get h1 h3)
  rw [Nat.zero_add] at hi0
  exact ⟨(C.put T (.tup [x1, y1])).put U (.tup [.int (i : Nat), .ref T]), _, rfl, g1.trans (Grow.put hU1), r1.put hU1, hi0, repTup put_same (.cons (repI _) (.cons (tT.grow (Grow.put hU1) r1) .nil))⟩
def ezOf : List MV → Sto → R Src
  | [d, e], S => match seqOf S d, seqOf S e with
    | some xs, some ys => .ok (.ezp d xs e ys) S
    | _, _ => .stk
  | _, _ => .stk
def mEzip (m : MA) : Ev → Sto → R Src := fun ρ S => (m ρ S).bind ezOf
theorem si_ezip (hge : Gl X "enumerate") (hme : X.mg "enumerate" = none) (hg : Gl X "zip") (hm : X.mg "zip" = none) (ha : SA X W [e, e2] mas)
    (hs : starEach [e, e2] X.env = (false, eval e X.env) :: starEach [e2] X.env := by rfl) (hpl : (backTo pos2 (starEach [e2] X.env)).any (·.1) = false := by rfl)
    (na : starEach [.Call (.Name "zip" p2) [e, e2] [] pos2] X.env = (false, eval (.Call (.Name "zip" p2) [e, e2] [] pos2) X.env) :: starEach [] X.env := by rfl) :
    SI X W (.Tuple elts kk tpos) (.Call (.Name "enumerate" p) [.Call (.Name "zip" p2) [e, e2] [] pos2] [] pos) (mEzip mas) :=
  (pi_ez hge hme hg hm ha hs hpl na).imp fun σ H Q ⟨C, ρ, S, e, s, q⟩ => by
    subst e
    refine tA.bind s q fun ds S1 C1 vs s1 g1 r1 q1 => ?_
    unfold ezOf at q1
    split at q1
    · split at q1
      · rename_i e1 e2
        obtain ⟨v, u, rfl, rv, ru⟩ := two_of r1
        obtain ⟨a, vs, rfl, sq, t⟩ := seqK_of s1.rs rv e1
        obtain ⟨b, us, rfl, sq2, t2⟩ := seqK_of s1.rs ru e2
        rw [s1.K] at sq sq2
        exact ⟨a, b, _, _, vs, us, rfl, sq, sq2, q1.now s1.rs _ (src_ez s1.K rv ru)⟩
      · exact q1.elim
    · exact q1.elim
end
end Mi
set_option Elab.async false
set_option linter.all false
set_option maxRecDepth 100000
set_option maxHeartbeats 4000000
namespace Mi
open PySem PySem.Spec PyProof.Rows L2
theorem no_len : typeLookup (.type "enumerate") "__len__" = pure none := am_miss_of_fast (by decide +kernel)
theorem no_hint : typeLookup (.type "enumerate") "__length_hint__" = pure none := am_miss_of_fast (by decide +kernel)
abbrev listOb (vs : List Value) (c : Nat) : Obj := { cls := .type "list", data := .seq vs.toArray c }
section
variable {prog : Program} {w : World} {A : Around} {s : Shared} {E : Value → Shared → Prop} {I L : Addr}
/-- the turns of the filling: M at each turn, Z behind the last -/
theorem extend_by {R : Result → Shared → Prop} {n : Nat} {M : Nat → List Value → Shared → Prop} {Z : List Value → Shared → Prop} (hn : n ≤ sizeLine) (count : ∀ i vs s, M i vs s → vs.length = i)
    (more : ∀ i vs s (Q : Option Value → Shared → Prop) (E : Value → Shared → Prop), i < n → M i vs s → (∀ u s1 c, s1.heap.get? L = some (listOb vs c) → M (i + 1) (vs ++ [u]) { s1 with heap := s1.heap.update L (Obj.mapSeq (·.push u)) } → Q (some u) s1) → wpAny (model prog w) A.in1 (pyNext (.ref I)) Q E s)
    (last : ∀ vs s (Q : Option Value → Shared → Prop) (E : Value → Shared → Prop), M n vs s → (∀ s1, Z vs s1 → Q none s1) → wpAny (model prog w) A.in1 (pyNext (.ref I)) Q E s)
    (fin : ∀ vs s, Z vs s → R (.ok (.ret .none)) s) : ∀ k i vs s, i + k = n → M i vs s → codeAny (model prog w) A (.builtin "list.extend.loop" ⟨[.ref L, .ref I, .none], []⟩) R s
  | 0, i, vs, s, e, m => by
    obtain rfl : i = n := e
    exact codeAny_builtin F.entry_extend_loop (by
      rw [Around.under_plainId F.plain_extend_loop]
      exact wpAny_bind (last vs s _ _ m fun s1 z => wpAny_pure (fin vs s1 z)))
  | k + 1, i, vs, s, e, m => by
    have lt : i < n := by omega
    have len := count i vs s m
    apply codeAny_builtin F.entry_extend_loop
    rw [Around.under_plainId F.plain_extend_loop]
    refine wpAny_bind (more i vs s _ _ lt m fun u s1 c at1 m1 => ?_)
    refine wpAny_bind (wpAny_updateSeq at1 rfl (wpAny_pure ⟨plainId_quiet F.plain_extend_loop _, extend_by hn count more last fin k (i + 1) _ _ (by omega) m1⟩) ?_ ?_)
    · rw [List.size_toArray, len]; omega
    · simp only [Array.size_push, List.size_toArray, len]; omega
theorem put_items {f : Array Value → Array Value} {vs : Array Value} {c : Nat} {Q : Unit → Shared → Prop} (at0 : s.heap.get? L = some { cls := .type "list", data := .seq vs c }) (z : vs.size ≤ 1) (z' : (f vs).size ≤ 1)
    (k : ∀ h' c', h'.get? L = some { cls := .type "list", data := .seq (f vs) c' } → Heap.SameBut L s.heap h' → Q () { s with heap := h' }) : wpAny (model prog w) A (updateSeq L f) Q E s :=
  have one : 1 ≤ sizeLine := by decide
  wpAny_updateSeq at0 rfl (k _ _ (Heap.get?_update_self _ at0 rfl) (Heap.SameBut.update ..)) (Nat.le_trans z one) (Nat.le_trans z' (Nat.le_succ_of_le one))
theorem list_call {T : String} {Q : Value → Shared → Prop} (ty : s.TypeIs (.ref I) T) (nl : typeLookup (.type T) "__len__" = pure none) (nh : typeLookup (.type T) "__length_hint__" = pure none) (n1 : (Value.type T == Value.type "list") = false) (n2 : (Value.type T == Value.type "tuple") = false)
    (self : ∀ {A' : Around} {h' : Heap} {Q' E' : Value → Shared → Prop}, h'.get? I = s.heap.get? I → Q' (.ref I) { s with heap := h' } → wpAny (model prog w) A' (pyIter (.ref I)) Q' E' { s with heap := h' })
    (loop : ∀ h' c, h'.get? s.heap.objs.size = some (listOb [] c) → (∀ b o, s.heap.get? b = some o → h'.get? b = some o) →
      codeAny (model prog w) A.in1 (.builtin "list.extend.loop" ⟨[.ref s.heap.objs.size, .ref I, .none], []⟩) (wants (fun r s2 => r = .none ∧ Q (.ref s.heap.objs.size) s2) E) { s with heap := h' }) :
    wpAny (model prog w) A (call (.type "list") [Value.ref I]) Q E s := by
  obtain ⟨hp, gs, dr, tk, os⟩ := s
  refine callType_codes (Q₁ := fun o s1 => o = .ref hp.objs.size ∧ s1 = ⟨hp.push (listOb [] 0), gs, dr, tk, os⟩) F.called_list (F.typeCall_list_1 _) F.entry_list_init (code_list_new _ ⟨rfl, rfl⟩) ?_
  rintro _ _ ⟨rfl, rfl⟩
  have at0 : (hp.push (listOb [] 0)).get? hp.objs.size = some (listOb [] 0) := Heap.get?_push_size _ rfl
  refine ⟨⟨_, at0, rfl⟩, F.args_list_init_2 _ _, ?_⟩
  obtain ⟨oI, hI, cI⟩ := ty
  have ne : hp.objs.size ≠ I := Nat.ne_of_gt (Heap.lt_size hI)
  have up : ∀ {b o}, hp.get? b = some o → (hp.push (listOb [] 0)).get? b = some o := Heap.get?_push_of_some _
  refine wpAny_bind (wpAny_bind (wpAny_seqItems at0 rfl (wpAny_pure ?_)))
  refine wpAny_bind (put_items at0 (Nat.zero_le _) (Nat.zero_le _) fun h1 c1 at1 sb1 => wpAny_bind (wpAny_letGo ?_))
  have I1 : h1.get? I = hp.get? I := by rw [sb1.2 I ne.symm, hI]; exact up hI
  have t1 : (Shared.mk h1 gs dr tk os).TypeIs (.ref I) T := ⟨oI, I1.trans hI, cI⟩
  have s1 : Builtin.List.listSameRef (.ref hp.objs.size) (.ref I) = false := by simp [Builtin.List.listSameRef, ne]
  refine wpAny_bind (wpAny_typeOf t1 ?_)
  simp only [s1, n1, n2, Bool.or_self, Bool.false_eq_true, if_false]
  refine wpAny_bind (self I1 (wpAny_bind (wpAny_holding (wpAny_bind (wpAny_specialOf t1 nl ?_)))))
  refine wpAny_bind (wpAny_specialOf t1 nh (wpAny_pure ?_))
  refine wpAny_bind (wpAny_rule (wpAny_bind (wpAny_bind (put_items at1 (Nat.zero_le _) Nat.le.refl fun h2 c2 at2 sb2 => put_items at2 Nat.le.refl (Nat.zero_le _) fun h3 c3 at3 sb3 => ?_))))
  exact wpAny_pure ⟨plainId_quiet F.plain_extend_loop _, loop h3 c3 at3 fun b o q => by
    have nb : b ≠ hp.objs.size := Nat.ne_of_lt (Heap.lt_size q)
    exact sb3.extBut _ _ nb (sb2.extBut _ _ nb (sb1.extBut _ _ nb (up q)))⟩
end
end Mi
set_option Elab.async false
set_option linter.all false
set_option maxRecDepth 100000
set_option maxHeartbeats 4000000
namespace Mi
open PySem PySem.Spec PyProof.Rows L2
/-- what stands behind so many items -/
structure EnH (H0 : Hp) (xs : List V) (L : Addr) (i : Nat) (Ts : List Addr) (H : Hp) : Prop where
  keep : ∀ b o, H0 b = some o → H b = some o
  len : Ts.length = i
  at' : H L = some (.lst (Ts.map V.ref))
  tup : ∀ (j : Nat) (x : V) (T : Addr), xs[j]? = some x → Ts[j]? = some T → H T = some (.tup [.int (j : Nat), x])
theorem EnH.sq {H0 H : Hp} {xs ys : List V} {L a : Addr} {i : Nat} {Ts : List Addr} {K : PySem.W.Frag} (en : EnH H0 xs L i Ts H) : ∀ {t : Bool}, SqK K t H0 a ys → SqK K t H a ys
  | true, .inl (.inl q) => .inl (.inl (en.keep _ _ q))
  | true, .inl (.inr ⟨o, q⟩) => .inl (.inr ⟨o, en.keep _ _ q⟩)
  | true, .inr q => .inr q
  | false, .inl (.inl q) => .inl (.inl (en.keep _ _ q))
  | false, .inl (.inr ⟨o, q⟩) => .inl (.inr ⟨o, en.keep _ _ q⟩)
  | false, .inr q => .inr q
section
variable {X : Cx} {pins : List (Addr × Obj)} {σ : L2.St} {a e it L : Addr} {t : Bool} {xs : List V} {H0 : Hp}
/-- a turn of the filling -/
def EnTurn (X : Cx) (pins : List (Addr × Obj)) (σ : L2.St) (a e it L : Addr) (t : Bool) (xs : List V) (H0 : Hp) (i : Nat) (vs : List Value) (s : Shared) : Prop :=
  ∃ H Ts, vs = Ts.map Value.ref ∧ Inv X pins σ H s ∧ EnH H0 xs L i Ts H ∧ EnumAt s.heap e it (i : Nat) ∧ ItK t s.heap it a i ∧ ∀ b ∈ [e, it], FpOk X pins H b ∧ b < s.heap.objs.size
theorem en_more (hh : X.A.in1.handled = none) (na : a ≠ it) (ne : e ≠ it) (nea : e ≠ a) (neL : e ≠ L) (nL : it ≠ L) (hL0 : H0 L = none) (sq : SqK X.K t H0 a xs) (hz : xs.length ≤ sizeLine) {i : Nat} {vs : List Value} {s : Shared} {Q : Option Value → Shared → Prop} {E : Value → Shared → Prop} (lt : i < xs.length)
    (m : EnTurn X pins σ a e it L t xs H0 i vs s) (k : ∀ u s1 c, s1.heap.get? L = some (listOb vs c) → EnTurn X pins σ a e it L t xs H0 (i + 1) (vs ++ [u]) { s1 with heap := s1.heap.update L (Obj.mapSeq (·.push u)) } → Q (some u) s1) : wpAny (model X.prog X.w) X.A.in1.in1 (pyNext (.ref e)) Q E s := by
  obtain ⟨H, Ts, rfl, inv, en, ea, it1, fresh⟩ := m
  obtain ⟨us, ru, pu, _⟩ := seqK inv (en.sq sq)
  have hx : xs[i]? = some xs[i] := List.getElem?_eq_getElem lt
  obtain ⟨oe, he, ce, _⟩ := ea.obj
  refine next_by ⟨oe, he, ce⟩ F.slot_enumerate_next F.entry_enumerate_next (F.args_enumerate_next_1 _) (enum_more (G := fun v h1 => us.toArray[i]? = some v ∧ ItK t h1 it a (i + 1) ∧ Heap.SameBut it s.heap h1) ea
    (fun {Q' E'} cont => (drawsK (prog := X.prog) (w := X.w) (A := X.A.in1.in1.in1) hh it a na t us.toArray).item i s Q' E' (lenT ru hx) ⟨it1, pu⟩ fun u h1 tk hu st sb => cont u h1 tk ⟨hu, st.1, sb⟩ fun o q => sb.extBut _ _ ne q) ?_)
  rintro u h1 h' tk ⟨hu, it2, sb⟩ ea' tup big st2
  have far : Stays [e, it] s.heap h' := fun b o nb q => st2 b o (fun z => nb (by simp at z; simp [z])) (sb.extBut _ _ (fun z => nb (by simp [z])) q)
  obtain ⟨J1, J2, J3⟩ := one_new (tk := tk + 1) (us := [.int i tk, u]) (wr := [e, it]) (T := h1.objs.size) inv fresh (fun _ z => z) far (Nat.le_of_eq sb.1.symm) (show h'.IsTuple _ _ from ⟨_, tup, rfl, _, rfl⟩)
    (.cons (show RelV (.int (i : Nat)) (.int i tk) from ⟨_, rfl⟩) (.cons (itemT ru hx hu) .nil)) (show 2 ≤ sizeLine by decide)
  have LT : L ≠ h1.objs.size := fun z => by rw [← z, en.at'] at J2; cases J2
  have atL : upd H h1.objs.size (.tup [.int (i : Nat), xs[i]]) L = some (.lst (Ts.map V.ref)) := (upd_ne LT).trans en.at'
  obtain ⟨_, its, n, rL, getL⟩ := J1.hok L _ atL
  cases refs_of rL
  have full := Heap.get?_update_self (Obj.mapSeq (·.push (.ref h1.objs.size))) getL rfl
  have other : ∀ b o, b ≠ L → h'.get? b = some o → (h'.update L (Obj.mapSeq (·.push (.ref h1.objs.size)))).get? b = some o := fun b o nb q => (Heap.get?_update_other _ _ (Ne.symm nb)).trans q
  have lenTs : (Ts.map V.ref).length = i := (List.length_map ..).trans en.len
  have J4 := J1.write (t' := tk + 1) (x := L) (o := .lst (Ts.map V.ref ++ [.ref h1.objs.size])) (by rw [atL]; trivial) (.inl rfl) other ⟨_, full⟩
    ⟨by simp only [List.length_append, lenTs, List.length_singleton]; omega, Ts.map Value.ref ++ [.ref h1.objs.size], n + 1, rL.append (.cons (show RelV (.ref h1.objs.size) (.ref h1.objs.size) from rfl) .nil), by rw [full]; simp [Obj.mapSeq]⟩
  refine k _ ⟨h', s.gens, s.drawn, tk + 1, s.os⟩ n getL ⟨_, Ts ++ [h1.objs.size], by simp, J4, ⟨fun b o q => ?_, by simp [en.len], by rw [upd_same]; simp, fun j x T hj hT => ?_⟩, ?_, itK_at it2 fun o q => other it o nL (st2 it o (by simp [Ne.symm ne]) q), fun b hb => ?_⟩
  · have nbL : b ≠ L := fun z => by rw [z, hL0] at q; cases q
    have q2 := en.keep _ _ q
    rw [upd_ne nbL, upd_ne fun z => by rw [z, J2] at q2; cases q2]
    exact q2
  · rcases Nat.lt_or_ge j i with old | young
    · rw [List.getElem?_append_left (by rw [en.len]; exact old)] at hT
      have q2 := en.tup j x T hj hT
      rw [upd_ne (fun z => by rw [z, en.at'] at q2; cases q2), upd_ne (fun z => by rw [z, J2] at q2; cases q2)]
      exact q2
    · have jl := (List.getElem?_eq_some_iff.mp hT).1
      simp only [List.length_append, en.len, List.length_singleton] at jl
      obtain rfl : j = i := by omega
      rw [List.getElem?_append_right (by rw [en.len]; exact Nat.le.refl), en.len, Nat.sub_self] at hT
      cases hT
      cases hx.symm.trans hj
      rw [upd_ne (Ne.symm LT), upd_same]
  · have e2 : EnumAt h' e it ((i : Int) + 1) := ea'
    rw [← Int.natCast_succ] at e2
    exact e2.kept fun o q => other e o neL q
  · have nbL : b ≠ L := by
      rw [List.mem_cons, List.mem_singleton] at hb
      rcases hb with rfl | rfl <;> assumption
    obtain ⟨⟨_, f1⟩, f2⟩ := fresh b hb
    refine ⟨⟨(upd_ne nbL).trans (J3 b hb), f1⟩, ?_⟩
    obtain ⟨o, q⟩ : ∃ o, h'.get? b = some o := by
      rw [List.mem_cons, List.mem_singleton] at hb
      rcases hb with rfl | rfl
      · exact ea'.obj.imp fun _ z => z.1
      · obtain ⟨o, q, _⟩ := itK_obj it2
        exact ⟨o, st2 _ o (by simp [Ne.symm ne]) q⟩
    exact Heap.lt_size (other b o nbL q)
theorem en_last (hh : X.A.in1.handled = none) (na : a ≠ it) (sq : SqK X.K t H0 a xs) {vs : List Value} {s : Shared} {Q : Option Value → Shared → Prop} {E : Value → Shared → Prop} (m : EnTurn X pins σ a e it L t xs H0 xs.length vs s)
    (k : ∀ s1, (∃ H Ts, Inv X pins σ H s1 ∧ EnH H0 xs L xs.length Ts H) → Q none s1) : wpAny (model X.prog X.w) X.A.in1.in1 (pyNext (.ref e)) Q E s := by
  obtain ⟨H, Ts, rfl, inv, en, ea, it1, fresh⟩ := m
  obtain ⟨us, ru, pu, _⟩ := seqK inv (en.sq sq)
  obtain ⟨oe, he, ce, _⟩ := ea.obj
  have sz : us.toArray.size = xs.length := by simp [ru.length]
  refine next_by ⟨oe, he, ce⟩ F.slot_enumerate_next F.entry_enumerate_next (F.args_enumerate_next_1 _) (enum_last ea fun {Q'} => (drawsK (prog := X.prog) (w := X.w) (A := X.A.in1.in1.in1) hh it a na t us.toArray).done s Q' _ (by rw [sz]; exact ⟨it1, pu⟩) ?_)
  exact fun h' x eb ⟨o, ho, hc⟩ => ⟨⟨x, o, rfl, ho, hc⟩, k _ ⟨H, Ts, inv.turnedL (t' := s.toks) (ch := [e, it]) (fun b o nb q => eb b o (fun z => nb (by simp [z])) q) fun b hb => (fresh b hb).1, en⟩⟩
end
section
variable {X : Cx} {W : WX} {x : Expr} {p p2 pos pos2 : Pos} {mas : MA}
def tListE (X : Cx) (ta : TA) : TE := fun σ H Q => ta σ H fun vs H1 => ∃ a t xs, vs = [.ref a] ∧ SqK X.K t H1 a xs ∧ xs.length ≤ sizeLine ∧ ∀ L H2 Ts, H1 L = none → EnH H1 xs L xs.length Ts H2 → Q (.ref L) H2
theorem pe_listE {ta : TA} (hc : X.calm = true) (hg : Gl X "list") (hm : X.mg "list" = none) (hg2 : Gl X "enumerate") (hm2 : X.mg "enumerate" = none) (ha : PA X [x] ta) (hs : starEach (x :: []) X.env = (false, eval x X.env) :: starEach [] X.env)
    (he : starEach [.Call (.Name "enumerate" p2) [x] [] pos2] X.env = (false, eval (.Call (.Name "enumerate" p2) [x] [] pos2) X.env) :: starEach [] X.env) : PE X (.Call (.Name "list" p) [.Call (.Name "enumerate" p2) [x] [] pos2] [] pos) (tListE X ta) where
  run pins s σ H Q inv h := by
    refine Call_ (ld_blt inv hg hm bt_list (callWith_type1 (args_cons (Call_ (ld_blt inv hg2 hm2 boot_enumerate (callWith_type1 (thn (ha.run pos2 pins s σ H _ inv h) ?_) hs rfl))) he) he rfl))
    rintro us s1 ⟨_, H1, inv1, r, a, t, xs, rfl, sq, hz, q⟩
    cases refs_of (as := [a]) r
    obtain ⟨ua, _, pa, la⟩ := seqK inv1 sq
    refine enum_call (iterK pa) (args_nil ?_)
    have nf : (obK t a).isFreed = false := by cases t <;> rfl
    have sz : (s1.heap.push (obK t a)).objs.size = s1.heap.objs.size + 1 := Heap.size_push ..
    have oe : IsEnum ((s1.heap.push (obK t a)).push (enumOb (.ref s1.heap.objs.size))) (s1.heap.push (obK t a)).objs.size s1.heap.objs.size 0 .none := Heap.get?_push_size _ rfl
    have oi : ((s1.heap.push (obK t a)).push (enumOb (.ref s1.heap.objs.size))).get? s1.heap.objs.size = some (obK t a) := Heap.get?_push_of_some _ (Heap.get?_push_size _ nf)
    have old : ∀ b o, s1.heap.get? b = some o → ((s1.heap.push (obK t a)).push (enumOb (.ref s1.heap.objs.size))).get? b = some o := fun b o q => Heap.get?_push_of_some _ (Heap.get?_push_of_some _ q)
    have sz2 : ((s1.heap.push (obK t a)).push (enumOb (.ref s1.heap.objs.size))).objs.size = s1.heap.objs.size + 2 := by rw [Heap.size_push, sz]
    rw [sz] at oe ⊢
    generalize (s1.heap.push (obK t a)).push (enumOb (.ref s1.heap.objs.size)) = h2 at oe oi old sz2
    have ea : EnumAt h2 (s1.heap.objs.size + 1) s1.heap.objs.size ((0 : Nat) : Int) := ⟨.none, false, .none, .inl rfl, oe⟩
    refine list_call (s := { s1 with heap := h2 }) ⟨_, oe, rfl⟩ no_len no_hint (by decide) (by decide) (fun {A' h' Q' E'} same q => enum_self (s := { s1 with heap := h' }) (ea.kept fun o z => same.trans z) q) fun h' c atL kept => ?_
    have hLn : H1 h2.objs.size = none := inv1.hok.fresh (by omega)
    have nL : ∀ b, b ≤ s1.heap.objs.size + 1 → b ≠ h2.objs.size := fun b l z => by omega
    refine extend_by (n := xs.length) (M := EnTurn X pins σ a (s1.heap.objs.size + 1) s1.heap.objs.size h2.objs.size t xs H1) (Z := fun _ st => ∃ H Ts, Inv X pins σ H st ∧ EnH H1 xs h2.objs.size xs.length Ts H) hz ?_
      (fun i vs st Q' E' lt m k => en_more (inv1.ok.hd hc) (Nat.ne_of_lt la) (Nat.succ_ne_self _) (Nat.ne_of_gt (Nat.lt_succ_of_lt la)) (nL _ Nat.le.refl) (nL _ (Nat.le_succ _)) hLn sq hz lt m k) (fun vs st Q' E' m k => en_last (inv1.ok.hd hc) (Nat.ne_of_lt la) sq m fun s' z => k s' z)
      ?_ xs.length 0 [] _ (Nat.zero_add _) ⟨upd H1 h2.objs.size (.lst []), [], rfl, ?_, ?_, ea.kept fun o z => kept _ o z, itK_new (kept _ _ oi), ?_⟩
    · rintro i vs st ⟨_, Ts, rfl, _, en, _⟩
      rw [List.length_map]; exact en.len
    · rintro vs st ⟨H2, Ts, inv2, en⟩
      exact ⟨rfl, .ref h2.objs.size, H2, inv2, rfl, q _ H2 Ts hLn en⟩
    · exact inv1.laid (t' := s1.toks) (fun b o z => kept b o (old b o z)) (by omega) ⟨Nat.zero_le _, [], c, .nil, atL⟩
    · exact ⟨fun b o z => by rw [upd_ne fun y => by rw [y, hLn] at z; cases z]; exact z, rfl, upd_same, fun j y T _ hT => by simp at hT⟩
    · intro b hb
      have two : s1.heap.objs.size ≤ b ∧ b ≤ s1.heap.objs.size + 1 := by
        rw [List.mem_cons, List.mem_singleton] at hb
        rcases hb with rfl | rfl <;> (constructor <;> first | exact Nat.le.refl | exact Nat.le_succ _)
      obtain ⟨_, f1⟩ := inv1.fpOk two.1 (inv1.hok.fresh two.1)
      refine ⟨⟨(upd_ne (nL b two.2)).trans (inv1.hok.fresh two.1), f1⟩, ?_⟩
      have here : ∃ o, h'.get? b = some o := by
        rw [List.mem_cons, List.mem_singleton] at hb
        rcases hb with rfl | rfl
        · exact ⟨_, kept _ _ oe⟩
        · exact ⟨_, kept _ _ oi⟩
      exact here.elim fun o z => Heap.lt_size z
def lstE : List MV → Sto → R MV
  | [d], S => match seqOf S d with
    | some xs => if xs.length ≤ sizeLine then .ok (.lst (enmI 0 xs)) S else .stk
    | none => .stk
  | _, _ => .stk
theorem enm_rep {C : RC} {H : Hp} {K : PySem.W.Frag} (hK : C.K = K) : ∀ {ds : List MV} {vs : List V} (k : Nat) (Ts : List Addr), RepVs C ds vs → Ts.length = ds.length → (∀ (j : Nat) (x : V) (T : Addr), vs[j]? = some x → Ts[j]? = some T → C.H T = some (.tup [.int ((k + j : Nat) : Int), x])) → RepVs C (enmI k ds) (Ts.map V.ref)
  | [], vs, k, Ts, t, l, h => by
    cases Ts with
    | nil => exact .nil
    | cons T Ts => simp at l
  | d :: ds, vs, k, Ts, t, l, h => by
    obtain ⟨v, vr, rfl, h1, h2⟩ := t.cons_inv
    cases Ts with
    | nil => simp at l
    | cons T Ts =>
      rw [enmI]
      refine .cons (repTup (h 0 v T rfl rfl) (.cons (repI _) (.cons h1 .nil))) (enm_rep hK (H := H) (k + 1) Ts h2 (by simpa using l) fun j x T' e1 e2 => ?_)
      have := h (j + 1) x T' (by simpa using e1) (by simpa using e2)
      rw [show k + 1 + j = k + (j + 1) by omega]; exact this
theorem Grow.keepH {C : RC} {H' : Hp} (k : ∀ b o, C.H b = some o → H' b = some o) : Grow C { C with H := H' } :=
  ⟨rfl, rfl, fun _ h => .inl h, fun _ h => h, fun a u _ e => .inl (k a u e), fun a m => .inl m, rfl, Nat.le_refl _, Nat.le_refl _⟩
theorem RepS.keepH {C : RC} {S : Sto} {H' : Hp} (r : RepS C S) (k : ∀ b o, C.H b = some o → H' b = some o) : RepS { C with H := H' } S := by
  refine ⟨r.len, r.nd, fun a m => ⟨(r.bad a m).1, ?_⟩, fun n mo a e1 e2 => ?_⟩
  · cases e : C.H a with
    | none => exact absurd e (r.bad a m).2
    | some o => show H' a ≠ none; rw [k a o e]; simp
  · have ro := r.ob n mo a e1 e2
    refine ro.grow (Grow.keepH k) r ?_
    obtain ⟨u, hu, _⟩ := ro.kind
    rw [hu]; exact k a u hu
theorem se_listE (hc : X.calm = true) (hg : Gl X "list") (hm : X.mg "list" = none) (hg2 : Gl X "enumerate") (hm2 : X.mg "enumerate" = none) (ha : SA X W [x] mas) (hs : starEach (x :: []) X.env = (false, eval x X.env) :: starEach [] X.env := by rfl)
    (he : starEach [.Call (.Name "enumerate" p2) [x] [] pos2] X.env = (false, eval (.Call (.Name "enumerate" p2) [x] [] pos2) X.env) :: starEach [] X.env := by rfl) :
    SE X W (.Call (.Name "list" p) [.Call (.Name "enumerate" p2) [x] [] pos2] [] pos) (mCallF (lstE) mas) :=
  (pe_listE hc hg hm hg2 hm2 ha hs he).imp fun σ H Q ⟨C, ρ, S, e, s, q⟩ => by
    subst e
    refine tA.bind s q fun ds S1 C1 vs s1 g1 r1 q1 => ?_
    unfold lstE at q1
    split at q1
    · split at q1
      · rename_i xs e1
        split at q1
        · rename_i hsz
          obtain ⟨v, rfl, rv⟩ := one_of r1
          obtain ⟨a, vs, rfl, sq, t⟩ := seqK_of s1.rs rv e1
          rw [s1.K] at sq
          have hl := t.length
          refine ⟨a, _, vs, rfl, sq, by omega, fun L H2 Ts hL en => ?_⟩
          have hLn := s1.rs.notin hL
          have hLb : L ∉ C1.bad := fun m => (s1.rs.bad L m).2 hL
          have t2 : RepVs { C1 with H := H2 } (enmI 0 xs) (Ts.map V.ref) := by
            refine enm_rep (C := { C1 with H := H2 }) (K := X.K) (H := H2) s1.K 0 Ts (t.grow (Grow.keepH en.keep) s1.rs) (by rw [en.len]; omega) fun j x T e1 e2 => ?_
            rw [Nat.zero_add]
            exact en.tup j x T e1 e2
          exact q1 _ (Grow.keepH en.keep) (s1.rs.keepH en.keep) (.ref L) (repLst ⟨hLn, hLb⟩ en.at' t2)
        · exact q1.elim
      · exact q1.elim
    · exact q1.elim
end
end Mi
set_option Elab.async false
set_option linter.all false
set_option maxRecDepth 100000
set_option maxHeartbeats 4000000
namespace Mi
open PySem PySem.Spec PyProof.Rows L2
def truW (d : MV) (S : Sto) : R Bool := match d with
  | .bl b => .ok b S
  | .non => .ok false S
  | .int i => .ok (i != 0) S
  | .str x => if x.length ≤ sizeLine then .ok ((x.length : Int) != 0) S else .stk
  | d => (match seqOf S d with
    | some xs => .ok (!xs.isEmpty) S
    | none => (match d with
      | .ref n => (match S[n]? with
        | some (.dct ks _) => .ok (!ks.isEmpty) S
        | _ => .stk)
      | _ => .stk))
def mTruth (a : ME) : MT := fun ρ S => (a ρ S).bind truW
theorem isE_of {C : RC} {xs : List MV} {vs : List V} (t : RepVs C xs vs) : (!xs.isEmpty) = !vs.isEmpty := by
  cases xs with
  | nil => rw [t.nil_inv]; rfl
  | cons d ds => obtain ⟨v, vr, rfl, _, _⟩ := t.cons_inv; rfl
theorem truW_rep {C : RC} {S S' : Sto} {d : MV} {v : V} {b : Bool} (r : RepS C S) (h : RepV C d v) (e : truW d S = .ok b S') : TruV C.K v C.H b ∧ S' = S := by
  have seqs : ∀ d xs, RepV C d v → seqOf S d = some xs → TruV C.K v C.H (!xs.isEmpty) := fun d xs h e => by
    obtain ⟨a, vs, rfl, sq, t⟩ := seqOf_rep r h e
    rcases sq with sq | sq
    · exact .inl ⟨vs, sq, isE_of t⟩
    · exact .inr (.inl ⟨vs, sq, isE_of t⟩)
  have rest : ∀ d : MV, RepV C d v → (match seqOf S d with
    | some xs => R.ok (!xs.isEmpty) S
    | none => (match d with
      | .ref n => (match S[n]? with
        | some (.dct ks _) => R.ok (!ks.isEmpty) S
        | _ => R.stk)
      | _ => R.stk)) = .ok b S' → TruV C.K v C.H b ∧ S' = S := fun d h e => by
    cases q : seqOf S d with
    | some xs => rw [q] at e; cases e; exact ⟨seqs d xs h q, rfl⟩
    | none =>
      rw [q] at e
      cases d with
      | ref n =>
        dsimp only at e
        cases q2 : S[n]? with
        | none => rw [q2] at e; cases e
        | some o =>
          rw [q2] at e
          cases o with
          | dct ks ds =>
            cases e
            rw [RepV] at h
            obtain ⟨a, e1, e2⟩ := h
            obtain ⟨vs, h1, l, nd, h2⟩ := r.ob n _ a q2 e2
            subst e1
            refine ⟨.inr (.inr ⟨_, h1, ?_⟩), rfl⟩
            cases ks with
            | nil => rfl
            | cons k ks => cases vs with
              | nil => simp at l
              | cons v vs => rfl
          | _ => cases e
      | _ => cases e
  cases d with
  | bl x => cases e; rw [RepV] at h; subst h; exact ⟨rfl, rfl⟩
  | non => cases e; rw [RepV] at h; subst h; exact ⟨rfl, rfl⟩
  | int i => cases e; rw [RepV] at h; subst h; exact ⟨rfl, rfl⟩
  | str x =>
    rw [RepV] at h; subst h
    unfold truW at e
    dsimp only at e
    split at e
    · rename_i hl; cases e; exact ⟨⟨hl, rfl⟩, rfl⟩
    · cases e
  | tup xs => exact rest _ h e
  | lst xs => exact rest _ h e
  | dct ks xs => exact rest _ h e
  | dcT ks xs => exact rest _ h e
  | obj c f xs => exact rest _ h e
  | ref n => exact rest _ h e
  | kls xs => exact rest _ h e
theorem truW_noexc {d : MV} {S : Sto} {c : Str} {x : MV} {S' : Sto} : truW d S ≠ .exc c x S' := by
  intro h
  unfold truW at h
  split at h <;> (first | (cases h; done) | skip)
  · split at h <;> cases h
  · split at h
    · cases h
    · split at h
      · split at h <;> cases h
      · cases h
section
variable {X : Cx} {W : WX} {e : Expr} {ma : ME}
theorem st_truth (h : SE X W e ma) (he : ∀ whole, isTrue e X.env whole = (do let v ← whole; standAt e.pos; holding [v] (truthy v)) := by intro _; rfl) : ST X W e (mTruth ma) :=
  (pt_truth h he).imp fun σ H Q ⟨C, ρ, S, e, s, q⟩ => by
    subst e
    refine tE.bind s q fun d S1 C1 v s1 g1 r1 q1 => ?_
    cases e1 : truW d S1 with
    | ok b S2 =>
      rw [e1] at q1
      obtain ⟨t, rfl⟩ := truW_rep s1.rs r1 e1
      rw [s1.K] at t
      exact ⟨b, t, q1.now s1.rs⟩
    | exc c x S2 => exact absurd e1 truW_noexc
    | stk => rw [e1] at q1; exact q1.elim
end
end Mi
set_option Elab.async false
set_option linter.all false
set_option maxRecDepth 100000
set_option maxHeartbeats 4000000
namespace Mi
open PySem PySem.Spec PyProof.Rows L2
theorem Tr.wrG {C : RC} {S : Sto} {D : Addr} {u o : HO} (r : RepS C S) (hb : D ∈ C.bad) (h : C.H D = some u) (h1 : ∀ xs, u ≠ .tup xs) (h2 : ∀ ob x, u ≠ .frz ob x) : Tr C.ι.length C (C.put D o) where
  w := rfl
  K := rfl
  seqT := fun a ws q => by
    rcases q with (q | ⟨o', q⟩) | q
    · exact .inl (.inl (by show upd C.H D o a = _; rw [upd_ne (fun z => by subst z; rw [h] at q; exact h1 _ (Option.some.inj q))]; exact q))
    · exact .inl (.inr ⟨o', by show upd C.H D o a = _; rw [upd_ne (fun z => by subst z; rw [h] at q; exact h2 _ _ (Option.some.inj q))]; exact q⟩)
    · exact .inr q
  froz := fun a u n q => ⟨n, .inl (by show upd C.H D o a = _; rw [upd_ne (fun z => n.2 (by rw [z]; exact hb))]; exact q)⟩
  frz := fun a o' u' q => by show upd C.H D o a = _; rw [upd_ne (fun z => by subst z; rw [h] at q; exact h2 _ _ (Option.some.inj q))]; exact q
  ref := fun n a _ q => q
theorem RepS.wrG {C : RC} {S : Sto} {D : Addr} {u o : HO} (r : RepS C S) (hb : D ∈ C.bad) (h : C.H D = some u) (h1 : ∀ xs, u ≠ .tup xs) (h2 : ∀ ob x, u ≠ .frz ob x) : RepS (C.put D o) S := by
  refine ⟨r.len, r.nd, fun a m => ⟨(r.bad a m).1, ?_⟩, fun n mo a e1 e2 => ?_⟩
  · show upd C.H D o a ≠ none
    by_cases q : a = D
    · subst q; rw [upd_same]; simp
    · rw [upd_ne q]; exact (r.bad a m).2
  · refine (r.ob n mo a e1 e2).trn (Tr.wrG r hb h h1 h2) ?_
    show upd C.H D o a = C.H a
    exact upd_ne fun z => (r.bad D hb).1 (by rw [← z]; exact List.mem_of_getElem? e2)
def RC.fillO (C : RC) (D : Addr) (o : HO) : RC := { C.put D o with bad := D :: C.bad }
theorem Grow.fillO {C : RC} {D : Addr} {o : HO} (h : C.H D = none) : Grow C (C.fillO D o) where
  w := rfl
  K := rfl
  bad := fun a m => by
    rcases List.mem_cons.mp (show a ∈ D :: C.bad from m) with z | z
    · subst z; exact .inr (.inr h)
    · exact .inl z
  bad' := fun a m => List.mem_cons_of_mem _ m
  kp := fun a o na e => .inl (by show upd C.H D _ a = _; rw [upd_ne (ne_of_none e h)]; exact e)
  new := fun a m => .inl m
  pre := rfl
  le := Nat.le_refl _
  le' := Nat.le_refl _
theorem RepS.fillO {C : RC} {S : Sto} {D : Addr} {o : HO} (r : RepS C S) (h : C.H D = none) : RepS (C.fillO D o) S := by
  refine ⟨r.len, r.nd, fun a m => ?_, fun n mo a e1 e2 => ?_⟩
  · rcases List.mem_cons.mp (show a ∈ D :: C.bad from m) with z | z
    · subst z; exact ⟨r.notin h, by show upd C.H a _ a ≠ none; rw [upd_same]; simp⟩
    · refine ⟨(r.bad a z).1, ?_⟩
      show upd C.H D _ a ≠ none
      rw [upd_ne (fun q => (r.bad a z).2 (by rw [q]; exact h))]
      exact (r.bad a z).2
  · refine (r.ob n mo a e1 e2).trn ((Grow.fillO h).tr r) ?_
    show upd C.H D _ a = C.H a
    exact upd_ne fun z => r.notin h (by rw [← z]; exact List.mem_of_getElem? e2)
theorem adopt_ok {C0 C : RC} {S0 S : Sto} {D : Addr} {mo : MO} (r0 : RepS C0 S0) (hD : C0.H D = none) (g : Grow C0 (C.rb C0)) (hb : ∀ a ∈ C0.bad, a ∈ C.bad) (rs : RepS C S) (hbD : D ∈ C.bad)
    (hmo : ∀ C', Tr C.ι.length C C' → C'.H D = C.H D → RepO C' D mo) : Grow C0 ((C.rb C0).adopt D) ∧ RepS ((C.rb C0).adopt D) (S ++ [mo]) ∧ RepV ((C.rb C0).adopt D) (.ref S.length) (.ref D) := by
  have nD : D ∉ C.ι := (rs.bad D hbD).1
  have nb : D ∉ C0.bad := fun m => (r0.bad D m).2 hD
  have tr : Tr C.ι.length C ((C.rb C0).adopt D) := by
    refine ⟨rfl, rfl, fun _ _ q => q, fun a u n q => ⟨⟨fun m => ?_, fun m => n.2 (hb a m)⟩, .inl q⟩, fun _ _ _ q => q, fun n a hn q => ?_⟩
    · rcases List.mem_append.mp (show a ∈ C.ι ++ [D] from m) with m | m
      · exact n.1 m
      · have e : a = D := by simpa using m
        exact n.2 (by rw [e]; exact hbD)
    · show (C.ι ++ [D])[n]? = some a
      rw [List.getElem?_append_left (by exact hn)]; exact q
  refine ⟨⟨g.w, g.K, fun a m => .inl m, fun a m => m, g.kp, fun a m => ?_, ?_, g.le, ?_⟩, ⟨by show (C.ι ++ [D]).length = _; simp [rs.len], ?_, fun a m => ⟨fun m2 => ?_, (rs.bad a (hb a m)).2⟩, fun n mo' a e1 e2 => ?_⟩, ?_⟩
  · rcases List.mem_append.mp (show a ∈ C.ι ++ [D] from m) with m | m
    · exact g.new a m
    · have e : a = D := by simpa using m
      exact .inr (by rw [e]; exact hD)
  · show (C.ι ++ [D]).take C0.ι.length = _
    rw [List.take_append_of_le_length (show C0.ι.length ≤ C.ι.length from g.le')]; exact g.pre
  · show C0.ι.length ≤ (C.ι ++ [D]).length
    rw [List.length_append]
    exact Nat.le_trans g.le' (Nat.le_add_right _ _)
  · show (C.ι ++ [D]).Nodup
    rw [List.nodup_append]
    refine ⟨rs.nd, by simp, fun a ha b hb => ?_⟩
    have e : b = D := by simpa using hb
    subst e
    intro e; subst e
    exact nD ha
  · rcases List.mem_append.mp (show a ∈ C.ι ++ [D] from m2) with m2 | m2
    · exact (rs.bad a (hb a m)).1 m2
    · have e : a = D := by simpa using m2
      subst e; exact nb m
  · have e2 : (C.ι ++ [D])[n]? = some a := e2
    by_cases hn : n < S.length
    · rw [List.getElem?_append_left hn] at e1
      rw [List.getElem?_append_left (by rw [rs.len]; exact hn)] at e2
      exact (rs.ob n mo' a e1 e2).trn tr rfl
    · rw [List.getElem?_append_right (by omega)] at e1
      rw [List.getElem?_append_right (by rw [rs.len]; omega), rs.len] at e2
      cases hz : n - S.length with
      | zero =>
        rw [hz] at e1 e2
        simp at e1 e2
        subst e1; subst e2
        exact hmo _ tr rfl
      | succ k => rw [hz] at e1; simp at e1
  · rw [RepV]
    exact ⟨D, rfl, by show (C.ι ++ [D])[S.length]? = some D; rw [← rs.len]; simp⟩
def mkD (fr : Bool) (ks : List Key) (ds : List MV) (S : Sto) : R MV := if fr then .ok (.dct ks ds) S else .ok (.ref S.length) (S ++ [.dct ks ds])
theorem repDct {C : RC} {p : Addr} {ks : List Key} {ds : List MV} {vs : List V} (n : Froz C p) (h : C.H p = some (.dK (ks.zip vs))) (l : ks.length = vs.length) (nd : ks.Nodup) (t : RepVs C ds vs) : RepV C (.dct ks ds) (.ref p) := by
  rw [RepV]; exact ⟨p, vs, rfl, n, .inl h, l, nd, t⟩
/-- the filled dict, told -/
theorem dict_end {W : WX} {σ : L2.St} {C0 C : RC} {S0 S : Sto} {D : Addr} {Q : VK} {fr : Bool} {ks : List Key} {ds : List MV} {vs : List V} (r0 : RepS C0 S0) (hD : C0.H D = none) (g : Grow C0 (C.rb C0)) (hb : ∀ a ∈ C0.bad, a ∈ C.bad) (rs : RepS C S) (hbD : D ∈ C.bad)
    (hv : C.H D = some (.dK (ks.zip vs))) (l : ks.length = vs.length) (nd : ks.Nodup) (rv : RepVs C ds vs) (h : Wants W σ C0 (mkD fr ks ds S) (fun d _ C' => ∀ v, RepV C' d v → Q v C'.H)) : Q (.ref D) C.H := by
  have nD : D ∉ C.ι := (rs.bad D hbD).1
  have nb : D ∉ C0.bad := fun m => (r0.bad D m).2 hD
  cases fr with
  | true =>
    have h : Wants W σ C0 (.ok (.dct ks ds) S) (fun d _ C' => ∀ v, RepV C' d v → Q v C'.H) := h
    exact h (C.rb C0) g (rs.rb hb) (.ref D) (repDct ⟨nD, nb⟩ hv l nd (rv.trn (Tr.rb (C0 := C0) hb)))
  | false =>
    have h : Wants W σ C0 (.ok (.ref S.length) (S ++ [.dct ks ds])) (fun d _ C' => ∀ v, RepV C' d v → Q v C'.H) := h
    obtain ⟨g2, rs2, rv2⟩ := adopt_ok (mo := .dct ks ds) r0 hD g hb rs hbD fun C' tr e => ⟨vs, by rw [e]; exact hv, l, nd, rv.trn tr⟩
    exact h _ g2 rs2 _ rv2
section
variable {X : Cx} {W : WX} {k v : Expr} {keys : List (Option Expr)} {values : List Expr} {ks : List Key} {mas : MA} {ma : ME} {pos : Pos}
def mDct (fr : Bool) (ks : List Key) (m : MA) : ME := fun ρ S => (m ρ S).bind fun ds S1 => mkD fr ks ds S1
/-- {} -/
theorem se_dnew {fr : Bool} : SE X W (.Dict [] [] pos) (fun _ S => mkD fr [] [] S) :=
  pe_dnewK.imp fun σ H Q ⟨C, ρ, S, e, s, q⟩ p hp => by
    subst e
    exact dict_end (C := C.fillO p (.dK [])) (fr := fr) (ks := []) (ds := []) (vs := []) s.rs hp (rb_step (Grow.refl (C := C)) (fun _ m => m) (Grow.fillO hp)) (fun a m => List.mem_cons_of_mem _ m) (s.rs.fillO hp) List.mem_cons_self upd_same rfl List.nodup_nil .nil q
end
end Mi
set_option Elab.async false
set_option linter.all false
set_option maxRecDepth 100000
set_option maxHeartbeats 4000000
namespace Mi
open PySem PySem.Spec PyProof.Rows L2
def dcGo (ok : Sto → Bool) (g : Tg) (tt : MT) (tk tv : ME) (ρ : Ev) : List MV → List Key → List MV → Sto → R (List Key × List MV)
  | [], ks, ds, S => if ok S then .ok (ks, ds) S else .stk
  | x :: xs, ks, ds, S => if ok S then (match g.f x ρ with
    | some ρ1 => (tt ρ1 S).calm.bind fun b S1 => if b then (tk ρ1 S1).calm.bind fun kd S2 => (match keyV kd with
        | some k => (tv ρ1 S2).calm.bind fun y S3 => dcGo ok g tt tk tv ρ xs (dput ks ds k y).1 (dput ks ds k y).2 S3
        | none => .stk) else dcGo ok g tt tk tv ρ xs ks ds S1
    | none => .stk) else .stk
def mDc (fr : Bool) (vs : List Nat) (mi : Ev → Sto → R Src) (g : Tg) (tt : MT) (tk tv : ME) : ME := fun ρ S => (mi ρ S).bind fun src S1 =>
  if src.items.length ≤ sizeLine then (dcGo (fun S => src.ok S) g tt tk tv (wipeE ρ vs) src.items [] [] S1).bind fun p S2 => mkD fr p.1 p.2 S2 else .stk
/-- what is wanted of the filled dict -/
def DW (D : Addr) (Q : VK) (C0 : RC) : R (List Key × List MV) → Prop
  | .ok p S => ∀ C, Grow C0 (C.rb C0) → (∀ a ∈ C0.bad, a ∈ C.bad) → RepS C S → D ∈ C.bad → ∀ vs, C.H D = some (.dK (p.1.zip vs)) → p.1.length = vs.length → p.1.Nodup → RepVs C p.2 vs → Q (.ref D) C.H
  | _ => False
theorem dcGo_noexc {ok : Sto → Bool} {g : Tg} {tt : MT} {tk tv : ME} {ρ : Ev} : ∀ (xs : List MV) (ks : List Key) (acc : List MV) (S : Sto) (c : Str) (d : MV) (S' : Sto), dcGo ok g tt tk tv ρ xs ks acc S ≠ .exc c d S'
  | [], ks, acc, S, c, d, S', h => by
    unfold dcGo at h
    split at h <;> cases h
  | x :: xs, ks, acc, S, c, d, S', h => by
    unfold dcGo at h
    split at h
    · split at h
      · rename_i ρ1 e1
        cases e : tt ρ1 S with
        | ok b S1 =>
          rw [e] at h
          simp only [R.calm_ok, R.bind_ok] at h
          split at h
          · cases e2 : tk ρ1 S1 with
            | ok y S2 =>
              rw [e2] at h
              simp only [R.calm_ok, R.bind_ok] at h
              split at h
              · cases e3 : tv ρ1 S2 with
                | ok z S3 =>
                  rw [e3] at h
                  simp only [R.calm_ok, R.bind_ok] at h
                  exact dcGo_noexc xs _ _ S3 c d S' h
                | exc c' d' S2 => rw [e3] at h; cases h
                | stk => rw [e3] at h; cases h
              · cases h
            | exc c' d' S2 => rw [e2] at h; cases h
            | stk => rw [e2] at h; cases h
          · exact dcGo_noexc xs _ _ S1 c d S' h
        | exc c' d' S1 => rw [e] at h; cases h
        | stk => rw [e] at h; cases h
      · cases h
    · cases h
theorem dw_end {W : WX} {σ : L2.St} {C0 : RC} {D : Addr} {Q : VK} {fr : Bool} {S0 : Sto} {r : R (List Key × List MV)} (r0 : RepS C0 S0) (hD : C0.H D = none) (hr : ∀ c d S, r ≠ .exc c d S) (h : Wants W σ C0 (r.bind fun p S2 => mkD fr p.1 p.2 S2) (fun d _ C' => ∀ v, RepV C' d v → Q v C'.H)) : DW D Q C0 r := by
  cases r with
  | exc c d S => exact absurd rfl (hr c d S)
  | stk => exact h
  | ok p S => exact fun C g hb rs hbD vs hv l nd rv => dict_end r0 hD g hb rs hbD hv l nd rv h
section
variable {X : Cx} {W : WX} {tg iter kx vx : Expr} {ifs : List Expr} {scope : Scope} {own : List (Str × Nat)} {mi : Ev → Sto → R Src} {g : Tg} {tt : MT} {tk tv : ME} {pos : Pos} {fr : Bool}
theorem dc_imp {σ : L2.St} {H : Hp} {Q : VK} {vs : List Nat} (hix : ∀ i ∈ g.ix, i ∈ vs) (h : tE X W (mDc fr vs mi g tt tk tv) σ H Q) : tDc (tI X W mi) (tG X g) (tT X WNo tt) (tE X WNo tk) (tE X WNo tv) vs σ H Q := by
  obtain ⟨C, ρ, S, e, s, q⟩ := h
  subst e
  refine ⟨C, ρ, S, rfl, s, (Wants.bind q).mono fun src S1 C0 g0 r0 _ q0 J sw D hD => ?_⟩
  have q0 := q0.1
  split at q0
  case isFalse => exact q0.elim
  rename_i hsz
  have lw : DW D Q C0 (dcGo (fun S => src.ok S) g tt tk tv (wipeE ρ vs) src.items [] [] S1) := dw_end r0 hD (dcGo_noexc _ _ _ _) q0
  have s0 : Sv X ρ σ S1 C0 := s.grow g0 r0
  refine ⟨fun i m H' => m = src.items.length - i ∧ i ≤ src.items.length ∧ ∃ C' S' ks acc accv, C'.H = H' ∧ Tr C0.ι.length C0 C' ∧ Grow C0 (C'.rb C0) ∧ (∀ a ∈ C0.bad, a ∈ C'.bad) ∧ RepS C' S' ∧ D ∈ C'.bad ∧ C'.H D = some (.dK (ks.zip accv)) ∧ ks.length = accv.length ∧ ks.Nodup ∧ RepVs C' acc accv ∧ ks.length ≤ i ∧
      DW D Q C0 (dcGo (fun S => src.ok S) g tt tk tv (wipeE ρ vs) (src.items.drop i) ks acc S'), ⟨src.items.length, by simp, Nat.zero_le _, C0.fillO D (.dK []), S1, [], [], [], rfl, (Grow.fillO hD).tr r0, ?_, fun a m => List.mem_cons_of_mem _ m, r0.fillO hD, List.mem_cons_self, (show (C0.fillO D (HO.dK [])).H D = some (.dK (([] : List Key).zip ([] : List V))) from upd_same), rfl, List.nodup_nil, .nil, Nat.le_refl _, lw⟩, ?_⟩
  · exact rb_wr Grow.refl hD
  rintro i m H' ⟨rfl, hi, C1, S', ks, acc, accv, rfl, tr, gr, hb, rs, hbD, hv, hkl, hnd, rv, hl, w⟩
  by_cases hlt : i < src.items.length
  · have ed : src.items.drop i = src.items[i] :: src.items.drop (i + 1) := List.drop_eq_getElem_cons hlt
    rw [ed, dcGo] at w
    by_cases hok : src.ok S' = true
    · rw [if_pos hok] at w
      obtain ⟨k1, k2, k3⟩ := sw C1 S' tr rs hok
      refine .inr ⟨k1 i hlt, fun H'' => (fun i m H' => m = src.items.length - i ∧ i ≤ src.items.length ∧ ∃ C' S' ks acc accv, C'.H = H' ∧ Tr C0.ι.length C0 C' ∧ Grow C0 (C'.rb C0) ∧ (∀ a ∈ C0.bad, a ∈ C'.bad) ∧ RepS C' S' ∧ D ∈ C'.bad ∧ C'.H D = some (.dK (ks.zip accv)) ∧ ks.length = accv.length ∧ ks.Nodup ∧ RepVs C' acc accv ∧ ks.length ≤ i ∧
        DW D Q C0 (dcGo (fun S => src.ok S) g tt tk tv (wipeE ρ vs) (src.items.drop i) ks acc S')) (i + 1) (src.items.length - (i + 1)) H'', fun H'' h => ⟨_, by omega, h⟩, fun x H'' y => ?_⟩
      obtain ⟨C2, d, rfl, g2, r2, e2, rd⟩ := k3 i x H'' hlt y
      rw [List.getElem?_eq_getElem hlt] at e2
      have e3 : src.items[i] = d := Option.some.inj e2
      have g01 : C0.ι.length ≤ C1.ι.length := gr.le'
      have tr2 : Tr C0.ι.length C0 C2 := tr.trans (g2.tr rs) g01
      have ew : EnvR C2 (wipeE ρ vs) (wipe σ vs) := (env_wipe s0.ev s0.ln vs).trn tr2
      have sv2 : Sv X (wipeE ρ vs) (wipe σ vs) S' C2 := ⟨tr2.w.trans s0.w, tr2.K.trans s0.K, r2, ew, by rw [wipeE_len, wipe_length]; exact s0.ln⟩
      have hvn : ∀ {Ca Cb : RC} {Sa : Sto} {us : List (Key × V)}, Grow Ca Cb → RepS Ca Sa → D ∈ Ca.bad → Ca.H D = some (.dK us) → Cb.H D = some (.dK us) ∧ D ∈ Cb.bad := fun {Ca Cb Sa us} x r hb h => ⟨(x.kp _ _ (r.bad D hb).1 h).exact (.inr hb), x.bad' D hb⟩
      cases e4 : g.f src.items[i] (wipeE ρ vs) with
      | none => rw [e4] at w; exact w.elim
      | some ρ1 =>
        rw [e4] at w
        dsimp only at w
        refine ⟨C2, wipeE ρ vs, S', d, ρ1, rfl, sv2, rd, by rw [← e3]; exact e4, fun σ1 ev1 l1 l1' w1 => ⟨by rw [w1 vs hix, wipe_wipe], ?_⟩⟩
        have sv3 : Sv X ρ1 σ1 S' C2 := ⟨sv2.w, sv2.K, r2, ev1, l1⟩
        refine ⟨C2, ρ1, S', rfl, sv3, ?_⟩
        cases e5 : tt ρ1 S' with
        | exc c d S2 => rw [e5] at w; exact w.elim
        | stk => rw [e5] at w; exact w.elim
        | ok b S2 =>
          rw [e5] at w
          simp only [R.calm_ok, R.bind_ok] at w
          intro C3 g3 r3
          have sv4 := sv3.grow g3 r3
          have gr3 : Grow C0 (C3.rb C0) := rb_step (rb_step gr hb g2) (fun a m => g2.bad' a (hb a m)) g3
          have hb3 : ∀ a ∈ C0.bad, a ∈ C3.bad := fun a m => g3.bad' a (g2.bad' a (hb a m))
          have z2 := hvn g2 rs hbD hv
          have z3 := hvn g3 r2 z2.2 z2.1
          have tr3 : Tr C0.ι.length C0 C3 := tr2.trans (g3.tr r2) (Nat.le_trans g01 g2.le')
          have rv3 : RepVs C3 acc accv := (rv.grow g2 rs).grow g3 r2
          cases b with
          | false =>
            rw [if_neg (by decide)] at w
            dsimp only
            rw [if_neg (by decide)]
            exact ⟨rfl, hlt, C3, S2, ks, acc, accv, rfl, tr3, gr3, hb3, r3, z3.2, z3.1, hkl, hnd, rv3, by omega, w⟩
          | true =>
            rw [if_pos rfl] at w
            dsimp only
            rw [if_pos rfl]
            refine ⟨C3, ρ1, S2, rfl, sv4, ?_⟩
            cases e6 : tk ρ1 S2 with
            | exc c d S2 => rw [e6] at w; exact w.elim
            | stk => rw [e6] at w; exact w.elim
            | ok kd S3 =>
              rw [e6] at w
              simp only [R.calm_ok, R.bind_ok] at w
              intro C4 g4 r4 v rvk
              have sv5 := sv4.grow g4 r4
              have z4 := hvn g4 r3 z3.2 z3.1
              have gr4 := rb_step gr3 hb3 g4
              have hb4 : ∀ a ∈ C0.bad, a ∈ C4.bad := fun a m => g4.bad' a (hb3 a m)
              have tr4 : Tr C0.ι.length C0 C4 := tr3.trans (g4.tr r3) (Nat.le_trans g01 (Nat.le_trans g2.le' g3.le'))
              have rv4 : RepVs C4 acc accv := rv3.grow g4 r3
              cases e7 : keyV kd with
              | none => rw [e7] at w; exact w.elim
              | some k =>
                rw [e7] at w
                dsimp only at w
                have ek := keyV_rep rvk e7
                refine ⟨C4, ρ1, S3, rfl, sv5, ?_⟩
                cases e8 : tv ρ1 S3 with
                | exc c d S2 => rw [e8] at w; exact w.elim
                | stk => rw [e8] at w; exact w.elim
                | ok yv S4 =>
                  rw [e8] at w
                  simp only [R.calm_ok, R.bind_ok] at w
                  intro C5 g5 r5 v5 rvv
                  have z5 := hvn g5 r4 z4.2 z4.1
                  have hb5 : ∀ a ∈ C0.bad, a ∈ C5.bad := fun a m => g5.bad' a (hb4 a m)
                  have tr5 : Tr C0.ι.length C0 C5 := tr4.trans (g5.tr r4) (Nat.le_trans g01 (Nat.le_trans g2.le' (Nat.le_trans g3.le' g4.le')))
                  have l5 : C0.ι.length ≤ C5.ι.length := Nat.le_trans g01 (Nat.le_trans g2.le' (Nat.le_trans g3.le' (Nat.le_trans g4.le' g5.le')))
                  have rv5 : RepVs C5 acc accv := rv4.grow g5 r4
                  have wr := Tr.wrG (o := .dK (putK (ks.zip accv) k v5)) r5 z5.2 z5.1 (by simp) (by simp)
                  obtain ⟨accv', ep, hl', nd', rv'⟩ := dput_rep (ks' := (dput ks acc k yv).1) (ds' := (dput ks acc k yv).2) (rv5.trn wr) hkl hnd (rvv.trn wr) rfl
                  have hlp := dput_len (C := C5) (ks := ks) (ds := acc) (k := k) (d := yv) (ks' := (dput ks acc k yv).1) (ds' := (dput ks acc k yv).2) rfl
                  refine ⟨ks.zip accv, k, ek, z5.1, by rw [List.length_zip]; omega, rfl, hlt, C5.put D (.dK (putK (ks.zip accv) k v5)), S4, (dput ks acc k yv).1, (dput ks acc k yv).2, accv', rfl, tr5.trans wr l5, rb_wr (rb_step gr4 hb4 g5) hD, hb5, r5.wrG z5.2 z5.1 (by simp) (by simp), z5.2, by rw [put_same, ep], hl', nd', rv', by omega, w⟩
    · rw [if_neg hok] at w; exact w.elim
  · have e : i = src.items.length := by omega
    subst e
    rw [List.drop_length, dcGo] at w
    by_cases hok : src.ok S' = true
    · rw [if_pos hok] at w
      obtain ⟨k1, k2, k3⟩ := sw C1 S' tr rs hok
      exact .inl ⟨k2, w C1 gr hb rs hbD accv hv hkl hnd rv⟩
    · rw [if_neg hok] at w; exact w.elim
theorem se_dc (hc : X.calm = true) (hN : X.N.Nodup) (hi : SI X W tg iter mi) (ok : BlkOk X.N X.env.scope scope own)
    (hg : ∀ (s : Shared) (H : Hp) (C : Addr) (cl : List (Str × Addr)) (fp : List Addr), SG (X.blk s H scope (compEnvC scope cl C X.env) fp) tg g) (ht : ∀ (s : Shared) (H : Hp) (C : Addr) (cl : List (Str × Addr)) (fp : List Addr), STs (X.blk s H scope (compEnvC scope cl C X.env) fp) WNo ifs tt)
    (hk : ∀ (s : Shared) (H : Hp) (C : Addr) (cl : List (Str × Addr)) (fp : List Addr), SE (X.blk s H scope (compEnvC scope cl C X.env) fp) WNo kx tk)
    (he : ∀ (s : Shared) (H : Hp) (C : Addr) (cl : List (Str × Addr)) (fp : List Addr), SE (X.blk s H scope (compEnvC scope cl C X.env) fp) WNo vx tv) (hix : ∀ i ∈ g.ix, i ∈ own.map (·.2)) (hs : ∀ x, foldedSetIterable iter X.env x = pure x := by intro _; rfl) :
    SE X W (.DictComp kx vx [⟨tg, iter, ifs, 0⟩] scope pos) (mDc fr (own.map (·.2)) mi g tt tk tv) :=
  (pe_dc hc hN hi ok (g := tG X g) (fun s H C cl fp => (hg s H C cl fp).imp fun v σ H Q h => tG.blk h) (fun s H C cl fp => (ht s H C cl fp).imp fun σ H Q h => tT.blk h) (fun s H C cl fp => (hk s H C cl fp).imp fun σ H Q h => tE.blk h) (fun s H C cl fp => (he s H C cl fp).imp fun σ H Q h => tE.blk h) hs).imp fun σ H Q h => dc_imp hix h
end
def lc2Go (ok : Sto → Bool) (g : Tg) (tt : MT) (mi1 : Ev → Sto → R Src) (vs1 : List Nat) (g1 : Tg) (tt1 : MT) (te : ME) (ρ : Ev) : List MV → List MV → Sto → R (List MV)
  | [], acc, S => if ok S then .ok acc S else .stk
  | x :: xs, acc, S => if ok S then (match g.f x ρ with
    | some ρ1 => (tt ρ1 S).calm.bind fun b S1 => if b then (mi1 ρ1 S1).calm.bind fun src1 S2 =>
        if acc.length + src1.items.length ≤ sizeLine then (lcGo (fun S => src1.ok S) g1 tt1 te (wipeE ρ1 vs1) src1.items acc S2).bind fun acc' S3 => lc2Go ok g tt mi1 vs1 g1 tt1 te ρ xs acc' S3 else .stk
      else lc2Go ok g tt mi1 vs1 g1 tt1 te ρ xs acc S1
    | none => .stk) else .stk
def mLc2 (fr : Bool) (vs vs1 : List Nat) (mi : Ev → Sto → R Src) (g : Tg) (tt : MT) (mi1 : Ev → Sto → R Src) (g1 : Tg) (tt1 : MT) (te : ME) : ME := fun ρ S => (mi ρ S).bind fun src S1 =>
  (lc2Go (fun S => src.ok S) g tt mi1 vs1 g1 tt1 te (wipeE ρ vs) src.items [] S1).bind (mkL fr)
theorem lc2Go_noexc {ok : Sto → Bool} {g : Tg} {tt : MT} {mi1 : Ev → Sto → R Src} {vs1 : List Nat} {g1 : Tg} {tt1 : MT} {te : ME} {ρ : Ev} : ∀ (xs acc : List MV) (S : Sto) (c : Str) (d : MV) (S' : Sto), lc2Go ok g tt mi1 vs1 g1 tt1 te ρ xs acc S ≠ .exc c d S'
  | [], acc, S, c, d, S', h => by
    unfold lc2Go at h
    split at h <;> cases h
  | x :: xs, acc, S, c, d, S', h => by
    unfold lc2Go at h
    split at h
    · split at h
      · rename_i ρ1 e1
        cases e : tt ρ1 S with
        | ok b S1 =>
          rw [e] at h
          simp only [R.calm_ok, R.bind_ok] at h
          split at h
          · cases e2 : mi1 ρ1 S1 with
            | ok src S2 =>
              rw [e2] at h
              simp only [R.calm_ok, R.bind_ok] at h
              split at h
              · cases e3 : lcGo (fun S => src.ok S) g1 tt1 te (wipeE ρ1 vs1) src.items acc S2 with
                | ok acc' S3 =>
                  rw [e3] at h
                  exact lc2Go_noexc xs _ S3 c d S' h
                | exc c' d' S3 => exact lcGo_noexc _ _ _ _ _ _ e3
                | stk => rw [e3] at h; cases h
              · cases h
            | exc c' d' S2 => rw [e2] at h; cases h
            | stk => rw [e2] at h; cases h
          · exact lc2Go_noexc xs _ S1 c d S' h
        | exc c' d' S1 => rw [e] at h; cases h
        | stk => rw [e] at h; cases h
      · cases h
    · cases h
theorem Tr.le {C C' : RC} (x : Tr C.ι.length C C') : C.ι.length ≤ C'.ι.length := by
  by_cases h : C.ι.length = 0
  · omega
  · have hl : C.ι.length - 1 < C.ι.length := by omega
    have := (List.getElem?_eq_some_iff.mp (x.ref (C.ι.length - 1) _ hl (List.getElem?_eq_getElem hl))).1
    omega
/-- the list D is being filled, C0 the state at its start -/
structure Fl (C0 : RC) (D : Addr) (C : RC) (S : Sto) (acc : List MV) (accv : List V) : Prop where
  tr : Tr C0.ι.length C0 C
  gr : Grow C0 (C.rb C0)
  hb : ∀ a ∈ C0.bad, a ∈ C.bad
  rs : RepS C S
  hbD : D ∈ C.bad
  hv : C.H D = some (.lst accv)
  rv : RepVs C acc accv
theorem Fl.grow {C0 C C' : RC} {D : Addr} {S S' : Sto} {acc : List MV} {accv : List V} (f : Fl C0 D C S acc accv) (g : Grow C C') (r : RepS C' S') : Fl C0 D C' S' acc accv where
  tr := f.tr.trans (g.tr f.rs) f.gr.le'
  gr := rb_step f.gr f.hb g
  hb := fun a m => g.bad' a (f.hb a m)
  rs := r
  hbD := g.bad' D f.hbD
  hv := (g.kp _ _ (f.rs.bad D f.hbD).1 f.hv).exact (.inr f.hbD)
  rv := f.rv.grow g f.rs
theorem Fl.app {C0 C : RC} {D : Addr} {S : Sto} {acc : List MV} {accv : List V} {d : MV} {v : V} (f : Fl C0 D C S acc accv) (hD : C0.H D = none) (rv : RepV C d v) : Fl C0 D (C.put D (.lst (accv ++ [v]))) S (acc ++ [d]) (accv ++ [v]) := by
  have wr := Tr.wr (vs := accv ++ [v]) f.rs f.hbD f.hv
  exact ⟨f.tr.trans wr f.gr.le', rb_wr f.gr hD, f.hb, f.rs.wr f.hbD f.hv, f.hbD, put_same, (f.rv.trn wr).append (.cons (rv.trn wr) .nil)⟩
theorem Fl.le {C0 C : RC} {D : Addr} {S : Sto} {acc : List MV} {accv : List V} (f : Fl C0 D C S acc accv) : C0.ι.length ≤ C.ι.length := f.gr.le'
section
variable {X : Cx} {W : WX} {tg iter tg1 iter1 elt : Expr} {ifs ifs1 : List Expr} {scope : Scope} {own : List (Str × Nat)} {mi mi1 : Ev → Sto → R Src} {g g1 : Tg} {tt tt1 : MT} {te : ME} {pos : Pos} {fr : Bool} {vs1 : List Nat}
/-- the inner loop: C0 the state at the list's start, Cb that at this loop's -/
theorem in_imp {C0 Cb : RC} {D : Addr} {ρ1 : Ev} {σ1 : L2.St} {src : Src} {J : It} {S2 : Sto} {acc : List MV} {accv : List V} {Nx : Hp → Prop} (sw : SrcW X src J Cb) (sb : Sv X ρ1 σ1 S2 Cb) (f : Fl C0 D Cb S2 acc accv) (hD : C0.H D = none)
    (hsz : acc.length + src.items.length ≤ sizeLine) (hix : ∀ i ∈ g1.ix, i ∈ vs1)
    (w : match lcGo (fun S => src.ok S) g1 tt1 te (wipeE ρ1 vs1) src.items acc S2 with
      | .ok acc' S' => ∀ C' accv', Fl C0 D C' S' acc' accv' → acc'.length ≤ sizeLine → Nx C'.H
      | _ => False) :
    ∃ W1 : Nat → Nat → Hp → Prop, (∃ m, W1 0 m Cb.H) ∧ ∀ j k H, W1 j k H → (J.stop j H ∧ Nx H) ∨ (J.go j H ∧ ∃ Nx1 : Hp → Prop, (∀ H', Nx1 H' → ∃ k', k' < k ∧ W1 (j + 1) k' H') ∧ ∀ x H', J.yld j H x H' → tG X g1 x (wipe σ1 vs1) H' fun σ3 H5 => wipe σ3 vs1 = wipe σ1 vs1 ∧ tT X WNo tt1 σ3 H5 fun b H6 =>
      if b = true then tE X WNo te σ3 H6 fun y H7 => ∃ acc, H7 D = some (.lst acc) ∧ acc.length < sizeLine ∧ Nx1 (upd H7 D (.lst (acc ++ [y]))) else Nx1 H6) := by
  refine ⟨fun i m H' => m = src.items.length - i ∧ i ≤ src.items.length ∧ ∃ C' S' acc' accv', C'.H = H' ∧ Tr Cb.ι.length Cb C' ∧ Fl C0 D C' S' acc' accv' ∧ acc'.length ≤ acc.length + i ∧
      (match lcGo (fun S => src.ok S) g1 tt1 te (wipeE ρ1 vs1) (src.items.drop i) acc' S' with
        | .ok acc' S' => ∀ C' accv', Fl C0 D C' S' acc' accv' → acc'.length ≤ sizeLine → Nx C'.H
        | _ => False), ⟨src.items.length, by simp, Nat.zero_le _, Cb, S2, acc, accv, rfl, Tr.refl, f, Nat.le_refl _, w⟩, ?_⟩
  rintro i m H' ⟨rfl, hi, C1, S', acc', accv', rfl, tr, f1, hl, w⟩
  by_cases hlt : i < src.items.length
  · have ed : src.items.drop i = src.items[i] :: src.items.drop (i + 1) := List.drop_eq_getElem_cons hlt
    rw [ed, lcGo] at w
    by_cases hok : src.ok S' = true
    · rw [if_pos hok] at w
      obtain ⟨k1, k2, k3⟩ := sw C1 S' tr f1.rs hok
      refine .inr ⟨k1 i hlt, fun H'' => (fun i m H' => m = src.items.length - i ∧ i ≤ src.items.length ∧ ∃ C' S' acc' accv', C'.H = H' ∧ Tr Cb.ι.length Cb C' ∧ Fl C0 D C' S' acc' accv' ∧ acc'.length ≤ acc.length + i ∧
        (match lcGo (fun S => src.ok S) g1 tt1 te (wipeE ρ1 vs1) (src.items.drop i) acc' S' with
          | .ok acc' S' => ∀ C' accv', Fl C0 D C' S' acc' accv' → acc'.length ≤ sizeLine → Nx C'.H
          | _ => False)) (i + 1) (src.items.length - (i + 1)) H'', fun H'' h => ⟨_, by omega, h⟩, fun x H'' y => ?_⟩
      obtain ⟨C2, d, rfl, g2, r2, e2, rd⟩ := k3 i x H'' hlt y
      rw [List.getElem?_eq_getElem hlt] at e2
      have e3 : src.items[i] = d := Option.some.inj e2
      have f2 := f1.grow g2 r2
      have l01 : Cb.ι.length ≤ C1.ι.length := tr.le
      have tr2 : Tr Cb.ι.length Cb C2 := tr.trans (g2.tr f1.rs) l01
      have ew : EnvR C2 (wipeE ρ1 vs1) (wipe σ1 vs1) := (env_wipe sb.ev sb.ln vs1).trn tr2
      have sv2 : Sv X (wipeE ρ1 vs1) (wipe σ1 vs1) S' C2 := ⟨tr2.w.trans sb.w, tr2.K.trans sb.K, r2, ew, by rw [wipeE_len, wipe_length]; exact sb.ln⟩
      cases e4 : g1.f src.items[i] (wipeE ρ1 vs1) with
      | none => rw [e4] at w; exact w.elim
      | some ρ2 =>
        rw [e4] at w
        dsimp only at w
        refine ⟨C2, wipeE ρ1 vs1, S', d, ρ2, rfl, sv2, rd, by rw [← e3]; exact e4, fun σ2 ev2 l2 l2' w2 => ⟨by rw [w2 vs1 hix, wipe_wipe], ?_⟩⟩
        have sv3 : Sv X ρ2 σ2 S' C2 := ⟨sv2.w, sv2.K, r2, ev2, l2⟩
        refine ⟨C2, ρ2, S', rfl, sv3, ?_⟩
        cases e5 : tt1 ρ2 S' with
        | exc c d S2 => rw [e5] at w; exact w.elim
        | stk => rw [e5] at w; exact w.elim
        | ok b S2 =>
          rw [e5] at w
          simp only [R.calm_ok, R.bind_ok] at w
          intro C3 g3 r3
          have sv4 := sv3.grow g3 r3
          have f3 := f2.grow g3 r3
          have tr3 : Tr Cb.ι.length Cb C3 := tr2.trans (g3.tr r2) (Nat.le_trans l01 g2.le')
          cases b with
          | false =>
            rw [if_neg (by decide)] at w
            dsimp only
            rw [if_neg (by decide)]
            exact ⟨rfl, hlt, C3, S2, acc', accv', rfl, tr3, f3, by omega, w⟩
          | true =>
            rw [if_pos rfl] at w
            dsimp only
            rw [if_pos rfl]
            refine ⟨C3, ρ2, S2, rfl, sv4, ?_⟩
            cases e6 : te ρ2 S2 with
            | exc c d S2 => rw [e6] at w; exact w.elim
            | stk => rw [e6] at w; exact w.elim
            | ok yv S3 =>
              rw [e6] at w
              simp only [R.calm_ok, R.bind_ok] at w
              intro C4 g4 r4 v rvv
              have f4 := f3.grow g4 r4
              have tr4 : Tr Cb.ι.length Cb C4 := tr3.trans (g4.tr r3) (Nat.le_trans l01 (Nat.le_trans g2.le' g3.le'))
              have wr := Tr.wr (vs := accv' ++ [v]) f4.rs f4.hbD f4.hv
              refine ⟨accv', f4.hv, by rw [← f4.rv.length]; omega, rfl, hlt, C4.put D (.lst (accv' ++ [v])), S3, acc' ++ [yv], accv' ++ [v], rfl, tr4.trans wr (Nat.le_trans l01 (Nat.le_trans g2.le' (Nat.le_trans g3.le' g4.le'))), f4.app hD rvv, by simp; omega, w⟩
    · rw [if_neg hok] at w; exact w.elim
  · have e : i = src.items.length := by omega
    subst e
    rw [List.drop_length, lcGo] at w
    by_cases hok : src.ok S' = true
    · rw [if_pos hok] at w
      obtain ⟨k1, k2, k3⟩ := sw C1 S' tr f1.rs hok
      exact .inl ⟨k2, w C1 accv' f1 (by omega)⟩
    · rw [if_neg hok] at w; exact w.elim
theorem tI.blk {s0 : Shared} {H0 : Hp} {sc : Scope} {ce : Env} {fp : List Addr} {m : Ev → Sto → R Src} {σ : L2.St} {H : Hp} {Q : It → Hp → Prop} (h : tI X W m σ H Q) : tI (X.blk s0 H0 sc ce fp) W m σ H Q := by
  obtain ⟨C, ρ, S, e, s, q⟩ := h
  exact ⟨C, ρ, S, e, ⟨s.w, s.K, s.rs, s.ev, s.ln⟩, q⟩
theorem lc2_imp {σ : L2.St} {H : Hp} {Q : VK} {vs : List Nat} (hix : ∀ i ∈ g.ix, i ∈ vs) (hix1 : ∀ i ∈ g1.ix, i ∈ vs1) (h : tE X W (mLc2 fr vs vs1 mi g tt mi1 g1 tt1 te) σ H Q) : tLc2 (tI X W mi) (tG X g) (tT X WNo tt) (tI X WNo mi1) (tG X g1) (tT X WNo tt1) (tE X WNo te) vs vs1 σ H Q := by
  obtain ⟨C, ρ, S, e, s, q⟩ := h
  subst e
  refine ⟨C, ρ, S, rfl, s, (Wants.bind q).mono fun src S1 C0 g0 r0 _ q0 J sw D hD => ?_⟩
  have q0 := q0.1
  have lw : LW D Q fr C0 (lc2Go (fun S => src.ok S) g tt mi1 vs1 g1 tt1 te (wipeE ρ vs) src.items [] S1) := lw_end r0 hD (lc2Go_noexc _ _ _) q0
  have s0 : Sv X ρ σ S1 C0 := s.grow g0 r0
  refine ⟨fun i m H' => m = src.items.length - i ∧ i ≤ src.items.length ∧ ∃ C' S' acc accv, C'.H = H' ∧ Fl C0 D C' S' acc accv ∧ acc.length ≤ sizeLine ∧
      LW D Q fr C0 (lc2Go (fun S => src.ok S) g tt mi1 vs1 g1 tt1 te (wipeE ρ vs) (src.items.drop i) acc S'), ⟨src.items.length, by simp, Nat.zero_le _, C0.fill D, S1, [], [], rfl, ⟨(Grow.fill hD).tr r0, ?_, fun a m => List.mem_cons_of_mem _ m, r0.fill hD, List.mem_cons_self, upd_same, .nil⟩, Nat.zero_le _, lw⟩, ?_⟩
  · exact rb_wr Grow.refl hD
  rintro i m H' ⟨rfl, hi, C1, S', acc, accv, rfl, f1, hl, w⟩
  by_cases hlt : i < src.items.length
  · have ed : src.items.drop i = src.items[i] :: src.items.drop (i + 1) := List.drop_eq_getElem_cons hlt
    rw [ed, lc2Go] at w
    by_cases hok : src.ok S' = true
    · rw [if_pos hok] at w
      obtain ⟨k1, k2, k3⟩ := sw C1 S' f1.tr f1.rs hok
      refine .inr ⟨k1 i hlt, fun H'' => (fun i m H' => m = src.items.length - i ∧ i ≤ src.items.length ∧ ∃ C' S' acc accv, C'.H = H' ∧ Fl C0 D C' S' acc accv ∧ acc.length ≤ sizeLine ∧
        LW D Q fr C0 (lc2Go (fun S => src.ok S) g tt mi1 vs1 g1 tt1 te (wipeE ρ vs) (src.items.drop i) acc S')) (i + 1) (src.items.length - (i + 1)) H'', fun H'' h => ⟨_, by omega, h⟩, fun x H'' y => ?_⟩
      obtain ⟨C2, d, rfl, g2, r2, e2, rd⟩ := k3 i x H'' hlt y
      rw [List.getElem?_eq_getElem hlt] at e2
      have e3 : src.items[i] = d := Option.some.inj e2
      have f2 := f1.grow g2 r2
      have ew : EnvR C2 (wipeE ρ vs) (wipe σ vs) := (env_wipe s0.ev s0.ln vs).trn f2.tr
      have sv2 : Sv X (wipeE ρ vs) (wipe σ vs) S' C2 := ⟨f2.tr.w.trans s0.w, f2.tr.K.trans s0.K, r2, ew, by rw [wipeE_len, wipe_length]; exact s0.ln⟩
      cases e4 : g.f src.items[i] (wipeE ρ vs) with
      | none => rw [e4] at w; exact w.elim
      | some ρ1 =>
        rw [e4] at w
        dsimp only at w
        refine ⟨C2, wipeE ρ vs, S', d, ρ1, rfl, sv2, rd, by rw [← e3]; exact e4, fun σ1 ev1 l1 l1' w1 => ⟨by rw [w1 vs hix, wipe_wipe], ?_⟩⟩
        have sv3 : Sv X ρ1 σ1 S' C2 := ⟨sv2.w, sv2.K, r2, ev1, l1⟩
        refine ⟨C2, ρ1, S', rfl, sv3, ?_⟩
        cases e5 : tt ρ1 S' with
        | exc c d S2 => rw [e5] at w; exact w.elim
        | stk => rw [e5] at w; exact w.elim
        | ok b S2 =>
          rw [e5] at w
          simp only [R.calm_ok, R.bind_ok] at w
          intro C3 g3 r3
          have sv4 := sv3.grow g3 r3
          have f3 := f2.grow g3 r3
          cases b with
          | false =>
            rw [if_neg (by decide)] at w
            dsimp only
            rw [if_neg (by decide)]
            exact ⟨rfl, hlt, C3, S2, acc, accv, rfl, f3, hl, w⟩
          | true =>
            rw [if_pos rfl] at w
            dsimp only
            rw [if_pos rfl]
            refine ⟨C3, ρ1, S2, rfl, sv4, ?_⟩
            cases e6 : mi1 ρ1 S2 with
            | exc c d S2 => rw [e6] at w; exact w.elim
            | stk => rw [e6] at w; exact w.elim
            | ok src1 S3 =>
              rw [e6] at w
              simp only [R.calm_ok, R.bind_ok] at w
              intro C4 g4 r4 J1 sw1
              have f4 := f3.grow g4 r4
              have sv5 := sv4.grow g4 r4
              by_cases hsz : acc.length + src1.items.length ≤ sizeLine
              · rw [if_pos hsz] at w
                refine in_imp sw1 sv5 f4 hD hsz hix1 ?_
                cases e7 : lcGo (fun S => src1.ok S) g1 tt1 te (wipeE ρ1 vs1) src1.items acc S3 with
                | exc c d S2 => exact absurd e7 (lcGo_noexc _ _ _ _ _ _)
                | stk => rw [e7] at w; exact w.elim
                | ok acc' S4 =>
                  rw [e7] at w
                  simp only [R.bind_ok] at w
                  exact fun C' accv' f' hl' => ⟨rfl, hlt, C', S4, acc', accv', rfl, f', hl', w⟩
              · rw [if_neg hsz] at w; exact w.elim
    · rw [if_neg hok] at w; exact w.elim
  · have e : i = src.items.length := by omega
    subst e
    rw [List.drop_length, lc2Go] at w
    by_cases hok : src.ok S' = true
    · rw [if_pos hok] at w
      obtain ⟨k1, k2, k3⟩ := sw C1 S' f1.tr f1.rs hok
      exact .inl ⟨k2, w C1 f1.gr f1.hb f1.rs f1.hbD accv f1.hv f1.rv⟩
    · rw [if_neg hok] at w; exact w.elim
theorem se_lc2 (hc : X.calm = true) (hN : X.N.Nodup) (hi : SI X W tg iter mi) (ok : BlkOk X.N X.env.scope scope own) (hv : ∀ i ∈ vs1, i ∈ own.map (·.2))
    (hg : ∀ (s : Shared) (H : Hp) (C : Addr) (cl : List (Str × Addr)) (fp : List Addr), SG (X.blk s H scope (compEnvC scope cl C X.env) fp) tg g) (ht : ∀ (s : Shared) (H : Hp) (C : Addr) (cl : List (Str × Addr)) (fp : List Addr), STs (X.blk s H scope (compEnvC scope cl C X.env) fp) WNo ifs tt)
    (hi1 : ∀ (s : Shared) (H : Hp) (C : Addr) (cl : List (Str × Addr)) (fp : List Addr), SI (X.blk s H scope (compEnvC scope cl C X.env) fp) WNo tg1 iter1 mi1)
    (hg1 : ∀ (s : Shared) (H : Hp) (C : Addr) (cl : List (Str × Addr)) (fp : List Addr), SG (X.blk s H scope (compEnvC scope cl C X.env) fp) tg1 g1) (ht1 : ∀ (s : Shared) (H : Hp) (C : Addr) (cl : List (Str × Addr)) (fp : List Addr), STs (X.blk s H scope (compEnvC scope cl C X.env) fp) WNo ifs1 tt1)
    (he : ∀ (s : Shared) (H : Hp) (C : Addr) (cl : List (Str × Addr)) (fp : List Addr), SE (X.blk s H scope (compEnvC scope cl C X.env) fp) WNo elt te) (hix : ∀ i ∈ g.ix, i ∈ own.map (·.2)) (hix1 : ∀ i ∈ g1.ix, i ∈ vs1) (hs : ∀ x, foldedSetIterable iter X.env x = pure x := by intro _; rfl) (hs1 : ∀ env x, foldedSetIterable iter1 env x = pure x := by intro _ _; rfl) :
    SE X W (.ListComp elt [⟨tg, iter, ifs, 0⟩, ⟨tg1, iter1, ifs1, 0⟩] scope pos) (mLc2 fr (own.map (·.2)) vs1 mi g tt mi1 g1 tt1 te) :=
  (pe_lc2 hc hN hi ok hv (g := tG X g) (g1 := tG X g1) (wi1 := tI X WNo mi1) (fun s H C cl fp => (hg s H C cl fp).imp fun v σ H Q h => tG.blk h) (fun s H C cl fp => (ht s H C cl fp).imp fun σ H Q h => tT.blk h)
    (fun s H C cl fp => (hi1 s H C cl fp).imp fun σ H Q h => tI.blk h) (fun s H C cl fp => (hg1 s H C cl fp).imp fun v σ H Q h => tG.blk h) (fun s H C cl fp => (ht1 s H C cl fp).imp fun σ H Q h => tT.blk h) (fun s H C cl fp => (he s H C cl fp).imp fun σ H Q h => tE.blk h) hs hs1).imp fun σ H Q h => lc2_imp hix hix1 h
end
end Mi
set_option Elab.async false
set_option linter.all false
set_option maxRecDepth 100000
set_option maxHeartbeats 4000000
namespace Mi
open PySem PySem.Spec PyProof.Rows L2
theorem pu_over {f : List Bool → Bool} : Pure1 (overBl f) := by
  intro ds S c d S' h
  unfold overBl at h
  split at h
  · split at h
    · split at h
      · cases h
      · cases h
    · cases h
  · cases h
theorem pu_any : Pure1 anyM := pu_over
theorem pu_all : Pure1 allM := pu_over
theorem pu_sum : Pure1 sumM := by
  intro ds S c d S' h
  unfold sumM at h
  split at h
  · split at h
    · split at h
      · cases h
      · cases h
    · cases h
  · cases h
theorem pu_max : Pure1 maxM := by
  intro ds S c d S' h
  unfold maxM at h
  split at h <;> cases h
end Mi
set_option Elab.async false
set_option linter.all false
set_option maxRecDepth 100000
set_option maxHeartbeats 2000000
namespace Mi
open PySem PySem.Spec PyProof.Rows L2
end Mi
set_option Elab.async false
set_option linter.all false
set_option maxRecDepth 100000
set_option maxHeartbeats 2000000
namespace Mi
open PySem PySem.Spec PyProof.Rows L2
mutual
def nk : MV → NestedKey
  | .bl b => .num (if b then 1 else 0)
  | .int i => .num i
  | .str x => .text x
  | .tup xs => .tup (nks xs)
  | _ => .none
def nks : List MV → List NestedKey
  | [] => []
  | x :: xs => nk x :: nks xs
end
theorem nks_map : ∀ xs : List MV, nks xs = xs.map nk
  | [] => rfl
  | x :: xs => by rw [nks, nks_map xs]; rfl
mutual
def unk : NestedKey → MV
  | .none => .non
  | .num i => .int i
  | .text x => .str x
  | .tup ks => .tup (unks ks)
def unks : List NestedKey → List MV
  | [] => []
  | x :: xs => unk x :: unks xs
end
mutual
theorem unk_nk : ∀ k : MV, keyOk k = true → unk (nk k) = canon k
  | .non, _ => rfl
  | .bl _, _ => rfl
  | .int _, _ => rfl
  | .str _, _ => rfl
  | .tup xs, h => by rw [nk, unk, canon, unks_nks xs (by simpa [keyOk] using h)]
  | .lst _, h => by simp [keyOk] at h
  | .dct _ _, h => by simp [keyOk] at h
  | .dcT _ _, h => by simp [keyOk] at h
  | .obj _ _ _, h => by simp [keyOk] at h
  | .ref _, h => by simp [keyOk] at h
  | .kls _, h => by simp [keyOk] at h
theorem unks_nks : ∀ ks : List MV, keyOks ks = true → unks (nks ks) = canons ks
  | [], _ => rfl
  | k :: ks, h => by
    rw [keyOks, Bool.and_eq_true] at h
    rw [nks, unks, canons, unk_nk k h.1, unks_nks ks h.2]
end
mutual
theorem nk_canon : ∀ k : MV, nk (canon k) = nk k
  | .bl _ => rfl
  | .non => rfl
  | .int _ => rfl
  | .str _ => rfl
  | .tup xs => by rw [canon, nk, nk, nks_canons xs]
  | .lst _ => rfl
  | .dct _ _ => rfl
  | .dcT _ _ => rfl
  | .obj _ _ _ => rfl
  | .ref _ => rfl
  | .kls _ => rfl
theorem nks_canons : ∀ ks : List MV, nks (canons ks) = nks ks
  | [] => rfl
  | k :: ks => by rw [canons, nks, nks, nk_canon k, nks_canons ks]
end
theorem nk_eq {a b : MV} (ha : keyOk a = true) (hb : keyOk b = true) : nk a = nk b ↔ canon a = canon b := by
  constructor
  · intro h; rw [← unk_nk a ha, ← unk_nk b hb, h]
  · intro h; rw [← nk_canon a, ← nk_canon b, h]
mutual
theorem hash_nk (w : World) : ∀ k : MV, keyOk k = true → hashK w k = (nk k).hash w
  | .non, _ => by show hashK w .non = NestedKey.hash w .none; rfl
  | .bl _, _ => rfl
  | .int _, _ => rfl
  | .str _, _ => rfl
  | .tup xs, h => by rw [hashK, nk, NestedKey.hash, hashes_nks w xs (by simpa [keyOk] using h)]
  | .lst _, h => by simp [keyOk] at h
  | .dct _ _, h => by simp [keyOk] at h
  | .dcT _ _, h => by simp [keyOk] at h
  | .obj _ _ _, h => by simp [keyOk] at h
  | .ref _, h => by simp [keyOk] at h
  | .kls _, h => by simp [keyOk] at h
theorem hashes_nks (w : World) : ∀ ks : List MV, keyOks ks = true → hashKs w ks = NestedKey.hashes w (nks ks)
  | [], _ => rfl
  | k :: ks, h => by
    rw [keyOks, Bool.and_eq_true] at h
    rw [hashKs, nks, NestedKey.hashes, hash_nk w k h.1, hashes_nks w ks h.2]
end
mutual
theorem dep_nk : ∀ k : MV, (nk k).depth = kdep k
  | .bl _ => rfl
  | .non => rfl
  | .int _ => rfl
  | .str _ => rfl
  | .tup xs => by rw [nk, NestedKey.depth, kdep, deps_nks xs]
  | .lst _ => rfl
  | .dct _ _ => rfl
  | .dcT _ _ => rfl
  | .obj _ _ _ => rfl
  | .ref _ => rfl
  | .kls _ => rfl
theorem deps_nks : ∀ ks : List MV, NestedKey.depthAll (nks ks) = kdeps ks
  | [] => rfl
  | k :: ks => by rw [nks, NestedKey.depthAll, kdeps, dep_nk k, deps_nks ks]
end
section
variable {X : Cx} {pins : List (Addr × Obj)} {s : Shared} {σ : L2.St} {C : RC}
mutual
theorem nis_of (I : Inv X pins σ C.H s) (hK : C.K = X.K) : ∀ (k : MV) (v : V) (u : Value), keyOk k = true → RepV C k v → RelV v u → NestedIs s.heap (nk k) u
  | .non, v, u, _, h, r => by rw [RepV] at h; subst h; cases r; exact .none
  | .bl b, v, u, _, h, r => by rw [RepV] at h; subst h; cases r; exact .bool rfl
  | .int i, v, u, _, h, r => by
    rw [RepV] at h; subst h
    obtain ⟨t, rfl⟩ := r
    exact .int i t
  | .str x, v, u, _, h, r => by
    rw [RepV] at h; subst h
    obtain ⟨t, rfl⟩ := r
    exact .text x t
  | .tup xs, v, u, hk, h, r => by
    rw [RepV] at h
    obtain ⟨a, vs, rfl, hq, t⟩ := h
    cases r
    rw [hK] at hq
    obtain ⟨its, rv, ht, _⟩ := I.tuple hq
    obtain ⟨o, ho, hc, n, hd⟩ := (show s.heap.IsTuple a its.toArray from ht)
    rw [nk]
    exact .tup ho hc hd (by simpa using nall_of I hK xs vs its (by simpa [keyOk] using hk) t rv)
  | .lst _, _, _, h, _, _ => by simp [keyOk] at h
  | .dct _ _, _, _, h, _, _ => by simp [keyOk] at h
  | .dcT _ _, _, _, h, _, _ => by simp [keyOk] at h
  | .obj _ _ _, _, _, h, _, _ => by simp [keyOk] at h
  | .ref _, _, _, h, _, _ => by simp [keyOk] at h
  | .kls _, _, _, h, _, _ => by simp [keyOk] at h
theorem nall_of (I : Inv X pins σ C.H s) (hK : C.K = X.K) : ∀ (ks : List MV) (vs : List V) (us : List Value), keyOks ks = true → RepVs C ks vs → Vals vs us → NestedAll s.heap (nks ks) us
  | [], vs, us, _, h, r => by rw [h.nil_inv] at r; cases r; exact .nil
  | k :: ks, vs, us, hk, h, r => by
    obtain ⟨v, vr, rfl, h1, h2⟩ := h.cons_inv
    cases r with
    | cons r rr =>
      rw [keyOks, Bool.and_eq_true] at hk
      exact .cons (nis_of I hK k v _ hk.1 h1 r) (nall_of I hK ks vr _ hk.2 h2 rr)
end
end
def zipH : List MV → List Addr → List Value → List (NestedKey × Addr × Value)
  | k :: ks, p :: ps, u :: us => (nk k, p, u) :: zipH ks ps us
  | _, _, _ => []
theorem ents_zip {P : Program} {w : World} : ∀ (ks : List MV) (ps : List Addr) (us : List Value), keyOks ks = true → entsOf w ks ps us = (zipH ks ps us).map (entryOfKey (nestedKind P w))
  | [], ps, us, _ => rfl
  | _ :: _, [], us, _ => rfl
  | _ :: _, _ :: _, [], _ => rfl
  | k :: ks, p :: ps, u :: us, h => by
    rw [keyOks, Bool.and_eq_true] at h
    rw [entsOf, zipH, List.map_cons, ents_zip ks ps us h.2, hash_nk w k h.1]; rfl
theorem zip_keys : ∀ (ks : List MV) (ps : List Addr) (us : List Value), ks.length = ps.length → ks.length = us.length → (zipH ks ps us).map (·.1) = nks ks
  | [], ps, us, _, _ => by cases ps <;> rfl
  | _ :: _, [], us, h, _ => by simp at h
  | _ :: _, _ :: _, [], _, h => by simp at h
  | k :: ks, p :: ps, u :: us, h, h' => by
    rw [zipH, List.map_cons, nks, zip_keys ks ps us (by simpa using h) (by simpa using h')]
theorem nodup_nks {ks : List MV} (h : keyOks ks = true) (nd : (canons ks).Nodup) : (nks ks).Nodup := by
  have : ∀ ks : List MV, keyOks ks = true → (canons ks).Nodup → (nks ks).Nodup := by
    intro ks
    induction ks with
    | nil => intro _ _; exact List.nodup_nil
    | cons k ks ih =>
      intro h nd
      rw [keyOks, Bool.and_eq_true] at h
      rw [canons, List.nodup_cons] at nd
      rw [nks, List.nodup_cons]
      refine ⟨fun hm => nd.1 ?_, ih h.2 nd.2⟩
      rw [nks_map, List.mem_map] at hm
      obtain ⟨x, hx, e⟩ := hm
      have hxk : keyOk x = true := by
        have : ∀ ks : List MV, keyOks ks = true → ∀ x ∈ ks, keyOk x = true := by
          intro ks
          induction ks with
          | nil => intro _ x hx; cases hx
          | cons y ys ih =>
            intro h x hx
            rw [keyOks, Bool.and_eq_true] at h
            obtain e | e := List.mem_cons.mp hx
            · rw [e]; exact h.1
            · exact ih h.2 x e
        exact this ks h.2 x hx
      rw [← (nk_eq hxk h.1).mp e, canons_map]
      exact List.mem_map_of_mem hx
  exact this ks h nd
section
variable {X : Cx} {pins : List (Addr × Obj)} {s : Shared} {σ : L2.St} {C : RC}
theorem is_zip (I : Inv X pins σ C.H s) (hK : C.K = X.K) : ∀ (ks : List MV) (ps : List Addr) (us : List Value), keyOks ks = true → kdeps ks ≤ 8 → RepVs C ks (ps.map V.ref) → ∀ x ∈ zipH ks ps us, (nestedKind X.prog X.w).is s.heap x.1 x.2.1
  | [], ps, us, _, _, _, x, hx => by cases hx
  | _ :: _, [], us, _, _, _, x, hx => by cases hx
  | _ :: _, _ :: _, [], _, _, _, x, hx => by cases hx
  | k :: ks, p :: ps, u :: us, h, hd, r, x, hx => by
    rw [keyOks, Bool.and_eq_true] at h
    rw [kdeps] at hd
    obtain ⟨v, vr, e, r1, r2⟩ := r.cons_inv
    rw [List.map_cons] at e
    cases e
    obtain e | e := List.mem_cons.mp hx
    · subst e
      exact ⟨nis_of I hK k (.ref p) (.ref p) h.1 r1 rfl, by show (nk k).depth ≤ 8; rw [dep_nk]; omega⟩
    · exact is_zip I hK ks ps us h.2 (by omega) r2 x e
/-- the dict as the kit's rules see it -/
theorem dct_H {a : Addr} {ob : Obj} {es : Array DictEntry} {ep : Nat} {ks : List MV} {ps : List Addr} {us : List Value} (I : Inv X pins σ C.H s) (hw : C.w = X.w) (hK : C.K = X.K) (ha : C.H a = some (.ext fun h => h.get? a = some ob)) (ex : ob.ExactDict) (hd : ob.data = .dict es ep)
    (he : es.toList = entsOf C.w ks ps us) (ko : keyTs ks = true) (nd : (canons ks).Nodup) (rk : RepVs C ks (ps.map V.ref)) (lu : ks.length = us.length) : s.heap.DictOfH (nestedKind X.prog X.w) a (zipH ks ps us) := by
  rw [keyTs, Bool.and_eq_true] at ko
  have hg : s.heap.get? a = some ob := (I.hok a _ ha).1
  have lp : ks.length = ps.length := by have := rk.length; simpa using this
  refine ⟨ob, es, ep, hg, ex, hd, by rw [he, hw, ents_zip (P := X.prog) ks ps us ko.1], is_zip I hK ks ps us ko.1 (of_decide_eq_true ko.2) rk, ?_⟩
  rw [zip_keys ks ps us lp lu]
  exact nodup_nks ko.1 nd
end
theorem at_cons {K : Type} [DecidableEq K] {x : K × Addr × Value} {xs : List (K × Addr × Value)} {k : K} : atKey (x :: xs) k = if x.1 = k then some x.2 else atKey xs k := by
  unfold atKey
  rw [List.find?_cons]
  by_cases h : x.1 = k <;> simp [h]
theorem at_zip {C : RC} {k : MV} (hk : keyOk k = true) : ∀ (ks : List MV) (ps : List Addr) (us : List Value) (ds : List MV) (vs : List V), keyOks ks = true → ks.length = ps.length → RepVs C ds vs → Vals vs us → ks.length = ds.length →
    (match dlook (canons ks) ds (canon k) with
      | some d => ∃ p u v, atKey (zipH ks ps us) (nk k) = some (p, u) ∧ RelV v u ∧ RepV C d v
      | none => atKey (zipH ks ps us) (nk k) = none)
  | [], ps, us, ds, vs, _, _, _, _, _ => by
    have : zipH [] ps us = [] := by cases ps <;> rfl
    rw [this]; rfl
  | _ :: _, [], us, ds, vs, _, h, _, _, _ => by simp at h
  | k' :: ks, p :: ps, us, ds, vs, h, lp, r, rv, ld => by
    cases ds with
    | nil => simp at ld
    | cons d ds =>
      obtain ⟨v, vr, rfl, r1, r2⟩ := r.cons_inv
      cases rv with
      | cons q qq =>
        rename_i u us
        rw [keyOks, Bool.and_eq_true] at h
        rw [canons, dlook, zipH, at_cons]
        by_cases e : canon k' = canon k
        · have e' : nk k' = nk k := (nk_eq h.1 hk).mpr e
          simp only [e, if_true, e']
          exact ⟨p, u, v, rfl, q, r1⟩
        · have e' : ¬ nk k' = nk k := fun z => e ((nk_eq h.1 hk).mp z)
          have e2 : ¬ canon k' = canon k := e
          simp only [e', if_false]
          rw [if_neg (by exact e2)]
          exact at_zip hk ks ps us ds vr h.2 (by simpa using lp) r2 qq (by simpa using ld)
end Mi
set_option Elab.async false
set_option linter.all false
set_option maxRecDepth 100000
set_option maxHeartbeats 2000000
namespace Mi
open PySem PySem.Spec PyProof.Rows L2
def dcTOf (S : Sto) : MV → Option (List MV × List MV)
  | .dcT ks vs => some (ks, vs)
  | .ref n => (match S[n]? with
    | some (.dcT ks vs) => some (ks, vs)
    | _ => none)
  | _ => none
/-- a dict with tuple keys, and what stands for it -/
def RepT (C : RC) (a : Addr) (ks ds : List MV) : Prop := (a == sysModules) = false ∧ keyTs ks = true ∧ ((canons ks).Nodup) ∧ ks.length = ds.length ∧ ks.length ≤ sizeLine ∧
  ∃ (ob : Obj) (es : Array DictEntry) (ep : Nat) (ps : List Addr) (us : List Value) (kvs vs : List V),
    C.H a = some (.ext fun h => h.get? a = some ob) ∧ ob.ExactDict ∧ ob.data = .dict es ep ∧ es.toList = entsOf C.w ks ps us ∧ kvs = ps.map V.ref ∧ RepVs C ks kvs ∧ Vals vs us ∧ RepVs C ds vs
theorem dcTOf_rep {C : RC} {S : Sto} {d : MV} {v : V} {ks ds : List MV} (r : RepS C S) (h : RepV C d v) (e : dcTOf S d = some (ks, ds)) : ∃ a, v = .ref a ∧ RepT C a ks ds := by
  cases d with
  | dcT ks' ds' =>
    cases e
    rw [RepV] at h
    obtain ⟨a, rfl, fz, rest⟩ := h
    exact ⟨a, rfl, rest⟩
  | ref n =>
    rw [RepV] at h
    obtain ⟨a, rfl, ha⟩ := h
    have e : (match S[n]? with
      | some (.dcT ks vs) => some (ks, vs)
      | _ => none) = some (ks, ds) := e
    cases e0 : S[n]? with
    | none => rw [e0] at e; cases e
    | some mo =>
      rw [e0] at e
      have ro := r.ob n mo a e0 ha
      cases mo with
      | dcT ks' ds' => cases e; exact ⟨a, rfl, ro⟩
      | _ => cases e
  | _ => cases e
/-- a key of such a dict -/
def keyT : MV → Bool
  | .tup xs => keyOks xs && decide (kdeps xs + 1 ≤ 8)
  | _ => false
theorem keyT_ok {k : MV} (h : keyT k = true) : keyOk k = true ∧ kdep k ≤ 8 ∧ ∃ xs, k = .tup xs := by
  cases k with
  | tup xs =>
    rw [keyT, Bool.and_eq_true] at h
    exact ⟨h.1, of_decide_eq_true h.2, xs, rfl⟩
  | _ => cases h
section
variable {X : Cx}
theorem room_n {A : Around} (hu : A.units + 65 < cLine) : (nestedKind P w).room A.in1 := by
  show A.units + 1 + 8 < cLine
  omega
def ninTM (x c : MV) (S : Sto) : R MV := match dcTOf S c with
  | some (ks, ds) => if keyT x then .ok (.bl (!(dlook (canons ks) ds (canon x)).isSome)) S else .stk
  | none => .stk
theorem pu_ninT : Pure2 ninTM := by intro a b S c d S' h; unfold ninTM at h; split at h; (split at h <;> cases h); cases h
/-- the key and the dict in the heap -/
theorem look_T {pins : List (Addr × Obj)} {s : Shared} {σ : L2.St} {C : RC} {S : Sto} {x y : V} {v u : Value} {d1 d2 : MV} {ks ds : List MV} (I : Inv X pins σ C.H s) (rx : RelV x v) (ry : RelV y u) (hw : C.w = X.w) (hK : C.K = X.K) (r : RepS C S) (h1 : RepV C d1 x) (h2 : RepV C d2 y) (e : dcTOf S d2 = some (ks, ds)) (hk : keyT d1 = true) :
    ∃ (a b : Addr) (ps : List Addr) (us : List Value) (vs : List V), v = .ref a ∧ u = .ref b ∧ x = .ref a ∧ y = .ref b ∧ (b == sysModules) = false ∧ (nestedKind X.prog X.w).is s.heap (nk d1) a ∧ s.heap.DictOfH (nestedKind X.prog X.w) b (zipH ks ps us) ∧
      (match dlook (canons ks) ds (canon d1) with
        | some d => ∃ p u v, atKey (zipH ks ps us) (nk d1) = some (p, u) ∧ RelV v u ∧ RepV C d v
        | none => atKey (zipH ks ps us) (nk d1) = none) := by
  obtain ⟨k1, k2, xs, rfl⟩ := keyT_ok hk
  obtain ⟨b, rfl, sm, ko, nd, ll, lz, ob, es, ep, ps, us, kvs, vs, ha, ex, hd, he, hkv, rk, rv, rd⟩ := dcTOf_rep r h2 e
  have h1' := h1
  rw [RepV] at h1'
  obtain ⟨a, ws, rfl, _⟩ := h1'
  cases rx
  cases ry
  subst hkv
  have lu : ks.length = us.length := by rw [ll, rd.length, rv.length]
  refine ⟨a, b, ps, us, vs, rfl, rfl, rfl, rfl, sm, ⟨nis_of I hK _ _ _ k1 h1 rfl, by show (nk (MV.tup xs)).depth ≤ 8; rw [dep_nk]; exact k2⟩, dct_H I hw hK ha ex hd he ko nd rk lu, ?_⟩
  rw [keyTs, Bool.and_eq_true] at ko
  exact at_zip k1 ks ps us ds vs ko.1 (by have := rk.length; simpa using this) rd rv ll
theorem opM_ninT (hu : X.A.units + 65 < cLine) : OpR X (compareOp .NotIn) (rOf X ninTM) := by
  intro pins s σ H x y v u Q I rx ry rof
  obtain ⟨C, S, d1, d2, rfl, hw, hK, r, h1, h2, a, S', e, q⟩ := rof
  unfold ninTM at e
  split at e
  · rename_i ks ds e0
    split at e
    · rename_i hk
      cases e
      obtain ⟨a, b, ps, us, vs, rfl, rfl, rfl, rfl, sm, ik, hm, at'⟩ := look_T I rx ry hw hK r h1 h2 e0 hk
      refine notIn_keyed (kvs := pairsH (zipH ks ps us)) (room_n hu) ik sm ⟨_, hm, rfl⟩ ?_
      have : (valueAt (pairsH (zipH ks ps us)) (nk d1)).isSome = (dlook (canons ks) ds (canon d1)).isSome := by
        rw [valueAt_pairsH, Option.isSome_map]
        cases ed : dlook (canons ks) ds (canon d1) with
        | none => rw [ed] at at'; rw [at']; rfl
        | some d => rw [ed] at at'; obtain ⟨p, u, v, z, _⟩ := at'; rw [z]; rfl
      rw [this]
      exact ⟨.bl _, C.H, I.tok _, rfl, q C Grow.refl r _ (repB _)⟩
    · cases e
  · cases e
/-- d[k] -/
def idxTM (c x : MV) (S : Sto) : R MV := match dcTOf S c with
  | some (ks, ds) => if keyT x then (match dlook (canons ks) ds (canon x) with
    | some d => .ok d S
    | none => .stk) else .stk
  | none => .stk
theorem pu_ixT : Pure2 idxTM := by
  intro a b S c d S' h
  unfold idxTM at h
  split at h
  · split at h
    · split at h <;> cases h
    · cases h
  · cases h
theorem ixTM (hu : X.A.units + 65 < cLine) : IxR X (rOf X idxTM) := by
  intro value slice pins s σ H x y v u Q I rx ry rof hs
  obtain ⟨C, S, d1, d2, rfl, hw, hK, r, h1, h2, a, S', e, q⟩ := rof
  unfold idxTM at e
  split at e
  · rename_i ks ds e0
    split at e
    · rename_i hk
      split at e
      · rename_i d ed
        cases e
        obtain ⟨a, b, ps, us, vs, rfl, rfl, rfl, rfl, sm, ik, hm, at'⟩ := look_T I ry rx hw hK r h2 h1 e0 hk
        rw [ed] at at'
        obtain ⟨p, u, w', hp, rw', rd⟩ := at'
        exact tail_any hm.typeIs PySem.F.slot_dict_getitem.lookup (wpAny_getItem_heap (room_n hu) ik hm hp ⟨w', C.H, I.tok _, rw', q C Grow.refl r w' rd⟩) hs
      · cases e
    · cases e
  · cases e
end
end Mi
set_option Elab.async false
set_option linter.all false
set_option maxRecDepth 100000
set_option maxHeartbeats 2000000
namespace Mi
open PySem PySem.Spec PyProof.Rows L2
def gset {κ α : Type} [DecidableEq κ] : List κ → List α → κ → α → List α
  | k' :: ks, v :: vs, k, d => (if k' = k then d else v) :: gset ks vs k d
  | _, vs, _, _ => vs
def dputT (ks vs : List MV) (k d : MV) : List MV × List MV := if canon k ∈ canons ks then (ks, dsetV (canons ks) vs (canon k) d) else (ks ++ [k], vs ++ [d])
theorem gset_vals {κ : Type} [DecidableEq κ] {k : κ} {v : V} {u : Value} (q : RelV v u) : ∀ (ks : List κ) {vs : List V} {us : List Value}, Vals vs us → Vals (vsetV ks vs k v) (gset ks us k u)
  | [], vs, us, h => by
    have e1 : vsetV ([] : List κ) vs k v = vs := by cases vs <;> rfl
    have e2 : gset ([] : List κ) us k u = us := by cases us <;> rfl
    rw [e1, e2]; exact h
  | _ :: _, _, _, .nil => .nil
  | k' :: ks, _, _, .cons r rr => by
    rw [vsetV, gset]
    by_cases e : k' = k
    · rw [if_pos e, if_pos e]; exact .cons q (gset_vals q ks rr)
    · rw [if_neg e, if_neg e]; exact .cons r (gset_vals q ks rr)
theorem zip_put {k : MV} (hk : keyOk k = true) {u : Value} : ∀ (ks : List MV) (ps : List Addr) (us : List Value), keyOks ks = true → (zipH ks ps us).map (putAt (nk k) u) = zipH ks ps (gset (canons ks) us (canon k) u)
  | [], ps, us, _ => by
    have e2 : gset ([] : List MV) us (canon k) u = us := by cases us <;> rfl
    rw [canons, e2]
    cases ps <;> rfl
  | _ :: _, [], us, _ => by cases us <;> simp [zipH]
  | _ :: _, _ :: _, [], _ => by simp [zipH, canons, gset]
  | k' :: ks, p :: ps, u' :: us, h => by
    rw [keyOks, Bool.and_eq_true] at h
    rw [canons, gset, zipH, zipH, List.map_cons, zip_put hk ks ps us h.2]
    congr 1
    unfold putAt
    by_cases e : canon k' = canon k
    · rw [if_pos ((nk_eq h.1 hk).mpr e), if_pos e]
    · rw [if_neg (fun z => e ((nk_eq h.1 hk).mp z)), if_neg e]
theorem zip_app {k : MV} {a : Addr} {u : Value} : ∀ (ks : List MV) (ps : List Addr) (us : List Value), ks.length = ps.length → ks.length = us.length → zipH ks ps us ++ [(nk k, a, u)] = zipH (ks ++ [k]) (ps ++ [a]) (us ++ [u])
  | [], ps, us, h, h' => by
    have : ps = [] := List.eq_nil_of_length_eq_zero (by simpa using h.symm)
    have : us = [] := List.eq_nil_of_length_eq_zero (by simpa using h'.symm)
    subst_vars; rfl
  | _ :: _, [], us, h, _ => by simp at h
  | _ :: _, _ :: _, [], _, h => by simp at h
  | k' :: ks, p :: ps, u' :: us, h, h' => by
    rw [zipH, List.cons_append, zip_app ks ps us (by simpa using h) (by simpa using h')]; rfl
theorem keyOks_app : ∀ (ks : List MV) (k : MV), keyOks (ks ++ [k]) = (keyOks ks && keyOk k)
  | [], k => by simp [keyOks]
  | x :: ks, k => by rw [List.cons_append, keyOks, keyOks_app ks k, keyOks, Bool.and_assoc]
theorem kdeps_app : ∀ (ks : List MV) (k : MV), kdeps (ks ++ [k]) = max (kdeps ks) (kdep k)
  | [], k => by simp [kdeps]
  | x :: ks, k => by rw [List.cons_append, kdeps, kdeps_app ks k, kdeps]; omega
theorem canons_app (ks : List MV) (k : MV) : canons (ks ++ [k]) = canons ks ++ [canon k] := by rw [canons_map, canons_map, List.map_append]; rfl
theorem canons_len (ks : List MV) : (canons ks).length = ks.length := by rw [canons_map, List.length_map]
theorem dlook_mem {κ : Type} [DecidableEq κ] {k : κ} : ∀ (ks : List κ) (ds : List MV), ks.length = ds.length → ((dlook ks ds k).isSome ↔ k ∈ ks)
  | [], ds, _ => by cases ds <;> simp [dlook]
  | _ :: _, [], bad => by simp at bad
  | k' :: ks, d :: ds, h => by
    rw [dlook]
    by_cases e : k' = k
    · rw [if_pos e]; simp [e]
    · rw [if_neg e, dlook_mem ks ds (by simpa using h)]; simp [Ne.symm e]
def setTM (o i d : MV) (S : Sto) : Option Sto := match o with
  | .ref n => (match S[n]? with
    | some (.dcT ks vs) => if keyT i && decide (ks.length < sizeLine) then some (S.set n (.dcT (dputT ks vs i d).1 (dputT ks vs i d).2)) else none
    | _ => none)
  | _ => none
def rSetT (X : Cx) : TSet := fun o i v H Q => ∃ C S d1 d2 d3, C.H = H ∧ C.w = X.w ∧ C.K = X.K ∧ RepS C S ∧ RepV C d1 o ∧ RepV C d2 i ∧ RepV C d3 v ∧ ∃ S', setTM d1 d2 d3 S = some S' ∧ ∀ C', Grow C C' → RepS C' S' → Q C'.H
theorem psetTM {X : Cx} (hu : X.A.units + 65 < cLine) : PSet X (rSetT X) := by
  intro pins s σ H o i v ov iv u Q I ro ri rv rof
  obtain ⟨C, S, d1, d2, d3, rfl, hw, hK, r, h1, h2, h3, S', e, q⟩ := rof
  cases d1 with
  | ref n =>
    have h1' := h1
    rw [RepV] at h1'
    obtain ⟨b0, eo, hb⟩ := h1'
    unfold setTM at e
    dsimp only at e
    cases e0 : S[n]? with
    | none => rw [e0] at e; cases e
    | some mo =>
      rw [e0] at e
      cases mo with
      | dcT ks ds =>
        dsimp only at e
        split at e
        · rename_i hh
          rw [Bool.and_eq_true] at hh
          obtain ⟨hk, hz⟩ := hh
          have hz : ks.length < sizeLine := of_decide_eq_true hz
          cases e
          obtain ⟨k1, k2, xs, ed⟩ := keyT_ok hk
          have hd2 : dcTOf S (.ref n) = some (ks, ds) := by
            show (match S[n]? with
              | some (.dcT ks vs) => some (ks, vs)
              | _ => none) = _
            rw [e0]
          obtain ⟨b, rfl, sm, ko, nd, ll, lz, ob, es, ep, ps, us, kvs, vs, ha, ex, hd, he, hkv, rk, rvs, rd⟩ := dcTOf_rep r h1 hd2
          have : b0 = b := by cases eo; rfl
          subst this
          subst hkv
          have h2' := h2
          rw [ed, RepV] at h2'
          obtain ⟨a, ws, rfl, _⟩ := h2'
          cases ro
          cases ri
          have lu : ks.length = us.length := by rw [ll, rd.length, rvs.length]
          have lp : ks.length = ps.length := by have := rk.length; simpa using this
          have ko' := ko
          rw [keyTs, Bool.and_eq_true] at ko'
          have ik : (nestedKind X.prog X.w).is s.heap (nk d2) a := ⟨nis_of I hK _ _ _ k1 h2 rfl, by show (nk d2).depth ≤ 8; rw [dep_nk]; exact k2⟩
          have hm := dct_H I hw hK ha ex hd he ko nd rk lu
          have lenz : (zipH ks ps us).length = ks.length := by
            have := congrArg List.length (zip_keys ks ps us lp lu)
            rw [List.length_map, nks_map, List.length_map] at this; exact this
          have at' := at_zip k1 ks ps us ds vs ko'.1 lp rd rvs ll
          refine wpAny_setItem_heap (hsz := by rw [lenz]; omega) (room_n hu) ik hm fun h' hm' hs => ?_
          obtain ⟨ob', es', ep', ho', ex', hd', he', _, _⟩ := hm'
          -- the entries behind
          have new : ∃ (ks' : List MV) (ps' : List Addr) (us' : List Value) (ds' : List MV) (vs' : List V), dputT ks ds d2 d3 = (ks', ds') ∧ storedH (zipH ks ps us) (nk d2) a u = zipH ks' ps' us' ∧ keyTs ks' = true ∧ (canons ks').Nodup ∧ ks'.length = ds'.length ∧ ks'.length ≤ sizeLine ∧
              RepVs C ks' (ps'.map V.ref) ∧ Vals vs' us' ∧ RepVs C ds' vs' := by
            cases ed' : dlook (canons ks) ds (canon d2) with
            | some d =>
              rw [ed'] at at'
              obtain ⟨p, u', w', hp, _, _⟩ := at'
              have hmem : canon d2 ∈ canons ks := (dlook_mem (canons ks) ds (by rw [canons_len]; exact ll)).mp (by rw [ed']; rfl)
              have lds : (dsetV (canons ks) ds (canon d2) d3).length = ds.length := by
                have := (dsetV_rep (k := canon d2) h3 (ks := canons ks) rd).length
                rw [vsetV_len] at this
                rw [this, rd.length]
              refine ⟨ks, ps, gset (canons ks) us (canon d2) u, dsetV (canons ks) ds (canon d2) d3, vsetV (canons ks) vs (canon d2) v, by unfold dputT; rw [if_pos hmem], ?_, ko, nd, by rw [lds]; exact ll, lz, rk, gset_vals rv (canons ks) rvs, dsetV_rep h3 rd⟩
              rw [storedH_old hp, zip_put k1 ks ps us ko'.1]
            | none =>
              rw [ed'] at at'
              have hmem : canon d2 ∉ canons ks := fun z => by
                have := (dlook_mem (canons ks) ds (by rw [canons_len]; exact ll)).mpr z
                rw [ed'] at this; cases this
              refine ⟨ks ++ [d2], ps ++ [a], us ++ [u], ds ++ [d3], vs ++ [v], by unfold dputT; rw [if_neg hmem], ?_, ?_, ?_, by simp [ll], by simp; omega, ?_, rvs.append (.cons rv .nil), rd.append (.cons h3 .nil)⟩
              · rw [storedH_new at', zip_app ks ps us lp lu]
              · rw [keyTs, keyOks_app, ko'.1, k1, kdeps_app]
                have := of_decide_eq_true ko'.2
                simp; omega
              · rw [canons_app, List.nodup_append]
                refine ⟨nd, by simp, fun x hx y hy => ?_⟩
                have e : y = canon d2 := by simpa using hy
                subst e
                intro z; subst z; exact hmem hx
              · rw [List.map_append]
                exact rk.append (.cons h2 .nil)
          obtain ⟨ks', ps', us', ds', vs', n1, n2, n3, n4, n5, n6, n7, n8, n9⟩ := new
          have gw : ∀ {o : HO}, Grow C (C.put b0 o) := Grow.write (List.mem_of_getElem? hb)
          have n3' := n3
          rw [keyTs, Bool.and_eq_true] at n3'
          refine ⟨upd C.H b0 (.ext fun h => h.get? b0 = some ob'), I.write (e := b0) (by rw [ha]; trivial) (.inl rfl) (fun c u' hc hu' => (hs.2 c hc).trans hu') ⟨ob', ho'⟩ ⟨ho', ⟨ob', ho'⟩, fun h1 h2 p k => k _ p⟩, ?_⟩
          rw [n1] at q
          refine write_ok (mo := .dcT ks' ds') r hb ?_ q
          exact ⟨sm, n3, n4, n5, n6, ob', es', ep', ps', us', _, vs', put_same, ex', hd', by show es'.toList = entsOf C.w ks' ps' us'; rw [he', n2, hw, ents_zip (P := X.prog) ks' ps' us' n3'.1], rfl, n7.grow gw r, n8, n9.grow gw r⟩
        · cases e
      | _ => cases e
  | _ => cases e
end Mi
set_option Elab.async false
set_option linter.all false
set_option maxRecDepth 100000
set_option maxHeartbeats 4000000
namespace Mi
open PySem PySem.Spec PyProof.Rows L2
def mSubT (e o i : ME) : MS := fun ρ S => (e ρ S).thn ρ fun d S1 => (o ρ S1).thn ρ fun od S2 => (i ρ S2).thn ρ fun id S3 => match setTM od id d S3 with
  | some S4 => .nx ρ S4
  | none => .stk
section
variable {X : Cx} {W : WX} {e o i : Expr} {me mo mi : ME} {pos tpos apos : Pos}
theorem ss_subT (hu : X.A.units + 65 < cLine) (he : SE X W e me) (ho : SE X W o mo) (hi : SE X W i mi) (ha : SubAs X o i tpos := by intro _; rfl) (hs : swapsWithSole [.Subscript o i tpos] e pos.line X.env = pure false := by rfl) (hw : swappedStores [.Subscript o i tpos] e X.env = pure none := by rfl)
    (h1 : (assignEach [.Subscript o i tpos] X.env).map (·.2) = [assign (.Subscript o i tpos) X.env] := by rfl) : SS X W (.Assign [.Subscript o i tpos] e pos) (mSubT me mo mi) :=
  (ps_asg he (pg_sub ho hi (psetTM hu) ha) hs hw h1).imp fun D σ H ⟨C, ρ, S, e, s, q⟩ => by
    subst e
    refine tE.thn s q fun d S1 C1 v s1 g1 r1 q1 => ?_
    refine tE.thn s1 q1 fun od S2 C2 ov s2 g2 r2 q2 => ?_
    refine tE.thn s2 q2 fun id S3 C3 iv s3 g3 r3 q3 => ?_
    refine ⟨C3, S3, od, id, d, rfl, s3.w, s3.K, s3.rs, r2.grow g3 s2.rs, r3, (r1.grow g2 s1.rs).grow g3 s2.rs, ?_⟩
    cases e : setTM od id d S3 with
    | none => rw [e] at q3; exact q3.elim
    | some S4 =>
      rw [e] at q3
      exact ⟨S4, rfl, fun C' g r => q3 C' σ g r (s3.ev.grow g s3.rs) s3.ln⟩
end
def mWhile (c : MT) (b : MS) : Nat → MS
  | 0, _, _ => .stk
  | n + 1, ρ, S => (c ρ S).thn ρ fun x S1 => if x then (match b ρ S1 with
    | .nx ρ2 S2 => mWhile c b n ρ2 S2
    | r => r) else .nx ρ S1
section
variable {X : Cx} {W : WX} {c : Expr} {body : List Stmt} {mc : MT} {mb : MS} {pos : Pos}
theorem ss_while (n : Nat) (hp : PassesOwn (model X.prog X.w) X.A X.env X.xe) (hc : ST X W c mc) (hb : SSs X W body mb) : SS X W (.While c body [] pos) (mWhile mc mb n) :=
  (ps_while hp hc hb).imp fun D σ H ⟨C, ρ, S, e, s, q⟩ => by
    subst e
    refine ⟨fun m σ' H' => ∃ C' ρ' S', C'.H = H' ∧ Sv X ρ' σ' S' C' ∧ WantS W D C' (mWhile mc mb m ρ' S'), ⟨n, C, ρ, S, rfl, s, q⟩, ?_⟩
    rintro m σ' H' ⟨C', ρ', S', rfl, s', w⟩
    cases m with
    | zero => exact w.elim
    | succ m =>
      rw [mWhile] at w
      refine tT.thn s' w fun x S1 C1 s1 g1 q1 => ?_
      cases x with
      | false =>
        rw [if_neg (by decide)] at q1 ⊢
        exact q1 C1 σ' Grow.refl s1.rs s1.ev s1.ln
      | true =>
        rw [if_pos rfl] at q1 ⊢
        refine ⟨fun σ'' H'' => ∃ C' ρ' S', C'.H = H'' ∧ Sv X ρ' σ'' S' C' ∧ WantS W D C' (mWhile mc mb m ρ' S'), fun σ'' H'' h => ⟨m, Nat.lt_succ_self _, h⟩, C1, ρ', S1, rfl, s1, ?_⟩
        cases e : mb ρ' S1 with
        | nx ρ2 S2 =>
          rw [e] at q1
          exact fun C3 σ3 g3 r3 ev3 l3 => ⟨C3, ρ2, S2, rfl, ⟨g3.w.trans s1.w, g3.K.trans s1.K, r3, ev3, l3⟩, q1.grow g3⟩
        | rt d S2 => rw [e] at q1; exact q1
        | exc c d ρ2 S2 => rw [e] at q1; exact q1
        | stk => rw [e] at q1; exact q1
end
def mAugI (i : Nat) (e : ME) : MS := fun ρ S => match ρ[i]? with
  | some (some (.int a)) => (e ρ S).thn ρ fun d S1 => (match d with
    | .int b => .nx (ρ.set i (some (.int (a + b)))) S1
    | _ => .stk)
  | _ => .stk
section
variable {X : Cx} {W : WX} {e : Expr} {me : ME} {pos : Pos}
theorem ss_augI {i : Nat} {x : Str} {pos' : Pos} (hN : X.N.Nodup) (hi : X.N[i]? = some x) (hx : Loc X.env.scope x) (he : SE X W e me) (hf : X.fn x = true ∨ X.env.scope.names.lookup x = some .local := by first | exact .inl rfl | exact .inr rfl | assumption) :
    SS X W (.AugAssign (.Name x pos') .Add e pos) (mAugI i me) :=
  (ps_aug hN hi hx he ip_add hf).imp fun D σ H ⟨C, ρ, S, e, s, q⟩ => by
    subst e
    unfold mAugI at q
    split at q
    · rename_i a e1
      obtain ⟨v, e2, rv⟩ := s.ev i _ e1
      have ev := vInt rv
      subst ev
      refine ⟨.int a, e2, ?_⟩
      refine tE.thn s q fun d S1 C1 v s1 g1 r1 q1 => ?_
      split at q1
      · rename_i b
        have := vInt r1
        subst this
        exact ⟨a, b, rfl, rfl, q1 C1 _ Grow.refl s1.rs (s1.ev.set s1.ln (repI _)) (by simp [s1.ln])⟩
      · exact q1.elim
    · exact q.elim
end
end Mi
set_option Elab.async false
set_option linter.all false
set_option maxRecDepth 100000
set_option maxHeartbeats 4000000
namespace Mi
open PySem PySem.Spec PyProof.Rows L2
def mkDT (fr : Bool) (ks ds : List MV) (S : Sto) : R MV := if fr then .ok (.dcT ks ds) S else .ok (.ref S.length) (S ++ [.dcT ks ds])
def ob0 : Obj := { cls := .type "dict", data := .dict #[] }
/-- a display of one pair: what the pair is, then the dict that holds it -/
theorem disp1T {P : Program} {w : World} {κ : Type} [DecidableEq κ] {kn : HeapKind P w κ} {A : Around} {E : Value → Shared → Prop} {s : Shared} {env : Env} {k v : Expr} {pos : Pos} {Q : Value → Shared → Prop} (room : kn.room A)
    (pair : wpAny (model P w) A (evalPairs (pairTrees [some k] [v] env pos)) (fun vs s1 => ∃ ps, CarriesH kn s1.heap vs ps ∧ s1.heap.DictOfH kn s.heap.objs.size [] ∧
      ∀ g t, g.DictOfH kn s.heap.objs.size (storedAllH [] ps) → Heap.SameBut s.heap.objs.size s1.heap g → Q (.ref s.heap.objs.size) { s1 with heap := g, toks := t }) E { s with heap := s.heap.push ob0 }) :
    wpAny (model P w) A (eval (.Dict [some k] [v] pos) env) Q E s := by
  have sh : (evalEachOpt [some k] env).zip ((evalEach [v] env).map fun u => do let x ← u; standAt pos; pure x) = (pairTrees [some k] [v] env pos).map fun p => (some p.1, p.2) := rfl
  rw [arm_eval_Dict, sh, dictDisplay_pairs (pairTrees [some k] [v] env pos) (fun z => nomatch z) (Nat.le_of_ble_eq_true rfl)]
  apply wpAny_bind; apply wpAny_standAt; apply wpAny_bind
  refine wpAny_subDictH (Q := fun d t => wpAny (model P w) A (pure (.ref d)) Q E t) room (Nat.le_of_ble_eq_true rfl) (wpAny_mono pair ?_ fun _ _ z => z)
  rintro vs s1 ⟨ps, c1, c2, c3⟩
  exact ⟨ps, c1, c2, fun g t b1 b2 => wpAny_pure (c3 g t b1 b2)⟩
/-- the filled dict, told -/
theorem dictT_end {W : WX} {σ : L2.St} {C0 C : RC} {S0 S : Sto} {D : Addr} {Q : VK} {fr : Bool} {ks ds : List MV} (r0 : RepS C0 S0) (hD : C0.H D = none) (g : Grow C0 (C.rb C0)) (hb : ∀ a ∈ C0.bad, a ∈ C.bad) (rs : RepS C S) (hbD : D ∈ C.bad)
    (rt : RepT C D ks ds) (h : Wants W σ C0 (mkDT fr ks ds S) (fun d _ C' => ∀ v, RepV C' d v → Q v C'.H)) : Q (.ref D) C.H := by
  have nD : D ∉ C.ι := (rs.bad D hbD).1
  have nb : D ∉ C0.bad := fun m => (r0.bad D m).2 hD
  obtain ⟨sm, ko, nd, l, z, ob, es, ep, ps, us, kvs, vs, q, ex, hd, he, hk, tk, rv, t⟩ := rt
  cases fr with
  | true =>
    have h : Wants W σ C0 (.ok (.dcT ks ds) S) (fun d _ C' => ∀ v, RepV C' d v → Q v C'.H) := h
    refine h (C.rb C0) g (rs.rb hb) (.ref D) ?_
    rw [RepV]
    exact ⟨D, rfl, ⟨nD, nb⟩, sm, ko, nd, l, z, ob, es, ep, ps, us, kvs, vs, q, ex, hd, he, hk, tk.trn (Tr.rb (C0 := C0) hb), rv, t.trn (Tr.rb (C0 := C0) hb)⟩
  | false =>
    have h : Wants W σ C0 (.ok (.ref S.length) (S ++ [.dcT ks ds])) (fun d _ C' => ∀ v, RepV C' d v → Q v C'.H) := h
    obtain ⟨g2, rs2, rv2⟩ := adopt_ok (mo := .dcT ks ds) r0 hD g hb rs hbD fun C' tr e =>
      ⟨sm, ko, nd, l, z, ob, es, ep, ps, us, kvs, vs, e.trans q, ex, hd, by rw [tr.w]; exact he, hk, tk.trn tr, rv, t.trn tr⟩
    exact h _ g2 rs2 _ rv2
theorem ext0 {P : Program} {w : World} {H : Hp} {h : Heap} {p : Addr} {ob : Obj} (e : h.get? p = some ob) : ObjOk P w H h p (.ext fun h => h.get? p = some ob) := ⟨e, ⟨_, e⟩, fun _ _ q k => k _ q⟩
section
variable {X : Cx} {W : WX} {k v : Expr} {mk mv : ME} {pos : Pos}
/-- {}, to be a dict with tuple keys -/
theorem se_dnewT {fr : Bool} : SE X W (.Dict [] [] pos) (fun _ S => mkDT fr [] [] S) := by
  refine ⟨fun pins s σ H Q I ⟨C, ρ, S, e, sv, q⟩ => ?_⟩
  subst e
  have hn : C.H s.heap.objs.size = none := I.hok.fresh Nat.le.refl
  have hg : (s.heap.push ob0).get? s.heap.objs.size = some ob0 := Heap.get?_push_size _ rfl
  refine wpAny_Dict_empty ⟨.ref s.heap.objs.size, _, I.laid (a := s.heap.objs.size) (o := .ext fun h => h.get? s.heap.objs.size = some ob0) (t' := s.toks) (fun _ _ q => Heap.get?_push_of_some _ q) (Nat.le_refl _) (ext0 hg), rfl, ?_⟩
  refine dictT_end (C := C.fillO s.heap.objs.size (.ext fun h => h.get? s.heap.objs.size = some ob0)) (fr := fr) (ks := []) (ds := []) sv.rs hn (rb_step (Grow.refl (C := C)) (fun _ m => m) (Grow.fillO hn)) (fun a m => List.mem_cons_of_mem _ m) (sv.rs.fillO hn) List.mem_cons_self ?_ q
  exact ⟨beq_eq_false_iff_ne.mpr (Ne.symm (Nat.ne_of_lt I.big)), rfl, List.nodup_nil, rfl, Nat.zero_le _, ob0, #[], 0, [], [], [], [], upd_same, ⟨rfl, rfl, rfl⟩, rfl, rfl, rfl, .nil, .nil, .nil⟩
/-- {k: v} with a tuple k -/
def mDct1T (fr : Bool) (mk mv : ME) : ME := fun ρ S => (mk ρ S).bind fun kd S1 => (mv ρ S1).bind fun d S2 => if keyT kd then mkDT fr [kd] [d] S2 else .stk
theorem se_dict1T {fr : Bool} (hu : X.A.units + 65 < cLine) (hk : SE X W k mk) (hv : SE X W v mv) : SE X W (.Dict [some k] [v] pos) (mDct1T fr mk mv) := by
  refine ⟨fun pins s σ H Q I ⟨C, ρ, S, e, sv, q⟩ => ?_⟩
  subst e
  have hn : C.H s.heap.objs.size = none := I.hok.fresh Nat.le.refl
  have sm : (s.heap.objs.size == sysModules) = false := beq_eq_false_iff_ne.mpr (Ne.symm (Nat.ne_of_lt I.big))
  generalize hp : s.heap.objs.size = p at hn sm
  have hg : (s.heap.push ob0).get? p = some ob0 := by rw [← hp]; exact Heap.get?_push_size _ rfl
  have I1 := I.laid (a := p) (o := .ext fun h => h.get? p = some ob0) (h' := s.heap.push ob0) (t' := s.toks) (fun _ _ q => Heap.get?_push_of_some _ q) (Nat.le_of_eq hp) (ext0 hg)
  refine disp1T (kn := nestedKind X.prog X.w) (show X.A.units + 8 < cLine by omega) ?_
  rw [hp]
  have g1 : Grow C (C.fillO p (.ext fun h => h.get? p = some ob0)) := Grow.fillO hn
  have sv1 := sv.grow g1 (sv.rs.fillO hn)
  have hbp : p ∈ (C.fillO p (.ext fun h => h.get? p = some ob0)).bad := List.mem_cons_self
  refine thn ((pps_cons (pos := pos) hk hv pps_nil).run pins { s with heap := s.heap.push ob0 } σ _ (fun pr H2 => ∃ C2 S2 kd d x y, C2.H = H2 ∧ pr = [(x, y)] ∧ Grow (C.fillO p (.ext fun h => h.get? p = some ob0)) C2 ∧ RepS C2 S2 ∧ RepV C2 kd x ∧ RepV C2 d y ∧ keyT kd = true ∧ Wants W σ C (mkDT fr [kd] [d] S2) (fun d _ C' => ∀ v, RepV C' d v → Q v C'.H)) I1 ?_) fun vs s2 ⟨pr, H2, I2, rel, C2, S2, kd, d, x, y, e2, epr, g2, r2, rk, rv, hkt, q2⟩ => ?_
  · -- the pair
    show tE X W mk σ (C.fillO p (.ext fun h => h.get? p = some ob0)).H _
    unfold mDct1T at q
    have q' : Wants W σ (C.fillO p (.ext fun h => h.get? p = some ob0)) (mk ρ S) (fun kd S1 C1 => Wants W σ C ((mv ρ S1).bind fun d S2 => if keyT kd then mkDT fr [kd] [d] S2 else .stk) (fun d _ C' => ∀ v, RepV C' d v → Q v C'.H)) := by
      cases e1 : mk ρ S with
      | stk => rw [e1] at q; exact q
      | exc c d S1 =>
        rw [e1] at q
        exact fun C' cls dx g r x => q C' cls dx (g1.trans g) r x
      | ok kd S1 =>
        rw [e1] at q
        exact fun C1 g r => q
    refine ⟨_, ρ, S, rfl, sv1, q'.mono fun kd S1 C1 gg rr _ q1 x rx => ?_⟩
    have sv2 := sv1.grow gg rr
    have q'' : Wants W σ C1 (mv ρ S1) (fun d S2 C2 => keyT kd = true ∧ Wants W σ C (mkDT fr [kd] [d] S2) (fun d _ C' => ∀ v, RepV C' d v → Q v C'.H)) := by
      cases e1 : mv ρ S1 with
      | stk => rw [e1] at q1; exact q1
      | exc c d S2 =>
        rw [e1] at q1
        exact fun C' cls dx g r x => q1 C' cls dx (g1.trans (gg.trans g)) r x
      | ok d S2 =>
        rw [e1] at q1
        have q1 : Wants W σ C (if keyT kd then mkDT fr [kd] [d] S2 else .stk) (fun d _ C' => ∀ v, RepV C' d v → Q v C'.H) := q1
        intro C2 g r
        by_cases hk : keyT kd = true
        · rw [if_pos hk] at q1; exact ⟨hk, q1⟩
        · rw [if_neg hk] at q1; exact q1.elim
    show tE X W mv σ C1.H _
    refine ⟨C1, ρ, S1, rfl, sv2, q''.mono fun d S2 C2 g3 r3 _ q2 y ry => ?_⟩
    exact ⟨C2, S2, kd, d, x, y, rfl, rfl, gg.trans g3, r3, rx.grow g3 rr, ry, q2.1, q2.2⟩
  · subst e2
    subst epr
    cases rel with
    | @cons a b as bs hr t =>
      cases t
      obtain ⟨ru, rw'⟩ := hr
      obtain ⟨u, w2⟩ := b
      obtain ⟨k1, k2, xs, ekd⟩ := keyT_ok hkt
      have hK2 : C2.K = X.K := g2.K.trans sv1.K
      have hw2 : C2.w = X.w := g2.w.trans sv1.w
      have rk' := rk
      rw [ekd, RepV] at rk'
      obtain ⟨a, ws, rfl, _⟩ := rk'
      have eu : u = .ref a := by cases ru; rfl
      subst eu
      have ik : (nestedKind X.prog X.w).is s2.heap (nk kd) a := ⟨nis_of I2 hK2 _ _ _ k1 rk rfl, by show (nk kd).depth ≤ 8; rw [dep_nk]; exact k2⟩
      have z : C2.H p = some (.ext fun h => h.get? p = some ob0) := (g2.kp _ _ ((sv.rs.fillO hn).bad p hbp).1 upd_same).exact (.inl fun _ z => by cases z)
      have hb2 : p ∈ C2.bad := g2.bad' p hbp
      have hg2 : s2.heap.get? p = some ob0 := (I2.hok p _ z).1
      refine ⟨[(nk kd, a, w2)], ⟨rfl, rfl, ik, trivial⟩, ⟨ob0, #[], 0, hg2, ⟨rfl, rfl, rfl⟩, rfl, rfl, fun x hx => (by cases hx), List.nodup_nil⟩, fun h' tk hm' hs => ?_⟩
      obtain ⟨ob', es', ep', ho', ex', hd', he', _, _⟩ := hm'
      refine ⟨.ref p, upd C2.H p (.ext fun h => h.get? p = some ob'), I2.write (e := p) (by rw [z]; trivial) (.inl rfl) (fun c u' hc hu' => (hs.2 c hc).trans hu') ⟨ob', ho'⟩ ⟨ho', ⟨ob', ho'⟩, fun h1 h2 p k => k _ p⟩, rfl, ?_⟩
      have wr := Tr.wrG (o := .ext fun h => h.get? p = some ob') r2 hb2 z (by simp) (by simp)
      refine dictT_end (C := C2.put p (.ext fun h => h.get? p = some ob')) (fr := fr) (ks := [kd]) (ds := [d]) sv.rs hn (rb_wr (rb_step (Grow.refl (C := C)) (fun _ m => m) (g1.trans g2)) hn) (fun a m => g2.bad' a (List.mem_cons_of_mem _ m)) (r2.wrG hb2 z (by simp) (by simp)) hb2 ?_ q2
      refine ⟨sm, ?_, by rw [canons, canons]; simp, rfl, by simp [sizeLine_eq], ob', es', ep', [a], [w2], [.ref a], [_], put_same, ex', hd', ?_, rfl, (RepVs.cons rk .nil).trn wr, .cons rw' .nil, (RepVs.cons rv .nil).trn wr⟩
      · rw [keyTs, keyOks, keyOks, k1, kdeps, kdeps]
        simp; exact k2
      · rw [he', show storedAllH ([] : List (NestedKey × Addr × Value)) [(nk kd, a, w2)] = zipH [kd] [a] [w2] from rfl, ← ents_zip (P := X.prog) (w := X.w) [kd] [a] [w2] (by rw [keyOks, keyOks, k1]; rfl)]
        show _ = entsOf C2.w [kd] [a] [w2]
        rw [hw2]
end
end Mi
set_option Elab.async false
set_option linter.all false
set_option maxRecDepth 100000
set_option maxHeartbeats 4000000
namespace Mi
open PySem PySem.Spec PyProof.Rows L2
section
variable {X : Cx} {W : WX} {a b e : Expr} {ma mb me : ME} {pos : Pos} {x : Str}
theorem se_ixT (hu : X.A.units + 65 < cLine) (hs : PlainIx b) (ha : SE X W a ma) (hb : SE X W b mb) (hf : Pure2 idxTM) : SE X W (.Subscript a b pos) (mOp idxTM ma mb) :=
  (pe_ix (ixTM hu) ha hb hs).imp fun σ H Q h => op_imp hf h
theorem saug (i : Nat) {e : Expr} {me : ME} {pos' : Pos} (nd : X.N.Nodup) (he : SE X W e me) (hN : X.N[i]? = some x := by rfl) (hx : Loc X.env.scope x := by first | exact .inl rfl | exact .inr rfl) (hf : X.fn x = true ∨ X.env.scope.names.lookup x = some .local := by first | exact .inl rfl | exact .inr rfl | assumption) :
    SS X W (.AugAssign (.Name x pos') .Add e pos) (mAugI i me) := ss_augI nd hN hx he hf
end
end Mi
set_option Elab.async false
set_option linter.all false
set_option maxRecDepth 100000
set_option maxHeartbeats 4000000
namespace Mi
open PySem PySem.Spec PyProof.Rows L2
theorem zip_fst {α β : Type} : ∀ (ks : List α) (vs : List β), ks.length = vs.length → (ks.zip vs).map (·.1) = ks
  | [], _, _ => by simp
  | k :: ks, [], h => by simp at h
  | k :: ks, v :: vs, h => by simp [zip_fst ks vs (by simpa using h)]
end Mi
set_option Elab.async false
set_option linter.all false
set_option maxRecDepth 100000
set_option maxHeartbeats 4000000
namespace Mi
open PySem PySem.Spec PyProof.Rows L2
end Mi
set_option Elab.async false
set_option linter.all false
set_option maxRecDepth 100000
set_option maxHeartbeats 4000000
namespace Mi
open PySem PySem.Spec PyProof.Rows L2
/-- entry by entry the keys are the objects at qs -/
def KeysAre (es : Array DictEntry) (qs : List Addr) : Prop := es.size = qs.length ∧ ∀ (i : Nat) (q : Addr), qs[i]? = some q → ∃ en : DictEntry, es[i]? = some en ∧ en.key = .ref q
theorem keys_ents {w : World} {es : Array DictEntry} : ∀ (ks : List MV) (ps : List Addr) (us : List Value), ks.length = ps.length → us.length = ps.length → es.toList = entsOf w ks ps us → KeysAre es ps := by
  have go : ∀ (ks : List MV) (ps : List Addr) (us : List Value), ks.length = ps.length → us.length = ps.length → (entsOf w ks ps us).length = ps.length ∧ ∀ (i : Nat) (q : Addr), ps[i]? = some q → ∃ en : DictEntry, (entsOf w ks ps us)[i]? = some en ∧ en.key = .ref q := by
    intro ks
    induction ks with
    | nil =>
      intro ps us h1 _
      cases ps with
      | nil => exact ⟨rfl, fun i q e => by simp at e⟩
      | cons p ps => simp at h1
    | cons k ks ih =>
      intro ps us h1 h2
      cases ps with
      | nil => simp at h1
      | cons p ps =>
        cases us with
        | nil => simp at h2
        | cons u us =>
          obtain ⟨l, g⟩ := ih ps us (by simpa using h1) (by simpa using h2)
          refine ⟨by simp [entsOf, l], fun i q e => ?_⟩
          cases i with
          | zero =>
            have : p = q := by simpa using e
            subst this
            exact ⟨_, rfl, rfl⟩
          | succ i =>
            obtain ⟨en, e1, e2⟩ := g i q (by simpa using e)
            exact ⟨en, by simpa [entsOf] using e1, e2⟩
  intro ks ps us h1 h2 e
  obtain ⟨l, g⟩ := go ks ps us h1 h2
  refine ⟨by rw [← l, ← e, Array.length_toList], fun i q hq => ?_⟩
  obtain ⟨en, e1, e2⟩ := g i q hq
  exact ⟨en, by rw [← e, Array.getElem?_toList] at e1; exact e1, e2⟩
/-- the dict stands as it was laid -/
def Pinned (H : Hp) (d : Addr) (o : Obj) : Prop := H d = some (.ext fun h => h.get? d = some o)
def Itp (d : Addr) (o : Obj) (qs : List Addr) : It :=
  ⟨fun i H => Pinned H d o ∧ i < qs.length, fun i H x H' => H' = H ∧ ∃ q, qs[i]? = some q ∧ x = .ref q, fun i H => Pinned H d o ∧ qs.length ≤ i⟩
theorem pinned_at {X : Cx} {pins : List (Addr × Obj)} {σ : L2.St} {H : Hp} {s : Shared} {d : Addr} {o : Obj} (I : Inv X pins σ H s) (h : Pinned H d o) : s.heap.get? d = some o := (I.hok d _ h).1
theorem turn_pin {P : Program} {w : World} {K : PySem.W.Frag} {tg : Expr} {d : Addr} {o : Obj} {es : Array DictEntry} {ep : Nat} {qs : List Addr} (it : Addr) (hod : o.data = .dict es ep) (ka : KeysAre es qs) :
    Turn P w K tg (Itp d o qs) [it] it (fun i h => h.IsKeyIter it d i qs.length ep) := by
  have T0 : Turn P w K tg (Itkt d o (List.replicate qs.length ([], .non))) [it] it (fun i h => h.IsKeyIter it d i (List.replicate qs.length (([], .non) : List Key × V)).length ep) := turn_keysT it hod
  rw [List.length_replicate] at T0
  exact {
    mem := T0.mem
    obj := T0.obj
    keep := T0.keep
    self := T0.self
    item := by
      intro Y y1 y2 y3 hc i pins s τ H E I hf st hg
      subst y1; subst y2; subst y3
      have hlt : i < qs.length := hg.2
      have at_ := pinned_at I hg.1
      obtain ⟨en, hen, hkey⟩ := ka.2 i (qs[i]'hlt) (List.getElem?_eq_getElem hlt)
      refine next_key_item st at_ hod ka.1 hen fun h' st' sb => ?_
      have I1 : Inv Y pins τ H { s with heap := h' } := I.turnedL (ch := [it]) (t' := s.toks) (fun b ob nb e => (sb.2 b fun z => nb (by simp [z])).trans e) hf
      obtain ⟨oi, ho, hcl, hda⟩ := id st'
      exact ⟨en.key, rfl, go_of (s := { s with heap := h' }) ho hcl hda (by decide) ⟨.ref (qs[i]'hlt), H, I1, hkey, ⟨rfl, _, List.getElem?_eq_getElem hlt, rfl⟩, st', fun b hb => (hf b hb).1⟩⟩
    done := by
      intro Y y1 y2 y3 hc i pins s τ H E I hf st hg
      subst y1; subst y2; subst y3
      have at_ := pinned_at I hg.1
      exact next_key_end (I.ok.hd hc) st at_ hod ka.1 hg.2 fun h' eb => ⟨rfl, I.turnedL (ch := [it]) (t' := s.toks) (fun b ob nb e => eb b ob (fun z => nb (by simp [z])) e) hf⟩ }
theorem pi_pin {X : Cx} {tg e : Expr} {td : TE} (he : PE X e td) : PI X tg e (fun σ H R => td σ H fun x H1 => ∃ d o es ep qs, x = .ref d ∧ (d == sysModules) = false ∧ Pinned H1 d o ∧ o.ExactDict ∧ o.data = .dict es ep ∧ KeysAre es qs ∧ R (Itp d o qs) H1) := by
  constructor
  intro pins s σ H R I h
  refine thn (he.run pins s σ H _ I h) ?_
  rintro u s1 ⟨x, H1, I1, rx, d, o, es, ep, qs, rfl, hs, hp, hx, hod, ka, q⟩
  cases rx
  refine iter_keys hs (pinned_at I1 hp) hx hod (pi_one (tk := s1.toks) I1 _ (turn_pin _ hod ka) ⟨_, Heap.get?_push_size _ rfl, rfl, ?_⟩ q)
  rw [ka.1]; rfl
theorem src_dkt {X : Cx} {C0 : RC} {ks : List MV} {ps : List Addr} {p : Addr} {o : Obj} (n : Froz C0 p) (h : Pinned C0.H p o) (tk : RepVs C0 ks (ps.map V.ref)) : SrcW X (.dkt ks) (Itp p o ps) C0 := fun C S x r _ => by
  have h' : Pinned C.H p o := (x.froz _ _ n h).2.exact (.inl fun _ z => by cases z)
  have tk' := tk.trn x
  have ln : ks.length = ps.length := by have := tk.length; rwa [List.length_map] at this
  refine ⟨fun i hi => ⟨h', by rw [← ln]; exact hi⟩, ⟨h', by rw [← ln]; exact Nat.le_refl _⟩, fun i z H' hi y => ?_⟩
  obtain ⟨e2, q, e3, e4⟩ := y
  have e5 : (ps.map V.ref)[i]? = some z := by rw [List.getElem?_map, e3, e4]; rfl
  obtain ⟨d', h1, h2⟩ := tk'.get' e5
  exact ⟨C, d', e2.symm, Grow.refl, r, h1, h2⟩
def dktOf : MV → Sto → R Src
  | .dcT ks _, S => .ok (.dkt ks) S
  | _, _ => .stk
def mKeysT (m : ME) : Ev → Sto → R Src := fun ρ S => (m ρ S).bind dktOf
theorem si_dkt {X : Cx} {W : WX} {tg l : Expr} {ml : ME} (hl : SE X W l ml) : SI X W tg l (mKeysT ml) :=
  (pi_pin hl).imp fun σ H Q ⟨C, ρ, S, e, s, q⟩ => by
    subst e
    refine tE.bind s q fun d S1 C1 v s1 g1 r1 q1 => ?_
    cases d with
    | dcT ks ds =>
      rw [RepV] at r1
      obtain ⟨a, rfl, n, sm, ko, nd, l, z, ob, es, ep, ps, us, kvs, vs, hq, ex, hd, he, hk, tk, rv, t⟩ := r1
      have l1 : ks.length = ps.length := by
        have := tk.length
        rw [hk, List.length_map] at this; exact this
      have l2 : us.length = ps.length := by
        have h1 := rv.length
        have h2 := t.length
        omega
      refine ⟨a, ob, es, ep, ps, rfl, sm, hq, ex, hd, keys_ents ks ps us l1 l2 he, ?_⟩
      exact q1 C1 Grow.refl s1.rs _ (src_dkt n hq (by rw [← hk]; exact tk))
    | _ => exact q1.elim
theorem zipH_len : ∀ (ks : List MV) (ps : List Addr) (us : List Value), ks.length = ps.length → ks.length = us.length → (zipH ks ps us).length = ks.length
  | [], _, _, _, _ => by simp [zipH]
  | _ :: _, [], _, h, _ => by simp at h
  | _ :: _, _ :: _, [], _, h => by simp at h
  | k :: ks, p :: ps, u :: us, h1, h2 => by simp [zipH, zipH_len ks ps us (by simpa using h1) (by simpa using h2)]
def lenTM : List MV → Sto → R MV
  | [d], S => match dcTOf S d with
    | some (ks, _) => .ok (.int (ks.length : Nat)) S
    | none => .stk
  | _, _ => .stk
theorem pu_lenT : Pure1 lenTM := by
  intro ds S c d S' h
  unfold lenTM at h
  split at h
  · split at h <;> cases h
  · cases h
theorem crM_lenT {X : Cx} : CallR X (.builtin "len") (rCf X lenTM) := by
  intro pins s σ H vs us Q I rv h
  obtain ⟨C, S, ds, rfl, hw, hK, r, t, a, S', e, q⟩ := h
  unfold lenTM at e
  split at e
  · rename_i d
    obtain ⟨v, rfl, h1⟩ := one_of t
    cases hs : dcTOf S d with
    | none => rw [hs] at e; cases e
    | some z =>
      obtain ⟨ks, xs⟩ := z
      rw [hs] at e; cases e
      obtain ⟨b, rfl, sm, ko, nd, ll, lz, ob, es, ep, ps, vals, kvs, ws, ha, ex, hd, he, hkv, rk, rvv, rd⟩ := dcTOf_rep r h1 hs
      obtain ⟨u, rfl, ru⟩ := vals1 rv
      cases ru
      subst hkv
      have lu : ks.length = vals.length := by rw [ll, rd.length, rvv.length]
      have lp : ks.length = ps.length := by have := rk.length; simpa using this
      have hm := dct_H I hw hK ha ex hd he ko nd rk lu
      have zl := zipH_len ks ps vals lp lu
      refine call_len_dictH sm hm (by rw [zl]; rw [sizeLine_eq] at lz; omega) ?_
      rw [zl]
      exact ⟨.int (ks.length : Nat), C.H, I.tok _, ⟨_, rfl⟩, q C Grow.refl r _ (repI _)⟩
  · cases e
end Mi
set_option Elab.async false
set_option linter.all false
set_option maxRecDepth 100000
set_option maxHeartbeats 4000000
namespace Mi
open PySem PySem.Spec PyProof.Rows L2
def tsNil : List MV → MS
  | [], ρ, S => .nx ρ S
  | _ :: _, _, _ => .stk
def tsCons (o i : ME) (r : List MV → MS) : List MV → MS
  | d :: ds, ρ, S => (o ρ S).thn ρ fun od S2 => (i ρ S2).thn ρ fun id S3 => match setM od id d S3 with
    | some S4 => r ds ρ S4
    | none => .stk
  | [], _, _ => .stk
def mSubs (e : ME) (n : Nat) (r : List MV → MS) : MS := fun ρ S => (e ρ S).thn ρ fun d S1 => match d with
  | .tup xs => if xs.length = n then r xs ρ S1 else .stk
  | _ => .stk
def tSubs (X : Cx) (W : WX) (r : List MV → MS) : TGs := fun vs σ H Q => ∃ (D : Ends) (C : RC) (ρ : Ev) (S : Sto) (ds : List MV), D.nx = Q ∧ C.H = H ∧ Sv X ρ σ S C ∧ RepVs C ds vs ∧ WantS W D C (r ds ρ S)
theorem _root_.L2.PGs.imp' {X : Cx} {tg : List Expr} {t t' : TGs} (h : PGs X tg t) (k : ∀ v σ H Q, t' v σ H Q → t v σ H Q) : PGs X tg t' := ⟨fun pins s σ H v u Q I r q => h.run pins s σ H v u Q I r (k v σ H Q q)⟩
section
variable {X : Cx} {W : WX} {e o i : Expr} {me mo mi : ME} {es : List Expr} {r : List MV → MS} {pos tpos : Pos}
theorem sbs_nil : PGs X [] (tSubs X W tsNil) :=
  pgs_nil.imp' fun vs σ H Q ⟨D, C, ρ, S, ds, eD, eH, s, t, q⟩ => by
    cases ds with
    | nil =>
      have : vs = [] := t.nil_inv
      subst this; subst eD; subst eH
      exact ⟨rfl, q C σ Grow.refl s.rs s.ev s.ln⟩
    | cons d ds => exact q.elim
theorem sbs_cons (hu : X.A.units + 1 < cLine) (ho : SE X W o mo) (hi : SE X W i mi) (h2 : PGs X es (tSubs X W r)) (ha : SubAs X o i tpos := by intro _; rfl)
    (hs : (assignEach (.Subscript o i tpos :: es) X.env).map (·.2) = assign (.Subscript o i tpos) X.env :: (assignEach es X.env).map (·.2) := by rfl) : PGs X (.Subscript o i tpos :: es) (tSubs X W (tsCons mo mi r)) :=
  (pgs_cons (pg_sub ho hi (psetM hu) ha) h2 hs).imp' fun vs σ H Q ⟨D, C, ρ, S, ds, eD, eH, s, t, q⟩ => by
    subst eD; subst eH
    cases ds with
    | nil => exact q.elim
    | cons d ds =>
      obtain ⟨v, vr, rfl, r1, r2⟩ := t.cons_inv
      refine ⟨v, vr, rfl, ?_⟩
      refine tE.thn s q fun od S2 C2 ov s2 g2 ro q2 => ?_
      refine tE.thn s2 q2 fun id S3 C3 iv s3 g3 ri q3 => ?_
      refine ⟨C3, S3, od, id, d, rfl, s3.w, s3.K, s3.rs, ro.grow g3 s2.rs, ri, (r1.grow g2 s.rs).grow g3 s2.rs, ?_⟩
      cases e : setM od id d S3 with
      | none => rw [e] at q3; exact q3.elim
      | some S4 =>
        rw [e] at q3
        refine ⟨S4, rfl, fun C' g rs' => ⟨D, C', ρ, S4, ds, rfl, rfl, s3.grow g rs', ((r2.grow g2 s.rs).grow g3 s2.rs).grow g s3.rs, ?_⟩⟩
        exact WantS.grow q3 g
theorem ss_subs {n k : Nat} (hc : X.calm = true) (he : SE X W e me) (h : PGs X es (tSubs X W r)) (hn : (assignEach es X.env).length = n := by rfl) (hst : (assignEach es X.env).findIdx? (·.1) = none := by rfl)
    (hs : swapsWithSole [.Tuple es k tpos] e pos.line X.env = pure false := by rfl) (hw : swappedStores [.Tuple es k tpos] e X.env = pure none := by rfl)
    (h1 : (assignEach [.Tuple es k tpos] X.env).map (·.2) = [assign (.Tuple es k tpos) X.env] := by rfl) : SS X W (.Assign [.Tuple es k tpos] e pos) (mSubs me n r) :=
  (ps_asg he (pg_tup hc h hn hst) hs hw h1).imp fun D σ H ⟨C, ρ, S, e, s, q⟩ => by
    subst e
    refine tE.thn s q fun d S1 C1 v s1 g1 r1 q1 => ?_
    cases d with
    | tup xs =>
      dsimp only at q1
      split at q1
      · rename_i hl
        rw [RepV] at r1
        obtain ⟨a, vs, e, sq, t⟩ := r1
        exact ⟨a, vs, e, by rw [← s1.K]; exact sq, by rw [← t.length]; exact hl, D, C1, ρ, S1, xs, rfl, rfl, s1, t, q1⟩
      · exact q1.elim
    | _ => exact q1.elim
end
end Mi
set_option Elab.async false
set_option linter.all false
set_option maxRecDepth 100000
set_option maxHeartbeats 4000000
namespace Mi
open PySem PySem.Spec PyProof.Rows L2
def okv (S : Sto) (d e : MV) : Bool := SeqAt.shaped (pdF 8 S d) && (SeqAt.shaped (pdF 8 S e) && PyData.eqv (pdF 8 S d) (pdF 8 S e))
def okvs (S : Sto) : List MV → List MV → Bool
  | [], [] => true
  | d :: ds, e :: es => okv S d e && okvs S ds es
  | _, _ => false
def neDM (a b : MV) (S : Sto) : R MV := match dctOf S a with
  | some (ks, ds) => (match dctOf S b with
    | some (ls, es) => if ks = ls ∧ okvs S ds es = true then .ok (.bl false) S else .stk
    | none => .stk)
  | none => .stk
section
variable {X : Cx} {pins : List (Addr × Obj)} {σ : L2.St} {s : Shared} {C : RC} {S : Sto}
theorem val_eq (hu : X.A.units + 65 < cLine) (I : Inv X pins σ C.H s) (hK : C.K = X.K) (r : RepS C S) {d e : MV} {v w : V} {u y : Value} (h1 : RepV C d v) (h2 : RepV C e w) (r1 : RelV v u) (r2 : RelV w y) (k : okv S d e = true) : SeqAt.EqAt X.A.in1 s u y true := by
  unfold okv at k
  rw [Bool.and_eq_true, Bool.and_eq_true] at k
  obtain ⟨z1, z2, z3⟩ := k
  have D1 := pdF_dp r 8 d v h1 (SeqAt.canLay_of_shaped z1)
  have D2 := pdF_dp r 8 e w h2 (SeqAt.canLay_of_shaped z2)
  rw [hK] at D1 D2
  obtain ⟨as, q1⟩ := Dp.reads I _ v u D1 r1
  obtain ⟨bs, q2⟩ := Dp.reads I _ w y D2 r2
  have x := PySem.W.keq_at (A := X.A) q1 q2 z1 z2 (by show X.A.units + 1 + 64 < cLine; omega)
  rw [z3] at x
  exact x
theorem all_hits (hu : X.A.units + 65 < cLine) (I : Inv X pins σ C.H s) (hK : C.K = X.K) (r : RepS C S) {kb : List (Key × Value)} : ∀ (ks : List Key) (ds es : List MV) (vs ws : List V) (ka : List (Key × Value)), ks.length = vs.length → RepVs C ds vs → RepVs C es ws → okvs S ds es = true → KV (ks.zip vs) ka →
    (∀ (i : Nat) (k : Key) (w : V), ks[i]? = some k → ws[i]? = some w → ∃ y, valueAt kb k = some y ∧ RelV w y) → PySem.W.KeqHits X.A.in1 s kb ka true
  | [], ds, es, vs, ws, ka, _, _, _, _, kv, _ => by
    rw [List.zip_nil_left] at kv
    cases kv
    exact .nil
  | k :: ks, ds, es, [], ws, ka, l, _, _, _, _, _ => by simp at l
  | k :: ks, ds, es, v :: vs, ws, ka, l, t1, t2, ok, kv, h => by
    cases ds with
    | nil => have := t1.length; simp at this
    | cons d ds =>
      cases es with
      | nil => cases ok
      | cons e es =>
        obtain ⟨v1, vr, ev, p1, p2⟩ := t1.cons_inv
        cases ev
        obtain ⟨w, wr, rfl, p3, p4⟩ := t2.cons_inv
        rw [okvs, Bool.and_eq_true] at ok
        rw [List.zip_cons_cons] at kv
        cases kv with
        | @cons _ q _ ka rel rest =>
          obtain ⟨k2, u⟩ := q
          obtain ⟨ek, ru⟩ := rel
          have ek : k = k2 := ek
          subst ek
          obtain ⟨y, e1, e2⟩ := h 0 k w rfl rfl
          have x := PySem.W.KeqHits.hit e1 (val_eq hu I hK r p1 p3 ru e2 ok.1) (all_hits hu I hK r (kb := kb) ks ds es vs wr ka (by simpa using l) p2 p4 ok.2 rest fun i k' w' a b => h (i + 1) k' w' (by simpa using a) (by simpa using b))
          exact x
theorem opM_neD (hu : X.A.units + 65 < cLine) : OpR X (compareOp .NotEq) (rOf X neDM) := by
  intro pins s σ H x y v u Q I rx ry rof
  obtain ⟨C, S, d1, d2, rfl, hw, hK, r, h1, h2, a, S', e, q⟩ := rof
  unfold neDM at e
  cases e1 : dctOf S d1 with
  | none => rw [e1] at e; cases e
  | some z1 =>
    obtain ⟨ks, ds⟩ := z1
    rw [e1] at e
    dsimp only at e
    cases e2 : dctOf S d2 with
    | none => rw [e2] at e; cases e
    | some z2 =>
      obtain ⟨ls, es⟩ := z2
      rw [e2] at e
      dsimp only at e
      split at e
      · rename_i hh
        obtain ⟨hks, hv⟩ := hh
        subst hks
        cases e
        obtain ⟨p, vs, rfl, rd1, l1, nd1, t1⟩ := dctOf_rep r h1 e1
        obtain ⟨p', ws, rfl, rd2, l2, nd2, t2⟩ := dctOf_rep r h2 e2
        cases rx; cases ry
        obtain ⟨_, hs1, ka, kv1, m1⟩ := dk_rd I.hok rd1
        obtain ⟨_, hs2, kb, kv2, m2⟩ := dk_rd I.hok rd2
        have len1 : ka.length = ks.length := by
          have := Paired.length kv1
          rw [List.length_zip] at this; omega
        have len2 : kb.length = ks.length := by
          have := Paired.length kv2
          rw [List.length_zip] at this; omega
        have nk : (kb.map (·.1)).Nodup := by
          have : ∀ (xs : List (Key × V)) (ys : List (Key × Value)), KV xs ys → ys.map (·.1) = xs.map (·.1) := by
            intro xs ys h
            induction h with
            | nil => rfl
            | cons rel _ ih => rw [List.map_cons, List.map_cons, ih, rel.1]
          rw [this _ _ kv2, zip_fst ks ws l2]; exact nd2
        refine PySem.W.keq_ne hs1 hs2 m1 m2 (by omega) (fun _ => all_hits hu I hK r (kb := kb) ks ds es vs ws ka l1 t1 t2 hv kv1 fun i k w a b => ?_) ?_
        · obtain ⟨y, g1, g2⟩ := kv_get kv2 (i := i) (k := k) (v := w) (by rw [List.getElem?_zip_eq_some]; exact ⟨a, b⟩)
          exact ⟨y, valueAt_of_get nk g1, g2⟩
        · have : (!(ka.length == kb.length && true)) = false := by simp [len1, len2]
          rw [this]
          exact ⟨.bl false, C.H, I, rfl, q C Grow.refl r _ (repB _)⟩
      · cases e
end
theorem pu_neD : Pure2 neDM := by
  intro a b S c d S' h
  unfold neDM at h
  split at h
  · split at h
    · split at h <;> cases h
    · cases h
  · cases h
end Mi
set_option Elab.async false
set_option linter.all false
set_option maxRecDepth 100000
set_option maxHeartbeats 4000000
namespace Mi
open PySem PySem.Spec PyProof.Rows L2
def mPar (i j : Nat) (m : MA) : MS := fun ρ S => (m ρ S).thn ρ fun ds S1 => match ds with
  | [d, e] => .nx ((ρ.set i (some d)).set j (some e)) S1
  | _ => .stk
abbrev NoSwap (X : Cx) (t e : Expr) (pos : Pos) : Prop := swapsWithSole [t] e pos.line X.env = pure false
section
variable {X : Cx} {W : WX} {a b : Expr} {m : MA} {pos : Pos}
theorem ss_par {i j : Nat} {x y : Str} {px py pt pt2 : Pos} {kt k2 : Nat} (hc : X.calm = true) (hN : X.N.Nodup) (hi : X.N[i]? = some x) (hj : X.N[j]? = some y) (hij : i ≠ j)
    (hx : X.env.scope.names.lookup x = some .local) (hy : X.env.scope.names.lookup y = some .local) (ha : SA X W [a, b] m)
    (hw : swappedStores [.Tuple [.Name x px, .Name y py] kt pt] (.Tuple [a, b] k2 pt2) X.env = pure (some [x, y]) := by rfl)
    (h0 : NoSwap X (.Tuple [.Name x px, .Name y py] kt pt) (.Tuple [a, b] k2 pt2) pos := by rfl) :
    SS X W (.Assign [.Tuple [.Name x px, .Name y py] kt pt] (.Tuple [a, b] k2 pt2) pos) (mPar i j m) :=
  (ps_par hc hN hi hj hij hx hy ha hw h0).imp fun D σ H ⟨C, ρ, S, e, s, q⟩ => by
    subst e
    refine ⟨C, ρ, S, rfl, s, (WantS.thn s q).mono fun ds S1 C1 g1 r1 _ q1 vs t => ?_⟩
    have s1 := s.grow g1 r1
    cases ds with
    | nil => exact q1.1.elim
    | cons d ds =>
      cases ds with
      | nil => exact q1.1.elim
      | cons e ds =>
        cases ds with
        | cons _ _ => exact q1.1.elim
        | nil =>
          obtain ⟨v, vr, rfl, h1, t2⟩ := t.cons_inv
          obtain ⟨w, wr, rfl, h2, t3⟩ := t2.cons_inv
          cases t3.nil_inv
          have l1 : (ρ.set i (some d)).length = (σ.set i (some v)).length := by rw [List.length_set, List.length_set]; exact s1.ln
          refine ⟨v, w, rfl, q1.1 C1 _ Grow.refl r1 ((s1.ev.set s1.ln h1).set l1 h2) ?_⟩
          rw [List.length_set, List.length_set, List.length_set, List.length_set]; exact s1.ln
end
end Mi
set_option Elab.async false
set_option linter.all false
set_option maxRecDepth 100000
set_option maxHeartbeats 4000000
namespace Lw
open PySem PySem.Spec PyProof.Rows L2 Mi
/-- what the head tells -/
structure Gs (K : PySem.W.Frag) (mg : Str → Option Value) : Prop where
  b_all : mg "all" = none
  b_any : mg "any" = none
  b_bool : mg "bool" = none
  b_enumerate : mg "enumerate" = none
  b_int : mg "int" = none
  b_isinstance : mg "isinstance" = none
  b_len : mg "len" = none
  b_list : mg "list" = none
  b_max : mg "max" = none
  b_range : mg "range" = none
  b_str : mg "str" = none
  b_sum : mg "sum" = none
  b_tuple : mg "tuple" = none
  b_zip : mg "zip" = none
  k_BLANK : KC mg K "BLANK" d_BLANK
  k_FAULTS : KC mg K "FAULTS" d_FAULTS
  k_PARTS : KC mg K "PARTS" d_PARTS
  k_VALUES : KC mg K "VALUES" d_VALUES
  gc_Rule : mg "Rule" = some (.ref (He.ga K "Rule"))
  c_Rule : Cls K (He.ga K "Rule")
  n_Rule_checking : NoAttr K (He.ga K "Rule") "checking"
  n_Rule_halves : NoAttr K (He.ga K "Rule") "halves"
  n_Rule_singles : NoAttr K (He.ga K "Rule") "singles"
  n_Rule_telling : NoAttr K (He.ga K "Rule") "telling"
  mk_Rule : Mk K (He.ga K "Rule") (He.ma K (He.ga K "Rule") "__init__")
def m_law_begin_s0 : MS := (mRet (mCell (mCons (mCallF (lstM true) (mCons (mVar 0) mNil)) (mCons (mC (.int 0)) (mCons (mC (.int 0)) (mCons (mC (.int 7)) mNil))))))
def m_law_begin : MF := mFn 1 (m_law_begin_s0)
theorem sc_m_law_begin : FnScope ["_law_script"] ["_law_script"] (defScope s_law_begin) := ⟨rfl, rfl, rfl, by decide +kernel, rfl, by decide +kernel, by decide +kernel⟩
theorem ok_law_begin {P : Program} {w : PySem.World} {K : PySem.W.Frag} {mg : Str → Option Value} {base : Heap} {f : Addr} {fd : FuncData} (g : Gs K mg) (F : FunD K "_law_begin" "_law_begin" (defArgs s_law_begin) (defBody s_law_begin) (defScope s_law_begin) [] [] f fd) (hg : mg "_law_begin" = some (.ref f)) : FN P w K mg base 1 1 "_law_begin" m_law_begin := by
  refine ⟨f, fd, ["_law_script"], ?_, hg, F.kp, F.bindsN fun _ _ _ _ _ _ us hl => match us, hl with | [_], _ => rfl⟩
  refine F.ok sc_m_law_begin (fun vs H Q E h => h.1) (fun cdv A outer s H vs Q E hr h => body_ok (m := m_law_begin_s0) (by decide) ?_ h)
  exact (sss_one (ss_ret (se_cell (sa_cons (se_callTy (crM_list true) pu_list rfl g.b_list bt_list (sa_cons (sv 0) sa_nil)) (sa_cons se_int (sa_cons se_int (sa_cons se_int sa_nil)))) (lenCons (lenCons (lenCons (lenCons lenNil)))) (by decide))))
def m_law_values_s0 : MS := (mRet (mLst (mCons (mLst (mCons (mC (.str "none")) (mCons (mC (.str "room")) (mCons (mC (.str "both")) mNil)))) (mCons (mLst (mCons (mC (.str "keep")) (mCons (mC (.str "move")) (mCons (mC (.str "reset")) mNil)))) (mCons (mLst (mCons (mC (.str "left")) (mCons (mC (.str "undone")) mNil))) (mCons (mLst (mCons (mC (.str "now")) (mCons (mC (.str "seen")) mNil))) mNil))))))
def m_law_values : MF := mFn 0 (m_law_values_s0)
theorem sc_m_law_values : FnScope [] [] (defScope s_law_values) := ⟨rfl, rfl, rfl, by decide +kernel, rfl, by decide +kernel, by decide +kernel⟩
theorem ok_law_values {P : Program} {w : PySem.World} {K : PySem.W.Frag} {mg : Str → Option Value} {base : Heap} {f : Addr} {fd : FuncData} (g : Gs K mg) (F : FunD K "_law_values" "_law_values" (defArgs s_law_values) (defBody s_law_values) (defScope s_law_values) [] [] f fd) (hg : mg "_law_values" = some (.ref f)) : FN P w K mg base 1 0 "_law_values" m_law_values := by
  refine ⟨f, fd, [], ?_, hg, F.kp, F.bindsN fun _ _ _ _ _ _ us hl => match us, hl with | [], _ => rfl⟩
  refine F.ok sc_m_law_values (fun vs H Q E h => h.1) (fun cdv A outer s H vs Q E hr h => body_ok (m := m_law_values_s0) (by decide) ?_ h)
  exact (sss_one (ss_ret (se_lst (sa_cons (se_lst (sa_cons se_str (sa_cons se_str (sa_cons se_str sa_nil))) (lenCons (lenCons (lenCons lenNil))) (by decide)) (sa_cons (se_lst (sa_cons se_str (sa_cons se_str (sa_cons se_str sa_nil))) (lenCons (lenCons (lenCons lenNil))) (by decide)) (sa_cons (se_lst (sa_cons se_str (sa_cons se_str sa_nil)) (lenCons (lenCons lenNil)) (by decide)) (sa_cons (se_lst (sa_cons se_str (sa_cons se_str sa_nil)) (lenCons (lenCons lenNil)) (by decide)) sa_nil)))) (lenCons (lenCons (lenCons (lenCons lenNil)))) (by decide))))
theorem px_law_values : ∀ S c d S', m_law_values [] S ≠ .exc c d S' := by intro S c d S' h; first | (exact absurd h (by intro h; cases h)) | cases h
def m_law_draw_s2 : MS := (mAsg (mOp idxM (mOp idxM (mVar 0) (mC (.int 0))) (mOp idxM (mVar 0) (mC (.int 1)))) (tgName 3))
def m_law_draw_s3 : MS := (mSub (mOp addM (mOp idxM (mVar 0) (mC (.int 1))) (mC (.int 1))) (mVar 0) (mC (.int 1)))
def m_law_draw_s5 : MS := (mSub (mVar 3) (mVar 0) (mC (.int 2)))
def m_law_draw_s6 : MS := (mSub (mOp modM (mCallF intM (mCons (mOp addM (mOp addM (mOp mulM (mOp idxM (mVar 0) (mC (.int 3))) (mC (.int 48271))) (mOp mulM (mVar 3) (mC (.int 69621)))) (mC (.int 11))) mNil)) (mC (.int 2147483647))) (mVar 0) (mC (.int 3)))
def m_law_draw_s4 : MS := (mIfS (mTest (mOp geM (mVar 3) (mOp powM (mC (.int 10)) (mC (.int 18))))) m_law_draw_s5 m_law_draw_s6)
def m_law_draw_s7 : MS := (mSub (mOp modM (mCallF intM (mCons (mOp addM (mOp mulM (mOp idxM (mVar 0) (mC (.int 3))) (mC (.int 48271))) (mC (.int 7))) mNil)) (mC (.int 2147483647))) (mVar 0) (mC (.int 3)))
def m_law_draw_s1 : MS := (mIfS (mTest (mOp ltM (mOp idxM (mVar 0) (mC (.int 1))) (mCallF lenM (mCons (mOp idxM (mVar 0) (mC (.int 0))) mNil)))) (mSeq m_law_draw_s2 (mSeq m_law_draw_s3 m_law_draw_s4)) m_law_draw_s7)
def m_law_draw_s0 : MS := (mIfS (mTest (mOp eqM (mOp idxM (mVar 0) (mC (.int 2))) (mC (.int 0)))) m_law_draw_s1 mNext)
def m_law_draw_s9 : MS := (mAsg (mOp modM (mCallF intM (mCons (mOp idxM (mVar 0) (mC (.int 2))) mNil)) (mVar 1)) (tgName 2))
def m_law_draw_s10 : MS := (mSub (mOp fdivM (mOp idxM (mVar 0) (mC (.int 2))) (mVar 1)) (mVar 0) (mC (.int 2)))
def m_law_draw_s11 : MS := (mRet (mVar 2))
def m_law_draw_s8 : MS := (mIfS (mTest (mOp gtM (mOp idxM (mVar 0) (mC (.int 2))) (mC (.int 0)))) (mSeq m_law_draw_s9 (mSeq m_law_draw_s10 m_law_draw_s11)) mNext)
def m_law_draw_s12 : MS := (mRet (mOp modM (mOp modM (mCallF intM (mCons (mOp mulM (mOp idxM (mVar 0) (mC (.int 3))) (mC (.int 16807))) mNil)) (mC (.int 2147483629))) (mVar 1)))
def m_law_draw : MF := mFn 4 ((mSeq m_law_draw_s0 (mSeq m_law_draw_s8 m_law_draw_s12)))
theorem sc_m_law_draw : FnScope ["_law_draws", "_law_size", "_law_found", "_law_cell"] ["_law_draws", "_law_size"] (defScope s_law_draw) := ⟨rfl, rfl, rfl, by decide +kernel, rfl, by decide +kernel, by decide +kernel⟩
theorem ok_law_draw {P : Program} {w : PySem.World} {K : PySem.W.Frag} {mg : Str → Option Value} {base : Heap} {f : Addr} {fd : FuncData} (g : Gs K mg) (F : FunD K "_law_draw" "_law_draw" (defArgs s_law_draw) (defBody s_law_draw) (defScope s_law_draw) [] [] f fd) (hg : mg "_law_draw" = some (.ref f)) : FN P w K mg base 1 2 "_law_draw" m_law_draw := by
  refine ⟨f, fd, ["_law_draws", "_law_size"], ?_, hg, F.kp, F.bindsN fun _ _ _ _ _ _ us hl => match us, hl with | [_, _], _ => rfl⟩
  refine F.ok sc_m_law_draw (fun vs H Q E h => h.1) (fun cdv A outer s H vs Q E hr h => body_ok (m := (mSeq m_law_draw_s0 (mSeq m_law_draw_s8 m_law_draw_s12))) (by decide) ?_ h)
  exact (sss_cons (ss_if (st_cmp (opM_eq (Room.u64 hr)) pu_eq (nomark _) (se_ix (Room.u1 hr) (fun _ _ => rfl) (sv 0) se_int pu_ix) se_int) (sss_one (ss_if (st_cmp (opM_int op_lt) pu_cmpI (nomark _) (se_ix (Room.u1 hr) (fun _ _ => rfl) (sv 0) se_int pu_ix) (se_callB crM_len pu_len rfl g.b_len bt_len (sa_cons (se_ix (Room.u1 hr) (fun _ _ => rfl) (sv 0) se_int pu_ix) sa_nil))) (sss_cons (sset 3 sc_m_law_draw.nd (se_ix (Room.u1 hr) (fun _ _ => rfl) (se_ix (Room.u1 hr) (fun _ _ => rfl) (sv 0) se_int pu_ix) (se_ix (Room.u1 hr) (fun _ _ => rfl) (sv 0) se_int pu_ix) pu_ix)) (sss_cons (ss_sub (Room.u1 hr) (se_op opM_add pu_add (se_ix (Room.u1 hr) (fun _ _ => rfl) (sv 0) se_int pu_ix) se_int) (sv 0) se_int) (sss_one (ss_if (st_cmp (opM_int op_ge) pu_cmpI (nomark _) (sv 3) (se_op opM_pow pu_pow se_int se_int)) (sss_one (ss_sub (Room.u1 hr) (sv 3) (sv 0) se_int)) (sss_one (ss_sub (Room.u1 hr) (se_op opM_mod pu_mod (se_callTy crM_int pu_int rfl g.b_int bt_int (sa_cons (se_op opM_add pu_add (se_op opM_add pu_add (se_op opM_mul pu_mul (se_ix (Room.u1 hr) (fun _ _ => rfl) (sv 0) se_int pu_ix) se_int) (se_op opM_mul pu_mul (sv 3) se_int)) se_int) sa_nil)) se_int) (sv 0) se_int)))))) (sss_one (ss_sub (Room.u1 hr) (se_op opM_mod pu_mod (se_callTy crM_int pu_int rfl g.b_int bt_int (sa_cons (se_op opM_add pu_add (se_op opM_mul pu_mul (se_ix (Room.u1 hr) (fun _ _ => rfl) (sv 0) se_int pu_ix) se_int) se_int) sa_nil)) se_int) (sv 0) se_int)))) sss_nil) (sss_cons (ss_if (st_cmp (opM_int op_gt) pu_cmpI (nomark _) (se_ix (Room.u1 hr) (fun _ _ => rfl) (sv 0) se_int pu_ix) se_int) (sss_cons (sset 2 sc_m_law_draw.nd (se_op opM_mod pu_mod (se_callTy crM_int pu_int rfl g.b_int bt_int (sa_cons (se_ix (Room.u1 hr) (fun _ _ => rfl) (sv 0) se_int pu_ix) sa_nil)) (sv 1))) (sss_cons (ss_sub (Room.u1 hr) (se_op opM_fdiv pu_fdiv (se_ix (Room.u1 hr) (fun _ _ => rfl) (sv 0) se_int pu_ix) (sv 1)) (sv 0) se_int) (sss_one (ss_ret (sv 2))))) sss_nil) (sss_one (ss_ret (se_op opM_mod pu_mod (se_op opM_mod pu_mod (se_callTy crM_int pu_int rfl g.b_int bt_int (sa_cons (se_op opM_mul pu_mul (se_ix (Room.u1 hr) (fun _ _ => rfl) (sv 0) se_int pu_ix) se_int) sa_nil)) se_int) (sv 1))))))
def m_law_parts_s0 : MS := (mRet (mLc false [1] (mSrc (mCallF m_law_values mNil)) (tgName 1) mTrue (mOp idxM (mVar 1) (mCallF m_law_draw (mCons (mVar 0) (mCons (mCallF lenM (mCons (mVar 1) mNil)) mNil))))))
def m_law_parts : MF := mFn 2 (m_law_parts_s0)
theorem sc_m_law_parts : FnScope ["_law_draws", "_law_some"] ["_law_draws"] (defScope s_law_parts) := ⟨rfl, rfl, rfl, by decide +kernel, rfl, by decide +kernel, by decide +kernel⟩
theorem ok_law_parts {P : Program} {w : PySem.World} {K : PySem.W.Frag} {mg : Str → Option Value} {base : Heap} {f : Addr} {fd : FuncData} (g : Gs K mg) (h_law_values : FN P w K mg base 1 0 "_law_values" m_law_values) (h_law_draw : FN P w K mg base 1 2 "_law_draw" m_law_draw) (F : FunD K "_law_parts" "_law_parts" (defArgs s_law_parts) (defBody s_law_parts) (defScope s_law_parts) [] [] f fd) (hg : mg "_law_parts" = some (.ref f)) : FN P w K mg base 2 1 "_law_parts" m_law_parts := by
  refine ⟨f, fd, ["_law_draws"], ?_, hg, F.kp, F.bindsN fun _ _ _ _ _ _ us hl => match us, hl with | [_], _ => rfl⟩
  refine F.ok sc_m_law_parts (fun vs H Q E h => h.1) (fun cdv A outer s H vs Q E hr h => body_ok (m := m_law_parts_s0) (by decide) ?_ h)
  exact (sss_one (ss_ret (se_lc (fr := false) (own := [("_law_some", 1)]) rfl sc_m_law_parts.nd (si_seq (se_callN0 h_law_values hr (by decide) rfl px_law_values)) (blkOk_by rfl) (fun _ _ _ _ _ => (sn 1 sc_m_law_parts.nd)) (fun _ _ _ _ _ => sts_nil) (fun _ _ _ _ _ => (se_ix (Room.u1 hr) (fun _ _ => rfl) (sv 1) (se_callN h_law_draw hr (by decide) rfl takesNo (sa_cons (sv 0) (sa_cons (se_callB crM_len pu_len rfl g.b_len bt_len (sa_cons (sv 1) sa_nil)) sa_nil)) (lenCons (lenCons lenNil))) pu_ix)) (by decide))))
def m_law_hour_step_s0 : MS := (mAsg (mCallF m_law_draw (mCons (mVar 0) (mCons (mC (.int 9)) mNil))) (tgName 3))
def m_law_hour_step_s2 : MS := (mRet (mTup (mCons (mC (.str "find")) (mCons (mCallF m_law_draw (mCons (mVar 0) (mCons (mVar 2) mNil))) mNil))))
def m_law_hour_step_s1 : MS := (mIfS (mTest (mOp leM (mVar 3) (mC (.int 1)))) m_law_hour_step_s2 mNext)
def m_law_hour_step_s4 : MS := (mRet (mTup (mCons (mC (.str "room")) (mCons (mCallF m_law_draw (mCons (mVar 0) (mCons (mVar 2) mNil))) mNil))))
def m_law_hour_step_s3 : MS := (mIfS (mTest (mOp leM (mVar 3) (mC (.int 3)))) m_law_hour_step_s4 mNext)
def m_law_hour_step_s6 : MS := (mRet (mTup (mCons (mC (.str "person")) mNil)))
def m_law_hour_step_s5 : MS := (mIfS (mTest (mOp leM (mVar 3) (mC (.int 5)))) m_law_hour_step_s6 mNext)
def m_law_hour_step_s8 : MS := (mRet (mTup (mCons (mC (.str "one")) (mCons (mCallF m_law_draw (mCons (mVar 0) (mCons (mVar 1) mNil))) (mCons (mCallF m_law_draw (mCons (mVar 0) (mCons (mVar 2) mNil))) mNil)))))
def m_law_hour_step_s7 : MS := (mIfS (mTest (mOp eqM (mVar 3) (mC (.int 6)))) m_law_hour_step_s8 mNext)
def m_law_hour_step_s9 : MS := (mRet (mOp idxM (mLst (mCons (mTup (mCons (mC (.str "tell")) mNil)) (mCons (mTup (mCons (mC (.str "off")) (mCons (mCallF m_law_draw (mCons (mVar 0) (mCons (mVar 1) mNil))) mNil))) mNil))) (mCallF intM (mCons (mAndV (mOp eqM (mVar 3) (mC (.int 8))) (mOp eqM (mCallF m_law_draw (mCons (mVar 0) (mCons (mC (.int 2)) mNil))) (mC (.int 0)))) mNil))))
def m_law_hour_step : MF := mFn 4 ((mSeq m_law_hour_step_s0 (mSeq m_law_hour_step_s1 (mSeq m_law_hour_step_s3 (mSeq m_law_hour_step_s5 (mSeq m_law_hour_step_s7 m_law_hour_step_s9))))))
theorem sc_m_law_hour_step : FnScope ["_law_draws", "_law_days", "_law_hours", "_law_word"] ["_law_draws", "_law_days", "_law_hours"] (defScope s_law_hour_step) := ⟨rfl, rfl, rfl, by decide +kernel, rfl, by decide +kernel, by decide +kernel⟩
theorem ok_law_hour_step {P : Program} {w : PySem.World} {K : PySem.W.Frag} {mg : Str → Option Value} {base : Heap} {f : Addr} {fd : FuncData} (g : Gs K mg) (h_law_draw : FN P w K mg base 1 2 "_law_draw" m_law_draw) (F : FunD K "_law_hour_step" "_law_hour_step" (defArgs s_law_hour_step) (defBody s_law_hour_step) (defScope s_law_hour_step) [] [] f fd) (hg : mg "_law_hour_step" = some (.ref f)) : FN P w K mg base 2 3 "_law_hour_step" m_law_hour_step := by
  refine ⟨f, fd, ["_law_draws", "_law_days", "_law_hours"], ?_, hg, F.kp, F.bindsN fun _ _ _ _ _ _ us hl => match us, hl with | [_, _, _], _ => rfl⟩
  refine F.ok sc_m_law_hour_step (fun vs H Q E h => h.1) (fun cdv A outer s H vs Q E hr h => body_ok (m := (mSeq m_law_hour_step_s0 (mSeq m_law_hour_step_s1 (mSeq m_law_hour_step_s3 (mSeq m_law_hour_step_s5 (mSeq m_law_hour_step_s7 m_law_hour_step_s9)))))) (by decide) ?_ h)
  exact (sss_cons (sset 3 sc_m_law_hour_step.nd (se_callN h_law_draw hr (by decide) rfl takes_cx (sa_cons (sv 0) (sa_cons se_int sa_nil)) (lenCons (lenCons lenNil)))) (sss_cons (ss_if (st_cmp (opM_int op_le) pu_cmpI (nomark _) (sv 3) se_int) (sss_one (ss_ret (se_tup (sa_cons se_str (sa_cons (se_callN h_law_draw hr (by decide) rfl takes_cx (sa_cons (sv 0) (sa_cons (sv 2) sa_nil)) (lenCons (lenCons lenNil))) sa_nil)) (lenCons (lenCons lenNil)) (by decide)))) sss_nil) (sss_cons (ss_if (st_cmp (opM_int op_le) pu_cmpI (nomark _) (sv 3) se_int) (sss_one (ss_ret (se_tup (sa_cons se_str (sa_cons (se_callN h_law_draw hr (by decide) rfl takes_cx (sa_cons (sv 0) (sa_cons (sv 2) sa_nil)) (lenCons (lenCons lenNil))) sa_nil)) (lenCons (lenCons lenNil)) (by decide)))) sss_nil) (sss_cons (ss_if (st_cmp (opM_int op_le) pu_cmpI (nomark _) (sv 3) se_int) (sss_one (ss_ret (se_tup (sa_cons se_str sa_nil) (lenCons lenNil) (by decide)))) sss_nil) (sss_cons (ss_if (st_cmp (opM_eq (Room.u64 hr)) pu_eq (nomark _) (sv 3) se_int) (sss_one (ss_ret (se_tup (sa_cons se_str (sa_cons (se_callN h_law_draw hr (by decide) rfl takes_cx (sa_cons (sv 0) (sa_cons (sv 1) sa_nil)) (lenCons (lenCons lenNil))) (sa_cons (se_callN h_law_draw hr (by decide) rfl takes_cx (sa_cons (sv 0) (sa_cons (sv 2) sa_nil)) (lenCons (lenCons lenNil))) sa_nil))) (lenCons (lenCons (lenCons lenNil))) (by decide)))) sss_nil) (sss_one (ss_ret (se_ix (Room.u1 hr) (fun _ _ => rfl) (se_lst (sa_cons (se_tup (sa_cons se_str sa_nil) (lenCons lenNil) (by decide)) (sa_cons (se_tup (sa_cons se_str (sa_cons (se_callN h_law_draw hr (by decide) rfl takes_cx (sa_cons (sv 0) (sa_cons (sv 1) sa_nil)) (lenCons (lenCons lenNil))) sa_nil)) (lenCons (lenCons lenNil)) (by decide)) sa_nil)) (lenCons (lenCons lenNil)) (by decide)) (se_callTy crM_int pu_int rfl g.b_int bt_int (sa_cons (se_and (se_cmp (opM_eq (Room.u64 hr)) pu_eq (nomark _) (sv 3) se_int) (se_one (se_cmp (opM_eq (Room.u64 hr)) pu_eq (nomark _) (se_callN h_law_draw hr (by decide) rfl takes_cx (sa_cons (sv 0) (sa_cons se_int sa_nil)) (lenCons (lenCons lenNil))) se_int))) sa_nil)) pu_ix))))))))
def m_law_world_s0 : MS := (mAsg (mOp addM (mC (.int 1)) (mCallF m_law_draw (mCons (mVar 0) (mCons (mC (.int 2)) mNil)))) (tgName 2))
def m_law_world_s1 : MS := (mAsg (mOp addM (mC (.int 2)) (mCallF m_law_draw (mCons (mVar 0) (mCons (mC (.int 2)) mNil)))) (tgName 3))
def m_law_world_s2 : MS := (mAsg (mOp addM (mC (.int 1)) (mCallF m_law_draw (mCons (mVar 0) (mCons (mVar 3) mNil)))) (tgName 4))
def m_law_world_s3 : MS := (mAsg (mOp idxM (mLst (mCons (mLst (mCons (mC (.int 0)) (mCons (mC (.int 0)) (mCons (mC (.int 0)) mNil)))) (mCons (mLst (mCons (mC (.int 0)) (mCons (mC (.int 0)) (mCons (mC (.int 1)) mNil)))) (mCons (mLst (mCons (mC (.int 0)) (mCons (mC (.int 1)) (mCons (mC (.int 2)) mNil)))) (mCons (mLst (mCons (mC (.int 1)) (mCons (mC (.int 1)) (mCons (mC (.int 0)) mNil)))) mNil))))) (mCallF m_law_draw (mCons (mVar 0) (mCons (mC (.int 4)) mNil)))) (tgName 5))
def m_law_world_s4 : MS := (mAsg (mCallF m_law_draw (mCons (mVar 0) (mCons (mVar 3) mNil))) (tgName 6))
def m_law_world_s5 : MS := (mAsg (mLc true [12] (mRng (mCons (mVar 4) mNil)) (tgName 12) mTrue (mTup (mCons (mOp idxM (mVar 5) (mVar 12)) (mCons (mOp modM (mOp addM (mVar 12) (mVar 6)) (mVar 3)) mNil)))) (tgName 7))
def m_law_world_s6 : MS := (mAsg (mCell mNil) (tgName 8))
def m_law_world_s8 : MS := (mAsg (mCallF m_law_draw (mCons (mVar 0) (mCons (mVar 4) mNil))) (tgName 10))
def m_law_world_s9 : MS := (mAsg (mLc true [12] (mRng (mCons (mVar 9) mNil)) (tgName 12) mTrue (mCallF m_law_hour_step (mCons (mVar 0) (mCons (mVar 2) (mCons (mVar 3) mNil))))) (tgName 11))
def m_law_world_s11 : MS := (mAsg (mCallF m_law_draw (mCons (mVar 0) (mCons (mVar 3) mNil))) (tgName 13))
def m_law_world_s12 : MS := (mAsg (mSlice (mSlice (mLst (mCons (mTup (mCons (mC (.str "find")) (mCons (mVar 13) mNil))) (mCons (mTup (mCons (mC (.str "room")) (mCons (mVar 13) mNil))) (mCons (mTup (mCons (mC (.str "person")) mNil)) (mCons (mTup (mCons (mC (.str "tell")) mNil)) mNil))))) (moSome (mOp subM (mC (.int 4)) (mCallF maxM (mCons (mVar 9) (mCons (mC (.int 3)) mNil))))) moNone) moNone (moSome (mVar 9))) (tgName 11))
def m_law_world_s10 : MS := (mIfS (mAnd (mTest (mOp eqM (mCallF m_law_draw (mCons (mVar 0) (mCons (mC (.int 2)) mNil))) (mC (.int 0)))) (mTest (mOp geM (mVar 9) (mC (.int 2))))) (mSeq m_law_world_s11 m_law_world_s12) mNext)
def m_law_world_s13 : MS := (mDrop (mApp (mVar 8) (mTup (mCons (mVar 10) (mCons (mCallF tupM (mCons (mVar 11) mNil)) mNil)))))
def m_law_world_s7 : MS := (mFor (mSrc (mVar 1)) (tgName 9) (mSeq m_law_world_s8 (mSeq m_law_world_s9 (mSeq m_law_world_s10 m_law_world_s13))))
def m_law_world_s14 : MS := (mRet (mTup (mCons (mVar 2) (mCons (mVar 3) (mCons (mCallF tupM (mCons (mVar 7) mNil)) (mCons (mCallF tupM (mCons (mVar 8) mNil)) mNil))))))
def m_law_world : MF := mFn 14 ((mSeq m_law_world_s0 (mSeq m_law_world_s1 (mSeq m_law_world_s2 (mSeq m_law_world_s3 (mSeq m_law_world_s4 (mSeq m_law_world_s5 (mSeq m_law_world_s6 (mSeq m_law_world_s7 m_law_world_s14)))))))))
theorem sc_m_law_world : FnScope ["_law_draws", "_law_sizes_here", "_law_days", "_law_hours", "_law_many", "_law_people", "_law_turn", "_law_series", "_law_hands", "_law_size", "_law_which", "_law_steps", "_law_k", "_law_hour"] ["_law_draws", "_law_sizes_here"] (defScope s_law_world) := ⟨rfl, rfl, rfl, by decide +kernel, rfl, by decide +kernel, by decide +kernel⟩
theorem ok_law_world {P : Program} {w : PySem.World} {K : PySem.W.Frag} {mg : Str → Option Value} {base : Heap} {f : Addr} {fd : FuncData} (g : Gs K mg) (h_law_draw : FN P w K mg base 1 2 "_law_draw" m_law_draw) (h_law_hour_step : FN P w K mg base 2 3 "_law_hour_step" m_law_hour_step) (F : FunD K "_law_world" "_law_world" (defArgs s_law_world) (defBody s_law_world) (defScope s_law_world) [] [] f fd) (hg : mg "_law_world" = some (.ref f)) : FN P w K mg base 3 2 "_law_world" m_law_world := by
  refine ⟨f, fd, ["_law_draws", "_law_sizes_here"], ?_, hg, F.kp, F.bindsN fun _ _ _ _ _ _ us hl => match us, hl with | [_, _], _ => rfl⟩
  refine F.ok sc_m_law_world (fun vs H Q E h => h.1) (fun cdv A outer s H vs Q E hr h => body_ok (m := (mSeq m_law_world_s0 (mSeq m_law_world_s1 (mSeq m_law_world_s2 (mSeq m_law_world_s3 (mSeq m_law_world_s4 (mSeq m_law_world_s5 (mSeq m_law_world_s6 (mSeq m_law_world_s7 m_law_world_s14))))))))) (by decide) ?_ h)
  exact (sss_cons (sset 2 sc_m_law_world.nd (se_op opM_add pu_add se_int (se_callN h_law_draw hr (by decide) rfl takes_cx (sa_cons (sv 0) (sa_cons se_int sa_nil)) (lenCons (lenCons lenNil))))) (sss_cons (sset 3 sc_m_law_world.nd (se_op opM_add pu_add se_int (se_callN h_law_draw hr (by decide) rfl takes_cx (sa_cons (sv 0) (sa_cons se_int sa_nil)) (lenCons (lenCons lenNil))))) (sss_cons (sset 4 sc_m_law_world.nd (se_op opM_add pu_add se_int (se_callN h_law_draw hr (by decide) rfl takes_cx (sa_cons (sv 0) (sa_cons (sv 3) sa_nil)) (lenCons (lenCons lenNil))))) (sss_cons (sset 5 sc_m_law_world.nd (se_ix (Room.u1 hr) (fun _ _ => rfl) (se_lst (sa_cons (se_lst (sa_cons se_int (sa_cons se_int (sa_cons se_int sa_nil))) (lenCons (lenCons (lenCons lenNil))) (by decide)) (sa_cons (se_lst (sa_cons se_int (sa_cons se_int (sa_cons se_int sa_nil))) (lenCons (lenCons (lenCons lenNil))) (by decide)) (sa_cons (se_lst (sa_cons se_int (sa_cons se_int (sa_cons se_int sa_nil))) (lenCons (lenCons (lenCons lenNil))) (by decide)) (sa_cons (se_lst (sa_cons se_int (sa_cons se_int (sa_cons se_int sa_nil))) (lenCons (lenCons (lenCons lenNil))) (by decide)) sa_nil)))) (lenCons (lenCons (lenCons (lenCons lenNil)))) (by decide)) (se_callN h_law_draw hr (by decide) rfl takes_cx (sa_cons (sv 0) (sa_cons se_int sa_nil)) (lenCons (lenCons lenNil))) pu_ix)) (sss_cons (sset 6 sc_m_law_world.nd (se_callN h_law_draw hr (by decide) rfl takes_cx (sa_cons (sv 0) (sa_cons (sv 3) sa_nil)) (lenCons (lenCons lenNil)))) (sss_cons (ss_setLc (fr := true) (own := [("_law_k", 12)]) (i := 7) rfl sc_m_law_world.nd rfl rfl (sw_true rfl rfl rfl rfl) (si_rng rfl g.b_range (sa_cons (sv 4) sa_nil)) (blkOk_by rfl) (fun _ _ _ _ _ => (sn 12 sc_m_law_world.nd)) (fun _ _ _ _ _ => sts_nil) (fun _ _ _ _ _ => (se_tup (sa_cons (se_ix (Room.u1 hr) (fun _ _ => rfl) (sv 5) (sv 12) pu_ix) (sa_cons (se_op opM_mod pu_mod (se_op opM_add pu_add (sv 12) (sv 6)) (sv 3)) sa_nil)) (lenCons (lenCons lenNil)) (by decide))) (by decide)) (sss_cons (sset 8 sc_m_law_world.nd (se_cell sa_nil lenNil (by decide))) (sss_cons (ss_for pass_cx rfl (si_seq (sv 1)) (sn 9 sc_m_law_world.nd) (sss_cons (sset 10 sc_m_law_world.nd (se_callN h_law_draw hr (by decide) rfl takes_cx (sa_cons (sv 0) (sa_cons (sv 4) sa_nil)) (lenCons (lenCons lenNil)))) (sss_cons (ss_setLc (fr := true) (own := [("_law_k", 12)]) (i := 11) rfl sc_m_law_world.nd rfl rfl (sw_true rfl rfl rfl rfl) (si_rng rfl g.b_range (sa_cons (sv 9) sa_nil)) (blkOk_by rfl) (fun _ _ _ _ _ => (sn 12 sc_m_law_world.nd)) (fun _ _ _ _ _ => sts_nil) (fun _ _ _ _ _ => (se_callN h_law_hour_step hr (by decide) rfl takesNo (sa_cons (sv 0) (sa_cons (sv 2) (sa_cons (sv 3) sa_nil))) (lenCons (lenCons (lenCons lenNil))))) (by decide)) (sss_cons (ss_if (st_w (sw_and (st_cmp (opM_eq (Room.u64 hr)) pu_eq (nomark _) (se_callN h_law_draw hr (by decide) rfl takes_cx (sa_cons (sv 0) (sa_cons se_int sa_nil)) (lenCons (lenCons lenNil))) se_int) (sw_and1 (st_cmp (opM_int op_ge) pu_cmpI (nomark _) (sv 9) se_int)))) (sss_cons (sset 13 sc_m_law_world.nd (se_callN h_law_draw hr (by decide) rfl takes_cx (sa_cons (sv 0) (sa_cons (sv 3) sa_nil)) (lenCons (lenCons lenNil)))) (sss_one (sset 11 sc_m_law_world.nd (se_slice (se_slice (se_lst (sa_cons (se_tup (sa_cons se_str (sa_cons (sv 13) sa_nil)) (lenCons (lenCons lenNil)) (by decide)) (sa_cons (se_tup (sa_cons se_str (sa_cons (sv 13) sa_nil)) (lenCons (lenCons lenNil)) (by decide)) (sa_cons (se_tup (sa_cons se_str sa_nil) (lenCons lenNil) (by decide)) (sa_cons (se_tup (sa_cons se_str sa_nil) (lenCons lenNil) (by decide)) sa_nil)))) (lenCons (lenCons (lenCons (lenCons lenNil)))) (by decide)) (so_some (se_op opM_sub pu_sub se_int (se_callB (crM_max rfl) pu_max rfl g.b_max bt_max (sa_cons (sv 9) (sa_cons se_int sa_nil))))) so_none) so_none (so_some (sv 9)))))) sss_nil) (sss_one (ss_expr (se_app (sv 8) (se_tup (sa_cons (sv 10) (sa_cons (se_callTy crM_tuple pu_tuple rfl g.b_tuple bt_tuple (sa_cons (sv 11) sa_nil)) sa_nil)) (lenCons (lenCons lenNil)) (by decide))))))))) (sss_one (ss_ret (se_tup (sa_cons (sv 2) (sa_cons (sv 3) (sa_cons (se_callTy crM_tuple pu_tuple rfl g.b_tuple bt_tuple (sa_cons (sv 7) sa_nil)) (sa_cons (se_callTy crM_tuple pu_tuple rfl g.b_tuple bt_tuple (sa_cons (sv 8) sa_nil)) sa_nil)))) (lenCons (lenCons (lenCons (lenCons lenNil)))) (by decide))))))))))))
def m_law_without_s0 : MS := (mAsg (mCell mNil) (tgName 3))
def m_law_without_s2 : MS := (mAsg (mLc true [7] (mSrc (mVar 5)) (tgName 7) (mTest (mOp ninM (mOp idxM (mVar 7) (mC (.int 0))) (mVar 2))) (mVar 7)) (tgName 6))
def m_law_without_s3 : MS := (mDrop (mApp (mVar 3) (mTup (mCons (mVar 4) (mCons (mCallF tupM (mCons (mOp addM (mVar 6) (mOp mulM (mLst (mCons (mTup (mCons (mC (.str "find")) (mCons (mC (.int 0)) mNil))) mNil)) (mCallF intM (mCons (mOp eqM (mCallF lenM (mCons (mVar 6) mNil)) (mC (.int 0))) mNil)))) mNil)) mNil)))))
def m_law_without_s1 : MS := (mFor (mSrc (mOp idxM (mVar 1) (mC (.int 3)))) (tgTup (tgCons (tgName 4) (tgCons (tgName 5) tgNil))) (mSeq m_law_without_s2 m_law_without_s3))
def m_law_without_s4 : MS := (mRet (mTup (mCons (mOp idxM (mVar 1) (mC (.int 0))) (mCons (mOp idxM (mVar 1) (mC (.int 1))) (mCons (mOp idxM (mVar 1) (mC (.int 2))) (mCons (mCallF tupM (mCons (mVar 3) mNil)) mNil))))))
def m_law_without : MF := frzF (mFn 8 ((mSeq m_law_without_s0 (mSeq m_law_without_s1 m_law_without_s4))))
theorem sc_m_law_without : FnScope ["_law_draws", "_law_world_here", "_law_words", "_law_hands", "_law_series", "_law_steps", "_law_kept", "_law_step"] ["_law_draws", "_law_world_here", "_law_words"] (defScope s_law_without) := ⟨rfl, rfl, rfl, by decide +kernel, rfl, by decide +kernel, by decide +kernel⟩
theorem ok_law_without {P : Program} {w : PySem.World} {K : PySem.W.Frag} {mg : Str → Option Value} {base : Heap} {f : Addr} {fd : FuncData} (g : Gs K mg) (F : FunD K "_law_without" "_law_without" (defArgs s_law_without) (defBody s_law_without) (defScope s_law_without) [] [] f fd) (hg : mg "_law_without" = some (.ref f)) : FN P w K mg base 1 3 "_law_without" m_law_without := by
  refine ⟨f, fd, ["_law_draws", "_law_world_here", "_law_words"], ?_, hg, F.kp, F.bindsN fun _ _ _ _ _ _ us hl => match us, hl with | [_, _, _], _ => rfl⟩
  refine frz_ok (m := mFn _ _) (F.ok sc_m_law_without (fun vs H Q E h => h.1) (fun cdv A outer s H vs Q E hr h => body_ok (m := (mSeq m_law_without_s0 (mSeq m_law_without_s1 m_law_without_s4))) (by decide) ?_ h))
  exact (sss_cons (sset 3 sc_m_law_without.nd (se_cell sa_nil lenNil (by decide))) (sss_cons (ss_for pass_cx rfl (si_seq (se_ix (Room.u1 hr) (fun _ _ => rfl) (sv 1) se_int pu_ix)) (sg_tup rfl (sgs_cons (sn 4 sc_m_law_without.nd) (sgs_cons (sn 5 sc_m_law_without.nd) sgs_nil))) (sss_cons (ss_setLc (fr := true) (own := [("_law_step", 7)]) (i := 6) rfl sc_m_law_without.nd rfl rfl (sw_true rfl rfl rfl rfl) (si_seq (sv 5)) (blkOk_by rfl) (fun _ _ _ _ _ => (sn 7 sc_m_law_without.nd)) (fun _ _ _ _ _ => (sts_one (st_cmp (opM_nin (Room.u65 hr)) pu_nin (by with_unfolding_all rfl) (se_ix (Room.u1 hr) (fun _ _ => rfl) (sv 7) se_int pu_ix) (sv 2)))) (fun _ _ _ _ _ => (sv 7)) (by decide)) (sss_one (ss_expr (se_app (sv 3) (se_tup (sa_cons (sv 4) (sa_cons (se_callTy crM_tuple pu_tuple rfl g.b_tuple bt_tuple (sa_cons (se_op opM_add pu_add (sv 6) (se_op opM_mul pu_mul (se_lst (sa_cons (se_tup (sa_cons se_str (sa_cons se_int sa_nil)) (lenCons (lenCons lenNil)) (by decide)) sa_nil) (lenCons lenNil) (by decide)) (se_callTy crM_int pu_int rfl g.b_int bt_int (sa_cons (se_cmp (opM_eq (Room.u64 hr)) pu_eq (nomark _) (se_callB crM_len pu_len rfl g.b_len bt_len (sa_cons (sv 6) sa_nil)) se_int) sa_nil)))) sa_nil)) sa_nil)) (lenCons (lenCons lenNil)) (by decide))))))) (sss_one (ss_ret (se_tup (sa_cons (se_ix (Room.u1 hr) (fun _ _ => rfl) (sv 1) se_int pu_ix) (sa_cons (se_ix (Room.u1 hr) (fun _ _ => rfl) (sv 1) se_int pu_ix) (sa_cons (se_ix (Room.u1 hr) (fun _ _ => rfl) (sv 1) se_int pu_ix) (sa_cons (se_callTy crM_tuple pu_tuple rfl g.b_tuple bt_tuple (sa_cons (sv 3) sa_nil)) sa_nil)))) (lenCons (lenCons (lenCons (lenCons lenNil)))) (by decide))))))
def m_Rule___init___s2 : MS := mStk
def m_Rule___init___s1 : MS := (mIfS (mOr (mNot (mTest (mIsi "str" (mVar 6)))) (mTest (mOp ninM (mVar 6) (mVar 7)))) m_Rule___init___s2 mNext)
def m_Rule___init___s0 : MS := (mFor (mZip3 (mCons (mC d_PARTS) (mCons (mTup (mCons (mVar 1) (mCons (mVar 2) (mCons (mVar 3) (mCons (mVar 4) mNil))))) (mCons (mC d_VALUES) mNil)))) (tgTup (tgCons (tgName 5) (tgCons (tgName 6) (tgCons (tgName 7) tgNil)))) m_Rule___init___s1)
def m_Rule___init___s3 : MS := (mFset "Rule" "checking" (mVar 1) (mVar 0))
def m_Rule___init___s4 : MS := (mFset "Rule" "singles" (mVar 2) (mVar 0))
def m_Rule___init___s5 : MS := (mFset "Rule" "halves" (mVar 3) (mVar 0))
def m_Rule___init___s6 : MS := (mFset "Rule" "telling" (mVar 4) (mVar 0))
def m_Rule___init__ : MF := mFn 8 ((mSeq m_Rule___init___s0 (mSeq m_Rule___init___s3 (mSeq m_Rule___init___s4 (mSeq m_Rule___init___s5 m_Rule___init___s6)))))
theorem sc_m_Rule___init__ : FnScope ["self", "checking", "singles", "halves", "telling", "part", "value", "some"] ["self", "checking", "singles", "halves", "telling"] (defScope s_Rule___init__) := ⟨rfl, rfl, rfl, by decide +kernel, rfl, by decide +kernel, by decide +kernel⟩
theorem ok_Rule___init__ {P : Program} {w : PySem.World} {K : PySem.W.Frag} {mg : Str → Option Value} {base : Heap} {fd : FuncData} (g : Gs K mg) (F : FunD K "__init__" "Rule.__init__" (defArgs s_Rule___init__) (defBody s_Rule___init__) (defScope s_Rule___init__) [] [] (He.ma K (He.ga K "Rule") "__init__") fd) : MN P w K mg base 1 5 "Rule" "__init__" m_Rule___init__ := by
  refine ⟨fd, ["self", "checking", "singles", "halves", "telling"], ?_, F.bindsN fun _ _ _ _ _ _ us hl => match us, hl with | [_, _, _, _, _], _ => rfl⟩
  refine F.ok sc_m_Rule___init__ (fun vs H Q E h => h.1) (fun cdv A outer s H vs Q E hr h => body_ok (m := (mSeq m_Rule___init___s0 (mSeq m_Rule___init___s3 (mSeq m_Rule___init___s4 (mSeq m_Rule___init___s5 m_Rule___init___s6))))) (by decide) ?_ h)
  exact (sss_cons (ss_for pass_cx rfl (si_zip3 rfl g.b_zip (sa_cons (se_globN g.k_PARTS rfl) (sa_cons (se_tup (sa_cons (sv 1) (sa_cons (sv 2) (sa_cons (sv 3) (sa_cons (sv 4) sa_nil)))) (lenCons (lenCons (lenCons (lenCons lenNil)))) (by decide)) (sa_cons (se_globN g.k_VALUES rfl) sa_nil)))) (sg_tup rfl (sgs_cons (sn 5 sc_m_Rule___init__.nd) (sgs_cons (sn 6 sc_m_Rule___init__.nd) (sgs_cons (sn 7 sc_m_Rule___init__.nd) sgs_nil)))) (sss_one (ss_if (st_w (sw_or (st_not (st_val (se_isi rfl g.b_isinstance rfl g.b_str bt_str (sv 6)))) (sw_or1 (st_cmp (opM_nin (Room.u65 hr)) pu_nin (by with_unfolding_all rfl) (sv 6) (sv 7))))) (sss_one ss_stk) sss_nil))) (sss_cons (ss_fset g.c_Rule g.n_Rule_checking (sv 1) (sv 0)) (sss_cons (ss_fset g.c_Rule g.n_Rule_singles (sv 2) (sv 0)) (sss_cons (ss_fset g.c_Rule g.n_Rule_halves (sv 3) (sv 0)) (sss_one (ss_fset g.c_Rule g.n_Rule_telling (sv 4) (sv 0)))))))
def m_law_rule_s0 : MS := (mRet (mCallF (makM "Rule" m_Rule___init__) (mCons (mOp idxM (mVar 0) (mC (.int 0))) (mCons (mOp idxM (mVar 0) (mC (.int 1))) (mCons (mOp idxM (mVar 0) (mC (.int 2))) (mCons (mOp idxM (mVar 0) (mC (.int 3))) mNil))))))
def m_law_rule : MF := frzF (mFn 1 (m_law_rule_s0))
theorem sc_m_law_rule : FnScope ["_law_parts_here"] ["_law_parts_here"] (defScope s_law_rule) := ⟨rfl, rfl, rfl, by decide +kernel, rfl, by decide +kernel, by decide +kernel⟩
theorem ok_law_rule {P : Program} {w : PySem.World} {K : PySem.W.Frag} {mg : Str → Option Value} {base : Heap} {f : Addr} {fd : FuncData} (g : Gs K mg) (h_Rule___init__ : MN P w K mg base 1 5 "Rule" "__init__" m_Rule___init__) (F : FunD K "_law_rule" "_law_rule" (defArgs s_law_rule) (defBody s_law_rule) (defScope s_law_rule) [] [] f fd) (hg : mg "_law_rule" = some (.ref f)) : FN P w K mg base 3 1 "_law_rule" m_law_rule := by
  refine ⟨f, fd, ["_law_parts_here"], ?_, hg, F.kp, F.bindsN fun _ _ _ _ _ _ us hl => match us, hl with | [_], _ => rfl⟩
  refine frz_ok (m := mFn _ _) (F.ok sc_m_law_rule (fun vs H Q E h => h.1) (fun cdv A outer s H vs Q E hr h => body_ok (m := m_law_rule_s0) (by decide) ?_ h))
  exact (sss_one (ss_ret (se_makeN h_Rule___init__ g.mk_Rule g.gc_Rule hr (by decide) rfl takes_cx (sa_cons (se_ix (Room.u1 hr) (fun _ _ => rfl) (sv 0) se_int pu_ix) (sa_cons (se_ix (Room.u1 hr) (fun _ _ => rfl) (sv 0) se_int pu_ix) (sa_cons (se_ix (Room.u1 hr) (fun _ _ => rfl) (sv 0) se_int pu_ix) (sa_cons (se_ix (Room.u1 hr) (fun _ _ => rfl) (sv 0) se_int pu_ix) sa_nil)))) (lenCons (lenCons (lenCons (lenCons lenNil)))))))
def m_is_whole_s0 : MS := (mRet (mAndV (mIsi "int" (mVar 0)) (mAndV (mNotV (mIsi "bool" (mVar 0))) (mChain leM leM (mVar 1) (mVar 0) (mVar 2)))))
def m_is_whole : MF := mFn 3 (m_is_whole_s0)
theorem sc_m_is_whole : FnScope ["thing", "least", "most"] ["thing", "least", "most"] (defScope s_is_whole) := ⟨rfl, rfl, rfl, by decide +kernel, rfl, by decide +kernel, by decide +kernel⟩
theorem ok_is_whole {P : Program} {w : PySem.World} {K : PySem.W.Frag} {mg : Str → Option Value} {base : Heap} {f : Addr} {fd : FuncData} (g : Gs K mg) (F : FunD K "is_whole" "is_whole" (defArgs s_is_whole) (defBody s_is_whole) (defScope s_is_whole) [] [] f fd) (hg : mg "is_whole" = some (.ref f)) : FN P w K mg base 1 3 "is_whole" m_is_whole := by
  refine ⟨f, fd, ["thing", "least", "most"], ?_, hg, F.kp, F.bindsN fun _ _ _ _ _ _ us hl => match us, hl with | [_, _, _], _ => rfl⟩
  refine F.ok sc_m_is_whole (fun vs H Q E h => h.1) (fun cdv A outer s H vs Q E hr h => body_ok (m := m_is_whole_s0) (by decide) ?_ h)
  exact (sss_one (ss_ret (se_and (se_isi rfl g.b_isinstance rfl g.b_int bt_int (sv 0)) (se_and (se_not (se_isi rfl g.b_isinstance rfl g.b_bool bt_bool (sv 0))) (se_one (se_chain (opM_int op_le) pu_cmpI (opM_int op_le) pu_cmpI (sv 1) (sv 0) (sv 2)))))))
def m_are_series_s1 : MS := (mRet (mC (.bl false)))
def m_are_series_s0 : MS := (mIfS (mOr (mNot (mTest (mIsi "tuple" (mVar 0)))) (mNot (mTest (mChain leM leM (mC (.int 1)) (mCallF lenM (mCons (mVar 0) mNil)) (mC (.int 3)))))) m_are_series_s1 mNext)
def m_are_series_s4 : MS := (mRet (mC (.bl false)))
def m_are_series_s3 : MS := (mIfS (mOr (mNot (mTest (mIsi "tuple" (mVar 2)))) (mTest (mOp neM (mCallF lenM (mCons (mVar 2) mNil)) (mC (.int 2))))) m_are_series_s4 mNext)
def m_are_series_s6 : MS := (mRet (mC (.bl false)))
def m_are_series_s5 : MS := (mIfS (mOr (mNot (mTest (mCallF m_is_whole (mCons (mOp idxM (mVar 2) (mC (.int 0))) (mCons (mC (.int 0)) (mCons (mC (.int 2)) mNil)))))) (mNot (mTest (mCallF m_is_whole (mCons (mOp idxM (mVar 2) (mC (.int 1))) (mCons (mC (.int 0)) (mCons (mOp subM (mVar 1) (mC (.int 1))) mNil))))))) m_are_series_s6 mNext)
def m_are_series_s2 : MS := (mFor (mSrc (mVar 0)) (tgName 2) (mSeq m_are_series_s3 m_are_series_s5))
def m_are_series_s7 : MS := (mRet (mOp eqM (mCallF lenM (mCons (mDc true [2] (mSrc (mVar 0)) (tgName 2) mTrue (mOp idxM (mVar 2) (mC (.int 1))) (mC (.bl true))) mNil)) (mCallF lenM (mCons (mVar 0) mNil))))
def m_are_series : MF := mFn 3 ((mSeq m_are_series_s0 (mSeq m_are_series_s2 m_are_series_s7)))
theorem sc_m_are_series : FnScope ["thing", "hours", "row"] ["thing", "hours"] (defScope s_are_series) := ⟨rfl, rfl, rfl, by decide +kernel, rfl, by decide +kernel, by decide +kernel⟩
theorem ok_are_series {P : Program} {w : PySem.World} {K : PySem.W.Frag} {mg : Str → Option Value} {base : Heap} {f : Addr} {fd : FuncData} (g : Gs K mg) (h_is_whole : FN P w K mg base 1 3 "is_whole" m_is_whole) (F : FunD K "are_series" "are_series" (defArgs s_are_series) (defBody s_are_series) (defScope s_are_series) [] [] f fd) (hg : mg "are_series" = some (.ref f)) : FN P w K mg base 2 2 "are_series" m_are_series := by
  refine ⟨f, fd, ["thing", "hours"], ?_, hg, F.kp, F.bindsN fun _ _ _ _ _ _ us hl => match us, hl with | [_, _], _ => rfl⟩
  refine F.ok sc_m_are_series (fun vs H Q E h => h.1) (fun cdv A outer s H vs Q E hr h => body_ok (m := (mSeq m_are_series_s0 (mSeq m_are_series_s2 m_are_series_s7))) (by decide) ?_ h)
  exact (sss_cons (ss_if (st_w (sw_or (st_not (st_val (se_isi rfl g.b_isinstance rfl g.b_tuple bt_tuple (sv 0)))) (sw_or1 (st_not (st_chain (opM_int op_le) pu_cmpI (opM_int op_le) pu_cmpI se_int (se_callB crM_len pu_len rfl g.b_len bt_len (sa_cons (sv 0) sa_nil)) se_int))))) (sss_one (ss_ret se_bl)) sss_nil) (sss_cons (ss_for pass_cx rfl (si_seq (sv 0)) (sn 2 sc_m_are_series.nd) (sss_cons (ss_if (st_w (sw_or (st_not (st_val (se_isi rfl g.b_isinstance rfl g.b_tuple bt_tuple (sv 2)))) (sw_or1 (st_cmp (opM_ne (Room.u64 hr)) pu_ne (nomark _) (se_callB crM_len pu_len rfl g.b_len bt_len (sa_cons (sv 2) sa_nil)) se_int)))) (sss_one (ss_ret se_bl)) sss_nil) (sss_one (ss_if (st_w (sw_or (st_not (st_val (se_callN h_is_whole hr (by decide) rfl takes_cx (sa_cons (se_ix (Room.u1 hr) (fun _ _ => rfl) (sv 2) se_int pu_ix) (sa_cons se_int (sa_cons se_int sa_nil))) (lenCons (lenCons (lenCons lenNil)))))) (sw_or1 (st_not (st_val (se_callN h_is_whole hr (by decide) rfl takes_cx (sa_cons (se_ix (Room.u1 hr) (fun _ _ => rfl) (sv 2) se_int pu_ix) (sa_cons se_int (sa_cons (se_op opM_sub pu_sub (sv 1) se_int) sa_nil))) (lenCons (lenCons (lenCons lenNil))))))))) (sss_one (ss_ret se_bl)) sss_nil)))) (sss_one (ss_ret (se_cmp (opM_eq (Room.u64 hr)) pu_eq (nomark _) (se_callB crM_len pu_len rfl g.b_len bt_len (sa_cons (se_dc (fr := true) (own := [("row", 2)]) rfl sc_m_are_series.nd (si_seq (sv 0)) (blkOk_by rfl) (fun _ _ _ _ _ => (sn 2 sc_m_are_series.nd)) (fun _ _ _ _ _ => sts_nil) (fun _ _ _ _ _ => (se_ix (Room.u1 hr) (fun _ _ => rfl) (sv 2) se_int pu_ix)) (fun _ _ _ _ _ => se_bl) (by decide)) sa_nil)) (se_callB crM_len pu_len rfl g.b_len bt_len (sa_cons (sv 0) sa_nil)))))))
def m_is_step_s1 : MS := (mRet (mC (.bl false)))
def m_is_step_s0 : MS := (mIfS (mOr (mNot (mTest (mIsi "tuple" (mVar 0)))) (mOr (mNot (mTruth (mVar 0))) (mNot (mTest (mIsi "str" (mOp idxM (mVar 0) (mC (.int 0)))))))) m_is_step_s1 mNext)
def m_is_step_s3 : MS := (mRet (mAndV (mOp eqM (mCallF lenM (mCons (mVar 0) mNil)) (mC (.int 2))) (mCallF m_is_whole (mCons (mOp idxM (mVar 0) (mC (.int 1))) (mCons (mC (.int 0)) (mCons (mOp subM (mVar 2) (mC (.int 1))) mNil))))))
def m_is_step_s2 : MS := (mIfS (mTest (mOp inM (mOp idxM (mVar 0) (mC (.int 0))) (mTup (mCons (mC (.str "find")) (mCons (mC (.str "room")) mNil))))) m_is_step_s3 mNext)
def m_is_step_s5 : MS := (mRet (mOp eqM (mCallF lenM (mCons (mVar 0) mNil)) (mC (.int 1))))
def m_is_step_s4 : MS := (mIfS (mTest (mOp inM (mOp idxM (mVar 0) (mC (.int 0))) (mTup (mCons (mC (.str "person")) (mCons (mC (.str "tell")) mNil))))) m_is_step_s5 mNext)
def m_is_step_s7 : MS := (mRet (mAndV (mOp eqM (mCallF lenM (mCons (mVar 0) mNil)) (mC (.int 2))) (mCallF m_is_whole (mCons (mOp idxM (mVar 0) (mC (.int 1))) (mCons (mC (.int 0)) (mCons (mOp subM (mVar 1) (mC (.int 1))) mNil))))))
def m_is_step_s6 : MS := (mIfS (mTest (mOp eqM (mOp idxM (mVar 0) (mC (.int 0))) (mC (.str "off")))) m_is_step_s7 mNext)
def m_is_step_s9 : MS := (mRet (mC (.bl false)))
def m_is_step_s8 : MS := (mIfS (mOr (mTest (mOp neM (mOp idxM (mVar 0) (mC (.int 0))) (mC (.str "one")))) (mTest (mOp neM (mCallF lenM (mCons (mVar 0) mNil)) (mC (.int 3))))) m_is_step_s9 mNext)
def m_is_step_s10 : MS := (mRet (mAndV (mCallF m_is_whole (mCons (mOp idxM (mVar 0) (mC (.int 1))) (mCons (mC (.int 0)) (mCons (mOp subM (mVar 1) (mC (.int 1))) mNil)))) (mCallF m_is_whole (mCons (mOp idxM (mVar 0) (mC (.int 2))) (mCons (mC (.int 0)) (mCons (mOp subM (mVar 2) (mC (.int 1))) mNil))))))
def m_is_step : MF := mFn 3 ((mSeq m_is_step_s0 (mSeq m_is_step_s2 (mSeq m_is_step_s4 (mSeq m_is_step_s6 (mSeq m_is_step_s8 m_is_step_s10))))))
theorem sc_m_is_step : FnScope ["thing", "days", "hours"] ["thing", "days", "hours"] (defScope s_is_step) := ⟨rfl, rfl, rfl, by decide +kernel, rfl, by decide +kernel, by decide +kernel⟩
theorem ok_is_step {P : Program} {w : PySem.World} {K : PySem.W.Frag} {mg : Str → Option Value} {base : Heap} {f : Addr} {fd : FuncData} (g : Gs K mg) (h_is_whole : FN P w K mg base 1 3 "is_whole" m_is_whole) (F : FunD K "is_step" "is_step" (defArgs s_is_step) (defBody s_is_step) (defScope s_is_step) [] [] f fd) (hg : mg "is_step" = some (.ref f)) : FN P w K mg base 2 3 "is_step" m_is_step := by
  refine ⟨f, fd, ["thing", "days", "hours"], ?_, hg, F.kp, F.bindsN fun _ _ _ _ _ _ us hl => match us, hl with | [_, _, _], _ => rfl⟩
  refine F.ok sc_m_is_step (fun vs H Q E h => h.1) (fun cdv A outer s H vs Q E hr h => body_ok (m := (mSeq m_is_step_s0 (mSeq m_is_step_s2 (mSeq m_is_step_s4 (mSeq m_is_step_s6 (mSeq m_is_step_s8 m_is_step_s10)))))) (by decide) ?_ h)
  exact (sss_cons (ss_if (st_w (sw_or (st_not (st_val (se_isi rfl g.b_isinstance rfl g.b_tuple bt_tuple (sv 0)))) (sw_or (st_not (st_truth (sv 0))) (sw_or1 (st_not (st_val (se_isi rfl g.b_isinstance rfl g.b_str bt_str (se_ix (Room.u1 hr) (fun _ _ => rfl) (sv 0) se_int pu_ix)))))))) (sss_one (ss_ret se_bl)) sss_nil) (sss_cons (ss_if (st_cmp (opM_in (Room.u65 hr)) pu_in (by with_unfolding_all rfl) (se_ix (Room.u1 hr) (fun _ _ => rfl) (sv 0) se_int pu_ix) (se_tup (sa_cons se_str (sa_cons se_str sa_nil)) (lenCons (lenCons lenNil)) (by decide))) (sss_one (ss_ret (se_and (se_cmp (opM_eq (Room.u64 hr)) pu_eq (nomark _) (se_callB crM_len pu_len rfl g.b_len bt_len (sa_cons (sv 0) sa_nil)) se_int) (se_one (se_callN h_is_whole hr (by decide) rfl takes_cx (sa_cons (se_ix (Room.u1 hr) (fun _ _ => rfl) (sv 0) se_int pu_ix) (sa_cons se_int (sa_cons (se_op opM_sub pu_sub (sv 2) se_int) sa_nil))) (lenCons (lenCons (lenCons lenNil)))))))) sss_nil) (sss_cons (ss_if (st_cmp (opM_in (Room.u65 hr)) pu_in (by with_unfolding_all rfl) (se_ix (Room.u1 hr) (fun _ _ => rfl) (sv 0) se_int pu_ix) (se_tup (sa_cons se_str (sa_cons se_str sa_nil)) (lenCons (lenCons lenNil)) (by decide))) (sss_one (ss_ret (se_cmp (opM_eq (Room.u64 hr)) pu_eq (nomark _) (se_callB crM_len pu_len rfl g.b_len bt_len (sa_cons (sv 0) sa_nil)) se_int))) sss_nil) (sss_cons (ss_if (st_cmp (opM_eq (Room.u64 hr)) pu_eq (nomark _) (se_ix (Room.u1 hr) (fun _ _ => rfl) (sv 0) se_int pu_ix) se_str) (sss_one (ss_ret (se_and (se_cmp (opM_eq (Room.u64 hr)) pu_eq (nomark _) (se_callB crM_len pu_len rfl g.b_len bt_len (sa_cons (sv 0) sa_nil)) se_int) (se_one (se_callN h_is_whole hr (by decide) rfl takes_cx (sa_cons (se_ix (Room.u1 hr) (fun _ _ => rfl) (sv 0) se_int pu_ix) (sa_cons se_int (sa_cons (se_op opM_sub pu_sub (sv 1) se_int) sa_nil))) (lenCons (lenCons (lenCons lenNil)))))))) sss_nil) (sss_cons (ss_if (st_w (sw_or (st_cmp (opM_ne (Room.u64 hr)) pu_ne (nomark _) (se_ix (Room.u1 hr) (fun _ _ => rfl) (sv 0) se_int pu_ix) se_str) (sw_or1 (st_cmp (opM_ne (Room.u64 hr)) pu_ne (nomark _) (se_callB crM_len pu_len rfl g.b_len bt_len (sa_cons (sv 0) sa_nil)) se_int)))) (sss_one (ss_ret se_bl)) sss_nil) (sss_one (ss_ret (se_and (se_callN h_is_whole hr (by decide) rfl takes_cx (sa_cons (se_ix (Room.u1 hr) (fun _ _ => rfl) (sv 0) se_int pu_ix) (sa_cons se_int (sa_cons (se_op opM_sub pu_sub (sv 1) se_int) sa_nil))) (lenCons (lenCons (lenCons lenNil)))) (se_one (se_callN h_is_whole hr (by decide) rfl takes_cx (sa_cons (se_ix (Room.u1 hr) (fun _ _ => rfl) (sv 0) se_int pu_ix) (sa_cons se_int (sa_cons (se_op opM_sub pu_sub (sv 2) se_int) sa_nil))) (lenCons (lenCons (lenCons lenNil)))))))))))))
def m_is_hand_s1 : MS := (mRet (mC (.bl false)))
def m_is_hand_s0 : MS := (mIfS (mOr (mNot (mTest (mIsi "tuple" (mVar 0)))) (mOr (mTest (mOp neM (mCallF lenM (mCons (mVar 0) mNil)) (mC (.int 2)))) (mNot (mTest (mCallF m_is_whole (mCons (mOp idxM (mVar 0) (mC (.int 0))) (mCons (mC (.int 0)) (mCons (mOp subM (mVar 3) (mC (.int 1))) mNil)))))))) m_is_hand_s1 mNext)
def m_is_hand_s3 : MS := (mRet (mC (.bl false)))
def m_is_hand_s2 : MS := (mIfS (mOr (mNot (mTest (mIsi "tuple" (mOp idxM (mVar 0) (mC (.int 1)))))) (mNot (mTest (mChain leM leM (mC (.int 1)) (mCallF lenM (mCons (mOp idxM (mVar 0) (mC (.int 1))) mNil)) (mC (.int 4)))))) m_is_hand_s3 mNext)
def m_is_hand_s4 : MS := (mRet (mCallF allM (mCons (mLc true [4] (mSrc (mOp idxM (mVar 0) (mC (.int 1)))) (tgName 4) mTrue (mCallF m_is_step (mCons (mVar 4) (mCons (mVar 1) (mCons (mVar 2) mNil))))) mNil)))
def m_is_hand : MF := mFn 5 ((mSeq m_is_hand_s0 (mSeq m_is_hand_s2 m_is_hand_s4)))
theorem sc_m_is_hand : FnScope ["thing", "days", "hours", "many", "step"] ["thing", "days", "hours", "many"] (defScope s_is_hand) := ⟨rfl, rfl, rfl, by decide +kernel, rfl, by decide +kernel, by decide +kernel⟩
theorem ok_is_hand {P : Program} {w : PySem.World} {K : PySem.W.Frag} {mg : Str → Option Value} {base : Heap} {f : Addr} {fd : FuncData} (g : Gs K mg) (h_is_whole : FN P w K mg base 1 3 "is_whole" m_is_whole) (h_is_step : FN P w K mg base 2 3 "is_step" m_is_step) (F : FunD K "is_hand" "is_hand" (defArgs s_is_hand) (defBody s_is_hand) (defScope s_is_hand) [] [] f fd) (hg : mg "is_hand" = some (.ref f)) : FN P w K mg base 3 4 "is_hand" m_is_hand := by
  refine ⟨f, fd, ["thing", "days", "hours", "many"], ?_, hg, F.kp, F.bindsN fun _ _ _ _ _ _ us hl => match us, hl with | [_, _, _, _], _ => rfl⟩
  refine F.ok sc_m_is_hand (fun vs H Q E h => h.1) (fun cdv A outer s H vs Q E hr h => body_ok (m := (mSeq m_is_hand_s0 (mSeq m_is_hand_s2 m_is_hand_s4))) (by decide) ?_ h)
  exact (sss_cons (ss_if (st_w (sw_or (st_not (st_val (se_isi rfl g.b_isinstance rfl g.b_tuple bt_tuple (sv 0)))) (sw_or (st_cmp (opM_ne (Room.u64 hr)) pu_ne (nomark _) (se_callB crM_len pu_len rfl g.b_len bt_len (sa_cons (sv 0) sa_nil)) se_int) (sw_or1 (st_not (st_val (se_callN h_is_whole hr (by decide) rfl takes_cx (sa_cons (se_ix (Room.u1 hr) (fun _ _ => rfl) (sv 0) se_int pu_ix) (sa_cons se_int (sa_cons (se_op opM_sub pu_sub (sv 3) se_int) sa_nil))) (lenCons (lenCons (lenCons lenNil)))))))))) (sss_one (ss_ret se_bl)) sss_nil) (sss_cons (ss_if (st_w (sw_or (st_not (st_val (se_isi rfl g.b_isinstance rfl g.b_tuple bt_tuple (se_ix (Room.u1 hr) (fun _ _ => rfl) (sv 0) se_int pu_ix)))) (sw_or1 (st_not (st_chain (opM_int op_le) pu_cmpI (opM_int op_le) pu_cmpI se_int (se_callB crM_len pu_len rfl g.b_len bt_len (sa_cons (se_ix (Room.u1 hr) (fun _ _ => rfl) (sv 0) se_int pu_ix) sa_nil)) se_int))))) (sss_one (ss_ret se_bl)) sss_nil) (sss_one (ss_ret (se_callB (crM_all rfl) pu_all rfl g.b_all bt_all (sa_cons (se_lc (fr := true) (own := [("step", 4)]) rfl sc_m_is_hand.nd (si_seq (se_ix (Room.u1 hr) (fun _ _ => rfl) (sv 0) se_int pu_ix)) (blkOk_by rfl) (fun _ _ _ _ _ => (sn 4 sc_m_is_hand.nd)) (fun _ _ _ _ _ => sts_nil) (fun _ _ _ _ _ => (se_callN h_is_step hr (by decide) rfl takesNo (sa_cons (sv 4) (sa_cons (sv 1) (sa_cons (sv 2) sa_nil))) (lenCons (lenCons (lenCons lenNil))))) (by decide)) sa_nil))))))
def m_is_world_s1 : MS := (mRet (mC (.bl false)))
def m_is_world_s0 : MS := (mIfS (mOr (mNot (mTest (mIsi "tuple" (mVar 0)))) (mOr (mTest (mOp neM (mCallF lenM (mCons (mVar 0) mNil)) (mC (.int 4)))) (mOr (mNot (mTest (mCallF m_is_whole (mCons (mOp idxM (mVar 0) (mC (.int 0))) (mCons (mC (.int 1)) (mCons (mC (.int 2)) mNil)))))) (mNot (mTest (mCallF m_is_whole (mCons (mOp idxM (mVar 0) (mC (.int 1))) (mCons (mC (.int 2)) (mCons (mC (.int 3)) mNil))))))))) m_is_world_s1 mNext)
def m_is_world_s2 : MS := (mAsg (mVar 0) (tgTup (tgCons (tgName 1) (tgCons (tgName 2) (tgCons (tgName 3) (tgCons (tgName 4) tgNil))))))
def m_is_world_s4 : MS := (mRet (mC (.bl false)))
def m_is_world_s3 : MS := (mIfS (mOr (mNot (mTest (mCallF m_are_series (mCons (mVar 3) (mCons (mVar 2) mNil))))) (mOr (mNot (mTest (mIsi "tuple" (mVar 4)))) (mNot (mTest (mChain leM leM (mC (.int 1)) (mCallF lenM (mCons (mVar 4) mNil)) (mC (.int 3))))))) m_is_world_s4 mNext)
def m_is_world_s6 : MS := (mRet (mC (.bl false)))
def m_is_world_s5 : MS := (mIfS (mNot (mTest (mCallF allM (mCons (mLc true [5] (mSrc (mVar 4)) (tgName 5) mTrue (mCallF m_is_hand (mCons (mVar 5) (mCons (mVar 1) (mCons (mVar 2) (mCons (mCallF lenM (mCons (mVar 3) mNil)) mNil)))))) mNil)))) m_is_world_s6 mNext)
def m_is_world_s7 : MS := (mRet (mOp leM (mCallF sumM (mCons (mLc true [5] (mSrc (mVar 4)) (tgName 5) mTrue (mCallF lenM (mCons (mOp idxM (mVar 5) (mC (.int 1))) mNil))) mNil)) (mC (.int 8))))
def m_is_world : MF := mFn 6 ((mSeq m_is_world_s0 (mSeq m_is_world_s2 (mSeq m_is_world_s3 (mSeq m_is_world_s5 m_is_world_s7)))))
theorem sc_m_is_world : FnScope ["thing", "days", "hours", "series", "hands", "hand"] ["thing"] (defScope s_is_world) := ⟨rfl, rfl, rfl, by decide +kernel, rfl, by decide +kernel, by decide +kernel⟩
theorem ok_is_world {P : Program} {w : PySem.World} {K : PySem.W.Frag} {mg : Str → Option Value} {base : Heap} {f : Addr} {fd : FuncData} (g : Gs K mg) (h_is_whole : FN P w K mg base 1 3 "is_whole" m_is_whole) (h_are_series : FN P w K mg base 2 2 "are_series" m_are_series) (h_is_hand : FN P w K mg base 3 4 "is_hand" m_is_hand) (F : FunD K "is_world" "is_world" (defArgs s_is_world) (defBody s_is_world) (defScope s_is_world) [] [] f fd) (hg : mg "is_world" = some (.ref f)) : FN P w K mg base 4 1 "is_world" m_is_world := by
  refine ⟨f, fd, ["thing"], ?_, hg, F.kp, F.bindsN fun _ _ _ _ _ _ us hl => match us, hl with | [_], _ => rfl⟩
  refine F.ok sc_m_is_world (fun vs H Q E h => h.1) (fun cdv A outer s H vs Q E hr h => body_ok (m := (mSeq m_is_world_s0 (mSeq m_is_world_s2 (mSeq m_is_world_s3 (mSeq m_is_world_s5 m_is_world_s7))))) (by decide) ?_ h)
  exact (sss_cons (ss_if (st_w (sw_or (st_not (st_val (se_isi rfl g.b_isinstance rfl g.b_tuple bt_tuple (sv 0)))) (sw_or (st_cmp (opM_ne (Room.u64 hr)) pu_ne (nomark _) (se_callB crM_len pu_len rfl g.b_len bt_len (sa_cons (sv 0) sa_nil)) se_int) (sw_or (st_not (st_val (se_callN h_is_whole hr (by decide) rfl takes_cx (sa_cons (se_ix (Room.u1 hr) (fun _ _ => rfl) (sv 0) se_int pu_ix) (sa_cons se_int (sa_cons se_int sa_nil))) (lenCons (lenCons (lenCons lenNil)))))) (sw_or1 (st_not (st_val (se_callN h_is_whole hr (by decide) rfl takes_cx (sa_cons (se_ix (Room.u1 hr) (fun _ _ => rfl) (sv 0) se_int pu_ix) (sa_cons se_int (sa_cons se_int sa_nil))) (lenCons (lenCons (lenCons lenNil))))))))))) (sss_one (ss_ret se_bl)) sss_nil) (sss_cons (ss_asg (sv 0) (sg_tup rfl (sgs_cons (sn 1 sc_m_is_world.nd) (sgs_cons (sn 2 sc_m_is_world.nd) (sgs_cons (sn 3 sc_m_is_world.nd) (sgs_cons (sn 4 sc_m_is_world.nd) sgs_nil)))))) (sss_cons (ss_if (st_w (sw_or (st_not (st_val (se_callN h_are_series hr (by decide) rfl takes_cx (sa_cons (sv 3) (sa_cons (sv 2) sa_nil)) (lenCons (lenCons lenNil))))) (sw_or (st_not (st_val (se_isi rfl g.b_isinstance rfl g.b_tuple bt_tuple (sv 4)))) (sw_or1 (st_not (st_chain (opM_int op_le) pu_cmpI (opM_int op_le) pu_cmpI se_int (se_callB crM_len pu_len rfl g.b_len bt_len (sa_cons (sv 4) sa_nil)) se_int)))))) (sss_one (ss_ret se_bl)) sss_nil) (sss_cons (ss_if (st_not (st_val (se_callB (crM_all rfl) pu_all rfl g.b_all bt_all (sa_cons (se_lc (fr := true) (own := [("hand", 5)]) rfl sc_m_is_world.nd (si_seq (sv 4)) (blkOk_by rfl) (fun _ _ _ _ _ => (sn 5 sc_m_is_world.nd)) (fun _ _ _ _ _ => sts_nil) (fun _ _ _ _ _ => (se_callN h_is_hand hr (by decide) rfl takesNo (sa_cons (sv 5) (sa_cons (sv 1) (sa_cons (sv 2) (sa_cons (se_callB crM_len pu_len rfl g.b_len bt_len (sa_cons (sv 3) sa_nil)) sa_nil)))) (lenCons (lenCons (lenCons (lenCons lenNil)))))) (by decide)) sa_nil)))) (sss_one (ss_ret se_bl)) sss_nil) (sss_one (ss_ret (se_cmp (opM_int op_le) pu_cmpI (nomark _) (se_callB (crM_sum rfl) pu_sum rfl g.b_sum bt_sum (sa_cons (se_lc (fr := true) (own := [("hand", 5)]) rfl sc_m_is_world.nd (si_seq (sv 4)) (blkOk_by rfl) (fun _ _ _ _ _ => (sn 5 sc_m_is_world.nd)) (fun _ _ _ _ _ => sts_nil) (fun _ _ _ _ _ => (se_callB crM_len pu_len rfl g.b_len bt_len (sa_cons (se_ix (Room.u1 hr) (fun _ _ => rfl) (sv 5) se_int pu_ix) sa_nil))) (by decide)) sa_nil)) se_int)))))))
def m_check_world_s1 : MS := mStk
def m_check_world_s0 : MS := (mIfS (mNot (mTest (mCallF m_is_world (mCons (mVar 0) mNil)))) m_check_world_s1 mNext)
def m_check_world : MF := mFn 1 (m_check_world_s0)
theorem sc_m_check_world : FnScope ["world"] ["world"] (defScope s_check_world) := ⟨rfl, rfl, rfl, by decide +kernel, rfl, by decide +kernel, by decide +kernel⟩
theorem ok_check_world {P : Program} {w : PySem.World} {K : PySem.W.Frag} {mg : Str → Option Value} {base : Heap} {f : Addr} {fd : FuncData} (g : Gs K mg) (h_is_world : FN P w K mg base 4 1 "is_world" m_is_world) (F : FunD K "check_world" "check_world" (defArgs s_check_world) (defBody s_check_world) (defScope s_check_world) [] [] f fd) (hg : mg "check_world" = some (.ref f)) : FN P w K mg base 5 1 "check_world" m_check_world := by
  refine ⟨f, fd, ["world"], ?_, hg, F.kp, F.bindsN fun _ _ _ _ _ _ us hl => match us, hl with | [_], _ => rfl⟩
  refine F.ok sc_m_check_world (fun vs H Q E h => h.1) (fun cdv A outer s H vs Q E hr h => body_ok (m := m_check_world_s0) (by decide) ?_ h)
  exact (sss_one (ss_if (st_not (st_val (se_callN h_is_world hr (by decide) rfl takes_cx (sa_cons (sv 0) sa_nil) (lenCons lenNil)))) (sss_one ss_stk) sss_nil))
def m_fresh_s0 : MS := (mRet (mTup (mCons (mVar 0) (mCons (mVar 1) (mCons (mOp mulM (mTup (mCons (mTup (mCons (mVar 1) (mCons (mVar 1) (mCons (mC (.bl false)) mNil)))) mNil)) (mVar 2)) mNil)))))
def m_fresh : MF := mFn 3 (m_fresh_s0)
theorem sc_m_fresh : FnScope ["person", "hour", "days"] ["person", "hour", "days"] (defScope s_fresh) := ⟨rfl, rfl, rfl, by decide +kernel, rfl, by decide +kernel, by decide +kernel⟩
theorem ok_fresh {P : Program} {w : PySem.World} {K : PySem.W.Frag} {mg : Str → Option Value} {base : Heap} {f : Addr} {fd : FuncData} (g : Gs K mg) (F : FunD K "fresh" "fresh" (defArgs s_fresh) (defBody s_fresh) (defScope s_fresh) [] [] f fd) (hg : mg "fresh" = some (.ref f)) : FN P w K mg base 1 3 "fresh" m_fresh := by
  refine ⟨f, fd, ["person", "hour", "days"], ?_, hg, F.kp, F.bindsN fun _ _ _ _ _ _ us hl => match us, hl with | [_, _, _], _ => rfl⟩
  refine F.ok sc_m_fresh (fun vs H Q E h => h.1) (fun cdv A outer s H vs Q E hr h => body_ok (m := m_fresh_s0) (by decide) ?_ h)
  exact (sss_one (ss_ret (se_tup (sa_cons (sv 0) (sa_cons (sv 1) (sa_cons (se_op opM_mul pu_mul (se_tup (sa_cons (se_tup (sa_cons (sv 1) (sa_cons (sv 1) (sa_cons se_bl sa_nil))) (lenCons (lenCons (lenCons lenNil))) (by decide)) sa_nil) (lenCons lenNil) (by decide)) (sv 2)) sa_nil))) (lenCons (lenCons (lenCons lenNil))) (by decide))))
def m_begin_s0 : MS := (mAsg (mVar 0) (tgTup (tgCons (tgName 2) (tgCons (tgName 3) (tgCons (tgName 4) (tgCons (tgName 5) tgNil))))))
def m_begin_s1 : MS := (mAsg (mCallF tupM (mCons (mLc true [6, 7] (mSrc (mVar 4)) (tgTup (tgCons (tgName 6) (tgCons (tgName 7) tgNil))) mTrue (mCallF m_fresh (mCons (mVar 6) (mCons (mVar 7) (mCons (mVar 2) mNil))))) mNil)) (tgName 1))
def m_begin_s2 : MS := (mRet (mTup (mCons (mOp mulM (mTup (mCons (mC (.int 0)) mNil)) (mCallF lenM (mCons (mVar 5) mNil))) (mCons (mOp mulM (mTup (mCons (mC d_BLANK) mNil)) (mCallF lenM (mCons (mVar 5) mNil))) (mCons (mVar 1) mNil)))))
def m_begin : MF := mFn 8 ((mSeq m_begin_s0 (mSeq m_begin_s1 m_begin_s2)))
theorem sc_m_begin : FnScope ["world", "standing", "days", "hours", "series", "hands", "person", "hour"] ["world"] (defScope s_begin) := ⟨rfl, rfl, rfl, by decide +kernel, rfl, by decide +kernel, by decide +kernel⟩
theorem ok_begin {P : Program} {w : PySem.World} {K : PySem.W.Frag} {mg : Str → Option Value} {base : Heap} {f : Addr} {fd : FuncData} (g : Gs K mg) (h_fresh : FN P w K mg base 1 3 "fresh" m_fresh) (F : FunD K "begin" "begin" (defArgs s_begin) (defBody s_begin) (defScope s_begin) [] [] f fd) (hg : mg "begin" = some (.ref f)) : FN P w K mg base 2 1 "begin" m_begin := by
  refine ⟨f, fd, ["world"], ?_, hg, F.kp, F.bindsN fun _ _ _ _ _ _ us hl => match us, hl with | [_], _ => rfl⟩
  refine F.ok sc_m_begin (fun vs H Q E h => h.1) (fun cdv A outer s H vs Q E hr h => body_ok (m := (mSeq m_begin_s0 (mSeq m_begin_s1 m_begin_s2))) (by decide) ?_ h)
  exact (sss_cons (ss_asg (sv 0) (sg_tup rfl (sgs_cons (sn 2 sc_m_begin.nd) (sgs_cons (sn 3 sc_m_begin.nd) (sgs_cons (sn 4 sc_m_begin.nd) (sgs_cons (sn 5 sc_m_begin.nd) sgs_nil)))))) (sss_cons (sset 1 sc_m_begin.nd (se_callTy crM_tuple pu_tuple rfl g.b_tuple bt_tuple (sa_cons (se_lc (fr := true) (own := [("person", 6), ("hour", 7)]) rfl sc_m_begin.nd (si_seq (sv 4)) (blkOk_by rfl) (fun _ _ _ _ _ => (sg_tup rfl (sgs_cons (sn 6 sc_m_begin.nd) (sgs_cons (sn 7 sc_m_begin.nd) sgs_nil)))) (fun _ _ _ _ _ => sts_nil) (fun _ _ _ _ _ => (se_callN h_fresh hr (by decide) rfl takesNo (sa_cons (sv 6) (sa_cons (sv 7) (sa_cons (sv 2) sa_nil))) (lenCons (lenCons (lenCons lenNil))))) (by decide)) sa_nil))) (sss_one (ss_ret (se_tup (sa_cons (se_op opM_mul pu_mul (se_tup (sa_cons se_int sa_nil) (lenCons lenNil) (by decide)) (se_callB crM_len pu_len rfl g.b_len bt_len (sa_cons (sv 5) sa_nil))) (sa_cons (se_op opM_mul pu_mul (se_tup (sa_cons (se_globN g.k_BLANK rfl) sa_nil) (lenCons lenNil) (by decide)) (se_callB crM_len pu_len rfl g.b_len bt_len (sa_cons (sv 5) sa_nil))) (sa_cons (sv 1) sa_nil))) (lenCons (lenCons (lenCons lenNil))) (by decide))))))
def m_has_step_s1 : MS := (mRet (mC (.bl false)))
def m_has_step_s0 : MS := (mIfS (mNot (mTest (mCallF m_is_whole (mCons (mVar 2) (mCons (mC (.int 0)) (mCons (mOp subM (mCallF lenM (mCons (mOp idxM (mVar 0) (mC (.int 3))) mNil)) (mC (.int 1))) mNil)))))) m_has_step_s1 mNext)
def m_has_step_s2 : MS := (mRet (mOp ltM (mOp idxM (mOp idxM (mVar 1) (mC (.int 0))) (mVar 2)) (mCallF lenM (mCons (mOp idxM (mOp idxM (mOp idxM (mVar 0) (mC (.int 3))) (mVar 2)) (mC (.int 1))) mNil))))
def m_has_step : MF := mFn 3 ((mSeq m_has_step_s0 m_has_step_s2))
theorem sc_m_has_step : FnScope ["world", "state", "hand"] ["world", "state", "hand"] (defScope s_has_step) := ⟨rfl, rfl, rfl, by decide +kernel, rfl, by decide +kernel, by decide +kernel⟩
theorem ok_has_step {P : Program} {w : PySem.World} {K : PySem.W.Frag} {mg : Str → Option Value} {base : Heap} {f : Addr} {fd : FuncData} (g : Gs K mg) (h_is_whole : FN P w K mg base 1 3 "is_whole" m_is_whole) (F : FunD K "has_step" "has_step" (defArgs s_has_step) (defBody s_has_step) (defScope s_has_step) [] [] f fd) (hg : mg "has_step" = some (.ref f)) : FN P w K mg base 2 3 "has_step" m_has_step := by
  refine ⟨f, fd, ["world", "state", "hand"], ?_, hg, F.kp, F.bindsN fun _ _ _ _ _ _ us hl => match us, hl with | [_, _, _], _ => rfl⟩
  refine F.ok sc_m_has_step (fun vs H Q E h => h.1) (fun cdv A outer s H vs Q E hr h => body_ok (m := (mSeq m_has_step_s0 m_has_step_s2)) (by decide) ?_ h)
  exact (sss_cons (ss_if (st_not (st_val (se_callN h_is_whole hr (by decide) rfl takes_cx (sa_cons (sv 2) (sa_cons se_int (sa_cons (se_op opM_sub pu_sub (se_callB crM_len pu_len rfl g.b_len bt_len (sa_cons (se_ix (Room.u1 hr) (fun _ _ => rfl) (sv 0) se_int pu_ix) sa_nil)) se_int) sa_nil))) (lenCons (lenCons (lenCons lenNil)))))) (sss_one (ss_ret se_bl)) sss_nil) (sss_one (ss_ret (se_cmp (opM_int op_lt) pu_cmpI (nomark _) (se_ix (Room.u1 hr) (fun _ _ => rfl) (se_ix (Room.u1 hr) (fun _ _ => rfl) (sv 1) se_int pu_ix) (sv 2) pu_ix) (se_callB crM_len pu_len rfl g.b_len bt_len (sa_cons (se_ix (Room.u1 hr) (fun _ _ => rfl) (se_ix (Room.u1 hr) (fun _ _ => rfl) (se_ix (Room.u1 hr) (fun _ _ => rfl) (sv 0) se_int pu_ix) (sv 2) pu_ix) se_int pu_ix) sa_nil))))))
def m_hands_at_s1 : MS := (mRet (mLst (mCons (mOp idxM (mVar 3) (mC (.int 0))) mNil)))
def m_hands_at_s0 : MS := (mIfS (mAnd (mTest (mOp isnM (mVar 3) (mC .non))) (mTest (mOp inM (mVar 3) (mVar 2)))) m_hands_at_s1 mNext)
def m_hands_at_s2 : MS := (mRet (mLc true [4] (mRng (mCons (mCallF lenM (mCons (mOp idxM (mVar 0) (mC (.int 3))) mNil)) mNil)) (tgName 4) (mTest (mCallF m_has_step (mCons (mVar 0) (mCons (mVar 1) (mCons (mVar 4) mNil))))) (mVar 4)))
def m_hands_at : MF := mFn 5 ((mSeq m_hands_at_s0 m_hands_at_s2))
theorem sc_m_hands_at : FnScope ["world", "state", "joints", "last", "hand"] ["world", "state", "joints", "last"] (defScope s_hands_at) := ⟨rfl, rfl, rfl, by decide +kernel, rfl, by decide +kernel, by decide +kernel⟩
theorem ok_hands_at {P : Program} {w : PySem.World} {K : PySem.W.Frag} {mg : Str → Option Value} {base : Heap} {f : Addr} {fd : FuncData} (g : Gs K mg) (h_has_step : FN P w K mg base 2 3 "has_step" m_has_step) (F : FunD K "hands_at" "hands_at" (defArgs s_hands_at) (defBody s_hands_at) (defScope s_hands_at) [] [] f fd) (hg : mg "hands_at" = some (.ref f)) : FN P w K mg base 3 4 "hands_at" m_hands_at := by
  refine ⟨f, fd, ["world", "state", "joints", "last"], ?_, hg, F.kp, F.bindsN fun _ _ _ _ _ _ us hl => match us, hl with | [_, _, _, _], _ => rfl⟩
  refine F.ok sc_m_hands_at (fun vs H Q E h => h.1) (fun cdv A outer s H vs Q E hr h => body_ok (m := (mSeq m_hands_at_s0 m_hands_at_s2)) (by decide) ?_ h)
  exact (sss_cons (ss_if (st_w (sw_and (st_cmp opM_isn pu_isn (nomark _) (sv 3) se_non) (sw_and1 (st_cmp (opM_in (Room.u65 hr)) pu_in (by with_unfolding_all rfl) (sv 3) (sv 2))))) (sss_one (ss_ret (se_lst (sa_cons (se_ix (Room.u1 hr) (fun _ _ => rfl) (sv 3) se_int pu_ix) sa_nil) (lenCons lenNil) (by decide)))) sss_nil) (sss_one (ss_ret (se_lc (fr := true) (own := [("hand", 4)]) rfl sc_m_hands_at.nd (si_rng rfl g.b_range (sa_cons (se_callB crM_len pu_len rfl g.b_len bt_len (sa_cons (se_ix (Room.u1 hr) (fun _ _ => rfl) (sv 0) se_int pu_ix) sa_nil)) sa_nil)) (blkOk_by rfl) (fun _ _ _ _ _ => (sn 4 sc_m_hands_at.nd)) (fun _ _ _ _ _ => (sts_one (st_val (se_callN h_has_step hr (by decide) rfl takesNo (sa_cons (sv 0) (sa_cons (sv 1) (sa_cons (sv 4) sa_nil))) (lenCons (lenCons (lenCons lenNil))))))) (fun _ _ _ _ _ => (sv 4)) (by decide)))))
def m_is_room_free_s0 : MS := (mRet (mNotV (mCallF anyM (mCons (mLc true [4, 5] (mEnum (mCons (mVar 0) mNil)) (tgTup (tgCons (tgName 4) (tgCons (tgName 5) tgNil))) mTrue (mAndV (mOp neM (mVar 4) (mVar 1)) (mOp eqM (mOp idxM (mOp idxM (mOp idxM (mVar 5) (mC (.int 2))) (mVar 2)) (mC (.int 0))) (mVar 3)))) mNil))))
def m_is_room_free : MF := mFn 6 (m_is_room_free_s0)
theorem sc_m_is_room_free : FnScope ["standing", "series", "day", "hour", "at", "row"] ["standing", "series", "day", "hour"] (defScope s_is_room_free) := ⟨rfl, rfl, rfl, by decide +kernel, rfl, by decide +kernel, by decide +kernel⟩
theorem ok_is_room_free {P : Program} {w : PySem.World} {K : PySem.W.Frag} {mg : Str → Option Value} {base : Heap} {f : Addr} {fd : FuncData} (g : Gs K mg) (F : FunD K "is_room_free" "is_room_free" (defArgs s_is_room_free) (defBody s_is_room_free) (defScope s_is_room_free) [] [] f fd) (hg : mg "is_room_free" = some (.ref f)) : FN P w K mg base 1 4 "is_room_free" m_is_room_free := by
  refine ⟨f, fd, ["standing", "series", "day", "hour"], ?_, hg, F.kp, F.bindsN fun _ _ _ _ _ _ us hl => match us, hl with | [_, _, _, _], _ => rfl⟩
  refine F.ok sc_m_is_room_free (fun vs H Q E h => h.1) (fun cdv A outer s H vs Q E hr h => body_ok (m := m_is_room_free_s0) (by decide) ?_ h)
  exact (sss_one (ss_ret (se_not (se_callB (crM_any rfl) pu_any rfl g.b_any bt_any (sa_cons (se_lc (fr := true) (own := [("at", 4), ("row", 5)]) rfl sc_m_is_room_free.nd (si_enum rfl g.b_enumerate (sa_cons (sv 0) sa_nil)) (blkOk_by rfl) (fun _ _ _ _ _ => (sg_tup rfl (sgs_cons (sn 4 sc_m_is_room_free.nd) (sgs_cons (sn 5 sc_m_is_room_free.nd) sgs_nil)))) (fun _ _ _ _ _ => sts_nil) (fun _ _ _ _ _ => (se_and (se_cmp (opM_ne (Room.u64 hr)) pu_ne (nomark _) (sv 4) (sv 1)) (se_one (se_cmp (opM_eq (Room.u64 hr)) pu_eq (nomark _) (se_ix (Room.u1 hr) (fun _ _ => rfl) (se_ix (Room.u1 hr) (fun _ _ => rfl) (se_ix (Room.u1 hr) (fun _ _ => rfl) (sv 5) se_int pu_ix) (sv 2) pu_ix) se_int pu_ix) (sv 3))))) (by decide)) sa_nil)))))
def m_is_person_free_s0 : MS := (mAsg (mOp idxM (mOp idxM (mVar 0) (mVar 1)) (mC (.int 0))) (tgName 4))
def m_is_person_free_s3 : MS := (mRet (mC (.bl false)))
def m_is_person_free_s2 : MS := (mIfS (mAnd (mTest (mOp neM (mVar 5) (mVar 1))) (mAnd (mTest (mOp eqM (mOp idxM (mVar 6) (mC (.int 0))) (mVar 4))) (mTest (mOp eqM (mOp idxM (mOp idxM (mOp idxM (mVar 6) (mC (.int 2))) (mVar 2)) (mC (.int 1))) (mVar 3))))) m_is_person_free_s3 mNext)
def m_is_person_free_s1 : MS := (mFor (mEnum (mCons (mVar 0) mNil)) (tgTup (tgCons (tgName 5) (tgCons (tgName 6) tgNil))) m_is_person_free_s2)
def m_is_person_free_s4 : MS := (mRet (mC (.bl true)))
def m_is_person_free : MF := mFn 7 ((mSeq m_is_person_free_s0 (mSeq m_is_person_free_s1 m_is_person_free_s4)))
theorem sc_m_is_person_free : FnScope ["standing", "series", "day", "hour", "person", "at", "row"] ["standing", "series", "day", "hour"] (defScope s_is_person_free) := ⟨rfl, rfl, rfl, by decide +kernel, rfl, by decide +kernel, by decide +kernel⟩
theorem ok_is_person_free {P : Program} {w : PySem.World} {K : PySem.W.Frag} {mg : Str → Option Value} {base : Heap} {f : Addr} {fd : FuncData} (g : Gs K mg) (F : FunD K "is_person_free" "is_person_free" (defArgs s_is_person_free) (defBody s_is_person_free) (defScope s_is_person_free) [] [] f fd) (hg : mg "is_person_free" = some (.ref f)) : FN P w K mg base 1 4 "is_person_free" m_is_person_free := by
  refine ⟨f, fd, ["standing", "series", "day", "hour"], ?_, hg, F.kp, F.bindsN fun _ _ _ _ _ _ us hl => match us, hl with | [_, _, _, _], _ => rfl⟩
  refine F.ok sc_m_is_person_free (fun vs H Q E h => h.1) (fun cdv A outer s H vs Q E hr h => body_ok (m := (mSeq m_is_person_free_s0 (mSeq m_is_person_free_s1 m_is_person_free_s4))) (by decide) ?_ h)
  exact (sss_cons (sset 4 sc_m_is_person_free.nd (se_ix (Room.u1 hr) (fun _ _ => rfl) (se_ix (Room.u1 hr) (fun _ _ => rfl) (sv 0) (sv 1) pu_ix) se_int pu_ix)) (sss_cons (ss_for pass_cx rfl (si_enum rfl g.b_enumerate (sa_cons (sv 0) sa_nil)) (sg_tup rfl (sgs_cons (sn 5 sc_m_is_person_free.nd) (sgs_cons (sn 6 sc_m_is_person_free.nd) sgs_nil))) (sss_one (ss_if (st_w (sw_and (st_cmp (opM_ne (Room.u64 hr)) pu_ne (nomark _) (sv 5) (sv 1)) (sw_and (st_cmp (opM_eq (Room.u64 hr)) pu_eq (nomark _) (se_ix (Room.u1 hr) (fun _ _ => rfl) (sv 6) se_int pu_ix) (sv 4)) (sw_and1 (st_cmp (opM_eq (Room.u64 hr)) pu_eq (nomark _) (se_ix (Room.u1 hr) (fun _ _ => rfl) (se_ix (Room.u1 hr) (fun _ _ => rfl) (se_ix (Room.u1 hr) (fun _ _ => rfl) (sv 6) se_int pu_ix) (sv 2) pu_ix) se_int pu_ix) (sv 3)))))) (sss_one (ss_ret se_bl)) sss_nil))) (sss_one (ss_ret se_bl))))
def m_is_gap_s3 : MS := (mRet (mC (.bl false)))
def m_is_gap_s2 : MS := (mIfS (mOr (mNot (mTest (mCallF m_is_room_free (mCons (mVar 0) (mCons (mVar 1) (mCons (mVar 3) (mCons (mVar 2) mNil))))))) (mNot (mTest (mCallF m_is_person_free (mCons (mVar 0) (mCons (mVar 1) (mCons (mVar 3) (mCons (mVar 2) mNil)))))))) m_is_gap_s3 mNext)
def m_is_gap_s1 : MS := (mIfS (mTest (mOp isnM (mVar 4) (mC .non))) m_is_gap_s2 mNext)
def m_is_gap_s0 : MS := (mFor (mEnum (mCons (mOp idxM (mOp idxM (mVar 0) (mVar 1)) (mC (.int 2))) mNil)) (tgTup (tgCons (tgName 3) (tgCons (tgTup (tgCons (tgName 4) (tgCons (tgName 5) (tgCons (tgName 6) tgNil)))) tgNil))) m_is_gap_s1)
def m_is_gap_s4 : MS := (mRet (mC (.bl true)))
def m_is_gap : MF := mFn 7 ((mSeq m_is_gap_s0 m_is_gap_s4))
theorem sc_m_is_gap : FnScope ["standing", "series", "hour", "day", "room", "there", "single"] ["standing", "series", "hour"] (defScope s_is_gap) := ⟨rfl, rfl, rfl, by decide +kernel, rfl, by decide +kernel, by decide +kernel⟩
theorem ok_is_gap {P : Program} {w : PySem.World} {K : PySem.W.Frag} {mg : Str → Option Value} {base : Heap} {f : Addr} {fd : FuncData} (g : Gs K mg) (h_is_room_free : FN P w K mg base 1 4 "is_room_free" m_is_room_free) (h_is_person_free : FN P w K mg base 1 4 "is_person_free" m_is_person_free) (F : FunD K "is_gap" "is_gap" (defArgs s_is_gap) (defBody s_is_gap) (defScope s_is_gap) [] [] f fd) (hg : mg "is_gap" = some (.ref f)) : FN P w K mg base 2 3 "is_gap" m_is_gap := by
  refine ⟨f, fd, ["standing", "series", "hour"], ?_, hg, F.kp, F.bindsN fun _ _ _ _ _ _ us hl => match us, hl with | [_, _, _], _ => rfl⟩
  refine F.ok sc_m_is_gap (fun vs H Q E h => h.1) (fun cdv A outer s H vs Q E hr h => body_ok (m := (mSeq m_is_gap_s0 m_is_gap_s4)) (by decide) ?_ h)
  exact (sss_cons (ss_for pass_cx rfl (si_enum rfl g.b_enumerate (sa_cons (se_ix (Room.u1 hr) (fun _ _ => rfl) (se_ix (Room.u1 hr) (fun _ _ => rfl) (sv 0) (sv 1) pu_ix) se_int pu_ix) sa_nil)) (sg_tup rfl (sgs_cons (sn 3 sc_m_is_gap.nd) (sgs_cons (sg_tup rfl (sgs_cons (sn 4 sc_m_is_gap.nd) (sgs_cons (sn 5 sc_m_is_gap.nd) (sgs_cons (sn 6 sc_m_is_gap.nd) sgs_nil)))) sgs_nil))) (sss_one (ss_if (st_cmp opM_isn pu_isn (nomark _) (sv 4) se_non) (sss_one (ss_if (st_w (sw_or (st_not (st_val (se_callN h_is_room_free hr (by decide) rfl takes_cx (sa_cons (sv 0) (sa_cons (sv 1) (sa_cons (sv 3) (sa_cons (sv 2) sa_nil)))) (lenCons (lenCons (lenCons (lenCons lenNil))))))) (sw_or1 (st_not (st_val (se_callN h_is_person_free hr (by decide) rfl takes_cx (sa_cons (sv 0) (sa_cons (sv 1) (sa_cons (sv 3) (sa_cons (sv 2) sa_nil)))) (lenCons (lenCons (lenCons (lenCons lenNil)))))))))) (sss_one (ss_ret se_bl)) sss_nil)) sss_nil))) (sss_one (ss_ret se_bl)))
def m_person_hours_s0 : MS := (mRet (mCallF tupM (mCons (mLc true [2, 3, 4] (mSrc (mOp idxM (mOp idxM (mVar 0) (mVar 1)) (mC (.int 2)))) (tgTup (tgCons (tgName 2) (tgCons (tgName 3) (tgCons (tgName 4) tgNil)))) mTrue (mVar 3)) mNil)))
def m_person_hours : MF := mFn 5 (m_person_hours_s0)
theorem sc_m_person_hours : FnScope ["standing", "series", "room", "there", "single"] ["standing", "series"] (defScope s_person_hours) := ⟨rfl, rfl, rfl, by decide +kernel, rfl, by decide +kernel, by decide +kernel⟩
theorem ok_person_hours {P : Program} {w : PySem.World} {K : PySem.W.Frag} {mg : Str → Option Value} {base : Heap} {f : Addr} {fd : FuncData} (g : Gs K mg) (F : FunD K "person_hours" "person_hours" (defArgs s_person_hours) (defBody s_person_hours) (defScope s_person_hours) [] [] f fd) (hg : mg "person_hours" = some (.ref f)) : FN P w K mg base 1 2 "person_hours" m_person_hours := by
  refine ⟨f, fd, ["standing", "series"], ?_, hg, F.kp, F.bindsN fun _ _ _ _ _ _ us hl => match us, hl with | [_, _], _ => rfl⟩
  refine F.ok sc_m_person_hours (fun vs H Q E h => h.1) (fun cdv A outer s H vs Q E hr h => body_ok (m := m_person_hours_s0) (by decide) ?_ h)
  exact (sss_one (ss_ret (se_callTy crM_tuple pu_tuple rfl g.b_tuple bt_tuple (sa_cons (se_lc (fr := true) (own := [("room", 2), ("there", 3), ("single", 4)]) rfl sc_m_person_hours.nd (si_seq (se_ix (Room.u1 hr) (fun _ _ => rfl) (se_ix (Room.u1 hr) (fun _ _ => rfl) (sv 0) (sv 1) pu_ix) se_int pu_ix)) (blkOk_by rfl) (fun _ _ _ _ _ => (sg_tup rfl (sgs_cons (sn 2 sc_m_person_hours.nd) (sgs_cons (sn 3 sc_m_person_hours.nd) (sgs_cons (sn 4 sc_m_person_hours.nd) sgs_nil))))) (fun _ _ _ _ _ => sts_nil) (fun _ _ _ _ _ => (sv 3)) (by decide)) sa_nil))))
def m_find_step_s0 : MS := (mAsg (mCallF m_is_gap (mCons (mVar 0) (mCons (mVar 1) (mCons (mVar 3) mNil)))) (tgName 4))
def m_find_step_s1 : MS := (mRet (mTup (mCons (mVar 4) (mCons (mTup (mCons (mVar 4) (mCons (mCallF m_person_hours (mCons (mVar 0) (mCons (mVar 1) mNil))) (mCons (mOp idxM (mVar 2) (mC (.int 2))) mNil)))) (mCons (mVar 0) mNil)))))
def m_find_step : MF := mFn 5 ((mSeq m_find_step_s0 m_find_step_s1))
theorem sc_m_find_step : FnScope ["standing", "series", "memory", "hour", "told"] ["standing", "series", "memory", "hour"] (defScope s_find_step) := ⟨rfl, rfl, rfl, by decide +kernel, rfl, by decide +kernel, by decide +kernel⟩
theorem ok_find_step {P : Program} {w : PySem.World} {K : PySem.W.Frag} {mg : Str → Option Value} {base : Heap} {f : Addr} {fd : FuncData} (g : Gs K mg) (h_is_gap : FN P w K mg base 2 3 "is_gap" m_is_gap) (h_person_hours : FN P w K mg base 1 2 "person_hours" m_person_hours) (F : FunD K "find_step" "find_step" (defArgs s_find_step) (defBody s_find_step) (defScope s_find_step) [] [] f fd) (hg : mg "find_step" = some (.ref f)) : FN P w K mg base 3 4 "find_step" m_find_step := by
  refine ⟨f, fd, ["standing", "series", "memory", "hour"], ?_, hg, F.kp, F.bindsN fun _ _ _ _ _ _ us hl => match us, hl with | [_, _, _, _], _ => rfl⟩
  refine F.ok sc_m_find_step (fun vs H Q E h => h.1) (fun cdv A outer s H vs Q E hr h => body_ok (m := (mSeq m_find_step_s0 m_find_step_s1)) (by decide) ?_ h)
  exact (sss_cons (sset 4 sc_m_find_step.nd (se_callN h_is_gap hr (by decide) rfl takes_cx (sa_cons (sv 0) (sa_cons (sv 1) (sa_cons (sv 3) sa_nil))) (lenCons (lenCons (lenCons lenNil))))) (sss_one (ss_ret (se_tup (sa_cons (sv 4) (sa_cons (se_tup (sa_cons (sv 4) (sa_cons (se_callN h_person_hours hr (by decide) rfl takes_cx (sa_cons (sv 0) (sa_cons (sv 1) sa_nil)) (lenCons (lenCons lenNil))) (sa_cons (se_ix (Room.u1 hr) (fun _ _ => rfl) (sv 2) se_int pu_ix) sa_nil))) (lenCons (lenCons (lenCons lenNil))) (by decide)) (sa_cons (sv 0) sa_nil))) (lenCons (lenCons (lenCons lenNil))) (by decide)))))
def m_tell_step_s0 : MS := (mAsg (mCallF m_person_hours (mCons (mVar 1) (mCons (mVar 2) mNil))) (tgName 4))
def m_tell_step_s2 : MS := (mAsg (mOp idxM (mVar 3) (mC (.int 1))) (tgName 4))
def m_tell_step_s1 : MS := (mIfS (mAnd (mTest (mOp eqM (mFld "Rule" "telling" (mVar 0)) (mC (.str "seen")))) (mTest (mOp isnM (mOp idxM (mVar 3) (mC (.int 1))) (mC .non)))) m_tell_step_s2 mNext)
def m_tell_step_s3 : MS := (mRet (mTup (mCons (mVar 4) (mCons (mTup (mCons (mOp idxM (mVar 3) (mC (.int 0))) (mCons (mVar 4) (mCons (mOp idxM (mVar 3) (mC (.int 2))) mNil)))) (mCons (mVar 1) mNil)))))
def m_tell_step : MF := mFn 5 ((mSeq m_tell_step_s0 (mSeq m_tell_step_s1 m_tell_step_s3)))
theorem sc_m_tell_step : FnScope ["rule", "standing", "series", "memory", "told"] ["rule", "standing", "series", "memory"] (defScope s_tell_step) := ⟨rfl, rfl, rfl, by decide +kernel, rfl, by decide +kernel, by decide +kernel⟩
theorem ok_tell_step {P : Program} {w : PySem.World} {K : PySem.W.Frag} {mg : Str → Option Value} {base : Heap} {f : Addr} {fd : FuncData} (g : Gs K mg) (h_person_hours : FN P w K mg base 1 2 "person_hours" m_person_hours) (F : FunD K "tell_step" "tell_step" (defArgs s_tell_step) (defBody s_tell_step) (defScope s_tell_step) [] [] f fd) (hg : mg "tell_step" = some (.ref f)) : FN P w K mg base 2 4 "tell_step" m_tell_step := by
  refine ⟨f, fd, ["rule", "standing", "series", "memory"], ?_, hg, F.kp, F.bindsN fun _ _ _ _ _ _ us hl => match us, hl with | [_, _, _, _], _ => rfl⟩
  refine F.ok sc_m_tell_step (fun vs H Q E h => h.1) (fun cdv A outer s H vs Q E hr h => body_ok (m := (mSeq m_tell_step_s0 (mSeq m_tell_step_s1 m_tell_step_s3))) (by decide) ?_ h)
  exact (sss_cons (sset 4 sc_m_tell_step.nd (se_callN h_person_hours hr (by decide) rfl takes_cx (sa_cons (sv 1) (sa_cons (sv 2) sa_nil)) (lenCons (lenCons lenNil)))) (sss_cons (ss_if (st_w (sw_and (st_cmp (opM_eq (Room.u64 hr)) pu_eq (nomark _) (se_fld g.c_Rule g.n_Rule_telling (sv 0)) se_str) (sw_and1 (st_cmp opM_isn pu_isn (nomark _) (se_ix (Room.u1 hr) (fun _ _ => rfl) (sv 3) se_int pu_ix) se_non)))) (sss_one (sset 4 sc_m_tell_step.nd (se_ix (Room.u1 hr) (fun _ _ => rfl) (sv 3) se_int pu_ix))) sss_nil) (sss_one (ss_ret (se_tup (sa_cons (sv 4) (sa_cons (se_tup (sa_cons (se_ix (Room.u1 hr) (fun _ _ => rfl) (sv 3) se_int pu_ix) (sa_cons (sv 4) (sa_cons (se_ix (Room.u1 hr) (fun _ _ => rfl) (sv 3) se_int pu_ix) sa_nil))) (lenCons (lenCons (lenCons lenNil))) (by decide)) (sa_cons (sv 1) sa_nil))) (lenCons (lenCons (lenCons lenNil))) (by decide))))))
def m_room_day_s0 : MS := (mAsg (mVar 3) (tgTup (tgCons (tgName 5) (tgCons (tgName 6) (tgCons (tgName 7) tgNil)))))
def m_room_day_s2 : MS := (mRet (mVar 3))
def m_room_day_s1 : MS := (mIfS (mTest (mOp isM (mVar 5) (mC .non))) m_room_day_s2 mNext)
def m_room_day_s4 : MS := (mRet (mVar 3))
def m_room_day_s3 : MS := (mIfS (mAnd (mTest (mVar 7)) (mTest (mOp eqM (mFld "Rule" "singles" (mVar 0)) (mC (.str "keep"))))) m_room_day_s4 mNext)
def m_room_day_s6 : MS := (mRet (mTup (mCons (mOp modM (mOp subM (mOp addM (mVar 5) (mVar 4)) (mOp idxM (mVar 2) (mC (.int 1)))) (mVar 1)) (mCons (mVar 6) (mCons (mC (.bl true)) mNil)))))
def m_room_day_s5 : MS := (mIfS (mAnd (mTest (mVar 7)) (mTest (mOp eqM (mFld "Rule" "singles" (mVar 0)) (mC (.str "move"))))) m_room_day_s6 mNext)
def m_room_day_s7 : MS := (mRet (mTup (mCons (mVar 4) (mCons (mVar 6) (mCons (mC (.bl false)) mNil)))))
def m_room_day : MF := mFn 8 ((mSeq m_room_day_s0 (mSeq m_room_day_s1 (mSeq m_room_day_s3 (mSeq m_room_day_s5 m_room_day_s7)))))
theorem sc_m_room_day : FnScope ["rule", "hours", "row", "day", "hour", "room", "there", "single"] ["rule", "hours", "row", "day", "hour"] (defScope s_room_day) := ⟨rfl, rfl, rfl, by decide +kernel, rfl, by decide +kernel, by decide +kernel⟩
theorem ok_room_day {P : Program} {w : PySem.World} {K : PySem.W.Frag} {mg : Str → Option Value} {base : Heap} {f : Addr} {fd : FuncData} (g : Gs K mg) (F : FunD K "room_day" "room_day" (defArgs s_room_day) (defBody s_room_day) (defScope s_room_day) [] [] f fd) (hg : mg "room_day" = some (.ref f)) : FN P w K mg base 1 5 "room_day" m_room_day := by
  refine ⟨f, fd, ["rule", "hours", "row", "day", "hour"], ?_, hg, F.kp, F.bindsN fun _ _ _ _ _ _ us hl => match us, hl with | [_, _, _, _, _], _ => rfl⟩
  refine F.ok sc_m_room_day (fun vs H Q E h => h.1) (fun cdv A outer s H vs Q E hr h => body_ok (m := (mSeq m_room_day_s0 (mSeq m_room_day_s1 (mSeq m_room_day_s3 (mSeq m_room_day_s5 m_room_day_s7))))) (by decide) ?_ h)
  exact (sss_cons (ss_asg (sv 3) (sg_tup rfl (sgs_cons (sn 5 sc_m_room_day.nd) (sgs_cons (sn 6 sc_m_room_day.nd) (sgs_cons (sn 7 sc_m_room_day.nd) sgs_nil))))) (sss_cons (ss_if (st_cmp opM_is pu_is (nomark _) (sv 5) se_non) (sss_one (ss_ret (sv 3))) sss_nil) (sss_cons (ss_if (st_w (sw_and (st_val (sv 7)) (sw_and1 (st_cmp (opM_eq (Room.u64 hr)) pu_eq (nomark _) (se_fld g.c_Rule g.n_Rule_singles (sv 0)) se_str)))) (sss_one (ss_ret (sv 3))) sss_nil) (sss_cons (ss_if (st_w (sw_and (st_val (sv 7)) (sw_and1 (st_cmp (opM_eq (Room.u64 hr)) pu_eq (nomark _) (se_fld g.c_Rule g.n_Rule_singles (sv 0)) se_str)))) (sss_one (ss_ret (se_tup (sa_cons (se_op opM_mod pu_mod (se_op opM_sub pu_sub (se_op opM_add pu_add (sv 5) (sv 4)) (se_ix (Room.u1 hr) (fun _ _ => rfl) (sv 2) se_int pu_ix)) (sv 1)) (sa_cons (sv 6) (sa_cons se_bl sa_nil))) (lenCons (lenCons (lenCons lenNil))) (by decide)))) sss_nil) (sss_one (ss_ret (se_tup (sa_cons (sv 4) (sa_cons (sv 6) (sa_cons se_bl sa_nil))) (lenCons (lenCons (lenCons lenNil))) (by decide))))))))
def m_with_series_s0 : MS := (mRet (mOp addM (mOp addM (mSlice (mVar 0) moNone (moSome (mVar 1))) (mTup (mCons (mTup (mCons (mOp idxM (mOp idxM (mVar 0) (mVar 1)) (mC (.int 0))) (mCons (mVar 2) (mCons (mVar 3) mNil)))) mNil))) (mSlice (mVar 0) (moSome (mOp addM (mVar 1) (mC (.int 1)))) moNone)))
def m_with_series : MF := mFn 4 (m_with_series_s0)
theorem sc_m_with_series : FnScope ["standing", "series", "base", "days"] ["standing", "series", "base", "days"] (defScope s_with_series) := ⟨rfl, rfl, rfl, by decide +kernel, rfl, by decide +kernel, by decide +kernel⟩
theorem ok_with_series {P : Program} {w : PySem.World} {K : PySem.W.Frag} {mg : Str → Option Value} {base : Heap} {f : Addr} {fd : FuncData} (g : Gs K mg) (F : FunD K "with_series" "with_series" (defArgs s_with_series) (defBody s_with_series) (defScope s_with_series) [] [] f fd) (hg : mg "with_series" = some (.ref f)) : FN P w K mg base 1 4 "with_series" m_with_series := by
  refine ⟨f, fd, ["standing", "series", "base", "days"], ?_, hg, F.kp, F.bindsN fun _ _ _ _ _ _ us hl => match us, hl with | [_, _, _, _], _ => rfl⟩
  refine F.ok sc_m_with_series (fun vs H Q E h => h.1) (fun cdv A outer s H vs Q E hr h => body_ok (m := m_with_series_s0) (by decide) ?_ h)
  exact (sss_one (ss_ret (se_op opM_add pu_add (se_op opM_add pu_add (se_slice (sv 0) so_none (so_some (sv 1))) (se_tup (sa_cons (se_tup (sa_cons (se_ix (Room.u1 hr) (fun _ _ => rfl) (se_ix (Room.u1 hr) (fun _ _ => rfl) (sv 0) (sv 1) pu_ix) se_int pu_ix) (sa_cons (sv 2) (sa_cons (sv 3) sa_nil))) (lenCons (lenCons (lenCons lenNil))) (by decide)) sa_nil) (lenCons lenNil) (by decide))) (se_slice (sv 0) (so_some (se_op opM_add pu_add (sv 1) se_int)) so_none))))
def m_room_set_s0 : MS := (mAsg (mOp idxM (mVar 2) (mVar 3)) (tgName 5))
def m_room_set_s1 : MS := (mAsg (mCallF tupM (mCons (mLc true [8] (mSrc (mOp idxM (mVar 5) (mC (.int 2)))) (tgName 8) mTrue (mCallF m_room_day (mCons (mVar 0) (mCons (mVar 1) (mCons (mVar 5) (mCons (mVar 8) (mCons (mVar 4) mNil))))))) mNil)) (tgName 6))
def m_room_set_s5 : MS := (mRet (mC .non))
def m_room_set_s4 : MS := (mIfS (mAnd (mTest (mOp neM (mOp idxM (mVar 9) (mC (.int 0))) (mOp idxM (mVar 10) (mC (.int 0))))) (mNot (mTest (mCallF m_is_room_free (mCons (mVar 2) (mCons (mVar 3) (mCons (mVar 7) (mCons (mOp idxM (mVar 10) (mC (.int 0))) mNil)))))))) m_room_set_s5 mNext)
def m_room_set_s3 : MS := (mFor (mEzip (mCons (mOp idxM (mVar 5) (mC (.int 2))) (mCons (mVar 6) mNil))) (tgTup (tgCons (tgName 7) (tgCons (tgTup (tgCons (tgName 9) (tgCons (tgName 10) tgNil))) tgNil))) m_room_set_s4)
def m_room_set_s2 : MS := (mIfS (mTest (mOp neM (mFld "Rule" "checking" (mVar 0)) (mC (.str "none")))) m_room_set_s3 mNext)
def m_room_set_s6 : MS := (mRet (mCallF m_with_series (mCons (mVar 2) (mCons (mVar 3) (mCons (mVar 4) (mCons (mVar 6) mNil))))))
def m_room_set : MF := mFn 11 ((mSeq m_room_set_s0 (mSeq m_room_set_s1 (mSeq m_room_set_s2 m_room_set_s6))))
theorem sc_m_room_set : FnScope ["rule", "hours", "standing", "series", "hour", "row", "days", "at", "day", "before", "after"] ["rule", "hours", "standing", "series", "hour"] (defScope s_room_set) := ⟨rfl, rfl, rfl, by decide +kernel, rfl, by decide +kernel, by decide +kernel⟩
theorem ok_room_set {P : Program} {w : PySem.World} {K : PySem.W.Frag} {mg : Str → Option Value} {base : Heap} {f : Addr} {fd : FuncData} (g : Gs K mg) (h_room_day : FN P w K mg base 1 5 "room_day" m_room_day) (h_is_room_free : FN P w K mg base 1 4 "is_room_free" m_is_room_free) (h_with_series : FN P w K mg base 1 4 "with_series" m_with_series) (F : FunD K "room_set" "room_set" (defArgs s_room_set) (defBody s_room_set) (defScope s_room_set) [] [] f fd) (hg : mg "room_set" = some (.ref f)) : FN P w K mg base 2 5 "room_set" m_room_set := by
  refine ⟨f, fd, ["rule", "hours", "standing", "series", "hour"], ?_, hg, F.kp, F.bindsN fun _ _ _ _ _ _ us hl => match us, hl with | [_, _, _, _, _], _ => rfl⟩
  refine F.ok sc_m_room_set (fun vs H Q E h => h.1) (fun cdv A outer s H vs Q E hr h => body_ok (m := (mSeq m_room_set_s0 (mSeq m_room_set_s1 (mSeq m_room_set_s2 m_room_set_s6)))) (by decide) ?_ h)
  exact (sss_cons (sset 5 sc_m_room_set.nd (se_ix (Room.u1 hr) (fun _ _ => rfl) (sv 2) (sv 3) pu_ix)) (sss_cons (sset 6 sc_m_room_set.nd (se_callTy crM_tuple pu_tuple rfl g.b_tuple bt_tuple (sa_cons (se_lc (fr := true) (own := [("day", 8)]) rfl sc_m_room_set.nd (si_seq (se_ix (Room.u1 hr) (fun _ _ => rfl) (sv 5) se_int pu_ix)) (blkOk_by rfl) (fun _ _ _ _ _ => (sn 8 sc_m_room_set.nd)) (fun _ _ _ _ _ => sts_nil) (fun _ _ _ _ _ => (se_callN h_room_day hr (by decide) rfl takesNo (sa_cons (sv 0) (sa_cons (sv 1) (sa_cons (sv 5) (sa_cons (sv 8) (sa_cons (sv 4) sa_nil))))) (lenCons (lenCons (lenCons (lenCons (lenCons lenNil))))))) (by decide)) sa_nil))) (sss_cons (ss_if (st_cmp (opM_ne (Room.u64 hr)) pu_ne (nomark _) (se_fld g.c_Rule g.n_Rule_checking (sv 0)) se_str) (sss_one (ss_for pass_cx rfl (si_ezip rfl g.b_enumerate rfl g.b_zip (sa_cons (se_ix (Room.u1 hr) (fun _ _ => rfl) (sv 5) se_int pu_ix) (sa_cons (sv 6) sa_nil))) (sg_tup rfl (sgs_cons (sn 7 sc_m_room_set.nd) (sgs_cons (sg_tup rfl (sgs_cons (sn 9 sc_m_room_set.nd) (sgs_cons (sn 10 sc_m_room_set.nd) sgs_nil))) sgs_nil))) (sss_one (ss_if (st_w (sw_and (st_cmp (opM_ne (Room.u64 hr)) pu_ne (nomark _) (se_ix (Room.u1 hr) (fun _ _ => rfl) (sv 9) se_int pu_ix) (se_ix (Room.u1 hr) (fun _ _ => rfl) (sv 10) se_int pu_ix)) (sw_and1 (st_not (st_val (se_callN h_is_room_free hr (by decide) rfl takes_cx (sa_cons (sv 2) (sa_cons (sv 3) (sa_cons (sv 7) (sa_cons (se_ix (Room.u1 hr) (fun _ _ => rfl) (sv 10) se_int pu_ix) sa_nil)))) (lenCons (lenCons (lenCons (lenCons lenNil)))))))))) (sss_one (ss_ret se_non)) sss_nil)))) sss_nil) (sss_one (ss_ret (se_callN h_with_series hr (by decide) rfl takes_cx (sa_cons (sv 2) (sa_cons (sv 3) (sa_cons (sv 4) (sa_cons (sv 6) sa_nil)))) (lenCons (lenCons (lenCons (lenCons lenNil))))))))))
def m_room_step_s0 : MS := (mAsg (mIf (mTest (mOp isM (mOp idxM (mVar 4) (mC (.int 0))) (mC (.bl false)))) (mC .non) (mCallF m_room_set (mCons (mVar 0) (mCons (mVar 1) (mCons (mVar 2) (mCons (mVar 3) (mCons (mVar 5) mNil))))))) (tgName 6))
def m_room_step_s2 : MS := (mRet (mTup (mCons (mC (.str "refused")) (mCons (mVar 4) (mCons (mVar 2) mNil)))))
def m_room_step_s1 : MS := (mIfS (mTest (mOp isM (mVar 6) (mC .non))) m_room_step_s2 mNext)
def m_room_step_s3 : MS := (mRet (mTup (mCons (mC (.str "done")) (mCons (mTup (mCons (mOp idxM (mVar 4) (mC (.int 0))) (mCons (mOp idxM (mVar 4) (mC (.int 1))) (mCons (mOp idxM (mVar 2) (mVar 3)) mNil)))) (mCons (mVar 6) mNil)))))
def m_room_step : MF := mFn 7 ((mSeq m_room_step_s0 (mSeq m_room_step_s1 m_room_step_s3)))
theorem sc_m_room_step : FnScope ["rule", "hours", "standing", "series", "memory", "hour", "after"] ["rule", "hours", "standing", "series", "memory", "hour"] (defScope s_room_step) := ⟨rfl, rfl, rfl, by decide +kernel, rfl, by decide +kernel, by decide +kernel⟩
theorem ok_room_step {P : Program} {w : PySem.World} {K : PySem.W.Frag} {mg : Str → Option Value} {base : Heap} {f : Addr} {fd : FuncData} (g : Gs K mg) (h_room_set : FN P w K mg base 2 5 "room_set" m_room_set) (F : FunD K "room_step" "room_step" (defArgs s_room_step) (defBody s_room_step) (defScope s_room_step) [] [] f fd) (hg : mg "room_step" = some (.ref f)) : FN P w K mg base 3 6 "room_step" m_room_step := by
  refine ⟨f, fd, ["rule", "hours", "standing", "series", "memory", "hour"], ?_, hg, F.kp, F.bindsN fun _ _ _ _ _ _ us hl => match us, hl with | [_, _, _, _, _, _], _ => rfl⟩
  refine F.ok sc_m_room_step (fun vs H Q E h => h.1) (fun cdv A outer s H vs Q E hr h => body_ok (m := (mSeq m_room_step_s0 (mSeq m_room_step_s1 m_room_step_s3))) (by decide) ?_ h)
  exact (sss_cons (sset 6 sc_m_room_step.nd (se_if (st_cmp opM_is pu_is (nomark _) (se_ix (Room.u1 hr) (fun _ _ => rfl) (sv 4) se_int pu_ix) se_bl) se_non (se_callN h_room_set hr (by decide) rfl takes_cx (sa_cons (sv 0) (sa_cons (sv 1) (sa_cons (sv 2) (sa_cons (sv 3) (sa_cons (sv 5) sa_nil))))) (lenCons (lenCons (lenCons (lenCons (lenCons lenNil)))))))) (sss_cons (ss_if (st_cmp opM_is pu_is (nomark _) (sv 6) se_non) (sss_one (ss_ret (se_tup (sa_cons se_str (sa_cons (sv 4) (sa_cons (sv 2) sa_nil))) (lenCons (lenCons (lenCons lenNil))) (by decide)))) sss_nil) (sss_one (ss_ret (se_tup (sa_cons se_str (sa_cons (se_tup (sa_cons (se_ix (Room.u1 hr) (fun _ _ => rfl) (sv 4) se_int pu_ix) (sa_cons (se_ix (Room.u1 hr) (fun _ _ => rfl) (sv 4) se_int pu_ix) (sa_cons (se_ix (Room.u1 hr) (fun _ _ => rfl) (sv 2) (sv 3) pu_ix) sa_nil))) (lenCons (lenCons (lenCons lenNil))) (by decide)) (sa_cons (sv 6) sa_nil))) (lenCons (lenCons (lenCons lenNil))) (by decide))))))
def m_person_set_s0 : MS := (mAsg (mOp idxM (mVar 1) (mVar 2)) (tgName 3))
def m_person_set_s1 : MS := (mAsg (mCallF tupM (mCons (mLc true [8, 9, 10] (mSrc (mOp idxM (mVar 3) (mC (.int 2)))) (tgTup (tgCons (tgName 8) (tgCons (tgName 9) (tgCons (tgName 10) tgNil)))) mTrue (mTup (mCons (mVar 8) (mCons (mVar 8) (mCons (mVar 10) mNil))))) mNil)) (tgName 4))
def m_person_set_s5 : MS := (mRet (mC .non))
def m_person_set_s4 : MS := (mIfS (mAnd (mTest (mOp neM (mOp idxM (mVar 6) (mC (.int 1))) (mOp idxM (mVar 7) (mC (.int 1))))) (mNot (mTest (mCallF m_is_person_free (mCons (mVar 1) (mCons (mVar 2) (mCons (mVar 5) (mCons (mOp idxM (mVar 7) (mC (.int 1))) mNil)))))))) m_person_set_s5 mNext)
def m_person_set_s3 : MS := (mFor (mEzip (mCons (mOp idxM (mVar 3) (mC (.int 2))) (mCons (mVar 4) mNil))) (tgTup (tgCons (tgName 5) (tgCons (tgTup (tgCons (tgName 6) (tgCons (tgName 7) tgNil))) tgNil))) m_person_set_s4)
def m_person_set_s2 : MS := (mIfS (mTest (mOp eqM (mFld "Rule" "checking" (mVar 0)) (mC (.str "both")))) m_person_set_s3 mNext)
def m_person_set_s6 : MS := (mRet (mCallF m_with_series (mCons (mVar 1) (mCons (mVar 2) (mCons (mOp idxM (mVar 3) (mC (.int 1))) (mCons (mVar 4) mNil))))))
def m_person_set : MF := mFn 11 ((mSeq m_person_set_s0 (mSeq m_person_set_s1 (mSeq m_person_set_s2 m_person_set_s6))))
theorem sc_m_person_set : FnScope ["rule", "standing", "series", "row", "days", "at", "before", "after", "room", "there", "single"] ["rule", "standing", "series"] (defScope s_person_set) := ⟨rfl, rfl, rfl, by decide +kernel, rfl, by decide +kernel, by decide +kernel⟩
theorem ok_person_set {P : Program} {w : PySem.World} {K : PySem.W.Frag} {mg : Str → Option Value} {base : Heap} {f : Addr} {fd : FuncData} (g : Gs K mg) (h_is_person_free : FN P w K mg base 1 4 "is_person_free" m_is_person_free) (h_with_series : FN P w K mg base 1 4 "with_series" m_with_series) (F : FunD K "person_set" "person_set" (defArgs s_person_set) (defBody s_person_set) (defScope s_person_set) [] [] f fd) (hg : mg "person_set" = some (.ref f)) : FN P w K mg base 2 3 "person_set" m_person_set := by
  refine ⟨f, fd, ["rule", "standing", "series"], ?_, hg, F.kp, F.bindsN fun _ _ _ _ _ _ us hl => match us, hl with | [_, _, _], _ => rfl⟩
  refine F.ok sc_m_person_set (fun vs H Q E h => h.1) (fun cdv A outer s H vs Q E hr h => body_ok (m := (mSeq m_person_set_s0 (mSeq m_person_set_s1 (mSeq m_person_set_s2 m_person_set_s6)))) (by decide) ?_ h)
  exact (sss_cons (sset 3 sc_m_person_set.nd (se_ix (Room.u1 hr) (fun _ _ => rfl) (sv 1) (sv 2) pu_ix)) (sss_cons (sset 4 sc_m_person_set.nd (se_callTy crM_tuple pu_tuple rfl g.b_tuple bt_tuple (sa_cons (se_lc (fr := true) (own := [("room", 8), ("there", 9), ("single", 10)]) rfl sc_m_person_set.nd (si_seq (se_ix (Room.u1 hr) (fun _ _ => rfl) (sv 3) se_int pu_ix)) (blkOk_by rfl) (fun _ _ _ _ _ => (sg_tup rfl (sgs_cons (sn 8 sc_m_person_set.nd) (sgs_cons (sn 9 sc_m_person_set.nd) (sgs_cons (sn 10 sc_m_person_set.nd) sgs_nil))))) (fun _ _ _ _ _ => sts_nil) (fun _ _ _ _ _ => (se_tup (sa_cons (sv 8) (sa_cons (sv 8) (sa_cons (sv 10) sa_nil))) (lenCons (lenCons (lenCons lenNil))) (by decide))) (by decide)) sa_nil))) (sss_cons (ss_if (st_cmp (opM_eq (Room.u64 hr)) pu_eq (nomark _) (se_fld g.c_Rule g.n_Rule_checking (sv 0)) se_str) (sss_one (ss_for pass_cx rfl (si_ezip rfl g.b_enumerate rfl g.b_zip (sa_cons (se_ix (Room.u1 hr) (fun _ _ => rfl) (sv 3) se_int pu_ix) (sa_cons (sv 4) sa_nil))) (sg_tup rfl (sgs_cons (sn 5 sc_m_person_set.nd) (sgs_cons (sg_tup rfl (sgs_cons (sn 6 sc_m_person_set.nd) (sgs_cons (sn 7 sc_m_person_set.nd) sgs_nil))) sgs_nil))) (sss_one (ss_if (st_w (sw_and (st_cmp (opM_ne (Room.u64 hr)) pu_ne (nomark _) (se_ix (Room.u1 hr) (fun _ _ => rfl) (sv 6) se_int pu_ix) (se_ix (Room.u1 hr) (fun _ _ => rfl) (sv 7) se_int pu_ix)) (sw_and1 (st_not (st_val (se_callN h_is_person_free hr (by decide) rfl takes_cx (sa_cons (sv 1) (sa_cons (sv 2) (sa_cons (sv 5) (sa_cons (se_ix (Room.u1 hr) (fun _ _ => rfl) (sv 7) se_int pu_ix) sa_nil)))) (lenCons (lenCons (lenCons (lenCons lenNil)))))))))) (sss_one (ss_ret se_non)) sss_nil)))) sss_nil) (sss_one (ss_ret (se_callN h_with_series hr (by decide) rfl takes_cx (sa_cons (sv 1) (sa_cons (sv 2) (sa_cons (se_ix (Room.u1 hr) (fun _ _ => rfl) (sv 3) se_int pu_ix) (sa_cons (sv 4) sa_nil)))) (lenCons (lenCons (lenCons (lenCons lenNil))))))))))
def m_taken_back_s0 : MS := (mAsg (mCell mNil) (tgName 3))
def m_taken_back_s2 : MS := (mDrop (mApp (mVar 3) (mIf (mTest (mOp isM (mOp idxM (mVar 4) (mC (.int 0))) (mC .non))) (mVar 4) (mTup (mCons (mOp idxM (mVar 5) (mC (.int 0))) (mCons (mOp idxM (mVar 4) (mC (.int 1))) (mCons (mOp idxM (mVar 5) (mC (.int 2))) mNil)))))))
def m_taken_back_s1 : MS := (mFor (mZip2 (mCons (mOp idxM (mOp idxM (mVar 0) (mVar 1)) (mC (.int 2))) (mCons (mOp idxM (mVar 2) (mC (.int 2))) mNil))) (tgTup (tgCons (tgName 4) (tgCons (tgName 5) tgNil))) m_taken_back_s2)
def m_taken_back_s3 : MS := (mRet (mCallF m_with_series (mCons (mVar 0) (mCons (mVar 1) (mCons (mOp idxM (mVar 2) (mC (.int 1))) (mCons (mCallF tupM (mCons (mVar 3) mNil)) mNil))))))
def m_taken_back : MF := frzF (mFn 6 ((mSeq m_taken_back_s0 (mSeq m_taken_back_s1 m_taken_back_s3))))
theorem sc_m_taken_back : FnScope ["standing", "series", "before", "days", "now", "then"] ["standing", "series", "before"] (defScope s_taken_back) := ⟨rfl, rfl, rfl, by decide +kernel, rfl, by decide +kernel, by decide +kernel⟩
theorem ok_taken_back {P : Program} {w : PySem.World} {K : PySem.W.Frag} {mg : Str → Option Value} {base : Heap} {f : Addr} {fd : FuncData} (g : Gs K mg) (h_with_series : FN P w K mg base 1 4 "with_series" m_with_series) (F : FunD K "taken_back" "taken_back" (defArgs s_taken_back) (defBody s_taken_back) (defScope s_taken_back) [] [] f fd) (hg : mg "taken_back" = some (.ref f)) : FN P w K mg base 2 3 "taken_back" m_taken_back := by
  refine ⟨f, fd, ["standing", "series", "before"], ?_, hg, F.kp, F.bindsN fun _ _ _ _ _ _ us hl => match us, hl with | [_, _, _], _ => rfl⟩
  refine frz_ok (m := mFn _ _) (F.ok sc_m_taken_back (fun vs H Q E h => h.1) (fun cdv A outer s H vs Q E hr h => body_ok (m := (mSeq m_taken_back_s0 (mSeq m_taken_back_s1 m_taken_back_s3))) (by decide) ?_ h))
  exact (sss_cons (sset 3 sc_m_taken_back.nd (se_cell sa_nil lenNil (by decide))) (sss_cons (ss_for pass_cx rfl (si_zip2 rfl g.b_zip (sa_cons (se_ix (Room.u1 hr) (fun _ _ => rfl) (se_ix (Room.u1 hr) (fun _ _ => rfl) (sv 0) (sv 1) pu_ix) se_int pu_ix) (sa_cons (se_ix (Room.u1 hr) (fun _ _ => rfl) (sv 2) se_int pu_ix) sa_nil))) (sg_tup rfl (sgs_cons (sn 4 sc_m_taken_back.nd) (sgs_cons (sn 5 sc_m_taken_back.nd) sgs_nil))) (sss_one (ss_expr (se_app (sv 3) (se_if (st_cmp opM_is pu_is (nomark _) (se_ix (Room.u1 hr) (fun _ _ => rfl) (sv 4) se_int pu_ix) se_non) (sv 4) (se_tup (sa_cons (se_ix (Room.u1 hr) (fun _ _ => rfl) (sv 5) se_int pu_ix) (sa_cons (se_ix (Room.u1 hr) (fun _ _ => rfl) (sv 4) se_int pu_ix) (sa_cons (se_ix (Room.u1 hr) (fun _ _ => rfl) (sv 5) se_int pu_ix) sa_nil))) (lenCons (lenCons (lenCons lenNil))) (by decide))))))) (sss_one (ss_ret (se_callN h_with_series hr (by decide) rfl takes_cx (sa_cons (sv 0) (sa_cons (sv 1) (sa_cons (se_ix (Room.u1 hr) (fun _ _ => rfl) (sv 2) se_int pu_ix) (sa_cons (se_callTy crM_tuple pu_tuple rfl g.b_tuple bt_tuple (sa_cons (sv 3) sa_nil)) sa_nil)))) (lenCons (lenCons (lenCons (lenCons lenNil)))))))))
def m_person_step_s0 : MS := (mAsg (mCallF m_person_set (mCons (mVar 0) (mCons (mVar 1) (mCons (mVar 2) mNil)))) (tgName 4))
def m_person_step_s2 : MS := (mRet (mTup (mCons (mC (.str "done")) (mCons (mVar 3) (mCons (mVar 4) mNil)))))
def m_person_step_s1 : MS := (mIfS (mTest (mOp isnM (mVar 4) (mC .non))) m_person_step_s2 mNext)
def m_person_step_s4 : MS := (mRet (mTup (mCons (mC (.str "refused")) (mCons (mTup (mCons (mOp idxM (mVar 3) (mC (.int 0))) (mCons (mOp idxM (mVar 3) (mC (.int 1))) (mCons (mC .non) mNil)))) (mCons (mCallF m_taken_back (mCons (mVar 1) (mCons (mVar 2) (mCons (mOp idxM (mVar 3) (mC (.int 2))) mNil)))) mNil)))))
def m_person_step_s3 : MS := (mIfS (mAnd (mTest (mOp eqM (mFld "Rule" "halves" (mVar 0)) (mC (.str "undone")))) (mTest (mOp isnM (mOp idxM (mVar 3) (mC (.int 2))) (mC .non)))) m_person_step_s4 mNext)
def m_person_step_s5 : MS := (mRet (mTup (mCons (mC (.str "refused")) (mCons (mVar 3) (mCons (mVar 1) mNil)))))
def m_person_step : MF := mFn 5 ((mSeq m_person_step_s0 (mSeq m_person_step_s1 (mSeq m_person_step_s3 m_person_step_s5))))
theorem sc_m_person_step : FnScope ["rule", "standing", "series", "memory", "after"] ["rule", "standing", "series", "memory"] (defScope s_person_step) := ⟨rfl, rfl, rfl, by decide +kernel, rfl, by decide +kernel, by decide +kernel⟩
theorem ok_person_step {P : Program} {w : PySem.World} {K : PySem.W.Frag} {mg : Str → Option Value} {base : Heap} {f : Addr} {fd : FuncData} (g : Gs K mg) (h_person_set : FN P w K mg base 2 3 "person_set" m_person_set) (h_taken_back : FN P w K mg base 2 3 "taken_back" m_taken_back) (F : FunD K "person_step" "person_step" (defArgs s_person_step) (defBody s_person_step) (defScope s_person_step) [] [] f fd) (hg : mg "person_step" = some (.ref f)) : FN P w K mg base 3 4 "person_step" m_person_step := by
  refine ⟨f, fd, ["rule", "standing", "series", "memory"], ?_, hg, F.kp, F.bindsN fun _ _ _ _ _ _ us hl => match us, hl with | [_, _, _, _], _ => rfl⟩
  refine F.ok sc_m_person_step (fun vs H Q E h => h.1) (fun cdv A outer s H vs Q E hr h => body_ok (m := (mSeq m_person_step_s0 (mSeq m_person_step_s1 (mSeq m_person_step_s3 m_person_step_s5)))) (by decide) ?_ h)
  exact (sss_cons (sset 4 sc_m_person_step.nd (se_callN h_person_set hr (by decide) rfl takes_cx (sa_cons (sv 0) (sa_cons (sv 1) (sa_cons (sv 2) sa_nil))) (lenCons (lenCons (lenCons lenNil))))) (sss_cons (ss_if (st_cmp opM_isn pu_isn (nomark _) (sv 4) se_non) (sss_one (ss_ret (se_tup (sa_cons se_str (sa_cons (sv 3) (sa_cons (sv 4) sa_nil))) (lenCons (lenCons (lenCons lenNil))) (by decide)))) sss_nil) (sss_cons (ss_if (st_w (sw_and (st_cmp (opM_eq (Room.u64 hr)) pu_eq (nomark _) (se_fld g.c_Rule g.n_Rule_halves (sv 0)) se_str) (sw_and1 (st_cmp opM_isn pu_isn (nomark _) (se_ix (Room.u1 hr) (fun _ _ => rfl) (sv 3) se_int pu_ix) se_non)))) (sss_one (ss_ret (se_tup (sa_cons se_str (sa_cons (se_tup (sa_cons (se_ix (Room.u1 hr) (fun _ _ => rfl) (sv 3) se_int pu_ix) (sa_cons (se_ix (Room.u1 hr) (fun _ _ => rfl) (sv 3) se_int pu_ix) (sa_cons se_non sa_nil))) (lenCons (lenCons (lenCons lenNil))) (by decide)) (sa_cons (se_callN h_taken_back hr (by decide) rfl takes_cx (sa_cons (sv 1) (sa_cons (sv 2) (sa_cons (se_ix (Room.u1 hr) (fun _ _ => rfl) (sv 3) se_int pu_ix) sa_nil))) (lenCons (lenCons (lenCons lenNil)))) sa_nil))) (lenCons (lenCons (lenCons lenNil))) (by decide)))) sss_nil) (sss_one (ss_ret (se_tup (sa_cons se_str (sa_cons (sv 3) (sa_cons (sv 1) sa_nil))) (lenCons (lenCons (lenCons lenNil))) (by decide)))))))
def m_one_set_s0 : MS := (mAsg (mOp idxM (mVar 1) (mVar 2)) (tgName 5))
def m_one_set_s2 : MS := (mRet (mC .non))
def m_one_set_s1 : MS := (mIfS (mTest (mOp isM (mOp idxM (mOp idxM (mOp idxM (mVar 5) (mC (.int 2))) (mVar 3)) (mC (.int 0))) (mC .non))) m_one_set_s2 mNext)
def m_one_set_s4 : MS := (mRet (mC .non))
def m_one_set_s3 : MS := (mIfS (mAnd (mTest (mOp neM (mFld "Rule" "checking" (mVar 0)) (mC (.str "none")))) (mNot (mTest (mCallF m_is_room_free (mCons (mVar 1) (mCons (mVar 2) (mCons (mVar 3) (mCons (mVar 4) mNil)))))))) m_one_set_s4 mNext)
def m_one_set_s6 : MS := (mRet (mC .non))
def m_one_set_s5 : MS := (mIfS (mAnd (mTest (mOp eqM (mFld "Rule" "checking" (mVar 0)) (mC (.str "both")))) (mNot (mTest (mCallF m_is_person_free (mCons (mVar 1) (mCons (mVar 2) (mCons (mVar 3) (mCons (mVar 4) mNil)))))))) m_one_set_s6 mNext)
def m_one_set_s7 : MS := (mRet (mCallF m_with_series (mCons (mVar 1) (mCons (mVar 2) (mCons (mOp idxM (mVar 5) (mC (.int 1))) (mCons (mOp addM (mOp addM (mSlice (mOp idxM (mVar 5) (mC (.int 2))) moNone (moSome (mVar 3))) (mTup (mCons (mTup (mCons (mVar 4) (mCons (mVar 4) (mCons (mC (.bl true)) mNil)))) mNil))) (mSlice (mOp idxM (mVar 5) (mC (.int 2))) (moSome (mOp addM (mVar 3) (mC (.int 1)))) moNone)) mNil))))))
def m_one_set : MF := mFn 6 ((mSeq m_one_set_s0 (mSeq m_one_set_s1 (mSeq m_one_set_s3 (mSeq m_one_set_s5 m_one_set_s7)))))
theorem sc_m_one_set : FnScope ["rule", "standing", "series", "day", "hour", "row"] ["rule", "standing", "series", "day", "hour"] (defScope s_one_set) := ⟨rfl, rfl, rfl, by decide +kernel, rfl, by decide +kernel, by decide +kernel⟩
theorem ok_one_set {P : Program} {w : PySem.World} {K : PySem.W.Frag} {mg : Str → Option Value} {base : Heap} {f : Addr} {fd : FuncData} (g : Gs K mg) (h_is_room_free : FN P w K mg base 1 4 "is_room_free" m_is_room_free) (h_is_person_free : FN P w K mg base 1 4 "is_person_free" m_is_person_free) (h_with_series : FN P w K mg base 1 4 "with_series" m_with_series) (F : FunD K "one_set" "one_set" (defArgs s_one_set) (defBody s_one_set) (defScope s_one_set) [] [] f fd) (hg : mg "one_set" = some (.ref f)) : FN P w K mg base 2 5 "one_set" m_one_set := by
  refine ⟨f, fd, ["rule", "standing", "series", "day", "hour"], ?_, hg, F.kp, F.bindsN fun _ _ _ _ _ _ us hl => match us, hl with | [_, _, _, _, _], _ => rfl⟩
  refine F.ok sc_m_one_set (fun vs H Q E h => h.1) (fun cdv A outer s H vs Q E hr h => body_ok (m := (mSeq m_one_set_s0 (mSeq m_one_set_s1 (mSeq m_one_set_s3 (mSeq m_one_set_s5 m_one_set_s7))))) (by decide) ?_ h)
  exact (sss_cons (sset 5 sc_m_one_set.nd (se_ix (Room.u1 hr) (fun _ _ => rfl) (sv 1) (sv 2) pu_ix)) (sss_cons (ss_if (st_cmp opM_is pu_is (nomark _) (se_ix (Room.u1 hr) (fun _ _ => rfl) (se_ix (Room.u1 hr) (fun _ _ => rfl) (se_ix (Room.u1 hr) (fun _ _ => rfl) (sv 5) se_int pu_ix) (sv 3) pu_ix) se_int pu_ix) se_non) (sss_one (ss_ret se_non)) sss_nil) (sss_cons (ss_if (st_w (sw_and (st_cmp (opM_ne (Room.u64 hr)) pu_ne (nomark _) (se_fld g.c_Rule g.n_Rule_checking (sv 0)) se_str) (sw_and1 (st_not (st_val (se_callN h_is_room_free hr (by decide) rfl takes_cx (sa_cons (sv 1) (sa_cons (sv 2) (sa_cons (sv 3) (sa_cons (sv 4) sa_nil)))) (lenCons (lenCons (lenCons (lenCons lenNil)))))))))) (sss_one (ss_ret se_non)) sss_nil) (sss_cons (ss_if (st_w (sw_and (st_cmp (opM_eq (Room.u64 hr)) pu_eq (nomark _) (se_fld g.c_Rule g.n_Rule_checking (sv 0)) se_str) (sw_and1 (st_not (st_val (se_callN h_is_person_free hr (by decide) rfl takes_cx (sa_cons (sv 1) (sa_cons (sv 2) (sa_cons (sv 3) (sa_cons (sv 4) sa_nil)))) (lenCons (lenCons (lenCons (lenCons lenNil)))))))))) (sss_one (ss_ret se_non)) sss_nil) (sss_one (ss_ret (se_callN h_with_series hr (by decide) rfl takes_cx (sa_cons (sv 1) (sa_cons (sv 2) (sa_cons (se_ix (Room.u1 hr) (fun _ _ => rfl) (sv 5) se_int pu_ix) (sa_cons (se_op opM_add pu_add (se_op opM_add pu_add (se_slice (se_ix (Room.u1 hr) (fun _ _ => rfl) (sv 5) se_int pu_ix) so_none (so_some (sv 3))) (se_tup (sa_cons (se_tup (sa_cons (sv 4) (sa_cons (sv 4) (sa_cons se_bl sa_nil))) (lenCons (lenCons (lenCons lenNil))) (by decide)) sa_nil) (lenCons lenNil) (by decide))) (se_slice (se_ix (Room.u1 hr) (fun _ _ => rfl) (sv 5) se_int pu_ix) (so_some (se_op opM_add pu_add (sv 3) se_int)) so_none)) sa_nil)))) (lenCons (lenCons (lenCons (lenCons lenNil)))))))))))
def m_off_set_s0 : MS := (mAsg (mOp idxM (mVar 0) (mVar 1)) (tgName 3))
def m_off_set_s2 : MS := (mRet (mC .non))
def m_off_set_s1 : MS := (mIfS (mTest (mOp isM (mOp idxM (mOp idxM (mOp idxM (mVar 3) (mC (.int 2))) (mVar 2)) (mC (.int 0))) (mC .non))) m_off_set_s2 mNext)
def m_off_set_s3 : MS := (mRet (mCallF m_with_series (mCons (mVar 0) (mCons (mVar 1) (mCons (mOp idxM (mVar 3) (mC (.int 1))) (mCons (mOp addM (mOp addM (mSlice (mOp idxM (mVar 3) (mC (.int 2))) moNone (moSome (mVar 2))) (mTup (mCons (mTup (mCons (mC .non) (mCons (mC .non) (mCons (mC (.bl false)) mNil)))) mNil))) (mSlice (mOp idxM (mVar 3) (mC (.int 2))) (moSome (mOp addM (mVar 2) (mC (.int 1)))) moNone)) mNil))))))
def m_off_set : MF := mFn 4 ((mSeq m_off_set_s0 (mSeq m_off_set_s1 m_off_set_s3)))
theorem sc_m_off_set : FnScope ["standing", "series", "day", "row"] ["standing", "series", "day"] (defScope s_off_set) := ⟨rfl, rfl, rfl, by decide +kernel, rfl, by decide +kernel, by decide +kernel⟩
theorem ok_off_set {P : Program} {w : PySem.World} {K : PySem.W.Frag} {mg : Str → Option Value} {base : Heap} {f : Addr} {fd : FuncData} (g : Gs K mg) (h_with_series : FN P w K mg base 1 4 "with_series" m_with_series) (F : FunD K "off_set" "off_set" (defArgs s_off_set) (defBody s_off_set) (defScope s_off_set) [] [] f fd) (hg : mg "off_set" = some (.ref f)) : FN P w K mg base 2 3 "off_set" m_off_set := by
  refine ⟨f, fd, ["standing", "series", "day"], ?_, hg, F.kp, F.bindsN fun _ _ _ _ _ _ us hl => match us, hl with | [_, _, _], _ => rfl⟩
  refine F.ok sc_m_off_set (fun vs H Q E h => h.1) (fun cdv A outer s H vs Q E hr h => body_ok (m := (mSeq m_off_set_s0 (mSeq m_off_set_s1 m_off_set_s3))) (by decide) ?_ h)
  exact (sss_cons (sset 3 sc_m_off_set.nd (se_ix (Room.u1 hr) (fun _ _ => rfl) (sv 0) (sv 1) pu_ix)) (sss_cons (ss_if (st_cmp opM_is pu_is (nomark _) (se_ix (Room.u1 hr) (fun _ _ => rfl) (se_ix (Room.u1 hr) (fun _ _ => rfl) (se_ix (Room.u1 hr) (fun _ _ => rfl) (sv 3) se_int pu_ix) (sv 2) pu_ix) se_int pu_ix) se_non) (sss_one (ss_ret se_non)) sss_nil) (sss_one (ss_ret (se_callN h_with_series hr (by decide) rfl takes_cx (sa_cons (sv 0) (sa_cons (sv 1) (sa_cons (se_ix (Room.u1 hr) (fun _ _ => rfl) (sv 3) se_int pu_ix) (sa_cons (se_op opM_add pu_add (se_op opM_add pu_add (se_slice (se_ix (Room.u1 hr) (fun _ _ => rfl) (sv 3) se_int pu_ix) so_none (so_some (sv 2))) (se_tup (sa_cons (se_tup (sa_cons se_non (sa_cons se_non (sa_cons se_bl sa_nil))) (lenCons (lenCons (lenCons lenNil))) (by decide)) sa_nil) (lenCons lenNil) (by decide))) (se_slice (se_ix (Room.u1 hr) (fun _ _ => rfl) (sv 3) se_int pu_ix) (so_some (se_op opM_add pu_add (sv 2) se_int)) so_none)) sa_nil)))) (lenCons (lenCons (lenCons (lenCons lenNil)))))))))
def m_stepped_s0 : MS := (mAsg (mOp idxM (mVar 5) (mC (.int 0))) (tgName 6))
def m_stepped_s2 : MS := (mRet (mCallF m_find_step (mCons (mVar 2) (mCons (mVar 3) (mCons (mVar 4) (mCons (mOp idxM (mVar 5) (mC (.int 1))) mNil))))))
def m_stepped_s1 : MS := (mIfS (mTest (mOp eqM (mVar 6) (mC (.str "find")))) m_stepped_s2 mNext)
def m_stepped_s4 : MS := (mRet (mCallF m_tell_step (mCons (mVar 0) (mCons (mVar 2) (mCons (mVar 3) (mCons (mVar 4) mNil))))))
def m_stepped_s3 : MS := (mIfS (mTest (mOp eqM (mVar 6) (mC (.str "tell")))) m_stepped_s4 mNext)
def m_stepped_s6 : MS := (mRet (mCallF m_room_step (mCons (mVar 0) (mCons (mOp idxM (mVar 1) (mC (.int 1))) (mCons (mVar 2) (mCons (mVar 3) (mCons (mVar 4) (mCons (mOp idxM (mVar 5) (mC (.int 1))) mNil))))))))
def m_stepped_s5 : MS := (mIfS (mTest (mOp eqM (mVar 6) (mC (.str "room")))) m_stepped_s6 mNext)
def m_stepped_s8 : MS := (mRet (mCallF m_person_step (mCons (mVar 0) (mCons (mVar 2) (mCons (mVar 3) (mCons (mVar 4) mNil))))))
def m_stepped_s7 : MS := (mIfS (mTest (mOp eqM (mVar 6) (mC (.str "person")))) m_stepped_s8 mNext)
def m_stepped_s9 : MS := (mAsg (mIf (mTest (mOp eqM (mVar 6) (mC (.str "one")))) (mCallF m_one_set (mCons (mVar 0) (mCons (mVar 2) (mCons (mVar 3) (mCons (mOp idxM (mVar 5) (mC (.int 1))) (mCons (mOp idxM (mVar 5) (mC (.int 2))) mNil)))))) (mCallF m_off_set (mCons (mVar 2) (mCons (mVar 3) (mCons (mOp idxM (mVar 5) (mC (.int 1))) mNil))))) (tgName 7))
def m_stepped_s10 : MS := (mRet (mIf (mTest (mOp isM (mVar 7) (mC .non))) (mTup (mCons (mC (.str "refused")) (mCons (mVar 4) (mCons (mVar 2) mNil)))) (mTup (mCons (mC (.str "done")) (mCons (mVar 4) (mCons (mVar 7) mNil))))))
def m_stepped : MF := mFn 8 ((mSeq m_stepped_s0 (mSeq m_stepped_s1 (mSeq m_stepped_s3 (mSeq m_stepped_s5 (mSeq m_stepped_s7 (mSeq m_stepped_s9 m_stepped_s10)))))))
theorem sc_m_stepped : FnScope ["rule", "world", "standing", "series", "memory", "step", "word", "after"] ["rule", "world", "standing", "series", "memory", "step"] (defScope s_stepped) := ⟨rfl, rfl, rfl, by decide +kernel, rfl, by decide +kernel, by decide +kernel⟩
theorem ok_stepped {P : Program} {w : PySem.World} {K : PySem.W.Frag} {mg : Str → Option Value} {base : Heap} {f : Addr} {fd : FuncData} (g : Gs K mg) (h_find_step : FN P w K mg base 3 4 "find_step" m_find_step) (h_tell_step : FN P w K mg base 2 4 "tell_step" m_tell_step) (h_room_step : FN P w K mg base 3 6 "room_step" m_room_step) (h_person_step : FN P w K mg base 3 4 "person_step" m_person_step) (h_one_set : FN P w K mg base 2 5 "one_set" m_one_set) (h_off_set : FN P w K mg base 2 3 "off_set" m_off_set) (F : FunD K "stepped" "stepped" (defArgs s_stepped) (defBody s_stepped) (defScope s_stepped) [] [] f fd) (hg : mg "stepped" = some (.ref f)) : FN P w K mg base 4 6 "stepped" m_stepped := by
  refine ⟨f, fd, ["rule", "world", "standing", "series", "memory", "step"], ?_, hg, F.kp, F.bindsN fun _ _ _ _ _ _ us hl => match us, hl with | [_, _, _, _, _, _], _ => rfl⟩
  refine F.ok sc_m_stepped (fun vs H Q E h => h.1) (fun cdv A outer s H vs Q E hr h => body_ok (m := (mSeq m_stepped_s0 (mSeq m_stepped_s1 (mSeq m_stepped_s3 (mSeq m_stepped_s5 (mSeq m_stepped_s7 (mSeq m_stepped_s9 m_stepped_s10))))))) (by decide) ?_ h)
  exact (sss_cons (sset 6 sc_m_stepped.nd (se_ix (Room.u1 hr) (fun _ _ => rfl) (sv 5) se_int pu_ix)) (sss_cons (ss_if (st_cmp (opM_eq (Room.u64 hr)) pu_eq (nomark _) (sv 6) se_str) (sss_one (ss_ret (se_callN h_find_step hr (by decide) rfl takes_cx (sa_cons (sv 2) (sa_cons (sv 3) (sa_cons (sv 4) (sa_cons (se_ix (Room.u1 hr) (fun _ _ => rfl) (sv 5) se_int pu_ix) sa_nil)))) (lenCons (lenCons (lenCons (lenCons lenNil))))))) sss_nil) (sss_cons (ss_if (st_cmp (opM_eq (Room.u64 hr)) pu_eq (nomark _) (sv 6) se_str) (sss_one (ss_ret (se_callN h_tell_step hr (by decide) rfl takes_cx (sa_cons (sv 0) (sa_cons (sv 2) (sa_cons (sv 3) (sa_cons (sv 4) sa_nil)))) (lenCons (lenCons (lenCons (lenCons lenNil))))))) sss_nil) (sss_cons (ss_if (st_cmp (opM_eq (Room.u64 hr)) pu_eq (nomark _) (sv 6) se_str) (sss_one (ss_ret (se_callN h_room_step hr (by decide) rfl takes_cx (sa_cons (sv 0) (sa_cons (se_ix (Room.u1 hr) (fun _ _ => rfl) (sv 1) se_int pu_ix) (sa_cons (sv 2) (sa_cons (sv 3) (sa_cons (sv 4) (sa_cons (se_ix (Room.u1 hr) (fun _ _ => rfl) (sv 5) se_int pu_ix) sa_nil)))))) (lenCons (lenCons (lenCons (lenCons (lenCons (lenCons lenNil))))))))) sss_nil) (sss_cons (ss_if (st_cmp (opM_eq (Room.u64 hr)) pu_eq (nomark _) (sv 6) se_str) (sss_one (ss_ret (se_callN h_person_step hr (by decide) rfl takes_cx (sa_cons (sv 0) (sa_cons (sv 2) (sa_cons (sv 3) (sa_cons (sv 4) sa_nil)))) (lenCons (lenCons (lenCons (lenCons lenNil))))))) sss_nil) (sss_cons (sset 7 sc_m_stepped.nd (se_if (st_cmp (opM_eq (Room.u64 hr)) pu_eq (nomark _) (sv 6) se_str) (se_callN h_one_set hr (by decide) rfl takes_cx (sa_cons (sv 0) (sa_cons (sv 2) (sa_cons (sv 3) (sa_cons (se_ix (Room.u1 hr) (fun _ _ => rfl) (sv 5) se_int pu_ix) (sa_cons (se_ix (Room.u1 hr) (fun _ _ => rfl) (sv 5) se_int pu_ix) sa_nil))))) (lenCons (lenCons (lenCons (lenCons (lenCons lenNil)))))) (se_callN h_off_set hr (by decide) rfl takes_cx (sa_cons (sv 2) (sa_cons (sv 3) (sa_cons (se_ix (Room.u1 hr) (fun _ _ => rfl) (sv 5) se_int pu_ix) sa_nil))) (lenCons (lenCons (lenCons lenNil)))))) (sss_one (ss_ret (se_if (st_cmp opM_is pu_is (nomark _) (sv 7) se_non) (se_tup (sa_cons se_str (sa_cons (sv 4) (sa_cons (sv 2) sa_nil))) (lenCons (lenCons (lenCons lenNil))) (by decide)) (se_tup (sa_cons se_str (sa_cons (sv 4) (sa_cons (sv 7) sa_nil))) (lenCons (lenCons (lenCons lenNil))) (by decide)))))))))))
def m_meets_room_s0 : MS := (mAsg (mCallF lstE (mCons (mOp idxM (mOp idxM (mVar 0) (mVar 1)) (mC (.int 2))) mNil)) (tgName 2))
def m_meets_room_s1 : MS := (mRet (mCallF anyM (mCons (mLc true [3, 4, 5, 6] (mSrc (mVar 2)) (tgTup (tgCons (tgName 3) (tgCons (tgTup (tgCons (tgName 4) (tgCons (tgName 5) (tgCons (tgName 6) tgNil)))) tgNil))) mTrue (mAndV (mOp isnM (mVar 4) (mC .non)) (mNotV (mCallF m_is_room_free (mCons (mVar 0) (mCons (mVar 1) (mCons (mVar 3) (mCons (mVar 4) mNil)))))))) mNil)))
def m_meets_room : MF := mFn 7 ((mSeq m_meets_room_s0 m_meets_room_s1))
theorem sc_m_meets_room : FnScope ["standing", "series", "days", "day", "room", "there", "one"] ["standing", "series"] (defScope s_meets_room) := ⟨rfl, rfl, rfl, by decide +kernel, rfl, by decide +kernel, by decide +kernel⟩
theorem ok_meets_room {P : Program} {w : PySem.World} {K : PySem.W.Frag} {mg : Str → Option Value} {base : Heap} {f : Addr} {fd : FuncData} (g : Gs K mg) (h_is_room_free : FN P w K mg base 1 4 "is_room_free" m_is_room_free) (F : FunD K "meets_room" "meets_room" (defArgs s_meets_room) (defBody s_meets_room) (defScope s_meets_room) [] [] f fd) (hg : mg "meets_room" = some (.ref f)) : FN P w K mg base 2 2 "meets_room" m_meets_room := by
  refine ⟨f, fd, ["standing", "series"], ?_, hg, F.kp, F.bindsN fun _ _ _ _ _ _ us hl => match us, hl with | [_, _], _ => rfl⟩
  refine F.ok sc_m_meets_room (fun vs H Q E h => h.1) (fun cdv A outer s H vs Q E hr h => body_ok (m := (mSeq m_meets_room_s0 m_meets_room_s1)) (by decide) ?_ h)
  exact (sss_cons (sset 2 sc_m_meets_room.nd (se_listE rfl rfl g.b_list rfl g.b_enumerate (sa_cons (se_ix (Room.u1 hr) (fun _ _ => rfl) (se_ix (Room.u1 hr) (fun _ _ => rfl) (sv 0) (sv 1) pu_ix) se_int pu_ix) sa_nil))) (sss_one (ss_ret (se_callB (crM_any rfl) pu_any rfl g.b_any bt_any (sa_cons (se_lc (fr := true) (own := [("day", 3), ("room", 4), ("there", 5), ("one", 6)]) rfl sc_m_meets_room.nd (si_seq (sv 2)) (blkOk_by rfl) (fun _ _ _ _ _ => (sg_tup rfl (sgs_cons (sn 3 sc_m_meets_room.nd) (sgs_cons (sg_tup rfl (sgs_cons (sn 4 sc_m_meets_room.nd) (sgs_cons (sn 5 sc_m_meets_room.nd) (sgs_cons (sn 6 sc_m_meets_room.nd) sgs_nil)))) sgs_nil)))) (fun _ _ _ _ _ => sts_nil) (fun _ _ _ _ _ => (se_and (se_cmp opM_isn pu_isn (nomark _) (sv 4) se_non) (se_one (se_not (se_callN h_is_room_free hr (by decide) rfl takesNo (sa_cons (sv 0) (sa_cons (sv 1) (sa_cons (sv 3) (sa_cons (sv 4) sa_nil)))) (lenCons (lenCons (lenCons (lenCons lenNil))))))))) (by decide)) sa_nil)))))
def m_meets_person_s2 : MS := (mRet (mC (.bl true)))
def m_meets_person_s1 : MS := (mIfS (mAnd (mTest (mOp isnM (mVar 4) (mC .non))) (mNot (mTest (mCallF m_is_person_free (mCons (mVar 0) (mCons (mVar 1) (mCons (mVar 2) (mCons (mVar 4) mNil)))))))) m_meets_person_s2 mNext)
def m_meets_person_s0 : MS := (mFor (mEnum (mCons (mOp idxM (mOp idxM (mVar 0) (mVar 1)) (mC (.int 2))) mNil)) (tgTup (tgCons (tgName 2) (tgCons (tgTup (tgCons (tgName 3) (tgCons (tgName 4) (tgCons (tgName 5) tgNil)))) tgNil))) m_meets_person_s1)
def m_meets_person_s3 : MS := (mRet (mC (.bl false)))
def m_meets_person : MF := mFn 6 ((mSeq m_meets_person_s0 m_meets_person_s3))
theorem sc_m_meets_person : FnScope ["standing", "series", "day", "room", "there", "single"] ["standing", "series"] (defScope s_meets_person) := ⟨rfl, rfl, rfl, by decide +kernel, rfl, by decide +kernel, by decide +kernel⟩
theorem ok_meets_person {P : Program} {w : PySem.World} {K : PySem.W.Frag} {mg : Str → Option Value} {base : Heap} {f : Addr} {fd : FuncData} (g : Gs K mg) (h_is_person_free : FN P w K mg base 1 4 "is_person_free" m_is_person_free) (F : FunD K "meets_person" "meets_person" (defArgs s_meets_person) (defBody s_meets_person) (defScope s_meets_person) [] [] f fd) (hg : mg "meets_person" = some (.ref f)) : FN P w K mg base 2 2 "meets_person" m_meets_person := by
  refine ⟨f, fd, ["standing", "series"], ?_, hg, F.kp, F.bindsN fun _ _ _ _ _ _ us hl => match us, hl with | [_, _], _ => rfl⟩
  refine F.ok sc_m_meets_person (fun vs H Q E h => h.1) (fun cdv A outer s H vs Q E hr h => body_ok (m := (mSeq m_meets_person_s0 m_meets_person_s3)) (by decide) ?_ h)
  exact (sss_cons (ss_for pass_cx rfl (si_enum rfl g.b_enumerate (sa_cons (se_ix (Room.u1 hr) (fun _ _ => rfl) (se_ix (Room.u1 hr) (fun _ _ => rfl) (sv 0) (sv 1) pu_ix) se_int pu_ix) sa_nil)) (sg_tup rfl (sgs_cons (sn 2 sc_m_meets_person.nd) (sgs_cons (sg_tup rfl (sgs_cons (sn 3 sc_m_meets_person.nd) (sgs_cons (sn 4 sc_m_meets_person.nd) (sgs_cons (sn 5 sc_m_meets_person.nd) sgs_nil)))) sgs_nil))) (sss_one (ss_if (st_w (sw_and (st_cmp opM_isn pu_isn (nomark _) (sv 4) se_non) (sw_and1 (st_not (st_val (se_callN h_is_person_free hr (by decide) rfl takes_cx (sa_cons (sv 0) (sa_cons (sv 1) (sa_cons (sv 2) (sa_cons (sv 4) sa_nil)))) (lenCons (lenCons (lenCons (lenCons lenNil)))))))))) (sss_one (ss_ret se_bl)) sss_nil))) (sss_one (ss_ret se_bl)))
def m_lost_single_s0 : MS := (mRet (mCallF anyM (mCons (mLc true [3, 4] (mZip2 (mCons (mOp idxM (mOp idxM (mVar 0) (mVar 2)) (mC (.int 2))) (mCons (mOp idxM (mOp idxM (mVar 1) (mVar 2)) (mC (.int 2))) mNil))) (tgTup (tgCons (tgName 3) (tgCons (tgName 4) tgNil))) mTrue (mAndV (mOp idxM (mVar 3) (mC (.int 2))) (mNotV (mOp idxM (mVar 4) (mC (.int 2)))))) mNil)))
def m_lost_single : MF := mFn 5 (m_lost_single_s0)
theorem sc_m_lost_single : FnScope ["before", "after", "series", "one", "two"] ["before", "after", "series"] (defScope s_lost_single) := ⟨rfl, rfl, rfl, by decide +kernel, rfl, by decide +kernel, by decide +kernel⟩
theorem ok_lost_single {P : Program} {w : PySem.World} {K : PySem.W.Frag} {mg : Str → Option Value} {base : Heap} {f : Addr} {fd : FuncData} (g : Gs K mg) (F : FunD K "lost_single" "lost_single" (defArgs s_lost_single) (defBody s_lost_single) (defScope s_lost_single) [] [] f fd) (hg : mg "lost_single" = some (.ref f)) : FN P w K mg base 1 3 "lost_single" m_lost_single := by
  refine ⟨f, fd, ["before", "after", "series"], ?_, hg, F.kp, F.bindsN fun _ _ _ _ _ _ us hl => match us, hl with | [_, _, _], _ => rfl⟩
  refine F.ok sc_m_lost_single (fun vs H Q E h => h.1) (fun cdv A outer s H vs Q E hr h => body_ok (m := m_lost_single_s0) (by decide) ?_ h)
  exact (sss_one (ss_ret (se_callB (crM_any rfl) pu_any rfl g.b_any bt_any (sa_cons (se_lc (fr := true) (own := [("one", 3), ("two", 4)]) rfl sc_m_lost_single.nd (si_zip2 rfl g.b_zip (sa_cons (se_ix (Room.u1 hr) (fun _ _ => rfl) (se_ix (Room.u1 hr) (fun _ _ => rfl) (sv 0) (sv 2) pu_ix) se_int pu_ix) (sa_cons (se_ix (Room.u1 hr) (fun _ _ => rfl) (se_ix (Room.u1 hr) (fun _ _ => rfl) (sv 1) (sv 2) pu_ix) se_int pu_ix) sa_nil))) (blkOk_by rfl) (fun _ _ _ _ _ => (sg_tup rfl (sgs_cons (sn 3 sc_m_lost_single.nd) (sgs_cons (sn 4 sc_m_lost_single.nd) sgs_nil)))) (fun _ _ _ _ _ => sts_nil) (fun _ _ _ _ _ => (se_and (se_ix (Room.u1 hr) (fun _ _ => rfl) (sv 3) se_int pu_ix) (se_one (se_not (se_ix (Room.u1 hr) (fun _ _ => rfl) (sv 4) se_int pu_ix))))) (by decide)) sa_nil))))
def m_step_faults_s0 : MS := (mAsg (mCell mNil) (tgName 5))
def m_step_faults_s2 : MS := (mDrop (mApp (mVar 5) (mC (.str "room"))))
def m_step_faults_s1 : MS := (mIfS (mAnd (mTest (mOp eqM (mVar 4) (mC (.str "done")))) (mAnd (mTest (mOp inM (mOp idxM (mVar 3) (mC (.int 0))) (mTup (mCons (mC (.str "room")) (mCons (mC (.str "one")) mNil))))) (mTest (mCallF m_meets_room (mCons (mVar 1) (mCons (mVar 2) mNil)))))) m_step_faults_s2 mNext)
def m_step_faults_s4 : MS := (mDrop (mApp (mVar 5) (mC (.str "person"))))
def m_step_faults_s3 : MS := (mIfS (mAnd (mTest (mOp eqM (mVar 4) (mC (.str "done")))) (mAnd (mTest (mOp inM (mOp idxM (mVar 3) (mC (.int 0))) (mTup (mCons (mC (.str "person")) (mCons (mC (.str "one")) mNil))))) (mTest (mCallF m_meets_person (mCons (mVar 1) (mCons (mVar 2) mNil)))))) m_step_faults_s4 mNext)
def m_step_faults_s6 : MS := (mDrop (mApp (mVar 5) (mC (.str "lost"))))
def m_step_faults_s5 : MS := (mIfS (mAnd (mTest (mOp inM (mOp idxM (mVar 3) (mC (.int 0))) (mTup (mCons (mC (.str "room")) (mCons (mC (.str "person")) mNil))))) (mTest (mCallF m_lost_single (mCons (mVar 0) (mCons (mVar 1) (mCons (mVar 2) mNil)))))) m_step_faults_s6 mNext)
def m_step_faults_s8 : MS := (mDrop (mApp (mVar 5) (mC (.str "elder"))))
def m_step_faults_s7 : MS := (mIfS (mAnd (mTest (mOp eqM (mOp idxM (mVar 3) (mC (.int 0))) (mC (.str "tell")))) (mTest (mOp neM (mVar 4) (mCallF m_person_hours (mCons (mVar 1) (mCons (mVar 2) mNil)))))) m_step_faults_s8 mNext)
def m_step_faults_s9 : MS := (mRet (mVar 5))
def m_step_faults : MF := mFn 6 ((mSeq m_step_faults_s0 (mSeq m_step_faults_s1 (mSeq m_step_faults_s3 (mSeq m_step_faults_s5 (mSeq m_step_faults_s7 m_step_faults_s9))))))
theorem sc_m_step_faults : FnScope ["before", "after", "series", "step", "told", "found"] ["before", "after", "series", "step", "told"] (defScope s_step_faults) := ⟨rfl, rfl, rfl, by decide +kernel, rfl, by decide +kernel, by decide +kernel⟩
theorem ok_step_faults {P : Program} {w : PySem.World} {K : PySem.W.Frag} {mg : Str → Option Value} {base : Heap} {f : Addr} {fd : FuncData} (g : Gs K mg) (h_meets_room : FN P w K mg base 2 2 "meets_room" m_meets_room) (h_meets_person : FN P w K mg base 2 2 "meets_person" m_meets_person) (h_lost_single : FN P w K mg base 1 3 "lost_single" m_lost_single) (h_person_hours : FN P w K mg base 1 2 "person_hours" m_person_hours) (F : FunD K "step_faults" "step_faults" (defArgs s_step_faults) (defBody s_step_faults) (defScope s_step_faults) [] [] f fd) (hg : mg "step_faults" = some (.ref f)) : FN P w K mg base 3 5 "step_faults" m_step_faults := by
  refine ⟨f, fd, ["before", "after", "series", "step", "told"], ?_, hg, F.kp, F.bindsN fun _ _ _ _ _ _ us hl => match us, hl with | [_, _, _, _, _], _ => rfl⟩
  refine F.ok sc_m_step_faults (fun vs H Q E h => h.1) (fun cdv A outer s H vs Q E hr h => body_ok (m := (mSeq m_step_faults_s0 (mSeq m_step_faults_s1 (mSeq m_step_faults_s3 (mSeq m_step_faults_s5 (mSeq m_step_faults_s7 m_step_faults_s9)))))) (by decide) ?_ h)
  exact (sss_cons (sset 5 sc_m_step_faults.nd (se_cell sa_nil lenNil (by decide))) (sss_cons (ss_if (st_w (sw_and (st_cmp (opM_eq (Room.u64 hr)) pu_eq (nomark _) (sv 4) se_str) (sw_and (st_cmp (opM_in (Room.u65 hr)) pu_in (by with_unfolding_all rfl) (se_ix (Room.u1 hr) (fun _ _ => rfl) (sv 3) se_int pu_ix) (se_tup (sa_cons se_str (sa_cons se_str sa_nil)) (lenCons (lenCons lenNil)) (by decide))) (sw_and1 (st_val (se_callN h_meets_room hr (by decide) rfl takes_cx (sa_cons (sv 1) (sa_cons (sv 2) sa_nil)) (lenCons (lenCons lenNil)))))))) (sss_one (ss_expr (se_app (sv 5) se_str))) sss_nil) (sss_cons (ss_if (st_w (sw_and (st_cmp (opM_eq (Room.u64 hr)) pu_eq (nomark _) (sv 4) se_str) (sw_and (st_cmp (opM_in (Room.u65 hr)) pu_in (by with_unfolding_all rfl) (se_ix (Room.u1 hr) (fun _ _ => rfl) (sv 3) se_int pu_ix) (se_tup (sa_cons se_str (sa_cons se_str sa_nil)) (lenCons (lenCons lenNil)) (by decide))) (sw_and1 (st_val (se_callN h_meets_person hr (by decide) rfl takes_cx (sa_cons (sv 1) (sa_cons (sv 2) sa_nil)) (lenCons (lenCons lenNil)))))))) (sss_one (ss_expr (se_app (sv 5) se_str))) sss_nil) (sss_cons (ss_if (st_w (sw_and (st_cmp (opM_in (Room.u65 hr)) pu_in (by with_unfolding_all rfl) (se_ix (Room.u1 hr) (fun _ _ => rfl) (sv 3) se_int pu_ix) (se_tup (sa_cons se_str (sa_cons se_str sa_nil)) (lenCons (lenCons lenNil)) (by decide))) (sw_and1 (st_val (se_callN h_lost_single hr (by decide) rfl takes_cx (sa_cons (sv 0) (sa_cons (sv 1) (sa_cons (sv 2) sa_nil))) (lenCons (lenCons (lenCons lenNil)))))))) (sss_one (ss_expr (se_app (sv 5) se_str))) sss_nil) (sss_cons (ss_if (st_w (sw_and (st_cmp (opM_eq (Room.u64 hr)) pu_eq (nomark _) (se_ix (Room.u1 hr) (fun _ _ => rfl) (sv 3) se_int pu_ix) se_str) (sw_and1 (st_cmp (opM_ne (Room.u64 hr)) pu_ne (nomark _) (sv 4) (se_callN h_person_hours hr (by decide) rfl takes_cx (sa_cons (sv 1) (sa_cons (sv 2) sa_nil)) (lenCons (lenCons lenNil))))))) (sss_one (ss_expr (se_app (sv 5) se_str))) sss_nil) (sss_one (ss_ret (sv 5))))))))
def m_is_half_s1 : MS := (mRet (mC (.bl false)))
def m_is_half_s0 : MS := (mIfS (mTest (mCallF anyM (mCons (mLc true [4, 5] (mZip2 (mCons (mVar 1) (mCons (mOp idxM (mVar 0) (mC (.int 3))) mNil))) (tgTup (tgCons (tgName 4) (tgCons (tgName 5) tgNil))) mTrue (mOp ltM (mVar 4) (mCallF lenM (mCons (mOp idxM (mVar 5) (mC (.int 1))) mNil)))) mNil))) m_is_half_s1 mNext)
def m_is_half_s2 : MS := (mRet (mCallF anyM (mCons (mLc2 true [3, 6, 7, 8] [6, 7, 8] (mSrc (mVar 2)) (tgName 3) mTrue (mSrc (mOp idxM (mVar 3) (mC (.int 2)))) (tgTup (tgCons (tgName 6) (tgCons (tgName 7) (tgCons (tgName 8) tgNil)))) mTrue (mOp neM (mVar 6) (mVar 7))) mNil)))
def m_is_half : MF := mFn 9 ((mSeq m_is_half_s0 m_is_half_s2))
theorem sc_m_is_half : FnScope ["world", "places", "standing", "row", "place", "hand", "room", "there", "single"] ["world", "places", "standing"] (defScope s_is_half) := ⟨rfl, rfl, rfl, by decide +kernel, rfl, by decide +kernel, by decide +kernel⟩
theorem ok_is_half {P : Program} {w : PySem.World} {K : PySem.W.Frag} {mg : Str → Option Value} {base : Heap} {f : Addr} {fd : FuncData} (g : Gs K mg) (F : FunD K "is_half" "is_half" (defArgs s_is_half) (defBody s_is_half) (defScope s_is_half) [] [] f fd) (hg : mg "is_half" = some (.ref f)) : FN P w K mg base 1 3 "is_half" m_is_half := by
  refine ⟨f, fd, ["world", "places", "standing"], ?_, hg, F.kp, F.bindsN fun _ _ _ _ _ _ us hl => match us, hl with | [_, _, _], _ => rfl⟩
  refine F.ok sc_m_is_half (fun vs H Q E h => h.1) (fun cdv A outer s H vs Q E hr h => body_ok (m := (mSeq m_is_half_s0 m_is_half_s2)) (by decide) ?_ h)
  exact (sss_cons (ss_if (st_val (se_callB (crM_any rfl) pu_any rfl g.b_any bt_any (sa_cons (se_lc (fr := true) (own := [("place", 4), ("hand", 5)]) rfl sc_m_is_half.nd (si_zip2 rfl g.b_zip (sa_cons (sv 1) (sa_cons (se_ix (Room.u1 hr) (fun _ _ => rfl) (sv 0) se_int pu_ix) sa_nil))) (blkOk_by rfl) (fun _ _ _ _ _ => (sg_tup rfl (sgs_cons (sn 4 sc_m_is_half.nd) (sgs_cons (sn 5 sc_m_is_half.nd) sgs_nil)))) (fun _ _ _ _ _ => sts_nil) (fun _ _ _ _ _ => (se_cmp (opM_int op_lt) pu_cmpI (nomark _) (sv 4) (se_callB crM_len pu_len rfl g.b_len bt_len (sa_cons (se_ix (Room.u1 hr) (fun _ _ => rfl) (sv 5) se_int pu_ix) sa_nil)))) (by decide)) sa_nil))) (sss_one (ss_ret se_bl)) sss_nil) (sss_one (ss_ret (se_callB (crM_any rfl) pu_any rfl g.b_any bt_any (sa_cons (se_lc2 (fr := true) (own := [("row", 3), ("room", 6), ("there", 7), ("single", 8)]) (vs1 := [6, 7, 8]) rfl sc_m_is_half.nd (si_seq (sv 2)) (blkOk_by rfl) (by decide) (fun _ _ _ _ _ => (sn 3 sc_m_is_half.nd)) (fun _ _ _ _ _ => sts_nil) (fun _ _ _ _ _ => (si_seq (se_ix (Room.u1 hr) (fun _ _ => rfl) (sv 3) se_int pu_ix))) (fun _ _ _ _ _ => (sg_tup rfl (sgs_cons (sn 6 sc_m_is_half.nd) (sgs_cons (sn 7 sc_m_is_half.nd) (sgs_cons (sn 8 sc_m_is_half.nd) sgs_nil))))) (fun _ _ _ _ _ => sts_nil) (fun _ _ _ _ _ => (se_cmp (opM_ne (Room.u64 hr)) pu_ne (nomark _) (sv 6) (sv 7))) (by decide) (by decide)) sa_nil)))))
def m_led_s0 : MS := (mAsg (mVar 2) (tgTup (tgCons (tgName 6) (tgCons (tgName 7) (tgCons (tgName 8) tgNil)))))
def m_led_s1 : MS := (mAsg (mOp idxM (mOp idxM (mVar 1) (mC (.int 3))) (mVar 3)) (tgTup (tgCons (tgName 9) (tgCons (tgName 10) tgNil))))
def m_led_s2 : MS := (mAsg (mOp idxM (mVar 10) (mOp idxM (mVar 6) (mVar 3))) (tgName 4))
def m_led_s3 : MS := (mAsg (mCallF m_stepped (mCons (mVar 0) (mCons (mVar 1) (mCons (mVar 8) (mCons (mVar 9) (mCons (mOp idxM (mVar 7) (mVar 3)) (mCons (mVar 4) mNil))))))) (tgTup (tgCons (tgName 11) (tgCons (tgName 12) (tgCons (tgName 13) tgNil)))))
def m_led_s4 : MS := (mAsg (mCallF m_step_faults (mCons (mVar 8) (mCons (mVar 13) (mCons (mVar 9) (mCons (mVar 4) (mCons (mVar 11) mNil)))))) (tgName 5))
def m_led_s5 : MS := (mAsg (mOp addM (mOp addM (mSlice (mVar 6) moNone (moSome (mVar 3))) (mTup (mCons (mOp addM (mOp idxM (mVar 6) (mVar 3)) (mC (.int 1))) mNil))) (mSlice (mVar 6) (moSome (mOp addM (mVar 3) (mC (.int 1)))) moNone)) (tgName 6))
def m_led_s7 : MS := (mDrop (mApp (mVar 5) (mC (.str "half"))))
def m_led_s6 : MS := (mIfS (mTest (mCallF m_is_half (mCons (mVar 1) (mCons (mVar 6) (mCons (mVar 13) mNil))))) m_led_s7 mNext)
def m_led_s8 : MS := (mRet (mTup (mCons (mVar 11) (mCons (mTup (mCons (mVar 6) (mCons (mOp addM (mOp addM (mSlice (mVar 7) moNone (moSome (mVar 3))) (mTup (mCons (mVar 12) mNil))) (mSlice (mVar 7) (moSome (mOp addM (mVar 3) (mC (.int 1)))) moNone)) (mCons (mVar 13) mNil)))) (mCons (mVar 5) mNil)))))
def m_led : MF := frzF (mFn 14 ((mSeq m_led_s0 (mSeq m_led_s1 (mSeq m_led_s2 (mSeq m_led_s3 (mSeq m_led_s4 (mSeq m_led_s5 (mSeq m_led_s6 m_led_s8)))))))))
theorem sc_m_led : FnScope ["rule", "world", "state", "hand", "step", "found", "places", "memories", "standing", "series", "steps", "told", "memory", "after"] ["rule", "world", "state", "hand"] (defScope s_led) := ⟨rfl, rfl, rfl, by decide +kernel, rfl, by decide +kernel, by decide +kernel⟩
theorem ok_led {P : Program} {w : PySem.World} {K : PySem.W.Frag} {mg : Str → Option Value} {base : Heap} {f : Addr} {fd : FuncData} (g : Gs K mg) (h_stepped : FN P w K mg base 4 6 "stepped" m_stepped) (h_step_faults : FN P w K mg base 3 5 "step_faults" m_step_faults) (h_is_half : FN P w K mg base 1 3 "is_half" m_is_half) (F : FunD K "led" "led" (defArgs s_led) (defBody s_led) (defScope s_led) [] [] f fd) (hg : mg "led" = some (.ref f)) : FN P w K mg base 5 4 "led" m_led := by
  refine ⟨f, fd, ["rule", "world", "state", "hand"], ?_, hg, F.kp, F.bindsN fun _ _ _ _ _ _ us hl => match us, hl with | [_, _, _, _], _ => rfl⟩
  refine frz_ok (m := mFn _ _) (F.ok sc_m_led (fun vs H Q E h => h.1) (fun cdv A outer s H vs Q E hr h => body_ok (m := (mSeq m_led_s0 (mSeq m_led_s1 (mSeq m_led_s2 (mSeq m_led_s3 (mSeq m_led_s4 (mSeq m_led_s5 (mSeq m_led_s6 m_led_s8)))))))) (by decide) ?_ h))
  exact (sss_cons (ss_asg (sv 2) (sg_tup rfl (sgs_cons (sn 6 sc_m_led.nd) (sgs_cons (sn 7 sc_m_led.nd) (sgs_cons (sn 8 sc_m_led.nd) sgs_nil))))) (sss_cons (ss_asg (se_ix (Room.u1 hr) (fun _ _ => rfl) (se_ix (Room.u1 hr) (fun _ _ => rfl) (sv 1) se_int pu_ix) (sv 3) pu_ix) (sg_tup rfl (sgs_cons (sn 9 sc_m_led.nd) (sgs_cons (sn 10 sc_m_led.nd) sgs_nil)))) (sss_cons (sset 4 sc_m_led.nd (se_ix (Room.u1 hr) (fun _ _ => rfl) (sv 10) (se_ix (Room.u1 hr) (fun _ _ => rfl) (sv 6) (sv 3) pu_ix) pu_ix)) (sss_cons (ss_asg (se_callN h_stepped hr (by decide) rfl takes_cx (sa_cons (sv 0) (sa_cons (sv 1) (sa_cons (sv 8) (sa_cons (sv 9) (sa_cons (se_ix (Room.u1 hr) (fun _ _ => rfl) (sv 7) (sv 3) pu_ix) (sa_cons (sv 4) sa_nil)))))) (lenCons (lenCons (lenCons (lenCons (lenCons (lenCons lenNil))))))) (sg_tup rfl (sgs_cons (sn 11 sc_m_led.nd) (sgs_cons (sn 12 sc_m_led.nd) (sgs_cons (sn 13 sc_m_led.nd) sgs_nil))))) (sss_cons (sset 5 sc_m_led.nd (se_callN h_step_faults hr (by decide) rfl takes_cx (sa_cons (sv 8) (sa_cons (sv 13) (sa_cons (sv 9) (sa_cons (sv 4) (sa_cons (sv 11) sa_nil))))) (lenCons (lenCons (lenCons (lenCons (lenCons lenNil))))))) (sss_cons (sset 6 sc_m_led.nd (se_op opM_add pu_add (se_op opM_add pu_add (se_slice (sv 6) so_none (so_some (sv 3))) (se_tup (sa_cons (se_op opM_add pu_add (se_ix (Room.u1 hr) (fun _ _ => rfl) (sv 6) (sv 3) pu_ix) se_int) sa_nil) (lenCons lenNil) (by decide))) (se_slice (sv 6) (so_some (se_op opM_add pu_add (sv 3) se_int)) so_none))) (sss_cons (ss_if (st_val (se_callN h_is_half hr (by decide) rfl takes_cx (sa_cons (sv 1) (sa_cons (sv 6) (sa_cons (sv 13) sa_nil))) (lenCons (lenCons (lenCons lenNil))))) (sss_one (ss_expr (se_app (sv 5) se_str))) sss_nil) (sss_one (ss_ret (se_tup (sa_cons (sv 11) (sa_cons (se_tup (sa_cons (sv 6) (sa_cons (se_op opM_add pu_add (se_op opM_add pu_add (se_slice (sv 7) so_none (so_some (sv 3))) (se_tup (sa_cons (sv 12) sa_nil) (lenCons lenNil) (by decide))) (se_slice (sv 7) (so_some (se_op opM_add pu_add (sv 3) se_int)) so_none)) (sa_cons (sv 13) sa_nil))) (lenCons (lenCons (lenCons lenNil))) (by decide)) (sa_cons (sv 5) sa_nil))) (lenCons (lenCons (lenCons lenNil))) (by decide)))))))))))
def m_first_unlike_s0 : MS := (mAsg (mTup (mCons (mCallF m_begin (mCons (mVar 2) mNil)) (mCons (mCallF m_begin (mCons (mVar 2) mNil)) mNil))) (tgName 3))
def m_first_unlike_s1 : MS := (mAsg (mDct1T false (mVar 3) (mTup mNil)) (tgName 4))
def m_first_unlike_s2 : MS := (mAsg (mCell (mCons (mVar 3) mNil)) (tgName 5))
def m_first_unlike_s3 : MS := (mAsg (mC (.int 0)) (tgName 6))
def m_first_unlike_s5 : MS := (mAsg (mOp idxM (mVar 5) (mVar 6)) (tgTup (tgCons (tgName 9) (tgCons (tgName 10) tgNil))))
def m_first_unlike_s6 : MS := (mAsg (mOp idxTM (mVar 4) (mOp idxM (mVar 5) (mVar 6))) (tgName 7))
def m_first_unlike_s7 : MS := (mAugI 6 (mC (.int 1)))
def m_first_unlike_s9 : MS := (mAsg (mCallF m_led (mCons (mVar 0) (mCons (mVar 2) (mCons (mVar 9) (mCons (mVar 8) mNil))))) (tgTup (tgCons (tgName 11) (tgCons (tgName 12) (tgCons (tgName 13) tgNil)))))
def m_first_unlike_s10 : MS := (mAsg (mCallF m_led (mCons (mVar 1) (mCons (mVar 2) (mCons (mVar 10) (mCons (mVar 8) mNil))))) (tgTup (tgCons (tgName 14) (tgCons (tgName 15) (tgCons (tgName 16) tgNil)))))
def m_first_unlike_s12 : MS := (mRet (mCallF (lstM true) (mCons (mOp addM (mVar 7) (mTup (mCons (mVar 8) mNil))) mNil)))
def m_first_unlike_s11 : MS := (mIfS (mTest (mOp neM (mVar 11) (mVar 14))) m_first_unlike_s12 mNext)
def m_first_unlike_s14 : MS := (mSubT (mOp addM (mVar 7) (mTup (mCons (mVar 8) mNil))) (mVar 4) (mTup (mCons (mVar 12) (mCons (mVar 15) mNil))))
def m_first_unlike_s15 : MS := (mDrop (mApp (mVar 5) (mTup (mCons (mVar 12) (mCons (mVar 15) mNil)))))
def m_first_unlike_s13 : MS := (mIfS (mTest (mOp ninTM (mTup (mCons (mVar 12) (mCons (mVar 15) mNil))) (mVar 4))) (mSeq m_first_unlike_s14 m_first_unlike_s15) mNext)
def m_first_unlike_s8 : MS := (mFor (mSrc (mCallF m_hands_at (mCons (mVar 2) (mCons (mVar 9) (mCons (mTup mNil) (mCons (mC .non) mNil)))))) (tgName 8) (mSeq m_first_unlike_s9 (mSeq m_first_unlike_s10 (mSeq m_first_unlike_s11 m_first_unlike_s13))))
def m_first_unlike_s4 : MS := (mWhile (mTest (mOp ltM (mVar 6) (mCallF lenM (mCons (mVar 5) mNil)))) (mSeq m_first_unlike_s5 (mSeq m_first_unlike_s6 (mSeq m_first_unlike_s7 m_first_unlike_s8))) 70000)
def m_first_unlike_s16 : MS := (mRet (mC .non))
def m_first_unlike : MF := frzF (mFn 17 ((mSeq m_first_unlike_s0 (mSeq m_first_unlike_s1 (mSeq m_first_unlike_s2 (mSeq m_first_unlike_s3 (mSeq m_first_unlike_s4 m_first_unlike_s16)))))))
theorem sc_m_first_unlike : FnScope ["one", "other", "world", "first", "found", "waiting", "at", "weaving", "hand", "here", "there", "told", "after", "faults", "said", "behind", "others"] ["one", "other", "world"] (defScope s_first_unlike) := ⟨rfl, rfl, rfl, by decide +kernel, rfl, by decide +kernel, by decide +kernel⟩
theorem ok_first_unlike {P : Program} {w : PySem.World} {K : PySem.W.Frag} {mg : Str → Option Value} {base : Heap} {f : Addr} {fd : FuncData} (g : Gs K mg) (h_begin : FN P w K mg base 2 1 "begin" m_begin) (h_hands_at : FN P w K mg base 3 4 "hands_at" m_hands_at) (h_led : FN P w K mg base 5 4 "led" m_led) (F : FunD K "first_unlike" "first_unlike" (defArgs s_first_unlike) (defBody s_first_unlike) (defScope s_first_unlike) [] [] f fd) (hg : mg "first_unlike" = some (.ref f)) : FN P w K mg base 6 3 "first_unlike" m_first_unlike := by
  refine ⟨f, fd, ["one", "other", "world"], ?_, hg, F.kp, F.bindsN fun _ _ _ _ _ _ us hl => match us, hl with | [_, _, _], _ => rfl⟩
  refine frz_ok (m := mFn _ _) (F.ok sc_m_first_unlike (fun vs H Q E h => h.1) (fun cdv A outer s H vs Q E hr h => body_ok (m := (mSeq m_first_unlike_s0 (mSeq m_first_unlike_s1 (mSeq m_first_unlike_s2 (mSeq m_first_unlike_s3 (mSeq m_first_unlike_s4 m_first_unlike_s16)))))) (by decide) ?_ h))
  exact (sss_cons (sset 3 sc_m_first_unlike.nd (se_tup (sa_cons (se_callN h_begin hr (by decide) rfl takes_cx (sa_cons (sv 2) sa_nil) (lenCons lenNil)) (sa_cons (se_callN h_begin hr (by decide) rfl takes_cx (sa_cons (sv 2) sa_nil) (lenCons lenNil)) sa_nil)) (lenCons (lenCons lenNil)) (by decide))) (sss_cons (sset 4 sc_m_first_unlike.nd (se_dict1T (fr := false) (Room.u65 hr) (sv 3) (se_tup sa_nil lenNil (by decide)))) (sss_cons (sset 5 sc_m_first_unlike.nd (se_cell (sa_cons (sv 3) sa_nil) (lenCons lenNil) (by decide))) (sss_cons (sset 6 sc_m_first_unlike.nd se_int) (sss_cons (ss_while 70000 pass_cx (st_cmp (opM_int op_lt) pu_cmpI (nomark _) (sv 6) (se_callB crM_len pu_len rfl g.b_len bt_len (sa_cons (sv 5) sa_nil))) (sss_cons (ss_asg (se_ix (Room.u1 hr) (fun _ _ => rfl) (sv 5) (sv 6) pu_ix) (sg_tup rfl (sgs_cons (sn 9 sc_m_first_unlike.nd) (sgs_cons (sn 10 sc_m_first_unlike.nd) sgs_nil)))) (sss_cons (sset 7 sc_m_first_unlike.nd (se_ixT (Room.u65 hr) (fun _ _ => rfl) (sv 4) (se_ix (Room.u1 hr) (fun _ _ => rfl) (sv 5) (sv 6) pu_ix) pu_ixT)) (sss_cons (saug 6 sc_m_first_unlike.nd se_int) (sss_one (ss_for pass_cx rfl (si_seq (se_callN h_hands_at hr (by decide) rfl takes_cx (sa_cons (sv 2) (sa_cons (sv 9) (sa_cons (se_tup sa_nil lenNil (by decide)) (sa_cons se_non sa_nil)))) (lenCons (lenCons (lenCons (lenCons lenNil)))))) (sn 8 sc_m_first_unlike.nd) (sss_cons (ss_asg (se_callN h_led hr (by decide) rfl takes_cx (sa_cons (sv 0) (sa_cons (sv 2) (sa_cons (sv 9) (sa_cons (sv 8) sa_nil)))) (lenCons (lenCons (lenCons (lenCons lenNil))))) (sg_tup rfl (sgs_cons (sn 11 sc_m_first_unlike.nd) (sgs_cons (sn 12 sc_m_first_unlike.nd) (sgs_cons (sn 13 sc_m_first_unlike.nd) sgs_nil))))) (sss_cons (ss_asg (se_callN h_led hr (by decide) rfl takes_cx (sa_cons (sv 1) (sa_cons (sv 2) (sa_cons (sv 10) (sa_cons (sv 8) sa_nil)))) (lenCons (lenCons (lenCons (lenCons lenNil))))) (sg_tup rfl (sgs_cons (sn 14 sc_m_first_unlike.nd) (sgs_cons (sn 15 sc_m_first_unlike.nd) (sgs_cons (sn 16 sc_m_first_unlike.nd) sgs_nil))))) (sss_cons (ss_if (st_cmp (opM_ne (Room.u64 hr)) pu_ne (nomark _) (sv 11) (sv 14)) (sss_one (ss_ret (se_callTy (crM_list true) pu_list rfl g.b_list bt_list (sa_cons (se_op opM_add pu_add (sv 7) (se_tup (sa_cons (sv 8) sa_nil) (lenCons lenNil) (by decide))) sa_nil)))) sss_nil) (sss_one (ss_if (st_cmp (opM_ninT (Room.u65 hr)) pu_ninT (by with_unfolding_all rfl) (se_tup (sa_cons (sv 12) (sa_cons (sv 15) sa_nil)) (lenCons (lenCons lenNil)) (by decide)) (sv 4)) (sss_cons (ss_subT (Room.u65 hr) (se_op opM_add pu_add (sv 7) (se_tup (sa_cons (sv 8) sa_nil) (lenCons lenNil) (by decide))) (sv 4) (se_tup (sa_cons (sv 12) (sa_cons (sv 15) sa_nil)) (lenCons (lenCons lenNil)) (by decide))) (sss_one (ss_expr (se_app (sv 5) (se_tup (sa_cons (sv 12) (sa_cons (sv 15) sa_nil)) (lenCons (lenCons lenNil)) (by decide)))))) sss_nil))))))))))) (sss_one (ss_ret se_non)))))))
def m_alike_s0 : MS := (mDrop (mCallF m_check_world (mCons (mVar 2) mNil)))
def m_alike_s1 : MS := (mRet (mOp isM (mCallF m_first_unlike (mCons (mVar 0) (mCons (mVar 1) (mCons (mVar 2) mNil)))) (mC .non)))
def m_alike : MF := mFn 3 ((mSeq m_alike_s0 m_alike_s1))
theorem sc_m_alike : FnScope ["one", "other", "world"] ["one", "other", "world"] (defScope s_alike) := ⟨rfl, rfl, rfl, by decide +kernel, rfl, by decide +kernel, by decide +kernel⟩
theorem ok_alike {P : Program} {w : PySem.World} {K : PySem.W.Frag} {mg : Str → Option Value} {base : Heap} {f : Addr} {fd : FuncData} (g : Gs K mg) (h_check_world : FN P w K mg base 5 1 "check_world" m_check_world) (h_first_unlike : FN P w K mg base 6 3 "first_unlike" m_first_unlike) (F : FunD K "alike" "alike" (defArgs s_alike) (defBody s_alike) (defScope s_alike) [] [] f fd) (hg : mg "alike" = some (.ref f)) : FN P w K mg base 7 3 "alike" m_alike := by
  refine ⟨f, fd, ["one", "other", "world"], ?_, hg, F.kp, F.bindsN fun _ _ _ _ _ _ us hl => match us, hl with | [_, _, _], _ => rfl⟩
  refine F.ok sc_m_alike (fun vs H Q E h => h.1) (fun cdv A outer s H vs Q E hr h => body_ok (m := (mSeq m_alike_s0 m_alike_s1)) (by decide) ?_ h)
  exact (sss_cons (ss_expr (se_callN h_check_world hr (by decide) rfl takes_cx (sa_cons (sv 2) sa_nil) (lenCons lenNil))) (sss_one (ss_ret (se_cmp opM_is pu_is (nomark _) (se_callN h_first_unlike hr (by decide) rfl takes_cx (sa_cons (sv 0) (sa_cons (sv 1) (sa_cons (sv 2) sa_nil))) (lenCons (lenCons (lenCons lenNil)))) se_non))))
def m_walked_s0 : MS := (mAsg (mTup (mCons (mCallF m_begin (mCons (mVar 1) mNil)) (mCons (mC .non) mNil))) (tgName 3))
def m_walked_s1 : MS := (mAsg (mDct1T false (mVar 3) (mTup mNil)) (tgName 4))
def m_walked_s2 : MS := (mAsg (fun _ S => mkD false [] [] S) (tgName 5))
def m_walked_s3 : MS := (mAsg (mCell (mCons (mVar 3) mNil)) (tgName 6))
def m_walked_s4 : MS := (mAsg (mC (.int 0)) (tgName 7))
def m_walked_s6 : MS := (mAsg (mOp idxM (mVar 6) (mVar 7)) (tgTup (tgCons (tgName 10) (tgCons (tgName 11) tgNil))))
def m_walked_s7 : MS := (mAsg (mOp idxTM (mVar 4) (mOp idxM (mVar 6) (mVar 7))) (tgName 8))
def m_walked_s8 : MS := (mAugI 7 (mC (.int 1)))
def m_walked_s10 : MS := (mAsg (mCallF m_led (mCons (mVar 0) (mCons (mVar 1) (mCons (mVar 10) (mCons (mVar 9) mNil))))) (tgTup (tgCons (tgName 15) (tgCons (tgName 16) (tgCons (tgName 17) tgNil)))))
def m_walked_s13 : MS := (mSub (mCallF (lstM true) (mCons (mOp addM (mVar 8) (mTup (mCons (mVar 9) mNil))) mNil)) (mVar 5) (mVar 12))
def m_walked_s12 : MS := (mIfS (mTest (mOp ninM (mVar 12) (mVar 5))) m_walked_s13 mNext)
def m_walked_s11 : MS := (mFor (mSrc (mVar 17)) (tgName 12) m_walked_s12)
def m_walked_s14 : MS := (mAsg (mTup (mCons (mVar 9) (mCons (mOp idxM (mOp idxM (mVar 10) (mC (.int 0))) (mVar 9)) mNil))) (tgName 13))
def m_walked_s15 : MS := (mAsg (mTup (mCons (mVar 16) (mCons (mIf (mTest (mOp inM (mVar 13) (mVar 2))) (mVar 13) (mC .non)) mNil))) (tgName 14))
def m_walked_s17 : MS := (mSubT (mOp addM (mVar 8) (mTup (mCons (mVar 9) mNil))) (mVar 4) (mVar 14))
def m_walked_s18 : MS := (mDrop (mApp (mVar 6) (mVar 14)))
def m_walked_s16 : MS := (mIfS (mTest (mOp ninTM (mVar 14) (mVar 4))) (mSeq m_walked_s17 m_walked_s18) mNext)
def m_walked_s9 : MS := (mFor (mSrc (mCallF m_hands_at (mCons (mVar 1) (mCons (mVar 10) (mCons (mVar 2) (mCons (mVar 11) mNil)))))) (tgName 9) (mSeq m_walked_s10 (mSeq m_walked_s11 (mSeq m_walked_s14 (mSeq m_walked_s15 m_walked_s16)))))
def m_walked_s5 : MS := (mWhile (mTest (mOp ltM (mVar 7) (mCallF lenM (mCons (mVar 6) mNil)))) (mSeq m_walked_s6 (mSeq m_walked_s7 (mSeq m_walked_s8 m_walked_s9))) 70000)
def m_walked_s19 : MS := (mRet (mTup (mCons (mVar 4) (mCons (mVar 5) mNil))))
def m_walked : MF := frzF (mFn 18 ((mSeq m_walked_s0 (mSeq m_walked_s1 (mSeq m_walked_s2 (mSeq m_walked_s3 (mSeq m_walked_s4 (mSeq m_walked_s5 m_walked_s19))))))))
theorem sc_m_walked : FnScope ["rule", "world", "joints", "first", "found", "faults", "waiting", "at", "weaving", "hand", "state", "last", "fault", "step", "key", "told", "after", "there"] ["rule", "world", "joints"] (defScope s_walked) := ⟨rfl, rfl, rfl, by decide +kernel, rfl, by decide +kernel, by decide +kernel⟩
theorem ok_walked {P : Program} {w : PySem.World} {K : PySem.W.Frag} {mg : Str → Option Value} {base : Heap} {f : Addr} {fd : FuncData} (g : Gs K mg) (h_begin : FN P w K mg base 2 1 "begin" m_begin) (h_hands_at : FN P w K mg base 3 4 "hands_at" m_hands_at) (h_led : FN P w K mg base 5 4 "led" m_led) (F : FunD K "walked" "walked" (defArgs s_walked) (defBody s_walked) (defScope s_walked) [] [] f fd) (hg : mg "walked" = some (.ref f)) : FN P w K mg base 6 3 "walked" m_walked := by
  refine ⟨f, fd, ["rule", "world", "joints"], ?_, hg, F.kp, F.bindsN fun _ _ _ _ _ _ us hl => match us, hl with | [_, _, _], _ => rfl⟩
  refine frz_ok (m := mFn _ _) (F.ok sc_m_walked (fun vs H Q E h => h.1) (fun cdv A outer s H vs Q E hr h => body_ok (m := (mSeq m_walked_s0 (mSeq m_walked_s1 (mSeq m_walked_s2 (mSeq m_walked_s3 (mSeq m_walked_s4 (mSeq m_walked_s5 m_walked_s19))))))) (by decide) ?_ h))
  exact (sss_cons (sset 3 sc_m_walked.nd (se_tup (sa_cons (se_callN h_begin hr (by decide) rfl takes_cx (sa_cons (sv 1) sa_nil) (lenCons lenNil)) (sa_cons se_non sa_nil)) (lenCons (lenCons lenNil)) (by decide))) (sss_cons (sset 4 sc_m_walked.nd (se_dict1T (fr := false) (Room.u65 hr) (sv 3) (se_tup sa_nil lenNil (by decide)))) (sss_cons (sset 5 sc_m_walked.nd (se_dnew (fr := false))) (sss_cons (sset 6 sc_m_walked.nd (se_cell (sa_cons (sv 3) sa_nil) (lenCons lenNil) (by decide))) (sss_cons (sset 7 sc_m_walked.nd se_int) (sss_cons (ss_while 70000 pass_cx (st_cmp (opM_int op_lt) pu_cmpI (nomark _) (sv 7) (se_callB crM_len pu_len rfl g.b_len bt_len (sa_cons (sv 6) sa_nil))) (sss_cons (ss_asg (se_ix (Room.u1 hr) (fun _ _ => rfl) (sv 6) (sv 7) pu_ix) (sg_tup rfl (sgs_cons (sn 10 sc_m_walked.nd) (sgs_cons (sn 11 sc_m_walked.nd) sgs_nil)))) (sss_cons (sset 8 sc_m_walked.nd (se_ixT (Room.u65 hr) (fun _ _ => rfl) (sv 4) (se_ix (Room.u1 hr) (fun _ _ => rfl) (sv 6) (sv 7) pu_ix) pu_ixT)) (sss_cons (saug 7 sc_m_walked.nd se_int) (sss_one (ss_for pass_cx rfl (si_seq (se_callN h_hands_at hr (by decide) rfl takes_cx (sa_cons (sv 1) (sa_cons (sv 10) (sa_cons (sv 2) (sa_cons (sv 11) sa_nil)))) (lenCons (lenCons (lenCons (lenCons lenNil)))))) (sn 9 sc_m_walked.nd) (sss_cons (ss_asg (se_callN h_led hr (by decide) rfl takes_cx (sa_cons (sv 0) (sa_cons (sv 1) (sa_cons (sv 10) (sa_cons (sv 9) sa_nil)))) (lenCons (lenCons (lenCons (lenCons lenNil))))) (sg_tup rfl (sgs_cons (sn 15 sc_m_walked.nd) (sgs_cons (sn 16 sc_m_walked.nd) (sgs_cons (sn 17 sc_m_walked.nd) sgs_nil))))) (sss_cons (ss_for pass_cx rfl (si_seq (sv 17)) (sn 12 sc_m_walked.nd) (sss_one (ss_if (st_cmp (opM_nin (Room.u65 hr)) pu_nin (by with_unfolding_all rfl) (sv 12) (sv 5)) (sss_one (ss_sub (Room.u1 hr) (se_callTy (crM_list true) pu_list rfl g.b_list bt_list (sa_cons (se_op opM_add pu_add (sv 8) (se_tup (sa_cons (sv 9) sa_nil) (lenCons lenNil) (by decide))) sa_nil)) (sv 5) (sv 12))) sss_nil))) (sss_cons (sset 13 sc_m_walked.nd (se_tup (sa_cons (sv 9) (sa_cons (se_ix (Room.u1 hr) (fun _ _ => rfl) (se_ix (Room.u1 hr) (fun _ _ => rfl) (sv 10) se_int pu_ix) (sv 9) pu_ix) sa_nil)) (lenCons (lenCons lenNil)) (by decide))) (sss_cons (sset 14 sc_m_walked.nd (se_tup (sa_cons (sv 16) (sa_cons (se_if (st_cmp (opM_in (Room.u65 hr)) pu_in (by with_unfolding_all rfl) (sv 13) (sv 2)) (sv 13) se_non) sa_nil)) (lenCons (lenCons lenNil)) (by decide))) (sss_one (ss_if (st_cmp (opM_ninT (Room.u65 hr)) pu_ninT (by with_unfolding_all rfl) (sv 14) (sv 4)) (sss_cons (ss_subT (Room.u65 hr) (se_op opM_add pu_add (sv 8) (se_tup (sa_cons (sv 9) sa_nil) (lenCons lenNil) (by decide))) (sv 4) (sv 14)) (sss_one (ss_expr (se_app (sv 6) (sv 14))))) sss_nil)))))))))))) (sss_one (ss_ret (se_tup (sa_cons (sv 4) (sa_cons (sv 5) sa_nil)) (lenCons (lenCons lenNil)) (by decide))))))))))
def m_can_s0 : MS := (mDrop (mCallF m_check_world (mCons (mVar 1) mNil)))
def m_can_s1 : MS := (mAsg (mOp idxM (mCallF m_walked (mCons (mVar 0) (mCons (mVar 1) (mCons (mTup mNil) mNil)))) (mC (.int 1))) (tgName 2))
def m_can_s2 : MS := (mRet (mDc true [3] (mSrc (mC d_FAULTS)) (tgName 3) (mTest (mOp inM (mVar 3) (mVar 2))) (mVar 3) (mOp idxM (mVar 2) (mVar 3))))
def m_can : MF := frzF (mFn 4 ((mSeq m_can_s0 (mSeq m_can_s1 m_can_s2))))
theorem sc_m_can : FnScope ["rule", "world", "faults", "fault"] ["rule", "world"] (defScope s_can) := ⟨rfl, rfl, rfl, by decide +kernel, rfl, by decide +kernel, by decide +kernel⟩
theorem ok_can {P : Program} {w : PySem.World} {K : PySem.W.Frag} {mg : Str → Option Value} {base : Heap} {f : Addr} {fd : FuncData} (g : Gs K mg) (h_check_world : FN P w K mg base 5 1 "check_world" m_check_world) (h_walked : FN P w K mg base 6 3 "walked" m_walked) (F : FunD K "can" "can" (defArgs s_can) (defBody s_can) (defScope s_can) [] [] f fd) (hg : mg "can" = some (.ref f)) : FN P w K mg base 7 2 "can" m_can := by
  refine ⟨f, fd, ["rule", "world"], ?_, hg, F.kp, F.bindsN fun _ _ _ _ _ _ us hl => match us, hl with | [_, _], _ => rfl⟩
  refine frz_ok (m := mFn _ _) (F.ok sc_m_can (fun vs H Q E h => h.1) (fun cdv A outer s H vs Q E hr h => body_ok (m := (mSeq m_can_s0 (mSeq m_can_s1 m_can_s2))) (by decide) ?_ h))
  exact (sss_cons (ss_expr (se_callN h_check_world hr (by decide) rfl takes_cx (sa_cons (sv 1) sa_nil) (lenCons lenNil))) (sss_cons (sset 2 sc_m_can.nd (se_ix (Room.u1 hr) (fun _ _ => rfl) (se_callN h_walked hr (by decide) rfl takes_cx (sa_cons (sv 0) (sa_cons (sv 1) (sa_cons (se_tup sa_nil lenNil (by decide)) sa_nil))) (lenCons (lenCons (lenCons lenNil)))) se_int pu_ix)) (sss_one (ss_ret (se_dc (fr := true) (own := [("fault", 3)]) rfl sc_m_can.nd (si_seq (se_globN g.k_FAULTS rfl)) (blkOk_by rfl) (fun _ _ _ _ _ => (sn 3 sc_m_can.nd)) (fun _ _ _ _ _ => (sts_one (st_cmp (opM_in (Room.u65 hr)) pu_in (by with_unfolding_all rfl) (sv 3) (sv 2)))) (fun _ _ _ _ _ => (sv 3)) (fun _ _ _ _ _ => (se_ix (Room.u1 hr) (fun _ _ => rfl) (sv 2) (sv 3) pu_ix)) (by decide))))))
def m_ends_s0 : MS := (mDrop (mCallF m_check_world (mCons (mVar 1) mNil)))
def m_ends_s1 : MS := (mAsg (fun _ S => mkDT false [] [] S) (tgName 2))
def m_ends_s4 : MS := (mSubT (mC (.bl true)) (mVar 2) (mOp idxM (mVar 3) (mC (.int 2))))
def m_ends_s3 : MS := (mIfS (mNot (mTruth (mCallF m_hands_at (mCons (mVar 1) (mCons (mVar 3) (mCons (mTup mNil) (mCons (mC .non) mNil))))))) m_ends_s4 mNext)
def m_ends_s2 : MS := (mFor (mKeysT (mOp idxM (mCallF m_walked (mCons (mVar 0) (mCons (mVar 1) (mCons (mTup mNil) mNil)))) (mC (.int 0)))) (tgTup (tgCons (tgName 3) (tgCons (tgName 4) tgNil))) m_ends_s3)
def m_ends_s5 : MS := (mRet (mCallF lenTM (mCons (mVar 2) mNil)))
def m_ends : MF := frzF (mFn 5 ((mSeq m_ends_s0 (mSeq m_ends_s1 (mSeq m_ends_s2 m_ends_s5)))))
theorem sc_m_ends : FnScope ["rule", "world", "found", "state", "last"] ["rule", "world"] (defScope s_ends) := ⟨rfl, rfl, rfl, by decide +kernel, rfl, by decide +kernel, by decide +kernel⟩
theorem ok_ends {P : Program} {w : PySem.World} {K : PySem.W.Frag} {mg : Str → Option Value} {base : Heap} {f : Addr} {fd : FuncData} (g : Gs K mg) (h_check_world : FN P w K mg base 5 1 "check_world" m_check_world) (h_walked : FN P w K mg base 6 3 "walked" m_walked) (h_hands_at : FN P w K mg base 3 4 "hands_at" m_hands_at) (F : FunD K "ends" "ends" (defArgs s_ends) (defBody s_ends) (defScope s_ends) [] [] f fd) (hg : mg "ends" = some (.ref f)) : FN P w K mg base 7 2 "ends" m_ends := by
  refine ⟨f, fd, ["rule", "world"], ?_, hg, F.kp, F.bindsN fun _ _ _ _ _ _ us hl => match us, hl with | [_, _], _ => rfl⟩
  refine frz_ok (m := mFn _ _) (F.ok sc_m_ends (fun vs H Q E h => h.1) (fun cdv A outer s H vs Q E hr h => body_ok (m := (mSeq m_ends_s0 (mSeq m_ends_s1 (mSeq m_ends_s2 m_ends_s5)))) (by decide) ?_ h))
  exact (sss_cons (ss_expr (se_callN h_check_world hr (by decide) rfl takes_cx (sa_cons (sv 1) sa_nil) (lenCons lenNil))) (sss_cons (sset 2 sc_m_ends.nd (se_dnewT (fr := false))) (sss_cons (ss_for pass_cx rfl (si_dkt (se_ix (Room.u1 hr) (fun _ _ => rfl) (se_callN h_walked hr (by decide) rfl takes_cx (sa_cons (sv 0) (sa_cons (sv 1) (sa_cons (se_tup sa_nil lenNil (by decide)) sa_nil))) (lenCons (lenCons (lenCons lenNil)))) se_int pu_ix)) (sg_tup rfl (sgs_cons (sn 3 sc_m_ends.nd) (sgs_cons (sn 4 sc_m_ends.nd) sgs_nil))) (sss_one (ss_if (st_not (st_truth (se_callN h_hands_at hr (by decide) rfl takes_cx (sa_cons (sv 1) (sa_cons (sv 3) (sa_cons (se_tup sa_nil lenNil (by decide)) (sa_cons se_non sa_nil)))) (lenCons (lenCons (lenCons (lenCons lenNil))))))) (sss_one (ss_subT (Room.u65 hr) se_bl (sv 2) (se_ix (Room.u1 hr) (fun _ _ => rfl) (sv 3) se_int pu_ix))) sss_nil))) (sss_one (ss_ret (se_callB crM_lenT pu_lenT rfl g.b_len bt_len (sa_cons (sv 2) sa_nil)))))))
def m_law_s0 : MS := (mAsg (mCallF m_law_begin (mCons (mVar 0) mNil)) (tgName 1))
def m_law_s1 : MS := (mAsg (mCallF m_law_parts (mCons (mVar 1) mNil)) (tgName 2))
def m_law_s2 : MS := (mAsg (mCallF m_law_world (mCons (mVar 1) (mCons (mOp idxM (mLst (mCons (mLst (mCons (mC (.int 3)) (mCons (mC (.int 2)) mNil))) (mCons (mLst (mCons (mC (.int 2)) (mCons (mC (.int 2)) mNil))) (mCons (mLst (mCons (mC (.int 3)) (mCons (mC (.int 3)) mNil))) mNil)))) (mCallF m_law_draw (mCons (mVar 1) (mCons (mC (.int 3)) mNil)))) mNil))) (tgName 3))
def m_law_s3 : MS := (mAsg (mCallF m_law_parts (mCons (mVar 1) mNil)) (tgName 4))
def m_law_s5 : MS := (mAsg (mCallF m_law_without (mCons (mVar 1) (mCons (mVar 3) (mCons (mLst (mCons (mC (.str "one")) (mCons (mC (.str "tell")) mNil))) mNil)))) (tgName 3))
def m_law_s6 : MS := (mSubs (mTup (mCons (mOp idxM (mVar 2) (mC (.int 0))) (mCons (mOp idxM (mVar 2) (mC (.int 2))) mNil))) 2 (tsCons (mVar 4) (mC (.int 0)) (tsCons (mVar 4) (mC (.int 2)) tsNil)))
def m_law_s7 : MS := (mAsg (mCallF m_law_without (mCons (mVar 1) (mCons (mVar 3) (mCons (mLst (mCons (mC (.str "person")) mNil)) mNil)))) (tgName 3))
def m_law_s8 : MS := (mSubs (mTup (mCons (mOp idxM (mVar 2) (mC (.int 0))) (mCons (mOp idxM (mVar 2) (mC (.int 1))) (mCons (mOp idxM (mVar 2) (mC (.int 3))) mNil)))) 3 (tsCons (mVar 4) (mC (.int 0)) (tsCons (mVar 4) (mC (.int 1)) (tsCons (mVar 4) (mC (.int 3)) tsNil))))
def m_law_s4 : MS := (mIfS (mTest (mOp eqM (mCallF m_law_draw (mCons (mVar 1) (mCons (mC (.int 2)) mNil))) (mC (.int 0)))) (mSeq m_law_s5 m_law_s6) (mSeq m_law_s7 m_law_s8))
def m_law_s9 : MS := (mPar 5 6 (mCons (mCallF m_law_rule (mCons (mVar 2) mNil)) (mCons (mCallF m_law_rule (mCons (mVar 4) mNil)) mNil)))
def m_law_s11 : MS := (mRet (mC (.bl false)))
def m_law_s10 : MS := (mIfS (mOr (mNot (mTest (mCallF m_alike (mCons (mVar 5) (mCons (mVar 6) (mCons (mVar 3) mNil)))))) (mTest (mOp neDM (mCallF m_can (mCons (mVar 5) (mCons (mVar 3) mNil))) (mCallF m_can (mCons (mVar 6) (mCons (mVar 3) mNil)))))) m_law_s11 mNext)
def m_law_s12 : MS := (mRet (mOp eqM (mCallF m_ends (mCons (mVar 5) (mCons (mVar 3) mNil))) (mCallF m_ends (mCons (mVar 6) (mCons (mVar 3) mNil)))))
def m_law : MF := mFn 7 ((mSeq m_law_s0 (mSeq m_law_s1 (mSeq m_law_s2 (mSeq m_law_s3 (mSeq m_law_s4 (mSeq m_law_s9 (mSeq m_law_s10 m_law_s12))))))))
theorem sc_m_law : FnScope ["_law_script", "_law_draws", "_law_parts_here", "_law_world_here", "_law_other", "_law_first", "_law_second"] ["_law_script"] (defScope s_law) := ⟨rfl, rfl, rfl, by decide +kernel, rfl, by decide +kernel, by decide +kernel⟩
theorem ok_law {P : Program} {w : PySem.World} {K : PySem.W.Frag} {mg : Str → Option Value} {base : Heap} {f : Addr} {fd : FuncData} (g : Gs K mg) (h_law_begin : FN P w K mg base 1 1 "_law_begin" m_law_begin) (h_law_parts : FN P w K mg base 2 1 "_law_parts" m_law_parts) (h_law_world : FN P w K mg base 3 2 "_law_world" m_law_world) (h_law_draw : FN P w K mg base 1 2 "_law_draw" m_law_draw) (h_law_without : FN P w K mg base 1 3 "_law_without" m_law_without) (h_law_rule : FN P w K mg base 3 1 "_law_rule" m_law_rule) (h_alike : FN P w K mg base 7 3 "alike" m_alike) (h_can : FN P w K mg base 7 2 "can" m_can) (h_ends : FN P w K mg base 7 2 "ends" m_ends) (F : FunD K "law" "law" (defArgs s_law) (defBody s_law) (defScope s_law) [] [] f fd) : FnOk P w K mg base (L2.CX P w) 8 f fd ["_law_script"] (spM w K 1 m_law) := by
  refine F.ok sc_m_law (fun vs H Q E h => h.1) (fun cdv A outer s H vs Q E hr h => body_ok (m := (mSeq m_law_s0 (mSeq m_law_s1 (mSeq m_law_s2 (mSeq m_law_s3 (mSeq m_law_s4 (mSeq m_law_s9 (mSeq m_law_s10 m_law_s12)))))))) (by decide) ?_ h)
  exact (sss_cons (sset 1 sc_m_law.nd (se_callN h_law_begin hr (by decide) rfl takes_cx (sa_cons (sv 0) sa_nil) (lenCons lenNil))) (sss_cons (sset 2 sc_m_law.nd (se_callN h_law_parts hr (by decide) rfl takes_cx (sa_cons (sv 1) sa_nil) (lenCons lenNil))) (sss_cons (sset 3 sc_m_law.nd (se_callN h_law_world hr (by decide) rfl takes_cx (sa_cons (sv 1) (sa_cons (se_ix (Room.u1 hr) (fun _ _ => rfl) (se_lst (sa_cons (se_lst (sa_cons se_int (sa_cons se_int sa_nil)) (lenCons (lenCons lenNil)) (by decide)) (sa_cons (se_lst (sa_cons se_int (sa_cons se_int sa_nil)) (lenCons (lenCons lenNil)) (by decide)) (sa_cons (se_lst (sa_cons se_int (sa_cons se_int sa_nil)) (lenCons (lenCons lenNil)) (by decide)) sa_nil))) (lenCons (lenCons (lenCons lenNil))) (by decide)) (se_callN h_law_draw hr (by decide) rfl takes_cx (sa_cons (sv 1) (sa_cons se_int sa_nil)) (lenCons (lenCons lenNil))) pu_ix) sa_nil)) (lenCons (lenCons lenNil)))) (sss_cons (sset 4 sc_m_law.nd (se_callN h_law_parts hr (by decide) rfl takes_cx (sa_cons (sv 1) sa_nil) (lenCons lenNil))) (sss_cons (ss_if (st_cmp (opM_eq (Room.u64 hr)) pu_eq (nomark _) (se_callN h_law_draw hr (by decide) rfl takes_cx (sa_cons (sv 1) (sa_cons se_int sa_nil)) (lenCons (lenCons lenNil))) se_int) (sss_cons (sset 3 sc_m_law.nd (se_callN h_law_without hr (by decide) rfl takes_cx (sa_cons (sv 1) (sa_cons (sv 3) (sa_cons (se_lst (sa_cons se_str (sa_cons se_str sa_nil)) (lenCons (lenCons lenNil)) (by decide)) sa_nil))) (lenCons (lenCons (lenCons lenNil))))) (sss_one (ss_subs rfl (se_tup (sa_cons (se_ix (Room.u1 hr) (fun _ _ => rfl) (sv 2) se_int pu_ix) (sa_cons (se_ix (Room.u1 hr) (fun _ _ => rfl) (sv 2) se_int pu_ix) sa_nil)) (lenCons (lenCons lenNil)) (by decide)) (sbs_cons (Room.u1 hr) (sv 4) se_int (sbs_cons (Room.u1 hr) (sv 4) se_int sbs_nil))))) (sss_cons (sset 3 sc_m_law.nd (se_callN h_law_without hr (by decide) rfl takes_cx (sa_cons (sv 1) (sa_cons (sv 3) (sa_cons (se_lst (sa_cons se_str sa_nil) (lenCons lenNil) (by decide)) sa_nil))) (lenCons (lenCons (lenCons lenNil))))) (sss_one (ss_subs rfl (se_tup (sa_cons (se_ix (Room.u1 hr) (fun _ _ => rfl) (sv 2) se_int pu_ix) (sa_cons (se_ix (Room.u1 hr) (fun _ _ => rfl) (sv 2) se_int pu_ix) (sa_cons (se_ix (Room.u1 hr) (fun _ _ => rfl) (sv 2) se_int pu_ix) sa_nil))) (lenCons (lenCons (lenCons lenNil))) (by decide)) (sbs_cons (Room.u1 hr) (sv 4) se_int (sbs_cons (Room.u1 hr) (sv 4) se_int (sbs_cons (Room.u1 hr) (sv 4) se_int sbs_nil))))))) (sss_cons (ss_par (i := 5) (j := 6) rfl sc_m_law.nd rfl rfl (by decide) rfl rfl (sa_cons (se_callN h_law_rule hr (by decide) rfl takes_cx (sa_cons (sv 2) sa_nil) (lenCons lenNil)) (sa_cons (se_callN h_law_rule hr (by decide) rfl takes_cx (sa_cons (sv 4) sa_nil) (lenCons lenNil)) sa_nil))) (sss_cons (ss_if (st_w (sw_or (st_not (st_val (se_callN h_alike hr (by decide) rfl takes_cx (sa_cons (sv 5) (sa_cons (sv 6) (sa_cons (sv 3) sa_nil))) (lenCons (lenCons (lenCons lenNil)))))) (sw_or1 (st_cmp (opM_neD (Room.u65 hr)) pu_neD (nomark _) (se_callN h_can hr (by decide) rfl takes_cx (sa_cons (sv 5) (sa_cons (sv 3) sa_nil)) (lenCons (lenCons lenNil))) (se_callN h_can hr (by decide) rfl takes_cx (sa_cons (sv 6) (sa_cons (sv 3) sa_nil)) (lenCons (lenCons lenNil))))))) (sss_one (ss_ret se_bl)) sss_nil) (sss_one (ss_ret (se_cmp (opM_eq (Room.u64 hr)) pu_eq (nomark _) (se_callN h_ends hr (by decide) rfl takes_cx (sa_cons (sv 5) (sa_cons (sv 3) sa_nil)) (lenCons (lenCons lenNil))) (se_callN h_ends hr (by decide) rfl takes_cx (sa_cons (sv 6) (sa_cons (sv 3) sa_nil)) (lenCons (lenCons lenNil)))))))))))))
end Lw
set_option Elab.async false
set_option linter.all false
set_option maxRecDepth 100000
set_option maxHeartbeats 4000000
namespace Mi
open PySem PySem.Spec PyProof.Rows L2
section
variable {ρ : Ev} {S : Sto} {a b c : ME} {m m' : MS} {ma : MA} {t u : MT} {d : MV} {i : Nat}
@[simp] theorem w_var' : mVar i ρ S = (match ρ[i]? with
  | some (some d) => .ok d S
  | _ => .stk) := rfl
@[simp] theorem w_c : mC d ρ S = .ok d S := rfl
@[simp] theorem w_op {f : MV → MV → Sto → R MV} : mOp f a b ρ S = (a ρ S).bind fun x S1 => (b ρ S1).bind fun y S2 => f x y S2 := rfl
@[simp] theorem w_test : mTest a ρ S = (a ρ S).bind toB := rfl
@[simp] theorem w_not : mNot t ρ S = (t ρ S).bind fun b S1 => .ok (!b) S1 := rfl
@[simp] theorem w_and : mAnd t u ρ S = (t ρ S).bind fun x S1 => if x then u ρ S1 else .ok false S1 := rfl
@[simp] theorem w_or : mOr t u ρ S = (t ρ S).bind fun x S1 => if x then .ok true S1 else u ρ S1 := rfl
@[simp] theorem w_andV : mAndV a b ρ S = (mTest a ρ S).bind fun x S1 => if x then b ρ S1 else .ok (.bl false) S1 := rfl
@[simp] theorem w_orV : mOrV a b ρ S = (mTest a ρ S).bind fun x S1 => if x then .ok (.bl true) S1 else b ρ S1 := rfl
@[simp] theorem w_notV : mNotV a ρ S = (mTest a ρ S).bind fun x S1 => .ok (.bl (!x)) S1 := rfl
@[simp] theorem w_if : mIf t a b ρ S = (t ρ S).bind fun x S1 => if x then a ρ S1 else b ρ S1 := rfl
@[simp] theorem w_nil : mNil ρ S = .ok [] S := rfl
@[simp] theorem w_cons : mCons a ma ρ S = (a ρ S).bind fun x S1 => (ma ρ S1).bind fun xs S2 => .ok (x :: xs) S2 := rfl
@[simp] theorem w_tup : mTup ma ρ S = (ma ρ S).bind fun xs S1 => .ok (.tup xs) S1 := rfl
@[simp] theorem w_lst : mLst ma ρ S = (ma ρ S).bind fun xs S1 => .ok (.lst xs) S1 := rfl
@[simp] theorem w_callF {f : List MV → Sto → R MV} : mCallF f ma ρ S = (ma ρ S).bind f := rfl
@[simp] theorem w_true : mTrue ρ S = .ok true S := rfl
@[simp] theorem w_toB {x : Bool} : toB (.bl x) S = .ok x S := rfl
@[simp] theorem w_next : mNext ρ S = .nx ρ S := rfl
@[simp] theorem w_ifS : mIfS t m m' ρ S = (t ρ S).thn ρ fun x S1 => if x then m ρ S1 else m' ρ S1 := rfl
@[simp] theorem w_ret : mRet a ρ S = (a ρ S).thn ρ fun d S1 => .rt d S1 := rfl
@[simp] theorem w_asg {g : Tg} : mAsg a g ρ S = (a ρ S).thn ρ fun d S1 => oS (g.f d ρ) S1 := rfl
@[simp] theorem w_name : (tgName i).f d ρ = some (ρ.set i (some d)) := rfl
@[simp] theorem w_oS {ρ' : Ev} : oS (some ρ') S = .nx ρ' S := rfl
@[simp] theorem w_toR {S1 : Sto} : toR (.rt d S1) = .ok d S1 := rfl
@[simp] theorem w_toRn : toR (.nx ρ S) = .ok .non S := rfl
end
theorem lcGo_ty {α : Type} {ok : Sto → Bool} {g : Tg} {tt : MT} {te : ME} {ρ : Ev} {S : Sto} (hok : ok S = true) (enc : α → MV) (p : α → Bool) (f : α → MV) :
    ∀ (xs : List α) (acc : List MV), (∀ x ∈ xs, ∃ ρ1, g.f (enc x) ρ = some ρ1 ∧ tt ρ1 S = .ok (p x) S ∧ (p x = true → te ρ1 S = .ok (f x) S)) → lcGo ok g tt te ρ (xs.map enc) acc S = .ok (acc ++ (xs.filter p).map f) S
  | [], acc, _ => by simp [lcGo, hok]
  | x :: xs, acc, h => by
    obtain ⟨ρ1, e1, e2, e3⟩ := h x List.mem_cons_self
    have ih := fun acc => lcGo_ty hok enc p f xs acc fun y hy => h y (List.mem_cons_of_mem _ hy)
    rw [List.map_cons, lcGo, if_pos hok, e1]
    dsimp only
    rw [e2]
    simp only [R.calm_ok, R.bind_ok]
    by_cases hp : p x = true
    · rw [if_pos hp, e3 hp]
      simp only [R.calm_ok, R.bind_ok]
      rw [ih, List.filter_cons_of_pos hp]
      simp
    · rw [if_neg hp, ih, List.filter_cons_of_neg hp]
theorem lcGo_tm {α : Type} {ok : Sto → Bool} {g : Tg} {te : ME} {ρ : Ev} {S : Sto} (hok : ok S = true) (enc : α → MV) (f : α → MV) (xs : List α) (h : ∀ x ∈ xs, ∃ ρ1, g.f (enc x) ρ = some ρ1 ∧ te ρ1 S = .ok (f x) S) : lcGo ok g mTrue te ρ (xs.map enc) [] S = .ok (xs.map f) S := by
  have := lcGo_ty (tt := mTrue) hok enc (fun _ => true) f xs [] fun x hx => let ⟨ρ1, a, b⟩ := h x hx; ⟨ρ1, a, rfl, fun _ => b⟩
  rw [this, List.filter_eq_self.mpr (fun _ _ => rfl)]
  simp
theorem enmI_ty {α : Type} (enc : α → MV) : ∀ (xs : List α) (k : Nat), enmI k (xs.map enc) = (xs.zipIdx k).map fun x => .tup [.int (x.2 : Nat), enc x.1]
  | [], k => rfl
  | x :: xs, k => by rw [List.map_cons, enmI, enmI_ty enc xs (k + 1)]; rfl
theorem zipI_ty {α β : Type} (f : α → MV) (g : β → MV) : ∀ (xs : List α) (ys : List β), zipI (xs.map f) (ys.map g) = (xs.zip ys).map fun x => .tup [f x.1, g x.2]
  | [], ys => by simp [zipI]
  | x :: xs, [] => by simp [zipI]
  | x :: xs, y :: ys => by rw [List.map_cons, List.map_cons, zipI, zipI_ty f g xs ys]; rfl
theorem mem_zi {α : Type} {xs : List α} {x : α × Nat} (h : x ∈ xs.zipIdx) : xs[x.2]? = some x.1 := by
  obtain ⟨a, i⟩ := x
  simpa using List.mem_zipIdx_iff_getElem?.mp h
def hv : Option Int → MV
  | none => .non
  | some i => .int i
@[simp] theorem eq_int {a b : Int} {S : Sto} : eqM (.int a) (.int b) S = .ok (.bl (decide (a = b))) S := by simp [eqM, eqB, scalM, seqM]
@[simp] theorem ne_int {a b : Int} {S : Sto} : neM (.int a) (.int b) S = .ok (.bl (!decide (a = b))) S := by simp [neM, eqB, scalM, seqM]
@[simp] theorem eq_str {a b : Str} {S : Sto} : eqM (.str a) (.str b) S = .ok (.bl (decide (a = b))) S := by simp [eqM, eqB, scalM, seqM]
@[simp] theorem ne_str {a b : Str} {S : Sto} : neM (.str a) (.str b) S = .ok (.bl (!decide (a = b))) S := by simp [neM, eqB, scalM, seqM]
@[simp] theorem eq_hv {a b : Option Int} {S : Sto} : eqM (hv a) (hv b) S = .ok (.bl (decide (a = b))) S := by
  cases a <;> cases b <;> simp [hv, eqM, eqB, scalM, seqM]
@[simp] theorem ne_hv {a b : Option Int} {S : Sto} : neM (hv a) (hv b) S = .ok (.bl (!decide (a = b))) S := by
  cases a <;> cases b <;> simp [hv, neM, eqB, scalM, seqM]
@[simp] theorem is_hv {a : Option Int} {S : Sto} : isM (hv a) .non S = .ok (.bl (decide (a = none))) S := by
  cases a <;> simp [hv, isM, isB]
@[simp] theorem isn_hv {a : Option Int} {S : Sto} : isnM (hv a) .non S = .ok (.bl (!decide (a = none))) S := by
  cases a <;> simp [hv, isnM, isB]
theorem atI_nat {xs : List MV} {d : Nat} {x : MV} (h : xs[d]? = some x) : atI xs (d : Int) = some x := by
  have hl := (List.getElem?_eq_some_iff.mp h).1
  have e : ixN xs.length (d : Int) = some d := by
    unfold ixN
    simp
    omega
  unfold atI
  rw [e]; exact h
theorem ix_tup {xs : List MV} {d : Nat} {x : MV} {S : Sto} (h : xs[d]? = some x) : idxM (.tup xs) (.int (d : Int)) S = .ok x S := by
  unfold idxM; simp only [seqOf]; rw [atI_nat h]
theorem ix_lst {xs : List MV} {d : Nat} {x : MV} {S : Sto} (h : xs[d]? = some x) : idxM (.lst xs) (.int (d : Int)) S = .ok x S := by
  unfold idxM; simp only [seqOf, lstOf]; rw [atI_nat h]
theorem ix_ref {xs : List MV} {d n : Nat} {x : MV} {S : Sto} (hS : S[n]? = some (.lst xs)) (h : xs[d]? = some x) : idxM (.ref n) (.int (d : Int)) S = .ok x S := by
  unfold idxM; simp only [seqOf, lstOf]; rw [hS]; dsimp only; rw [atI_nat h]
@[simp] theorem w_wipe0 {ρ : Ev} : wipeE ρ [] = ρ := rfl
@[simp] theorem w_wipe1 {ρ : Ev} {v : Nat} {vs : List Nat} : wipeE ρ (v :: vs) = (wipeE ρ vs).set v none := rfl
theorem anyM_bl {xs : List Bool} {S : Sto} : anyM [.lst (xs.map MV.bl)] S = .ok (.bl (xs.any id)) S := by
  have : ∀ xs : List Bool, allBl (xs.map MV.bl) = some xs := fun xs => by
    induction xs with
    | nil => rfl
    | cons x xs ih => simp [allBl, ih]
  simp [anyM, overBl, lstOf, this]
theorem allM_bl {xs : List Bool} {S : Sto} : allM [.lst (xs.map MV.bl)] S = .ok (.bl (xs.all id)) S := by
  have : ∀ xs : List Bool, allBl (xs.map MV.bl) = some xs := fun xs => by
    induction xs with
    | nil => rfl
    | cons x xs ih => simp [allBl, ih]
  simp [allM, overBl, lstOf, this]
end Mi
set_option Elab.async false
set_option linter.all false
set_option maxRecDepth 100000
set_option maxHeartbeats 1000000
namespace Mi
open PySem PySem.Spec PyProof.Rows L2
def RS.nxt (r : RS) (k : Ev → Sto → RS) : RS := match r with
  | .nx ρ S => k ρ S
  | r => r
section
variable {ρ : Ev} {S : Sto} {a b c : ME} {m m' : MS} {ma : MA} {t u : MT} {d : MV} {i : Nat} {cl : Str} {k : Ev → Sto → RS}
@[simp] theorem nxt_nx : (RS.nx ρ S).nxt k = k ρ S := rfl
@[simp] theorem nxt_rt : (RS.rt d S).nxt k = .rt d S := rfl
@[simp] theorem nxt_exc : (RS.exc cl d ρ S).nxt k = .exc cl d ρ S := rfl
@[simp] theorem nxt_stk : RS.stk.nxt k = .stk := rfl
@[simp] theorem w_seq' : mSeq m m' ρ S = (m ρ S).nxt m' := by unfold mSeq RS.nxt; cases m ρ S <;> rfl
@[simp] theorem w_drop : mDrop a ρ S = (a ρ S).thn ρ fun _ S1 => .nx ρ S1 := rfl
@[simp] theorem w_stk : mStk ρ S = .stk := rfl
@[simp] theorem toR_exc : toR (.exc cl d ρ S) = .exc cl d S := rfl
@[simp] theorem toR_stk : toR .stk = .stk := rfl
@[simp] theorem w_src : mSrc a ρ S = (a ρ S).bind srcOf := rfl
@[simp] theorem w_rng : mRng ma ρ S = (ma ρ S).bind rngOf := rfl
@[simp] theorem w_rng2 : mRng2 ma ρ S = (ma ρ S).bind rng2Of := rfl
@[simp] theorem w_enum : mEnum ma ρ S = (ma ρ S).bind enmOf := rfl
@[simp] theorem w_zip2 : mZip2 ma ρ S = (ma ρ S).bind zp2Of := rfl
@[simp] theorem w_zip3 : mZip3 ma ρ S = (ma ρ S).bind zp3Of := rfl
@[simp] theorem w_ezip : mEzip ma ρ S = (ma ρ S).bind ezOf := rfl
@[simp] theorem w_for' {mi : Ev → Sto → R Src} {g : Tg} {body : MS} : mFor mi g body ρ S = (mi ρ S).thn ρ fun src S1 => forGo (fun S => src.ok S) g body src.items ρ S1 := rfl
@[simp] theorem w_lc' {fr : Bool} {vs : List Nat} {mi : Ev → Sto → R Src} {g : Tg} {tt : MT} {te : ME} : mLc fr vs mi g tt te ρ S = (mi ρ S).bind fun src S1 =>
  if src.items.length ≤ sizeLine then (lcGo (fun S => src.ok S) g tt te (wipeE ρ vs) src.items [] S1).bind (mkL fr) else .stk := rfl
@[simp] theorem w_mkLt {xs : List MV} : mkL true xs S = .ok (.lst xs) S := rfl
@[simp] theorem w_mkLf {xs : List MV} : mkL false xs S = .ok (.ref S.length) (S ++ [.lst xs]) := rfl
@[simp] theorem w_fld {c f : Str} : mFld c f a ρ S = (a ρ S).bind fun d S1 => fldM c f d S1 := rfl
@[simp] theorem w_slice {lo hi : Ev → Sto → R (Option Int)} : mSlice a lo hi ρ S = (a ρ S).bind fun d S1 => (lo ρ S1).bind fun l S2 => (hi ρ S2).bind fun h S3 => slcM d l h S3 := rfl
@[simp] theorem w_oNone : moNone ρ S = .ok none S := rfl
@[simp] theorem w_oSome : moSome a ρ S = (a ρ S).bind fun d S1 => match d with
  | .int i => .ok (some i) S1
  | _ => .stk := rfl
@[simp] theorem w_cell : mCell ma ρ S = (ma ρ S).bind fun xs S1 => .ok (.ref S1.length) (S1 ++ [.lst xs]) := rfl
@[simp] theorem w_truth : mTruth a ρ S = (a ρ S).bind truW := rfl
@[simp] theorem w_isi {t : String} : mIsi t a ρ S = (a ρ S).bind fun d S1 => isiM t [d] S1 := rfl
@[simp] theorem w_dct {fr : Bool} {ks : List Key} : mDct fr ks ma ρ S = (ma ρ S).bind fun ds S1 => mkD fr ks ds S1 := rfl
@[simp] theorem w_mkDt {ks : List Key} {ds : List MV} : mkD true ks ds S = .ok (.dct ks ds) S := rfl
@[simp] theorem w_mkDf {ks : List Key} {ds : List MV} : mkD false ks ds S = .ok (.ref S.length) (S ++ [.dct ks ds]) := rfl
@[simp] theorem w_chain {f g : MV → MV → Sto → R MV} : mChain f g a b c ρ S = (a ρ S).bind fun x S1 => (b ρ S1).bind fun y S2 => (f x y S2).bind fun z S3 => (toB z S3).bind fun k S4 =>
  if k then (c ρ S4).bind fun w S5 => g y w S5 else .ok (.bl false) S4 := rfl
@[simp] theorem bind_ite {α β : Type} {p : Prop} [Decidable p] {x y : R α} {f : α → Sto → R β} : (if p then x else y).bind f = if p then x.bind f else y.bind f := by split <;> rfl
@[simp] theorem thn_ite {α : Type} {p : Prop} [Decidable p] {x y : R α} {f : α → Sto → RS} : (if p then x else y).thn ρ f = if p then x.thn ρ f else y.thn ρ f := by split <;> rfl
@[simp] theorem nxt_ite {p : Prop} [Decidable p] {x y : RS} : (if p then x else y).nxt k = if p then x.nxt k else y.nxt k := by split <;> rfl
@[simp] theorem toR_ite {p : Prop} [Decidable p] {x y : RS} : toR (if p then x else y) = if p then toR x else toR y := by split <;> rfl
@[simp] theorem toB_ite {p : Prop} [Decidable p] {x y : MV} : toB (if p then x else y) S = if p then toB x S else toB y S := by split <;> rfl
end
@[simp] theorem str_inj {a b : String} : (Str.ofString a = Str.ofString b) ↔ a = b := by
  constructor
  · intro h
    rw [Str.ofString_eq_toList, Str.ofString_eq_toList] at h
    have h := congrArg (fun s => s.cps.toList) h
    simp only [List.map_inj_right (f := Char.toNat) (fun a b e => Char.toNat_inj.mp e)] at h
    exact String.toList_inj.mp h
  · rintro rfl; rfl
def fillF (J : List Nat) (f : Nat → Option MV) : Nat → Ev → Ev
  | _, [] => []
  | i, x :: xs => (if i ∈ J then f i else x) :: fillF J f (i + 1) xs
def SameE (J : List Nat) : Nat → Ev → Ev → Prop
  | _, [], [] => True
  | i, x :: xs, y :: ys => (i ∈ J ∨ x = y) ∧ SameE J (i + 1) xs ys
  | _, _, _ => False
theorem SameE.fill {J : List Nat} : ∀ {i : Nat} {ρ0 ρ : Ev}, SameE J i ρ0 ρ → ∃ f, ρ = fillF J f i ρ0
  | i, [], [], _ => ⟨fun _ => none, rfl⟩
  | i, [], _ :: _, h => h.elim
  | i, _ :: _, [], h => h.elim
  | i, x :: xs, y :: ys, h => by
    obtain ⟨f, e⟩ := SameE.fill (i := i + 1) h.2
    refine ⟨fun j => if j = i then y else f j, ?_⟩
    rw [fillF]
    have e2 : ∀ (xs : Ev) (k : Nat), i < k → fillF J (fun j => if j = i then y else f j) k xs = fillF J f k xs := by
      intro xs
      induction xs with
      | nil => intro k _; rfl
      | cons x xs ih =>
        intro k hk
        rw [fillF, fillF, ih (k + 1) (by omega)]
        have : ¬ k = i := by omega
        simp [this]
    rw [e2 xs (i + 1) (by omega), ← e]
    rcases h.1 with h1 | h1
    · simp [h1]
    · subst h1; by_cases hi : i ∈ J <;> simp [hi]
theorem SameE.refl' {J : List Nat} : ∀ (i : Nat) (ρ : Ev), SameE J i ρ ρ
  | _, [] => trivial
  | i, x :: xs => ⟨.inr rfl, SameE.refl' (i + 1) xs⟩
@[simp] theorem same_nil {J : List Nat} {i : Nat} : SameE J i [] [] := trivial
@[simp] theorem same_cons {J : List Nat} {i : Nat} {x y : Option MV} {xs ys : Ev} : SameE J i (x :: xs) (y :: ys) ↔ (i ∈ J ∨ x = y) ∧ SameE J (i + 1) xs ys := Iff.rfl
@[simp] theorem fill_nil {J : List Nat} {f : Nat → Option MV} {i : Nat} : fillF J f i [] = [] := rfl
@[simp] theorem fill_cons {J : List Nat} {f : Nat → Option MV} {i : Nat} {x : Option MV} {xs : Ev} : fillF J f i (x :: xs) = (if i ∈ J then f i else x) :: fillF J f (i + 1) xs := rfl
@[simp] theorem enmI_ty' {α : Type} (enc : α → MV) (xs : List α) (k : Nat) : enmI k (xs.map enc) = (xs.zipIdx k).map fun x => .tup [.int (x.2 : Nat), enc x.1] := enmI_ty enc xs k
@[simp] theorem zipI_ty' {α β : Type} (f : α → MV) (g : β → MV) (xs : List α) (ys : List β) : zipI (xs.map f) (ys.map g) = (xs.zip ys).map fun x => .tup [f x.1, g x.2] := zipI_ty f g xs ys
@[simp] theorem int_eq {a b : Nat} : ((a : Int) = (b : Int)) ↔ a = b := by omega
@[simp] theorem ev0_eq {N : Nat} {ds : List MV} : ev0 N ds = ds.map some ++ List.replicate (N - ds.length) none := rfl
/-- a turn of the loop: it returns d where b, else goes on, the slots the same outside of J -/
def Out (J : List Nat) (ρ0 : Ev) (S : Sto) (d : MV) (r : RS) (b : Bool) : Prop := match r with
  | .rt d' S' => b = true ∧ d' = d ∧ S' = S
  | .nx ρ S' => b = false ∧ SameE J 0 ρ0 ρ ∧ S' = S
  | _ => False
section
variable {J : List Nat} {ρ0 ρ : Ev} {S S' : Sto} {d d' : MV} {b : Bool}
@[simp] theorem out_rt : Out J ρ0 S d (.rt d' S') b ↔ b = true ∧ d' = d ∧ S' = S := Iff.rfl
@[simp] theorem out_nx : Out J ρ0 S d (.nx ρ S') b ↔ b = false ∧ SameE J 0 ρ0 ρ ∧ S' = S := Iff.rfl
@[simp] theorem out_ite {p : Prop} [Decidable p] {x y : RS} : Out J ρ0 S d (if p then x else y) b ↔ if p then Out J ρ0 S d x b else Out J ρ0 S d y b := by split <;> rfl
end
/-- run a target and a body -/
def turn (g : Tg) (body : MS) (x : MV) (ρ : Ev) (S : Sto) : RS := match g.f x ρ with
  | some ρ1 => body ρ1 S
  | none => .stk
theorem forGo_out {α : Type} {ok : Sto → Bool} {g : Tg} {body : MS} {S : Sto} {ρ0 : Ev} (J : List Nat) (enc : α → MV) (p : α → Bool) (d : MV) (hok : ok S = true) :
    ∀ (xs : List α) (f : Nat → Option MV), (∀ x ∈ xs, ∀ f, Out J ρ0 S d (turn g body (enc x) (fillF J f 0 ρ0) S) (p x)) →
      ∃ f', forGo ok g body (xs.map enc) (fillF J f 0 ρ0) S = if xs.any p then .rt d S else .nx (fillF J f' 0 ρ0) S
  | [], f, _ => ⟨f, by simp [forGo, hok]⟩
  | x :: xs, f, h => by
    have h1 := h x List.mem_cons_self f
    unfold turn at h1
    cases e1 : g.f (enc x) (fillF J f 0 ρ0) with
    | none => rw [e1] at h1; exact h1.elim
    | some ρ1 =>
      rw [e1] at h1
      dsimp only at h1
      cases e2 : body ρ1 S with
      | rt d' S' =>
        rw [e2] at h1
        obtain ⟨a, rfl, rfl⟩ := h1
        exact ⟨f, by rw [List.map_cons, forGo, if_pos hok, e1]; dsimp only; rw [e2]; simp [a]⟩
      | nx ρ2 S' =>
        rw [e2] at h1
        obtain ⟨a, sm, rfl⟩ := h1
        obtain ⟨f2, rfl⟩ := sm.fill
        obtain ⟨f', e'⟩ := forGo_out J enc p d hok xs f2 fun y hy => h y (List.mem_cons_of_mem _ hy)
        exact ⟨f', by rw [List.map_cons, forGo, if_pos hok, e1]; dsimp only; rw [e2]; dsimp only; rw [e']; simp [a]⟩
      | exc _ _ _ _ => rw [e2] at h1; exact h1.elim
      | stk => rw [e2] at h1; exact h1.elim
/-- the same, in a goal -/
theorem for_out {α : Type} {ok : Sto → Bool} {g : Tg} {body : MS} {S : Sto} {ρ0 : Ev} {k : Ev → Sto → RS} {res : R MV} {items : List MV} (J : List Nat) (enc : α → MV) (p : α → Bool) (d : MV) (xs : List α) (hi : items = xs.map enc) (hok : ok S = true)
    (h : ∀ x ∈ xs, ∀ f, Out J ρ0 S d (turn g body (enc x) (fillF J f 0 ρ0) S) (p x))
    (h1 : xs.any p = true → R.ok d S = res) (h2 : xs.any p = false → ∀ f, toR (k (fillF J f 0 ρ0) S) = res) : toR ((forGo ok g body items ρ0 S).nxt k) = res := by
  subst hi
  have e0 : ∃ f, ρ0 = fillF J f 0 ρ0 := (SameE.refl' 0 ρ0).fill
  obtain ⟨f, e0⟩ := e0
  obtain ⟨f', e⟩ := forGo_out (ok := ok) (g := g) (body := body) (ρ0 := ρ0) J enc p d hok xs f h
  rw [← e0] at e
  rw [e]
  cases hp : xs.any p with
  | true => simpa using h1 hp
  | false => simpa using h2 hp f'
@[simp] theorem turn_name {i : Nat} {body : MS} {x : MV} {ρ : Ev} {S : Sto} : turn (tgName i) body x ρ S = body (ρ.set i (some x)) S := rfl
@[simp] theorem turn_2 {i j : Nat} {body : MS} {x y : MV} {ρ : Ev} {S : Sto} : turn (tgTup (tgCons (tgName i) (tgCons (tgName j) tgNil))) body (.tup [x, y]) ρ S = body ((ρ.set i (some x)).set j (some y)) S := rfl
@[simp] theorem turn_3 {i j l : Nat} {body : MS} {x y z : MV} {ρ : Ev} {S : Sto} : turn (tgTup (tgCons (tgName i) (tgCons (tgName j) (tgCons (tgName l) tgNil)))) body (.tup [x, y, z]) ρ S = body (((ρ.set i (some x)).set j (some y)).set l (some z)) S := rfl
@[simp] theorem turn_12 {i j l : Nat} {body : MS} {x y z : MV} {ρ : Ev} {S : Sto} : turn (tgTup (tgCons (tgName i) (tgCons (tgTup (tgCons (tgName j) (tgCons (tgName l) tgNil))) tgNil))) body (.tup [x, .tup [y, z]]) ρ S = body (((ρ.set i (some x)).set j (some y)).set l (some z)) S := rfl
@[simp] theorem turn_13 {i j l q : Nat} {body : MS} {x y z w : MV} {ρ : Ev} {S : Sto} : turn (tgTup (tgCons (tgName i) (tgCons (tgTup (tgCons (tgName j) (tgCons (tgName l) (tgCons (tgName q) tgNil)))) tgNil))) body (.tup [x, .tup [y, z, w]]) ρ S = body ((((ρ.set i (some x)).set j (some y)).set l (some z)).set q (some w)) S := rfl
@[simp] theorem asg_2 {i j : Nat} {x y : MV} {ρ : Ev} : (tgTup (tgCons (tgName i) (tgCons (tgName j) tgNil))).f (.tup [x, y]) ρ = some ((ρ.set i (some x)).set j (some y)) := rfl
@[simp] theorem asg_3 {i j l : Nat} {x y z : MV} {ρ : Ev} : (tgTup (tgCons (tgName i) (tgCons (tgName j) (tgCons (tgName l) tgNil)))).f (.tup [x, y, z]) ρ = some (((ρ.set i (some x)).set j (some y)).set l (some z)) := rfl
@[simp] theorem asg_4 {i j l q : Nat} {x y z w : MV} {ρ : Ev} : (tgTup (tgCons (tgName i) (tgCons (tgName j) (tgCons (tgName l) (tgCons (tgName q) tgNil))))).f (.tup [x, y, z, w]) ρ = some ((((ρ.set i (some x)).set j (some y)).set l (some z)).set q (some w)) := rfl
@[simp] theorem asg_12 {i j l : Nat} {x y z : MV} {ρ : Ev} : (tgTup (tgCons (tgName i) (tgCons (tgTup (tgCons (tgName j) (tgCons (tgName l) tgNil))) tgNil))).f (.tup [x, .tup [y, z]]) ρ = some (((ρ.set i (some x)).set j (some y)).set l (some z)) := rfl
@[simp] theorem asg_13 {i j l q : Nat} {x y z w : MV} {ρ : Ev} : (tgTup (tgCons (tgName i) (tgCons (tgTup (tgCons (tgName j) (tgCons (tgName l) (tgCons (tgName q) tgNil)))) tgNil))).f (.tup [x, .tup [y, z, w]]) ρ = some ((((ρ.set i (some x)).set j (some y)).set l (some z)).set q (some w)) := rfl
def turnE {α : Type} (g : Tg) (te : Ev → Sto → R α) (x : MV) (ρ : Ev) (S : Sto) : R α := match g.f x ρ with
  | some ρ1 => te ρ1 S
  | none => .stk
section
variable {α : Type} {te : Ev → Sto → R α} {ρ : Ev} {S : Sto} {x y z w : MV} {i j l q : Nat}
@[simp] theorem turnE_name : turnE (tgName i) te x ρ S = te (ρ.set i (some x)) S := rfl
@[simp] theorem turnE_2 : turnE (tgTup (tgCons (tgName i) (tgCons (tgName j) tgNil))) te (.tup [x, y]) ρ S = te ((ρ.set i (some x)).set j (some y)) S := rfl
@[simp] theorem turnE_3 : turnE (tgTup (tgCons (tgName i) (tgCons (tgName j) (tgCons (tgName l) tgNil)))) te (.tup [x, y, z]) ρ S = te (((ρ.set i (some x)).set j (some y)).set l (some z)) S := rfl
@[simp] theorem turnE_12 : turnE (tgTup (tgCons (tgName i) (tgCons (tgTup (tgCons (tgName j) (tgCons (tgName l) tgNil))) tgNil))) te (.tup [x, .tup [y, z]]) ρ S = te (((ρ.set i (some x)).set j (some y)).set l (some z)) S := rfl
@[simp] theorem turnE_13 : turnE (tgTup (tgCons (tgName i) (tgCons (tgTup (tgCons (tgName j) (tgCons (tgName l) (tgCons (tgName q) tgNil)))) tgNil))) te (.tup [x, .tup [y, z, w]]) ρ S = te ((((ρ.set i (some x)).set j (some y)).set l (some z)).set q (some w)) S := rfl
end
/-- over typed things -/
theorem lc_map {α : Type} {ok : Sto → Bool} {g : Tg} {te : ME} {ρ : Ev} {S : Sto} {items : List MV} (enc : α → MV) (f : α → MV) (xs : List α) (hi : items = xs.map enc) (hok : ok S = true) (h : ∀ x ∈ xs, turnE g te (enc x) ρ S = .ok (f x) S) : lcGo ok g mTrue te ρ items [] S = .ok (xs.map f) S := by
  subst hi
  refine lcGo_tm hok enc f xs fun x hx => ?_
  have := h x hx
  unfold turnE at this
  cases e : g.f (enc x) ρ with
  | none => rw [e] at this; cases this
  | some ρ1 => rw [e] at this; exact ⟨ρ1, rfl, this⟩
theorem lc_filter {α : Type} {ok : Sto → Bool} {g : Tg} {tt : MT} {te : ME} {ρ : Ev} {S : Sto} {items : List MV} (enc : α → MV) (p : α → Bool) (f : α → MV) (xs : List α) (hi : items = xs.map enc) (hok : ok S = true)
    (h : ∀ x ∈ xs, turnE g tt (enc x) ρ S = .ok (p x) S ∧ (p x = true → turnE g te (enc x) ρ S = .ok (f x) S)) : lcGo ok g tt te ρ items [] S = .ok ((xs.filter p).map f) S := by
  subst hi
  have := lcGo_ty (tt := tt) (te := te) (g := g) (ρ := ρ) hok enc p f xs [] fun x hx => ?_
  · simpa using this
  · have := h x hx
    unfold turnE at this
    cases e : g.f (enc x) ρ with
    | none => rw [e] at this; exact absurd this.1 (by simp)
    | some ρ1 => rw [e] at this; exact ⟨ρ1, rfl, this⟩
section
variable {a b c d : MV} {xs : List MV} {S : Sto}
@[simp] theorem ix_t0 : idxM (.tup (a :: xs)) (.int 0) S = .ok a S := by simpa using ix_tup (xs := a :: xs) (d := 0) rfl
@[simp] theorem ix_t1 : idxM (.tup (a :: b :: xs)) (.int 1) S = .ok b S := by simpa using ix_tup (xs := a :: b :: xs) (d := 1) rfl
@[simp] theorem ix_t2 : idxM (.tup (a :: b :: c :: xs)) (.int 2) S = .ok c S := by simpa using ix_tup (xs := a :: b :: c :: xs) (d := 2) rfl
@[simp] theorem ix_t3 : idxM (.tup (a :: b :: c :: d :: xs)) (.int 3) S = .ok d S := by simpa using ix_tup (xs := a :: b :: c :: d :: xs) (d := 3) rfl
@[simp] theorem ix_l0 : idxM (.lst (a :: xs)) (.int 0) S = .ok a S := by simpa using ix_lst (xs := a :: xs) (d := 0) rfl
@[simp] theorem ix_l1 : idxM (.lst (a :: b :: xs)) (.int 1) S = .ok b S := by simpa using ix_lst (xs := a :: b :: xs) (d := 1) rfl
@[simp] theorem ix_l2 : idxM (.lst (a :: b :: c :: xs)) (.int 2) S = .ok c S := by simpa using ix_lst (xs := a :: b :: c :: xs) (d := 2) rfl
@[simp] theorem ix_l3 : idxM (.lst (a :: b :: c :: d :: xs)) (.int 3) S = .ok d S := by simpa using ix_lst (xs := a :: b :: c :: d :: xs) (d := 3) rfl
end
section
variable {xs : List MV} {S : Sto} {i j : Int}
@[simp] theorem src_tup : srcOf (.tup xs) S = .ok (.seq (.tup xs) xs) S := rfl
@[simp] theorem src_lst : srcOf (.lst xs) S = .ok (.seq (.lst xs) xs) S := rfl
@[simp] theorem enm_tup : enmOf [.tup xs] S = .ok (.enm (.tup xs) xs) S := rfl
@[simp] theorem enm_lst : enmOf [.lst xs] S = .ok (.enm (.lst xs) xs) S := rfl
@[simp] theorem it_seq {d : MV} : (Src.seq d xs).items = xs := rfl
@[simp] theorem it_enm {d : MV} : (Src.enm d xs).items = enmI 0 xs := rfl
@[simp] theorem len_enmI : ∀ (k : Nat) (xs : List MV), (enmI k xs).length = xs.length
  | _, [] => rfl
  | k, _ :: xs => by rw [enmI, List.length_cons, len_enmI, List.length_cons]
@[simp] theorem it_ezp {d e : MV} {ys : List MV} : (Src.ezp d xs e ys).items = enmI 0 (zipI xs ys) := rfl
@[simp] theorem it_zp2 {d e : MV} {ys : List MV} : (Src.zp2 d xs e ys).items = zipI xs ys := rfl
@[simp] theorem ok_seqT : (Src.seq (.tup xs) xs).ok S = true := by simp [Src.ok, seqOf]
@[simp] theorem ok_seqL : (Src.seq (.lst xs) xs).ok S = true := by simp [Src.ok, seqOf, lstOf]
@[simp] theorem ok_enmT : (Src.enm (.tup xs) xs).ok S = true := by simp [Src.ok, seqOf]
@[simp] theorem ok_enmL : (Src.enm (.lst xs) xs).ok S = true := by simp [Src.ok, seqOf, lstOf]
@[simp] theorem ok_ezpT {ys : List MV} : (Src.ezp (.tup xs) xs (.tup ys) ys).ok S = true := by simp [Src.ok, seqOf]
@[simp] theorem ok_zp2T {ys : List MV} : (Src.zp2 (.tup xs) xs (.tup ys) ys).ok S = true := by simp [Src.ok, seqOf]
@[simp] theorem ok_rng {lo : Int} {n : Nat} : (Src.rng lo n).ok S = true := rfl
@[simp] theorem ez_tup {ys : List MV} : ezOf [.tup xs, .tup ys] S = .ok (.ezp (.tup xs) xs (.tup ys) ys) S := rfl
@[simp] theorem zp_tup {ys : List MV} : zp2Of [.tup xs, .tup ys] S = .ok (.zp2 (.tup xs) xs (.tup ys) ys) S := rfl
@[simp] theorem tup_lst : tupM [.lst xs] S = .ok (.tup xs) S := rfl
@[simp] theorem tup_tup : tupM [.tup xs] S = .ok (.tup xs) S := rfl
@[simp] theorem add_int : addM (.int i) (.int j) S = .ok (.int (i + j)) S := rfl
@[simp] theorem sub_int : subM (.int i) (.int j) S = .ok (.int (i - j)) S := rfl
@[simp] theorem lt_int : ltM (.int i) (.int j) S = .ok (.bl (decide (i < j))) S := rfl
@[simp] theorem le_int : leM (.int i) (.int j) S = .ok (.bl (decide (i ≤ j))) S := rfl
@[simp] theorem gt_int : gtM (.int i) (.int j) S = .ok (.bl (decide (j < i))) S := rfl
@[simp] theorem ge_int : geM (.int i) (.int j) S = .ok (.bl (decide (j ≤ i))) S := rfl
end
end Mi
set_option Elab.async false
set_option linter.all false
set_option maxRecDepth 100000
set_option maxHeartbeats 1000000
namespace Mi
open PySem PySem.Spec PyProof.Rows L2
section
variable {S : Sto} {o o' : MO} {d : MV} {xs : List MV}
@[simp] theorem set_last : (S ++ [o]).set S.length o' = S ++ [o'] := by simp
@[simp] theorem app_last (h : xs.length < sizeLine) : appM (.ref S.length) d (S ++ [.lst xs]) = .ok .non (S ++ [.lst (xs ++ [d])]) := by
  unfold appM
  simp [h]
@[simp] theorem isLst_last : isLst (S ++ [.lst xs]) (.ref S.length) = true := by simp [isLst, lstOf]
@[simp] theorem seq_last : seqOf (S ++ [.lst xs]) (.ref S.length) = some xs := by simp [seqOf, lstOf]
@[simp] theorem tup_last : tupM [.ref S.length] (S ++ [.lst xs]) = .ok (.tup xs) (S ++ [.lst xs]) := by simp [tupM, seqOf, lstOf]
@[simp] theorem w_app {a b : ME} {ρ : Ev} : mApp a b ρ S = (a ρ S).bind fun od S1 => if isLst S1 od then (b ρ S1).bind fun d S2 => appM od d S2 else .stk := rfl
end
/-- ended: nothing follows -/
def Ended (r : RS) (r' : R MV) : Prop := toR r = r' ∧ ∀ k, r.nxt k = r
def Gen {β : Type} (J : List Nat) (En : β → Ev) (St : β → Sto) (Inv : β → Prop) (r : RS) : β ⊕ R MV → Prop
  | .inl s => ∃ ρ, r = .nx ρ (St s) ∧ SameE J 0 (En s) ρ ∧ Inv s
  | .inr r' => Ended r r'
@[simp] theorem gen_l {β : Type} {J : List Nat} {En : β → Ev} {St : β → Sto} {Inv : β → Prop} {ρ : Ev} {S : Sto} {s : β} : Gen J En St Inv (.nx ρ S) (.inl s) ↔ S = St s ∧ SameE J 0 (En s) ρ ∧ Inv s := by
  constructor
  · rintro ⟨ρ', e, h⟩; cases e; exact ⟨rfl, h⟩
  · rintro ⟨rfl, h⟩; exact ⟨_, rfl, h⟩
@[simp] theorem ended_rt {d : MV} {S : Sto} {r : R MV} : Ended (.rt d S) r ↔ .ok d S = r := ⟨fun h => h.1, fun h => ⟨h, fun _ => rfl⟩⟩
@[simp] theorem ended_exc {c : Str} {d : MV} {S : Sto} {ρ : Ev} {r : R MV} : Ended (.exc c d ρ S) r ↔ .exc c d S = r := ⟨fun h => h.1, fun h => ⟨h, fun _ => rfl⟩⟩
@[simp] theorem gen_r {β : Type} {J : List Nat} {En : β → Ev} {St : β → Sto} {Inv : β → Prop} {r : RS} {r' : R MV} : Gen J En St Inv r (.inr r') ↔ Ended r r' := Iff.rfl
theorem forGo_cons {ok : Sto → Bool} {g : Tg} {body : MS} {x : MV} {xs : List MV} {ρ : Ev} {S : Sto} (h : ok S = true) : forGo ok g body (x :: xs) ρ S = (turn g body x ρ S).nxt (forGo ok g body xs) := by
  rw [forGo, if_pos h]
  unfold turn
  cases g.f x ρ with
  | none => rfl
  | some ρ1 =>
    dsimp only
    cases body ρ1 S <;> rfl
/-- a loop that only goes on, what stands told by what is done -/
theorem forGo_pre {α : Type} {ok : Sto → Bool} {g : Tg} {body : MS} (J : List Nat) (enc : α → MV) (En : List α → Ev) (St : List α → Sto) (xs : List α) (hok : ∀ done rest, xs = done ++ rest → ok (St done) = true)
    (h : ∀ done x rest, xs = done ++ x :: rest → ∀ f, Gen J En St (fun _ => True) (turn g body (enc x) (fillF J f 0 (En done)) (St done)) (.inl (done ++ [x]))) :
    ∀ (rest done : List α), xs = done ++ rest → ∀ f, ∃ f', forGo ok g body (rest.map enc) (fillF J f 0 (En done)) (St done) = .nx (fillF J f' 0 (En xs)) (St xs)
  | [], done, e, f => by
    have e' : xs = done := by simpa using e
    subst e'
    exact ⟨f, by simp [forGo, hok xs [] (by simp)]⟩
  | x :: rest, done, e, f => by
    obtain ⟨ρ, e1, sm, _⟩ := h done x rest e f
    obtain ⟨f2, rfl⟩ := sm.fill
    rw [List.map_cons, forGo_cons (hok done _ e), e1]
    exact forGo_pre J enc En St xs hok h rest (done ++ [x]) (by simp [e]) f2
theorem for_pre' {α : Type} {ok : Sto → Bool} {g : Tg} {body : MS} {ρ0 : Ev} {S : Sto} {items : List MV} (J : List Nat) (enc : α → MV) (En : List α → Ev) (St : List α → Sto) (xs : List α)
    (hi : items = xs.map enc) (h0 : ρ0 = En []) (hS : S = St []) (hok : ∀ done rest, xs = done ++ rest → ok (St done) = true)
    (h : ∀ done x rest, xs = done ++ x :: rest → ∀ f, Gen J En St (fun _ => True) (turn g body (enc x) (fillF J f 0 (En done)) (St done)) (.inl (done ++ [x]))) :
    ∃ f, forGo ok g body items ρ0 S = .nx (fillF J f 0 (En xs)) (St xs) := by
  subst hi; subst h0; subst hS
  obtain ⟨f, e0⟩ := (SameE.refl' (J := J) 0 (En [])).fill
  have := forGo_pre (g := g) (body := body) J enc En St xs hok h xs [] rfl f
  rw [← e0] at this
  exact this
theorem for_pre {α : Type} {ok : Sto → Bool} {g : Tg} {body : MS} {ρ0 : Ev} {S : Sto} {k : Ev → Sto → RS} {res : R MV} {items : List MV} (J : List Nat) (enc : α → MV) (En : List α → Ev) (St : List α → Sto) (xs : List α)
    (hi : items = xs.map enc) (h0 : ρ0 = En []) (hS : S = St []) (hok : ∀ done rest, xs = done ++ rest → ok (St done) = true)
    (h : ∀ done x rest, xs = done ++ x :: rest → ∀ f, Gen J En St (fun _ => True) (turn g body (enc x) (fillF J f 0 (En done)) (St done)) (.inl (done ++ [x])))
    (h2 : ∀ f, toR (k (fillF J f 0 (En xs)) (St xs)) = res) : toR ((forGo ok g body items ρ0 S).nxt k) = res := by
  obtain ⟨f, e⟩ := for_pre' J enc En St xs hi h0 hS hok h
  rw [e]
  exact h2 f
end Mi
set_option Elab.async false
set_option linter.all false
set_option maxRecDepth 100000
set_option maxHeartbeats 1000000
namespace Mi
open PySem PySem.Spec PyProof.Rows L2
theorem cut_to {xs : List MV} {k : Nat} (h : k ≤ xs.length) : cutM xs none (some (k : Int)) = xs.take k := by
  unfold cutM
  rw [HT.sIx_nat, HT.sIx_none, Nat.min_eq_left h]
  simp
theorem cut_from {xs : List MV} {k : Nat} (h : k ≤ xs.length) : cutM xs (some (k : Int)) none = xs.drop k := by
  unfold cutM
  rw [HT.sIx_nat, HT.sIx_none, Nat.min_eq_left h]
  exact List.take_of_length_le (by rw [List.length_drop]; exact Nat.le_refl _)
theorem slc_to {xs : List MV} {k : Nat} {S : Sto} (h : k ≤ xs.length) : slcM (.tup xs) none (some (k : Int)) S = .ok (.tup (xs.take k)) S := by
  rw [← cut_to h]; rfl
theorem slc_from {xs : List MV} {k : Nat} {S : Sto} (h : k ≤ xs.length) : slcM (.tup xs) (some (k : Int)) none S = .ok (.tup (xs.drop k)) S := by
  rw [← cut_from h]; rfl
theorem slc_from1 {xs : List MV} {k : Nat} {S : Sto} (h : k + 1 ≤ xs.length) : slcM (.tup xs) (some ((k : Int) + 1)) none S = .ok (.tup (xs.drop (k + 1))) S := slc_from (k := k + 1) h
theorem add_tup {xs ys : List MV} {S : Sto} (h : xs.length + ys.length ≤ sizeLine) : addM (.tup xs) (.tup ys) S = .ok (.tup (xs ++ ys)) S := by simp only [addM]; rw [if_pos h]
theorem set_mid {xs : List MV} {k : Nat} {x : MV} (h : k < xs.length) : xs.take k ++ [x] ++ xs.drop (k + 1) = xs.set k x := by
  rw [List.set_eq_take_append_cons_drop, if_pos h]
  simp
theorem set_tup4 {xs : List MV} {k : Nat} {x : MV} (h : k < xs.length) (hl : xs.length ≤ 1000) :
    (∀ S, slcM (.tup xs) none (some (k : Int)) S = .ok (.tup (xs.take k)) S) ∧ (∀ S, addM (.tup (xs.take k)) (.tup [x]) S = .ok (.tup (xs.take k ++ [x])) S) ∧ (∀ S, slcM (.tup xs) (some ((k : Int) + 1)) none S = .ok (.tup (xs.drop (k + 1))) S) ∧
    ∀ S, addM (.tup (xs.take k ++ [x])) (.tup (xs.drop (k + 1))) S = .ok (.tup (xs.set k x)) S := by
  have hz := sizeLine_eq
  refine ⟨fun S => slc_to (by omega), fun S => add_tup (by simp; omega), fun S => slc_from1 (by omega), fun S => ?_⟩
  rw [add_tup (by simp; omega), set_mid h]
mutual
theorem frz_nr (b : Nat) (S : Sto) : ∀ (n : Nat) (x : MV), refsB b x = true → refsB 0 x = true → frz b S n x = some x
  | 0, x, h, _ => by simp [frz, h]
  | n + 1, .non, h, _ => rfl
  | n + 1, .bl _, h, _ => rfl
  | n + 1, .int _, h, _ => rfl
  | n + 1, .str _, h, _ => rfl
  | n + 1, .tup xs, h, h0 => by rw [frz, frz_nrs b S n xs (by simpa [refsB] using h) (by simpa [refsB] using h0)]; rfl
  | n + 1, .lst xs, h, h0 => by rw [frz, frz_nrs b S n xs (by simpa [refsB] using h) (by simpa [refsB] using h0)]; rfl
  | n + 1, .dct ks vs, h, h0 => by rw [frz, frz_nrs b S n vs (by simpa [refsB] using h) (by simpa [refsB] using h0)]; rfl
  | n + 1, .dcT ks vs, h, h0 => by rw [frz, if_pos h]; all_goals (intros; contradiction)
  | n + 1, .obj c fs vs, h, h0 => by rw [frz, frz_nrs b S n vs (by simpa [refsB] using h) (by simpa [refsB] using h0)]; rfl
  | n + 1, .ref k, h, h0 => by simp [refsB] at h0
  | n + 1, .kls xs, h, h0 => by rw [frz, if_pos h]; all_goals (intros; contradiction)
theorem frz_nrs (b : Nat) (S : Sto) : ∀ (n : Nat) (xs : List MV), refsBs b xs = true → refsBs 0 xs = true → xs.mapM (frz b S n) = some xs
  | n, [], _, _ => rfl
  | n, x :: xs, h, h0 => by
    rw [refsBs, Bool.and_eq_true] at h h0
    rw [List.mapM_cons, frz_nr b S n x h.1 h0.1, frz_nrs b S n xs h.2 h0.2]; rfl
end
mutual
theorem refs_up (b : Nat) : ∀ (x : MV), refsB 0 x = true → refsB b x = true
  | .non, _ => rfl
  | .bl _, _ => rfl
  | .int _, _ => rfl
  | .str _, _ => rfl
  | .tup xs, h => by rw [refsB] at h ⊢; exact refs_ups b xs h
  | .lst xs, h => by rw [refsB] at h ⊢; exact refs_ups b xs h
  | .dct _ xs, h => by rw [refsB] at h ⊢; exact refs_ups b xs h
  | .dcT ks xs, h => by
    rw [refsB, Bool.and_eq_true] at h ⊢; exact ⟨refs_ups b ks h.1, refs_ups b xs h.2⟩
  | .obj _ _ xs, h => by rw [refsB] at h ⊢; exact refs_ups b xs h
  | .ref n, h => by simp [refsB] at h
  | .kls xs, h => by rw [refsB] at h ⊢; exact refs_ups b xs h
theorem refs_ups (b : Nat) : ∀ (xs : List MV), refsBs 0 xs = true → refsBs b xs = true
  | [], _ => rfl
  | x :: xs, h => by
    rw [refsBs, Bool.and_eq_true] at h ⊢; exact ⟨refs_up b x h.1, refs_ups b xs h.2⟩
end
theorem frz_0 {b : Nat} {S : Sto} {n : Nat} {x : MV} (h : refsB 0 x = true) : frz b S n x = some x := frz_nr b S n x (refs_up b x h) h
theorem refs_map {α : Type} {b : Nat} {f : α → MV} {xs : List α} (h : ∀ x ∈ xs, refsB b (f x) = true) : refsBs b (xs.map f) = true := by
  induction xs with
  | nil => rfl
  | cons x xs ih => rw [List.map_cons, refsBs, h x List.mem_cons_self, ih fun y hy => h y (List.mem_cons_of_mem _ hy)]; rfl
/-- a frozen def that tells plain data -/
theorem frzF_0 {m : MF} {ds : List MV} {S e : Sto} {d : MV} (h : m ds S = .ok d (S ++ e)) (h1 : refsB 0 d = true) : frzF m ds S = .ok d S := frzF_ok h (frz_0 h1) (by simp)
theorem strOk_lit (x : String) : PyData.strOk (Str.ofString x) = true := by
  rw [Str.ofString_eq_toList]
  unfold PyData.strOk
  simp only [List.all_toArray, List.all_map, List.all_eq_true, Function.comp_apply, decide_eq_true_eq]
  intro c _
  have := c.valid
  have h : c.toNat.isValidChar := this
  rcases h with h | h
  · exact Nat.lt_trans h (by decide)
  · exact h.2
@[simp] theorem sh_lit (x : String) : sh (.str (Str.ofString x)) = true := strOk_lit x
end Mi
set_option Elab.async false
set_option linter.all false
set_option maxRecDepth 100000
set_option maxHeartbeats 1000000
namespace Mi
open PySem PySem.Spec PyProof.Rows L2
section
variable {xs : List MV} {S : Sto} {i j : Int} {b : Bool}
@[simp] theorem len_tup : lenM [.tup xs] S = .ok (.int (xs.length : Nat)) S := rfl
@[simp] theorem len_lst : lenM [.lst xs] S = .ok (.int (xs.length : Nat)) S := rfl
@[simp] theorem len_dct {ks : List Key} : lenM [.dct ks xs] S = .ok (.int (ks.length : Nat)) S := rfl
theorem len_seq {v : MV} (h : seqOf S v = some xs) : lenM [v] S = .ok (.int (xs.length : Nat)) S := by
  unfold lenM; simp only [h]
@[simp] theorem any_ty {α : Type} {p : α → Bool} {xs : List α} : anyM [.lst (xs.map fun x => .bl (p x))] S = .ok (.bl (xs.any p)) S := by
  have e := anyM_bl (xs := xs.map p) (S := S)
  rw [List.map_map] at e
  rw [show (xs.map fun x => MV.bl (p x)) = xs.map (MV.bl ∘ p) from rfl, e, List.any_map]; rfl
@[simp] theorem all_ty {α : Type} {p : α → Bool} {xs : List α} : allM [.lst (xs.map fun x => .bl (p x))] S = .ok (.bl (xs.all p)) S := by
  have e := allM_bl (xs := xs.map p) (S := S)
  rw [List.map_map] at e
  rw [show (xs.map fun x => MV.bl (p x)) = xs.map (MV.bl ∘ p) from rfl, e, List.all_map]; rfl
theorem allIn_ty : ∀ ns : List Int, allIn (ns.map MV.int) = some ns
  | [] => rfl
  | n :: ns => by simp [allIn, allIn_ty ns]
@[simp] theorem sum_ty {α : Type} {f : α → Int} {xs : List α} : sumM [.lst (xs.map fun x => .int (f x))] S = .ok (.int (xs.map f).sum) S := by
  have := allIn_ty (xs.map f)
  rw [List.map_map] at this
  simp only [sumM, lstOf]
  rw [show (xs.map fun x => MV.int (f x)) = xs.map (MV.int ∘ f) from rfl, this]
@[simp] theorem int_int : intM [.int i] S = .ok (.int i) S := rfl
@[simp] theorem int_bl : intM [.bl b] S = .ok (.int (if b then 1 else 0)) S := rfl
@[simp] theorem lstT_tup : lstM true [.tup xs] S = .ok (.lst xs) S := rfl
@[simp] theorem lstT_lst : lstM true [.lst xs] S = .ok (.lst xs) S := rfl
@[simp] theorem lstF_tup : lstM false [.tup xs] S = .ok (.ref S.length) (S ++ [.lst xs]) := rfl
@[simp] theorem lstF_lst : lstM false [.lst xs] S = .ok (.ref S.length) (S ++ [.lst xs]) := rfl
@[simp] theorem isi_int_int : isiM "int" [.int i] S = .ok (.bl true) S := rfl
@[simp] theorem isi_int_bl : isiM "int" [.bl b] S = .ok (.bl true) S := rfl
@[simp] theorem isi_int_non : isiM "int" [.non] S = .ok (.bl false) S := rfl
@[simp] theorem isi_int_str {x : Str} : isiM "int" [.str x] S = .ok (.bl false) S := rfl
@[simp] theorem isi_int_tup : isiM "int" [.tup xs] S = .ok (.bl false) S := rfl
@[simp] theorem isi_int_lst : isiM "int" [.lst xs] S = .ok (.bl false) S := rfl
@[simp] theorem isi_bl_int : isiM "bool" [.int i] S = .ok (.bl false) S := rfl
@[simp] theorem isi_bl_bl : isiM "bool" [.bl b] S = .ok (.bl true) S := rfl
@[simp] theorem isi_bl_str {x : Str} : isiM "bool" [.str x] S = .ok (.bl false) S := rfl
@[simp] theorem isi_bl_tup : isiM "bool" [.tup xs] S = .ok (.bl false) S := rfl
@[simp] theorem isi_bl_lst : isiM "bool" [.lst xs] S = .ok (.bl false) S := rfl
@[simp] theorem isi_str_str {x : Str} : isiM "str" [.str x] S = .ok (.bl true) S := rfl
@[simp] theorem isi_str_tup : isiM "str" [.tup xs] S = .ok (.bl false) S := rfl
@[simp] theorem isi_str_lst : isiM "str" [.lst xs] S = .ok (.bl false) S := rfl
@[simp] theorem isi_str_int : isiM "str" [.int i] S = .ok (.bl false) S := rfl
@[simp] theorem isi_tup_tup : isiM "tuple" [.tup xs] S = .ok (.bl true) S := rfl
@[simp] theorem isi_tup_lst : isiM "tuple" [.lst xs] S = .ok (.bl false) S := rfl
@[simp] theorem isi_tup_str {x : Str} : isiM "tuple" [.str x] S = .ok (.bl false) S := rfl
@[simp] theorem isi_tup_int : isiM "tuple" [.int i] S = .ok (.bl false) S := rfl
@[simp] theorem isi_lst_lst : isiM "list" [.lst xs] S = .ok (.bl true) S := rfl
@[simp] theorem isi_lst_tup : isiM "list" [.tup xs] S = .ok (.bl false) S := rfl
@[simp] theorem tru_bl : truW (.bl b) S = .ok b S := rfl
@[simp] theorem tru_tup : truW (.tup xs) S = .ok (!xs.isEmpty) S := rfl
@[simp] theorem tru_lst : truW (.lst xs) S = .ok (!xs.isEmpty) S := rfl
end
@[simp] theorem w_lc2 {fr : Bool} {vs vs1 : List Nat} {mi mi1 : Ev → Sto → R Src} {g g1 : Tg} {tt tt1 : MT} {te : ME} {ρ : Ev} {S : Sto} : mLc2 fr vs vs1 mi g tt mi1 g1 tt1 te ρ S = (mi ρ S).bind fun src S1 =>
  (lc2Go (fun S => src.ok S) g tt mi1 vs1 g1 tt1 te (wipeE ρ vs) src.items [] S1).bind (mkL fr) := rfl
theorem lc2_go {α β : Type} {ok : Sto → Bool} {g g1 : Tg} {mi1 : Ev → Sto → R Src} {vs1 : List Nat} {te : ME} {ρ : Ev} {S : Sto} (enc : α → MV) (inner : α → List β) (enc1 : β → MV) (f : α → β → MV) (hok : ok S = true) :
    ∀ (xs : List α) (acc : List MV), acc.length + (xs.flatMap inner).length ≤ sizeLine →
      (∀ x ∈ xs, ∃ ρ1 src, g.f (enc x) ρ = some ρ1 ∧ mi1 ρ1 S = .ok src S ∧ src.ok S = true ∧ src.items = (inner x).map enc1 ∧ ∀ y ∈ inner x, turnE g1 te (enc1 y) (wipeE ρ1 vs1) S = .ok (f x y) S) →
      lc2Go ok g mTrue mi1 vs1 g1 mTrue te ρ (xs.map enc) acc S = .ok (acc ++ xs.flatMap fun x => (inner x).map (f x)) S
  | [], acc, _, _ => by simp [lc2Go, hok]
  | x :: xs, acc, hl, h => by
    obtain ⟨ρ1, src, e1, e2, e3, e4, e5⟩ := h x List.mem_cons_self
    rw [List.map_cons, lc2Go, if_pos hok, e1]
    rw [List.flatMap_cons, List.length_append] at hl
    simp only [w_true, R.calm_ok, R.bind_ok, if_true, e2]
    rw [if_pos (by rw [e4, List.length_map]; omega)]
    have : lcGo (fun S => src.ok S) g1 mTrue te (wipeE ρ1 vs1) src.items acc S = .ok (acc ++ (inner x).map (f x)) S := by
      rw [e4]
      have := lcGo_ty (tt := mTrue) (te := te) (g := g1) (ρ := wipeE ρ1 vs1) (ok := fun S => src.ok S) (S := S) e3 enc1 (fun _ => true) (f x) (inner x) acc fun y hy => ?_
      · rw [this, List.filter_eq_self.mpr (fun _ _ => rfl)]
      · have h := e5 y hy
        unfold turnE at h
        cases e : g1.f (enc1 y) (wipeE ρ1 vs1) with
        | none => simp [e] at h
        | some ρ2 => rw [e] at h; exact ⟨ρ2, rfl, rfl, fun _ => h⟩
    rw [this, R.bind_ok, lc2_go enc inner enc1 f hok xs _ (by rw [List.length_append, List.length_map]; omega) fun y hy => h y (List.mem_cons_of_mem _ hy)]
    simp
theorem lc2_map {α β : Type} {ok : Sto → Bool} {g g1 : Tg} {mi1 : Ev → Sto → R Src} {vs1 : List Nat} {te : ME} {ρ : Ev} {S : Sto} {items : List MV} (enc : α → MV) (inner : α → List β) (enc1 : β → MV) (f : α → β → MV) (xs : List α) (hi : items = xs.map enc) (hok : ok S = true)
    (hl : (xs.flatMap inner).length ≤ sizeLine) (h : ∀ x ∈ xs, ∃ ρ1 src, g.f (enc x) ρ = some ρ1 ∧ mi1 ρ1 S = .ok src S ∧ src.ok S = true ∧ src.items = (inner x).map enc1 ∧ ∀ y ∈ inner x, turnE g1 te (enc1 y) (wipeE ρ1 vs1) S = .ok (f x y) S) :
    lc2Go ok g mTrue mi1 vs1 g1 mTrue te ρ items [] S = .ok (xs.flatMap fun x => (inner x).map (f x)) S := by
  subst hi
  have := lc2_go (ok := ok) (g := g) (g1 := g1) (mi1 := mi1) (vs1 := vs1) (te := te) (ρ := ρ) enc inner enc1 f hok xs [] (by simpa using hl) h
  simpa using this
end Mi
set_option Elab.async false
set_option linter.all false
set_option maxRecDepth 10000
set_option maxHeartbeats 400000
namespace Lw
open PySem PySem.Spec PyProof.Rows L2 Mi
structure Day where
  a : Option Int
  b : Option Int
  s : Bool
  deriving DecidableEq
structure Row where
  who : Int
  base : Int
  days : List Day
  deriving DecidableEq
def Day.half (d : Day) : Bool → Option Int
  | false => d.a
  | true => d.b
def pDay (d : Day) : MV := .tup [hv d.a, hv d.b, .bl d.s]
def pRow (r : Row) : MV := .tup [.int r.who, .int r.base, .tup (r.days.map pDay)]
def pSt (rs : List Row) : MV := .tup (rs.map pRow)
def lDay (d : Day) : MV := .lst [hv d.a, hv d.b, .bl d.s]
def lRow (r : Row) : MV := .dct [.inr "who", .inr "base", .inr "days"] [.int r.who, .int r.base, .lst (r.days.map lDay)]
def dayAt (r : Row) (d : Nat) : Day := r.days.getD d ⟨none, none, false⟩
def rowAt (rs : List Row) (k : Nat) : Row := rs.getD k ⟨0, 0, []⟩
/-- no other series has the half at the hour of the day -/
def takes (rs : List Row) (k d : Nat) (h : Option Int) (half : Bool) (i : Nat) (r : Row) : Bool :=
  !decide (i = k) && ((!half || decide (r.who = (rowAt rs k).who)) && decide ((dayAt r d).half half = h))
def free (rs : List Row) (k d : Nat) (h : Option Int) (half : Bool) : Bool := !rs.zipIdx.any fun x => takes rs k d h half x.2 x.1
/-- all rows have as many days -/
def Wide (D : Nat) (rs : List Row) : Prop := ∀ r ∈ rs, r.days.length = D
theorem day_at {D d : Nat} {r : Row} {f : Day → MV} (hl : r.days.length = D) (hd : d < D) : (r.days.map f)[d]? = some (f (dayAt r d)) := by
  rw [List.getElem?_map]
  unfold dayAt
  rw [List.getElem?_eq_getElem (by omega), List.getD_eq_getElem?_getD, List.getElem?_eq_getElem (by omega)]
  rfl
theorem row_at {rs : List Row} {k : Nat} (hk : k < rs.length) : rs[k]? = some (rowAt rs k) := by
  unfold rowAt
  rw [List.getD_eq_getElem?_getD, List.getElem?_eq_getElem hk]; rfl
theorem Wide.at {D : Nat} {rs : List Row} (W : Wide D rs) {k : Nat} (hk : k < rs.length) : (rowAt rs k).days.length = D := W _ (List.mem_of_getElem? (row_at hk))
theorem Wide.set {D : Nat} {rs : List Row} (W : Wide D rs) {k : Nat} {r : Row} (h : r.days.length = D) : Wide D (rs.set k r) := fun x hx => by
  rcases List.mem_or_eq_of_mem_set hx with h1 | h1
  · exact W x h1
  · rw [h1]; exact h
@[simp] theorem row0 {r : Row} {S : Sto} : idxM (pRow r) (.int 0) S = .ok (.int r.who) S := rfl
@[simp] theorem row1 {r : Row} {S : Sto} : idxM (pRow r) (.int 1) S = .ok (.int r.base) S := rfl
@[simp] theorem row2 {r : Row} {S : Sto} : idxM (pRow r) (.int 2) S = .ok (.tup (r.days.map pDay)) S := rfl
@[simp] theorem day0 {d : Day} {S : Sto} : idxM (pDay d) (.int 0) S = .ok (hv d.a) S := rfl
@[simp] theorem day1 {d : Day} {S : Sto} : idxM (pDay d) (.int 1) S = .ok (hv d.b) S := rfl
@[simp] theorem day2 {d : Day} {S : Sto} : idxM (pDay d) (.int 2) S = .ok (.bl d.s) S := rfl
@[simp] theorem lrow0 {r : Row} {S : Sto} : idxM (lRow r) (.str "who") S = .ok (.int r.who) S := rfl
@[simp] theorem lrow1 {r : Row} {S : Sto} : idxM (lRow r) (.str "base") S = .ok (.int r.base) S := rfl
@[simp] theorem lrow2 {r : Row} {S : Sto} : idxM (lRow r) (.str "days") S = .ok (.lst (r.days.map lDay)) S := rfl
@[simp] theorem lday0 {d : Day} {S : Sto} : idxM (lDay d) (.int 0) S = .ok (hv d.a) S := rfl
@[simp] theorem lday1 {d : Day} {S : Sto} : idxM (lDay d) (.int 1) S = .ok (hv d.b) S := rfl
@[simp] theorem lday2 {d : Day} {S : Sto} : idxM (lDay d) (.int 2) S = .ok (.bl d.s) S := rfl
theorem line_k {n : Nat} (h : n ≤ 1000) : n ≤ sizeLine := by rw [sizeLine_eq]; omega
def gap (rs : List Row) (k : Nat) (h : Int) : Bool := !(rowAt rs k).days.zipIdx.any fun x => !decide (x.1.a = none) && (!free rs k x.2 (some h) false || !free rs k x.2 (some h) true)
abbrev Hrs := List (Option Int)
def hrs (r : Row) : Hrs := r.days.map fun d => d.b
def pHrs (h : Hrs) : MV := .tup (h.map hv)
def pRule (c s h t : Str) : MV := .obj "Rule" ["checking", "singles", "halves", "telling"] [.str c, .str s, .str h, .str t]
@[simp] theorem fld_c {c s h t : Str} {S : Sto} : fldM "Rule" "checking" (pRule c s h t) S = .ok (.str c) S := rfl
@[simp] theorem fld_s {c s h t : Str} {S : Sto} : fldM "Rule" "singles" (pRule c s h t) S = .ok (.str s) S := rfl
@[simp] theorem fld_h {c s h t : Str} {S : Sto} : fldM "Rule" "halves" (pRule c s h t) S = .ok (.str h) S := rfl
@[simp] theorem fld_t {c s h t : Str} {S : Sto} : fldM "Rule" "telling" (pRule c s h t) S = .ok (.str t) S := rfl
def rday (s : Str) (hours base : Int) (d : Day) (h : Int) : Day := match d.a with
  | none => d
  | some a => if d.s = true ∧ s = "keep" then d else if d.s = true ∧ s = "move" then ⟨some ((a + h - base) % hours), d.b, true⟩ else ⟨some h, d.b, false⟩
def rdays (s : Str) (hours : Int) (r : Row) (h : Int) : List Day := r.days.map fun d => rday s hours r.base d h
def pdays (r : Row) : List Day := r.days.map fun d => ⟨d.a, d.a, d.s⟩
def clash (rs : List Row) (k : Nat) (old new : List Day) (half : Bool) : Bool := (old.zip new).zipIdx.any fun x => !decide (x.1.1.half half = x.1.2.half half) && !free rs k x.2 (x.1.2.half half) half
abbrev OSt := Option (List Row)
def roomSet (c s : Str) (hours : Int) (rs : List Row) (k : Nat) (h : Int) : OSt :=
  if c ≠ "none" ∧ clash rs k (rowAt rs k).days (rdays s hours (rowAt rs k) h) false = true then none else some (rs.set k ⟨(rowAt rs k).who, h, rdays s hours (rowAt rs k) h⟩)
def personSet (c : Str) (rs : List Row) (k : Nat) : OSt :=
  if c = "both" ∧ clash rs k (rowAt rs k).days (pdays (rowAt rs k)) true = true then none else some (rs.set k ⟨(rowAt rs k).who, (rowAt rs k).base, pdays (rowAt rs k)⟩)
def backDay (now old : Day) : Day := if now.a = none then now else ⟨old.a, now.b, old.s⟩
def backRow (r o : Row) : Row := ⟨r.who, o.base, List.zipWith backDay r.days o.days⟩
def takenBack (rs : List Row) (k : Nat) (o : Row) : List Row := rs.set k (backRow (rowAt rs k) o)
def oneSet (c : Str) (rs : List Row) (k d : Nat) (h : Int) : OSt :=
  if (dayAt (rowAt rs k) d).a = none ∨ (c ≠ "none" ∧ free rs k d (some h) false = false) ∨ (c = "both" ∧ free rs k d (some h) true = false) then none
  else some (rs.set k ⟨(rowAt rs k).who, (rowAt rs k).base, (rowAt rs k).days.set d ⟨some h, some h, true⟩⟩)
def offSet (rs : List Row) (k d : Nat) : OSt :=
  if (dayAt (rowAt rs k) d).a = none then none else some (rs.set k ⟨(rowAt rs k).who, (rowAt rs k).base, (rowAt rs k).days.set d ⟨none, none, false⟩⟩)
inductive Step where
  | find (h : Int) | room (h : Int) | person | one (d : Nat) (h : Int) | off (d : Nat) | tell
  deriving DecidableEq
def pStep : Step → MV
  | .find h => .tup [.str "find", .int h]
  | .room h => .tup [.str "room", .int h]
  | .person => .tup [.str "person"]
  | .one d h => .tup [.str "one", .int (d : Nat), .int h]
  | .off d => .tup [.str "off", .int (d : Nat)]
  | .tell => .tup [.str "tell"]
def Step.word : Step → Str
  | .find _ => "find"
  | .room _ => "room"
  | .person => "person"
  | .one _ _ => "one"
  | .off _ => "off"
  | .tell => "tell"
@[simp] theorem step_w {s : Step} {S : Sto} : idxM (pStep s) (.int 0) S = .ok (.str s.word) S := by cases s <;> rfl
/-- what a hand remembers -/
structure Mem where
  found : Option Bool
  seen : Option Hrs
  old : Option Row
  deriving DecidableEq
def oB : Option Bool → MV
  | none => .non
  | some b => .bl b
def oH : Option Hrs → MV
  | none => .non
  | some h => pHrs h
def oR : Option Row → MV
  | none => .non
  | some r => pRow r
def olR : Option Row → MV
  | none => .non
  | some r => lRow r
def oSt : OSt → MV
  | none => .non
  | some rs => pSt rs
def pMem (m : Mem) : MV := .tup [oB m.found, oH m.seen, oR m.old]
inductive Told where
  | b (b : Bool) | hrs (h : Hrs) | done | refused
  deriving DecidableEq
def pTold : Told → MV
  | .b b => .bl b
  | .hrs h => pHrs h
  | .done => .str "done"
  | .refused => .str "refused"
/-- a rule's parts -/
structure Par where
  c : Str
  s : Str
  h : Str
  t : Str
  deriving DecidableEq
def pPar (p : Par) : MV := pRule p.c p.s p.h p.t
def lPar (p : Par) : MV := .lst [.str p.c, .str p.s, .str p.h, .str p.t]
structure POk (p : Par) : Prop where
  c : p.c = "none" ∨ p.c = "room" ∨ p.c = "both"
  s : p.s = "keep" ∨ p.s = "move" ∨ p.s = "reset"
  h : p.h = "left" ∨ p.h = "undone"
  t : p.t = "now" ∨ p.t = "seen"
def fin (o : OSt) (m m' : Mem) (rs : List Row) : Told × Mem × List Row := match o with
  | none => (.refused, m, rs)
  | some rs' => (.done, m', rs')
/-- a step: what it tells, what is remembered, the standing -/
def stepT (p : Par) (H : Int) (rs : List Row) (k : Nat) (m : Mem) : Step → Told × Mem × List Row
  | .find h => (.b (gap rs k h), ⟨some (gap rs k h), some (hrs (rowAt rs k)), m.old⟩, rs)
  | .tell => (.hrs (if p.t = "seen" then m.seen.getD (hrs (rowAt rs k)) else hrs (rowAt rs k)), ⟨m.found, some (if p.t = "seen" then m.seen.getD (hrs (rowAt rs k)) else hrs (rowAt rs k)), m.old⟩, rs)
  | .room h => fin (if m.found = some false then none else roomSet p.c p.s H rs k h) m ⟨m.found, m.seen, some (rowAt rs k)⟩ rs
  | .person => match personSet p.c rs k with
    | some rs' => (.done, m, rs')
    | none => if p.h = "undone" then (match m.old with
      | some o => (.refused, ⟨m.found, m.seen, none⟩, takenBack rs k o)
      | none => (.refused, m, rs)) else (.refused, m, rs)
  | .one d h => fin (oneSet p.c rs k d h) m m rs
  | .off d => fin (offSet rs k d) m m rs
def meets (rs : List Row) (k : Nat) (half : Bool) : Bool := (rowAt rs k).days.zipIdx.any fun x => !decide (x.1.half half = none) && !free rs k x.2 (x.1.half half) half
def lost (before after : List Row) (k : Nat) : Bool := ((rowAt before k).days.zip (rowAt after k).days).any fun x => x.1.s && !x.2.s
def stepFaults (before after : List Row) (k : Nat) (s : Step) (t : Told) : List Str :=
  (if t = .done ∧ (s.word = "room" ∨ s.word = "one") ∧ meets after k false = true then [("room" : Str)] else []) ++
  (if t = .done ∧ (s.word = "person" ∨ s.word = "one") ∧ meets after k true = true then [("person" : Str)] else []) ++
  (if (s.word = "room" ∨ s.word = "person") ∧ lost before after k = true then [("lost" : Str)] else []) ++
  (if s.word = "tell" ∧ t ≠ .hrs (hrs (rowAt after k)) then [("elder" : Str)] else [])
structure World where
  D : Nat
  H : Nat
  ser : List (Int × Int)
  hands : List (Nat × List Step)
  deriving DecidableEq
def pHand (h : Nat × List Step) : MV := .tup [.int (h.1 : Nat), .tup (h.2.map pStep)]
def pSer (s : Int × Int) : MV := .tup [.int s.1, .int s.2]
def pWorld (W : World) : MV := .tup [.int (W.D : Nat), .int (W.H : Nat), .tup (W.ser.map pSer), .tup (W.hands.map pHand)]
/-- a state: the next steps, what hands remember, the standing -/
structure WS where
  places : List Nat
  mems : List Mem
  rows : List Row
  deriving DecidableEq
def pNat (n : Nat) : MV := .int (n : Nat)
def pWS (s : WS) : MV := .tup [.tup (s.places.map pNat), .tup (s.mems.map pMem), pSt s.rows]
def placeAt (s : WS) (n : Nat) : Nat := s.places.getD n 0
def handAt (W : World) (n : Nat) : Nat × List Step := W.hands.getD n (0, [])
def stepAt (W : World) (s : WS) (n : Nat) : Step := (handAt W n).2.getD (placeAt s n) .tell
def memAt (s : WS) (n : Nat) : Mem := s.mems.getD n ⟨none, none, none⟩
def hasT (W : World) (s : WS) (n : Nat) : Bool := decide (placeAt s n < (handAt W n).2.length)
def isHalf (W : World) (s : WS) : Bool :=
  !((s.places.zip W.hands).any fun x => decide (x.1 < x.2.2.length)) && s.rows.any fun r => r.days.any fun d => !decide (d.a = d.b)
def nextT (p : Par) (W : World) (s : WS) (n : Nat) : Told × Mem × List Row := stepT p W.H s.rows (handAt W n).1 (memAt s n) (stepAt W s n)
def afterT (p : Par) (W : World) (s : WS) (n : Nat) : WS := ⟨s.places.set n (placeAt s n + 1), s.mems.set n (nextT p W s n).2.1, (nextT p W s n).2.2⟩
def faultsT (p : Par) (W : World) (s : WS) (n : Nat) : List Str :=
  stepFaults s.rows (afterT p W s n).rows (handAt W n).1 (stepAt W s n) (nextT p W s n).1 ++ if isHalf W (afterT p W s n) then [("half" : Str)] else []
def beginT (W : World) : WS := ⟨W.hands.map fun _ => 0, W.hands.map fun _ => ⟨none, none, none⟩, W.ser.map fun x => ⟨x.1, x.2, List.replicate W.D ⟨some x.2, some x.2, false⟩⟩⟩
/-- a step of a world -/
def SOk (W : World) : Step → Prop
  | .find h => 0 ≤ h ∧ h < W.H
  | .room h => 0 ≤ h ∧ h < W.H
  | .person => True
  | .one d h => d < W.D ∧ 0 ≤ h ∧ h < W.H
  | .off d => d < W.D
  | .tell => True
structure WOk (W : World) : Prop where
  D1 : 1 ≤ W.D
  D2 : W.D ≤ 2
  H1 : 2 ≤ W.H
  H2 : W.H ≤ 3
  n1 : 1 ≤ W.ser.length
  n2 : W.ser.length ≤ 3
  ser : ∀ x ∈ W.ser, 0 ≤ x.1 ∧ x.1 ≤ 2 ∧ 0 ≤ x.2 ∧ x.2 < W.H
  nd : (W.ser.map (·.2)).Nodup
  h1 : 1 ≤ W.hands.length
  h2 : W.hands.length ≤ 3
  hand : ∀ h ∈ W.hands, h.1 < W.ser.length ∧ 1 ≤ h.2.length ∧ h.2.length ≤ 4 ∧ ∀ s ∈ h.2, SOk W s
  sum : (W.hands.map fun h => h.2.length).sum ≤ 8
/-- a state of a world -/
structure StOk (W : World) (s : WS) : Prop where
  pl : s.places.length = W.hands.length
  ml : s.mems.length = W.hands.length
  rl : s.rows.length = W.ser.length
  wide : Wide W.D s.rows
  olds : ∀ m ∈ s.mems, ∀ o, m.old = some o → o.days.length = W.D
  place : ∀ n, n < W.hands.length → placeAt s n ≤ (handAt W n).2.length
section
variable {b : Nat}
@[simp] theorem rf_hv {h : Option Int} : refsB b (hv h) = true := by cases h <;> rfl
@[simp] theorem rf_day {d : Day} : refsB b (pDay d) = true := by simp [pDay, refsB, refsBs]
@[simp] theorem rf_lday {d : Day} : refsB b (lDay d) = true := by simp [lDay, refsB, refsBs]
@[simp] theorem rf_row {r : Row} : refsB b (pRow r) = true := by
  have := refs_map (b := b) (f := pDay) (xs := r.days) fun _ _ => rf_day
  simp [pRow, refsB, refsBs, this]
@[simp] theorem rf_lrow {r : Row} : refsB b (lRow r) = true := by
  have := refs_map (b := b) (f := lDay) (xs := r.days) fun _ _ => rf_lday
  simp [lRow, refsB, refsBs, this]
@[simp] theorem rf_st {rs : List Row} : refsB b (pSt rs) = true := by
  have := refs_map (b := b) (f := pRow) (xs := rs) fun _ _ => rf_row
  simp [pSt, refsB, this]
@[simp] theorem rf_hrs {h : Hrs} : refsB b (pHrs h) = true := by
  have := refs_map (b := b) (f := hv) (xs := h) fun _ _ => rf_hv
  simp [pHrs, refsB, this]
@[simp] theorem rf_par {p : Par} : refsB b (pPar p) = true := by simp [pPar, pRule, refsB, refsBs]
@[simp] theorem rf_lpar {p : Par} : refsB b (lPar p) = true := by simp [lPar, refsB, refsBs]
@[simp] theorem rf_oB {o : Option Bool} : refsB b (oB o) = true := by cases o <;> rfl
@[simp] theorem rf_oH {o : Option Hrs} : refsB b (oH o) = true := by cases o <;> simp [oH, refsB]
@[simp] theorem rf_oR {o : Option Row} : refsB b (oR o) = true := by cases o <;> simp [oR, refsB]
@[simp] theorem rf_olR {o : Option Row} : refsB b (olR o) = true := by cases o <;> simp [olR, refsB]
@[simp] theorem rf_oSt {o : OSt} : refsB b (oSt o) = true := by cases o <;> simp [oSt, refsB]
@[simp] theorem rf_mem {m : Mem} : refsB b (pMem m) = true := by simp [pMem, refsB, refsBs]
@[simp] theorem rf_told {t : Told} : refsB b (pTold t) = true := by cases t <;> simp [pTold, refsB]
@[simp] theorem rf_step {s : Step} : refsB b (pStep s) = true := by cases s <;> simp [pStep, refsB, refsBs]
@[simp] theorem rf_hand {h : Nat × List Step} : refsB b (pHand h) = true := by
  have := refs_map (b := b) (f := pStep) (xs := h.2) fun _ _ => rf_step
  simp [pHand, refsB, refsBs, this]
@[simp] theorem rf_world {W : World} : refsB b (pWorld W) = true := by
  have h1 := refs_map (b := b) (f := pHand) (xs := W.hands) fun _ _ => rf_hand
  have h2 := refs_map (b := b) (f := pSer) (xs := W.ser) fun _ _ => by simp [pSer, refsB, refsBs]
  simp [pWorld, refsB, refsBs, h1, h2]
@[simp] theorem rf_ws {s : WS} : refsB b (pWS s) = true := by
  have h1 := refs_map (b := b) (f := pMem) (xs := s.mems) fun _ _ => rf_mem
  have h2 := refs_map (b := b) (f := pNat) (xs := s.places) fun _ _ => rfl
  simp [pWS, refsB, refsBs, h1, h2]
end
end Lw
set_option Elab.async false
set_option linter.all false
set_option maxRecDepth 10000
set_option maxHeartbeats 400000
namespace Lw
open PySem PySem.Spec PyProof.Rows L2 Mi
theorem ix_st {rs : List Row} {k : Nat} {S : Sto} (h : k < rs.length) : idxM (pSt rs) (.int (k : Int)) S = .ok (pRow (rowAt rs k)) S := ix_tup (by rw [List.getElem?_map, row_at h]; rfl)
theorem ix_pdays {r : Row} {d D : Nat} {S : Sto} (hl : r.days.length = D) (h : d < D) : idxM (.tup (r.days.map pDay)) (.int (d : Int)) S = .ok (pDay (dayAt r d)) S := ix_tup (day_at hl h)
@[simp] theorem enm_st {rs : List Row} {S : Sto} : enmOf [pSt rs] S = .ok (.enm (pSt rs) (rs.map pRow)) S := rfl
@[simp] theorem ok_enmS {rs : List Row} {S : Sto} : (Src.enm (pSt rs) (rs.map pRow)).ok S = true := by simp [pSt]
theorem room_free {rs : List Row} {k d D : Nat} {h : Option Int} {S : Sto} (W : Wide D rs) (hd : d < D) (hl : rs.length ≤ 1000) : m_is_room_free [pSt rs, .int (k : Nat), .int (d : Nat), hv h] S = .ok (.bl (free rs k d h false)) S := by
  have := line_k hl
  simp [m_is_room_free, mFn, m_is_room_free_s0, this]
  rw [lc_map (fun x : Row × Nat => .tup [.int (x.2 : Nat), pRow x.1]) (fun x => .bl (takes rs k d h false x.2 x.1)) rs.zipIdx rfl (by simp)]
  · have e := anyM_bl (xs := rs.zipIdx.map fun x => takes rs k d h false x.2 x.1) (S := S)
    rw [List.map_map] at e
    simp only [R.bind_ok, w_mkLt]
    rw [show (rs.zipIdx.map fun x => MV.bl (takes rs k d h false x.2 x.1)) = List.map (MV.bl ∘ fun x => takes rs k d h false x.2 x.1) rs.zipIdx from rfl, e]
    simp [free, List.any_map]
  · intro x hx
    have hr := W x.1 (List.mem_of_getElem? (mem_zi hx))
    simp [ix_pdays hr hd, takes, Day.half]
    split <;> simp_all
    exact decide_eq_decide.mpr Iff.rfl
theorem person_free {rs : List Row} {k d D : Nat} {h : Option Int} {S : Sto} (W : Wide D rs) (hd : d < D) (hk : k < rs.length) : m_is_person_free [pSt rs, .int (k : Nat), .int (d : Nat), hv h] S = .ok (.bl (free rs k d h true)) S := by
  simp [m_is_person_free, mFn, m_is_person_free_s0, m_is_person_free_s1, ix_st hk]
  refine for_out [5, 6] (fun x : Row × Nat => .tup [.int (x.2 : Nat), pRow x.1]) (fun x => takes rs k d h true x.2 x.1) (.bl false) rs.zipIdx rfl (by simp) ?_ ?_ ?_
  · intro x hx f
    have hr := W x.1 (List.mem_of_getElem? (mem_zi hx))
    simp [m_is_person_free_s2, m_is_person_free_s3, ix_pdays hr hd, takes, Day.half]
    split <;> simp_all
  · intro h1
    simp [free, h1]
  · intro h1 f
    simp [free, h1, m_is_person_free_s4]
theorem is_gap_eq {rs : List Row} {k D : Nat} {h : Int} {S : Sto} (W : Wide D rs) (hk : k < rs.length) (hl : rs.length ≤ 1000) : m_is_gap [pSt rs, .int (k : Nat), .int h] S = .ok (.bl (gap rs k h)) S := by
  simp [m_is_gap, mFn, m_is_gap_s0, ix_st hk]
  refine for_out [3, 4, 5, 6] (fun x : Day × Nat => .tup [.int (x.2 : Nat), pDay x.1]) (fun x => !decide (x.1.a = none) && (!free rs k x.2 (some h) false || !free rs k x.2 (some h) true)) (.bl false) (rowAt rs k).days.zipIdx rfl (by simp) ?_ ?_ ?_
  · intro x hx f
    have hd : x.2 < D := by rw [← W.at hk]; exact (List.getElem?_eq_some_iff.mp (mem_zi hx)).1
    have f1 := room_free (k := k) (h := some h) (S := S) W hd hl
    have f2 := person_free (h := some h) (S := S) W hd hk
    simp only [hv] at f1 f2
    simp [pDay, m_is_gap_s1, m_is_gap_s2, m_is_gap_s3, f1, f2]
    split <;> simp_all
  · intro h1
    simp [gap, h1]
  · intro h1 f
    simp [gap, h1, m_is_gap_s4]
end Lw
set_option Elab.async false
set_option linter.all false
set_option maxRecDepth 10000
set_option maxHeartbeats 400000
namespace Lw
open PySem PySem.Spec PyProof.Rows L2 Mi
@[simp] theorem slc_st {rs : List Row} {lo hi : Option Int} {S : Sto} : slcM (pSt rs) lo hi S = slcM (.tup (rs.map pRow)) lo hi S := rfl
theorem hours_eq {rs : List Row} {k D : Nat} {S : Sto} (W : Wide D rs) (hk : k < rs.length) (hD : D ≤ 1000) : m_person_hours [pSt rs, .int (k : Nat)] S = .ok (pHrs (hrs (rowAt rs k))) S := by
  have hd : (rowAt rs k).days.length ≤ sizeLine := by rw [W.at hk]; exact line_k hD
  simp [m_person_hours, mFn, m_person_hours_s0, ix_st hk, hd]
  rw [lc_map pDay (fun d => hv d.b) (rowAt rs k).days rfl (by simp)]
  · simp [pHrs, hrs]
  · intro x hx
    simp [pDay]
theorem room_day_eq {p : Par} {hours h : Int} {r : Row} {d : Day} {S : Sto} (h0 : 0 < hours) (h1 : hours < 1073741824) : m_room_day [pPar p, .int hours, pRow r, pDay d, .int h] S = .ok (pDay (rday p.s hours r.base d h)) S := by
  obtain ⟨a, b, x⟩ := d
  cases a with
  | none => rfl
  | some a =>
    cases x with
    | false => rfl
    | true =>
      simp [m_room_day, mFn, m_room_day_s0, m_room_day_s1, m_room_day_s2, m_room_day_s3, m_room_day_s4, m_room_day_s5, m_room_day_s6, m_room_day_s7, pDay, pPar, hv, isM, isB, modM, h0, h1, rday]
      split
      · simp_all
      · split <;> simp_all
theorem with_series_eq {rs : List Row} {k : Nat} {base : Int} {ds : List Day} {S : Sto} (hk : k < rs.length) (hl : rs.length ≤ 1000) :
    m_with_series [pSt rs, .int (k : Nat), .int base, .tup (ds.map pDay)] S = .ok (pSt (rs.set k ⟨(rowAt rs k).who, base, ds⟩)) S := by
  obtain ⟨e1, e2, e3, e4⟩ := set_tup4 (xs := rs.map pRow) (k := k) (x := pRow ⟨(rowAt rs k).who, base, ds⟩) (by simpa using hk) (by simpa using hl)
  simp only [pRow] at e2 e4
  simp [m_with_series, mFn, m_with_series_s0, ix_st hk, e1, e2, e3, e4]
  simp [pSt, List.map_set, pRow]
theorem clash_eq {rs : List Row} {k : Nat} {old new : List Day} {half : Bool} : ((old.zip new).zipIdx.any fun x => !decide (x.1.1.half half = x.1.2.half half) && !free rs k x.2 (x.1.2.half half) half) = clash rs k old new half := rfl
theorem room_set_eq {p : Par} {hours h : Int} {rs : List Row} {k D : Nat} {S : Sto} (h0 : 0 < hours) (h1 : hours < 1073741824) (W : Wide D rs) (hk : k < rs.length) (hl : rs.length ≤ 1000) (hD : D ≤ 1000) :
    m_room_set [pPar p, .int hours, pSt rs, .int (k : Nat), .int h] S = .ok (oSt (roomSet p.c p.s hours rs k h)) S := by
  have hd : (rowAt rs k).days.length ≤ sizeLine := by rw [W.at hk]; exact line_k hD
  simp [m_room_set, mFn, m_room_set_s0, m_room_set_s1, ix_st hk, hd]
  rw [lc_map pDay (fun d => pDay (rday p.s hours (rowAt rs k).base d h)) (rowAt rs k).days rfl (by simp)]
  · rw [show ((rowAt rs k).days.map fun d => pDay (rday p.s hours (rowAt rs k).base d h)) = (rdays p.s hours (rowAt rs k) h).map pDay by simp [rdays]]
    by_cases hc : p.c = "none"
    · simp [m_room_set_s2, pPar, hc, m_room_set_s6, with_series_eq hk hl, roomSet, oSt]
    · simp [m_room_set_s2, m_room_set_s3, pPar, hc]
      refine for_out [7, 9, 10] (fun x : (Day × Day) × Nat => .tup [.int (x.2 : Nat), .tup [pDay x.1.1, pDay x.1.2]]) (fun x => !decide (x.1.1.half false = x.1.2.half false) && !free rs k x.2 (x.1.2.half false) false) .non (((rowAt rs k).days.zip (rdays p.s hours (rowAt rs k) h)).zipIdx) rfl (by simp) ?_ ?_ ?_
      · intro x hx f
        have hx2 : x.2 < D := by
          have := (List.getElem?_eq_some_iff.mp (mem_zi hx)).1
          rw [List.length_zip, W.at hk] at this
          omega
        have f1 := room_free (h := x.1.2.a) (S := S) W hx2 hl (k := k)
        simp [m_room_set_s4, m_room_set_s5, f1, Day.half]
        split <;> simp_all
      · intro h1
        rw [clash_eq] at h1
        simp [roomSet, hc, h1, oSt]
      · intro h1 f
        rw [clash_eq] at h1
        simp [m_room_set_s6, with_series_eq hk hl, roomSet, hc, h1, oSt]
  · intro x hx
    simp [room_day_eq h0 h1]
theorem person_set_eq {p : Par} {rs : List Row} {k D : Nat} {S : Sto} (W : Wide D rs) (hk : k < rs.length) (hl : rs.length ≤ 1000) (hD : D ≤ 1000) :
    m_person_set [pPar p, pSt rs, .int (k : Nat)] S = .ok (oSt (personSet p.c rs k)) S := by
  have hd : (rowAt rs k).days.length ≤ sizeLine := by rw [W.at hk]; exact line_k hD
  simp [m_person_set, mFn, m_person_set_s0, m_person_set_s1, ix_st hk, hd]
  rw [lc_map pDay (fun d => pDay ⟨d.a, d.a, d.s⟩) (rowAt rs k).days rfl (by simp)]
  · rw [show ((rowAt rs k).days.map fun d => pDay ⟨d.a, d.a, d.s⟩) = (pdays (rowAt rs k)).map pDay by simp [pdays]]
    by_cases hc : p.c = "both"
    · simp [m_person_set_s2, m_person_set_s3, pPar, hc]
      refine for_out [5, 6, 7] (fun x : (Day × Day) × Nat => .tup [.int (x.2 : Nat), .tup [pDay x.1.1, pDay x.1.2]]) (fun x => !decide (x.1.1.half true = x.1.2.half true) && !free rs k x.2 (x.1.2.half true) true) .non (((rowAt rs k).days.zip (pdays (rowAt rs k))).zipIdx) rfl (by simp) ?_ ?_ ?_
      · intro x hx f
        have hx2 : x.2 < D := by
          have := (List.getElem?_eq_some_iff.mp (mem_zi hx)).1
          rw [List.length_zip, W.at hk] at this
          omega
        have f1 := person_free (h := x.1.2.b) (S := S) W hx2 hk
        simp [m_person_set_s4, m_person_set_s5, f1, Day.half]
        split <;> simp_all
      · intro h1
        rw [clash_eq] at h1
        simp [personSet, hc, h1, oSt]
      · intro h1 f
        rw [clash_eq] at h1
        simp [m_person_set_s6, with_series_eq hk hl, personSet, hc, h1, oSt]
    · simp [m_person_set_s2, pPar, hc, m_person_set_s6, with_series_eq hk hl, personSet, oSt]
  · intro x hx
    simp [pDay]
end Lw
set_option Elab.async false
set_option linter.all false
set_option maxRecDepth 10000
set_option maxHeartbeats 400000
namespace Lw
open PySem PySem.Spec PyProof.Rows L2 Mi
theorem taken_back_eq {rs : List Row} {k D : Nat} {o : Row} {S : Sto} (W : Wide D rs) (hk : k < rs.length) (hl : rs.length ≤ 1000) (hD : D ≤ 1000) (ho : o.days.length = D) :
    m_taken_back [pSt rs, .int (k : Nat), pRow o] S = .ok (pSt (takenBack rs k o)) S := by
  refine frzF_0 (e := [.lst ((List.zipWith backDay (rowAt rs k).days o.days).map pDay)]) ?_ (by simp)
  have hz := sizeLine_eq
  simp [mFn, m_taken_back_s0, m_taken_back_s1, ix_st hk]
  refine for_pre [4, 5] (fun x : Day × Day => .tup [pDay x.1, pDay x.2]) (fun _ => [some (pSt rs), some (.int (k : Nat)), some (pRow o), some (.ref S.length), none, none]) (fun done => S ++ [.lst ((done.map fun x => backDay x.1 x.2).map pDay)]) ((rowAt rs k).days.zip o.days) rfl rfl rfl (by simp) ?_ ?_
  · intro done x rest hx f
    have hn : done.length < sizeLine := by
      have := congrArg List.length hx
      simp [W.at hk, ho] at this
      omega
    simp [m_taken_back_s2, hn, backDay]
    split <;> simp_all [pDay]
  · intro f
    rw [show ((List.map (fun x : Day × Day => backDay x.1 x.2) ((rowAt rs k).days.zip o.days))) = List.zipWith backDay (rowAt rs k).days o.days by rw [List.zip, List.map_zipWith]]
    have w := with_series_eq (base := o.base) (ds := List.zipWith backDay (rowAt rs k).days o.days) (S := S ++ [.lst ((List.zipWith backDay (rowAt rs k).days o.days).map pDay)]) hk hl
    simp at w
    simp [m_taken_back_s3, w, takenBack, backRow]
theorem one_set_eq {p : Par} {rs : List Row} {k d D : Nat} {h : Int} {S : Sto} (W : Wide D rs) (hk : k < rs.length) (hl : rs.length ≤ 1000) (hD : D ≤ 1000) (hd : d < D) :
    m_one_set [pPar p, pSt rs, .int (k : Nat), .int (d : Nat), .int h] S = .ok (oSt (oneSet p.c rs k d h)) S := by
  have f1 := room_free (k := k) (h := some h) (S := S) W hd hl
  have f2 := person_free (h := some h) (S := S) W hd hk
  simp only [hv] at f1 f2
  have i1 : ∀ S, idxM (.tup ((rowAt rs k).days.map pDay)) (.int (d : Int)) S = .ok (pDay (dayAt (rowAt rs k) d)) S := fun S => ix_pdays (W.at hk) hd
  obtain ⟨e1, e2, e3, e4⟩ := set_tup4 (xs := (rowAt rs k).days.map pDay) (k := d) (x := pDay ⟨some h, some h, true⟩) (by simpa [W.at hk] using hd) (by simpa [W.at hk] using hD)
  have w := with_series_eq (base := (rowAt rs k).base) (ds := (rowAt rs k).days.set d ⟨some h, some h, true⟩) (S := S) hk hl
  rw [List.map_set] at w
  have hp : pDay ⟨some h, some h, true⟩ = .tup [.int h, .int h, .bl true] := rfl
  rw [hp] at e2 e4 w
  simp [m_one_set, mFn, m_one_set_s0, m_one_set_s1, m_one_set_s2, m_one_set_s3, m_one_set_s4, m_one_set_s5, m_one_set_s6, m_one_set_s7, ix_st hk, i1, e1, e2, e3, e4, pPar, f1, f2, w, oneSet]
  repeat' split
  all_goals simp_all [oSt]
theorem off_set_eq {rs : List Row} {k d D : Nat} {S : Sto} (W : Wide D rs) (hk : k < rs.length) (hl : rs.length ≤ 1000) (hD : D ≤ 1000) (hd : d < D) :
    m_off_set [pSt rs, .int (k : Nat), .int (d : Nat)] S = .ok (oSt (offSet rs k d)) S := by
  have i1 : ∀ S, idxM (.tup ((rowAt rs k).days.map pDay)) (.int (d : Int)) S = .ok (pDay (dayAt (rowAt rs k) d)) S := fun S => ix_pdays (W.at hk) hd
  obtain ⟨e1, e2, e3, e4⟩ := set_tup4 (xs := (rowAt rs k).days.map pDay) (k := d) (x := pDay ⟨none, none, false⟩) (by simpa [W.at hk] using hd) (by simpa [W.at hk] using hD)
  have w := with_series_eq (base := (rowAt rs k).base) (ds := (rowAt rs k).days.set d ⟨none, none, false⟩) (S := S) hk hl
  rw [List.map_set] at w
  have hp : pDay ⟨none, none, false⟩ = .tup [.non, .non, .bl false] := rfl
  rw [hp] at e2 e4 w
  simp [m_off_set, mFn, m_off_set_s0, m_off_set_s1, m_off_set_s2, m_off_set_s3, ix_st hk, i1, e1, e2, e3, e4, w, offSet]
  split <;> simp_all [oSt]
def pOut (x : Told × Mem × List Row) : MV := .tup [pTold x.1, pMem x.2.1, pSt x.2.2]
@[simp] theorem mem0 {m : Mem} {S : Sto} : idxM (pMem m) (.int 0) S = .ok (oB m.found) S := rfl
@[simp] theorem mem1 {m : Mem} {S : Sto} : idxM (pMem m) (.int 1) S = .ok (oH m.seen) S := rfl
@[simp] theorem mem2 {m : Mem} {S : Sto} : idxM (pMem m) (.int 2) S = .ok (oR m.old) S := rfl
@[simp] theorem isn_hrs {h : Hrs} {S : Sto} : isnM (pHrs h) .non S = .ok (.bl true) S := rfl
@[simp] theorem is_st {rs : List Row} {S : Sto} : isM (pSt rs) .non S = .ok (.bl false) S := rfl
@[simp] theorem isn_st {rs : List Row} {S : Sto} : isnM (pSt rs) .non S = .ok (.bl true) S := rfl
@[simp] theorem isn_row {r : Row} {S : Sto} : isnM (pRow r) .non S = .ok (.bl true) S := rfl
@[simp] theorem is_nn {S : Sto} : isM .non .non S = .ok (.bl true) S := rfl
@[simp] theorem isn_nn {S : Sto} : isnM .non .non S = .ok (.bl false) S := rfl
@[simp] theorem is_false {o : Option Bool} {S : Sto} : isM (oB o) (.bl false) S = .ok (.bl (decide (o = some false))) S := by
  cases o with
  | none => rfl
  | some b => cases b <;> rfl
theorem find_step_eq {rs : List Row} {k D : Nat} {m : Mem} {h : Int} {S : Sto} (W : Wide D rs) (hk : k < rs.length) (hl : rs.length ≤ 1000) (hD : D ≤ 1000) :
    m_find_step [pSt rs, .int (k : Nat), pMem m, .int h] S = .ok (.tup [.bl (gap rs k h), pMem ⟨some (gap rs k h), some (hrs (rowAt rs k)), m.old⟩, pSt rs]) S := by
  simp [m_find_step, mFn, m_find_step_s0, m_find_step_s1, is_gap_eq W hk hl, hours_eq W hk hD]
  rfl
theorem tell_step_eq {p : Par} {rs : List Row} {k D : Nat} {m : Mem} {S : Sto} (W : Wide D rs) (hk : k < rs.length) (hD : D ≤ 1000) :
    m_tell_step [pPar p, pSt rs, .int (k : Nat), pMem m] S = .ok (pOut (stepT p 0 rs k m .tell)) S := by
  obtain ⟨fo, se, ol⟩ := m
  cases se with
  | none =>
    simp [m_tell_step, mFn, m_tell_step_s0, m_tell_step_s1, m_tell_step_s2, m_tell_step_s3, hours_eq W hk hD, pPar, oH, stepT]
    rfl
  | some h =>
    simp [m_tell_step, mFn, m_tell_step_s0, m_tell_step_s1, m_tell_step_s2, m_tell_step_s3, hours_eq W hk hD, pPar, oH, stepT]
    split <;> simp_all <;> rfl
theorem room_step_eq {p : Par} {H h : Int} {rs : List Row} {k D : Nat} {m : Mem} {S : Sto} (h0 : 0 < H) (h1 : H < 1073741824) (W : Wide D rs) (hk : k < rs.length) (hl : rs.length ≤ 1000) (hD : D ≤ 1000) :
    m_room_step [pPar p, .int H, pSt rs, .int (k : Nat), pMem m, .int h] S = .ok (pOut (stepT p H rs k m (.room h))) S := by
  simp [m_room_step, mFn, m_room_step_s0, m_room_step_s1, m_room_step_s2, m_room_step_s3, room_set_eq h0 h1 W hk hl hD, stepT]
  by_cases hf : m.found = some false
  · simp [hf, fin]; rfl
  · simp [hf]
    cases roomSet p.c p.s H rs k h with
    | none => simp [oSt, fin]; rfl
    | some rs' => simp [oSt, fin, ix_st hk]; rfl
theorem person_step_eq {p : Par} {H : Int} {rs : List Row} {k D : Nat} {m : Mem} {S : Sto} (W : Wide D rs) (hk : k < rs.length) (hl : rs.length ≤ 1000) (hD : D ≤ 1000) (ho : ∀ o, m.old = some o → o.days.length = D) :
    m_person_step [pPar p, pSt rs, .int (k : Nat), pMem m] S = .ok (pOut (stepT p H rs k m .person)) S := by
  obtain ⟨fo, se, ol⟩ := m
  simp [m_person_step, mFn, m_person_step_s0, m_person_step_s1, m_person_step_s2, m_person_step_s3, m_person_step_s4, m_person_step_s5, person_set_eq W hk hl hD, stepT]
  cases personSet p.c rs k with
  | some rs' => simp [oSt]; rfl
  | none =>
    cases ol with
    | none =>
      simp [oSt, oR, pPar]
      rfl
    | some o =>
      simp [oSt, oR, pPar, taken_back_eq W hk hl hD (ho o rfl)]
      split <;> rfl
end Lw
set_option Elab.async false
set_option linter.all false
set_option maxRecDepth 10000
set_option maxHeartbeats 400000
namespace Lw
open PySem PySem.Spec PyProof.Rows L2 Mi
@[simp] theorem stp_find {h : Int} {S : Sto} : idxM (pStep (.find h)) (.int 1) S = .ok (.int h) S := rfl
@[simp] theorem stp_room {h : Int} {S : Sto} : idxM (pStep (.room h)) (.int 1) S = .ok (.int h) S := rfl
@[simp] theorem stp_one1 {d : Nat} {h : Int} {S : Sto} : idxM (pStep (.one d h)) (.int 1) S = .ok (.int (d : Nat)) S := rfl
@[simp] theorem stp_one2 {d : Nat} {h : Int} {S : Sto} : idxM (pStep (.one d h)) (.int 2) S = .ok (.int h) S := rfl
@[simp] theorem stp_off {d : Nat} {S : Sto} : idxM (pStep (.off d)) (.int 1) S = .ok (.int (d : Nat)) S := rfl
@[simp] theorem wld0 {W : World} {S : Sto} : idxM (pWorld W) (.int 0) S = .ok (.int (W.D : Nat)) S := rfl
@[simp] theorem wld1 {W : World} {S : Sto} : idxM (pWorld W) (.int 1) S = .ok (.int (W.H : Nat)) S := rfl
@[simp] theorem wld2 {W : World} {S : Sto} : idxM (pWorld W) (.int 2) S = .ok (.tup (W.ser.map pSer)) S := rfl
@[simp] theorem wld3 {W : World} {S : Sto} : idxM (pWorld W) (.int 3) S = .ok (.tup (W.hands.map pHand)) S := rfl
/-- a step fits days -/
def DayOk (D : Nat) : Step → Prop
  | .one d _ => d < D
  | .off d => d < D
  | _ => True
theorem stepped_eq {p : Par} {Wd : World} {rs : List Row} {k D : Nat} {m : Mem} {s : Step} {S : Sto} (h0 : 0 < Wd.H) (h1 : Wd.H < 1073741824) (W : Wide D rs) (hk : k < rs.length) (hl : rs.length ≤ 1000) (hD : D ≤ 1000) (ho : ∀ o, m.old = some o → o.days.length = D) (hs : DayOk D s) :
    m_stepped [pPar p, pWorld Wd, pSt rs, .int (k : Nat), pMem m, pStep s] S = .ok (pOut (stepT p Wd.H rs k m s)) S := by
  have H0 : (0 : Int) < (Wd.H : Int) := by omega
  have H1 : (Wd.H : Int) < 1073741824 := by omega
  cases s with
  | find h => simp [m_stepped, mFn, m_stepped_s0, m_stepped_s1, m_stepped_s2, Step.word, find_step_eq W hk hl hD]; rfl
  | tell => simp [m_stepped, mFn, m_stepped_s0, m_stepped_s1, m_stepped_s3, m_stepped_s4, Step.word, tell_step_eq W hk hD]; rfl
  | room h => simp [m_stepped, mFn, m_stepped_s0, m_stepped_s1, m_stepped_s3, m_stepped_s5, m_stepped_s6, Step.word, room_step_eq H0 H1 W hk hl hD]
  | person => simp [m_stepped, mFn, m_stepped_s0, m_stepped_s1, m_stepped_s3, m_stepped_s5, m_stepped_s7, m_stepped_s8, Step.word, person_step_eq (H := Wd.H) W hk hl hD ho]
  | one d h =>
    simp [m_stepped, mFn, m_stepped_s0, m_stepped_s1, m_stepped_s3, m_stepped_s5, m_stepped_s7, m_stepped_s9, m_stepped_s10, Step.word, one_set_eq W hk hl hD hs, stepT]
    cases oneSet p.c rs k d h with
    | none => simp [oSt, fin]; rfl
    | some rs' => simp [oSt, fin]; rfl
  | off d =>
    simp [m_stepped, mFn, m_stepped_s0, m_stepped_s1, m_stepped_s3, m_stepped_s5, m_stepped_s7, m_stepped_s9, m_stepped_s10, Step.word, off_set_eq W hk hl hD hs, stepT]
    cases offSet rs k d with
    | none => simp [oSt, fin]; rfl
    | some rs' => simp [oSt, fin]; rfl
@[simp] theorem list_enm {xs : List MV} {S : Sto} (h : xs.length ≤ sizeLine) : lstE [.tup xs] S = .ok (.lst (enmI 0 xs)) S := by simp [lstE, seqOf, h]
theorem meets_room_eq {rs : List Row} {k D : Nat} {S : Sto} (W : Wide D rs) (hk : k < rs.length) (hl : rs.length ≤ 1000) (hD : D ≤ 1000) : m_meets_room [pSt rs, .int (k : Nat)] S = .ok (.bl (meets rs k false)) S := by
  have hd : (rowAt rs k).days.length ≤ sizeLine := by rw [W.at hk]; exact line_k hD
  simp [m_meets_room, mFn, m_meets_room_s0, m_meets_room_s1, ix_st hk, hd]
  rw [lc_map (fun x : Day × Nat => .tup [.int (x.2 : Nat), pDay x.1]) (fun x => .bl (!decide (x.1.a = none) && !free rs k x.2 x.1.a false)) (rowAt rs k).days.zipIdx rfl (by simp)]
  · have e := anyM_bl (xs := (rowAt rs k).days.zipIdx.map fun x => !decide (x.1.a = none) && !free rs k x.2 x.1.a false) (S := S)
    rw [List.map_map] at e
    simp only [R.bind_ok, w_mkLt]
    rw [show ((rowAt rs k).days.zipIdx.map fun x => MV.bl (!decide (x.1.a = none) && !free rs k x.2 x.1.a false)) = List.map (MV.bl ∘ fun x => !decide (x.1.a = none) && !free rs k x.2 x.1.a false) (rowAt rs k).days.zipIdx from rfl, e]
    simp [meets, List.any_map, Day.half]
    congr
  · intro x hx
    have hd : x.2 < D := by rw [← W.at hk]; exact (List.getElem?_eq_some_iff.mp (mem_zi hx)).1
    have f1 := room_free (k := k) (h := x.1.a) (S := S) W hd hl
    simp [pDay, f1]
    split <;> simp_all
theorem meets_person_eq {rs : List Row} {k D : Nat} {S : Sto} (W : Wide D rs) (hk : k < rs.length) : m_meets_person [pSt rs, .int (k : Nat)] S = .ok (.bl (meets rs k true)) S := by
  simp [m_meets_person, mFn, m_meets_person_s0, ix_st hk]
  refine for_out [2, 3, 4, 5] (fun x : Day × Nat => .tup [.int (x.2 : Nat), pDay x.1]) (fun x => !decide (x.1.half true = none) && !free rs k x.2 (x.1.half true) true) (.bl true) (rowAt rs k).days.zipIdx rfl (by simp) ?_ ?_ ?_
  · intro x hx f
    have hd : x.2 < D := by rw [← W.at hk]; exact (List.getElem?_eq_some_iff.mp (mem_zi hx)).1
    have f1 := person_free (h := x.1.b) (S := S) W hd hk
    simp [pDay, m_meets_person_s1, m_meets_person_s2, f1, Day.half]
    split <;> simp_all
  · intro h1
    simp [meets, h1]
  · intro h1 f
    simp [meets, h1, m_meets_person_s3]
theorem lost_single_eq {rs rs' : List Row} {k D : Nat} {S : Sto} (W : Wide D rs) (hk : k < rs.length) (hk' : k < rs'.length) (hD : D ≤ 1000) : m_lost_single [pSt rs, pSt rs', .int (k : Nat)] S = .ok (.bl (lost rs rs' k)) S := by
  have hd : min (rowAt rs k).days.length (rowAt rs' k).days.length ≤ sizeLine := by rw [W.at hk]; exact Nat.le_trans (Nat.min_le_left _ _) (line_k hD)
  simp [m_lost_single, mFn, m_lost_single_s0, ix_st hk, ix_st hk', hd]
  rw [lc_map (fun x : Day × Day => .tup [pDay x.1, pDay x.2]) (fun x => .bl (x.1.s && !x.2.s)) ((rowAt rs k).days.zip (rowAt rs' k).days) rfl (by simp)]
  · have e := anyM_bl (xs := ((rowAt rs k).days.zip (rowAt rs' k).days).map fun x => x.1.s && !x.2.s) (S := S)
    rw [List.map_map] at e
    simp only [R.bind_ok, w_mkLt]
    rw [show (((rowAt rs k).days.zip (rowAt rs' k).days).map fun x => MV.bl (x.1.s && !x.2.s)) = List.map (MV.bl ∘ fun x => x.1.s && !x.2.s) ((rowAt rs k).days.zip (rowAt rs' k).days) from rfl, e]
    simp [lost, List.any_map]
  · intro x hx
    simp
    split <;> simp_all
theorem cn_hv {h : Option Int} : cn (hv h) = hv h := by cases h <;> rfl
theorem cns_hv : ∀ h : Hrs, cns (h.map hv) = h.map hv
  | [] => rfl
  | x :: xs => by rw [List.map_cons, cns, cn_hv, cns_hv xs]
theorem hv_inj {a b : Option Int} (h : hv a = hv b) : a = b := by
  cases a <;> cases b <;> simp_all [hv]
theorem cn_hrs {h : Hrs} : cn (pHrs h) = pHrs h := by rw [pHrs, cn, cns_hv]
theorem hrs_inj {a b : Hrs} (h : pHrs a = pHrs b) : a = b := by
  simp only [pHrs, MV.tup.injEq] at h
  exact (List.map_inj_right fun _ _ e => hv_inj e).mp h
theorem sh_hv {h : Option Int} : sh (hv h) = true := by cases h <;> rfl
theorem shs_map {α : Type} {f : α → MV} (hf : ∀ x, sh (f x) = true) : ∀ xs : List α, shs (xs.map f) = true
  | [] => rfl
  | x :: xs => by rw [List.map_cons, shs, hf, shs_map hf xs]; rfl
theorem dpts_map {α : Type} {f : α → MV} {n : Nat} : ∀ xs : List α, (∀ x ∈ xs, dpt (f x) ≤ n) → dpts (xs.map f) ≤ n
  | [], _ => by simp [dpts]
  | x :: xs, hf => by
    rw [List.map_cons, dpts]
    exact Nat.max_le.mpr ⟨hf x List.mem_cons_self, dpts_map xs fun y hy => hf y (List.mem_cons_of_mem _ hy)⟩
theorem sh_hrs {h : Hrs} : sh (pHrs h) = true := by rw [pHrs, sh]; exact shs_map (fun _ => sh_hv) h
theorem dpt_hv {h : Option Int} : dpt (hv h) = 0 := by cases h <;> rfl
theorem dpt_hrs {h : Hrs} : dpt (pHrs h) ≤ 1 := by
  rw [pHrs, dpt]
  have := dpts_map (f := hv) (n := 0) h fun _ _ => by rw [dpt_hv]; exact Nat.le_refl _
  omega
theorem sh_told {t : Told} : sh (pTold t) = true := by
  cases t with
  | b b => rfl
  | hrs h => exact sh_hrs
  | done => exact sh_lit _
  | refused => exact sh_lit _
theorem dpt_told {t : Told} : dpt (pTold t) ≤ 1 := by
  cases t with
  | hrs h => exact dpt_hrs
  | _ => exact Nat.zero_le _
theorem deref_told {S : Sto} {t : Told} : deref S (pTold t) = pTold t := by cases t <;> rfl
@[simp] theorem told_done {t : Told} {S : Sto} : eqM (pTold t) (.str "done") S = .ok (.bl (decide (t = .done))) S := by
  show eqM (pTold t) (pTold .done) S = _
  rw [eqM_sh (deref_told (t := t)) (deref_told (t := .done)) sh_told (sh_told (t := .done)) (Nat.le_trans dpt_told (by omega)) (by decide)]
  cases t with
  | b b => simp [pTold, cn]
  | hrs h => simp [pTold, cn, pHrs]
  | done => simp [pTold, cn]
  | refused => simp [pTold, cn]
theorem told_hrs {t : Told} {h : Hrs} {S : Sto} : neM (pTold t) (pHrs h) S = .ok (.bl (!decide (t = .hrs h))) S := by
  show neM (pTold t) (pTold (.hrs h)) S = _
  rw [neM_sh (deref_told (t := t)) (deref_told (t := .hrs h)) sh_told (sh_told (t := .hrs h)) (Nat.le_trans dpt_told (by omega)) (Nat.le_trans dpt_told (by omega))]
  cases t with
  | b b => simp [pTold, cn, pHrs]
  | hrs h' =>
    have : pHrs h' = pHrs h ↔ h' = h := ⟨hrs_inj, fun e => by rw [e]⟩
    simp [pTold, cn_hrs, this]
  | done => simp [pTold, cn, pHrs]
  | refused => simp [pTold, cn, pHrs]
theorem sh_word {s : Step} : sh (.str s.word) = true := by cases s <;> exact sh_lit _
theorem in_words {s : Step} {a b : String} {S : Sto} : inM (.str s.word) (.tup [.str a, .str b]) S = .ok (.bl (decide (s.word = a) || decide (s.word = b))) S := by
  unfold inM
  rw [inB_sh (c := .tup [.str a, .str b]) (ys := [.str a, .str b]) (.inl rfl) sh_word (by simp [shs]) (by simp [dpt]) (by simp [dpts, dpt])]
  simp [cns, cn]
def pStr (s : Str) : MV := .str s
@[simp] theorem app_lastS {S : Sto} {xs : List Str} {x : Str} (h : xs.length < sizeLine) : appM (.ref S.length) (.str x) (S ++ [.lst (xs.map pStr)]) = .ok .non (S ++ [.lst ((xs ++ [x]).map pStr)]) := by
  rw [app_last (by simpa using h)]; simp [pStr]
theorem step_faults_eq {rs rs' : List Row} {k D : Nat} {s : Step} {t : Told} {S : Sto} (W : Wide D rs) (W' : Wide D rs') (hk : k < rs.length) (hk' : k < rs'.length) (hl : rs'.length ≤ 1000) (hD : D ≤ 1000) :
    m_step_faults [pSt rs, pSt rs', .int (k : Nat), pStep s, pTold t] S = .ok (.ref S.length) (S ++ [.lst ((stepFaults rs rs' k s t).map pStr)]) := by
  have e1 := fun S => meets_room_eq (S := S) W' hk' hl hD
  have e2 := fun S => meets_person_eq (S := S) W' hk'
  have e3 := fun S => lost_single_eq (S := S) W hk hk' hD
  have e4 := fun S => hours_eq (S := S) W' hk' hD
  have i1 := fun S => in_words (s := s) (a := "room") (b := "one") (S := S)
  have i2 := fun S => in_words (s := s) (a := "person") (b := "one") (S := S)
  have i3 := fun S => in_words (s := s) (a := "room") (b := "person") (S := S)
  have hz := sizeLine_eq
  have s1 : ∀ (xs : List Str), xs.length ≤ 10 → m_step_faults_s1 [some (pSt rs), some (pSt rs'), some (.int (k : Nat)), some (pStep s), some (pTold t), some (.ref S.length)] (S ++ [.lst (xs.map pStr)]) = .nx [some (pSt rs), some (pSt rs'), some (.int (k : Nat)), some (pStep s), some (pTold t), some (.ref S.length)] (S ++ [.lst ((xs ++ if t = .done ∧ (s.word = "room" ∨ s.word = "one") ∧ meets rs' k false = true then [("room" : Str)] else []).map pStr)]) := by
    intro xs hx
    have hx' : xs.length < sizeLine := by omega
    simp [-List.map_append, m_step_faults_s1, m_step_faults_s2, i1, e1, hx']
    repeat' split
    all_goals simp_all [pStr]
  have s3 : ∀ (xs : List Str), xs.length ≤ 10 → m_step_faults_s3 [some (pSt rs), some (pSt rs'), some (.int (k : Nat)), some (pStep s), some (pTold t), some (.ref S.length)] (S ++ [.lst (xs.map pStr)]) = .nx [some (pSt rs), some (pSt rs'), some (.int (k : Nat)), some (pStep s), some (pTold t), some (.ref S.length)] (S ++ [.lst ((xs ++ if t = .done ∧ (s.word = "person" ∨ s.word = "one") ∧ meets rs' k true = true then [("person" : Str)] else []).map pStr)]) := by
    intro xs hx
    have hx' : xs.length < sizeLine := by omega
    simp [-List.map_append, m_step_faults_s3, m_step_faults_s4, i2, e2, hx']
    repeat' split
    all_goals simp_all [pStr]
  have s5 : ∀ (xs : List Str), xs.length ≤ 10 → m_step_faults_s5 [some (pSt rs), some (pSt rs'), some (.int (k : Nat)), some (pStep s), some (pTold t), some (.ref S.length)] (S ++ [.lst (xs.map pStr)]) = .nx [some (pSt rs), some (pSt rs'), some (.int (k : Nat)), some (pStep s), some (pTold t), some (.ref S.length)] (S ++ [.lst ((xs ++ if (s.word = "room" ∨ s.word = "person") ∧ lost rs rs' k = true then [("lost" : Str)] else []).map pStr)]) := by
    intro xs hx
    have hx' : xs.length < sizeLine := by omega
    simp [-List.map_append, m_step_faults_s5, m_step_faults_s6, i3, e3, hx']
    repeat' split
    all_goals simp_all [pStr]
  have s7 : ∀ (xs : List Str), xs.length ≤ 10 → m_step_faults_s7 [some (pSt rs), some (pSt rs'), some (.int (k : Nat)), some (pStep s), some (pTold t), some (.ref S.length)] (S ++ [.lst (xs.map pStr)]) = .nx [some (pSt rs), some (pSt rs'), some (.int (k : Nat)), some (pStep s), some (pTold t), some (.ref S.length)] (S ++ [.lst ((xs ++ if s.word = "tell" ∧ t ≠ .hrs (hrs (rowAt rs' k)) then [("elder" : Str)] else []).map pStr)]) := by
    intro xs hx
    have hx' : xs.length < sizeLine := by omega
    simp [-List.map_append, m_step_faults_s7, m_step_faults_s8, e4, told_hrs, hx']
    repeat' split
    all_goals simp_all [pStr]
  have len : ∀ (xs : List Str) (c : Prop) [Decidable c] (x : Str), (xs ++ if c then [x] else []).length ≤ xs.length + 1 := fun xs c _ x => by split <;> simp
  have l1 := len [] (t = .done ∧ (s.word = "room" ∨ s.word = "one") ∧ meets rs' k false = true) "room"
  have l2 := len ([] ++ if t = .done ∧ (s.word = "room" ∨ s.word = "one") ∧ meets rs' k false = true then [("room" : Str)] else []) (t = .done ∧ (s.word = "person" ∨ s.word = "one") ∧ meets rs' k true = true) "person"
  have l3 := len (([] ++ if t = .done ∧ (s.word = "room" ∨ s.word = "one") ∧ meets rs' k false = true then [("room" : Str)] else []) ++ if t = .done ∧ (s.word = "person" ∨ s.word = "one") ∧ meets rs' k true = true then [("person" : Str)] else []) ((s.word = "room" ∨ s.word = "person") ∧ lost rs rs' k = true) "lost"
  have n1 : ([] : List Str).length = 0 := rfl
  have z0 : m_step_faults_s0 (ev0 6 [pSt rs, pSt rs', .int (k : Nat), pStep s, pTold t]) S = .nx [some (pSt rs), some (pSt rs'), some (.int (k : Nat)), some (pStep s), some (pTold t), some (.ref S.length)] (S ++ [.lst (([] : List Str).map pStr)]) := rfl
  simp only [m_step_faults, mFn]
  rw [w_seq', z0, nxt_nx, w_seq', s1 _ (by omega), nxt_nx, w_seq', s3 _ (by omega), nxt_nx, w_seq', s5 _ (by omega), nxt_nx, w_seq', s7 _ (by omega), nxt_nx]
  simp [m_step_faults_s9, stepFaults]
end Lw
set_option Elab.async false
set_option linter.all false
set_option maxRecDepth 10000
set_option maxHeartbeats 400000
namespace Lw
open PySem PySem.Spec PyProof.Rows L2 Mi
theorem is_half_eq {W : World} {s : WS} {S : Sto} (hl : (s.rows.flatMap fun r => r.days).length ≤ 1000) (h2 : s.places.length ≤ 1000) :
    m_is_half [pWorld W, .tup (s.places.map pNat), pSt s.rows] S = .ok (.bl (isHalf W s)) S := by
  have hz := sizeLine_eq
  have hm : min s.places.length W.hands.length ≤ sizeLine := by have := Nat.min_le_left s.places.length W.hands.length; omega
  simp [m_is_half, mFn, m_is_half_s0, hm]
  rw [lc_map (fun x : Nat × (Nat × List Step) => .tup [pNat x.1, pHand x.2]) (fun x => .bl (decide (x.1 < x.2.2.length))) (s.places.zip W.hands) rfl (by simp)]
  · simp only [w_mkLt, R.bind_ok, any_ty, w_toB, R.thn_ok]
    cases c : (s.places.zip W.hands).any (fun x => decide (x.1 < x.2.2.length)) with
    | true => simp [m_is_half_s1, c, isHalf]
    | false =>
      simp only [Bool.false_eq_true, if_false, Mi.w_next, nxt_nx, m_is_half_s2, w_ret, w_callF, w_cons, w_nil, w_lc2, w_src, w_var', List.getElem?_cons_succ, List.getElem?_cons_zero, R.bind_ok]
      rw [show srcOf (pSt s.rows) S = .ok (.seq (pSt s.rows) (s.rows.map pRow)) S from rfl]
      simp only [R.bind_ok, it_seq]
      rw [lc2_map pRow (fun r => r.days) pDay (fun _ d => .bl (!decide (d.a = d.b))) s.rows rfl (by simp [pSt]) (by omega)]
      · have e : (s.rows.flatMap fun r => r.days.map fun d => MV.bl (!decide (d.a = d.b))) = (s.rows.flatMap fun r => r.days).map fun d => .bl (!decide (d.a = d.b)) := by rw [List.map_flatMap]
        rw [e]
        simp [isHalf, c, List.any_flatMap]
      · intro r hr
        refine ⟨_, .seq (.tup (r.days.map pDay)) (r.days.map pDay), rfl, by simp, by simp, rfl, fun d hd => ?_⟩
        simp [pDay]
  · intro x hx
    simp [pNat, pHand]
theorem hand_at {W : World} {n : Nat} (h : n < W.hands.length) : W.hands[n]? = some (handAt W n) := by
  unfold handAt
  rw [List.getElem?_eq_getElem h, List.getD_eq_getElem?_getD, List.getElem?_eq_getElem h]; rfl
theorem ix_hand {W : World} {n : Nat} {S : Sto} (h : n < W.hands.length) : idxM (.tup (W.hands.map pHand)) (.int (n : Int)) S = .ok (pHand (handAt W n)) S := ix_tup (by rw [List.getElem?_map, hand_at h]; rfl)
theorem place_at {s : WS} {n : Nat} (h : n < s.places.length) : s.places[n]? = some (placeAt s n) := by
  unfold placeAt
  rw [List.getElem?_eq_getElem h, List.getD_eq_getElem?_getD, List.getElem?_eq_getElem h]; rfl
theorem mem_at {s : WS} {n : Nat} (h : n < s.mems.length) : s.mems[n]? = some (memAt s n) := by
  unfold memAt
  rw [List.getElem?_eq_getElem h, List.getD_eq_getElem?_getD, List.getElem?_eq_getElem h]; rfl
theorem ix_place {s : WS} {n : Nat} {S : Sto} (h : n < s.places.length) : idxM (.tup (s.places.map pNat)) (.int (n : Int)) S = .ok (.int ((placeAt s n : Nat) : Int)) S := ix_tup (by rw [List.getElem?_map, place_at h]; rfl)
theorem ix_mem {s : WS} {n : Nat} {S : Sto} (h : n < s.mems.length) : idxM (.tup (s.mems.map pMem)) (.int (n : Int)) S = .ok (pMem (memAt s n)) S := ix_tup (by rw [List.getElem?_map, mem_at h]; rfl)
theorem getD_at {α : Type} {xs : List α} {n : Nat} {d : α} (h : n < xs.length) : xs[n]? = some (xs.getD n d) := by
  rw [List.getElem?_eq_getElem h, List.getD_eq_getElem?_getD, List.getElem?_eq_getElem h]; rfl
theorem step_at {W : World} {s : WS} {n : Nat} (h : hasT W s n = true) : (handAt W n).2[placeAt s n]? = some (stepAt W s n) := getD_at (of_decide_eq_true h)
theorem ix_stp {W : World} {s : WS} {n : Nat} {S : Sto} (h : hasT W s n = true) : idxM (.tup ((handAt W n).2.map pStep)) (.int ((placeAt s n : Nat) : Int)) S = .ok (pStep (stepAt W s n)) S := ix_tup (by rw [List.getElem?_map, step_at h]; rfl)
theorem WOk.day {W : World} (w : WOk W) {s : WS} {n : Nat} (hn : n < W.hands.length) (h : hasT W s n = true) : SOk W (stepAt W s n) := (w.hand _ (List.mem_of_getElem? (hand_at hn))).2.2.2 _ (List.mem_of_getElem? (step_at h))
theorem SOk.day {W : World} {s : Step} (h : SOk W s) : DayOk W.D s := by
  cases s <;> simp_all [SOk, DayOk]
theorem fin_len {o : OSt} {m m' : Mem} {rs : List Row} (h : ∀ rs', o = some rs' → rs'.length = rs.length) : (fin o m m' rs).2.2.length = rs.length := by
  cases o with
  | none => rfl
  | some rs' => exact h rs' rfl
theorem roomSet_len {c s : Str} {H h : Int} {rs rs' : List Row} {k : Nat} (e : roomSet c s H rs k h = some rs') : rs'.length = rs.length := by
  unfold roomSet at e; split at e
  · cases e
  · cases e; simp
theorem personSet_len {c : Str} {rs rs' : List Row} {k : Nat} (e : personSet c rs k = some rs') : rs'.length = rs.length := by
  unfold personSet at e; split at e
  · cases e
  · cases e; simp
theorem oneSet_len {c : Str} {h : Int} {rs rs' : List Row} {k d : Nat} (e : oneSet c rs k d h = some rs') : rs'.length = rs.length := by
  unfold oneSet at e; split at e
  · cases e
  · cases e; simp
theorem offSet_len {rs rs' : List Row} {k d : Nat} (e : offSet rs k d = some rs') : rs'.length = rs.length := by
  unfold offSet at e; split at e
  · cases e
  · cases e; simp
theorem stepT_len {p : Par} {H : Int} {rs : List Row} {k : Nat} {m : Mem} {s : Step} : (stepT p H rs k m s).2.2.length = rs.length := by
  cases s with
  | find h => rfl
  | tell => rfl
  | room h =>
    refine fin_len fun rs' e => ?_
    split at e
    · cases e
    · exact roomSet_len e
  | person =>
    rw [stepT]
    cases e : personSet p.c rs k with
    | some rs' => exact personSet_len e
    | none =>
      dsimp only
      split
      · cases m.old with
        | none => rfl
        | some o => simp [takenBack]
      · rfl
  | one d h => exact fin_len fun rs' e => oneSet_len e
  | off d => exact fin_len fun rs' e => offSet_len e
theorem fin_wide {D : Nat} {o : OSt} {m m' : Mem} {rs : List Row} (W : Wide D rs) (h : ∀ rs', o = some rs' → Wide D rs') : Wide D (fin o m m' rs).2.2 := by
  cases o with
  | none => exact W
  | some rs' => exact h rs' rfl
theorem stepT_wide {p : Par} {H : Int} {D : Nat} {rs : List Row} {k : Nat} {m : Mem} {s : Step} (W : Wide D rs) (hk : k < rs.length) (ho : ∀ o, m.old = some o → o.days.length = D) : Wide D (stepT p H rs k m s).2.2 := by
  have hd := W.at hk
  cases s with
  | find h => exact W
  | tell => exact W
  | room h =>
    refine fin_wide W fun rs' e => ?_
    split at e
    · cases e
    · unfold roomSet at e; split at e
      · cases e
      · cases e; exact W.set (by simp [rdays, hd])
  | person =>
    rw [stepT]
    cases e : personSet p.c rs k with
    | some rs' =>
      unfold personSet at e; split at e
      · cases e
      · cases e; exact W.set (by simp [pdays, hd])
    | none =>
      dsimp only
      split
      · cases eo : m.old with
        | none => exact W
        | some o => exact W.set (by simp [backRow, hd, ho o eo])
      · exact W
  | one d h =>
    refine fin_wide W fun rs' e => ?_
    unfold oneSet at e; split at e
    · cases e
    · cases e; exact W.set (by simp [hd])
  | off d =>
    refine fin_wide W fun rs' e => ?_
    unfold offSet at e; split at e
    · cases e
    · cases e; exact W.set (by simp [hd])
theorem fin_old {D : Nat} {o : OSt} {m m' : Mem} {rs : List Row} (h : ∀ r, m.old = some r → r.days.length = D) (h' : ∀ r, m'.old = some r → r.days.length = D) : ∀ r, (fin o m m' rs).2.1.old = some r → r.days.length = D := by
  cases o with
  | none => exact h
  | some rs' => exact h'
theorem stepT_old {p : Par} {H : Int} {D : Nat} {rs : List Row} {k : Nat} {m : Mem} {s : Step} (W : Wide D rs) (hk : k < rs.length) (ho : ∀ o, m.old = some o → o.days.length = D) : ∀ o, (stepT p H rs k m s).2.1.old = some o → o.days.length = D := by
  cases s with
  | find h => exact ho
  | tell => exact ho
  | room h => exact fin_old ho fun r e => by cases e; exact W.at hk
  | person =>
    rw [stepT]
    cases e : personSet p.c rs k with
    | some rs' => exact ho
    | none =>
      dsimp only
      split
      · cases eo : m.old with
        | none => dsimp only; intro o e; rw [eo] at e; cases e
        | some o => dsimp only; intro o e; cases e
      · exact ho
  | one d h => exact fin_old ho ho
  | off d => exact fin_old ho ho
/-- the state behind a step is one -/
theorem StOk.after {p : Par} {W : World} (w : WOk W) {s : WS} (h : StOk W s) {n : Nat} (hn : n < W.hands.length) (hs : hasT W s n = true) : StOk W (afterT p W s n) := by
  have hk : (handAt W n).1 < s.rows.length := by rw [h.rl]; exact (w.hand _ (List.mem_of_getElem? (hand_at hn))).1
  have ho : ∀ o, (memAt s n).old = some o → o.days.length = W.D := fun o e => h.olds (memAt s n) (List.mem_of_getElem? (mem_at (by rw [h.ml]; exact hn))) o e
  refine ⟨by simp [afterT, h.pl], by simp [afterT, h.ml], ?_, ?_, ?_, ?_⟩
  · show (stepT p W.H s.rows (handAt W n).1 (memAt s n) (stepAt W s n)).2.2.length = _
    rw [stepT_len, h.rl]
  · exact stepT_wide h.wide hk ho
  · intro m hm o eo
    rcases List.mem_or_eq_of_mem_set hm with hm | hm
    · exact h.olds m hm o eo
    · subst hm; exact stepT_old h.wide hk ho o eo
  · intro i hi
    show (s.places.set n (placeAt s n + 1)).getD i 0 ≤ _
    simp only [List.getD_eq_getElem?_getD]
    by_cases e : i = n
    · subst e
      rw [List.getElem?_set_self (by rw [h.pl]; exact hi)]
      have := of_decide_eq_true hs
      show placeAt s i + 1 ≤ _
      omega
    · rw [List.getElem?_set_ne (Ne.symm e)]
      have := h.place i hi
      unfold placeAt at this
      rwa [List.getD_eq_getElem?_getD] at this
theorem StOk.days {W : World} (w : WOk W) {s : WS} (h : StOk W s) : (s.rows.flatMap fun r => r.days).length ≤ 1000 := by
  have : ∀ rs : List Row, Wide W.D rs → (rs.flatMap fun r => r.days).length = rs.length * W.D := by
    intro rs hw
    induction rs with
    | nil => simp
    | cons r rs ih =>
      rw [List.flatMap_cons, List.length_append, hw r List.mem_cons_self, ih fun x hx => hw x (List.mem_cons_of_mem _ hx), List.length_cons, Nat.succ_mul]
      omega
  rw [this _ h.wide, h.rl]
  have h1 := w.n2
  have h2 := w.D2
  have : W.ser.length * W.D ≤ 3 * 2 := Nat.mul_le_mul h1 h2
  omega
theorem set_map {α : Type} {f : α → MV} {xs : List α} {n : Nat} {x : α} : (xs.map f).set n (f x) = (xs.set n x).map f := (List.map_set).symm
theorem led_eq {p : Par} {W : World} (w : WOk W) {s : WS} (h : StOk W s) {n : Nat} (hn : n < W.hands.length) (hs : hasT W s n = true) {S : Sto} :
    m_led [pPar p, pWorld W, pWS s, .int (n : Nat)] S = .ok (.tup [pTold (nextT p W s n).1, pWS (afterT p W s n), .lst ((faultsT p W s n).map pStr)]) S := by
  have hk : (handAt W n).1 < s.rows.length := by rw [h.rl]; exact (w.hand _ (List.mem_of_getElem? (hand_at hn))).1
  have ho : ∀ o, (memAt s n).old = some o → o.days.length = W.D := fun o e => h.olds (memAt s n) (List.mem_of_getElem? (mem_at (by rw [h.ml]; exact hn))) o e
  have hp : n < s.places.length := by rw [h.pl]; exact hn
  have hm : n < s.mems.length := by rw [h.ml]; exact hn
  have hsl : s.rows.length ≤ 1000 := by have := w.n2; rw [h.rl]; omega
  have ha := h.after (p := p) w hn hs
  have hD : W.D ≤ 1000 := by have := w.D2; omega
  have hz := sizeLine_eq
  have hkn : (handAt W n).1 < (afterT p W s n).rows.length := by rw [ha.rl, ← h.rl]; exact hk
  have f1 := fun S => stepped_eq (p := p) (Wd := W) (S := S) (by have := w.H1; omega) (by have := w.H2; omega) h.wide hk hsl hD ho (w.day hn hs).day
  have f2 := fun S => step_faults_eq (S := S) (s := stepAt W s n) (t := (nextT p W s n).1) h.wide ha.wide hk hkn (by rw [ha.rl, ← h.rl]; exact hsl) hD
  have f3 := fun S => is_half_eq (W := W) (s := afterT p W s n) (S := S) (ha.days w) (by rw [ha.pl]; have := w.h2; omega)
  obtain ⟨e1, e2, e3, e4⟩ := set_tup4 (xs := s.places.map pNat) (k := n) (x := pNat (placeAt s n + 1)) (by simpa using hp) (by rw [List.length_map, h.pl]; have := w.h2; omega)
  obtain ⟨g1, g2, g3, g4⟩ := set_tup4 (xs := s.mems.map pMem) (k := n) (x := pMem (nextT p W s n).2.1) (by simpa using hm) (by rw [List.length_map, h.ml]; have := w.h2; omega)
  rw [set_map] at e4 g4
  refine frzF_ok (S' := S ++ [.lst ((faultsT p W s n).map pStr)]) (d := .tup [pTold (nextT p W s n).1, pWS (afterT p W s n), .ref S.length]) ?_ ?_ (by simp)
  · have hpn : pNat (placeAt s n + 1) = .int (((placeAt s n : Nat) : Int) + 1) := by simp [pNat]
    rw [hpn] at e2 e4
    have f1' : ∀ S, m_stepped [pPar p, pWorld W, pSt s.rows, .int ((handAt W n).1 : Nat), pMem (memAt s n), pStep (stepAt W s n)] S = .ok (.tup [pTold (nextT p W s n).1, pMem (nextT p W s n).2.1, pSt (nextT p W s n).2.2]) S := f1
    have f2' : ∀ S, m_step_faults [pSt s.rows, pSt (nextT p W s n).2.2, .int ((handAt W n).1 : Nat), pStep (stepAt W s n), pTold (nextT p W s n).1] S = .ok (.ref S.length) (S ++ [.lst ((stepFaults s.rows (afterT p W s n).rows (handAt W n).1 (stepAt W s n) (nextT p W s n).1).map pStr)]) := f2
    have f3' : ∀ S, m_is_half [pWorld W, .tup ((s.places.set n (placeAt s n + 1)).map pNat), pSt (nextT p W s n).2.2] S = .ok (.bl (isHalf W (afterT p W s n))) S := f3
    have hl : (stepFaults s.rows (afterT p W s n).rows (handAt W n).1 (stepAt W s n) (nextT p W s n).1).length < sizeLine := by
      unfold stepFaults
      have l : ∀ (c : Prop) [Decidable c] (x : Str), (if c then [x] else []).length ≤ 1 := fun c _ x => by split <;> simp
      simp only [List.length_append]
      have a1 := l ((nextT p W s n).1 = .done ∧ ((stepAt W s n).word = "room" ∨ (stepAt W s n).word = "one") ∧ meets (afterT p W s n).rows (handAt W n).1 false = true) "room"
      have a2 := l ((nextT p W s n).1 = .done ∧ ((stepAt W s n).word = "person" ∨ (stepAt W s n).word = "one") ∧ meets (afterT p W s n).rows (handAt W n).1 true = true) "person"
      have a3 := l (((stepAt W s n).word = "room" ∨ (stepAt W s n).word = "person") ∧ lost s.rows (afterT p W s n).rows (handAt W n).1 = true) "lost"
      have a4 := l ((stepAt W s n).word = "tell" ∧ (nextT p W s n).1 ≠ .hrs (hrs (rowAt (afterT p W s n).rows (handAt W n).1))) "elder"
      omega
    simp [-List.map_set, -List.map_append, mFn, m_led_s0, m_led_s1, m_led_s2, m_led_s3, m_led_s4, m_led_s5, m_led_s6, m_led_s7, m_led_s8, pWS, ix_hand hn, pHand, ix_place hp, ix_stp hs, ix_mem hm, f1', f2', f3', e1, e2, e3, e4, g1, g2, g3, g4]
    cases c : isHalf W (afterT p W s n) with
    | true =>
      simp [-List.map_append, -List.map_set, faultsT, c, hl, g1, g2, g3, g4]
      exact ⟨⟨rfl, rfl, rfl⟩, by simp [pStr]⟩
    | false =>
      simp [-List.map_append, -List.map_set, faultsT, c, g1, g2, g3, g4]
      exact ⟨rfl, rfl, rfl⟩
  · have := refs_map (b := 0) (f := pStr) (xs := faultsT p W s n) fun _ _ => rfl
    have e1 : frz S.length (S ++ [.lst ((faultsT p W s n).map pStr)]) 7 (.ref S.length) = some (.lst ((faultsT p W s n).map pStr)) := by
      simp [frz, frz_nrs _ _ _ _ (refs_ups _ _ this) this]
    simp [frz, frz_0] at e1 ⊢
    rw [e1]
    simp
end Lw
set_option Elab.async false
set_option linter.all false
set_option maxRecDepth 10000
set_option maxHeartbeats 400000
namespace Lw
open PySem PySem.Spec PyProof.Rows L2 Mi
theorem mul_one {x : MV} {k : Nat} {S : Sto} (h : 1 ≤ k) (h' : k ≤ 1000) : mulM (.tup [x]) (.int (k : Nat)) S = .ok (.tup (List.replicate k x)) S := by
  have e : ∀ k : Nat, (List.replicate k [x]).flatten = List.replicate k x := fun k => by
    induction k with
    | zero => rfl
    | succ n ih => rw [List.replicate_succ, List.flatten_cons, ih, List.replicate_succ]; rfl
  unfold mulM repM
  simp only [Int.toNat_natCast, e]
  rw [if_pos ⟨rfl, by omega, by omega, by simp⟩]
theorem dc_go {α : Type} {ok : Sto → Bool} {g : Tg} {tk tv : ME} {ρ : Ev} {S : Sto} (enc : α → MV) (kd : α → MV) (key : α → Key) (v : α → MV) (hok : ok S = true) : ∀ (xs : List α) (ks : List Key) (ds : List MV), (ks ++ xs.map key).Nodup →
    (∀ x ∈ xs, turnE g tk (enc x) ρ S = .ok (kd x) S ∧ keyV (kd x) = some (key x) ∧ turnE g tv (enc x) ρ S = .ok (v x) S) → dcGo ok g mTrue tk tv ρ (xs.map enc) ks ds S = .ok (ks ++ xs.map key, ds ++ xs.map v) S
  | [], ks, ds, _, _ => by simp [dcGo, hok]
  | x :: xs, ks, ds, nd, h => by
    obtain ⟨e1, e2, e3⟩ := h x List.mem_cons_self
    rw [List.map_cons, dcGo, if_pos hok]
    unfold turnE at e1 e3
    cases e : g.f (enc x) ρ with
    | none => rw [e] at e1; cases e1
    | some ρ1 =>
      rw [e] at e1 e3
      have e1 : tk ρ1 S = .ok (kd x) S := e1
      have e3 : tv ρ1 S = .ok (v x) S := e3
      simp only [w_true, R.calm_ok, R.bind_ok, if_true, e1, e2, e3]
      have hn : key x ∉ ks := fun hm => by
        rw [List.nodup_append] at nd
        exact nd.2.2 _ hm _ (by simp) rfl
      have ed : dput ks ds (key x) (v x) = (ks ++ [key x], ds ++ [v x]) := by unfold dput; rw [if_neg hn]
      rw [ed, dc_go enc kd key v hok xs _ _ (by simpa using nd) fun y hy => h y (List.mem_cons_of_mem _ hy)]
      simp
@[simp] theorem w_dc {fr : Bool} {vs : List Nat} {mi : Ev → Sto → R Src} {g : Tg} {tt : MT} {tk tv : ME} {ρ : Ev} {S : Sto} : mDc fr vs mi g tt tk tv ρ S = (mi ρ S).bind fun src S1 =>
  if src.items.length ≤ sizeLine then (dcGo (fun S => src.ok S) g tt tk tv (wipeE ρ vs) src.items [] [] S1).bind fun p S2 => mkD fr p.1 p.2 S2 else .stk := rfl
@[simp] theorem is_whole_eq {i a b : Int} {S : Sto} : m_is_whole [.int i, .int a, .int b] S = .ok (.bl (decide (a ≤ i ∧ i ≤ b))) S := by
  simp [m_is_whole, mFn, m_is_whole_s0]
  split <;> simp_all
  omega
theorem fresh_eq {w h : Int} {D : Nat} {S : Sto} (h1 : 1 ≤ D) (h2 : D ≤ 1000) : m_fresh [.int w, .int h, .int (D : Nat)] S = .ok (pRow ⟨w, h, List.replicate D ⟨some h, some h, false⟩⟩) S := by
  simp [m_fresh, mFn, m_fresh_s0, mul_one h1 h2]
  simp [pRow, pDay, hv]
theorem step_ok {W : World} {s : Step} {S : Sto} (h : SOk W s) : m_is_step [pStep s, .int (W.D : Nat), .int (W.H : Nat)] S = .ok (.bl true) S := by
  have i1 := fun S => in_words (s := s) (a := "find") (b := "room") (S := S)
  have i2 := fun S => in_words (s := s) (a := "person") (b := "tell") (S := S)
  have z : ∀ {a b : Int}, a ≤ b - 1 ↔ a < b := fun {a b} => by omega
  cases s <;> simp only [Step.word] at i1 i2 <;> simp_all [m_is_step, mFn, m_is_step_s0, m_is_step_s1, m_is_step_s2, m_is_step_s3, m_is_step_s4, m_is_step_s5, m_is_step_s6, m_is_step_s7, m_is_step_s8, m_is_step_s9, m_is_step_s10, pStep, SOk, z]
theorem hand_ok {W : World} (w : WOk W) {h : Nat × List Step} (hh : h ∈ W.hands) {S : Sto} : m_is_hand [pHand h, .int (W.D : Nat), .int (W.H : Nat), .int (W.ser.length : Nat)] S = .ok (.bl true) S := by
  obtain ⟨h1, h2, h3, h4⟩ := w.hand h hh
  have hz : h.2.length ≤ sizeLine := by rw [sizeLine_eq]; omega
  have a1 : (h.1 : Int) ≤ (W.ser.length : Int) - 1 := by omega
  have a2 : (1 : Int) ≤ (h.2.length : Int) := by omega
  have a3 : (h.2.length : Int) ≤ 4 := by omega
  simp [m_is_hand, mFn, m_is_hand_s0, m_is_hand_s1, m_is_hand_s2, m_is_hand_s3, m_is_hand_s4, pHand, a1, a2, a3, hz]
  rw [lc_map pStep (fun _ => .bl true) h.2 rfl (by simp)]
  · have := all_ty (S := S) (p := fun _ : Step => true) (xs := h.2)
    simp [this]
  · intro x hx
    simp [step_ok (h4 x hx)]
theorem series_ok {W : World} (w : WOk W) {S : Sto} : m_are_series [.tup (W.ser.map pSer), .int (W.H : Nat)] S = .ok (.bl true) S := by
  have n1 := w.n1
  have n2 := w.n2
  have hz : W.ser.length ≤ sizeLine := by rw [sizeLine_eq]; omega
  have a2 : (1 : Int) ≤ (W.ser.length : Int) := by omega
  have a3 : (W.ser.length : Int) ≤ 3 := by omega
  simp [m_are_series, mFn, m_are_series_s0, m_are_series_s2, a2, a3]
  refine for_out [2] pSer (fun _ => false) (.bl false) W.ser rfl (by simp) ?_ ?_ ?_
  · intro x hx f
    obtain ⟨b1, b2, b3, b4⟩ := w.ser x hx
    have b5 : x.2 ≤ (W.H : Int) - 1 := by omega
    simp [m_are_series_s3, m_are_series_s5, pSer, b1, b2, b3, b5]
  · intro h; simp at h
  · intro h f
    simp [m_are_series_s7, hz]
    have nd : ([] ++ W.ser.map fun x : Int × Int => (Sum.inl x.2 : Key)).Nodup := by
      have e := w.nd
      have : (W.ser.map fun x : Int × Int => (Sum.inl x.2 : Key)) = (W.ser.map (·.2)).map Sum.inl := by simp
      rw [List.nil_append, this]
      exact List.Pairwise.map _ (fun a b hab hc => hab (Sum.inl.inj hc)) e
    rw [dc_go pSer (fun x => .int x.2) (fun x => .inl x.2) (fun _ => .bl true) (by simp) W.ser [] [] nd]
    · simp
    · intro x hx
      simp [pSer, keyV]
theorem world_ok {W : World} (w : WOk W) {S : Sto} : m_is_world [pWorld W] S = .ok (.bl true) S := by
  have hz : W.hands.length ≤ sizeLine := by rw [sizeLine_eq]; have := w.h2; omega
  have a1 : (1 : Int) ≤ (W.D : Int) ∧ (W.D : Int) ≤ 2 := by have := w.D1; have := w.D2; omega
  have a2 : (2 : Int) ≤ (W.H : Int) ∧ (W.H : Int) ≤ 3 := by have := w.H1; have := w.H2; omega
  have a3 : (1 : Int) ≤ (W.hands.length : Int) := by have := w.h1; omega
  have a4 : (W.hands.length : Int) ≤ 3 := by have := w.h2; omega
  have e1 := fun S => series_ok w (S := S)
  have hs : (W.hands.map fun h => ((h.2.length : Nat) : Int)).sum ≤ 8 := by
    have e : ∀ l : List (Nat × List Step), (l.map fun h => ((h.2.length : Nat) : Int)).sum = (((l.map fun h => h.2.length).sum : Nat) : Int) := fun l => by
      induction l with
      | nil => rfl
      | cons x xs ih => simp [ih]
    rw [e]
    have := w.sum
    omega
  simp [m_is_world, mFn, m_is_world_s0, m_is_world_s2, m_is_world_s3, m_is_world_s5, m_is_world_s7, pWorld, a1, a2, a3, a4, e1, hz]
  rw [lc_map pHand (fun _ => .bl true) W.hands rfl (by simp)]
  · have := all_ty (S := S) (p := fun _ : Nat × List Step => true) (xs := W.hands)
    simp [this, hz]
    rw [lc_map pHand (fun h => .int (h.2.length : Nat)) W.hands rfl (by simp)]
    · have := sum_ty (S := S) (f := fun h : Nat × List Step => ((h.2.length : Nat) : Int)) (xs := W.hands)
      simp [this, hs]
    · intro x hx
      simp [pHand]
  · intro x hx
    simp [hand_ok w hx]
theorem check_ok {W : World} (w : WOk W) {S : Sto} : m_check_world [pWorld W] S = .ok .non S := by
  simp [m_check_world, mFn, m_check_world_s0, world_ok w]
theorem begin_eq {W : World} (w : WOk W) {S : Sto} : m_begin [pWorld W] S = .ok (pWS (beginT W)) S := by
  have hz : W.ser.length ≤ sizeLine := by rw [sizeLine_eq]; have := w.n2; omega
  have f1 := fun x S => mul_one (x := x) (S := S) w.h1 (by have := w.h2; omega)
  simp [m_begin, mFn, m_begin_s0, m_begin_s1, m_begin_s2, pWorld, hz, f1]
  rw [lc_map pSer (fun x => pRow ⟨x.1, x.2, List.replicate W.D ⟨some x.2, some x.2, false⟩⟩) W.ser rfl (by simp)]
  · simp [f1, pWS, beginT, pSt, d_BLANK]
    refine ⟨?_, ?_⟩ <;> exact (List.eq_replicate_iff.mpr ⟨by simp, fun b hb => by obtain ⟨x, _, rfl⟩ := List.mem_map.mp hb; rfl⟩).symm
  · intro x hx
    simp [pSer, fresh_eq w.D1 (by have := w.D2; omega)]
theorem begin_ok {W : World} (w : WOk W) : StOk W (beginT W) := by
  refine ⟨by simp [beginT], by simp [beginT], by simp [beginT], ?_, ?_, ?_⟩
  · intro r hr
    simp only [beginT, List.mem_map] at hr
    obtain ⟨x, _, rfl⟩ := hr
    simp
  · intro m hm o e
    simp only [beginT, List.mem_map] at hm
    obtain ⟨x, _, rfl⟩ := hm
    cases e
  · intro n hn
    have : placeAt (beginT W) n = 0 := by
      unfold placeAt beginT
      rw [List.getD_eq_getElem?_getD, List.getElem?_map]
      cases W.hands[n]? <;> rfl
    omega
theorem has_step_eq {W : World} {s : WS} (h : StOk W s) {n : Nat} (hn : n < W.hands.length) {S : Sto} : m_has_step [pWorld W, pWS s, .int (n : Nat)] S = .ok (.bl (hasT W s n)) S := by
  have a1 : (n : Int) ≤ (W.hands.length : Int) - 1 := by omega
  simp [m_has_step, mFn, m_has_step_s0, m_has_step_s2, a1, pWS, ix_hand hn, pHand, ix_place (h.pl ▸ hn : n < s.places.length), hasT]
end Lw
set_option Elab.async false
set_option linter.all false
set_option maxRecDepth 10000
set_option maxHeartbeats 400000
namespace Lw
open PySem PySem.Spec PyProof.Rows L2 Mi
def pTF (x : Told × List Str) : MV := .tup [pTold x.1, .lst (x.2.map pStr)]
theorem seq_ref {S : Sto} {n : Nat} {xs : List MV} : seqOf S (.ref n) = some xs ↔ S[n]? = some (.lst xs) := by
  show (match S[n]? with
    | some (.lst xs) => some xs
    | _ => none) = some xs ↔ _
  cases S[n]? with
  | none => simp
  | some o => cases o <;> simp
@[simp] theorem rf_tf {b : Nat} {x : Told × List Str} : refsB b (pTF x) = true := by
  have := refs_map (b := b) (f := pStr) (xs := x.2) fun _ _ => rfl
  simp [pTF, refsB, refsBs, this]
end Lw
set_option Elab.async false
set_option linter.all false
set_option maxRecDepth 10000
set_option maxHeartbeats 400000
namespace Lw
open PySem PySem.Spec PyProof.Rows L2 Mi
def hb (half : Bool) : MV := .int (if half then 1 else 0)
@[simp] theorem rng_nat {n : Nat} {S : Sto} (h : n ≤ 1000) : rngOf [.int (n : Nat)] S = .ok (.rng 0 n) S := by
  have e : rngOf [.int (n : Nat)] S = if Nat.blt n 4611686018427387904 then .ok (.rng 0 (n : Int).toNat) S else .stk := rfl
  rw [e, if_pos (by simp [Nat.blt]; omega), Int.toNat_natCast]
@[simp] theorem it_rng {n : Nat} : (Src.rng 0 n).items = (List.range n).map pNat := by
  simp [Src.items, pNat]
@[simp] theorem ix_half {d : Day} {half : Bool} {S : Sto} : idxM (lDay d) (hb half) S = .ok (hv (d.half half)) S := by cases half <;> rfl
end Lw
set_option Elab.async false
set_option linter.all false
set_option maxRecDepth 10000
set_option maxHeartbeats 400000
namespace Lw
open PySem PySem.Spec PyProof.Rows L2 Mi
@[simp] theorem lpar0 {p : Par} {S : Sto} : idxM (lPar p) (.int 0) S = .ok (.str p.c) S := rfl
@[simp] theorem lpar1 {p : Par} {S : Sto} : idxM (lPar p) (.int 1) S = .ok (.str p.s) S := rfl
@[simp] theorem lpar2 {p : Par} {S : Sto} : idxM (lPar p) (.int 2) S = .ok (.str p.h) S := rfl
@[simp] theorem lpar3 {p : Par} {S : Sto} : idxM (lPar p) (.int 3) S = .ok (.str p.t) S := rfl
end Lw
set_option Elab.async false
set_option linter.all false
set_option maxRecDepth 10000
set_option maxHeartbeats 400000
namespace Lw
open PySem PySem.Spec PyProof.Rows L2 Mi
section
variable {S : Sto} {w b : Int} {ds A B : List Day} {x y : Day} {es : List MV} {n : Nat}
theorem setl {T : Sto} {m : Nat} {xs : List MV} {i : Nat} {v : MV} (h : T[m]? = some (.lst xs)) (hi : i < xs.length) : setM (.ref m) (.int (i : Int)) v T = some (T.set m (.lst (xs.set i v))) := by
  have e : ixN xs.length (i : Int) = some i := by unfold ixN; simp; omega
  unfold setM
  simp only [h, e]
end
@[simp] theorem w_sub {e o i : ME} {ρ : Ev} {S : Sto} : mSub e o i ρ S = (e ρ S).thn ρ fun d S1 => (o ρ S1).thn ρ fun od S2 => (i ρ S2).thn ρ fun id S3 => match setM od id d S3 with
  | some S4 => .nx ρ S4
  | none => .stk := rfl
theorem mapM_map {α : Type} {f : MV → Option MV} {e g : α → MV} : ∀ xs : List α, (∀ x ∈ xs, f (e x) = some (g x)) → (xs.map e).mapM f = some (xs.map g)
  | [], _ => rfl
  | x :: xs, h => by
    rw [List.map_cons, List.mapM_cons, h x List.mem_cons_self, mapM_map xs fun y hy => h y (List.mem_cons_of_mem _ hy)]
    rfl
end Lw
set_option Elab.async false
set_option linter.all false
set_option maxRecDepth 10000
set_option maxHeartbeats 400000
namespace Lw
open PySem PySem.Spec PyProof.Rows L2 Mi
@[simp] theorem isn_int {a : Int} {S : Sto} : isnM (.int a) .non S = .ok (.bl true) S := rfl
@[simp] theorem is_int {a : Int} {S : Sto} : isM (.int a) .non S = .ok (.bl false) S := rfl
theorem mod_int {i n : Int} {S : Sto} (h0 : 0 < n) (h1 : n < 1073741824) : modM (.int i) (.int n) S = .ok (.int (i % n)) S := by
  unfold modM; simp only; rw [if_pos (by omega)]
end Lw
set_option Elab.async false
set_option linter.all false
set_option maxRecDepth 10000
set_option maxHeartbeats 400000
set_option Elab.async false
set_option linter.all false
set_option maxRecDepth 10000
set_option maxHeartbeats 400000
namespace Lw
open PySem PySem.Spec PyProof.Rows L2 Mi
@[simp] theorem isn_olR {o : Option Row} {S : Sto} : isnM (olR o) .non S = .ok (.bl (!decide (o = none))) S := by cases o <;> rfl
@[simp] theorem is_olR {o : Option Row} {S : Sto} : isM (olR o) .non S = .ok (.bl (decide (o = none))) S := by cases o <;> rfl
@[simp] theorem is_oH {o : Option Hrs} {S : Sto} : isM (oH o) .non S = .ok (.bl (decide (o = none))) S := by cases o <;> rfl
@[simp] theorem isn_lrow {r : Row} {S : Sto} : isnM (lRow r) .non S = .ok (.bl true) S := rfl
@[simp] theorem stp_last1 {d : Nat} {h : Int} {S : Sto} : idxM (pStep (.one d h)) (.int (-1)) S = .ok (.int h) S := rfl
@[simp] theorem stp_last2 {d : Nat} {S : Sto} : idxM (pStep (.off d)) (.int (-1)) S = .ok (.int (d : Nat)) S := rfl
abbrev handK : List Key := [.inr "next", .inr "found", .inr "seen", .inr "old"]
def lHand (n : Nat) (m : Mem) : MO := .dct handK [.int (n : Nat), oB m.found, oH m.seen, olR m.old]
def lv (r : Nat) (hs : List Nat) : MV := .dct [.inr "rows", .inr "hands"] [.ref r, .lst (hs.map .ref)]
@[simp] theorem lv_rows {r : Nat} {hs : List Nat} {S : Sto} : idxM (lv r hs) (.str "rows") S = .ok (.ref r) S := rfl
@[simp] theorem lv_hands {r : Nat} {hs : List Nat} {S : Sto} : idxM (lv r hs) (.str "hands") S = .ok (.lst (hs.map .ref)) S := rfl
/-- the cells of a law's state -/
structure LSt (S : Sto) (r : Nat) (hs : List Nat) (s : WS) : Prop where
  rows : S[r]? = some (.lst (s.rows.map lRow))
  len : hs.length = s.mems.length
  hand : ∀ (n h : Nat), hs[n]? = some h → S[h]? = some (lHand (placeAt s n) (memAt s n))
  ne : ∀ (n h : Nat), hs[n]? = some h → r ≠ h
  inj : hs.Nodup
theorem fin_keep {o : OSt} {m m' : Mem} {rs : List Row} (h : m'.found = m.found ∧ m'.seen = m.seen) : (fin o m m' rs).2.1.found = m.found ∧ (fin o m m' rs).2.1.seen = m.seen := by
  cases o with
  | none => exact ⟨rfl, rfl⟩
  | some x => exact h
theorem stepT_keep {p : Par} {H : Int} {rs : List Row} {k : Nat} {m : Mem} {s : Step} (hw : s.word ≠ "find" ∧ s.word ≠ "tell") : (stepT p H rs k m s).2.1.found = m.found ∧ (stepT p H rs k m s).2.1.seen = m.seen := by
  cases s with
  | find x => exact absurd rfl hw.1
  | tell => exact absurd rfl hw.2
  | room x => exact fin_keep ⟨rfl, rfl⟩
  | one d x => exact fin_keep ⟨rfl, rfl⟩
  | off d => exact fin_keep ⟨rfl, rfl⟩
  | person =>
    rw [stepT]
    cases personSet p.c rs k with
    | some x => exact ⟨rfl, rfl⟩
    | none =>
      dsimp only
      split
      · cases m.old with
        | none => exact ⟨rfl, rfl⟩
        | some o => exact ⟨rfl, rfl⟩
      · exact ⟨rfl, rfl⟩
end Lw
set_option Elab.async false
set_option linter.all false
set_option maxRecDepth 10000
set_option maxHeartbeats 400000
namespace Lw
open PySem PySem.Spec PyProof.Rows L2 Mi
def hsN (b n : Nat) : List Nat := (List.range n).map fun i => b + 1 + i
def cells (n : Nat) (s : WS) : Sto := .lst (s.rows.map lRow) :: (List.range n).map fun i => lHand (placeAt s i) (memAt s i)
theorem hsN_get {b n i : Nat} (h : i < n) : (hsN b n)[i]? = some (b + 1 + i) := by
  unfold hsN; rw [List.getElem?_map, List.getElem?_range h]; rfl
theorem LSt.of {S e : Sto} {n : Nat} {s : WS} (h : s.mems.length = n) : LSt (S ++ (cells n s ++ e)) S.length (hsN S.length n) s := by
  refine ⟨?_, by simp [hsN, h], ?_, ?_, ?_⟩
  · rw [List.getElem?_append_right (Nat.le_refl _)]; simp [cells]
  · intro i x hx
    by_cases hi : i < n
    · rw [hsN_get hi] at hx
      cases hx
      rw [List.getElem?_append_right (by omega)]
      have : S.length + 1 + i - S.length = i + 1 := by omega
      rw [this, cells, List.cons_append, List.getElem?_cons_succ, List.getElem?_append_left (by simpa using hi), List.getElem?_map, List.getElem?_range hi]; rfl
    · rw [List.getElem?_eq_none (by simp [hsN]; omega)] at hx; cases hx
  · intro i x hx
    unfold hsN at hx
    rw [List.getElem?_map] at hx
    cases e : (List.range n)[i]? with
    | none => rw [e] at hx; cases hx
    | some j => rw [e] at hx; cases hx; show S.length ≠ S.length + 1 + j; omega
  · unfold hsN
    exact List.Pairwise.map _ (fun a b hab hc => hab (by omega)) List.nodup_range
theorem LSt.app {S e : Sto} {r : Nat} {hs : List Nat} {s : WS} (L : LSt S r hs s) : LSt (S ++ e) r hs s := by
  have up : ∀ {n : Nat} {o : MO}, S[n]? = some o → (S ++ e)[n]? = some o := fun {n o} h => by rw [List.getElem?_append_left (List.getElem?_eq_some_iff.mp h).1]; exact h
  exact ⟨up L.rows, L.len, fun n h hn => up (L.hand n h hn), L.ne, L.inj⟩
end Lw
set_option Elab.async false
set_option linter.all false
set_option maxRecDepth 10000
set_option maxHeartbeats 400000
set_option Elab.async false
set_option linter.all false
set_option maxRecDepth 10000
set_option maxHeartbeats 400000
set_option linter.all false
set_option maxRecDepth 100000
set_option maxHeartbeats 4000000
namespace Lw
open PySem PySem.Spec PyProof.Rows L2 Mi
structure Dr where
  ns : List Int
  i : Nat
  b : Int
  s : Int
def dr (d : Dr) : MO := .lst [.lst (d.ns.map MV.int), .int d.i, .int d.b, .int d.s]
def drS (d : Dr) : Dr := if d.b = 0 then (match d.ns[d.i]? with
  | some c => if 10 ^ 18 ≤ c then ⟨d.ns, d.i + 1, c, d.s⟩ else ⟨d.ns, d.i + 1, d.b, (d.s * 48271 + c * 69621 + 11) % 2147483647⟩
  | none => ⟨d.ns, d.i, d.b, (d.s * 48271 + 7) % 2147483647⟩) else d
def drK (d : Dr) (n : Int) : Int := if 0 < (drS d).b then (drS d).b % n else (drS d).s * 16807 % 2147483629 % n
def drN (d : Dr) (n : Int) : Dr := if 0 < (drS d).b then ⟨(drS d).ns, (drS d).i, (drS d).b / n, (drS d).s⟩ else drS d
theorem m38 (d : Dr) (T : Sto) (n : Int) : ∃ y, m_law_draw_s0 [some (.ref 0), some (.int n), none, none] (dr d :: T) = .nx [some (.ref 0), some (.int n), none, y] (dr (drS d) :: T) := by
  by_cases hb : d.b = 0
  · by_cases hl : d.i < d.ns.length
    · have hc : d.ns[d.i]? = some d.ns[d.i] := List.getElem?_eq_getElem hl
      by_cases h18 : (10 : Int) ^ 18 ≤ d.ns[d.i]
      · refine ⟨some (.int d.ns[d.i]), ?_⟩
        have h18' : (1000000000000000000 : Int) ≤ d.ns[d.i] := by simpa using h18
        simp [m_law_draw_s0, m_law_draw_s1, m_law_draw_s2, m_law_draw_s3, m_law_draw_s4, m_law_draw_s5, m_law_draw_s6, m_law_draw_s7, mSeq, mIfS, mTest, mOp, mVar, mC, mCallF, mCons, mNil, mSub, mAsg, tgName, oS, toB, idxM, seqOf, lstOf, atI, ixN, eqM, eqB, scalM, seqM, cmpI, lenM, intM, addM, mulM, modM, powM, setM, dr, drS, hb, hl, hc, h18']
      · refine ⟨some (.int d.ns[d.i]), ?_⟩
        have h18' : ¬ (1000000000000000000 : Int) ≤ d.ns[d.i] := by simpa using h18
        simp [m_law_draw_s0, m_law_draw_s1, m_law_draw_s2, m_law_draw_s3, m_law_draw_s4, m_law_draw_s5, m_law_draw_s6, m_law_draw_s7, mSeq, mIfS, mTest, mOp, mVar, mC, mCallF, mCons, mNil, mSub, mAsg, tgName, oS, toB, idxM, seqOf, lstOf, atI, ixN, eqM, eqB, scalM, seqM, cmpI, lenM, intM, addM, mulM, modM, powM, setM, dr, drS, hb, hl, hc, h18']
    · have hc : d.ns[d.i]? = none := List.getElem?_eq_none (by omega)
      refine ⟨none, ?_⟩
      simp [m_law_draw_s0, m_law_draw_s1, m_law_draw_s2, m_law_draw_s3, m_law_draw_s4, m_law_draw_s5, m_law_draw_s6, m_law_draw_s7, mSeq, mIfS, mTest, mOp, mVar, mC, mCallF, mCons, mNil, mSub, mAsg, tgName, oS, toB, idxM, seqOf, lstOf, atI, ixN, eqM, eqB, scalM, seqM, cmpI, lenM, intM, addM, mulM, modM, powM, setM, dr, drS, hb, hl, hc]
  · refine ⟨none, ?_⟩
    simp [m_law_draw_s0, mNext, mIfS, mTest, mOp, mVar, mC, toB, idxM, seqOf, lstOf, atI, ixN, eqM, eqB, scalM, seqM, dr, drS, hb]
theorem draw_eq (d : Dr) (T : Sto) (n : Int) (h0 : 0 < n) (h1 : n < 1073741824) : m_law_draw [.ref 0, .int n] (dr d :: T) = .ok (.int (drK d n)) (dr (drN d n) :: T) := by
  obtain ⟨y, e⟩ := m38 d T n
  have e0 : ev0 4 [.ref 0, .int n] = [some (.ref 0), some (.int n), none, none] := rfl
  unfold m_law_draw mFn
  rw [e0]
  simp only [mSeq, e]
  by_cases hb : 0 < (drS d).b
  · simp [m_law_draw_s8, m_law_draw_s9, m_law_draw_s10, m_law_draw_s11, mNext, mSeq, mRet, mIfS, mTest, mOp, mVar, mC, mCallF, mCons, mNil, mSub, mAsg, tgName, oS, toB, toR, idxM, seqOf, lstOf, atI, ixN, cmpI, intM, modM, fdivM, setM, dr, drK, drN, hb, h0, h1]
  · simp [m_law_draw_s8, m_law_draw_s9, m_law_draw_s10, m_law_draw_s11, m_law_draw_s12, mNext, mSeq, mRet, mIfS, mTest, mOp, mVar, mC, mCallF, mCons, mNil, mSub, mAsg, tgName, oS, toB, toR, idxM, seqOf, lstOf, atI, ixN, cmpI, intM, mulM, modM, fdivM, setM, dr, drK, drN, hb, h0, h1]
theorem drK_lt (d : Dr) (n : Int) (h0 : 0 < n) : 0 ≤ drK d n ∧ drK d n < n := by
  unfold drK
  split
  · exact ⟨Int.emod_nonneg _ (by omega), Int.emod_lt_of_pos _ h0⟩
  · exact ⟨Int.emod_nonneg _ (by omega), Int.emod_lt_of_pos _ h0⟩
end Lw
set_option Elab.async false
set_option linter.all false
set_option maxRecDepth 10000
set_option maxHeartbeats 400000
namespace Lw
open PySem PySem.Spec PyProof.Rows L2 Mi
theorem draw {d : Dr} {T : Sto} {n : Nat} (h0 : 0 < n) (h1 : n ≤ 1000) : ∃ (k : Nat) (d' : Dr), k < n ∧ m_law_draw [.ref 0, .int (n : Nat)] (dr d :: T) = .ok (.int (k : Nat)) (dr d' :: T) := by
  have e := draw_eq d T (n : Int) (by omega) (by omega)
  obtain ⟨a, b⟩ := drK_lt d (n : Int) (by omega)
  refine ⟨(drK d n).toNat, drN d n, by omega, ?_⟩
  rw [e, Int.toNat_of_nonneg a]
theorem pick {xs : List MV} {k : Nat} {S : Sto} (h : k < xs.length) : ∃ x ∈ xs, idxM (.lst xs) (.int (k : Int)) S = .ok x S := ⟨xs[k], List.getElem_mem h, ix_lst (List.getElem?_eq_getElem h)⟩
def lits (ys : List String) : List MV := ys.map fun y : String => MV.str (Str.ofString y)
theorem in_strs {x : Str} {ys : List String} {S : Sto} (hx : sh (.str x) = true) : inM (.str x) (.tup (lits ys)) S = .ok (.bl (ys.any fun y : String => decide (x = Str.ofString y))) S := by
  have s1 : shs (lits ys) = true := shs_map (fun y => sh_lit y) ys
  have d1 : dpts (lits ys) ≤ 0 := dpts_map ys fun _ _ => Nat.le_refl _
  unfold inM
  rw [inB_sh (c := .tup (lits ys)) (ys := lits ys) (.inl rfl) hx s1 (by simp [dpt]) (by omega)]
  have : ∀ ys : List String, decide (cn (.str x) ∈ cns (lits ys)) = ys.any fun y : String => decide (x = Str.ofString y) := fun ys => by
    induction ys with
    | nil => rfl
    | cons y ys ih =>
      rw [lits, List.map_cons, ← lits, cns, List.any_cons, ← ih]
      simp [cn]
      congr
  simp only [this]
theorem fset_last {S : Sto} {c f : Str} {fs : List Str} {ds : List MV} {x : MV} (h : fs.length < 900) : fsetM c f (.ref S.length) x (S ++ [.obj c fs ds]) = some (S ++ [.obj c (fput fs ds f x).1 (fput fs ds f x).2]) := by
  unfold fsetM
  simp [h]
@[simp] theorem w_fset {c f : Str} {e o : ME} {ρ : Ev} {S : Sto} : mFset c f e o ρ S = (e ρ S).thn ρ fun d S1 => (o ρ S1).thn ρ fun od S2 => match fsetM c f od d S2 with
  | some S3 => .nx ρ S3
  | none => .stk := rfl
@[simp] theorem w_ninM {a b : MV} {S : Sto} {k : Bool} (h : inM a b S = .ok (.bl k) S) : ninM a b S = .ok (.bl (!k)) S := by
  unfold inM at h
  unfold ninM
  cases e : inB S a b with
  | none => simp [e] at h
  | some k' => rw [e] at h; cases h; rfl
theorem law_values_eq {S : Sto} : m_law_values [] S = .ok (.lst [.lst [.str "none", .str "room", .str "both"], .lst [.str "keep", .str "move", .str "reset"], .lst [.str "left", .str "undone"], .lst [.str "now", .str "seen"]]) S := by
  simp [m_law_values, mFn, m_law_values_s0]
end Lw
set_option Elab.async false
set_option linter.all false
set_option maxRecDepth 10000
set_option maxHeartbeats 400000
namespace Lw
open PySem PySem.Spec PyProof.Rows L2 Mi
def SOk' (D H : Nat) : Step → Prop
  | .find h => 0 ≤ h ∧ h < H
  | .room h => 0 ≤ h ∧ h < H
  | .person => True
  | .one d h => d < D ∧ 0 ≤ h ∧ h < H
  | .off d => d < D
  | .tell => True
theorem hour_step_eq {d : Dr} {T : Sto} {D H : Nat} (hD : 0 < D) (hD' : D ≤ 1000) (hH : 0 < H) (hH' : H ≤ 1000) : ∃ s d', SOk' D H s ∧ m_law_hour_step [.ref 0, .int (D : Nat), .int (H : Nat)] (dr d :: T) = .ok (pStep s) (dr d' :: T) := by
  obtain ⟨w, d1, h1, e1⟩ := draw (d := d) (T := T) (n := 9) (by decide) (by decide)
  obtain ⟨kH, dH, hH1, eH⟩ := draw (d := d1) (T := T) hH hH'
  obtain ⟨kD, dD, hD1, eD⟩ := draw (d := d1) (T := T) hD hD'
  obtain ⟨kH2, dH2, hH2, eH2⟩ := draw (d := dD) (T := T) hH hH'
  obtain ⟨k2, d2, h2, e2⟩ := draw (d := dD) (T := T) (n := 2) (by decide) (by decide)
  simp at e1 e2
  by_cases w1 : w ≤ 1
  · have w1' : (w : Int) ≤ 1 := by omega
    refine ⟨.find kH, dH, ⟨by omega, by omega⟩, ?_⟩
    simp [m_law_hour_step, mFn, m_law_hour_step_s0, m_law_hour_step_s1, m_law_hour_step_s2, e1, w1', eH, pStep]
  · have w1' : ¬ (w : Int) ≤ 1 := by omega
    by_cases w2 : w ≤ 3
    · have w2' : (w : Int) ≤ 3 := by omega
      refine ⟨.room kH, dH, ⟨by omega, by omega⟩, ?_⟩
      simp [m_law_hour_step, mFn, m_law_hour_step_s0, m_law_hour_step_s1, m_law_hour_step_s3, m_law_hour_step_s4, e1, w1', w2', eH, pStep]
    · have w2' : ¬ (w : Int) ≤ 3 := by omega
      by_cases w3 : w ≤ 5
      · have w3' : (w : Int) ≤ 5 := by omega
        refine ⟨.person, d1, trivial, ?_⟩
        simp [m_law_hour_step, mFn, m_law_hour_step_s0, m_law_hour_step_s1, m_law_hour_step_s3, m_law_hour_step_s5, m_law_hour_step_s6, e1, w1', w2', w3', pStep]
      · have w3' : ¬ (w : Int) ≤ 5 := by omega
        by_cases w4 : w = 6
        · have w4' : (w : Int) = 6 := by omega
          refine ⟨.one kD kH2, dH2, ⟨hD1, by omega, by omega⟩, ?_⟩
          simp [m_law_hour_step, mFn, m_law_hour_step_s0, m_law_hour_step_s1, m_law_hour_step_s3, m_law_hour_step_s5, m_law_hour_step_s7, m_law_hour_step_s8, e1, w1', w2', w3', w4', eD, eH2, pStep]
        · have w4' : ¬ (w : Int) = 6 := by omega
          by_cases w5 : w = 8
          · have w5' : (w : Int) = 8 := by omega
            by_cases k0 : k2 = 0
            · have k0' : (k2 : Int) = 0 := by omega
              refine ⟨.off kD, d2, hD1, ?_⟩
              simp [m_law_hour_step, mFn, m_law_hour_step_s0, m_law_hour_step_s1, m_law_hour_step_s3, m_law_hour_step_s5, m_law_hour_step_s7, m_law_hour_step_s9, e1, w1', w2', w3', w4', w5', k0, eD, e2, pStep]
            · have k0' : ¬ (k2 : Int) = 0 := by omega
              refine ⟨.tell, d2, trivial, ?_⟩
              simp [m_law_hour_step, mFn, m_law_hour_step_s0, m_law_hour_step_s1, m_law_hour_step_s3, m_law_hour_step_s5, m_law_hour_step_s7, m_law_hour_step_s9, e1, w1', w2', w3', w4', w5', k0, eD, e2, pStep]
          · have w5' : ¬ (w : Int) = 8 := by omega
            refine ⟨.tell, dD, trivial, ?_⟩
            simp [m_law_hour_step, mFn, m_law_hour_step_s0, m_law_hour_step_s1, m_law_hour_step_s3, m_law_hour_step_s5, m_law_hour_step_s7, m_law_hour_step_s9, e1, w1', w2', w3', w4', w5', eD, pStep]
/-- a comprehension whose items draw -/
theorem lc_draw {α : Type} {ok : Sto → Bool} {g : Tg} {te : ME} {ρ : Ev} {T : Sto} (enc : α → MV) (P : α → Prop) (hok : ∀ d, ok (dr d :: T) = true) (h : ∀ x d, ∃ y d', P y ∧ turnE g te x ρ (dr d :: T) = .ok (enc y) (dr d' :: T)) :
    ∀ (xs : List MV) (acc : List α) (d : Dr), ∃ ys d', (∀ y ∈ ys, P y) ∧ ys.length = xs.length ∧ lcGo ok g mTrue te ρ xs (acc.map enc) (dr d :: T) = .ok ((acc ++ ys).map enc) (dr d' :: T)
  | [], acc, d => ⟨[], d, by simp, rfl, by simp [lcGo, hok]⟩
  | x :: xs, acc, d => by
    obtain ⟨y, d1, p1, e1⟩ := h x d
    obtain ⟨ys, d2, p2, l2, e2⟩ := lc_draw enc P hok h xs (acc ++ [y]) d1
    refine ⟨y :: ys, d2, fun z hz => ?_, by simp [l2], ?_⟩
    · obtain e | e := List.mem_cons.mp hz
      · rw [e]; exact p1
      · exact p2 z e
    · rw [lcGo, if_pos (hok d)]
      unfold turnE at e1
      cases e3 : g.f x ρ with
      | none => rw [e3] at e1; cases e1
      | some ρ1 =>
        rw [e3] at e1
        have e1 : te ρ1 (dr d :: T) = .ok (enc y) (dr d1 :: T) := e1
        simp only [w_true, R.calm_ok, R.bind_ok, if_true, e1]
        rw [show acc.map enc ++ [enc y] = (acc ++ [y]).map enc by simp, e2]
        simp
theorem slc_lst {xs : List MV} {lo hi : Option Int} {S : Sto} : slcM (.lst xs) lo hi S = .ok (.lst (cutM xs lo hi)) S := rfl
def preset (n : Nat) (h : Int) : List Step := ([Step.find h, .room h, .person, .tell].drop (4 - max n 3)).take n
theorem preset_ok {D H n : Nat} {h : Int} (h1 : 0 ≤ h) (h2 : h < H) : ∀ s ∈ preset n h, SOk' D H s := by
  intro s hs
  have := List.mem_of_mem_drop (List.mem_of_mem_take hs)
  simp at this
  rcases this with rfl | rfl | rfl | rfl
  · exact ⟨h1, h2⟩
  · exact ⟨h1, h2⟩
  · trivial
  · trivial
/-- the steps of a hand, from its draws -/
theorem hand_draw {a0 a2 a3 a4 a5 a6 a7 a8 : Option MV} {d : Dr} {T : Sto} {D H many size : Nat} {sz : MV} {x10 x11 x12 x13 : Option MV} {acc : List MV} (hD : 0 < D) (hD' : D ≤ 2) (hH : 0 < H) (hH' : H ≤ 3) (hm : 0 < many) (hm' : many ≤ 3) (hs : 1 ≤ size) (hs' : size ≤ 4) {n : Nat} (hn : n = T.length + 1) (ha : acc.length ≤ 1000) :
    ∃ (h : Nat × List Step) (d' : Dr) (y10 y11 y13 : Option MV), h.1 < many ∧ h.2.length = size ∧ (∀ s ∈ h.2, SOk' D H s) ∧
      mSeq m_law_world_s8 (mSeq m_law_world_s9 (mSeq m_law_world_s10 m_law_world_s13)) [some (.ref 0), some sz, some (.int (D : Nat)), some (.int (H : Nat)), some (.int (many : Nat)), a5, a6, a7, some (.ref n), some (.int (size : Nat)), x10, x11, none, x13] (dr d :: (T ++ [.lst acc])) =
        .nx [some (.ref 0), some sz, some (.int (D : Nat)), some (.int (H : Nat)), some (.int (many : Nat)), a5, a6, a7, some (.ref n), some (.int (size : Nat)), y10, y11, none, y13] (dr d' :: (T ++ [.lst (acc ++ [pHand h])])) := by
  have zs := line_k (n := size) (by omega)
  obtain ⟨w, d1, h1, e1⟩ := draw (d := d) (T := T ++ [.lst acc]) hm (by omega)
  obtain ⟨ys, d2, p2, l2, e2⟩ := lc_draw (ok := fun _ => true) (g := tgName 12) (te := mCallF m_law_hour_step (mCons (mVar 0) (mCons (mVar 2) (mCons (mVar 3) mNil)))) (ρ := [some (.ref 0), some sz, some (.int (D : Nat)), some (.int (H : Nat)), some (.int (many : Nat)), a5, a6, a7, some (.ref n), some (.int (size : Nat)), some (.int (w : Nat)), x11, none, x13]) (T := T ++ [.lst acc]) pStep (SOk' D H) (fun _ => rfl) (fun x d => by
    obtain ⟨s, d', ps, es⟩ := hour_step_eq (d := d) (T := T ++ [.lst acc]) hD (by omega) hH (by omega)
    exact ⟨s, d', ps, by simp [es]⟩) ((List.range size).map pNat) [] d1
  obtain ⟨c, d3, h3, e3⟩ := draw (d := d2) (T := T ++ [.lst acc]) (n := 2) (by decide) (by decide)
  obtain ⟨hh, d4, h4, e4⟩ := draw (d := d3) (T := T ++ [.lst acc]) hH (by omega)
  have e3 : m_law_draw [.ref 0, .int 2] (dr d2 :: (T ++ [.lst acc])) = .ok (.int (c : Nat)) (dr d3 :: (T ++ [.lst acc])) := e3
  simp only [List.map_nil, List.nil_append] at e2
  have ap : ∀ (d : Dr) (x : MV), (isLst (dr d :: (T ++ [.lst acc])) (.ref n) = true) ∧ appM (.ref n) x (dr d :: (T ++ [.lst acc])) = .ok .non (dr d :: (T ++ [.lst (acc ++ [x])])) := by
    intro d x
    have hz := sizeLine_eq
    have g : (dr d :: (T ++ [.lst acc]))[n]? = some (.lst acc) := by
      rw [hn, List.getElem?_cons_succ, List.getElem?_append_right (Nat.le_refl _)]; simp
    refine ⟨by simp [isLst, lstOf, g], ?_⟩
    unfold appM
    simp only [g]
    rw [if_pos (by omega), hn, List.set_cons_succ]
    simp
  have apA : ∀ d : Dr, isLst (dr d :: (T ++ [.lst acc])) (.ref n) = true := fun d => (ap d .non).1
  have apB : ∀ (d : Dr) (x : MV), appM (.ref n) x (dr d :: (T ++ [.lst acc])) = .ok .non (dr d :: (T ++ [.lst (acc ++ [x])])) := fun d x => (ap d x).2
  have hl : ys.length = size := by simpa using l2
  by_cases hc : c = 0 ∧ 2 ≤ size
  · have hc1 : c = 0 := hc.1
    have hc2 : (2 : Int) ≤ (size : Int) := by omega
    refine ⟨(w, preset size hh), d4, some (.int (w : Nat)), some (.lst ((preset size hh).map pStep)), some (.int (hh : Nat)), h1, ?_, preset_ok (by omega) (by omega), ?_⟩
    · have : size = 2 ∨ size = 3 ∨ size = 4 := by omega
      rcases this with r | r | r <;> subst r <;> rfl
    · have cut : cutM (cutM [MV.tup [.str "find", .int (hh : Nat)], .tup [.str "room", .int (hh : Nat)], .tup [.str "person"], .tup [.str "tell"]] (some (4 - if (3 : Int) > (size : Int) then 3 else (size : Int))) none) none (some (size : Int)) = (preset size hh).map pStep := by
        have : size = 2 ∨ size = 3 ∨ size = 4 := by omega
        rcases this with r | r | r <;> subst r <;> rfl
      simp [m_law_world_s8, m_law_world_s9, m_law_world_s10, m_law_world_s11, m_law_world_s12, m_law_world_s13, e1, rng_nat (show size ≤ 1000 by omega), zs, e2, e3, hc1, hc2, e4, maxM, slc_lst, cut, apA, apB, pHand]
  · refine ⟨(w, ys), d3, some (.int (w : Nat)), some (.lst (ys.map pStep)), x13, h1, hl, p2, ?_⟩
    simp [m_law_world_s8, m_law_world_s9, m_law_world_s10, m_law_world_s13, e1, rng_nat (show size ≤ 1000 by omega), zs, e2, e3, apA, apB, pHand]
    by_cases c0 : c = 0
    · have c1 : ¬ (2 : Int) ≤ (size : Int) := fun h => hc ⟨c0, by omega⟩
      simp [c0, c1]
    · simp [c0]
/-- a world of the draws -/
structure SzOk (sizes : List Nat) : Prop where
  l1 : 1 ≤ sizes.length
  l2 : sizes.length ≤ 3
  s : ∀ n ∈ sizes, 1 ≤ n ∧ n ≤ 4
  sum : sizes.sum ≤ 8
theorem world_loop {d : Dr} {T : Sto} {D H many : Nat} {sz : MV} {a5 a6 a7 : Option MV} (hD : 0 < D) (hD' : D ≤ 2) (hH : 0 < H) (hH' : H ≤ 3) (hm : 0 < many) (hm' : many ≤ 3) {n : Nat} (hn : n = T.length + 1) (all : List Nat) (hsz : seqOf (dr d :: T) sz = some (all.map pNat) ∧ ∀ d' acc, seqOf (dr d' :: (T ++ [.lst acc])) sz = some (all.map pNat)) :
    ∀ (sizes : List Nat) (d : Dr) (x9 x10 x11 x13 : Option MV) (hs : List (Nat × List Step)), (∀ n ∈ sizes, 1 ≤ n ∧ n ≤ 4) → hs.length + sizes.length ≤ 1000 →
      ∃ (hs' : List (Nat × List Step)) (d' : Dr) (y9 y10 y11 y13 : Option MV), hs'.map (fun h => h.2.length) = sizes ∧ (∀ h ∈ hs', h.1 < many ∧ ∀ s ∈ h.2, SOk' D H s) ∧
        forGo (fun S => Src.ok S (.seq sz (all.map pNat))) (tgName 9) (mSeq m_law_world_s8 (mSeq m_law_world_s9 (mSeq m_law_world_s10 m_law_world_s13))) (sizes.map pNat) [some (.ref 0), some sz, some (.int (D : Nat)), some (.int (H : Nat)), some (.int (many : Nat)), a5, a6, a7, some (.ref n), x9, x10, x11, none, x13] (dr d :: (T ++ [.lst (hs.map pHand)])) =
          .nx [some (.ref 0), some sz, some (.int (D : Nat)), some (.int (H : Nat)), some (.int (many : Nat)), a5, a6, a7, some (.ref n), y9, y10, y11, none, y13] (dr d' :: (T ++ [.lst ((hs ++ hs').map pHand)]))
  | [], d, x9, x10, x11, x13, hs, _, _ => ⟨[], d, x9, x10, x11, x13, rfl, by simp, by
      have : Src.ok (dr d :: (T ++ [.lst (hs.map pHand)])) (.seq sz (all.map pNat)) = true := decide_eq_true (hsz.2 _ _)
      simp [forGo, this]⟩
  | size :: sizes, d, x9, x10, x11, x13, hs, h, hl => by
    obtain ⟨s1, s2⟩ := h size List.mem_cons_self
    obtain ⟨hd, d1, y10, y11, y13, p1, p2, p3, e1⟩ := hand_draw (a0 := none) (a2 := none) (a3 := none) (a4 := none) (a8 := none) (a5 := a5) (a6 := a6) (a7 := a7) (d := d) (T := T) (sz := sz) (x10 := x10) (x11 := x11) (x12 := none) (x13 := x13) (acc := hs.map pHand) hD hD' hH hH' hm hm' s1 s2 hn (by simp at hl ⊢; omega)
    obtain ⟨hs', d2, z9, z10, z11, z13, q1, q2, e2⟩ := world_loop hD hD' hH hH' hm hm' hn all hsz sizes d1 (some (.int (size : Nat))) y10 y11 y13 (hs ++ [hd]) (fun n hn => h n (List.mem_cons_of_mem _ hn)) (by simp at hl ⊢; omega)
    refine ⟨hd :: hs', d2, z9, z10, z11, z13, by simp [p2, q1], fun x hx => ?_, ?_⟩
    · obtain e | e := List.mem_cons.mp hx
      · rw [e]; exact ⟨p1, p3⟩
      · exact q2 x e
    · have ok : Src.ok (dr d :: (T ++ [.lst (hs.map pHand)])) (.seq sz (all.map pNat)) = true := decide_eq_true (hsz.2 _ _)
      rw [List.map_cons, forGo_cons ok, turn_name]
      simp only [List.set_cons_succ, List.set_cons_zero, pNat]
      rw [e1, nxt_nx, show hs.map pHand ++ [pHand hd] = (hs ++ [hd]).map pHand by simp]
      rw [e2]
      simp
end Lw
set_option Elab.async false
set_option linter.all false
set_option maxRecDepth 10000
set_option maxHeartbeats 400000
namespace Lw
open PySem PySem.Spec Mi
def people : Nat → List Int
  | 0 => [0, 0, 0]
  | 1 => [0, 0, 1]
  | 2 => [0, 1, 2]
  | _ => [1, 1, 0]
theorem people_ok (k j : Nat) : 0 ≤ (people k).getD j 0 ∧ (people k).getD j 0 ≤ 2 := by
  unfold people
  split <;> (rcases j with _ | _ | _ | j <;> simp)
theorem people_len (k : Nat) : (people k).length = 3 := by unfold people; split <;> rfl
theorem nd_mod {H t m : Nat} (h1 : 2 ≤ H) (h2 : H ≤ 3) (hm : m ≤ H) : ((List.range m).map fun (k : Nat) => (((k : Int) + (t : Int)) % (H : Int))).Nodup := by
  unfold List.Nodup
  rw [List.pairwise_map]
  refine (List.pairwise_lt_range (n := m)).imp_of_mem fun {a b} ha hb hab => ?_
  have ha := List.mem_range.mp ha
  have hb := List.mem_range.mp hb
  have : H = 2 ∨ H = 3 := by omega
  rcases this with r | r <;> subst r <;> omega
theorem law_world_sz {sizes : List Nat} (hz : SzOk sizes) {d : Dr} {T : Sto} : ∃ W d', WOk W ∧ (W.hands.map fun h => h.2.length) = sizes ∧ m_law_world [.ref 0, .lst (sizes.map pNat)] (dr d :: T) = .ok (pWorld W) (dr d' :: (T ++ [.lst (W.hands.map pHand)])) := by
  obtain ⟨k1, d1, h1, e1⟩ := draw (d := d) (T := T) (n := 2) (by decide) (by decide)
  obtain ⟨k2, d2, h2, e2⟩ := draw (d := d1) (T := T) (n := 2) (by decide) (by decide)
  obtain ⟨k3, d3, h3, e3⟩ := draw (d := d2) (T := T) (n := 2 + k2) (by omega) (by omega)
  obtain ⟨k4, d4, h4, e4⟩ := draw (d := d3) (T := T) (n := 4) (by decide) (by decide)
  obtain ⟨t, d5, h5, e5⟩ := draw (d := d4) (T := T) (n := 2 + k2) (by omega) (by omega)
  have e1 : m_law_draw [.ref 0, .int 2] (dr d :: T) = .ok (.int (k1 : Nat)) (dr d1 :: T) := e1
  have e2 : m_law_draw [.ref 0, .int 2] (dr d1 :: T) = .ok (.int (k2 : Nat)) (dr d2 :: T) := e2
  have e4 : m_law_draw [.ref 0, .int 4] (dr d3 :: T) = .ok (.int (k4 : Nat)) (dr d4 :: T) := e4
  have hs := world_loop (d := d5) (T := T) (D := 1 + k1) (H := 2 + k2) (many := 1 + k3) (sz := .lst (sizes.map pNat)) (a5 := some (.lst ((people k4).map .int))) (a6 := some (.int (t : Nat))) (a7 := some (.lst (((List.range (1 + k3)).map fun k => ((people k4).getD k 0, (((k : Int) + (t : Int)) % ((2 + k2 : Nat) : Int)))).map pSer))) (by omega) (by omega) (by omega) (by omega) (by omega) (by omega) (n := T.length + 1) rfl sizes ⟨rfl, fun _ _ => rfl⟩ sizes d5 none none none none [] hz.s (by have := hz.l2; simp; omega)
  obtain ⟨hs', d6, y9, y10, y11, y13, q1, q2, eL⟩ := hs
  refine ⟨⟨1 + k1, 2 + k2, (List.range (1 + k3)).map fun k => ((people k4).getD k 0, (((k : Int) + (t : Int)) % ((2 + k2 : Nat) : Int))), hs'⟩, d6, ?_, q1, ?_⟩
  · have len : hs'.length = sizes.length := by have := congrArg List.length q1; simpa using this
    refine ⟨by simp, by show 1 + k1 ≤ 2; omega, by show 2 ≤ 2 + k2; omega, by show 2 + k2 ≤ 3; omega, by simp, by simp; omega, ?_, ?_, by show 1 ≤ hs'.length; rw [len]; exact hz.l1, by show hs'.length ≤ 3; rw [len]; exact hz.l2, ?_, ?_⟩
    · intro x hx
      simp only [List.mem_map, List.mem_range] at hx
      obtain ⟨k, hk, rfl⟩ := hx
      have := people_ok k4 k
      refine ⟨this.1, this.2, Int.emod_nonneg _ (by omega), Int.emod_lt_of_pos _ (by omega)⟩
    · have := nd_mod (H := 2 + k2) (t := t) (m := 1 + k3) (by omega) (by omega) (by omega)
      simpa [Function.comp_def] using this
    · intro h hh
      obtain ⟨p1, p2⟩ := q2 h hh
      have : h.2.length ∈ sizes := by rw [← q1]; exact List.mem_map_of_mem hh
      refine ⟨by simpa using p1, (hz.s _ this).1, (hz.s _ this).2, fun s hs => ?_⟩
      have := p2 s hs
      cases s <;> simpa [SOk, SOk'] using this
    · show (hs'.map fun h => h.2.length).sum ≤ 8
      rw [q1]; exact hz.sum
  · have c1 : (1 : Int) + (k1 : Int) = ((1 + k1 : Nat) : Int) := by omega
    have c2 : (2 : Int) + (k2 : Int) = ((2 + k2 : Nat) : Int) := by omega
    have c3 : (1 : Int) + (k3 : Int) = ((1 + k3 : Nat) : Int) := by omega
    have z1 := line_k (n := 1 + k3) (by omega)
    have pk : ∀ S, idxM (.lst [.lst [.int 0, .int 0, .int 0], .lst [.int 0, .int 0, .int 1], .lst [.int 0, .int 1, .int 2], .lst [.int 1, .int 1, .int 0]]) (.int (k4 : Nat)) S = .ok (.lst ((people k4).map .int)) S := fun S => by
      have : k4 = 0 ∨ k4 = 1 ∨ k4 = 2 ∨ k4 = 3 := by omega
      rcases this with r | r | r | r <;> subst r <;> rfl
    have w0 : m_law_world_s0 [some (.ref 0), some (.lst (sizes.map pNat)), none, none, none, none, none, none, none, none, none, none, none, none] (dr d :: T) = .nx [some (.ref 0), some (.lst (sizes.map pNat)), some (.int ((1 + k1 : Nat) : Int)), none, none, none, none, none, none, none, none, none, none, none] (dr d1 :: T) := by
      rw [← c1]; simp [m_law_world_s0, e1]
    have w1 : m_law_world_s1 [some (.ref 0), some (.lst (sizes.map pNat)), some (.int ((1 + k1 : Nat) : Int)), none, none, none, none, none, none, none, none, none, none, none] (dr d1 :: T) = .nx [some (.ref 0), some (.lst (sizes.map pNat)), some (.int ((1 + k1 : Nat) : Int)), some (.int ((2 + k2 : Nat) : Int)), none, none, none, none, none, none, none, none, none, none] (dr d2 :: T) := by
      rw [← c2]; simp [m_law_world_s1, e2]
    have w2 : m_law_world_s2 [some (.ref 0), some (.lst (sizes.map pNat)), some (.int ((1 + k1 : Nat) : Int)), some (.int ((2 + k2 : Nat) : Int)), none, none, none, none, none, none, none, none, none, none] (dr d2 :: T) = .nx [some (.ref 0), some (.lst (sizes.map pNat)), some (.int ((1 + k1 : Nat) : Int)), some (.int ((2 + k2 : Nat) : Int)), some (.int ((1 + k3 : Nat) : Int)), none, none, none, none, none, none, none, none, none] (dr d3 :: T) := by
      unfold m_law_world_s2
      rw [← c3]
      simp only [w_asg, w_op, w_c, w_callF, w_cons, w_nil, w_var', List.getElem?_cons_succ, List.getElem?_cons_zero, R.bind_ok, e3, Mi.add_int, R.thn_ok, w_name, w_oS, List.set_cons_succ, List.set_cons_zero]
    have w3 : m_law_world_s3 [some (.ref 0), some (.lst (sizes.map pNat)), some (.int ((1 + k1 : Nat) : Int)), some (.int ((2 + k2 : Nat) : Int)), some (.int ((1 + k3 : Nat) : Int)), none, none, none, none, none, none, none, none, none] (dr d3 :: T) = .nx [some (.ref 0), some (.lst (sizes.map pNat)), some (.int ((1 + k1 : Nat) : Int)), some (.int ((2 + k2 : Nat) : Int)), some (.int ((1 + k3 : Nat) : Int)), some (.lst ((people k4).map .int)), none, none, none, none, none, none, none, none] (dr d4 :: T) := by
      simp [m_law_world_s3, e4, pk]
    have w4 : m_law_world_s4 [some (.ref 0), some (.lst (sizes.map pNat)), some (.int ((1 + k1 : Nat) : Int)), some (.int ((2 + k2 : Nat) : Int)), some (.int ((1 + k3 : Nat) : Int)), some (.lst ((people k4).map .int)), none, none, none, none, none, none, none, none] (dr d4 :: T) = .nx [some (.ref 0), some (.lst (sizes.map pNat)), some (.int ((1 + k1 : Nat) : Int)), some (.int ((2 + k2 : Nat) : Int)), some (.int ((1 + k3 : Nat) : Int)), some (.lst ((people k4).map .int)), some (.int (t : Nat)), none, none, none, none, none, none, none] (dr d5 :: T) := by
      unfold m_law_world_s4
      simp only [w_asg, w_op, w_c, w_callF, w_cons, w_nil, w_var', List.getElem?_cons_succ, List.getElem?_cons_zero, R.bind_ok, e5, Mi.add_int, R.thn_ok, w_name, w_oS, List.set_cons_succ, List.set_cons_zero]
    have w5 : m_law_world_s5 [some (.ref 0), some (.lst (sizes.map pNat)), some (.int ((1 + k1 : Nat) : Int)), some (.int ((2 + k2 : Nat) : Int)), some (.int ((1 + k3 : Nat) : Int)), some (.lst ((people k4).map .int)), some (.int (t : Nat)), none, none, none, none, none, none, none] (dr d5 :: T) = .nx [some (.ref 0), some (.lst (sizes.map pNat)), some (.int ((1 + k1 : Nat) : Int)), some (.int ((2 + k2 : Nat) : Int)), some (.int ((1 + k3 : Nat) : Int)), some (.lst ((people k4).map .int)), some (.int (t : Nat)), some (.lst (((List.range (1 + k3)).map fun k => ((people k4).getD k 0, (((k : Int) + (t : Int)) % ((2 + k2 : Nat) : Int)))).map pSer)), none, none, none, none, none, none] (dr d5 :: T) := by
      unfold m_law_world_s5
      have z2 : ((List.range (1 + k3)).map pNat).length ≤ sizeLine := by simpa using z1
      simp only [w_asg, w_lc', w_rng, w_cons, w_nil, w_var', List.getElem?_cons_succ, List.getElem?_cons_zero, R.bind_ok, rng_nat (show 1 + k3 ≤ 1000 by omega), it_rng, z2, if_true, w_wipe0, w_wipe1, List.set_cons_succ, List.set_cons_zero]
      rw [lc_map pNat (fun k => pSer ((people k4).getD k 0, (((k : Int) + (t : Int)) % ((2 + k2 : Nat) : Int)))) (List.range (1 + k3)) rfl rfl]
      · simp
      · intro k hk
        have hk : k < 1 + k3 := List.mem_range.mp hk
        have ip : ∀ S, idxM (.lst ((people k4).map .int)) (.int (k : Nat)) S = .ok (.int ((people k4).getD k 0)) S := fun S => ix_lst (by rw [List.getElem?_map, getD_at (d := 0) (by rw [people_len]; omega)]; rfl)
        have md : ∀ S, modM (.int ((k : Int) + (t : Int))) (.int ((2 + k2 : Nat) : Int)) S = .ok (.int (((k : Int) + (t : Int)) % ((2 + k2 : Nat) : Int))) S := fun S => mod_int (by omega) (by omega)
        simp only [turnE_name, w_tup, w_cons, w_nil, w_op, w_var', List.set_cons_succ, List.set_cons_zero, List.getElem?_cons_succ, List.getElem?_cons_zero, R.bind_ok, pNat, ip, Mi.add_int, md, pSer]
    have w6 : ∀ a7, m_law_world_s6 [some (.ref 0), some (.lst (sizes.map pNat)), some (.int ((1 + k1 : Nat) : Int)), some (.int ((2 + k2 : Nat) : Int)), some (.int ((1 + k3 : Nat) : Int)), some (.lst ((people k4).map .int)), some (.int (t : Nat)), a7, none, none, none, none, none, none] (dr d5 :: T) = .nx [some (.ref 0), some (.lst (sizes.map pNat)), some (.int ((1 + k1 : Nat) : Int)), some (.int ((2 + k2 : Nat) : Int)), some (.int ((1 + k3 : Nat) : Int)), some (.lst ((people k4).map .int)), some (.int (t : Nat)), a7, some (.ref (T.length + 1)), none, none, none, none, none] (dr d5 :: (T ++ [.lst (([] : List (Nat × List Step)).map pHand)])) := fun a7 => rfl
    have tq : tupM [.ref (T.length + 1)] (dr d6 :: (T ++ [.lst (hs'.map pHand)])) = .ok (.tup (hs'.map pHand)) (dr d6 :: (T ++ [.lst (hs'.map pHand)])) := by
      have g : seqOf (dr d6 :: (T ++ [.lst (hs'.map pHand)])) (.ref (T.length + 1)) = some (hs'.map pHand) := seq_ref.mpr (by rw [List.getElem?_cons_succ, List.getElem?_append_right (Nat.le_refl _)]; simp)
      unfold tupM; simp only [g]
    have w7 : m_law_world_s7 [some (.ref 0), some (.lst (sizes.map pNat)), some (.int ((1 + k1 : Nat) : Int)), some (.int ((2 + k2 : Nat) : Int)), some (.int ((1 + k3 : Nat) : Int)), some (.lst ((people k4).map .int)), some (.int (t : Nat)), some (.lst (((List.range (1 + k3)).map fun k => ((people k4).getD k 0, (((k : Int) + (t : Int)) % ((2 + k2 : Nat) : Int)))).map pSer)), some (.ref (T.length + 1)), none, none, none, none, none] (dr d5 :: (T ++ [.lst (([] : List (Nat × List Step)).map pHand)])) = .nx [some (.ref 0), some (.lst (sizes.map pNat)), some (.int ((1 + k1 : Nat) : Int)), some (.int ((2 + k2 : Nat) : Int)), some (.int ((1 + k3 : Nat) : Int)), some (.lst ((people k4).map .int)), some (.int (t : Nat)), some (.lst (((List.range (1 + k3)).map fun k => ((people k4).getD k 0, (((k : Int) + (t : Int)) % ((2 + k2 : Nat) : Int)))).map pSer)), some (.ref (T.length + 1)), y9, y10, y11, none, y13] (dr d6 :: (T ++ [.lst (hs'.map pHand)])) := by
      rw [List.nil_append] at eL
      rw [← eL]
      rfl
    have st : ev0 14 [.ref 0, .lst (sizes.map pNat)] = [some (.ref 0), some (.lst (sizes.map pNat)), none, none, none, none, none, none, none, none, none, none, none, none] := rfl
    simp only [m_law_world, mFn, st]
    rw [w_seq', w0, nxt_nx, w_seq', w1, nxt_nx, w_seq', w2, nxt_nx, w_seq', w3, nxt_nx, w_seq', w4, nxt_nx, w_seq', w5, nxt_nx, w_seq', w6, nxt_nx, w_seq', w7, nxt_nx]
    simp only [m_law_world_s14, w_ret, w_tup, w_cons, w_nil, w_callF, w_var', List.getElem?_cons_succ, List.getElem?_cons_zero, R.bind_ok, tup_lst, tq, R.thn_ok, w_toR]
    rfl
theorem law_world_eq {sizes : List Nat} (hz : SzOk sizes) {d : Dr} {T : Sto} : ∃ W d', WOk W ∧ m_law_world [.ref 0, .lst (sizes.map pNat)] (dr d :: T) = .ok (pWorld W) (dr d' :: (T ++ [.lst (W.hands.map pHand)])) :=
  let ⟨W, d', w, _, e⟩ := law_world_sz hz
  ⟨W, d', w, e⟩
end Lw
set_option Elab.async false
set_option linter.all false
set_option maxRecDepth 10000
set_option maxHeartbeats 400000
namespace Lw
open PySem PySem.Spec Mi
def SeenOk (D : Nat) (s : WS) : Prop := ∀ m ∈ s.mems, ∀ h, m.seen = some h → h.length = D
theorem nextT_seen {p : Par} {W : World} {s : WS} {n : Nat} (ok : StOk W s) (sk : SeenOk W.D s) (hk : (handAt W n).1 < s.rows.length) (hn : n < s.mems.length) :
    (∀ h, (nextT p W s n).2.1.seen = some h → h.length = W.D) ∧ ∀ h, (nextT p W s n).1 = .hrs h → h.length = W.D := by
  have hl : (hrs (rowAt s.rows (handAt W n).1)).length = W.D := by simp [hrs, ok.wide.at hk]
  have hm : ∀ h, (memAt s n).seen = some h → h.length = W.D := sk _ (List.mem_of_getElem? (mem_at hn))
  unfold nextT
  cases es : stepAt W s n with
  | find x => exact ⟨fun h e => by cases e; exact hl, fun h e => by cases e⟩
  | tell =>
    have : (if p.t = "seen" then (memAt s n).seen.getD (hrs (rowAt s.rows (handAt W n).1)) else hrs (rowAt s.rows (handAt W n).1)).length = W.D := by
      split
      · cases e : (memAt s n).seen with
        | none => exact hl
        | some h => exact hm h e
      · exact hl
    exact ⟨fun h e => by cases e; exact this, fun h e => by cases e; exact this⟩
  | _ =>
    have hw : (stepAt W s n).word ≠ "find" ∧ (stepAt W s n).word ≠ "tell" := by rw [es]; simp [Step.word]
    have kp := (stepT_keep (p := p) (H := W.H) (rs := s.rows) (k := (handAt W n).1) (m := memAt s n) hw).2
    rw [es] at kp
    refine ⟨fun h e => hm h (by rw [← kp, e]), fun h e => ?_⟩
    exfalso
    revert e
    first
      | (rw [stepT]; cases (if (memAt s n).found = some false then none else roomSet p.c p.s W.H s.rows (handAt W n).1 _) <;> simp [fin]; done)
      | (rw [stepT]
         cases personSet p.c s.rows (handAt W n).1 with
         | some x => simp
         | none =>
           dsimp only
           split
           · cases (memAt s n).old <;> simp
           · simp)
      | (rw [stepT]; cases oneSet p.c s.rows (handAt W n).1 _ _ <;> simp [fin]; done)
      | (rw [stepT]; cases offSet s.rows (handAt W n).1 _ <;> simp [fin]; done)
theorem SeenOk.after {p : Par} {W : World} (w : WOk W) {s : WS} {n : Nat} (ok : StOk W s) (sk : SeenOk W.D s) (hn : n < W.hands.length) : SeenOk W.D (afterT p W s n) := by
  have hk : (handAt W n).1 < s.rows.length := by rw [ok.rl]; exact (w.hand _ (List.mem_of_getElem? (hand_at hn))).1
  intro m hm h e
  rcases List.mem_or_eq_of_mem_set hm with hm | hm
  · exact sk m hm h e
  · subst hm; exact (nextT_seen ok sk hk (by rw [ok.ml]; exact hn)).1 h e
theorem sum_set : ∀ (l : List Nat) (n x : Nat), n < l.length → (l.set n (x + 1)).sum = (l.set n x).sum + 1
  | [], _, _, h => by simp at h
  | a :: l, 0, x, _ => by simp; omega
  | a :: l, n + 1, x, h => by
    have := sum_set l n x (by simpa using h)
    simp [this]; omega
theorem set_getD (l : List Nat) (n : Nat) (h : n < l.length) : l.set n (l.getD n 0) = l := by
  apply List.ext_getElem?
  intro i
  by_cases e : i = n
  · subst e; rw [List.getElem?_set_self h, getD_at (d := 0) h]
  · rw [List.getElem?_set_ne (Ne.symm e)]
theorem sum_le : ∀ (a b : List Nat), a.length = b.length → (∀ i, i < a.length → b.getD i 0 ≤ a.getD i 0) → b.sum ≤ a.sum
  | [], [], _, _ => by simp
  | [], _ :: _, ne, _ => by simp at ne
  | _ :: _, [], ne, _ => by simp at ne
  | x :: a, y :: b, h, hi => by
    have h0 := hi 0 (by simp)
    have := sum_le a b (by simpa using h) fun i hl => by
      have := hi (i + 1) (by simpa using hl)
      simpa using this
    simp at h0 ⊢; omega
end Lw
set_option Elab.async false
set_option linter.all false
set_option maxRecDepth 10000
set_option maxHeartbeats 400000
namespace Lw
open PySem PySem.Spec PyProof.Rows L2 Mi
theorem isLst_ref {n : Nat} {xs : List MV} {S : Sto} (h : S[n]? = some (.lst xs)) : isLst S (.ref n) = true := by
  simp [isLst, lstOf, h]
end Lw
set_option Elab.async false
set_option linter.all false
set_option maxRecDepth 10000
set_option maxHeartbeats 400000
set_option Elab.async false
set_option linter.all false
set_option maxRecDepth 10000
set_option maxHeartbeats 400000
namespace Lw
open PySem PySem.Spec PyProof.Rows L2 Mi
abbrev Ent := (WS × WS) × List Nat
def hset (W : World) (s : WS) : List Nat := (List.range W.hands.length).filter fun i => hasT W s i
inductive BR where
  | found (ws : List Nat)
  | more (Q : List Ent)
def keyN (p q : Par) (W : World) (x : WS × WS) (n : Nat) : WS × WS := (afterT p W x.1 n, afterT q W x.2 n)
def addQ (Q : List Ent) (k : WS × WS) (wv : List Nat) : List Ent := if k ∈ Q.map (·.1) then Q else Q ++ [(k, wv)]
def bIn (p q : Par) (W : World) (x : WS × WS) (wv : List Nat) : List Nat → List Ent → BR
  | [], Q => .more Q
  | n :: ns, Q => if (nextT p W x.1 n).1 = (nextT q W x.2 n).1 then bIn p q W x wv ns (addQ Q (keyN p q W x n) (wv ++ [n])) else .found (wv ++ [n])
def bOut (p q : Par) (W : World) : Nat → Nat → List Ent → Option (Option (List Nat))
  | 0, _, _ => none
  | f + 1, a, Q => match Q[a]? with
    | none => some none
    | some e => match bIn p q W e.1 e.2 (hset W e.1.1) Q with
      | .found r => some (some r)
      | .more Q' => bOut p q W f (a + 1) Q'
def tot (W : World) : Nat := (W.hands.map fun h => h.2.length).sum
def wt (W : World) (s : WS) : Nat := 4 ^ (tot W - s.places.sum)
def Phi (W : World) (l : List Ent) : Nat := (l.map fun x => wt W x.1.1).sum
structure EOk (W : World) (e : Ent) : Prop where
  a : StOk W e.1.1
  b : StOk W e.1.2
  pl : e.1.1.places = e.1.2.places
  len : e.2.length = e.1.1.places.sum
theorem addQ_ext {Q : List Ent} {k : WS × WS} {wv : List Nat} : ∃ e, addQ Q k wv = Q ++ e ∧ e.length ≤ 1 ∧ ∀ x ∈ e, x = (k, wv) := by
  unfold addQ
  split
  · exact ⟨[], by simp, by simp, by simp⟩
  · exact ⟨[(k, wv)], rfl, by simp, by simp⟩
theorem bIn_ext {p q : Par} {W : World} {x : WS × WS} {wv : List Nat} : ∀ (ns : List Nat) (Q Q' : List Ent), bIn p q W x wv ns Q = .more Q' →
    ∃ e, Q' = Q ++ e ∧ e.length ≤ ns.length ∧ ∀ y ∈ e, ∃ n ∈ ns, y = (keyN p q W x n, wv ++ [n])
  | [], Q, Q', h => by
    rw [bIn] at h; cases h
    exact ⟨[], by simp, by simp, by simp⟩
  | n :: ns, Q, Q', h => by
    rw [bIn] at h
    split at h
    · obtain ⟨e, h1, h2, h3⟩ := bIn_ext ns _ _ h
      obtain ⟨e', g1, g2, g3⟩ := addQ_ext (Q := Q) (k := keyN p q W x n) (wv := wv ++ [n])
      refine ⟨e' ++ e, by rw [h1, g1, List.append_assoc], by simp; omega, fun y hy => ?_⟩
      obtain z | z := List.mem_append.mp hy
      · exact ⟨n, List.mem_cons_self, g3 y z⟩
      · obtain ⟨m, hm, e2⟩ := h3 y z
        exact ⟨m, List.mem_cons_of_mem _ hm, e2⟩
    · cases h
theorem hset_mem {W : World} {s : WS} {n : Nat} : n ∈ hset W s ↔ n < W.hands.length ∧ hasT W s n = true := by simp [hset]
theorem hset_len {W : World} {s : WS} : (hset W s).length ≤ W.hands.length := by
  have := List.length_filter_le (fun i => hasT W s i) (List.range W.hands.length)
  rw [List.length_range] at this; exact this
theorem has_places {W : World} {a b : WS} (h : a.places = b.places) (n : Nat) : hasT W a n = hasT W b n := by
  unfold hasT placeAt; rw [h]
theorem after_sum {p : Par} {W : World} {s : WS} (ok : StOk W s) {n : Nat} (hn : n < W.hands.length) : (afterT p W s n).places.sum = s.places.sum + 1 := by
  have := sum_set s.places n (placeAt s n) (by rw [ok.pl]; exact hn)
  show (s.places.set n (placeAt s n + 1)).sum = _
  rw [this]
  unfold placeAt
  rw [set_getD _ _ (by rw [ok.pl]; exact hn)]
theorem place_sum {W : World} {s : WS} (ok : StOk W s) : s.places.sum ≤ tot W := by
  refine sum_le _ _ (by rw [List.length_map, ok.pl]) fun i hi => ?_
  have hi : i < W.hands.length := by simpa using hi
  have := ok.place i hi
  rw [show (W.hands.map fun h => h.2.length).getD i 0 = (handAt W i).2.length by
    unfold handAt
    rw [List.getD_eq_getElem?_getD, List.getElem?_map, List.getD_eq_getElem?_getD]
    rw [List.getElem?_eq_getElem hi]; rfl]
  exact this
theorem EOk.next {p q : Par} {W : World} (w : WOk W) {e : Ent} (h : EOk W e) {n : Nat} (hm : n ∈ hset W e.1.1) : EOk W (keyN p q W e.1 n, e.2 ++ [n]) := by
  obtain ⟨hn, hh⟩ := hset_mem.mp hm
  refine ⟨h.a.after w hn hh, h.b.after w hn (by rw [← has_places h.pl]; exact hh), ?_, ?_⟩
  · show e.1.1.places.set n (placeAt e.1.1 n + 1) = e.1.2.places.set n (placeAt e.1.2 n + 1)
    unfold placeAt; rw [h.pl]
  · show (e.2 ++ [n]).length = (afterT p W e.1.1 n).places.sum
    rw [after_sum h.a hn, List.length_append, h.len]; rfl
theorem phi_app {W : World} (a b : List Ent) : Phi W (a ++ b) = Phi W a + Phi W b := by simp [Phi]
theorem phi_le {W : World} {c : Nat} : ∀ (l : List Ent), (∀ x ∈ l, wt W x.1.1 ≤ c) → Phi W l ≤ l.length * c
  | [], _ => by simp [Phi]
  | x :: l, h => by
    have h1 := h x List.mem_cons_self
    have h2 := phi_le l fun y hy => h y (List.mem_cons_of_mem _ hy)
    have : Phi W (x :: l) = wt W x.1.1 + Phi W l := by simp [Phi]
    rw [this, List.length_cons, Nat.succ_mul]; omega
/-- the walk ends -/
theorem bOut_ends {p q : Par} {W : World} (w : WOk W) : ∀ (f a : Nat) (Q : List Ent), (∀ e ∈ Q, EOk W e) → Phi W (Q.drop a) < f → ∃ r, bOut p q W f a Q = some r
  | 0, a, Q, _, h => absurd h (Nat.not_lt_zero _)
  | f + 1, a, Q, ok, h => by
    rw [bOut]
    cases e : Q[a]? with
    | none => exact ⟨none, rfl⟩
    | some x =>
      dsimp only
      have hx : x ∈ Q := List.mem_of_getElem? e
      have okx := ok x hx
      cases e2 : bIn p q W x.1 x.2 (hset W x.1.1) Q with
      | found r => exact ⟨some r, rfl⟩
      | more Q' =>
        dsimp only
        obtain ⟨ext, h1, h2, h3⟩ := bIn_ext _ _ _ e2
        have ha : a < Q.length := (List.getElem?_eq_some_iff.mp e).1
        have ok' : ∀ y ∈ ext, EOk W y := fun y hy => by
          obtain ⟨n, hn, rfl⟩ := h3 y hy
          exact okx.next w hn
        refine bOut_ends w f (a + 1) Q' (fun y hy => ?_) ?_
        · rw [h1] at hy
          obtain z | z := List.mem_append.mp hy
          · exact ok y z
          · exact ok' y z
        · have d1 : Q.drop a = x :: Q.drop (a + 1) := by
            rw [List.drop_eq_getElem_cons ha]
            congr 1
            exact (List.getElem?_eq_some_iff.mp e).2
          have d2 : Q'.drop (a + 1) = Q.drop (a + 1) ++ ext := by rw [h1, List.drop_append_of_le_length (by omega)]
          rw [d1] at h
          have p1 : Phi W (x :: Q.drop (a + 1)) = wt W x.1.1 + Phi W (Q.drop (a + 1)) := by simp [Phi]
          rw [p1] at h
          rw [d2, phi_app]
          have hl := place_sum okx.a
          by_cases hz : tot W - x.1.1.places.sum = 0
          · -- no step is left
            have he : ext = [] := by
              cases ext with
              | nil => rfl
              | cons y ys =>
                obtain ⟨n, hn, hy⟩ := h3 y List.mem_cons_self
                have h5 := place_sum (ok' y List.mem_cons_self).a
                have h6 := after_sum (p := p) okx.a (hset_mem.mp hn).1
                rw [hy] at h5
                have h5 : (afterT p W x.1.1 n).places.sum ≤ tot W := h5
                omega
            rw [he]
            have : 1 ≤ wt W x.1.1 := Nat.one_le_pow _ _ (by omega)
            simp [Phi] at *
            omega
          · have h7 := phi_le (W := W) (c := 4 ^ (tot W - x.1.1.places.sum - 1)) ext fun y hy => by
              obtain ⟨n, hn, rfl⟩ := h3 y hy
              have h6 := after_sum (p := p) okx.a (hset_mem.mp hn).1
              show 4 ^ (tot W - (afterT p W x.1.1 n).places.sum) ≤ _
              rw [h6, Nat.sub_add_eq]
              exact Nat.le_refl _
            have h8 : ext.length ≤ 3 := Nat.le_trans h2 (Nat.le_trans hset_len w.h2)
            have h9 : wt W x.1.1 = 4 * 4 ^ (tot W - x.1.1.places.sum - 1) := by
              unfold wt
              obtain ⟨k, hk⟩ := Nat.exists_eq_succ_of_ne_zero hz
              rw [hk, Nat.pow_succ, Nat.mul_comm]; rfl
            have h10 : 1 ≤ 4 ^ (tot W - x.1.1.places.sum - 1) := Nat.one_le_pow _ _ (by omega)
            have h11 : ext.length * 4 ^ (tot W - x.1.1.places.sum - 1) ≤ 3 * 4 ^ (tot W - x.1.1.places.sum - 1) := Nat.mul_le_mul_right _ h8
            omega
def q0 (W : World) : List Ent := [((beginT W, beginT W), [])]
theorem begin_sum {W : World} : (beginT W).places.sum = 0 := by
  unfold beginT
  induction W.hands with
  | nil => rfl
  | cons x l ih => simpa using ih
theorem q0_ok {W : World} (w : WOk W) : ∀ e ∈ q0 W, EOk W e := fun e he => by
  have : e = ((beginT W, beginT W), []) := by simpa [q0] using he
  subst this
  exact ⟨begin_ok w, begin_ok w, rfl, by rw [begin_sum]; rfl⟩
theorem walk_ends {p q : Par} {W : World} (w : WOk W) : ∃ r, bOut p q W 70000 0 (q0 W) = some r := by
  refine bOut_ends w _ _ _ (q0_ok w) ?_
  have h1 : tot W ≤ 8 := w.sum
  have : Phi W ((q0 W).drop 0) = 4 ^ (tot W) := by simp [Phi, q0, wt, begin_sum]
  rw [this]
  have : 4 ^ tot W ≤ 4 ^ 8 := Nat.pow_le_pow_right (by omega) h1
  omega
end Lw
set_option Elab.async false
set_option linter.all false
set_option maxRecDepth 10000
set_option maxHeartbeats 400000
namespace Mi
open PySem PySem.Spec PyProof.Rows L2
section
variable {ρ : Ev} {S : Sto} {mk mv me mo mi : ME} {c : MT} {b : MS} {fr : Bool} {ks ds : List MV}
@[simp] theorem w_dct1T : mDct1T fr mk mv ρ S = (mk ρ S).bind fun kd S1 => (mv ρ S1).bind fun d S2 => if keyT kd then mkDT fr [kd] [d] S2 else .stk := rfl
@[simp] theorem w_mkDTf : mkDT false ks ds S = .ok (.ref S.length) (S ++ [.dcT ks ds]) := rfl
@[simp] theorem w_subT : mSubT me mo mi ρ S = (me ρ S).thn ρ fun d S1 => (mo ρ S1).thn ρ fun od S2 => (mi ρ S2).thn ρ fun id S3 => match setTM od id d S3 with
  | some S4 => .nx ρ S4
  | none => .stk := rfl
theorem w_while {n : Nat} : mWhile c b (n + 1) ρ S = (c ρ S).thn ρ fun x S1 => if x then (b ρ S1).nxt (mWhile c b n) else .nx ρ S1 := by
  rw [mWhile]
  rfl
theorem w_augI {i : Nat} {a : Int} (h : ρ[i]? = some (some (.int a))) : mAugI i me ρ S = (me ρ S).thn ρ fun d S1 => (match d with
    | .int b => .nx (ρ.set i (some (.int (a + b)))) S1
    | _ => .stk) := by simp only [mAugI, h] <;> rfl
end
/-- an encoding whose values are told apart as keys -/
structure KeyEnc {α : Type} (enc : α → MV) : Prop where
  inj : ∀ x y, canon (enc x) = canon (enc y) → x = y
  ok : ∀ x, keyT (enc x) = true
section
variable {α : Type} [DecidableEq α] {enc : α → MV} {S : Sto} {n : Nat} {ks : List α} {vs : List MV} {x : α}
theorem canons_enc : canons (ks.map enc) = ks.map fun x => canon (enc x) := by rw [canons_map, List.map_map]; rfl
theorem mem_enc (E : KeyEnc enc) : canon (enc x) ∈ canons (ks.map enc) ↔ x ∈ ks := by
  rw [canons_enc, List.mem_map]
  constructor
  · rintro ⟨y, hy, e⟩; rw [← E.inj _ _ e]; exact hy
  · exact fun h => ⟨x, h, rfl⟩
theorem dcT_ref (h : S[n]? = some (.dcT (ks.map enc) vs)) : dcTOf S (.ref n) = some (ks.map enc, vs) := by
  show (match S[n]? with
    | some (.dcT ks vs) => some (ks, vs)
    | _ => none) = _
  rw [h]
theorem look_is [Decidable (x ∈ ks)] (E : KeyEnc enc) (l : ks.length = vs.length) : (dlook (canons (ks.map enc)) vs (canon (enc x))).isSome = decide (x ∈ ks) := by
  have := dlook_mem (k := canon (enc x)) (canons (ks.map enc)) vs (by rw [canons_len, List.length_map]; exact l)
  rw [mem_enc E] at this
  by_cases h : x ∈ ks
  · simp [h, this.mpr h]
  · have h2 : ¬ (dlook (canons (ks.map enc)) vs (canon (enc x))).isSome = true := fun z => h (this.mp z)
    simp only [h, decide_false]
    simpa using h2
theorem nin_keys [Decidable (x ∈ ks)] (E : KeyEnc enc) (h : S[n]? = some (.dcT (ks.map enc) vs)) (l : ks.length = vs.length) : ninTM (enc x) (.ref n) S = .ok (.bl (!decide (x ∈ ks))) S := by
  unfold ninTM; rw [dcT_ref h]; simp only [E.ok, if_true, look_is E l]
theorem set_key {d : MV} (E : KeyEnc enc) (h : S[n]? = some (.dcT (ks.map enc) vs)) (hx : x ∉ ks) (hz : ks.length < sizeLine) : setTM (.ref n) (enc x) d S = some (S.set n (.dcT ((ks ++ [x]).map enc) (vs ++ [d]))) := by
  unfold setTM
  simp only [h, E.ok, List.length_map, hz, decide_true, Bool.and_self, if_true]
  unfold dputT
  rw [if_neg (fun z => hx ((mem_enc E).mp z))]
  simp
theorem look_at (E : KeyEnc enc) : ∀ (ks : List α) (vs : List MV) (i : Nat) (d : MV), ks.Nodup → ks[i]? = some x → vs[i]? = some d → dlook (canons (ks.map enc)) vs (canon (enc x)) = some d
  | [], _, _, _, _, e1, _ => by simp at e1
  | _ :: _, [], _, _, _, _, e2 => by simp at e2
  | k :: ks, v :: vs, 0, d, nd, h, h' => by
    simp at h h'; subst h; subst h'
    rw [List.map_cons, canons, dlook, if_pos rfl]
  | k :: ks, v :: vs, i + 1, d, nd, h, h' => by
    rw [List.nodup_cons] at nd
    have hx : x ∈ ks := List.mem_of_getElem? (by simpa using h)
    rw [List.map_cons, canons, dlook, if_neg (fun e => nd.1 (by rw [E.inj _ _ e]; exact hx))]
    exact look_at E ks vs i d nd.2 (by simpa using h) (by simpa using h')
theorem ix_key {i : Nat} {d : MV} (E : KeyEnc enc) (h : S[n]? = some (.dcT (ks.map enc) vs)) (nd : ks.Nodup) (hi : ks[i]? = some x) (hd : vs[i]? = some d) : idxTM (.ref n) (enc x) S = .ok d S := by
  unfold idxTM; rw [dcT_ref h]; simp only [E.ok, if_true, look_at E ks vs i d nd hi hd]
end
theorem canons_inj {α : Type} {f : α → MV} (h : ∀ x y, canon (f x) = canon (f y) → x = y) : ∀ (xs ys : List α), canons (xs.map f) = canons (ys.map f) → xs = ys
  | [], [], _ => rfl
  | [], _ :: _, e => by simp [canons] at e
  | _ :: _, [], e => by simp [canons] at e
  | x :: xs, y :: ys, e => by
    simp only [List.map_cons, canons, List.cons.injEq] at e
    rw [h x y e.1, canons_inj h xs ys e.2]
theorem keyOks_of {α : Type} {f : α → MV} (h : ∀ x, keyOk (f x) = true) : ∀ xs : List α, keyOks (xs.map f) = true
  | [] => rfl
  | x :: xs => by rw [List.map_cons, keyOks, h, keyOks_of h xs]; rfl
theorem kdeps_of {α : Type} {f : α → MV} {n : Nat} (h : ∀ x, kdep (f x) ≤ n) : ∀ xs : List α, kdeps (xs.map f) ≤ n
  | [] => Nat.zero_le _
  | x :: xs => by rw [List.map_cons, kdeps]; have := h x; have := kdeps_of h xs; omega
end Mi
namespace Lw
open PySem PySem.Spec PyProof.Rows L2 Mi
theorem c_hv {a b : Option Int} (h : canon (hv a) = canon (hv b)) : a = b := by
  cases a <;> cases b <;> simp [hv, canon] at h ⊢
  exact h
theorem c_day {a b : Day} (h : canon (pDay a) = canon (pDay b)) : a = b := by
  simp only [pDay, canon, canons, MV.tup.injEq, List.cons.injEq] at h
  obtain ⟨h1, h2, h3, _⟩ := h
  have e1 := c_hv h1
  have e2 := c_hv h2
  cases a; cases b
  simp at e1 e2 h3 ⊢
  refine ⟨e1, e2, ?_⟩
  revert h3
  rename_i s _ _ s'
  cases s <;> cases s' <;> simp
theorem c_row {a b : Row} (h : canon (pRow a) = canon (pRow b)) : a = b := by
  simp only [pRow, canon, canons, MV.tup.injEq, List.cons.injEq, MV.int.injEq] at h
  obtain ⟨h1, h2, h3, _⟩ := h
  have := canons_inj (fun _ _ => c_day) _ _ h3
  cases a; cases b
  simp at h1 h2 this ⊢
  exact ⟨h1, h2, this⟩
theorem c_st {a b : List Row} (h : canon (pSt a) = canon (pSt b)) : a = b := by
  simp only [pSt, canon, MV.tup.injEq] at h
  exact canons_inj (fun _ _ => c_row) _ _ h
theorem c_oB {a b : Option Bool} (h : canon (oB a) = canon (oB b)) : a = b := by
  rcases a with _ | a <;> rcases b with _ | b
  · rfl
  · simp [oB, canon] at h
  · simp [oB, canon] at h
  · cases a <;> cases b <;> simp [oB, canon] at h ⊢
theorem c_oH {a b : Option Hrs} (h : canon (oH a) = canon (oH b)) : a = b := by
  rcases a with _ | a <;> rcases b with _ | b
  · rfl
  · simp [oH, pHrs, canon] at h
  · simp [oH, pHrs, canon] at h
  · simp only [oH, pHrs, canon, MV.tup.injEq] at h
    rw [canons_inj (fun _ _ => c_hv) _ _ h]
theorem c_oR {a b : Option Row} (h : canon (oR a) = canon (oR b)) : a = b := by
  rcases a with _ | a <;> rcases b with _ | b
  · rfl
  · simp [oR, pRow, canon] at h
  · simp [oR, pRow, canon] at h
  · rw [c_row h]
theorem c_mem {a b : Mem} (h : canon (pMem a) = canon (pMem b)) : a = b := by
  simp only [pMem, canon, canons, MV.tup.injEq, List.cons.injEq] at h
  obtain ⟨h1, h2, h3, _⟩ := h
  have e1 := c_oB h1
  have e2 := c_oH h2
  have e3 := c_oR h3
  cases a; cases b
  simp at e1 e2 e3 ⊢
  exact ⟨e1, e2, e3⟩
theorem c_nat {a b : Nat} (h : canon (pNat a) = canon (pNat b)) : a = b := by
  simp [pNat, canon] at h; exact h
theorem c_ws {a b : WS} (h : canon (pWS a) = canon (pWS b)) : a = b := by
  simp only [pWS, canon, canons, MV.tup.injEq, List.cons.injEq] at h
  obtain ⟨h1, h2, h3, _⟩ := h
  have e1 := canons_inj (fun _ _ => c_nat) _ _ h1
  have e2 := canons_inj (fun _ _ => c_mem) _ _ h2
  have e3 := c_st h3
  cases a; cases b
  simp at e1 e2 e3 ⊢
  exact ⟨e1, e2, e3⟩
theorem k_hv {a : Option Int} : keyOk (hv a) = true ∧ kdep (hv a) = 0 := by cases a <;> simp [hv, keyOk, kdep]
theorem k_day {a : Day} : keyOk (pDay a) = true ∧ kdep (pDay a) ≤ 1 := by simp [pDay, keyOk, keyOks, kdep, kdeps, k_hv]
theorem k_row {a : Row} : keyOk (pRow a) = true ∧ kdep (pRow a) ≤ 3 := by
  have h1 := keyOks_of (f := pDay) (fun _ => k_day.1) a.days
  have h2 := kdeps_of (f := pDay) (n := 1) (fun _ => k_day.2) a.days
  refine ⟨by simp [pRow, keyOk, keyOks, h1], ?_⟩
  simp only [pRow, kdep, kdeps]; omega
theorem k_st {a : List Row} : keyOk (pSt a) = true ∧ kdep (pSt a) ≤ 4 := by
  have h1 := keyOks_of (f := pRow) (fun _ => k_row.1) a
  have h2 := kdeps_of (f := pRow) (n := 3) (fun _ => k_row.2) a
  refine ⟨by simp [pSt, keyOk, h1], ?_⟩
  simp only [pSt, kdep]; omega
theorem k_oB {a : Option Bool} : keyOk (oB a) = true ∧ kdep (oB a) = 0 := by cases a <;> simp [oB, keyOk, kdep]
theorem k_oH {a : Option Hrs} : keyOk (oH a) = true ∧ kdep (oH a) ≤ 1 := by
  cases a with
  | none => simp [oH, keyOk, kdep]
  | some h =>
    have h1 := keyOks_of (f := hv) (fun _ => k_hv.1) h
    have h2 := kdeps_of (f := hv) (n := 0) (fun _ => by rw [k_hv.2]; exact Nat.le_refl _) h
    refine ⟨by simp [oH, pHrs, keyOk, h1], ?_⟩
    simp only [oH, pHrs, kdep]; omega
theorem k_oR {a : Option Row} : keyOk (oR a) = true ∧ kdep (oR a) ≤ 3 := by
  cases a with
  | none => simp [oR, keyOk, kdep]
  | some r => exact k_row
theorem k_mem {a : Mem} : keyOk (pMem a) = true ∧ kdep (pMem a) ≤ 4 := by
  have h1 := k_oB (a := a.found)
  have h2 := k_oH (a := a.seen)
  have h3 := k_oR (a := a.old)
  refine ⟨by simp [pMem, keyOk, keyOks, h1.1, h2.1, h3.1], ?_⟩
  simp only [pMem, kdep, kdeps]
  have := h1.2; have := h2.2; have := h3.2
  omega
theorem k_ws {a : WS} : keyOk (pWS a) = true ∧ kdep (pWS a) ≤ 6 := by
  have h1 := keyOks_of (f := pNat) (fun _ => rfl) a.places
  have h2 := kdeps_of (f := pNat) (n := 0) (fun _ => Nat.le_refl _) a.places
  have h3 := keyOks_of (f := pMem) (fun _ => k_mem.1) a.mems
  have h4 := kdeps_of (f := pMem) (n := 4) (fun _ => k_mem.2) a.mems
  have h5 := k_st (a := a.rows)
  refine ⟨by simp [pWS, keyOk, keyOks, h1, h3, h5.1], ?_⟩
  simp only [pWS, kdep, kdeps]
  have := h5.2
  omega
def pPair (x : WS × WS) : MV := .tup [pWS x.1, pWS x.2]
theorem pair_key : KeyEnc pPair := by
  refine ⟨fun x y h => ?_, fun x => ?_⟩
  · simp only [pPair, canon, canons, MV.tup.injEq, List.cons.injEq] at h
    obtain ⟨a, b⟩ := x
    obtain ⟨c, d⟩ := y
    rw [Prod.mk.injEq]
    exact ⟨c_ws h.1, c_ws h.2.1⟩
  · have h1 := k_ws (a := x.1)
    have h2 := k_ws (a := x.2)
    rw [pPair, keyT]
    simp [keyOks, h1.1, h2.1, kdeps]
    omega
end Lw
set_option Elab.async false
set_option linter.all false
set_option maxRecDepth 10000
set_option maxHeartbeats 400000
namespace Lw
open PySem PySem.Spec PyProof.Rows L2 Mi
theorem told_ne {a b : Told} {S : Sto} : neM (pTold a) (pTold b) S = .ok (.bl (!decide (a = b))) S := by
  rw [neM_sh (deref_told (t := a)) (deref_told (t := b)) sh_told (sh_told (t := b)) (Nat.le_trans dpt_told (by omega)) (Nat.le_trans dpt_told (by omega))]
  cases a with
  | b x =>
    cases b with
    | b y => cases x <;> cases y <;> simp [pTold, cn]
    | hrs h => simp [pTold, cn, pHrs]
    | done => simp [pTold, cn]
    | refused => simp [pTold, cn]
  | hrs h' =>
    cases b with
    | hrs h =>
      have : pHrs h' = pHrs h ↔ h' = h := ⟨hrs_inj, fun e => by rw [e]⟩
      simp [pTold, cn_hrs, this]
    | b y => simp [pTold, cn, pHrs]
    | done => simp [pTold, cn, pHrs]
    | refused => simp [pTold, cn, pHrs]
  | done => cases b <;> simp [pTold, cn, pHrs]
  | refused => cases b <;> simp [pTold, cn, pHrs]
theorem hands_at_eq {W : World} (w : WOk W) {s : WS} (h : StOk W s) {S : Sto} : m_hands_at [pWorld W, pWS s, .tup [], .non] S = .ok (.lst ((hset W s).map pNat)) S := by
  have hl : W.hands.length ≤ 1000 := by have := w.h2; omega
  have z := line_k hl
  have e3 : ∀ S, idxM (pWorld W) (.int 3) S = .ok (.tup (W.hands.map pHand)) S := fun _ => rfl
  simp [m_hands_at, mFn, m_hands_at_s0, m_hands_at_s2, e3, hl, z]
  rw [lc_filter pNat (fun i => hasT W s i) pNat (List.range W.hands.length) rfl (by simp)]
  · simp [hset]
  · intro i hi
    have hi : i < W.hands.length := List.mem_range.mp hi
    simp [pNat, has_step_eq h hi]
def ents (Q : List Ent) : List (WS × WS) := Q.map (·.1)
def pWv (ws : List Nat) : MV := .tup (ws.map pNat)
def fSt (S : Sto) (Q : List Ent) : Sto := S ++ [.dcT ((ents Q).map pPair) (Q.map fun e => pWv e.2), .lst ((ents Q).map pPair)]
def fE (p q : Par) (W : World) (k : MV) (b : Nat) (a : Int) (j : Nat → Option MV) (j7 j8 j9 j10 : Option MV) : Ev :=
  [some (pPar p), some (pPar q), some (pWorld W), some k, some (.ref b), some (.ref (b + 1)), some (.int a), j7, j8, j9, j10, j 0, j 1, j 2, j 3, j 4, j 5]
theorem f_at {S : Sto} {Q : List Ent} : (fSt S Q)[S.length]? = some (.dcT ((ents Q).map pPair) (Q.map fun e => pWv e.2)) := by
  unfold fSt; rw [List.getElem?_append_right (Nat.le_refl _)]; simp
theorem f_at1 {S : Sto} {Q : List Ent} : (fSt S Q)[S.length + 1]? = some (.lst ((ents Q).map pPair)) := by
  unfold fSt; rw [List.getElem?_append_right (by omega)]; simp
theorem f_len {Q : List Ent} : (ents Q).length = (Q.map fun e => pWv e.2).length := by simp [ents]
theorem f_set {S : Sto} {Q : List Ent} {k : WS × WS} {wv : List Nat} (h : k ∉ ents Q) (hz : Q.length < 1000000) :
    setTM (.ref S.length) (pPair k) (pWv wv) (fSt S Q) = some (S ++ [.dcT ((ents (Q ++ [(k, wv)])).map pPair) ((Q ++ [(k, wv)]).map fun e => pWv e.2), .lst ((ents Q).map pPair)]) := by
  rw [set_key pair_key f_at h (by rw [sizeLine_eq]; simp [ents]; omega)]
  simp [fSt, ents]
theorem f_app {S : Sto} {Q : List Ent} {k : WS × WS} {ks ds : List MV} (hz : Q.length < 1000000) :
    appM (.ref (S.length + 1)) (pPair k) (S ++ [.dcT ks ds, .lst ((ents Q).map pPair)]) = .ok .non (S ++ [.dcT ks ds, .lst ((ents Q ++ [k]).map pPair)]) := by
  have h : (S ++ [MO.dcT ks ds, .lst ((ents Q).map pPair)])[S.length + 1]? = some (.lst ((ents Q).map pPair)) := by
    rw [List.getElem?_append_right (by omega)]; simp
  unfold appM
  simp only [h]
  rw [if_pos (by rw [sizeLine_eq]; simp [ents]; omega)]
  simp
theorem f_isl {S : Sto} {Q : List Ent} {ks ds : List MV} : isLst (S ++ [.dcT ks ds, .lst ((ents Q).map pPair)]) (.ref (S.length + 1)) = true := by
  refine isLst_ref (xs := (ents Q).map pPair) ?_
  rw [List.getElem?_append_right (by omega)]; simp
theorem add_wv {ws : List Nat} {n : Nat} {S : Sto} (h : ws.length ≤ 1000) : addM (pWv ws) (.tup [pNat n]) S = .ok (pWv (ws ++ [n])) S := by
  unfold addM pWv
  have : ws.length + 1 ≤ sizeLine := by rw [sizeLine_eq]; omega
  simp [this]
theorem lst_wv {ws : List Nat} {S : Sto} (h : ws.length ≤ 1000) : lstM true [pWv ws] S = .ok (.lst (ws.map pNat)) S := by
  unfold lstM pWv
  have : (ws.map pNat).length ≤ sizeLine := by rw [sizeLine_eq]; simp; omega
  simp [seqOf, this]
/-- a turn of the inner loop -/
theorem f_turn {p q : Par} {W : World} (w : WOk W) {S : Sto} {Q : List Ent} {e : Ent} (ok : EOk W e) (hz : Q.length < 1000000) {n : Nat} (hn : n ∈ hset W e.1.1) {k : MV} {a : Int} {j : Nat → Option MV} :
    ∃ j', (mSeq m_first_unlike_s9 (mSeq m_first_unlike_s10 (mSeq m_first_unlike_s11 m_first_unlike_s13))) (fE p q W k S.length a j (some (pWv e.2)) (some (pNat n)) (some (pWS e.1.1)) (some (pWS e.1.2))) (fSt S Q) =
      if (nextT p W e.1.1 n).1 = (nextT q W e.1.2 n).1 then .nx (fE p q W k S.length a j' (some (pWv e.2)) (some (pNat n)) (some (pWS e.1.1)) (some (pWS e.1.2))) (fSt S (addQ Q (keyN p q W e.1 n) (e.2 ++ [n])))
      else .rt (.lst ((e.2 ++ [n]).map pNat)) (fSt S Q) := by
  obtain ⟨hn1, hh⟩ := hset_mem.mp hn
  have hh2 : hasT W e.1.2 n = true := by rw [← has_places ok.pl]; exact hh
  have l1 : ∀ S, m_led [pPar p, pWorld W, pWS e.1.1, pNat n] S = _ := fun S => led_eq (p := p) (S := S) w ok.a hn1 hh
  have l2 : ∀ S, m_led [pPar q, pWorld W, pWS e.1.2, pNat n] S = _ := fun S => led_eq (p := q) (S := S) w ok.b hn1 hh2
  have el : e.2.length ≤ 1000 := by have := place_sum ok.a; have h8 : tot W ≤ 8 := w.sum; rw [ok.len]; omega
  have el2 : (e.2 ++ [n]).length ≤ 1000 := by have := place_sum ok.a; have h8 : tot W ≤ 8 := w.sum; rw [List.length_append, ok.len]; simp; omega
  let j' : Nat → Option MV := fun i => match i with
    | 0 => some (pTold (nextT p W e.1.1 n).1)
    | 1 => some (pWS (afterT p W e.1.1 n))
    | 2 => some (.lst ((faultsT p W e.1.1 n).map pStr))
    | 3 => some (pTold (nextT q W e.1.2 n).1)
    | 4 => some (pWS (afterT q W e.1.2 n))
    | _ => some (.lst ((faultsT q W e.1.2 n).map pStr))
  refine ⟨j', ?_⟩
  have kk : MV.tup [pWS (afterT p W e.1.1 n), pWS (afterT q W e.1.2 n)] = pPair (keyN p q W e.1 n) := rfl
  have nk : ninTM (pPair (keyN p q W e.1 n)) (.ref S.length) (fSt S Q) = .ok (.bl (!decide (keyN p q W e.1 n ∈ ents Q))) (fSt S Q) := nin_keys pair_key f_at f_len
  by_cases ht : (nextT p W e.1.1 n).1 = (nextT q W e.1.2 n).1
  · rw [if_pos ht]
    by_cases hk : keyN p q W e.1 n ∈ ents Q
    · have : addQ Q (keyN p q W e.1 n) (e.2 ++ [n]) = Q := if_pos hk
      rw [this]
      simp [-List.map_append, m_first_unlike_s9, m_first_unlike_s10, m_first_unlike_s11, m_first_unlike_s13, fE, l1, l2, told_ne, ht, kk, nk, hk, j']
    · have : addQ Q (keyN p q W e.1 n) (e.2 ++ [n]) = Q ++ [(keyN p q W e.1 n, e.2 ++ [n])] := if_neg hk
      rw [this]
      have sk := f_set (S := S) (wv := e.2 ++ [n]) hk hz
      have ak := f_app (S := S) (Q := Q) (k := keyN p q W e.1 n) (ks := (ents (Q ++ [(keyN p q W e.1 n, e.2 ++ [n])])).map pPair) (ds := (Q ++ [(keyN p q W e.1 n, e.2 ++ [n])]).map fun e => pWv e.2) hz
      have fe : fSt S (Q ++ [(keyN p q W e.1 n, e.2 ++ [n])]) = S ++ [.dcT ((ents (Q ++ [(keyN p q W e.1 n, e.2 ++ [n])])).map pPair) ((Q ++ [(keyN p q W e.1 n, e.2 ++ [n])]).map fun e => pWv e.2), .lst ((ents Q ++ [keyN p q W e.1 n]).map pPair)] := by
        simp [fSt, ents]
      rw [fe]
      simp [-List.map_append, m_first_unlike_s9, m_first_unlike_s10, m_first_unlike_s11, m_first_unlike_s13, m_first_unlike_s14, m_first_unlike_s15, fE, l1, l2, told_ne, ht, kk, nk, hk, add_wv el, sk, f_isl, ak, j']
  · rw [if_neg ht]
    simp [-List.map_append, m_first_unlike_s9, m_first_unlike_s10, m_first_unlike_s11, m_first_unlike_s12, fE, l1, l2, told_ne, ht, add_wv el, lst_wv el2]
/-- the inner loop -/
theorem f_in {p q : Par} {W : World} (w : WOk W) {S : Sto} {e : Ent} (ok : EOk W e) {k : MV} {a : Int} {okS : Sto → Bool} (hok : ∀ S, okS S = true) : ∀ (ns : List Nat) (Q : List Ent) (j8 : Option MV) (j : Nat → Option MV), Q.length + ns.length < 1000000 → (∀ n ∈ ns, n ∈ hset W e.1.1) →
    match bIn p q W e.1 e.2 ns Q with
      | .more Q' => ∃ j8' j', forGo okS (tgName 8) (mSeq m_first_unlike_s9 (mSeq m_first_unlike_s10 (mSeq m_first_unlike_s11 m_first_unlike_s13))) (ns.map pNat) (fE p q W k S.length a j (some (pWv e.2)) j8 (some (pWS e.1.1)) (some (pWS e.1.2))) (fSt S Q) = .nx (fE p q W k S.length a j' (some (pWv e.2)) j8' (some (pWS e.1.1)) (some (pWS e.1.2))) (fSt S Q')
      | .found r => ∃ Q', forGo okS (tgName 8) (mSeq m_first_unlike_s9 (mSeq m_first_unlike_s10 (mSeq m_first_unlike_s11 m_first_unlike_s13))) (ns.map pNat) (fE p q W k S.length a j (some (pWv e.2)) j8 (some (pWS e.1.1)) (some (pWS e.1.2))) (fSt S Q) = .rt (.lst (r.map pNat)) (fSt S Q')
  | [], Q, j8, j, _, _ => by
    rw [bIn]
    exact ⟨j8, j, by rw [List.map_nil, forGo, if_pos (hok _)]⟩
  | n :: ns, Q, j8, j, hz, hn => by
    rw [List.length_cons] at hz
    obtain ⟨j', e1⟩ := f_turn (p := p) (q := q) w (S := S) (Q := Q) ok (by omega) (hn n List.mem_cons_self) (k := k) (a := a) (j := j)
    have g : (tgName 8).f (pNat n) (fE p q W k S.length a j (some (pWv e.2)) j8 (some (pWS e.1.1)) (some (pWS e.1.2))) = some (fE p q W k S.length a j (some (pWv e.2)) (some (pNat n)) (some (pWS e.1.1)) (some (pWS e.1.2))) := rfl
    have step : ∀ R, (match (if (nextT p W e.1.1 n).1 = (nextT q W e.1.2 n).1 then .nx (fE p q W k S.length a j' (some (pWv e.2)) (some (pNat n)) (some (pWS e.1.1)) (some (pWS e.1.2))) (fSt S (addQ Q (keyN p q W e.1 n) (e.2 ++ [n])))
      else .rt (.lst ((e.2 ++ [n]).map pNat)) (fSt S Q) : RS) with
        | .nx ρ2 S2 => forGo okS (tgName 8) (mSeq m_first_unlike_s9 (mSeq m_first_unlike_s10 (mSeq m_first_unlike_s11 m_first_unlike_s13))) (ns.map pNat) ρ2 S2
        | r => r) = R → forGo okS (tgName 8) (mSeq m_first_unlike_s9 (mSeq m_first_unlike_s10 (mSeq m_first_unlike_s11 m_first_unlike_s13))) ((n :: ns).map pNat) (fE p q W k S.length a j (some (pWv e.2)) j8 (some (pWS e.1.1)) (some (pWS e.1.2))) (fSt S Q) = R := by
      intro R hR
      rw [List.map_cons, forGo, if_pos (hok _), g]
      dsimp only
      rw [e1]
      exact hR
    rw [bIn]
    by_cases ht : (nextT p W e.1.1 n).1 = (nextT q W e.1.2 n).1
    · rw [if_pos ht]
      rw [if_pos ht] at step
      have hl : (addQ Q (keyN p q W e.1 n) (e.2 ++ [n])).length ≤ Q.length + 1 := by
        obtain ⟨x, h1, h2, _⟩ := addQ_ext (Q := Q) (k := keyN p q W e.1 n) (wv := e.2 ++ [n])
        rw [h1, List.length_append]; omega
      have ih := f_in (p := p) (q := q) w (S := S) ok (k := k) (a := a) hok ns (addQ Q (keyN p q W e.1 n) (e.2 ++ [n])) (some (pNat n)) j' (by omega) fun m hm => hn m (List.mem_cons_of_mem _ hm)
      split at ih
      · obtain ⟨a1, a2, e2⟩ := ih
        exact ⟨a1, a2, step _ e2⟩
      · obtain ⟨a1, e2⟩ := ih
        exact ⟨a1, step _ e2⟩
    · rw [if_neg ht]
      rw [if_neg ht] at step
      exact ⟨Q, step _ rfl⟩
def oWv : Option (List Nat) → MV
  | none => .non
  | some ws => .lst (ws.map pNat)
theorem addQ_nd {Q : List Ent} {k : WS × WS} {wv : List Nat} (h : (ents Q).Nodup) : (ents (addQ Q k wv)).Nodup := by
  unfold addQ
  split
  · exact h
  · rename_i hk
    show ((Q ++ [(k, wv)]).map (·.1)).Nodup
    rw [List.map_append]; rw [List.nodup_append]
    refine ⟨h, by simp, fun a ha b hb => ?_⟩
    have : b = k := by simpa using hb
    subst this
    intro e; subst e; exact hk ha
theorem bIn_nd {p q : Par} {W : World} {x : WS × WS} {wv : List Nat} : ∀ (ns : List Nat) (Q Q' : List Ent), (ents Q).Nodup → bIn p q W x wv ns Q = .more Q' → (ents Q').Nodup
  | [], Q, Q', h, e => by rw [bIn] at e; cases e; exact h
  | n :: ns, Q, Q', h, e => by
    rw [bIn] at e
    split at e
    · exact bIn_nd ns _ _ (addQ_nd h) e
    · cases e
/-- the outer loop -/
theorem f_out {p q : Par} {W : World} (w : WOk W) {S : Sto} {k : MV} : ∀ (f a : Nat) (Q : List Ent) (j : Nat → Option MV) (j7 j8 j9 j10 : Option MV) (r : Option (List Nat)), (∀ e ∈ Q, EOk W e) → (ents Q).Nodup → Q.length ≤ 1 + 3 * a → a + f ≤ 70000 → bOut p q W f a Q = some r →
    ∃ Q', toR ((mWhile (mTest (mOp ltM (mVar 6) (mCallF lenM (mCons (mVar 5) mNil)))) (mSeq m_first_unlike_s5 (mSeq m_first_unlike_s6 (mSeq m_first_unlike_s7 m_first_unlike_s8))) f (fE p q W k S.length (a : Nat) j j7 j8 j9 j10) (fSt S Q)).nxt m_first_unlike_s16) = .ok (oWv r) (fSt S Q')
  | 0, a, Q, j, j7, j8, j9, j10, r, _, _, _, _, h => by rw [bOut] at h; cases h
  | f + 1, a, Q, j, j7, j8, j9, j10, r, ok, nd, hq, hf, h => by
    have ll : lenM [.ref (S.length + 1)] (fSt S Q) = .ok (.int (Q.length : Nat)) (fSt S Q) := by
      have := len_seq (v := .ref (S.length + 1)) (xs := (ents Q).map pPair) (S := fSt S Q) (seq_ref.mpr f_at1)
      simpa [ents] using this
    rw [bOut] at h
    rw [w_while]
    cases e : Q[a]? with
    | none =>
      rw [e] at h
      cases h
      have ha : ¬ ((a : Int) < (Q.length : Nat)) := by
        have := List.getElem?_eq_none_iff.mp e
        omega
      refine ⟨Q, ?_⟩
      simp [fE, ll, ha, m_first_unlike_s16, oWv]
    | some x =>
      rw [e] at h
      dsimp only at h
      have hlt := (List.getElem?_eq_some_iff.mp e).1
      have ha : ((a : Int) < (Q.length : Nat)) := by omega
      have okx := ok x (List.mem_of_getElem? e)
      have iw : idxM (.ref (S.length + 1)) (.int (a : Nat)) (fSt S Q) = .ok (pPair x.1) (fSt S Q) := ix_ref f_at1 (by rw [List.getElem?_map]; unfold ents; rw [List.getElem?_map, e]; rfl)
      have ik : idxTM (.ref S.length) (pPair x.1) (fSt S Q) = .ok (pWv x.2) (fSt S Q) := ix_key (i := a) pair_key f_at nd (by unfold ents; rw [List.getElem?_map, e]; rfl) (by rw [List.getElem?_map, e]; rfl)
      have s5 : m_first_unlike_s5 (fE p q W k S.length (a : Nat) j j7 j8 j9 j10) (fSt S Q) = .nx (fE p q W k S.length (a : Nat) j j7 j8 (some (pWS x.1.1)) (some (pWS x.1.2))) (fSt S Q) := by
        simp [m_first_unlike_s5, fE, iw, pPair]
      have s6 : m_first_unlike_s6 (fE p q W k S.length (a : Nat) j j7 j8 (some (pWS x.1.1)) (some (pWS x.1.2))) (fSt S Q) = .nx (fE p q W k S.length (a : Nat) j (some (pWv x.2)) j8 (some (pWS x.1.1)) (some (pWS x.1.2))) (fSt S Q) := by
        simp [m_first_unlike_s6, fE, iw, ik]
      have s7 : m_first_unlike_s7 (fE p q W k S.length (a : Nat) j (some (pWv x.2)) j8 (some (pWS x.1.1)) (some (pWS x.1.2))) (fSt S Q) = .nx (fE p q W k S.length ((a + 1 : Nat) : Int) j (some (pWv x.2)) j8 (some (pWS x.1.1)) (some (pWS x.1.2))) (fSt S Q) := by
        unfold m_first_unlike_s7
        rw [w_augI (a := (a : Int)) rfl]
        simp [fE]
      have hs := hset_len (W := W) (s := x.1.1)
      have h3 := w.h2
      have inn := f_in (p := p) (q := q) w (S := S) okx (k := k) (a := ((a + 1 : Nat) : Int)) (okS := fun S => (Src.seq (.lst ((hset W x.1.1).map pNat)) ((hset W x.1.1).map pNat)).ok S) (fun S => by simp [Src.ok, seqOf, lstOf]) (hset W x.1.1) Q j8 j (by omega) (fun _ h => h)
      have s8 : m_first_unlike_s8 (fE p q W k S.length ((a + 1 : Nat) : Int) j (some (pWv x.2)) j8 (some (pWS x.1.1)) (some (pWS x.1.2))) (fSt S Q) = forGo (fun S => (Src.seq (.lst ((hset W x.1.1).map pNat)) ((hset W x.1.1).map pNat)).ok S) (tgName 8) (mSeq m_first_unlike_s9 (mSeq m_first_unlike_s10 (mSeq m_first_unlike_s11 m_first_unlike_s13))) ((hset W x.1.1).map pNat) (fE p q W k S.length ((a + 1 : Nat) : Int) j (some (pWv x.2)) j8 (some (pWS x.1.1)) (some (pWS x.1.2))) (fSt S Q) := by
        unfold m_first_unlike_s8
        simp [fE, hands_at_eq w okx.a]
      have cond : (mTest (mOp ltM (mVar 6) (mCallF lenM (mCons (mVar 5) mNil)))) (fE p q W k S.length (a : Nat) j j7 j8 j9 j10) (fSt S Q) = .ok true (fSt S Q) := by
        simp [fE, ll, ha]
      rw [cond, R.thn_ok, if_pos rfl, w_seq', s5, nxt_nx, w_seq', s6, nxt_nx, w_seq', s7, nxt_nx, s8]
      cases e2 : bIn p q W x.1 x.2 (hset W x.1.1) Q with
      | found ws =>
        rw [e2] at h inn
        cases h
        obtain ⟨Q', e3⟩ := inn
        exact ⟨Q', by rw [e3]; rfl⟩
      | more Q' =>
        rw [e2] at h inn
        obtain ⟨j8', j', e3⟩ := inn
        rw [e3, nxt_nx]
        obtain ⟨ext, h1, h2, h4⟩ := bIn_ext _ _ _ e2
        refine f_out w f (a + 1) Q' _ _ _ _ _ r (fun y hy => ?_) (bIn_nd _ _ _ nd e2) (by rw [h1, List.length_append]; omega) (by omega) h
        rw [h1] at hy
        obtain z | z := List.mem_append.mp hy
        · exact ok y z
        · obtain ⟨n, hn, rfl⟩ := h4 y z
          exact okx.next w hn
theorem first_unlike_eq {p q : Par} {W : World} (w : WOk W) {r : Option (List Nat)} (h : bOut p q W 70000 0 (q0 W) = some r) {S : Sto} : m_first_unlike [pPar p, pPar q, pWorld W] S = .ok (oWv r) S := by
  obtain ⟨Q', e⟩ := f_out (p := p) (q := q) w (S := S) (k := pPair (beginT W, beginT W)) 70000 0 (q0 W) (fun _ => none) none none none none r (q0_ok w) (by simp [ents, q0]) (by simp [q0]) (by omega) h
  refine frzF_0 (e := [.dcT ((ents Q').map pPair) (Q'.map fun e => pWv e.2), .lst ((ents Q').map pPair)]) (d := oWv r) ?_ ?_
  · have b := fun S => begin_eq (S := S) w
    have kk : MV.tup [pWS (beginT W), pWS (beginT W)] = pPair (beginT W, beginT W) := rfl
    have kt := pair_key.ok (beginT W, beginT W)
    have s4 : m_first_unlike_s4 = mWhile (mTest (mOp ltM (mVar 6) (mCallF lenM (mCons (mVar 5) mNil)))) (mSeq m_first_unlike_s5 (mSeq m_first_unlike_s6 (mSeq m_first_unlike_s7 m_first_unlike_s8))) 70000 := rfl
    have e0 : (fE p q W (pPair (beginT W, beginT W)) S.length (0 : Nat) (fun _ => none) none none none none) = [some (pPar p), some (pPar q), some (pWorld W), some (pPair (beginT W, beginT W)), some (.ref S.length), some (.ref (S.length + 1)), some (.int 0), none, none, none, none, none, none, none, none, none, none] := rfl
    have s0 : fSt S (q0 W) = S ++ [.dcT [pPair (beginT W, beginT W)] [.tup []], .lst [pPair (beginT W, beginT W)]] := rfl
    rw [e0, s0, ← s4] at e
    simp [mFn, m_first_unlike_s0, m_first_unlike_s1, m_first_unlike_s2, m_first_unlike_s3, b, kk, kt]
    simpa [fSt] using e
  · cases r with
    | none => rfl
    | some ws =>
      have := refs_map (b := 0) (f := pNat) (xs := ws) fun _ _ => rfl
      simpa [oWv, refsB] using this
theorem alike_eq {p q : Par} {W : World} (w : WOk W) {r : Option (List Nat)} (h : bOut p q W 70000 0 (q0 W) = some r) {S : Sto} : m_alike [pPar p, pPar q, pWorld W] S = .ok (.bl (decide (r = none))) S := by
  have i : ∀ xs S, isM (.lst xs) .non S = .ok (.bl false) S := fun _ _ => rfl
  simp [m_alike, mFn, m_alike_s0, m_alike_s1, check_ok w, first_unlike_eq w h]
  cases r <;> simp [oWv, i]
end Lw
set_option Elab.async false
set_option linter.all false
set_option maxRecDepth 10000
set_option maxHeartbeats 400000
namespace Lw
open PySem PySem.Spec PyProof.Rows L2 Mi
abbrev Jn := Nat × Nat
abbrev JK := WS × Option Jn
abbrev JE := JK × List Nat
abbrev FD := List (Str × List Nat)
def handsJ (J : List Jn) (W : World) (k : JK) : List Nat := match k.2 with
  | some x => if x ∈ J then [x.1] else hset W k.1
  | none => hset W k.1
def lastJ (J : List Jn) (s : WS) (n : Nat) : Option Jn := if (n, placeAt s n) ∈ J then some (n, placeAt s n) else none
def keyJ (p : Par) (J : List Jn) (W : World) (s : WS) (n : Nat) : JK := (afterT p W s n, lastJ J s n)
def addE (Q : List JE) (k : JK) (wv : List Nat) : List JE := if k ∈ Q.map (·.1) then Q else Q ++ [(k, wv)]
def putF (wv : List Nat) (F : FD) (f : Str) : FD := if f ∈ F.map (·.1) then F else F ++ [(f, wv)]
def addF (wv : List Nat) : List Str → FD → FD
  | [], F => F
  | f :: fs, F => addF wv fs (putF wv F f)
def jIn (p : Par) (J : List Jn) (W : World) (s : WS) (wv : List Nat) : List Nat → List JE → FD → List JE × FD
  | [], Q, F => (Q, F)
  | n :: ns, Q, F => jIn p J W s wv ns (addE Q (keyJ p J W s n) (wv ++ [n])) (addF (wv ++ [n]) (faultsT p W s n) F)
def jOut (p : Par) (J : List Jn) (W : World) : Nat → Nat → List JE → FD → Option (List JE × FD)
  | 0, _, _, _ => none
  | f + 1, a, Q, F => match Q[a]? with
    | none => some (Q, F)
    | some e => jOut p J W f (a + 1) (jIn p J W e.1.1 e.2 (handsJ J W e.1) Q F).1 (jIn p J W e.1.1 e.2 (handsJ J W e.1) Q F).2
def Ph (W : World) (l : List JE) : Nat := (l.map fun x => wt W x.1.1).sum
/-- joints: a step with one behind it -/
def JnOk (W : World) (J : List Jn) : Prop := ∀ x ∈ J, x.1 < W.hands.length ∧ x.2 + 1 < (handAt W x.1).2.length
structure JOk (W : World) (J : List Jn) (e : JE) : Prop where
  a : StOk W e.1.1
  len : e.2.length = e.1.1.places.sum
  la : ∀ x, e.1.2 = some x → x ∈ J ∧ placeAt e.1.1 x.1 = x.2 + 1
theorem addE_ext {Q : List JE} {k : JK} {wv : List Nat} : ∃ e, addE Q k wv = Q ++ e ∧ e.length ≤ 1 ∧ ∀ x ∈ e, x = (k, wv) := by
  unfold addE
  split
  · exact ⟨[], by simp, by simp, by simp⟩
  · exact ⟨[(k, wv)], rfl, by simp, by simp⟩
theorem jIn_ext {p : Par} {J : List Jn} {W : World} {s : WS} {wv : List Nat} : ∀ (ns : List Nat) (Q : List JE) (F : FD),
    ∃ e, (jIn p J W s wv ns Q F).1 = Q ++ e ∧ e.length ≤ ns.length ∧ ∀ y ∈ e, ∃ n ∈ ns, y = (keyJ p J W s n, wv ++ [n])
  | [], Q, F => ⟨[], by simp [jIn], by simp, by simp⟩
  | n :: ns, Q, F => by
    obtain ⟨e', g1, g2, g3⟩ := addE_ext (Q := Q) (k := keyJ p J W s n) (wv := wv ++ [n])
    obtain ⟨e, h1, h2, h3⟩ := jIn_ext (p := p) (J := J) (W := W) (s := s) (wv := wv) ns (addE Q (keyJ p J W s n) (wv ++ [n])) (addF (wv ++ [n]) (faultsT p W s n) F)
    refine ⟨e' ++ e, by rw [jIn, h1, g1, List.append_assoc], by simp; omega, fun y hy => ?_⟩
    obtain z | z := List.mem_append.mp hy
    · exact ⟨n, List.mem_cons_self, g3 y z⟩
    · obtain ⟨m, hm, e2⟩ := h3 y z
      exact ⟨m, List.mem_cons_of_mem _ hm, e2⟩
theorem handsJ_mem {J : List Jn} {W : World} (jn : JnOk W J) {e : JE} (ok : JOk W J e) {n : Nat} (h : n ∈ handsJ J W e.1) : n < W.hands.length ∧ hasT W e.1.1 n = true := by
  unfold handsJ at h
  cases q : e.1.2 with
  | none => rw [q] at h; exact hset_mem.mp h
  | some x =>
    rw [q] at h
    dsimp only at h
    obtain ⟨m, pl⟩ := ok.la x q
    rw [if_pos m] at h
    have : n = x.1 := by simpa using h
    subst this
    obtain ⟨j1, j2⟩ := jn x m
    refine ⟨j1, ?_⟩
    unfold hasT
    rw [pl]
    exact decide_eq_true j2
theorem handsJ_len {J : List Jn} {W : World} (w : WOk W) {k : JK} : (handsJ J W k).length ≤ 3 := by
  have hs := hset_len (W := W) (s := k.1)
  have h2 := w.h2
  unfold handsJ
  split
  · split
    · simp
    · omega
  · omega
theorem JOk.next {p : Par} {J : List Jn} {W : World} (w : WOk W) (jn : JnOk W J) {e : JE} (h : JOk W J e) {n : Nat} (hm : n ∈ handsJ J W e.1) : JOk W J (keyJ p J W e.1.1 n, e.2 ++ [n]) := by
  obtain ⟨hn, hh⟩ := handsJ_mem jn h hm
  refine ⟨h.a.after w hn hh, ?_, fun x hx => ?_⟩
  · show (e.2 ++ [n]).length = (afterT p W e.1.1 n).places.sum
    rw [after_sum h.a hn, List.length_append, h.len]; rfl
  · have hx : lastJ J e.1.1 n = some x := hx
    unfold lastJ at hx
    split at hx
    · rename_i m
      cases hx
      refine ⟨m, ?_⟩
      show placeAt (afterT p W e.1.1 n) n = placeAt e.1.1 n + 1
      show (e.1.1.places.set n (placeAt e.1.1 n + 1)).getD n 0 = _
      rw [List.getD_eq_getElem?_getD, List.getElem?_set_self (by rw [h.a.pl]; exact hn)]
      rfl
    · cases hx
theorem ph_app {W : World} (a b : List JE) : Ph W (a ++ b) = Ph W a + Ph W b := by simp [Ph]
theorem ph_le {W : World} {c : Nat} : ∀ (l : List JE), (∀ x ∈ l, wt W x.1.1 ≤ c) → Ph W l ≤ l.length * c
  | [], _ => by simp [Ph]
  | x :: l, h => by
    have h1 := h x List.mem_cons_self
    have h2 := ph_le l fun y hy => h y (List.mem_cons_of_mem _ hy)
    have : Ph W (x :: l) = wt W x.1.1 + Ph W l := by simp [Ph]
    rw [this, List.length_cons, Nat.succ_mul]; omega
/-- the walk ends -/
theorem jOut_ends {p : Par} {J : List Jn} {W : World} (w : WOk W) (jn : JnOk W J) : ∀ (f a : Nat) (Q : List JE) (F : FD), (∀ e ∈ Q, JOk W J e) → Ph W (Q.drop a) < f → ∃ r, jOut p J W f a Q F = some r
  | 0, a, Q, F, _, h => absurd h (Nat.not_lt_zero _)
  | f + 1, a, Q, F, ok, h => by
    rw [jOut]
    cases e : Q[a]? with
    | none => exact ⟨_, rfl⟩
    | some x =>
      dsimp only
      have hx : x ∈ Q := List.mem_of_getElem? e
      have okx := ok x hx
      obtain ⟨ext, h1, h2, h3⟩ := jIn_ext (p := p) (J := J) (W := W) (s := x.1.1) (wv := x.2) (handsJ J W x.1) Q F
      have ha : a < Q.length := (List.getElem?_eq_some_iff.mp e).1
      have ok' : ∀ y ∈ ext, JOk W J y := fun y hy => by
        obtain ⟨n, hn, rfl⟩ := h3 y hy
        exact okx.next w jn hn
      refine jOut_ends w jn f (a + 1) _ _ (fun y hy => ?_) ?_
      · rw [h1] at hy
        obtain z | z := List.mem_append.mp hy
        · exact ok y z
        · exact ok' y z
      · have d1 : Q.drop a = x :: Q.drop (a + 1) := by
          rw [List.drop_eq_getElem_cons ha]
          congr 1
          exact (List.getElem?_eq_some_iff.mp e).2
        rw [h1, List.drop_append_of_le_length (by omega), ph_app]
        rw [d1] at h
        have p1 : Ph W (x :: Q.drop (a + 1)) = wt W x.1.1 + Ph W (Q.drop (a + 1)) := by simp [Ph]
        rw [p1] at h
        have sums : ∀ y ∈ ext, y.1.1.places.sum = x.1.1.places.sum + 1 := fun y hy => by
          obtain ⟨n, hn, rfl⟩ := h3 y hy
          exact after_sum okx.a (handsJ_mem jn okx hn).1
        have hl := place_sum okx.a
        by_cases hz : tot W - x.1.1.places.sum = 0
        · have he : ext = [] := by
            cases ext with
            | nil => rfl
            | cons y ys =>
              have h5 := place_sum (ok' y List.mem_cons_self).a
              have h6 := sums y List.mem_cons_self
              omega
          rw [he]
          have : 1 ≤ wt W x.1.1 := Nat.one_le_pow _ _ (by omega)
          simp [Ph] at *
          omega
        · have h7 := ph_le (W := W) (c := 4 ^ (tot W - x.1.1.places.sum - 1)) ext fun y hy => by
            unfold wt
            rw [sums y hy, Nat.sub_add_eq]
            exact Nat.le_refl _
          have h8 : ext.length ≤ 3 := Nat.le_trans h2 (handsJ_len w)
          have h9 : wt W x.1.1 = 4 * 4 ^ (tot W - x.1.1.places.sum - 1) := by
            unfold wt
            obtain ⟨k, hk⟩ := Nat.exists_eq_succ_of_ne_zero hz
            rw [hk, Nat.pow_succ, Nat.mul_comm]; rfl
          have h10 : 1 ≤ 4 ^ (tot W - x.1.1.places.sum - 1) := Nat.one_le_pow _ _ (by omega)
          have h11 : ext.length * 4 ^ (tot W - x.1.1.places.sum - 1) ≤ 3 * 4 ^ (tot W - x.1.1.places.sum - 1) := Nat.mul_le_mul_right _ h8
          omega
def j0 (W : World) : List JE := [((beginT W, none), [])]
theorem j0_ok {W : World} {J : List Jn} (w : WOk W) : ∀ e ∈ j0 W, JOk W J e := fun e he => by
  have : e = ((beginT W, none), []) := by simpa [j0] using he
  subst this
  exact ⟨begin_ok w, by rw [begin_sum]; rfl, fun x hx => by cases hx⟩
theorem jwalk_ends {p : Par} {J : List Jn} {W : World} (w : WOk W) (jn : JnOk W J) : ∃ r, jOut p J W 70000 0 (j0 W) [] = some r := by
  refine jOut_ends w jn _ _ _ _ (j0_ok w) ?_
  have h1 : tot W ≤ 8 := w.sum
  have : Ph W ((j0 W).drop 0) = 4 ^ (tot W) := by simp [Ph, j0, wt, begin_sum]
  rw [this]
  have : 4 ^ tot W ≤ 4 ^ 8 := Nat.pow_le_pow_right (by omega) h1
  omega
def words5 : List Str := ["room", "person", "lost", "elder", "half"]
structure FOk (F : FD) : Prop where
  nd : (F.map (·.1)).Nodup
  ws : ∀ x ∈ F, x.1 ∈ words5
theorem few {α : Type} [BEq α] [LawfulBEq α] : ∀ (l w : List α), l.Nodup → (∀ x ∈ l, x ∈ w) → l.length ≤ w.length
  | [], _, _, _ => by simp
  | x :: l, w, nd, h => by
    have hx := h x List.mem_cons_self
    have nd' := List.nodup_cons.mp nd
    have := few l (w.erase x) nd'.2 fun y hy => (List.mem_erase_of_ne (fun e => nd'.1 (by rw [← e]; exact hy))).mpr (h y (List.mem_cons_of_mem _ hy))
    rw [List.length_erase_of_mem hx] at this
    have : 0 < w.length := List.length_pos_of_mem hx
    rw [List.length_cons]; omega
theorem FOk.len {F : FD} (h : FOk F) : F.length ≤ 5 := by
  have := few (F.map (·.1)) words5 h.nd fun x hx => by
    obtain ⟨y, my, rfl⟩ := List.mem_map.mp hx
    exact h.ws y my
  simpa [words5] using this
theorem FOk.put {F : FD} (h : FOk F) {f : Str} (hf : f ∈ words5) (wv : List Nat) : FOk (putF wv F f) := by
  unfold putF
  split
  · exact h
  · rename_i n
    refine ⟨?_, fun x hx => ?_⟩
    · rw [List.map_append]; rw [List.nodup_append]
      refine ⟨h.nd, by simp, fun a ha b hb => ?_⟩
      have : b = f := by simpa using hb
      subst this
      intro e; subst e; exact n ha
    · obtain m | m := List.mem_append.mp hx
      · exact h.ws x m
      · rw [List.mem_singleton.mp m]; exact hf
theorem faults_words {p : Par} {W : World} {s : WS} {n : Nat} : ∀ f ∈ faultsT p W s n, f ∈ words5 := by
  intro f hf
  unfold faultsT stepFaults at hf
  simp only [List.mem_append] at hf
  rcases hf with hf | hf
  · rcases hf with ((hf | hf) | hf) | hf <;> (split at hf <;> simp [words5] at hf ⊢ <;> simp [hf])
  · split at hf <;> simp [words5] at hf ⊢ <;> simp [hf]
theorem FOk.add {wv : List Nat} : ∀ (fs : List Str) (F : FD), (∀ f ∈ fs, f ∈ words5) → FOk F → FOk (addF wv fs F)
  | [], _, _, h => h
  | f :: fs, F, hf, h => FOk.add fs _ (fun x hx => hf x (List.mem_cons_of_mem _ hx)) (h.put (hf f List.mem_cons_self) wv)
theorem FOk.jIn {p : Par} {J : List Jn} {W : World} {s : WS} {wv : List Nat} : ∀ (ns : List Nat) (Q : List JE) (F : FD), FOk F → FOk (jIn p J W s wv ns Q F).2
  | [], _, _, h => h
  | n :: ns, Q, F, h => FOk.jIn ns _ _ (FOk.add _ _ faults_words h)
theorem FOk.nil : FOk [] := ⟨List.nodup_nil, fun x hx => by cases hx⟩
theorem jents_nd {Q : List JE} {k : JK} {wv : List Nat} (h : (Q.map (·.1)).Nodup) : ((addE Q k wv).map (·.1)).Nodup := by
  unfold addE
  split
  · exact h
  · rename_i hk
    rw [List.map_append]; rw [List.nodup_append]
    refine ⟨h, by simp, fun a ha b hb => ?_⟩
    have : b = k := by simpa using hb
    subst this
    intro e; subst e; exact hk ha
theorem jIn_nd {p : Par} {J : List Jn} {W : World} {s : WS} {wv : List Nat} : ∀ (ns : List Nat) (Q : List JE) (F : FD), (Q.map (·.1)).Nodup → ((jIn p J W s wv ns Q F).1.map (·.1)).Nodup
  | [], Q, F, h => h
  | n :: ns, Q, F, h => jIn_nd ns _ _ (jents_nd h)
end Lw
set_option Elab.async false
set_option linter.all false
set_option maxRecDepth 10000
set_option maxHeartbeats 400000
namespace Lw
open PySem PySem.Spec PyProof.Rows L2 Mi
def pJn (x : Jn) : MV := .tup [pNat x.1, pNat x.2]
def oJ : Option Jn → MV
  | none => .non
  | some x => pJn x
def pJK (k : JK) : MV := .tup [pWS k.1, oJ k.2]
theorem c_oJ {a b : Option Jn} (h : canon (oJ a) = canon (oJ b)) : a = b := by
  rcases a with _ | a <;> rcases b with _ | b
  · rfl
  · simp [oJ, pJn, canon] at h
  · simp [oJ, pJn, canon] at h
  · simp only [oJ, pJn, canon, canons, MV.tup.injEq, List.cons.injEq] at h
    have e1 := c_nat h.1
    have e2 := c_nat h.2.1
    obtain ⟨a1, a2⟩ := a
    obtain ⟨b1, b2⟩ := b
    simp at e1 e2 ⊢
    exact ⟨e1, e2⟩
theorem k_oJ {a : Option Jn} : keyOk (oJ a) = true ∧ kdep (oJ a) ≤ 1 := by
  cases a with
  | none => simp [oJ, keyOk, kdep]
  | some x => simp [oJ, pJn, pNat, keyOk, keyOks, kdep, kdeps]
theorem jk_key : KeyEnc pJK := by
  refine ⟨fun x y h => ?_, fun x => ?_⟩
  · simp only [pJK, canon, canons, MV.tup.injEq, List.cons.injEq] at h
    obtain ⟨a, b⟩ := x
    obtain ⟨c, d⟩ := y
    rw [Prod.mk.injEq]
    exact ⟨c_ws h.1, c_oJ h.2.1⟩
  · have h1 := k_ws (a := x.1)
    have h2 := k_oJ (a := x.2)
    rw [pJK, keyT]
    simp [keyOks, h1.1, h2.1, kdeps]
    omega
def JV (c : MV) (J : List Jn) : Prop := c = .tup (J.map pJn) ∨ c = .lst (J.map pJn)
theorem in_jn {S : Sto} {x : Jn} {J : List Jn} {c : MV} (hc : JV c J) : inM (pJn x) c S = .ok (.bl (decide (x ∈ J))) S := by
  have s1 : shs (J.map pJn) = true := shs_map (fun y => by simp [pJn, pNat, sh, shs]) J
  have d1 : dpts (J.map pJn) ≤ 1 := dpts_map J fun y _ => by simp [pJn, pNat, dpt, dpts]
  unfold inM
  rw [inB_sh (ys := J.map pJn) (by rcases hc with h | h <;> subst h; exact .inl rfl; exact .inr rfl) (by simp [pJn, pNat, sh, shs]) s1 (by simp [pJn, pNat, dpt, dpts]) (by omega)]
  have : decide (cn (pJn x) ∈ cns (J.map pJn)) = decide (x ∈ J) := by
    clear s1 d1 hc
    induction J with
    | nil => rfl
    | cons y ys ih =>
      have : cn (pJn x) = cn (pJn y) ↔ x = y := by
        obtain ⟨a1, a2⟩ := x
        obtain ⟨b1, b2⟩ := y
        simp [pJn, pNat, cn, cns]
      rw [List.map_cons, cns]
      simp only [List.mem_cons, this, Bool.decide_or, ih]
  simp only [this]
theorem hands_at_j {W : World} (w : WOk W) {k : JK} (h : StOk W k.1) {J : List Jn} {c : MV} (hc : JV c J) {S : Sto} : m_hands_at [pWorld W, pWS k.1, c, oJ k.2] S = .ok (.lst ((handsJ J W k).map pNat)) S := by
  obtain ⟨s, o⟩ := k
  have hl : W.hands.length ≤ 1000 := by have := w.h2; omega
  have z := line_k hl
  have e3 : ∀ S, idxM (pWorld W) (.int 3) S = .ok (.tup (W.hands.map pHand)) S := fun _ => rfl
  have rest : m_hands_at_s2 [some (pWorld W), some (pWS s), some c, some (oJ o), none] S = .rt (.lst ((hset W s).map pNat)) S := by
    simp [m_hands_at_s2, e3, hl, z]
    rw [lc_filter pNat (fun i => hasT W s i) pNat (List.range W.hands.length) rfl (by simp)]
    · simp [hset]
    · intro i hi
      have hi : i < W.hands.length := List.mem_range.mp hi
      simp [pNat, has_step_eq h hi]
  cases o with
  | none =>
    simp [m_hands_at, mFn, m_hands_at_s0]
    have := rest
    simp only [oJ] at this ⊢
    have n0 : ∀ S, isnM .non .non S = .ok (.bl false) S := fun _ => rfl
    simp [n0, this, handsJ]
  | some x =>
    have n1 : ∀ S, isnM (pJn x) .non S = .ok (.bl true) S := fun _ => rfl
    have ii := fun S => in_jn (S := S) (x := x) hc
    have i0 : ∀ S, idxM (pJn x) (.int 0) S = .ok (pNat x.1) S := fun _ => rfl
    simp only [oJ] at rest
    by_cases hx : x ∈ J
    · simp [m_hands_at, mFn, m_hands_at_s0, m_hands_at_s1, oJ, n1, ii, hx, i0, handsJ]
    · simp [m_hands_at, mFn, m_hands_at_s0, m_hands_at_s1, oJ, n1, ii, hx, i0, handsJ, rest]
def fks (F : FD) : List Key := F.map fun x => .inr x.1
def fvs (F : FD) : List MV := F.map fun x => .lst (x.2.map pNat)
theorem mem_fks {F : FD} {f : Str} : (.inr f : Key) ∈ fks F ↔ f ∈ F.map (·.1) := by
  simp [fks]
theorem look_fd {F : FD} {f : Str} : (dlook (fks F) (fvs F) (.inr f)).isSome = decide (f ∈ F.map (·.1)) := by
  have := dlook_mem (k := (.inr f : Key)) (fks F) (fvs F) (by simp [fks, fvs])
  rw [mem_fks] at this
  by_cases h : f ∈ F.map (·.1)
  · simp only [h, decide_true]; exact this.mpr h
  · have h2 : ¬ (dlook (fks F) (fvs F) (.inr f)).isSome = true := fun z => h (this.mp z)
    simp only [h, decide_false]
    simpa using h2
theorem fd_ref {S : Sto} {n : Nat} {ks : List Key} {vs : List MV} (h : S[n]? = some (.dct ks vs)) : dctOf S (.ref n) = some (ks, vs) := by
  show (match S[n]? with
    | some (.dct ks vs) => some (ks, vs)
    | _ => none) = _
  rw [h]
theorem nin_fd {S : Sto} {n : Nat} {F : FD} {f : Str} (h : S[n]? = some (.dct (fks F) (fvs F))) : ninM (.str f) (.ref n) S = .ok (.bl (!decide (f ∈ F.map (·.1)))) S := by
  unfold ninM inB; rw [fd_ref h]; simp only [keyV, look_fd]
theorem set_fd {S : Sto} {n : Nat} {F : FD} {f : Str} {wv : List Nat} (h : S[n]? = some (.dct (fks F) (fvs F))) (hx : f ∉ F.map (·.1)) (hz : F.length ≤ 5) :
    setM (.ref n) (.str f) (.lst (wv.map pNat)) S = some (S.set n (.dct (fks (putF wv F f)) (fvs (putF wv F f)))) := by
  unfold setM
  simp only [h, keyV]
  rw [if_pos (by simp [fks]; omega)]
  have hk : ¬ (.inr f : Key) ∈ fks F := fun z => hx (mem_fks.mp z)
  unfold dput putF
  rw [if_neg hk, if_neg hx]
  simp [fks, fvs]
end Lw
set_option Elab.async false
set_option linter.all false
set_option maxRecDepth 10000
set_option maxHeartbeats 400000
namespace Lw
open PySem PySem.Spec PyProof.Rows L2 Mi
def jents (Q : List JE) : List JK := Q.map (·.1)
def wSt (S : Sto) (Q : List JE) (F : FD) : Sto := S ++ [.dcT ((jents Q).map pJK) (Q.map fun e => pWv e.2), .dct (fks F) (fvs F), .lst ((jents Q).map pJK)]
def wE (p : Par) (W : World) (c k : MV) (b : Nat) (a : Int) (j8 j9 j10 j11 j12 : Option MV) (j : Nat → Option MV) : Ev :=
  [some (pPar p), some (pWorld W), some c, some k, some (.ref b), some (.ref (b + 1)), some (.ref (b + 2)), some (.int a), j8, j9, j10, j11, j12, j 0, j 1, j 2, j 3, j 4]
section
variable {S : Sto} {Q : List JE} {F : FD}
theorem w_at : (wSt S Q F)[S.length]? = some (.dcT ((jents Q).map pJK) (Q.map fun e => pWv e.2)) := by
  unfold wSt; rw [List.getElem?_append_right (Nat.le_refl _)]; simp
theorem w_at1 : (wSt S Q F)[S.length + 1]? = some (.dct (fks F) (fvs F)) := by
  unfold wSt; rw [List.getElem?_append_right (by omega)]; simp
theorem w_at2 : (wSt S Q F)[S.length + 2]? = some (.lst ((jents Q).map pJK)) := by
  unfold wSt; rw [List.getElem?_append_right (by omega)]; simp
theorem w_len : (jents Q).length = (Q.map fun e => pWv e.2).length := by simp [jents]
theorem w_set {k : JK} {wv : List Nat} (h : k ∉ jents Q) (hz : Q.length < 1000000) :
    setTM (.ref S.length) (pJK k) (pWv wv) (wSt S Q F) = some (S ++ [.dcT ((jents (Q ++ [(k, wv)])).map pJK) ((Q ++ [(k, wv)]).map fun e => pWv e.2), .dct (fks F) (fvs F), .lst ((jents Q).map pJK)]) := by
  rw [set_key jk_key w_at h (by rw [sizeLine_eq]; simp [jents]; omega)]
  simp [wSt, jents]
theorem w_app2 {k : JK} {ks ds : List MV} (hz : Q.length < 1000000) {o : MO} :
    appM (.ref (S.length + 2)) (pJK k) (S ++ [.dcT ks ds, o, .lst ((jents Q).map pJK)]) = .ok .non (S ++ [.dcT ks ds, o, .lst ((jents Q ++ [k]).map pJK)]) := by
  have h : (S ++ [MO.dcT ks ds, o, .lst ((jents Q).map pJK)])[S.length + 2]? = some (.lst ((jents Q).map pJK)) := by
    rw [List.getElem?_append_right (by omega)]; simp
  unfold appM
  simp only [h]
  rw [if_pos (by rw [sizeLine_eq]; simp [jents]; omega)]
  simp
theorem w_isl {ks ds : List MV} {o : MO} : isLst (S ++ [.dcT ks ds, o, .lst ((jents Q).map pJK)]) (.ref (S.length + 2)) = true := by
  refine isLst_ref (xs := (jents Q).map pJK) ?_
  rw [List.getElem?_append_right (by omega)]; simp
theorem w_setF {f : Str} {wv : List Nat} (hx : f ∉ F.map (·.1)) (hz : F.length ≤ 5) : setM (.ref (S.length + 1)) (.str f) (.lst (wv.map pNat)) (wSt S Q F) = some (wSt S Q (putF wv F f)) := by
  rw [set_fd w_at1 hx hz]
  simp [wSt]
end
/-- the loop over the faults of a step -/
theorem w_faults {p : Par} {W : World} {c k : MV} {S : Sto} {Q : List JE} {a : Int} {ws : List Nat} {n : Nat} {j10 j11 : Option MV} {j : Nat → Option MV} (el : (ws ++ [n]).length ≤ 1000) {okS : Sto → Bool} (hok : ∀ S, okS S = true) :
    ∀ (fs : List Str) (F : FD) (j12 : Option MV), FOk F → (∀ f ∈ fs, f ∈ words5) →
    ∃ j12', forGo okS (tgName 12) m_walked_s12 (fs.map pStr) (wE p W c k S.length a (some (pWv ws)) (some (pNat n)) j10 j11 j12 j) (wSt S Q F) = .nx (wE p W c k S.length a (some (pWv ws)) (some (pNat n)) j10 j11 j12' j) (wSt S Q (addF (ws ++ [n]) fs F))
  | [], F, j12, _, _ => ⟨j12, by rw [List.map_nil, forGo, if_pos (hok _)]; rfl⟩
  | f :: fs, F, j12, hF, hw => by
    have g : (tgName 12).f (pStr f) (wE p W c k S.length a (some (pWv ws)) (some (pNat n)) j10 j11 j12 j) = some (wE p W c k S.length a (some (pWv ws)) (some (pNat n)) j10 j11 (some (pStr f)) j) := rfl
    have hl : ws.length ≤ 1000 := by simp at el; omega
    have nn : ninM (.str f) (.ref (S.length + 1)) (wSt S Q F) = .ok (.bl (!decide (f ∈ F.map (·.1)))) (wSt S Q F) := nin_fd w_at1
    have st : m_walked_s12 (wE p W c k S.length a (some (pWv ws)) (some (pNat n)) j10 j11 (some (pStr f)) j) (wSt S Q F) = .nx (wE p W c k S.length a (some (pWv ws)) (some (pNat n)) j10 j11 (some (pStr f)) j) (wSt S Q (putF (ws ++ [n]) F f)) := by
      by_cases hf : f ∈ F.map (·.1)
      · have : putF (ws ++ [n]) F f = F := if_pos hf
        rw [this]
        simp [m_walked_s12, wE, pStr, nn, hf, -List.mem_map]
      · have sf := w_setF (S := S) (Q := Q) (f := f) (wv := ws ++ [n]) hf hF.len
        simp [m_walked_s12, m_walked_s13, wE, pStr, nn, hf, -List.mem_map, -List.map_append, add_wv hl, lst_wv el, sf]
    obtain ⟨j12', e⟩ := w_faults el hok fs (putF (ws ++ [n]) F f) (some (pStr f)) (hF.put (hw f List.mem_cons_self) _) fun x hx => hw x (List.mem_cons_of_mem _ hx)
    refine ⟨j12', ?_⟩
    rw [List.map_cons, forGo, if_pos (hok _), g]
    dsimp only
    rw [st]
    exact e
/-- a turn of the inner loop -/
theorem w_turn {p : Par} {W : World} (w : WOk W) {J : List Jn} (jn : JnOk W J) {c : MV} (hc : JV c J) {S : Sto} {Q : List JE} {F : FD} (hF : FOk F) {e : JE} (ok : JOk W J e) (hz : Q.length < 1000000) {n : Nat} (hn : n ∈ handsJ J W e.1) {k : MV} {a : Int} {j12 : Option MV} {j : Nat → Option MV} :
    ∃ j12' j', (mSeq m_walked_s10 (mSeq m_walked_s11 (mSeq m_walked_s14 (mSeq m_walked_s15 m_walked_s16)))) (wE p W c k S.length a (some (pWv e.2)) (some (pNat n)) (some (pWS e.1.1)) (some (oJ e.1.2)) j12 j) (wSt S Q F) =
      .nx (wE p W c k S.length a (some (pWv e.2)) (some (pNat n)) (some (pWS e.1.1)) (some (oJ e.1.2)) j12' j') (wSt S (addE Q (keyJ p J W e.1.1 n) (e.2 ++ [n])) (addF (e.2 ++ [n]) (faultsT p W e.1.1 n) F)) := by
  obtain ⟨hn1, hh⟩ := handsJ_mem jn ok hn
  have l1 : ∀ S, m_led [pPar p, pWorld W, pWS e.1.1, pNat n] S = _ := fun S => led_eq (p := p) (S := S) w ok.a hn1 hh
  have el : e.2.length ≤ 1000 := by have := place_sum ok.a; have h8 : tot W ≤ 8 := w.sum; rw [ok.len]; omega
  have el2 : (e.2 ++ [n]).length ≤ 1000 := by have := place_sum ok.a; have h8 : tot W ≤ 8 := w.sum; rw [List.length_append, ok.len]; simp; omega
  let jj : Nat → Option MV := fun i => match i with
    | 0 => j 0
    | 1 => j 1
    | 2 => some (pTold (nextT p W e.1.1 n).1)
    | 3 => some (pWS (afterT p W e.1.1 n))
    | _ => some (.lst ((faultsT p W e.1.1 n).map pStr))
  obtain ⟨j12', ef⟩ := w_faults (p := p) (W := W) (c := c) (k := k) (S := S) (Q := Q) (a := a) (ws := e.2) (n := n) (j10 := some (pWS e.1.1)) (j11 := some (oJ e.1.2)) (j := jj) el2 (okS := fun S => (Src.seq (.lst ((faultsT p W e.1.1 n).map pStr)) ((faultsT p W e.1.1 n).map pStr)).ok S) (fun S => by simp [Src.ok, seqOf, lstOf]) (faultsT p W e.1.1 n) F j12 hF faults_words
  generalize hF2 : addF (e.2 ++ [n]) (faultsT p W e.1.1 n) F = F2 at ef ⊢
  let j' : Nat → Option MV := fun i => match i with
    | 0 => some (pJn (n, placeAt e.1.1 n))
    | 1 => some (pJK (keyJ p J W e.1.1 n))
    | 2 => some (pTold (nextT p W e.1.1 n).1)
    | 3 => some (pWS (afterT p W e.1.1 n))
    | _ => some (.lst ((faultsT p W e.1.1 n).map pStr))
  refine ⟨j12', j', ?_⟩
  have hp : n < e.1.1.places.length := by rw [ok.a.pl]; exact hn1
  have s10 : m_walked_s10 (wE p W c k S.length a (some (pWv e.2)) (some (pNat n)) (some (pWS e.1.1)) (some (oJ e.1.2)) j12 j) (wSt S Q F) = .nx (wE p W c k S.length a (some (pWv e.2)) (some (pNat n)) (some (pWS e.1.1)) (some (oJ e.1.2)) j12 jj) (wSt S Q F) := by
    simp [m_walked_s10, wE, l1, jj]
  have s11 : m_walked_s11 (wE p W c k S.length a (some (pWv e.2)) (some (pNat n)) (some (pWS e.1.1)) (some (oJ e.1.2)) j12 jj) (wSt S Q F) = .nx (wE p W c k S.length a (some (pWv e.2)) (some (pNat n)) (some (pWS e.1.1)) (some (oJ e.1.2)) j12' jj) (wSt S Q F2) := by
    rw [← ef]
    unfold m_walked_s11
    simp [wE, jj]
  have ip : ∀ S, idxM (pWS e.1.1) (.int 0) S = .ok (.tup (e.1.1.places.map pNat)) S := fun _ => rfl
  have ipp : ∀ S, idxM (.tup (e.1.1.places.map pNat)) (pNat n) S = .ok (pNat (placeAt e.1.1 n)) S := fun S => ix_tup (by rw [List.getElem?_map, place_at hp]; rfl)
  have ij := fun S => in_jn (S := S) (x := (n, placeAt e.1.1 n)) hc
  let j1 : Nat → Option MV := fun i => match i with
    | 0 => some (pJn (n, placeAt e.1.1 n))
    | 1 => j 1
    | 2 => some (pTold (nextT p W e.1.1 n).1)
    | 3 => some (pWS (afterT p W e.1.1 n))
    | _ => some (.lst ((faultsT p W e.1.1 n).map pStr))
  have s14 : m_walked_s14 (wE p W c k S.length a (some (pWv e.2)) (some (pNat n)) (some (pWS e.1.1)) (some (oJ e.1.2)) j12' jj) (wSt S Q F2) = .nx (wE p W c k S.length a (some (pWv e.2)) (some (pNat n)) (some (pWS e.1.1)) (some (oJ e.1.2)) j12' j1) (wSt S Q F2) := by
    simp [m_walked_s14, wE, ip, ipp, jj, j1, pJn]
  have kk : pJK (keyJ p J W e.1.1 n) = .tup [pWS (afterT p W e.1.1 n), oJ (lastJ J e.1.1 n)] := rfl
  have s15 : m_walked_s15 (wE p W c k S.length a (some (pWv e.2)) (some (pNat n)) (some (pWS e.1.1)) (some (oJ e.1.2)) j12' j1) (wSt S Q F2) = .nx (wE p W c k S.length a (some (pWv e.2)) (some (pNat n)) (some (pWS e.1.1)) (some (oJ e.1.2)) j12' j') (wSt S Q F2) := by
    by_cases hx : (n, placeAt e.1.1 n) ∈ J
    · have : oJ (lastJ J e.1.1 n) = pJn (n, placeAt e.1.1 n) := by rw [lastJ, if_pos hx]; rfl
      simp [m_walked_s15, wE, mIf, ij, hx, j1, j', kk, this]
    · have : oJ (lastJ J e.1.1 n) = .non := by rw [lastJ, if_neg hx]; rfl
      simp [m_walked_s15, wE, mIf, ij, hx, j1, j', kk, this]
  have nk : ninTM (pJK (keyJ p J W e.1.1 n)) (.ref S.length) (wSt S Q F2) = .ok (.bl (!decide (keyJ p J W e.1.1 n ∈ jents Q))) (wSt S Q F2) := nin_keys jk_key w_at w_len
  have s16 : m_walked_s16 (wE p W c k S.length a (some (pWv e.2)) (some (pNat n)) (some (pWS e.1.1)) (some (oJ e.1.2)) j12' j') (wSt S Q F2) = .nx (wE p W c k S.length a (some (pWv e.2)) (some (pNat n)) (some (pWS e.1.1)) (some (oJ e.1.2)) j12' j') (wSt S (addE Q (keyJ p J W e.1.1 n) (e.2 ++ [n])) F2) := by
    by_cases hk : keyJ p J W e.1.1 n ∈ jents Q
    · have : addE Q (keyJ p J W e.1.1 n) (e.2 ++ [n]) = Q := if_pos hk
      rw [this]
      simp [m_walked_s16, wE, nk, hk, j']
    · have : addE Q (keyJ p J W e.1.1 n) (e.2 ++ [n]) = Q ++ [(keyJ p J W e.1.1 n, e.2 ++ [n])] := if_neg hk
      rw [this]
      have sk := w_set (S := S) (F := F2) (wv := e.2 ++ [n]) hk hz
      have ak := w_app2 (S := S) (Q := Q) (k := keyJ p J W e.1.1 n) (ks := (jents (Q ++ [(keyJ p J W e.1.1 n, e.2 ++ [n])])).map pJK) (ds := (Q ++ [(keyJ p J W e.1.1 n, e.2 ++ [n])]).map fun e => pWv e.2) hz (o := .dct (fks F2) (fvs F2))
      have fe : wSt S (Q ++ [(keyJ p J W e.1.1 n, e.2 ++ [n])]) F2 = S ++ [.dcT ((jents (Q ++ [(keyJ p J W e.1.1 n, e.2 ++ [n])])).map pJK) ((Q ++ [(keyJ p J W e.1.1 n, e.2 ++ [n])]).map fun e => pWv e.2), .dct (fks F2) (fvs F2), .lst ((jents Q ++ [keyJ p J W e.1.1 n]).map pJK)] := by
        simp [wSt, jents]
      rw [fe]
      simp [-List.map_append, m_walked_s16, m_walked_s17, m_walked_s18, wE, nk, hk, add_wv el, sk, w_isl, ak, j']
  rw [w_seq', s10, nxt_nx, w_seq', s11, nxt_nx, w_seq', s14, nxt_nx, w_seq', s15, nxt_nx, s16]
/-- the inner loop -/
theorem w_in {p : Par} {W : World} (w : WOk W) {J : List Jn} (jn : JnOk W J) {c : MV} (hc : JV c J) {S : Sto} {e : JE} (ok : JOk W J e) {k : MV} {a : Int} {okS : Sto → Bool} (hok : ∀ S, okS S = true) : ∀ (ns : List Nat) (Q : List JE) (F : FD) (j9 j12 : Option MV) (j : Nat → Option MV), FOk F → Q.length + ns.length < 1000000 → (∀ n ∈ ns, n ∈ handsJ J W e.1) →
    ∃ j9' j12' j', forGo okS (tgName 9) (mSeq m_walked_s10 (mSeq m_walked_s11 (mSeq m_walked_s14 (mSeq m_walked_s15 m_walked_s16)))) (ns.map pNat) (wE p W c k S.length a (some (pWv e.2)) j9 (some (pWS e.1.1)) (some (oJ e.1.2)) j12 j) (wSt S Q F) = .nx (wE p W c k S.length a (some (pWv e.2)) j9' (some (pWS e.1.1)) (some (oJ e.1.2)) j12' j') (wSt S (jIn p J W e.1.1 e.2 ns Q F).1 (jIn p J W e.1.1 e.2 ns Q F).2)
  | [], Q, F, j9, j12, j, _, _, _ => ⟨j9, j12, j, by rw [List.map_nil, forGo, if_pos (hok _)]; rfl⟩
  | n :: ns, Q, F, j9, j12, j, hF, hz, hn => by
    rw [List.length_cons] at hz
    obtain ⟨a1, a2, e1⟩ := w_turn (p := p) w jn hc (S := S) (Q := Q) hF ok (by omega) (hn n List.mem_cons_self) (k := k) (a := a) (j12 := j12) (j := j)
    have g : (tgName 9).f (pNat n) (wE p W c k S.length a (some (pWv e.2)) j9 (some (pWS e.1.1)) (some (oJ e.1.2)) j12 j) = some (wE p W c k S.length a (some (pWv e.2)) (some (pNat n)) (some (pWS e.1.1)) (some (oJ e.1.2)) j12 j) := rfl
    have hl : (addE Q (keyJ p J W e.1.1 n) (e.2 ++ [n])).length ≤ Q.length + 1 := by
      obtain ⟨x, h1, h2, _⟩ := addE_ext (Q := Q) (k := keyJ p J W e.1.1 n) (wv := e.2 ++ [n])
      rw [h1, List.length_append]; omega
    obtain ⟨b1, b2, b3, e2⟩ := w_in (p := p) w jn hc (S := S) ok (k := k) (a := a) hok ns (addE Q (keyJ p J W e.1.1 n) (e.2 ++ [n])) (addF (e.2 ++ [n]) (faultsT p W e.1.1 n) F) (some (pNat n)) a1 a2 (FOk.add _ _ faults_words hF) (by omega) fun m hm => hn m (List.mem_cons_of_mem _ hm)
    refine ⟨b1, b2, b3, ?_⟩
    rw [List.map_cons, forGo, if_pos (hok _), g]
    dsimp only
    rw [e1]
    exact e2
/-- the outer loop -/
theorem w_out {p : Par} {W : World} (w : WOk W) {J : List Jn} (jn : JnOk W J) {c : MV} (hc : JV c J) {S : Sto} {k : MV} : ∀ (f a : Nat) (Q : List JE) (F : FD) (j8 j9 j10 j11 j12 : Option MV) (j : Nat → Option MV) (r : List JE × FD), (∀ e ∈ Q, JOk W J e) → (jents Q).Nodup → FOk F → Q.length ≤ 1 + 3 * a → a + f ≤ 70000 → jOut p J W f a Q F = some r →
    toR ((mWhile (mTest (mOp ltM (mVar 7) (mCallF lenM (mCons (mVar 6) mNil)))) (mSeq m_walked_s6 (mSeq m_walked_s7 (mSeq m_walked_s8 m_walked_s9))) f (wE p W c k S.length (a : Nat) j8 j9 j10 j11 j12 j) (wSt S Q F)).nxt m_walked_s19) = .ok (.tup [.ref S.length, .ref (S.length + 1)]) (wSt S r.1 r.2)
  | 0, a, Q, F, j8, j9, j10, j11, j12, j, r, _, _, _, _, _, h => by rw [jOut] at h; cases h
  | f + 1, a, Q, F, j8, j9, j10, j11, j12, j, r, ok, nd, hF, hlen, hf, h => by
    have ll : lenM [.ref (S.length + 2)] (wSt S Q F) = .ok (.int (Q.length : Nat)) (wSt S Q F) := by
      have := len_seq (v := .ref (S.length + 2)) (xs := (jents Q).map pJK) (S := wSt S Q F) (seq_ref.mpr w_at2)
      simpa [jents] using this
    rw [jOut] at h
    rw [w_while]
    cases e : Q[a]? with
    | none =>
      rw [e] at h
      cases h
      have ha : ¬ ((a : Int) < (Q.length : Nat)) := by
        have := List.getElem?_eq_none_iff.mp e
        omega
      simp [wE, ll, ha, m_walked_s19]
    | some x =>
      rw [e] at h
      dsimp only at h
      have hlt := (List.getElem?_eq_some_iff.mp e).1
      have ha : ((a : Int) < (Q.length : Nat)) := by omega
      have okx := ok x (List.mem_of_getElem? e)
      have iw : idxM (.ref (S.length + 2)) (.int (a : Nat)) (wSt S Q F) = .ok (pJK x.1) (wSt S Q F) := ix_ref w_at2 (by rw [List.getElem?_map]; unfold jents; rw [List.getElem?_map, e]; rfl)
      have ik : idxTM (.ref S.length) (pJK x.1) (wSt S Q F) = .ok (pWv x.2) (wSt S Q F) := ix_key (i := a) jk_key w_at nd (by unfold jents; rw [List.getElem?_map, e]; rfl) (by rw [List.getElem?_map, e]; rfl)
      have s6 : m_walked_s6 (wE p W c k S.length (a : Nat) j8 j9 j10 j11 j12 j) (wSt S Q F) = .nx (wE p W c k S.length (a : Nat) j8 j9 (some (pWS x.1.1)) (some (oJ x.1.2)) j12 j) (wSt S Q F) := by
        simp [m_walked_s6, wE, iw, pJK]
      have s7 : m_walked_s7 (wE p W c k S.length (a : Nat) j8 j9 (some (pWS x.1.1)) (some (oJ x.1.2)) j12 j) (wSt S Q F) = .nx (wE p W c k S.length (a : Nat) (some (pWv x.2)) j9 (some (pWS x.1.1)) (some (oJ x.1.2)) j12 j) (wSt S Q F) := by
        simp [m_walked_s7, wE, iw, ik]
      have s8 : m_walked_s8 (wE p W c k S.length (a : Nat) (some (pWv x.2)) j9 (some (pWS x.1.1)) (some (oJ x.1.2)) j12 j) (wSt S Q F) = .nx (wE p W c k S.length ((a + 1 : Nat) : Int) (some (pWv x.2)) j9 (some (pWS x.1.1)) (some (oJ x.1.2)) j12 j) (wSt S Q F) := by
        unfold m_walked_s8
        rw [w_augI (a := (a : Int)) rfl]
        simp [wE]
      have hs := handsJ_len (J := J) w (k := x.1)
      obtain ⟨b1, b2, b3, e2⟩ := w_in (p := p) w jn hc (S := S) okx (k := k) (a := ((a + 1 : Nat) : Int)) (okS := fun S => (Src.seq (.lst ((handsJ J W x.1).map pNat)) ((handsJ J W x.1).map pNat)).ok S) (fun S => by simp [Src.ok, seqOf, lstOf]) (handsJ J W x.1) Q F j9 j12 j hF (by omega) (fun _ h => h)
      have s9 : m_walked_s9 (wE p W c k S.length ((a + 1 : Nat) : Int) (some (pWv x.2)) j9 (some (pWS x.1.1)) (some (oJ x.1.2)) j12 j) (wSt S Q F) = forGo (fun S => (Src.seq (.lst ((handsJ J W x.1).map pNat)) ((handsJ J W x.1).map pNat)).ok S) (tgName 9) (mSeq m_walked_s10 (mSeq m_walked_s11 (mSeq m_walked_s14 (mSeq m_walked_s15 m_walked_s16)))) ((handsJ J W x.1).map pNat) (wE p W c k S.length ((a + 1 : Nat) : Int) (some (pWv x.2)) j9 (some (pWS x.1.1)) (some (oJ x.1.2)) j12 j) (wSt S Q F) := by
        unfold m_walked_s9
        simp [wE, hands_at_j w okx.a hc]
      have cond : (mTest (mOp ltM (mVar 7) (mCallF lenM (mCons (mVar 6) mNil)))) (wE p W c k S.length (a : Nat) j8 j9 j10 j11 j12 j) (wSt S Q F) = .ok true (wSt S Q F) := by
        simp [wE, ll, ha]
      rw [cond, R.thn_ok, if_pos rfl, w_seq', s6, nxt_nx, w_seq', s7, nxt_nx, w_seq', s8, nxt_nx, s9, e2, nxt_nx]
      obtain ⟨ext, h1, h2, h4⟩ := jIn_ext (p := p) (J := J) (W := W) (s := x.1.1) (wv := x.2) (handsJ J W x.1) Q F
      refine w_out w jn hc f (a + 1) _ _ _ _ _ _ _ _ r (fun y hy => ?_) (jIn_nd _ _ _ nd) (FOk.jIn _ _ _ hF) (by rw [h1, List.length_append]; omega) (by omega) h
      rw [h1] at hy
      obtain z | z := List.mem_append.mp hy
      · exact ok y z
      · obtain ⟨n, hn, rfl⟩ := h4 y z
        exact okx.next w jn hn
theorem walked_run {p : Par} {W : World} (w : WOk W) {J : List Jn} (jn : JnOk W J) {c : MV} (hc : JV c J) {r : List JE × FD} (h : jOut p J W 70000 0 (j0 W) [] = some r) {S : Sto} : mFn 18 (mSeq m_walked_s0 (mSeq m_walked_s1 (mSeq m_walked_s2 (mSeq m_walked_s3 (mSeq m_walked_s4 (mSeq m_walked_s5 m_walked_s19)))))) [pPar p, pWorld W, c] S = .ok (.tup [.ref S.length, .ref (S.length + 1)]) (wSt S r.1 r.2) := by
  have e := w_out (p := p) w jn hc (S := S) (k := pJK (beginT W, none)) 70000 0 (j0 W) [] none none none none none (fun _ => none) r (j0_ok w) (by simp [jents, j0]) FOk.nil (by simp [j0]) (by omega) h
  have b := fun S => begin_eq (S := S) w
  have kk : MV.tup [pWS (beginT W), .non] = pJK (beginT W, none) := rfl
  have kt := jk_key.ok (beginT W, none)
  have s5 : m_walked_s5 = mWhile (mTest (mOp ltM (mVar 7) (mCallF lenM (mCons (mVar 6) mNil)))) (mSeq m_walked_s6 (mSeq m_walked_s7 (mSeq m_walked_s8 m_walked_s9))) 70000 := rfl
  have e0 : (wE p W c (pJK (beginT W, none)) S.length (0 : Nat) none none none none none (fun _ => none)) = [some (pPar p), some (pWorld W), some c, some (pJK (beginT W, none)), some (.ref S.length), some (.ref (S.length + 1)), some (.ref (S.length + 2)), some (.int 0), none, none, none, none, none, none, none, none, none, none] := rfl
  have s0 : wSt S (j0 W) [] = S ++ [.dcT [pJK (beginT W, none)] [.tup []], .dct [] [], .lst [pJK (beginT W, none)]] := rfl
  rw [e0, s0, ← s5] at e
  simp [mFn, m_walked_s0, m_walked_s1, m_walked_s2, m_walked_s3, m_walked_s4, b, kk, kt, mkD]
  simpa [wSt] using e
def dktV (Q : List JE) : MV := .dcT ((jents Q).map pJK) (Q.map fun e => pWv e.2)
def dctV (X : FD) : MV := .dct (fks X) (fvs X)
theorem rf_wv {b : Nat} {ws : List Nat} : refsB b (pWv ws) = true := by
  have := refs_map (b := b) (f := pNat) (xs := ws) fun _ _ => rfl
  simpa [pWv, refsB] using this
theorem rf_jk {b : Nat} {k : JK} : refsB b (pJK k) = true := by
  obtain ⟨s, o⟩ := k
  cases o <;> simp [pJK, oJ, pJn, pNat, refsB, refsBs]
theorem walked_frz {p : Par} {W : World} (w : WOk W) {J : List Jn} (jn : JnOk W J) {c : MV} (hc : JV c J) {r : List JE × FD} (h : jOut p J W 70000 0 (j0 W) [] = some r) {S : Sto} : m_walked [pPar p, pWorld W, c] S = .ok (.tup [dktV r.1, dctV r.2]) S := by
  have run := walked_run (p := p) w jn hc h (S := S)
  refine frzF_ok run ?_ (by simp [wSt])
  have a0 : (wSt S r.1 r.2)[S.length]? = some (.dcT ((jents r.1).map pJK) (r.1.map fun e => pWv e.2)) := w_at
  have a1 : (wSt S r.1 r.2)[S.length + 1]? = some (.dct (fks r.2) (fvs r.2)) := w_at1
  have kb : refsBs S.length ((jents r.1).map pJK) = true := refs_map fun _ _ => rf_jk
  have m0 : (r.1.map fun e => pWv e.2).mapM (frz S.length (wSt S r.1 r.2) 6) = some (r.1.map fun e => pWv e.2) := mapM_map (e := fun e : JE => pWv e.2) (g := fun e : JE => pWv e.2) _ fun e _ => frz_0 rf_wv
  have m1 : (fvs r.2).mapM (frz S.length (wSt S r.1 r.2) 6) = some (fvs r.2) := mapM_map (e := fun x : Str × List Nat => MV.lst (x.2.map pNat)) (g := fun x : Str × List Nat => MV.lst (x.2.map pNat)) _ fun x _ => frz_0 (by
    have := refs_map (b := 0) (f := pNat) (xs := x.2) fun _ _ => rfl
    simpa [refsB] using this)
  have f0 : frz S.length (wSt S r.1 r.2) 7 (.ref S.length) = some (dktV r.1) := by
    rw [frz, if_neg (by omega), a0]
    dsimp only
    rw [if_pos kb, m0]; rfl
  have f1 : frz S.length (wSt S r.1 r.2) 7 (.ref (S.length + 1)) = some (dctV r.2) := by
    rw [frz, if_neg (by omega), a1]
    dsimp only
    rw [m1]; rfl
  rw [frz, List.mapM_cons, f0, List.mapM_cons, f1]
  rfl
end Lw
set_option Elab.async false
set_option linter.all false
set_option maxRecDepth 10000
set_option maxHeartbeats 400000
namespace Lw
open PySem PySem.Spec PyProof.Rows L2 Mi
def NFr (r : Row) : Prop := ∀ d ∈ r.days, d.s = false
structure NF (s : WS) : Prop where
  rows : ∀ r ∈ s.rows, NFr r
  olds : ∀ m ∈ s.mems, ∀ o, m.old = some o → NFr o
def NoOne (W : World) : Prop := ∀ h ∈ W.hands, ∀ st ∈ h.2, ∀ d x, st ≠ Step.one d x
def keepP (p : Par) : Par := ⟨p.c, "keep", p.h, p.t⟩
theorem nf_at {rs : List Row} (h : ∀ r ∈ rs, NFr r) (k : Nat) : NFr (rowAt rs k) := by
  by_cases hk : k < rs.length
  · exact h _ (List.mem_of_getElem? (row_at hk))
  · intro d hd
    have : rowAt rs k = ⟨0, 0, []⟩ := by
      unfold rowAt
      rw [List.getD_eq_getElem?_getD, List.getElem?_eq_none (by omega)]; rfl
    rw [this] at hd; cases hd
theorem rday_nf {s : Str} {H b h : Int} {d : Day} (hd : d.s = false) : rday s H b d h = rday "keep" H b d h ∧ (rday s H b d h).s = false := by
  unfold rday
  cases d.a with
  | none => exact ⟨rfl, hd⟩
  | some a => simp [hd]
theorem rdays_nf {s : Str} {H h : Int} {r : Row} (hr : NFr r) : rdays s H r h = rdays "keep" H r h ∧ ∀ d ∈ rdays s H r h, d.s = false := by
  refine ⟨List.map_congr_left fun d hd => (rday_nf (hr d hd)).1, fun d hd => ?_⟩
  obtain ⟨x, hx, rfl⟩ := List.mem_map.mp hd
  exact (rday_nf (hr x hx)).2
theorem step_nf {p : Par} {H : Int} {rs : List Row} (hr : ∀ r ∈ rs, NFr r) {k : Nat} {m : Mem} {st : Step} : stepT p H rs k m st = stepT (keepP p) H rs k m st := by
  cases st with
  | room h =>
    have e : roomSet p.c p.s H rs k h = roomSet p.c "keep" H rs k h := by
      unfold roomSet
      rw [(rdays_nf (s := p.s) (H := H) (h := h) (nf_at hr k)).1]
    show fin (if m.found = some false then none else roomSet p.c p.s H rs k h) _ _ _ = fin (if m.found = some false then none else roomSet p.c "keep" H rs k h) _ _ _
    rw [e]
  | _ => rfl
theorem set_nf {rs : List Row} (hr : ∀ r ∈ rs, NFr r) {k : Nat} {x : Row} (hx : NFr x) : ∀ r ∈ rs.set k x, NFr r := fun r h => by
  rcases List.mem_or_eq_of_mem_set h with h1 | h1
  · exact hr r h1
  · rw [h1]; exact hx
theorem step_kp {p : Par} {H : Int} {rs : List Row} (hr : ∀ r ∈ rs, NFr r) {k : Nat} {m : Mem} (hm : ∀ o, m.old = some o → NFr o) {st : Step} (ns : ∀ d x, st ≠ .one d x) :
    (∀ r ∈ (stepT p H rs k m st).2.2, NFr r) ∧ ∀ o, (stepT p H rs k m st).2.1.old = some o → NFr o := by
  have ha := nf_at hr k
  cases st with
  | find h => exact ⟨hr, hm⟩
  | tell => exact ⟨hr, hm⟩
  | one d x => exact absurd rfl (ns d x)
  | room h =>
    have none_ : (∀ r ∈ (fin none m (⟨m.found, m.seen, some (rowAt rs k)⟩ : Mem) rs).2.2, NFr r) ∧ ∀ o, (fin none m (⟨m.found, m.seen, some (rowAt rs k)⟩ : Mem) rs).2.1.old = some o → NFr o := ⟨hr, hm⟩
    simp only [stepT]
    split
    · exact none_
    · unfold roomSet
      split
      · exact none_
      · refine ⟨set_nf hr (rdays_nf ha).2, fun o e => ?_⟩
        have : o = rowAt rs k := by simpa [fin] using e.symm
        rw [this]; exact ha
  | person =>
    simp only [stepT, personSet]
    by_cases hc : p.c = "both" ∧ clash rs k (rowAt rs k).days (pdays (rowAt rs k)) true = true
    · rw [if_pos hc]
      dsimp only
      split
      · cases e : m.old with
        | none => exact ⟨hr, hm⟩
        | some o =>
          refine ⟨set_nf hr fun d hd => ?_, fun o' e' => by cases e'⟩
          have ho := hm o e
          simp only [backRow] at hd
          obtain ⟨i, hi, e2⟩ := List.mem_iff_getElem.mp hd
          simp only [List.getElem_zipWith, List.length_zipWith] at e2 hi
          have h1 := ha _ (List.getElem_mem (show i < (rowAt rs k).days.length by omega))
          have h2 := ho _ (List.getElem_mem (show i < o.days.length by omega))
          rw [← e2]
          unfold backDay
          split
          · exact h1
          · exact h2
      · exact ⟨hr, hm⟩
    · rw [if_neg hc]
      refine ⟨set_nf hr fun d hd => ?_, hm⟩
      obtain ⟨x, hx, rfl⟩ := List.mem_map.mp hd
      exact ha x hx
  | off d =>
    simp only [stepT, offSet]
    split
    · exact ⟨hr, hm⟩
    · refine ⟨set_nf hr fun x hx => ?_, hm⟩
      rcases List.mem_or_eq_of_mem_set hx with h1 | h1
      · exact ha x h1
      · rw [h1]
theorem at_no {W : World} (n1 : NoOne W) (s : WS) (n : Nat) : ∀ d x, stepAt W s n ≠ .one d x := by
  intro d x e
  unfold stepAt at e
  by_cases h : placeAt s n < (handAt W n).2.length
  · have m : (handAt W n).2[placeAt s n] ∈ (handAt W n).2 := List.getElem_mem h
    rw [List.getD_eq_getElem?_getD, List.getElem?_eq_getElem h] at e
    by_cases hn : n < W.hands.length
    · exact n1 _ (List.mem_of_getElem? (hand_at hn)) _ m d x e
    · have : handAt W n = (0, []) := by
        unfold handAt
        rw [List.getD_eq_getElem?_getD, List.getElem?_eq_none (by omega)]; rfl
      rw [this] at h; exact absurd h (Nat.not_lt_zero _)
  · rw [List.getD_eq_getElem?_getD, List.getElem?_eq_none (by omega)] at e; cases e
theorem mem_nf {s : WS} (h : NF s) (n : Nat) : ∀ o, (memAt s n).old = some o → NFr o := by
  intro o e
  by_cases hn : n < s.mems.length
  · exact h.olds _ (List.mem_of_getElem? (mem_at hn)) o e
  · have : memAt s n = ⟨none, none, none⟩ := by
      unfold memAt
      rw [List.getD_eq_getElem?_getD, List.getElem?_eq_none (by omega)]; rfl
    rw [this] at e; cases e
theorem after_nf {p : Par} {W : World} (n1 : NoOne W) {s : WS} (h : NF s) (n : Nat) : afterT p W s n = afterT (keepP p) W s n ∧ faultsT p W s n = faultsT (keepP p) W s n ∧ NF (afterT p W s n) := by
  have e : nextT p W s n = nextT (keepP p) W s n := step_nf h.rows
  have ea : afterT p W s n = afterT (keepP p) W s n := by unfold afterT; rw [e]
  refine ⟨ea, by unfold faultsT; rw [e, ea], ?_⟩
  have k := step_kp (p := p) (H := W.H) h.rows (k := (handAt W n).1) (mem_nf h n) (at_no n1 s n)
  refine ⟨k.1, fun m hm o eo => ?_⟩
  rcases List.mem_or_eq_of_mem_set hm with h1 | h1
  · exact h.olds m h1 o eo
  · rw [h1] at eo; exact k.2 o eo
theorem begin_nf {W : World} : NF (beginT W) := by
  refine ⟨fun r hr d hd => ?_, fun m hm o eo => ?_⟩
  · simp only [beginT, List.mem_map] at hr
    obtain ⟨x, _, rfl⟩ := hr
    rw [List.eq_of_mem_replicate hd]
  · simp only [beginT, List.mem_map] at hm
    obtain ⟨x, _, rfl⟩ := hm
    cases eo
end Lw
set_option Elab.async false
set_option linter.all false
set_option maxRecDepth 10000
set_option maxHeartbeats 400000
namespace Lw
open PySem PySem.Spec PyProof.Rows L2 Mi
structure Alike (p q : Par) (W : World) (P : WS → Prop) : Prop where
  start : P (beginT W)
  step : ∀ s, P s → ∀ n, hasT W s n = true → nextT p W s n = nextT q W s n ∧ P (afterT p W s n)
section
variable {p q : Par} {W : World} {P : WS → Prop}
theorem Alike.after (h : Alike p q W P) {s : WS} (hs : P s) {n : Nat} (ht : hasT W s n = true) : afterT p W s n = afterT q W s n ∧ faultsT p W s n = faultsT q W s n := by
  have e := (h.step s hs n ht).1
  have ea : afterT p W s n = afterT q W s n := by unfold afterT; rw [e]
  exact ⟨ea, by unfold faultsT; rw [e, ea]⟩
theorem Alike.jIn (h : Alike p q W P) {J : List Jn} {s : WS} (hs : P s) {wv : List Nat} : ∀ (ns : List Nat) (Q : List JE) (F : FD), (∀ n ∈ ns, hasT W s n = true) → Lw.jIn p J W s wv ns Q F = Lw.jIn q J W s wv ns Q F
  | [], _, _, _ => rfl
  | n :: ns, Q, F, hn => by
    obtain ⟨e1, e2⟩ := h.after hs (hn n List.mem_cons_self)
    have ek : keyJ p J W s n = keyJ q J W s n := by unfold keyJ; rw [e1]
    rw [Lw.jIn, Lw.jIn, ek, e2]
    exact h.jIn hs ns _ _ fun m hm => hn m (List.mem_cons_of_mem _ hm)
theorem hands_nil {k : JK} : handsJ [] W k = hset W k.1 := by
  unfold handsJ
  cases k.2 <;> simp
theorem Alike.jOut (h : Alike p q W P) : ∀ (f a : Nat) (Q : List JE) (F : FD), (∀ e ∈ Q, P e.1.1) → Lw.jOut p [] W f a Q F = Lw.jOut q [] W f a Q F
  | 0, _, _, _, _ => rfl
  | f + 1, a, Q, F, hQ => by
    rw [Lw.jOut, Lw.jOut]
    cases e : Q[a]? with
    | none => rfl
    | some x =>
      dsimp only
      have hx := hQ x (List.mem_of_getElem? e)
      have ht : ∀ n ∈ handsJ [] W x.1, hasT W x.1.1 n = true := fun n hn => by
        rw [hands_nil] at hn
        exact (hset_mem.mp hn).2
      obtain ⟨y, g1, _, g3⟩ := jIn_ext (p := p) (J := []) (W := W) (s := x.1.1) (wv := x.2) (handsJ [] W x.1) Q F
      rw [← h.jIn hx _ _ _ ht]
      refine h.jOut f (a + 1) _ _ fun z hz => ?_
      rw [g1] at hz
      rcases List.mem_append.mp hz with m | m
      · exact hQ z m
      · obtain ⟨n, hn, rfl⟩ := g3 z m
        exact (h.step _ hx n (ht n hn)).2
/-- both walks are one -/
theorem Alike.walk (h : Alike p q W P) : Lw.jOut p [] W 70000 0 (j0 W) [] = Lw.jOut q [] W 70000 0 (j0 W) [] :=
  h.jOut _ _ _ _ fun e he => by
    have : e = ((beginT W, none), []) := by simpa [j0] using he
    rw [this]; exact h.start
/-- nothing tells them apart -/
theorem Alike.bIn (h : Alike p q W P) {s : WS} (hs : P s) {wv : List Nat} : ∀ (ns : List Nat) (Q : List Ent), (∀ n ∈ ns, hasT W s n = true) → (∀ e ∈ Q, e.1.1 = e.1.2 ∧ P e.1.1) → ∃ Q', Lw.bIn p q W (s, s) wv ns Q = .more Q' ∧ ∀ e ∈ Q', e.1.1 = e.1.2 ∧ P e.1.1
  | [], Q, _, hQ => ⟨Q, rfl, hQ⟩
  | n :: ns, Q, hn, hQ => by
    have ht := hn n List.mem_cons_self
    obtain ⟨e1, e2⟩ := h.step s hs n ht
    have ea := (h.after hs ht).1
    rw [Lw.bIn, if_pos (by rw [e1])]
    refine h.bIn hs ns _ (fun m hm => hn m (List.mem_cons_of_mem _ hm)) fun e he => ?_
    unfold addQ at he
    split at he
    · exact hQ e he
    · rcases List.mem_append.mp he with m | m
      · exact hQ e m
      · rw [List.mem_singleton.mp m]
        exact ⟨ea, e2⟩
theorem Alike.bOut (h : Alike p q W P) : ∀ (f a : Nat) (Q : List Ent) (r : Option (List Nat)), (∀ e ∈ Q, e.1.1 = e.1.2 ∧ P e.1.1) → Lw.bOut p q W f a Q = some r → r = none
  | 0, _, _, _, _, e => by rw [Lw.bOut] at e; cases e
  | f + 1, a, Q, r, hQ, e => by
    rw [Lw.bOut] at e
    cases e0 : Q[a]? with
    | none => rw [e0] at e; cases e; rfl
    | some x =>
      rw [e0] at e
      dsimp only at e
      obtain ⟨h1, h2⟩ := hQ x (List.mem_of_getElem? e0)
      obtain ⟨Q', e1, h3⟩ := h.bIn h2 (wv := x.2) (hset W x.1.1) Q (fun n hn => (hset_mem.mp hn).2) hQ
      have ex : x.1 = (x.1.1, x.1.1) := by
        obtain ⟨⟨s, t⟩, w⟩ := x
        have h1 : s = t := h1
        subst h1; rfl
      rw [ex, e1] at e
      exact h.bOut f (a + 1) Q' r h3 e
end
theorem step_in {W : World} {s : WS} {n : Nat} (ht : hasT W s n = true) : ∃ h ∈ W.hands, stepAt W s n ∈ h.2 := by
  have hp : placeAt s n < (handAt W n).2.length := by simpa [hasT] using ht
  by_cases hn : n < W.hands.length
  · refine ⟨_, List.mem_of_getElem? (hand_at hn), ?_⟩
    unfold stepAt
    rw [List.getD_eq_getElem?_getD, List.getElem?_eq_getElem hp]
    exact List.getElem_mem hp
  · have : handAt W n = (0, []) := by
      unfold handAt
      rw [List.getD_eq_getElem?_getD, List.getElem?_eq_none (by omega)]; rfl
    rw [this] at hp; exact absurd hp (Nat.not_lt_zero _)
/-- without single changes and tells: the parts singles and telling say nothing -/
theorem alike_quiet {p q : Par} {W : World} (hc : p.c = q.c) (hh : p.h = q.h) (n1 : NoOne W) (nt : ∀ h ∈ W.hands, ∀ st ∈ h.2, st ≠ Step.tell) : Alike p q W NF := by
  refine ⟨begin_nf, fun s hs n ht => ⟨?_, (after_nf n1 hs n).2.2⟩⟩
  obtain ⟨h, hm, hst⟩ := step_in ht
  have ne := nt h hm _ hst
  unfold nextT
  rw [step_nf (p := p) hs.rows, step_nf (p := q) hs.rows]
  have e : ∀ (r : Par) (st : Step), st ≠ .tell → stepT (keepP r) W.H s.rows (handAt W n).1 (memAt s n) st = stepT ⟨r.c, "keep", r.h, "now"⟩ W.H s.rows (handAt W n).1 (memAt s n) st := fun r st z => by
    cases st with
    | tell => exact absurd rfl z
    | _ => rfl
  rw [e p _ ne, e q _ ne, hc, hh]
/-- without persons the part halves says nothing -/
theorem alike_whole {p q : Par} {W : World} (hc : p.c = q.c) (hs : p.s = q.s) (ht : p.t = q.t) (np : ∀ h ∈ W.hands, ∀ st ∈ h.2, st ≠ Step.person) : Alike p q W fun _ => True := by
  refine ⟨trivial, fun s _ n hn => ⟨?_, trivial⟩⟩
  obtain ⟨h, hm, hst⟩ := step_in hn
  have ne := np h hm _ hst
  have e : ∀ (r : Par) (st : Step), st ≠ .person → stepT r W.H s.rows (handAt W n).1 (memAt s n) st = stepT ⟨r.c, r.s, "left", r.t⟩ W.H s.rows (handAt W n).1 (memAt s n) st := fun r st z => by
    cases st with
    | person => exact absurd rfl z
    | _ => rfl
  unfold nextT
  rw [e p _ ne, e q _ ne, hc, hs, ht]
end Lw
set_option Elab.async false
set_option linter.all false
set_option maxRecDepth 10000
set_option maxHeartbeats 400000
namespace Lw
open PySem PySem.Spec PyProof.Rows L2 Mi
def walkR (p : Par) (W : World) : List JE × FD := (jOut p [] W 70000 0 (j0 W) []).getD ([], [])
def canT (F : FD) : FD := words5.filterMap fun f => (F.find? fun x => decide (x.1 = f)).map fun x => (f, x.2)
theorem walked_all {p : Par} {W : World} (w : WOk W) {S : Sto} : m_walked [pPar p, pWorld W, .tup []] S = .ok (.tup [dktV (walkR p W).1, dctV (walkR p W).2]) S := by
  have jn0 : JnOk W [] := fun x hx => by cases hx
  obtain ⟨r, hr⟩ := jwalk_ends (p := p) w jn0
  have e : walkR p W = r := by unfold walkR; rw [hr]; rfl
  rw [e]
  exact walked_frz w jn0 (c := .tup []) (.inl rfl) hr
def lookF (F : FD) (f : Str) : Option (Str × List Nat) := (F.find? fun x => decide (x.1 = f)).map fun x => (f, x.2)
theorem dlook_fd {F : FD} {f : Str} : dlook (fks F) (fvs F) (.inr f) = (lookF F f).map fun x => .lst (x.2.map pNat) := by
  induction F with
  | nil => rfl
  | cons x F ih =>
    show (if (.inr x.1 : Key) = .inr f then some (MV.lst (x.2.map pNat)) else dlook (fks F) (fvs F) (.inr f)) = _
    unfold lookF at ih ⊢
    rw [List.find?_cons]
    by_cases h : x.1 = f
    · simp [h]
    · have : ¬ (.inr x.1 : Key) = .inr f := fun e => h (Sum.inr.inj e)
      rw [if_neg this, ih]
      simp [h]
theorem look_in {F : FD} {f : Str} : f ∈ F.map (·.1) ↔ ∃ x, lookF F f = some x := by
  have := look_fd (F := F) (f := f)
  rw [dlook_fd] at this
  cases e : lookF F f with
  | none => rw [e] at this; simpa using this
  | some x => rw [e] at this; simpa using this
theorem look_key {F : FD} {f : Str} {x : Str × List Nat} (h : lookF F f = some x) : x.1 = f := by
  unfold lookF at h
  cases e : F.find? fun x => decide (x.1 = f) with
  | none => exact absurd h (by rw [e]; simp)
  | some y => rw [e] at h; cases h; rfl
theorem in_dv {S : Sto} {F : FD} {f : Str} : inM (.str f) (dctV F) S = .ok (.bl (decide (f ∈ F.map (·.1)))) S := by
  unfold inM inB dctV; simp only [dctOf, keyV, look_fd]
theorem ix_dv {S : Sto} {F : FD} {f : Str} {d : MV} (h : dlook (fks F) (fvs F) (.inr f) = some d) : idxM (dctV F) (.str f) S = .ok d S := by
  unfold idxM dctV
  simp [seqOf, lstOf, idxD, dctOf, keyV, h]
theorem dc_fd {S : Sto} {F : FD} {ρ : Ev} (h2 : ρ[2]? = some (some (dctV F))) (h4 : ρ.length = 4) {okS : Sto → Bool} (hok : okS S = true) :
    ∀ (fs : List Str) (A : FD), (∀ f ∈ fs, f ∉ A.map (·.1)) → fs.Nodup → dcGo okS (tgName 3) (mTest (mOp inM (mVar 3) (mVar 2))) (mVar 3) (mOp idxM (mVar 2) (mVar 3)) ρ (fs.map pStr) (fks A) (fvs A) S = .ok (fks (A ++ fs.filterMap (lookF F)), fvs (A ++ fs.filterMap (lookF F))) S
  | [], A, _, _ => by simp [dcGo, hok]
  | f :: fs, A, hA, nd => by
    have nd' := List.nodup_cons.mp nd
    have g2 : (ρ.set 3 (some (pStr f)))[2]? = some (some (dctV F)) := by rw [List.getElem?_set_ne (by omega)]; exact h2
    have g3 : (ρ.set 3 (some (pStr f)))[3]? = some (some (.str f)) := List.getElem?_set_self (by omega)
    have ii := in_dv (S := S) (F := F) (f := f)
    rw [List.map_cons, dcGo, if_pos hok]
    show ((mTest (mOp inM (mVar 3) (mVar 2)) (ρ.set 3 (some (pStr f))) S).calm.bind _) = _
    have t1 : mTest (mOp inM (mVar 3) (mVar 2)) (ρ.set 3 (some (pStr f))) S = .ok (decide (f ∈ F.map (·.1))) S := by
      simp only [w_test, w_op, w_var', g2, g3, R.bind_ok, ii]
      simp
    rw [t1]
    cases e : lookF F f with
    | none =>
      have hf : ¬ f ∈ F.map (·.1) := fun z => by obtain ⟨x, hx⟩ := look_in.mp z; rw [e] at hx; cases hx
      rw [decide_eq_false hf]
      simp only [R.calm_ok, R.bind_ok, Bool.false_eq_true, if_false]
      rw [List.filterMap_cons, e]
      exact dc_fd h2 h4 hok fs A (fun x hx => hA x (List.mem_cons_of_mem _ hx)) nd'.2
    | some x =>
      have hx1 := look_key e
      have hf : f ∈ F.map (·.1) := look_in.mpr ⟨x, e⟩
      have ix : idxM (dctV F) (.str f) S = .ok (.lst (x.2.map pNat)) S := ix_dv (by rw [dlook_fd, e]; rfl)
      rw [decide_eq_true hf]
      simp only [R.calm_ok, R.bind_ok, if_true, w_var', g2, g3, w_op, ix, keyV]
      have nA : ¬ (.inr f : Key) ∈ fks A := fun z => hA f List.mem_cons_self (mem_fks.mp z)
      have d1 : dput (fks A) (fvs A) (.inr f) (.lst (x.2.map pNat)) = (fks (A ++ [x]), fvs (A ++ [x])) := by
        unfold dput
        rw [if_neg nA]
        simp [fks, fvs, hx1]
      rw [d1, List.filterMap_cons, e]
      have := dc_fd h2 h4 hok fs (A ++ [x]) (fun y hy z => by
        rw [List.map_append] at z
        rcases List.mem_append.mp z with z | z
        · exact hA y (List.mem_cons_of_mem _ hy) z
        · have : y = f := by rw [← hx1]; simpa using z
          exact nd'.1 (by rw [← this]; exact hy)) nd'.2
      rw [List.append_assoc A] at this
      exact this
theorem can_eq {p : Par} {W : World} (w : WOk W) {S : Sto} : m_can [pPar p, pWorld W] S = .ok (dctV (canT (walkR p W).2)) S := by
  have wk := fun S => walked_all (p := p) w (S := S)
  have cw := fun S => check_ok w (S := S)
  refine frzF_0 (e := []) (d := dctV (canT (walkR p W).2)) ?_ ?_
  · rw [List.append_nil]
    have i1 : ∀ X, idxM (.tup [dktV (walkR p W).1, dctV (walkR p W).2]) (.int 1) X = .ok (dctV (walkR p W).2) X := fun _ => rfl
    have sf : ∀ X, srcOf d_FAULTS X = .ok (.seq d_FAULTS (words5.map pStr)) X := fun _ => rfl
    have z : words5.length ≤ sizeLine := by rw [sizeLine_eq]; decide
    have dc := dc_fd (S := S) (F := (walkR p W).2) (ρ := [some (pPar p), some (pWorld W), some (dctV (walkR p W).2), none]) rfl rfl (okS := fun S => (Src.seq d_FAULTS (words5.map pStr)).ok S) rfl words5 [] (fun _ _ z => by cases z) (by decide)
    rw [List.nil_append] at dc
    have dc : dcGo (fun S => (Src.seq d_FAULTS (words5.map pStr)).ok S) (tgName 3) (mTest (mOp inM (mVar 3) (mVar 2))) (mVar 3) (mOp idxM (mVar 2) (mVar 3)) [some (pPar p), some (pWorld W), some (dctV (walkR p W).2), none] (words5.map pStr) [] [] S = .ok (fks (canT (walkR p W).2), fvs (canT (walkR p W).2)) S := dc
    simp [mFn, m_can_s0, m_can_s1, m_can_s2, cw, wk, i1, sf, z, Src.items]
    rw [dc]
    rfl
  · have : ∀ X : FD, refsBs 0 (fvs X) = true := fun X => refs_map (f := fun x : Str × List Nat => MV.lst (x.2.map pNat)) fun x _ => by
      have := refs_map (b := 0) (f := pNat) (xs := x.2) fun _ _ => rfl
      simpa [refsB] using this
    simp [dctV, refsB, this]
end Lw
set_option Elab.async false
set_option linter.all false
set_option maxRecDepth 10000
set_option maxHeartbeats 400000
namespace Lw
open PySem PySem.Spec PyProof.Rows L2 Mi
theorem st_key : KeyEnc pSt := by
  refine ⟨fun x y h => c_st h, fun x => ?_⟩
  have h1 := keyOks_of (f := pRow) (fun _ => k_row.1) x
  have h2 := kdeps_of (f := pRow) (n := 3) (fun _ => k_row.2) x
  rw [pSt, keyT]
  simp [h1]
  omega
def trues (n : Nat) : List MV := List.replicate n (.bl true)
theorem dset_same {κ : Type} [DecidableEq κ] {k : κ} : ∀ (ks : List κ) (n : Nat), dsetV ks (trues n) k (.bl true) = trues n
  | [], 0 => rfl
  | [], n + 1 => rfl
  | _ :: _, 0 => rfl
  | k' :: ks, n + 1 => by
    show (if k' = k then MV.bl true else .bl true) :: dsetV ks (trues n) k (.bl true) = _
    rw [dset_same ks n, ite_self]; rfl
/-- setting a standing that is there changes nothing -/
theorem set_there {S : Sto} {m : Nat} {A : List (List Row)} {x : List Row} (h : S[m]? = some (.dcT (A.map pSt) (trues A.length))) (hx : x ∈ A) (hz : A.length < sizeLine) : setTM (.ref m) (pSt x) (.bl true) S = some S := by
  have hm : canon (pSt x) ∈ canons (A.map pSt) := (mem_enc st_key).mpr hx
  unfold setTM
  simp only [h, st_key.ok, List.length_map, hz, decide_true, Bool.and_self, if_true]
  unfold dputT
  rw [if_pos hm]
  dsimp only
  rw [dset_same]
  obtain ⟨h1, h2⟩ := List.getElem?_eq_some_iff.mp h
  rw [← h2, List.set_getElem_self]
/-- what a walk holds at its end -/
theorem jOut_all {p : Par} {J : List Jn} {W : World} (w : WOk W) (jn : JnOk W J) : ∀ (f a : Nat) (Q : List JE) (F : FD) (r : List JE × FD), (∀ e ∈ Q, JOk W J e) → a + f ≤ 70000 → jOut p J W f a Q F = some r → (∀ e ∈ r.1, JOk W J e) ∧ r.1.length ≤ 70000
  | 0, a, Q, F, r, _, _, h => by rw [jOut] at h; cases h
  | f + 1, a, Q, F, r, ok, hf, h => by
    rw [jOut] at h
    cases e : Q[a]? with
    | none =>
      rw [e] at h
      cases h
      have := List.getElem?_eq_none_iff.mp e
      exact ⟨ok, by show Q.length ≤ 70000; omega⟩
    | some x =>
      rw [e] at h
      dsimp only at h
      have okx := ok x (List.mem_of_getElem? e)
      refine jOut_all w jn f (a + 1) _ _ r (fun y hy => ?_) (by omega) h
      obtain ⟨ext, g1, _, g3⟩ := jIn_ext (p := p) (J := J) (W := W) (s := x.1.1) (wv := x.2) (handsJ J W x.1) Q F
      rw [g1] at hy
      rcases List.mem_append.mp hy with m | m
      · exact ok y m
      · obtain ⟨n, hn, rfl⟩ := g3 y m
        exact okx.next w jn hn
theorem walk_all {p : Par} {W : World} (w : WOk W) : (∀ e ∈ (walkR p W).1, JOk W [] e) ∧ (walkR p W).1.length ≤ 70000 := by
  have jn0 : JnOk W [] := fun x hx => by cases hx
  obtain ⟨r, hr⟩ := jwalk_ends (p := p) w jn0
  have e : walkR p W = r := by unfold walkR; rw [hr]; rfl
  rw [e]
  exact jOut_all w jn0 70000 0 _ _ r (j0_ok w) (by omega) hr
end Lw
set_option Elab.async false
set_option linter.all false
set_option maxRecDepth 10000
set_option maxHeartbeats 400000
namespace Lw
open PySem PySem.Spec PyProof.Rows L2 Mi
def addK (A : List (List Row)) (x : List Row) : List (List Row) := if x ∈ A then A else A ++ [x]
def endsF (W : World) (A : List (List Row)) (e : JE) : List (List Row) := if hset W e.1.1 = [] then addK A e.1.1.rows else A
def endsL (W : World) (Q : List JE) : List (List Row) := Q.foldl (endsF W) []
theorem ends_len {W : World} : ∀ (Q : List JE) (A : List (List Row)), (Q.foldl (endsF W) A).length ≤ A.length + Q.length
  | [], A => Nat.le_refl _
  | e :: Q, A => by
    have h := ends_len (W := W) Q (endsF W A e)
    have h2 : (endsF W A e).length ≤ A.length + 1 := by
      unfold endsF addK
      split
      · split <;> simp
      · omega
    rw [List.foldl_cons, List.length_cons]; omega
theorem ends_eq {p : Par} {W : World} (w : WOk W) {S : Sto} : m_ends [pPar p, pWorld W] S = .ok (.int ((endsL W (walkR p W).1).length : Nat)) S := by
  obtain ⟨ok, lb⟩ := walk_all (p := p) w
  have wk := fun S => walked_all (p := p) w (S := S)
  have cw := fun S => check_ok w (S := S)
  generalize walkR p W = r at ok lb wk ⊢
  obtain ⟨Q, F0⟩ := r
  dsimp only at ok lb wk ⊢
  have hz := sizeLine_eq
  let St : List JE → Sto := fun done => S ++ [.dcT ((endsL W done).map pSt) (trues (endsL W done).length)]
  refine frzF_0 (e := [.dcT ((endsL W Q).map pSt) (trues (endsL W Q).length)]) (d := .int ((endsL W Q).length : Nat)) ?_ rfl
  have i0 : ∀ X, idxM (.tup [dktV Q, dctV F0]) (.int 0) X = .ok (dktV Q) X := fun _ => rfl
  have dk : ∀ X, dktOf (dktV Q) X = .ok (.dkt ((jents Q).map pJK)) X := fun _ => rfl
  simp [mFn, m_ends_s0, m_ends_s1, m_ends_s2, cw, wk, mKeysT, i0, dk]
  refine for_pre [3, 4] (fun e : JE => pJK e.1) (fun _ => [some (pPar p), some (pWorld W), some (.ref S.length), none, none]) St Q ?_ rfl rfl ?_ ?_ ?_
  · simp [Src.items, jents]
  · intro done rest e; rfl
  · intro done x rest e fv
    have hx : x ∈ Q := by rw [e]; simp
    have ha := fun X => hands_at_j w (k := (x.1.1, none)) (ok x hx).a (J := []) (c := .tup []) (.inl rfl) (S := X)
    have hh : handsJ [] W (x.1.1, none) = hset W x.1.1 := rfl
    rw [hh] at ha
    have ha : ∀ X, m_hands_at [pWorld W, pWS x.1.1, .tup [], .non] X = .ok (.lst ((hset W x.1.1).map pNat)) X := ha
    have tr : ∀ (xs : List Nat) X, truW (.lst (xs.map pNat)) X = .ok (!xs.isEmpty) X := fun xs X => by cases xs <;> rfl
    have ir : ∀ X, idxM (pWS x.1.1) (.int 2) X = .ok (pSt x.1.1.rows) X := fun _ => rfl
    have at_ : (St done)[S.length]? = some (.dcT ((endsL W done).map pSt) (trues (endsL W done).length)) := by
      show (S ++ _)[S.length]? = _
      rw [List.getElem?_append_right (Nat.le_refl _)]; simp
    have ln : (endsL W done).length < sizeLine := by
      have h1 := ends_len (W := W) done []
      have h2 := congrArg List.length e
      simp at h1 h2
      show (done.foldl (endsF W) []).length < _
      omega
    have fe : endsL W (done ++ [x]) = endsF W (endsL W done) x := by simp [endsL]
    by_cases hs : hset W x.1.1 = []
    · by_cases hm : x.1.1.rows ∈ endsL W done
      · have e2 : St (done ++ [x]) = St done := by
          show S ++ [_] = S ++ [_]
          rw [fe]; simp [endsF, addK, hs, hm]
        have sk := set_there at_ hm ln
        have tr0 : ∀ X, truW (.lst []) X = .ok false X := fun _ => rfl
        simp [pJK, m_ends_s3, m_ends_s4, ha, hs, tr0, ir, sk, e2]
      · have sk := set_key (d := .bl true) st_key at_ hm ln
        have e2 : St (done ++ [x]) = (St done).set S.length (.dcT ((endsL W done ++ [x.1.1.rows]).map pSt) (trues (endsL W done).length ++ [.bl true])) := by
          show S ++ [_] = (S ++ [_]).set S.length _
          rw [List.set_append_right _ _ (Nat.le_refl _), fe]
          simp [endsF, addK, hs, hm, trues, List.replicate_succ']
        have tr0 : ∀ X, truW (.lst []) X = .ok false X := fun _ => rfl
        rw [← e2] at sk
        simp [pJK, m_ends_s3, m_ends_s4, ha, hs, tr0, ir, sk]
    · have e2 : St (done ++ [x]) = St done := by
        show S ++ [_] = S ++ [_]
        rw [fe]; simp [endsF, hs]
      have ne : (hset W x.1.1).isEmpty = false := by simpa using hs
      simp [pJK, m_ends_s3, ha, tr, ne, e2]
  · intro fv
    have at_ : (St Q)[S.length]? = some (.dcT ((endsL W Q).map pSt) (trues (endsL W Q).length)) := by
      show (S ++ _)[S.length]? = _
      rw [List.getElem?_append_right (Nat.le_refl _)]; simp
    have ll : lenTM [.ref S.length] (St Q) = .ok (.int ((endsL W Q).length : Nat)) (St Q) := by
      unfold lenTM
      simp only [dcT_ref (enc := pSt) at_]
      simp
    simp [m_ends_s5, ll]
    rfl
end Lw
set_option Elab.async false
set_option linter.all false
set_option maxRecDepth 10000
set_option maxHeartbeats 400000
namespace Lw
open PySem PySem.Spec PyProof.Rows L2 Mi
def parV (p : Par) : List MV := [.str p.c, .str p.s, .str p.h, .str p.t]
theorem law_parts_cell {d : Dr} {T : Sto} : ∃ p d', POk p ∧ m_law_parts [.ref 0] (dr d :: T) = .ok (.ref (T.length + 1)) (dr d' :: (T ++ [.lst (parV p)])) := by
  obtain ⟨k1, d1, h1, e1⟩ := draw (d := d) (T := T) (n := 3) (by decide) (by decide)
  obtain ⟨k2, d2, h2, e2⟩ := draw (d := d1) (T := T) (n := 3) (by decide) (by decide)
  obtain ⟨k3, d3, h3, e3⟩ := draw (d := d2) (T := T) (n := 2) (by decide) (by decide)
  obtain ⟨k4, d4, h4, e4⟩ := draw (d := d3) (T := T) (n := 2) (by decide) (by decide)
  obtain ⟨x1, m1, f1⟩ := pick (xs := [.str "none", .str "room", .str "both"]) (S := dr d1 :: T) h1
  obtain ⟨x2, m2, f2⟩ := pick (xs := [.str "keep", .str "move", .str "reset"]) (S := dr d2 :: T) h2
  obtain ⟨x3, m3, f3⟩ := pick (xs := [.str "left", .str "undone"]) (S := dr d3 :: T) h3
  obtain ⟨x4, m4, f4⟩ := pick (xs := [.str "now", .str "seen"]) (S := dr d4 :: T) h4
  have g1 : ∃ c : Str, x1 = .str c ∧ (c = "none" ∨ c = "room" ∨ c = "both") := by simp at m1; rcases m1 with h | h | h <;> exact ⟨_, h, by simp⟩
  have g2 : ∃ c : Str, x2 = .str c ∧ (c = "keep" ∨ c = "move" ∨ c = "reset") := by simp at m2; rcases m2 with h | h | h <;> exact ⟨_, h, by simp⟩
  have g3 : ∃ c : Str, x3 = .str c ∧ (c = "left" ∨ c = "undone") := by simp at m3; rcases m3 with h | h <;> exact ⟨_, h, by simp⟩
  have g4 : ∃ c : Str, x4 = .str c ∧ (c = "now" ∨ c = "seen") := by simp at m4; rcases m4 with h | h <;> exact ⟨_, h, by simp⟩
  obtain ⟨c1, rfl, q1⟩ := g1
  obtain ⟨c2, rfl, q2⟩ := g2
  obtain ⟨c3, rfl, q3⟩ := g3
  obtain ⟨c4, rfl, q4⟩ := g4
  refine ⟨⟨c1, c2, c3, c4⟩, d4, ⟨q1, q2, q3, q4⟩, ?_⟩
  have z4 : 4 ≤ sizeLine := by rw [sizeLine_eq]; omega
  simp at e1 e2 e3 e4 f1 f2 f3 f4
  simp [m_law_parts, mFn, m_law_parts_s0, law_values_eq, z4, lcGo, tgName, e1, e2, e3, e4, f1, f2, f3, f4, parV]
theorem can_ends {p q : Par} {W : World} {P : WS → Prop} (w : WOk W) (h : Alike p q W P) : walkR p W = walkR q W := by
  unfold walkR; rw [h.walk]
end Lw
set_option Elab.async false
set_option linter.all false
set_option maxRecDepth 10000
set_option maxHeartbeats 400000
namespace Lw
open PySem PySem.Spec PyProof.Rows L2 Mi
theorem law_rule_cell {p : Par} (hp : POk p) {S : Sto} {n : Nat} (hn : S[n]? = some (.lst (parV p))) : m_law_rule [.ref n] S = .ok (pPar p) S := by
  have j0 : idxM (.ref n) (.int 0) S = .ok (.str p.c) S := ix_ref (d := 0) hn rfl
  have j1 : idxM (.ref n) (.int 1) S = .ok (.str p.s) S := ix_ref (d := 1) hn rfl
  have j2 : idxM (.ref n) (.int 2) S = .ok (.str p.h) S := ix_ref (d := 2) hn rfl
  have j3 : idxM (.ref n) (.int 3) S = .ok (.str p.t) S := ix_ref (d := 3) hn rfl
  have sc : sh (.str p.c) = true := by rcases hp.c with h | h | h <;> rw [h] <;> exact sh_lit _
  have ss : sh (.str p.s) = true := by rcases hp.s with h | h | h <;> rw [h] <;> exact sh_lit _
  have sh' : sh (.str p.h) = true := by rcases hp.h with h | h <;> rw [h] <;> exact sh_lit _
  have st : sh (.str p.t) = true := by rcases hp.t with h | h <;> rw [h] <;> exact sh_lit _
  have i1 : ∀ S, ninM (.str p.c) (.tup [.str "none", .str "room", .str "both"]) S = .ok (.bl false) S := fun S => by
    show ninM (.str p.c) (.tup (lits ["none", "room", "both"])) S = _
    rw [w_ninM (in_strs (ys := ["none", "room", "both"]) sc)]
    rcases hp.c with h | h | h <;> simp [h]
  have i2 : ∀ S, ninM (.str p.s) (.tup [.str "keep", .str "move", .str "reset"]) S = .ok (.bl false) S := fun S => by
    show ninM (.str p.s) (.tup (lits ["keep", "move", "reset"])) S = _
    rw [w_ninM (in_strs (ys := ["keep", "move", "reset"]) ss)]
    rcases hp.s with h | h | h <;> simp [h]
  have i3 : ∀ S, ninM (.str p.h) (.tup [.str "left", .str "undone"]) S = .ok (.bl false) S := fun S => by
    show ninM (.str p.h) (.tup (lits ["left", "undone"])) S = _
    rw [w_ninM (in_strs (ys := ["left", "undone"]) sh')]
    rcases hp.h with h | h <;> simp [h]
  have i4 : ∀ S, ninM (.str p.t) (.tup [.str "now", .str "seen"]) S = .ok (.bl false) S := fun S => by
    show ninM (.str p.t) (.tup (lits ["now", "seen"])) S = _
    rw [w_ninM (in_strs (ys := ["now", "seen"]) st)]
    rcases hp.t with h | h <;> simp [h]
  have init : m_Rule___init__ [.ref S.length, .str p.c, .str p.s, .str p.h, .str p.t] (S ++ [.obj "Rule" [] []]) = .ok .non (S ++ [.obj "Rule" ["checking", "singles", "halves", "telling"] [.str p.c, .str p.s, .str p.h, .str p.t]]) := by
    have z : ∀ S, zp3Of [d_PARTS, .tup [.str p.c, .str p.s, .str p.h, .str p.t], d_VALUES] S = .ok (.zp3 d_PARTS [.str "checking", .str "singles", .str "halves", .str "telling"] (.tup [.str p.c, .str p.s, .str p.h, .str p.t]) [.str p.c, .str p.s, .str p.h, .str p.t] d_VALUES [.tup [.str "none", .str "room", .str "both"], .tup [.str "keep", .str "move", .str "reset"], .tup [.str "left", .str "undone"], .tup [.str "now", .str "seen"]]) S := fun S => rfl
    have zo : ∀ S, Src.ok S (.zp3 d_PARTS [.str "checking", .str "singles", .str "halves", .str "telling"] (.tup [.str p.c, .str p.s, .str p.h, .str p.t]) [.str p.c, .str p.s, .str p.h, .str p.t] d_VALUES [.tup [.str "none", .str "room", .str "both"], .tup [.str "keep", .str "move", .str "reset"], .tup [.str "left", .str "undone"], .tup [.str "now", .str "seen"]]) = true := fun S => by simp [Src.ok, seqOf, d_PARTS, d_VALUES]
    simp only [m_Rule___init__, mFn, w_seq', m_Rule___init___s0, w_for', w_zip3, w_cons, w_nil, w_c, w_tup, w_var', ev0_eq, List.map_cons, List.map_nil, List.cons_append, List.nil_append, List.getElem?_cons_succ, List.getElem?_cons_zero, R.bind_ok, z, R.thn_ok]
    simp [Src.items, zipI3, forGo_cons, zo, forGo, m_Rule___init___s1, i1, i2, i3, i4, m_Rule___init___s3, m_Rule___init___s4, m_Rule___init___s5, m_Rule___init___s6, fset_last, fput]
  refine frzF_ok (S' := S ++ [.obj "Rule" ["checking", "singles", "halves", "telling"] [.str p.c, .str p.s, .str p.h, .str p.t]]) (d := .ref S.length) ?_ ?_ (by simp)
  · simp [mFn, m_law_rule_s0, makM, j0, j1, j2, j3, init]
  · simp [frz, pPar, pRule, refsB]
end Lw
set_option Elab.async false
set_option linter.all false
set_option maxRecDepth 10000
set_option maxHeartbeats 400000
namespace Lw
open PySem PySem.Spec PyProof.Rows L2 Mi
def keptT (bad : Step → Bool) (xs : List Step) : List Step := if xs.filter (fun s => !bad s) = [] then [.find 0] else xs.filter fun s => !bad s
def keptH (bad : Step → Bool) (h : Nat × List Step) : Nat × List Step := (h.1, keptT bad h.2)
def withoutT (bad : Step → Bool) (W : World) : World := ⟨W.D, W.H, W.ser, W.hands.map (keptH bad)⟩
theorem kept_len {bad : Step → Bool} {xs : List Step} (h : 1 ≤ xs.length) : 1 ≤ (keptT bad xs).length ∧ (keptT bad xs).length ≤ xs.length := by
  unfold keptT
  split
  · simp; exact h
  · rename_i ne
    exact ⟨List.length_pos_iff.mpr ne, List.length_filter_le _ _⟩
theorem kept_mem {bad : Step → Bool} {xs : List Step} {s : Step} (h : s ∈ keptT bad xs) : s = .find 0 ∨ (s ∈ xs ∧ bad s = false) := by
  unfold keptT at h
  split at h
  · exact .inl (by simpa using h)
  · simp at h
    exact .inr h
theorem sum_le2 {α : Type} {f g : α → Nat} : ∀ (xs : List α), (∀ x ∈ xs, f x ≤ g x) → (xs.map f).sum ≤ (xs.map g).sum
  | [], _ => Nat.le_refl _
  | x :: xs, h => by
    have := sum_le2 xs fun y hy => h y (List.mem_cons_of_mem _ hy)
    have := h x List.mem_cons_self
    simp only [List.map_cons, List.sum_cons]; omega
theorem without_ok {bad : Step → Bool} {W : World} (w : WOk W) : WOk (withoutT bad W) := by
  refine ⟨w.D1, w.D2, w.H1, w.H2, w.n1, w.n2, w.ser, w.nd, ?_, ?_, ?_, ?_⟩
  · show 1 ≤ (W.hands.map (keptH bad)).length
    rw [List.length_map]; exact w.h1
  · show (W.hands.map (keptH bad)).length ≤ 3
    rw [List.length_map]; exact w.h2
  · intro h hh
    obtain ⟨h0, m, rfl⟩ := List.mem_map.mp hh
    obtain ⟨a, b, c, d⟩ := w.hand h0 m
    obtain ⟨k1, k2⟩ := kept_len (bad := bad) b
    refine ⟨a, k1, Nat.le_trans k2 c, fun s hs => ?_⟩
    rcases kept_mem hs with rfl | ⟨m2, _⟩
    · exact ⟨Int.le_refl _, by have := w.H1; show (0 : Int) < (W.H : Nat); omega⟩
    · have := d s m2
      cases s <;> exact this
  · show ((W.hands.map (keptH bad)).map fun h => h.2.length).sum ≤ 8
    rw [List.map_map]
    refine Nat.le_trans (sum_le2 (g := fun h => h.2.length) W.hands fun h hh => ?_) w.sum
    exact (kept_len (bad := bad) (w.hand h hh).2.1).2
theorem without_no {bad : Step → Bool} {W : World} (hf : bad (.find 0) = false) : ∀ h ∈ (withoutT bad W).hands, ∀ s ∈ h.2, bad s = false := by
  intro h hh s hs
  obtain ⟨h0, m, rfl⟩ := List.mem_map.mp hh
  rcases kept_mem hs with rfl | ⟨_, b⟩
  · exact hf
  · exact b
theorem law_without_eq {bad : Step → Bool} {W : World} (w : WOk W) {words : MV} (nin : ∀ (s : Step) S, ninM (.str s.word) words S = .ok (.bl (!bad s)) S) {x : MV} {S : Sto} : m_law_without [x, pWorld W, words] S = .ok (pWorld (withoutT bad W)) S := by
  have hz := sizeLine_eq
  let St : List (Nat × List Step) → Sto := fun done => S ++ [.lst (done.map fun h => pHand (keptH bad h))]
  refine frzF_0 (e := [.lst (W.hands.map fun h => pHand (keptH bad h))]) (d := pWorld (withoutT bad W)) ?_ rf_world
  have i3 : ∀ X, idxM (pWorld W) (.int 3) X = .ok (.tup (W.hands.map pHand)) X := fun _ => rfl
  have i0 : ∀ X, idxM (pWorld W) (.int 0) X = .ok (.int (W.D : Nat)) X := fun _ => rfl
  have i1 : ∀ X, idxM (pWorld W) (.int 1) X = .ok (.int (W.H : Nat)) X := fun _ => rfl
  have i2 : ∀ X, idxM (pWorld W) (.int 2) X = .ok (.tup (W.ser.map pSer)) X := fun _ => rfl
  simp [mFn, m_law_without_s0, m_law_without_s1, i3]
  refine for_pre [4, 5, 6] (fun h => pHand h) (fun _ => [some x, some (pWorld W), some words, some (.ref S.length), none, none, none, none]) St W.hands rfl rfl rfl ?_ ?_ ?_
  · intro done rest e; rfl
  · intro done h rest e fv
    have hh : h ∈ W.hands := by rw [e]; simp
    obtain ⟨a1, a2, a3, a4⟩ := w.hand h hh
    have dl : done.length < sizeLine := by
      have := congrArg List.length e
      have := w.h2
      simp at *; omega
    have e2 : St (done ++ [h]) = S ++ [.lst ((done.map fun h => pHand (keptH bad h)) ++ [pHand (keptH bad h)])] := by
      show S ++ [_] = S ++ [_]
      simp
    have ap : appM (.ref S.length) (pHand (keptH bad h)) (St done) = .ok .non (St (done ++ [h])) := by
      rw [e2]
      exact app_last (by simpa using dl)
    have il : ∀ xs, isLst (S ++ [.lst xs]) (.ref S.length) = true := fun xs => isLst_last
    have fl : ∀ (ρ : Ev), ρ[2]? = some (some words) → ρ.length = 8 → lcGo (fun _ => true) (tgName 7) (mTest (mOp ninM (mOp idxM (mVar 7) (mC (.int 0))) (mVar 2))) (mVar 7) ρ (h.2.map pStep) [] (St done) = .ok ((h.2.filter fun s => !bad s).map pStep) (St done) := fun ρ h2 hl => by
      refine lc_filter pStep (fun s => !bad s) pStep h.2 rfl rfl fun s hs => ?_
      rw [turnE_name, turnE_name]
      have g7 : (ρ.set 7 (some (pStep s)))[7]? = some (some (pStep s)) := List.getElem?_set_self (by omega)
      have g2 : (ρ.set 7 (some (pStep s)))[2]? = some (some words) := by rw [List.getElem?_set_ne (by omega)]; exact h2
      simp [g7, g2, nin]
    have z4 : h.2.length ≤ sizeLine := by omega
    have iL : isLst (St done) (.ref S.length) = true := isLst_last
    simp only [pHand] at ap
    simp [pHand, m_law_without_s2, m_law_without_s3, z4]
    rw [fl _ rfl rfl]
    have len : (h.2.filter fun s => !bad s).length ≤ 4 := Nat.le_trans (List.length_filter_le _ _) a3
    have ek : keptH bad h = (h.1, keptT bad h.2) := rfl
    rw [ek] at ap
    by_cases hf : h.2.filter (fun s => !bad s) = []
    · have ev : keptT bad h.2 = [.find 0] := by unfold keptT; rw [if_pos hf]
      rw [ev] at ap
      have m1 : ∀ X : Sto, mulM (.lst [.tup [.str "find", .int 0]]) (.int 1) X = .ok (.lst [.tup [.str "find", .int 0]]) X := fun X => by
        simp [mulM, lstOf, repM]
      have a1 : ∀ X : Sto, addM (.lst []) (.lst [.tup [.str "find", .int 0]]) X = .ok (.lst [.tup [.str "find", .int 0]]) X := fun X => by
        simp [addM, addL, lstOf, hz]
      rw [hf]
      simp [mkL, m1, a1, intM, iL, pStep] at ap ⊢
      simp [ap]
    · have ev : keptT bad h.2 = h.2.filter fun s => !bad s := by unfold keptT; rw [if_neg hf]
      rw [ev] at ap
      generalize h.2.filter (fun s => !bad s) = ys at ap len hf ⊢
      have l0 : ys.length ≠ 0 := by simpa using hf
      have m1 : ∀ X : Sto, mulM (.lst [.tup [.str "find", .int 0]]) (.int 0) X = .ok (.lst []) X := fun X => by
        simp [mulM, lstOf, repM]
      have a1 : ∀ X : Sto, addM (.lst (ys.map pStep)) (.lst []) X = .ok (.lst (ys.map pStep)) X := fun X => by
        simp [addM, addL, lstOf, hz]; omega
      simp [mkL, m1, a1, intM, iL, l0, hf] at ap ⊢
      simp [ap]
  · intro fv
    simp [m_law_without_s4, i0, i1, i2, tupM, seqOf, lstOf, St]
    simp [pWorld, withoutT]
end Lw
set_option Elab.async false
set_option linter.all false
set_option maxRecDepth 10000
set_option maxHeartbeats 400000
namespace Lw
open PySem PySem.Spec PyProof.Rows L2 Mi
theorem in_strsL {x : Str} {ys : List String} {S : Sto} (hx : sh (.str x) = true) : inM (.str x) (.lst (lits ys)) S = .ok (.bl (ys.any fun y : String => decide (x = Str.ofString y))) S := by
  have s1 : shs (lits ys) = true := shs_map (fun y => sh_lit y) ys
  have d1 : dpts (lits ys) ≤ 0 := dpts_map ys fun _ _ => Nat.le_refl _
  unfold inM
  rw [inB_sh (c := .lst (lits ys)) (ys := lits ys) (.inr rfl) hx s1 (by simp [dpt]) (by omega)]
  have : ∀ ys : List String, decide (cn (.str x) ∈ cns (lits ys)) = ys.any fun y : String => decide (x = Str.ofString y) := fun ys => by
    induction ys with
    | nil => rfl
    | cons y ys ih =>
      rw [lits, List.map_cons, ← lits, cns, List.any_cons, ← ih]
      simp [cn]
      congr
  simp only [this]
def badQ : Step → Bool
  | .one _ _ | .tell => true
  | _ => false
def badP : Step → Bool
  | .person => true
  | _ => false
theorem nin_q (s : Step) (S : Sto) : ninM (.str s.word) (.lst [.str "one", .str "tell"]) S = .ok (.bl (!badQ s)) S := by
  show ninM (.str s.word) (.lst (lits ["one", "tell"])) S = _
  rw [w_ninM (in_strsL (ys := ["one", "tell"]) sh_word)]
  cases s <;> rfl
theorem nin_p (s : Step) (S : Sto) : ninM (.str s.word) (.lst [.str "person"]) S = .ok (.bl (!badP s)) S := by
  show ninM (.str s.word) (.lst (lits ["person"])) S = _
  rw [w_ninM (in_strsL (ys := ["person"]) sh_word)]
  cases s <;> rfl
theorem okv_ws {S : Sto} (ws : List Nat) : okv S (.lst (ws.map pNat)) (.lst (ws.map pNat)) = true := by
  have s1 : shs (ws.map pNat) = true := shs_map (fun _ => rfl) ws
  have d1 : dpts (ws.map pNat) ≤ 0 := dpts_map ws fun _ _ => Nat.le_refl _
  have sx : sh (.lst (ws.map pNat)) = true := by simpa [sh] using s1
  have dx : dpt (.lst (ws.map pNat)) ≤ 1 := by simp [dpt]; omega
  unfold okv
  rw [pdF_O S 8 _ sx (by omega), shaped_O sx (by omega), eqv_O _ _ sx sx]
  simp
theorem okvs_fd {S : Sto} : ∀ X : FD, okvs S (fvs X) (fvs X) = true
  | [] => rfl
  | x :: X => by
    show (okv S (.lst (x.2.map pNat)) (.lst (x.2.map pNat)) && okvs S (fvs X) (fvs X)) = true
    rw [okv_ws, okvs_fd X]; rfl
theorem ne_fd {X : FD} {S : Sto} : neDM (dctV X) (dctV X) S = .ok (.bl false) S := by
  unfold neDM dctV
  simp [dctOf, okvs_fd]
theorem same_all {p q : Par} {W : World} {P : WS → Prop} (w : WOk W) (h : Alike p q W P) {S : Sto} : m_alike [pPar p, pPar q, pWorld W] S = .ok (.bl true) S := by
  obtain ⟨r, hr⟩ := walk_ends (p := p) (q := q) w
  have : r = none := h.bOut 70000 0 (q0 W) r (fun e he => by
    have : e = ((beginT W, beginT W), []) := by simpa [q0] using he
    rw [this]; exact ⟨rfl, h.start⟩) hr
  subst this
  rw [alike_eq w hr]
  simp
/-- both parts, and the world: what the law's if gives -/
theorem both_true {p q : Par} {W : World} {P : WS → Prop} (hp : POk p) (hq : POk q) (w : WOk W) (h : Alike p q W P) {x0 x1 : MV} {n m : Nat} {S : Sto} (hn : S[n]? = some (.lst (parV p))) (hm : S[m]? = some (.lst (parV q))) :
    (mSeq m_law_s9 (mSeq m_law_s10 m_law_s12)) [some x0, some x1, some (.ref n), some (pWorld W), some (.ref m), none, none] S = .rt (.bl true) S := by
  have r1 := law_rule_cell hp (S := S) hn
  have r2 := law_rule_cell hq (S := S) hm
  have al := fun S => same_all w h (S := S)
  have c1 := fun S => can_eq (p := p) w (S := S)
  have c2 := fun S => can_eq (p := q) w (S := S)
  have e1 := fun S => ends_eq (p := p) w (S := S)
  have e2 := fun S => ends_eq (p := q) w (S := S)
  have we := can_ends w h
  simp [m_law_s9, m_law_s10, m_law_s11, m_law_s12, mPar, r1, r2, al, c1, c2, e1, e2, we, ne_fd]
theorem law_true (ns : List Int) (_ : ns.length ≤ 63) : ∃ S', m_law [.kls (ns.map .int)] [] = .ok (.bl true) S' := by
  obtain ⟨p, d1, hp, e1⟩ := law_parts_cell (d := ⟨ns, 0, 0, 7⟩) (T := [])
  let T1 : Sto := [.lst (parV p)]
  obtain ⟨k, d2, hk, e2⟩ := draw (d := d1) (T := T1) (n := 3) (by decide) (by decide)
  have : ∃ sizes : List Nat, SzOk sizes ∧ ∀ S, idxM (.lst [.lst [.int 3, .int 2], .lst [.int 2, .int 2], .lst [.int 3, .int 3]]) (.int (k : Nat)) S = .ok (.lst (sizes.map pNat)) S := by
    have : k = 0 ∨ k = 1 ∨ k = 2 := by omega
    rcases this with r | r | r <;> subst r
    · exact ⟨[3, 2], ⟨by decide, by decide, by decide, by decide⟩, fun S => rfl⟩
    · exact ⟨[2, 2], ⟨by decide, by decide, by decide, by decide⟩, fun S => rfl⟩
    · exact ⟨[3, 3], ⟨by decide, by decide, by decide, by decide⟩, fun S => rfl⟩
  obtain ⟨sizes, hz, hi⟩ := this
  obtain ⟨W, d3, w, e3⟩ := law_world_eq hz (d := d2) (T := T1)
  let T3 : Sto := [.lst (parV p), .lst (W.hands.map pHand)]
  obtain ⟨q, d4, hq, e4⟩ := law_parts_cell (d := d3) (T := T3)
  let T4 : Sto := [.lst (parV p), .lst (W.hands.map pHand), .lst (parV q)]
  obtain ⟨j, d5, hj, e5⟩ := draw (d := d4) (T := T4) (n := 2) (by decide) (by decide)
  have s0 : m_law_s0 (ev0 7 [.kls (ns.map .int)]) [] = .nx [some (.kls (ns.map .int)), some (.ref 0), none, none, none, none, none] [dr ⟨ns, 0, 0, 7⟩] := rfl
  have s1 : m_law_s1 [some (.kls (ns.map .int)), some (.ref 0), none, none, none, none, none] [dr ⟨ns, 0, 0, 7⟩] = .nx [some (.kls (ns.map .int)), some (.ref 0), some (.ref 1), none, none, none, none] (dr d1 :: T1) := by
    simp at e1
    simp [m_law_s1, e1, T1]
  have s2 : m_law_s2 [some (.kls (ns.map .int)), some (.ref 0), some (.ref 1), none, none, none, none] (dr d1 :: T1) = .nx [some (.kls (ns.map .int)), some (.ref 0), some (.ref 1), some (pWorld W), none, none, none] (dr d3 :: T3) := by
    have e2 : m_law_draw [.ref 0, .int 3] (dr d1 :: T1) = .ok (.int (k : Nat)) (dr d2 :: T1) := e2
    simp [m_law_s2, e2, hi, e3]
    rfl
  have s3 : m_law_s3 [some (.kls (ns.map .int)), some (.ref 0), some (.ref 1), some (pWorld W), none, none, none] (dr d3 :: T3) = .nx [some (.kls (ns.map .int)), some (.ref 0), some (.ref 1), some (pWorld W), some (.ref 3), none, none] (dr d4 :: T4) := by
    have e4 : m_law_parts [.ref 0] (dr d3 :: T3) = .ok (.ref 3) (dr d4 :: T4) := e4
    simp [m_law_s3, e4]
  have e5 : m_law_draw [.ref 0, .int 2] (dr d4 :: T4) = .ok (.int (j : Nat)) (dr d5 :: T4) := e5
  have g1 : ∀ i x, (parV p)[i]? = some x → idxM (.ref 1) (.int (i : Nat)) (dr d5 :: T4) = .ok x (dr d5 :: T4) := fun i x h => ix_ref (xs := parV p) rfl h
  have h0 : idxM (.ref 1) (.int 0) (dr d5 :: T4) = .ok (.str p.c) (dr d5 :: T4) := g1 0 _ rfl
  have h1 : idxM (.ref 1) (.int 1) (dr d5 :: T4) = .ok (.str p.s) (dr d5 :: T4) := g1 1 _ rfl
  have h2 : idxM (.ref 1) (.int 2) (dr d5 :: T4) = .ok (.str p.h) (dr d5 :: T4) := g1 2 _ rfl
  have h3 : idxM (.ref 1) (.int 3) (dr d5 :: T4) = .ok (.str p.t) (dr d5 :: T4) := g1 3 _ rfl
  let T5 : Par → Sto := fun q => [.lst (parV p), .lst (W.hands.map pHand), .lst (parV q)]
  have z : ∀ (q : Par) (i : Nat) (x : MV), i < 4 → setM (.ref 3) (.int (i : Nat)) x (dr d5 :: T5 q) = some (dr d5 :: [.lst (parV p), .lst (W.hands.map pHand), .lst ((parV q).set i x)]) := fun q i x h => setl (T := dr d5 :: T5 q) (m := 3) (xs := parV q) rfl h
  by_cases hj0 : j = 0
  · subst hj0
    let W' := withoutT badQ W
    have w' : WOk W' := without_ok w
    have no := without_no (bad := badQ) (W := W) rfl
    have lw : m_law_without [.ref 0, pWorld W, .lst [.str "one", .str "tell"]] (dr d5 :: T4) = .ok (pWorld W') (dr d5 :: T4) := law_without_eq w nin_q
    let q' : Par := ⟨p.c, q.s, p.h, q.t⟩
    have hq' : POk q' := ⟨hp.c, hq.s, hp.h, hq.t⟩
    have z0 : setM (.ref 3) (.int 0) (.str p.c) (dr d5 :: T4) = some (dr d5 :: T5 ⟨p.c, q.s, q.h, q.t⟩) := z q 0 _ (by decide)
    have z2 : setM (.ref 3) (.int 2) (.str p.h) (dr d5 :: T5 ⟨p.c, q.s, q.h, q.t⟩) = some (dr d5 :: T5 q') := z _ 2 _ (by decide)
    have s4 : m_law_s4 [some (.kls (ns.map .int)), some (.ref 0), some (.ref 1), some (pWorld W), some (.ref 3), none, none] (dr d4 :: T4) = .nx [some (.kls (ns.map .int)), some (.ref 0), some (.ref 1), some (pWorld W'), some (.ref 3), none, none] (dr d5 :: T5 q') := by
      have e5 : m_law_draw [.ref 0, .int 2] (dr d4 :: T4) = .ok (.int 0) (dr d5 :: T4) := e5
      simp [m_law_s4, e5, m_law_s5, m_law_s6, lw, mSubs, tsCons, tsNil, h0, h2, z0, z2]
    have n1 : NoOne W' := fun h hh st hs => by
      have := no h hh st hs
      cases st <;> simp [badQ] at this ⊢
    have nt : ∀ h ∈ W'.hands, ∀ st ∈ h.2, st ≠ Step.tell := fun h hh st hs e => by
      have := no h hh st hs
      subst e; cases this
    have bt := both_true hp hq' w' (alike_quiet (p := p) (q := q') rfl rfl n1 nt) (x0 := .kls (ns.map .int)) (x1 := .ref 0) (n := 1) (m := 3) (S := dr d5 :: T5 q') rfl rfl
    refine ⟨dr d5 :: T5 q', ?_⟩
    simp only [m_law, mFn]
    rw [w_seq', s0, nxt_nx, w_seq', s1, nxt_nx, w_seq', s2, nxt_nx, w_seq', s3, nxt_nx, w_seq', s4, nxt_nx, bt]
    rfl
  · let W' := withoutT badP W
    have w' : WOk W' := without_ok w
    have no := without_no (bad := badP) (W := W) rfl
    have lw : m_law_without [.ref 0, pWorld W, .lst [.str "person"]] (dr d5 :: T4) = .ok (pWorld W') (dr d5 :: T4) := law_without_eq w nin_p
    let q' : Par := ⟨p.c, p.s, q.h, p.t⟩
    have hq' : POk q' := ⟨hp.c, hp.s, hq.h, hp.t⟩
    have z0 : setM (.ref 3) (.int 0) (.str p.c) (dr d5 :: T4) = some (dr d5 :: T5 ⟨p.c, q.s, q.h, q.t⟩) := z q 0 _ (by decide)
    have z1 : setM (.ref 3) (.int 1) (.str p.s) (dr d5 :: T5 ⟨p.c, q.s, q.h, q.t⟩) = some (dr d5 :: T5 ⟨p.c, p.s, q.h, q.t⟩) := z _ 1 _ (by decide)
    have z3 : setM (.ref 3) (.int 3) (.str p.t) (dr d5 :: T5 ⟨p.c, p.s, q.h, q.t⟩) = some (dr d5 :: T5 q') := z _ 3 _ (by decide)
    have s4 : m_law_s4 [some (.kls (ns.map .int)), some (.ref 0), some (.ref 1), some (pWorld W), some (.ref 3), none, none] (dr d4 :: T4) = .nx [some (.kls (ns.map .int)), some (.ref 0), some (.ref 1), some (pWorld W'), some (.ref 3), none, none] (dr d5 :: T5 q') := by
      have hj1 : ¬ (j : Int) = 0 := by omega
      simp [m_law_s4, e5, m_law_s7, m_law_s8, lw, mSubs, tsCons, tsNil, h0, h1, h3, z0, z1, z3, hj1, hj0]
    have np : ∀ h ∈ W'.hands, ∀ st ∈ h.2, st ≠ Step.person := fun h hh st hs e => by
      have := no h hh st hs
      subst e; cases this
    have bt := both_true hp hq' w' (alike_whole (p := p) (q := q') rfl rfl rfl np) (x0 := .kls (ns.map .int)) (x1 := .ref 0) (n := 1) (m := 3) (S := dr d5 :: T5 q') rfl rfl
    refine ⟨dr d5 :: T5 q', ?_⟩
    simp only [m_law, mFn]
    rw [w_seq', s0, nxt_nx, w_seq', s1, nxt_nx, w_seq', s2, nxt_nx, w_seq', s3, nxt_nx, w_seq', s4, nxt_nx, bt]
    rfl
end Lw
set_option Elab.async false
set_option linter.all false
set_option maxRecDepth 100000
set_option maxHeartbeats 0
namespace Lw
open PySem PySem.Spec PyProof.Rows L2 Mi
theorem fn_nox {P : Program} {w : PySem.World} {K : PySem.W.Frag} {mg : Str → Option Value} {base : Heap} {k : Nat} {f : Addr} {fd : FuncData} {ps : List Str} {sp : Sp} (F : FnOk P w K mg base (L2.CX P w) k f fd ps sp) :
    FnOk P w K mg base CX0 k f fd ps (fun vs H Q _ => sp vs H Q (fun _ _ _ => False)) :=
  ⟨fun vs H Q E h => F.len _ _ _ _ h, fun A outer s H args us vs Q E hr he hb hv hs => codeAny_mono (F.run A outer s H args us vs Q (fun _ _ _ => False) hr he hb hv hs) fun r s' q => by
    cases r with
    | error e =>
      obtain ⟨_, _, _, _, _, _, _, _, _, _, _, _, z⟩ := q
      exact z
    | ok fl =>
      cases fl with
      | ret u => exact q
      | next => exact q
      | brk => exact q
      | cont => exact q⟩
theorem gs_of {K : PySem.W.Frag} {h : Heap} {mg : Str → Option Value} (X : K.In h) (G : h.Ns mainGlobals mg) (c : He.SaysD fa fn K) (e : ex K = true) : Gs K mg where
  b_all := He.free_ok X G (c.fact 46)
  b_any := He.free_ok X G (c.fact 47)
  b_bool := He.free_ok X G (c.fact 48)
  b_enumerate := He.free_ok X G (c.fact 49)
  b_int := He.free_ok X G (c.fact 50)
  b_isinstance := He.free_ok X G (c.fact 51)
  b_len := He.free_ok X G (c.fact 52)
  b_list := He.free_ok X G (c.fact 53)
  b_max := He.free_ok X G (c.fact 54)
  b_range := He.free_ok X G (c.fact 55)
  b_str := He.free_ok X G (c.fact 56)
  b_sum := He.free_ok X G (c.fact 57)
  b_tuple := He.free_ok X G (c.fact 58)
  b_zip := He.free_ok X G (c.fact 59)
  k_BLANK := kc_of (He.glo_ok X G (c.fact 60)) (ex_at e 0)
  k_FAULTS := kc_of (He.glo_ok X G (c.fact 61)) (ex_at e 1)
  k_PARTS := kc_of (He.glo_ok X G (c.fact 62)) (ex_at e 2)
  k_VALUES := kc_of (He.glo_ok X G (c.fact 63)) (ex_at e 3)
  gc_Rule := He.glo_ok X G (c.fact 64)
  c_Rule := He.cls_ok (c.fact 65)
  n_Rule_checking := He.noat_ok (c.fact 66)
  n_Rule_halves := He.noat_ok (c.fact 67)
  n_Rule_singles := He.noat_ok (c.fact 68)
  n_Rule_telling := He.noat_ok (c.fact 69)
  mk_Rule := He.mkr_ok (c.fact 70)
theorem facts {P : Program} {w : PySem.World} {K : PySem.W.Frag} {h : Heap} {mg : Str → Option Value} {f : Addr} (X : K.In h) (G : h.Ns mainGlobals mg) (hfa : mg ("law" : Str) = some (.ref f)) (c : He.SaysD fa fn K) (e : ex K = true) :
    ∃ fd : FuncData, (∀ (s : Shared) (v : Value), BindsTo s fd ⟨[v], []⟩ [("_law_script", v)]) ∧ ∀ base : Heap, K.In base → base.Ns mainGlobals mg → FnOk P w K mg base (L2.CX P w) 8 f fd ["_law_script"] (spM w K 1 m_law) := by
  have g : Gs K mg := gs_of X G c e
  obtain ⟨fd0, F0⟩ := c.def_ 0 (d := D_law_begin) rfl
  obtain ⟨fd1, F1⟩ := c.def_ 1 (d := D_law_values) rfl
  obtain ⟨fd2, F2⟩ := c.def_ 2 (d := D_law_draw) rfl
  obtain ⟨fd3, F3⟩ := c.def_ 3 (d := D_law_parts) rfl
  obtain ⟨fd4, F4⟩ := c.def_ 4 (d := D_law_hour_step) rfl
  obtain ⟨fd5, F5⟩ := c.def_ 5 (d := D_law_world) rfl
  obtain ⟨fd6, F6⟩ := c.def_ 6 (d := D_law_without) rfl
  obtain ⟨fd7, F7⟩ := c.def_ 7 (d := D_Rule___init__) rfl
  obtain ⟨fd8, F8⟩ := c.def_ 8 (d := D_law_rule) rfl
  obtain ⟨fd9, F9⟩ := c.def_ 9 (d := D_is_whole) rfl
  obtain ⟨fd10, F10⟩ := c.def_ 10 (d := D_are_series) rfl
  obtain ⟨fd11, F11⟩ := c.def_ 11 (d := D_is_step) rfl
  obtain ⟨fd12, F12⟩ := c.def_ 12 (d := D_is_hand) rfl
  obtain ⟨fd13, F13⟩ := c.def_ 13 (d := D_is_world) rfl
  obtain ⟨fd14, F14⟩ := c.def_ 14 (d := D_check_world) rfl
  obtain ⟨fd15, F15⟩ := c.def_ 15 (d := D_fresh) rfl
  obtain ⟨fd16, F16⟩ := c.def_ 16 (d := D_begin) rfl
  obtain ⟨fd17, F17⟩ := c.def_ 17 (d := D_has_step) rfl
  obtain ⟨fd18, F18⟩ := c.def_ 18 (d := D_hands_at) rfl
  obtain ⟨fd19, F19⟩ := c.def_ 19 (d := D_is_room_free) rfl
  obtain ⟨fd20, F20⟩ := c.def_ 20 (d := D_is_person_free) rfl
  obtain ⟨fd21, F21⟩ := c.def_ 21 (d := D_is_gap) rfl
  obtain ⟨fd22, F22⟩ := c.def_ 22 (d := D_person_hours) rfl
  obtain ⟨fd23, F23⟩ := c.def_ 23 (d := D_find_step) rfl
  obtain ⟨fd24, F24⟩ := c.def_ 24 (d := D_tell_step) rfl
  obtain ⟨fd25, F25⟩ := c.def_ 25 (d := D_room_day) rfl
  obtain ⟨fd26, F26⟩ := c.def_ 26 (d := D_with_series) rfl
  obtain ⟨fd27, F27⟩ := c.def_ 27 (d := D_room_set) rfl
  obtain ⟨fd28, F28⟩ := c.def_ 28 (d := D_room_step) rfl
  obtain ⟨fd29, F29⟩ := c.def_ 29 (d := D_person_set) rfl
  obtain ⟨fd30, F30⟩ := c.def_ 30 (d := D_taken_back) rfl
  obtain ⟨fd31, F31⟩ := c.def_ 31 (d := D_person_step) rfl
  obtain ⟨fd32, F32⟩ := c.def_ 32 (d := D_one_set) rfl
  obtain ⟨fd33, F33⟩ := c.def_ 33 (d := D_off_set) rfl
  obtain ⟨fd34, F34⟩ := c.def_ 34 (d := D_stepped) rfl
  obtain ⟨fd35, F35⟩ := c.def_ 35 (d := D_meets_room) rfl
  obtain ⟨fd36, F36⟩ := c.def_ 36 (d := D_meets_person) rfl
  obtain ⟨fd37, F37⟩ := c.def_ 37 (d := D_lost_single) rfl
  obtain ⟨fd38, F38⟩ := c.def_ 38 (d := D_step_faults) rfl
  obtain ⟨fd39, F39⟩ := c.def_ 39 (d := D_is_half) rfl
  obtain ⟨fd40, F40⟩ := c.def_ 40 (d := D_led) rfl
  obtain ⟨fd41, F41⟩ := c.def_ 41 (d := D_first_unlike) rfl
  obtain ⟨fd42, F42⟩ := c.def_ 42 (d := D_alike) rfl
  obtain ⟨fd43, F43⟩ := c.def_ 43 (d := D_walked) rfl
  obtain ⟨fd44, F44⟩ := c.def_ 44 (d := D_can) rfl
  obtain ⟨fd45, F45⟩ := c.def_ 45 (d := D_ends) rfl
  obtain ⟨fd46, F46⟩ := c.def_ 46 (d := D_law) rfl
  have e0 := hfa.symm.trans (He.glo_ok X G (c.fact 45))
  cases e0
  have b := FunD.bindsA (ps := ["_law_script"]) F46 fun _ _ _ _ _ _ us hl => match us, hl with | [_], _ => rfl
  refine ⟨fd46, fun s v => b s [v] rfl, fun base _ _ => ?_⟩
  have h_law_begin := ok_law_begin (P := P) (w := w) (base := base) g   F0 (He.glo_ok X G (c.fact 0))
  have h_law_values := ok_law_values (P := P) (w := w) (base := base) g   F1 (He.glo_ok X G (c.fact 1))
  have h_law_draw := ok_law_draw (P := P) (w := w) (base := base) g   F2 (He.glo_ok X G (c.fact 2))
  have h_law_parts := ok_law_parts (P := P) (w := w) (base := base) g h_law_values h_law_draw  F3 (He.glo_ok X G (c.fact 3))
  have h_law_hour_step := ok_law_hour_step (P := P) (w := w) (base := base) g h_law_draw  F4 (He.glo_ok X G (c.fact 4))
  have h_law_world := ok_law_world (P := P) (w := w) (base := base) g h_law_draw h_law_hour_step  F5 (He.glo_ok X G (c.fact 5))
  have h_law_without := ok_law_without (P := P) (w := w) (base := base) g   F6 (He.glo_ok X G (c.fact 6))
  have h_Rule___init__ := ok_Rule___init__ (P := P) (w := w) (base := base) g   F7
  have h_law_rule := ok_law_rule (P := P) (w := w) (base := base) g h_Rule___init__  F8 (He.glo_ok X G (c.fact 7))
  have h_is_whole := ok_is_whole (P := P) (w := w) (base := base) g   F9 (He.glo_ok X G (c.fact 8))
  have h_are_series := ok_are_series (P := P) (w := w) (base := base) g h_is_whole  F10 (He.glo_ok X G (c.fact 9))
  have h_is_step := ok_is_step (P := P) (w := w) (base := base) g h_is_whole  F11 (He.glo_ok X G (c.fact 10))
  have h_is_hand := ok_is_hand (P := P) (w := w) (base := base) g h_is_whole h_is_step  F12 (He.glo_ok X G (c.fact 11))
  have h_is_world := ok_is_world (P := P) (w := w) (base := base) g h_is_whole h_are_series h_is_hand  F13 (He.glo_ok X G (c.fact 12))
  have h_check_world := ok_check_world (P := P) (w := w) (base := base) g h_is_world  F14 (He.glo_ok X G (c.fact 13))
  have h_fresh := ok_fresh (P := P) (w := w) (base := base) g   F15 (He.glo_ok X G (c.fact 14))
  have h_begin := ok_begin (P := P) (w := w) (base := base) g h_fresh  F16 (He.glo_ok X G (c.fact 15))
  have h_has_step := ok_has_step (P := P) (w := w) (base := base) g h_is_whole  F17 (He.glo_ok X G (c.fact 16))
  have h_hands_at := ok_hands_at (P := P) (w := w) (base := base) g h_has_step  F18 (He.glo_ok X G (c.fact 17))
  have h_is_room_free := ok_is_room_free (P := P) (w := w) (base := base) g   F19 (He.glo_ok X G (c.fact 18))
  have h_is_person_free := ok_is_person_free (P := P) (w := w) (base := base) g   F20 (He.glo_ok X G (c.fact 19))
  have h_is_gap := ok_is_gap (P := P) (w := w) (base := base) g h_is_room_free h_is_person_free  F21 (He.glo_ok X G (c.fact 20))
  have h_person_hours := ok_person_hours (P := P) (w := w) (base := base) g   F22 (He.glo_ok X G (c.fact 21))
  have h_find_step := ok_find_step (P := P) (w := w) (base := base) g h_is_gap h_person_hours  F23 (He.glo_ok X G (c.fact 22))
  have h_tell_step := ok_tell_step (P := P) (w := w) (base := base) g h_person_hours  F24 (He.glo_ok X G (c.fact 23))
  have h_room_day := ok_room_day (P := P) (w := w) (base := base) g   F25 (He.glo_ok X G (c.fact 24))
  have h_with_series := ok_with_series (P := P) (w := w) (base := base) g   F26 (He.glo_ok X G (c.fact 25))
  have h_room_set := ok_room_set (P := P) (w := w) (base := base) g h_room_day h_is_room_free h_with_series  F27 (He.glo_ok X G (c.fact 26))
  have h_room_step := ok_room_step (P := P) (w := w) (base := base) g h_room_set  F28 (He.glo_ok X G (c.fact 27))
  have h_person_set := ok_person_set (P := P) (w := w) (base := base) g h_is_person_free h_with_series  F29 (He.glo_ok X G (c.fact 28))
  have h_taken_back := ok_taken_back (P := P) (w := w) (base := base) g h_with_series  F30 (He.glo_ok X G (c.fact 29))
  have h_person_step := ok_person_step (P := P) (w := w) (base := base) g h_person_set h_taken_back  F31 (He.glo_ok X G (c.fact 30))
  have h_one_set := ok_one_set (P := P) (w := w) (base := base) g h_is_room_free h_is_person_free h_with_series  F32 (He.glo_ok X G (c.fact 31))
  have h_off_set := ok_off_set (P := P) (w := w) (base := base) g h_with_series  F33 (He.glo_ok X G (c.fact 32))
  have h_stepped := ok_stepped (P := P) (w := w) (base := base) g h_find_step h_tell_step h_room_step h_person_step h_one_set h_off_set  F34 (He.glo_ok X G (c.fact 33))
  have h_meets_room := ok_meets_room (P := P) (w := w) (base := base) g h_is_room_free  F35 (He.glo_ok X G (c.fact 34))
  have h_meets_person := ok_meets_person (P := P) (w := w) (base := base) g h_is_person_free  F36 (He.glo_ok X G (c.fact 35))
  have h_lost_single := ok_lost_single (P := P) (w := w) (base := base) g   F37 (He.glo_ok X G (c.fact 36))
  have h_step_faults := ok_step_faults (P := P) (w := w) (base := base) g h_meets_room h_meets_person h_lost_single h_person_hours  F38 (He.glo_ok X G (c.fact 37))
  have h_is_half := ok_is_half (P := P) (w := w) (base := base) g   F39 (He.glo_ok X G (c.fact 38))
  have h_led := ok_led (P := P) (w := w) (base := base) g h_stepped h_step_faults h_is_half  F40 (He.glo_ok X G (c.fact 39))
  have h_first_unlike := ok_first_unlike (P := P) (w := w) (base := base) g h_begin h_hands_at h_led  F41 (He.glo_ok X G (c.fact 40))
  have h_alike := ok_alike (P := P) (w := w) (base := base) g h_check_world h_first_unlike  F42 (He.glo_ok X G (c.fact 41))
  have h_walked := ok_walked (P := P) (w := w) (base := base) g h_begin h_hands_at h_led  F43 (He.glo_ok X G (c.fact 42))
  have h_can := ok_can (P := P) (w := w) (base := base) g h_check_world h_walked  F44 (He.glo_ok X G (c.fact 43))
  have h_ends := ok_ends (P := P) (w := w) (base := base) g h_check_world h_walked h_hands_at  F45 (He.glo_ok X G (c.fact 44))
  exact ok_law g h_law_begin h_law_parts h_law_world h_law_draw h_law_without h_law_rule h_alike h_can h_ends  F46
theorem law_sp {w : PySem.World} {K : PySem.W.Frag} (H : Hp) (a : Addr) (ns : List Int) (hl : ns.length ≤ 63) (hO : Only H) (hS : SqL K H a (ns.map V.int)) : spM w K 1 m_law [.ref a] H (fun v _ => v = .bl true) (fun _ _ _ => False) := by
  refine ⟨rfl, ⟨w, K, H, [], []⟩, [], [.kls (ns.map MV.int)], rfl, rfl, rfl, ⟨rfl, List.nodup_nil, (fun a m => nomatch m), fun n o a e _ => by simp at e⟩, ?_, ?_⟩
  · refine .cons ?_ .nil
    rw [RepV]
    have t : RepVs ⟨w, K, H, [], []⟩ (ns.map MV.int) (ns.map V.int) := by
      induction ns with
      | nil => exact .nil
      | cons n ns ih =>
        refine .cons (repI n) ?_
        have z : ∀ ns : List Int, RepVs ⟨w, K, H, [], []⟩ (ns.map MV.int) (ns.map V.int) := fun ns => by
          induction ns with
          | nil => exact .nil
          | cons n ns ih => exact .cons (repI n) ih
        exact z ns
    refine ⟨a, ns.map V.int, rfl, ?_, t⟩
    rcases hS with (h | ⟨o, h⟩) | h
    · rcases hO a with z | ⟨o, xs, z⟩ <;> rw [z] at h <;> cases h
    · exact .inl ⟨o, h⟩
    · exact .inr (.inr h)
  · obtain ⟨S', e⟩ := law_true ns hl
    rw [e]
    exact fun C' g r v rv => vBl rv
end Lw
open PySem PySem.W PySem.Calls PyProof.Rows
theorem PySem.Challenge.cw_seriesbooked_k14_parts_that_touch_little_holds : PySem.Challenge.rw_seriesbooked_k14_parts_that_touch_little.Holds := by
  w_on; o_law
  refine HandSHeadRun.head_any (r := OpenLaw.row PySem.Challenge.rw_seriesbooked_k14_parts_that_touch_little) (q := view (OpenLaw.row PySem.Challenge.rw_seriesbooked_k14_parts_that_touch_little).prog [73]) (H := Lw.hk) (ob := Lw.ob) (M := 4000) (loose := Lw.nms) (d := HandSHeadRun.topDef (OpenLaw.row PySem.Challenge.rw_seriesbooked_k14_parts_that_touch_little).prog 73) (kwd := []) Lw.ob_eq
    (by kernel_rfl) (fun s => by kernel_rfl) Lw.run0 (by kernel_rfl) (by kernel_rfl) (by kernel_rfl) (by rfl) (by first | assumption | decide +kernel) (by decide +kernel) ⟨rfl, rfl, rfl, rfl, rfl, by decide +kernel⟩ ?hw ?hc
  case hw => w_witness2
  case hc =>
    refine L2.walk_ofE (l := PySem.Challenge.rw_seriesbooked_k14_parts_that_touch_little) (n := 63) (k := 8) (x := "_law_script") (CX := L2.CX0) rfl (by decide) (by kernel_rfl) ⟨rfl, by decide, by decide⟩ ?F (fun _ _ _ _ z => z)
    intro w mg fa h Y G hmg0
    obtain ⟨K, KX, c⟩ := Y
    have glaw : mg ("law" : PySem.Str) = some (.ref fa) := by
      have e : (HandSHeadRun.topDef (OpenLaw.row PySem.Challenge.rw_seriesbooked_k14_parts_that_touch_little).prog 73).name = ("law" : PySem.Str) := by kernel_rfl
      rw [← e]
      exact hmg0
    obtain ⟨fd, hb, hF⟩ := Lw.facts (P := (PySem.Challenge.rw_seriesbooked_k14_parts_that_touch_little).prog) (w := w) KX G glaw c.t.d c.more
    exact ⟨K, fd, (fun vs H Q _ => Mi.spM w K 1 Lw.m_law vs H Q (fun _ _ _ => False)), KX, hb, fun H a ns hl hO hS => Lw.law_sp H a ns hl hO hS, fun base k1 k2 => Lw.fn_nox (hF base k1 k2)⟩
