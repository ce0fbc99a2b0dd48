import PyProof.Rows.All
import Wide.All
import OpenK.AllK
import Wide.FinOn
import HandS.ForMost
import HandS.ForExc
import HandS.ExcInit
import HandS.TryMany
import HandS.TryOnly
import HandS.CallSlots
import HandS.IsInst
import HandS.Walk
import HandS.Zip
import HandS.HeadHook4
import HandS.Flow
import HandS.Wide
import HandS.TupAny
import HandS.TupMul
import HandS.Deep
import HandS.Style
import KE.GoesZip
import KE.GoesMore
import KE.GoesEnum
import KE.GoesNew
import HandS.Comp
import HandS.Small
import HandS.ExcField
import HandS.HeadEnd
import KE.KDictZip
import HandS.DictComp
import KE.KDictKeyed
import HandS.Dict
import KE.KDictDisplayH
import HandS.TupLen
import KE.KEqDict
import HandS.More
import HandS.HeadHook3
import HandS.NamedTupGet
import PyProof.InstNe
import HandS.Text
import HandS.RaiseMore
import HandS.ReplaceLit
import PySem.Challenge.RW_seriesbooked_k12_texts_refused
import KE.IntTextLaws
import HandS.Head0
import HandS.Head1
import HandS.Head2
import HandS.HeadHook1
import HandS.HeadHook2
import KE.KStateDown
import Lean
set_option Elab.async false
set_option linter.all false
set_option maxRecDepth 100000
set_option maxHeartbeats 2000000
namespace Mi
open PySem PySem.Spec PyProof.Rows L2
/-- plain data, and references into a store -/
inductive MV where
  | non | bl (b : Bool) | int (i : Int) | str (x : Str)
  | tup (xs : List MV) | lst (xs : List MV)
  | dct (ks : List Key) (vs : List MV)
  | dcT (ks : List MV) (vs : List MV)
  | obj (c : Str) (fs : List Str) (vs : List MV)
  | ref (n : Nat)
  | kls (xs : List MV)
  deriving Inhabited
/-- what stands in the store -/
inductive MO where
  | lst (xs : List MV)
  | dct (ks : List Key) (vs : List MV)
  | dcT (ks : List MV) (vs : List MV)
  | obj (c : Str) (fs : List Str) (vs : List MV)
  deriving Inhabited
abbrev Sto := List MO
abbrev Ev := List (Option MV)
mutual
def MV.beq : MV → MV → Bool
  | .non, .non => true
  | .bl a, .bl b => a == b
  | .int a, .int b => decide (a = b)
  | .str a, .str b => decide (a = b)
  | .tup a, .tup b => MV.beqs a b
  | .lst a, .lst b => MV.beqs a b
  | .dct ka a, .dct kb b => decide (ka = kb) && MV.beqs a b
  | .dcT ka a, .dcT kb b => MV.beqs ka kb && MV.beqs a b
  | .obj c f a, .obj c' f' b => decide (c = c') && (decide (f = f') && MV.beqs a b)
  | .ref a, .ref b => decide (a = b)
  | .kls a, .kls b => MV.beqs a b
  | _, _ => false
def MV.beqs : List MV → List MV → Bool
  | [], [] => true
  | a :: as, b :: bs => MV.beq a b && MV.beqs as bs
  | _, _ => false
end
mutual
theorem MV.beq_ok : ∀ a b : MV, MV.beq a b = true ↔ a = b
  | .non, b => by cases b <;> simp [MV.beq]
  | .bl a, b => by cases b <;> simp [MV.beq]
  | .int a, b => by cases b <;> simp [MV.beq]
  | .str a, b => by cases b <;> simp [MV.beq]
  | .tup a, b => by cases b <;> simp [MV.beq, MV.beqs_ok a]
  | .lst a, b => by cases b <;> simp [MV.beq, MV.beqs_ok a]
  | .dct ka a, b => by cases b <;> simp [MV.beq, MV.beqs_ok a]
  | .dcT ka a, b => by cases b <;> simp [MV.beq, MV.beqs_ok a, MV.beqs_ok ka]
  | .obj c f a, b => by cases b <;> simp [MV.beq, MV.beqs_ok a]
  | .ref a, b => by cases b <;> simp [MV.beq]
  | .kls a, b => by cases b <;> simp [MV.beq, MV.beqs_ok a]
theorem MV.beqs_ok : ∀ a b : List MV, MV.beqs a b = true ↔ a = b
  | [], b => by cases b <;> simp [MV.beqs]
  | a :: as, b => by
    cases b with
    | nil => simp [MV.beqs]
    | cons b bs => simp [MV.beqs, MV.beq_ok a b, MV.beqs_ok as bs]
end
instance : DecidableEq MV := fun a b => decidable_of_iff _ (MV.beq_ok a b)
def MO.beq : MO → MO → Bool
  | .lst a, .lst b => MV.beqs a b
  | .dct ka a, .dct kb b => decide (ka = kb) && MV.beqs a b
  | .dcT ka a, .dcT kb b => MV.beqs ka kb && MV.beqs a b
  | .obj c f a, .obj c' f' b => decide (c = c') && (decide (f = f') && MV.beqs a b)
  | _, _ => false
theorem MO.beq_ok (a b : MO) : MO.beq a b = true ↔ a = b := by
  cases a <;> cases b <;> simp [MO.beq, MV.beqs_ok]
instance : DecidableEq MO := fun a b => decidable_of_iff _ (MO.beq_ok a b)
mutual
def canon : MV → MV
  | .bl b => .int (if b then 1 else 0)
  | .tup xs => .tup (canons xs)
  | x => x
def canons : List MV → List MV
  | [] => []
  | x :: xs => canon x :: canons xs
end
theorem canons_map : ∀ xs : List MV, canons xs = xs.map canon
  | [] => rfl
  | x :: xs => by rw [canons, canons_map xs]; rfl
mutual
def keyOk : MV → Bool
  | .non | .bl _ | .int _ | .str _ => true
  | .tup xs => keyOks xs
  | _ => false
def keyOks : List MV → Bool
  | [] => true
  | x :: xs => keyOk x && keyOks xs
end
mutual
def kdep : MV → Nat
  | .tup xs => kdeps xs + 1
  | _ => 0
def kdeps : List MV → Nat
  | [] => 0
  | x :: xs => max (kdep x) (kdeps xs)
end
/-- keys of a dict: plain data, not too deep -/
def keyTs (ks : List MV) : Bool := keyOks ks && decide (kdeps ks ≤ 8)
/-- where data is read: the program, the world, the written part, the abstract heap, the addresses of the store -/
structure RC where
  w : World
  K : PySem.W.Frag
  H : Hp
  ι : List Addr
  bad : List Addr := []
/-- not to be written -/
def Froz (C : RC) (a : Addr) : Prop := a ∉ C.ι ∧ a ∉ C.bad
mutual
def hashK (w : World) : MV → Int
  | .non => 0xfca86420
  | .int i => hashInt i
  | .bl b => hashInt (if b then 1 else 0)
  | .str x => hashStr w x
  | .tup xs => reduceHash (Builtin.Tuple.tupleHashOf (hashKs w xs))
  | _ => 0
def hashKs (w : World) : List MV → List Int
  | [] => []
  | x :: xs => hashK w x :: hashKs w xs
end
/-- the entries of a dict whose keys are tuples -/
def entsOf (w : World) : List MV → List Addr → List Value → List DictEntry
  | k :: ks, p :: ps, u :: us => ⟨hashK w k, .ref p, u⟩ :: entsOf w ks ps us
  | _, _, _ => []
/-- a list of the written part -/
def KList (K : PySem.W.Frag) (a : Addr) (xs : List V) : Prop :=
  SqL K (fun _ => none) a xs
theorem KList.sq {K : PySem.W.Frag} {a : Addr} {xs : List V} (h : KList K a xs) (H : Hp) : SqL K H a xs := by
  rcases h with (k | ⟨ob, k⟩) | k
  · cases k
  · cases k
  · exact .inr k
theorem KList.of {K : PySem.W.Frag} {a : Addr} {xs : List V} {o : Obj} {its : Array Value} {n : Nat} (q : K.lookup a = some o) (c : o.cls = .type "list") (nd : o.dict = none) (dt : o.data = .seq its n) (z : its.size ≤ sizeLine) (rv : Vals xs its.toList) : KList K a xs :=
  .inr ⟨o, its, n, q, c, nd, dt, z, rv⟩
mutual
def RepV (C : RC) : MV → V → Prop
  | .non, v => v = .non
  | .bl b, v => v = .bl b
  | .int i, v => v = .int i
  | .str x, v => v = .str x
  | .tup xs, v => ∃ a vs, v = .ref a ∧ SqT C.K C.H a vs ∧ RepVs C xs vs
  | .lst xs, v => ∃ a vs, v = .ref a ∧ Froz C a ∧ C.H a = some (.lst vs) ∧ RepVs C xs vs
  | .dct ks ds, v => ∃ a vs, v = .ref a ∧ Froz C a ∧ Rd C.H a (.dK (ks.zip vs)) ∧ ks.length = vs.length ∧ ks.Nodup ∧ RepVs C ds vs
  | .dcT ks ds, v => ∃ a, v = .ref a ∧ Froz C a ∧ (a == sysModules) = false ∧ keyTs ks = true ∧ ((canons ks).Nodup) ∧ ks.length = ds.length ∧ ks.length ≤ sizeLine ∧
      ∃ (ob : Obj) (es : Array DictEntry) (ep : Nat) (ps : List Addr) (us : List Value) (kvs vs : List V),
        C.H a = some (.ext fun h => h.get? a = some ob) ∧ ob.ExactDict ∧ ob.data = .dict es ep ∧ es.toList = entsOf C.w ks ps us ∧ kvs = ps.map V.ref ∧ RepVs C ks kvs ∧ Vals vs us ∧ RepVs C ds vs
  | .obj c fs ds, v => ∃ a dx vs, v = .ref a ∧ Froz C a ∧ C.H a = some (.ins (He.ga C.K c) dx (fs.zip vs)) ∧ fs.length = vs.length ∧ RepVs C ds vs
  | .ref n, v => ∃ a, v = .ref a ∧ C.ι[n]? = some a
  | .kls xs, v => ∃ a vs, v = .ref a ∧ ((∃ o, C.H a = some (.frz o (.lst vs))) ∨ KList C.K a vs) ∧ RepVs C xs vs
def RepVs (C : RC) : List MV → List V → Prop
  | [], [] => True
  | d :: ds, v :: vs => RepV C d v ∧ RepVs C ds vs
  | _, _ => False
end
/-- an object of the store at its address -/
def RepO (C : RC) (a : Addr) : MO → Prop
  | .lst xs => ∃ vs, C.H a = some (.lst vs) ∧ RepVs C xs vs
  | .dct ks ds => ∃ vs, C.H a = some (.dK (ks.zip vs)) ∧ ks.length = vs.length ∧ ks.Nodup ∧ RepVs C ds vs
  | .dcT ks ds => (a == sysModules) = false ∧ keyTs ks = true ∧ ((canons ks).Nodup) ∧ ks.length = ds.length ∧ ks.length ≤ sizeLine ∧
      ∃ (ob : Obj) (es : Array DictEntry) (ep : Nat) (ps : List Addr) (us : List Value) (kvs vs : List V),
        C.H a = some (.ext fun h => h.get? a = some ob) ∧ ob.ExactDict ∧ ob.data = .dict es ep ∧ es.toList = entsOf C.w ks ps us ∧ kvs = ps.map V.ref ∧ RepVs C ks kvs ∧ Vals vs us ∧ RepVs C ds vs
  | .obj c fs ds => ∃ dx vs, C.H a = some (.ins (He.ga C.K c) dx (fs.zip vs)) ∧ fs.length = vs.length ∧ RepVs C ds vs
structure RepS (C : RC) (S : Sto) : Prop where
  len : C.ι.length = S.length
  nd : C.ι.Nodup
  bad : ∀ a ∈ C.bad, a ∉ C.ι ∧ C.H a ≠ none
  ob : ∀ (n : Nat) (o : MO) (a : Addr), S[n]? = some o → C.ι[n]? = some a → RepO C a o
theorem RepVs.length {C : RC} : ∀ {ds : List MV} {vs : List V}, RepVs C ds vs → ds.length = vs.length
  | [], [], _ => rfl
  | [], _ :: _, h => by simp [RepVs] at h
  | _ :: _, [], h => by simp [RepVs] at h
  | d :: ds, v :: vs, h => by
    rw [RepVs] at h
    simp [RepVs.length h.2]
theorem RepVs.get {C : RC} : ∀ {ds : List MV} {vs : List V} {i : Nat} {d : MV}, RepVs C ds vs → ds[i]? = some d → ∃ v, vs[i]? = some v ∧ RepV C d v
  | [], _, _, _, _, e => by simp at e
  | _ :: _, [], _, _, h, _ => by simp [RepVs] at h
  | d :: ds, v :: vs, 0, x, h, e => by
    rw [RepVs] at h
    simp at e; subst e
    exact ⟨v, rfl, h.1⟩
  | d :: ds, v :: vs, i + 1, x, h, e => by
    rw [RepVs] at h
    obtain ⟨w, k1, k2⟩ := RepVs.get (i := i) h.2 (by simpa using e)
    exact ⟨w, by simpa using k1, k2⟩
theorem RepVs.get' {C : RC} : ∀ {ds : List MV} {vs : List V} {i : Nat} {v : V}, RepVs C ds vs → vs[i]? = some v → ∃ d, ds[i]? = some d ∧ RepV C d v
  | [], [], _, _, _, e => by simp at e
  | [], _ :: _, _, _, h, _ => by simp [RepVs] at h
  | _ :: _, [], _, _, h, _ => by simp [RepVs] at h
  | d :: ds, v :: vs, 0, x, h, e => by
    rw [RepVs] at h
    simp at e; subst e
    exact ⟨d, rfl, h.1⟩
  | d :: ds, v :: vs, i + 1, x, h, e => by
    rw [RepVs] at h
    obtain ⟨w, k1, k2⟩ := RepVs.get' (i := i) h.2 (by simpa using e)
    exact ⟨w, by simpa using k1, k2⟩
theorem RepVs.cons {C : RC} {d : MV} {ds : List MV} {v : V} {vs : List V} (h : RepV C d v) (t : RepVs C ds vs) : RepVs C (d :: ds) (v :: vs) := by
  rw [RepVs]; exact ⟨h, t⟩
theorem RepVs.nil {C : RC} : RepVs C [] [] := by rw [RepVs]; trivial
theorem RepVs.cons_inv {C : RC} {d : MV} {ds : List MV} {vs : List V} (h : RepVs C (d :: ds) vs) : ∃ v vr, vs = v :: vr ∧ RepV C d v ∧ RepVs C ds vr := by
  cases vs with
  | nil => simp [RepVs] at h
  | cons v vr => rw [RepVs] at h; exact ⟨v, vr, rfl, h.1, h.2⟩
theorem RepVs.nil_inv {C : RC} {vs : List V} (h : RepVs C [] vs) : vs = [] := by
  cases vs with
  | nil => rfl
  | cons v vr => simp [RepVs] at h
theorem RepVs.append {C : RC} : ∀ {ds es : List MV} {vs us : List V}, RepVs C ds vs → RepVs C es us → RepVs C (ds ++ es) (vs ++ us)
  | [], _, vs, _, h, t => by rw [h.nil_inv]; exact t
  | d :: ds, _, vs, _, h, t => by
    obtain ⟨v, vr, rfl, h1, h2⟩ := h.cons_inv
    exact .cons h1 (RepVs.append h2 t)
theorem RepVs.take {C : RC} : ∀ {ds : List MV} {vs : List V} (n : Nat), RepVs C ds vs → RepVs C (ds.take n) (vs.take n)
  | _, _, 0, _ => by simp; exact .nil
  | [], vs, n + 1, h => by rw [h.nil_inv]; simpa using RepVs.nil
  | d :: ds, vs, n + 1, h => by
    obtain ⟨v, vr, rfl, h1, h2⟩ := h.cons_inv
    exact .cons h1 (RepVs.take n h2)
theorem RepVs.drop {C : RC} : ∀ {ds : List MV} {vs : List V} (n : Nat), RepVs C ds vs → RepVs C (ds.drop n) (vs.drop n)
  | _, _, 0, h => h
  | [], vs, n + 1, h => by rw [h.nil_inv]; simpa using RepVs.nil
  | d :: ds, vs, n + 1, h => by
    obtain ⟨v, vr, rfl, h1, h2⟩ := h.cons_inv
    exact RepVs.drop n h2
theorem RepVs.set {C : RC} {d : MV} {v : V} (r : RepV C d v) : ∀ {ds : List MV} {vs : List V} (i : Nat), RepVs C ds vs → RepVs C (ds.set i d) (vs.set i v)
  | [], vs, _, h => by rw [h.nil_inv]; simpa using RepVs.nil
  | x :: ds, vs, 0, h => by
    obtain ⟨u, vr, rfl, h1, h2⟩ := h.cons_inv
    exact .cons r h2
  | x :: ds, vs, i + 1, h => by
    obtain ⟨u, vr, rfl, h1, h2⟩ := h.cons_inv
    exact .cons h1 (RepVs.set r i h2)
theorem RepVs.flatRep {C : RC} {ds : List MV} {vs : List V} (h : RepVs C ds vs) : ∀ n : Nat, RepVs C ((List.replicate n ds).flatten) ((List.replicate n vs).flatten)
  | 0 => by simpa using RepVs.nil
  | n + 1 => by
    simp only [List.replicate_succ, List.flatten_cons]
    exact h.append (h.flatRep n)
/-- what stands at a later: the same, or a dict that is told to be read only from then on -/
def Kp (C C' : RC) (a : Addr) (o : HO) : Prop := C'.H a = some o ∨ a ∉ C.bad ∧ (∃ kvs, o = .dK kvs) ∧ ∃ ob, C'.H a = some (.frz ob o)
theorem Kp.isIt {C C' : RC} {a : Addr} {o : HO} (k : Kp C C' a o) : ∃ u, C'.H a = some u := by
  rcases k with k | ⟨_, _, ob, k⟩
  · exact ⟨_, k⟩
  · exact ⟨_, k⟩
theorem Kp.nix {C C' : RC} {a : Addr} {o : HO} (k : Kp C C' a o) : ¬ C'.H a = none := fun z => by
  obtain ⟨u, e⟩ := k.isIt
  rw [e] at z; cases z
theorem Kp.exact {C C' : RC} {a : Addr} {o : HO} (k : Kp C C' a o) (h : (∀ kvs, o ≠ .dK kvs) ∨ a ∈ C.bad) : C'.H a = some o := by
  rcases k with k | ⟨nb, ⟨kvs, e⟩, _⟩
  · exact k
  · rcases h with h | h
    · exact absurd e (h kvs)
    · exact absurd h nb
/-- from one state to a later one: b the least length of the store in between -/
structure Ext (b : Nat) (C C' : RC) : Prop where
  w : C'.w = C.w
  K : C'.K = C.K
  bad : ∀ a ∈ C'.bad, a ∈ C.bad ∨ a ∈ C.ι ∨ C.H a = none
  bad' : ∀ a ∈ C.bad, a ∈ C'.bad
  kp : ∀ a o, a ∉ C.ι → C.H a = some o → Kp C C' a o
  new : ∀ a ∈ C'.ι, a ∈ C.ι ∨ C.H a = none
  pre : C'.ι.take b = C.ι.take b
  le : b ≤ C.ι.length
  le' : b ≤ C'.ι.length
theorem Ext.refl {b : Nat} {C : RC} (h : b ≤ C.ι.length) : Ext b C C := ⟨rfl, rfl, fun _ h => .inl h, fun _ h => h, fun _ _ _ h => .inl h, fun _ h => .inl h, rfl, h, h⟩
theorem Ext.trans {b : Nat} {C C1 C2 : RC} (x : Ext b C C1) (y : Ext b C1 C2) : Ext b C C2 where
  w := y.w.trans x.w
  K := y.K.trans x.K
  bad := fun a m => by
    rcases y.bad a m with q | q | q
    · exact x.bad a q
    · rcases x.new a q with z | z
      · exact .inr (.inl z)
      · exact .inr (.inr z)
    · by_cases ha : a ∈ C.ι
      · exact .inr (.inl ha)
      · cases e : C.H a with
        | none => exact .inr (.inr rfl)
        | some o => exact absurd q (x.kp a o ha e).nix
  bad' := fun a m => y.bad' a (x.bad' a m)
  kp := fun a o na h => by
    have n1 : a ∉ C1.ι := fun m => by
      rcases x.new a m with q | q
      · exact na q
      · rw [h] at q; cases q
    rcases x.kp a o na h with k | ⟨nb, ⟨kvs, e⟩, ob, k⟩
    · rcases y.kp a o n1 k with j | ⟨nb, e, j⟩
      · exact .inl j
      · exact .inr ⟨fun m => nb (x.bad' a m), e, j⟩
    · exact .inr ⟨nb, ⟨kvs, e⟩, ob, (y.kp a _ n1 k).exact (.inl fun _ z => by cases z)⟩
  new := fun a m => by
    rcases y.new a m with q | q
    · exact x.new a q
    · by_cases ha : a ∈ C.ι
      · exact .inl ha
      · cases e : C.H a with
        | none => exact .inr rfl
        | some o => exact absurd q (x.kp a o ha e).nix
  pre := y.pre.trans x.pre
  le := x.le
  le' := y.le'
theorem Ext.weak {b b' : Nat} {C C' : RC} (x : Ext b C C') (h : b' ≤ b) : Ext b' C C' where
  w := x.w
  K := x.K
  bad := x.bad
  bad' := x.bad'
  kp := x.kp
  new := x.new
  pre := by
    have e := congrArg (List.take b') x.pre
    rw [List.take_take, List.take_take, Nat.min_eq_left h] at e
    exact e
  le := Nat.le_trans h x.le
  le' := Nat.le_trans h x.le'
/-- an address of the store carries no tuple and is not locked -/
theorem RepO.kind {C : RC} {a : Addr} {o : MO} (r : RepO C a o) : ∃ u, C.H a = some u ∧ (∀ xs, u ≠ .tup xs) ∧ (∀ ob x, u ≠ .frz ob x) ∧ (∀ y, u ≠ .own y) ∧ ∀ fs, u ≠ .xd fs := by
  cases o with
  | lst xs => obtain ⟨vs, h, _⟩ := r; exact ⟨_, h, by simp, by simp, by simp, by simp⟩
  | dct ks ds => obtain ⟨vs, h, _⟩ := r; exact ⟨_, h, by simp, by simp, by simp, by simp⟩
  | dcT ks ds => obtain ⟨_, _, _, _, _, ob, es, ep, ps, us, kvs, vs, h, _⟩ := r; exact ⟨_, h, by simp, by simp, by simp, by simp⟩
  | obj c fs ds => obtain ⟨dx, vs, h, _⟩ := r; exact ⟨_, h, by simp, by simp, by simp, by simp⟩
theorem RepS.kind {C : RC} {S : Sto} (r : RepS C S) {a : Addr} (h : a ∈ C.ι) : ∃ u, C.H a = some u ∧ (∀ xs, u ≠ .tup xs) ∧ (∀ ob x, u ≠ .frz ob x) ∧ (∀ y, u ≠ .own y) ∧ ∀ fs, u ≠ .xd fs := by
  obtain ⟨n, hn⟩ := List.mem_iff_getElem?.mp h
  have hl : n < S.length := by rw [← r.len]; exact (List.getElem?_eq_some_iff.mp hn).1
  exact (r.ob n S[n] a (List.getElem?_eq_getElem hl) hn).kind
mutual
def refsB (b : Nat) : MV → Bool
  | .ref n => decide (n < b)
  | .tup xs => refsBs b xs
  | .lst xs => refsBs b xs
  | .dct _ vs => refsBs b vs
  | .dcT ks vs => refsBs b ks && refsBs b vs
  | .obj _ _ vs => refsBs b vs
  | .kls vs => refsBs b vs
  | _ => true
def refsBs (b : Nat) : List MV → Bool
  | [] => true
  | x :: xs => refsB b x && refsBs b xs
end
theorem Ext.seqT {b : Nat} {C C' : RC} {S : Sto} (x : Ext b C C') (r : RepS C S) {a : Addr} {vs : List V} (h : SqT C.K C.H a vs) : SqT C'.K C'.H a vs := by
  rw [x.K]
  have na : ∀ {u}, C.H a = some u → ((∃ xs, u = .tup xs) ∨ ∃ ob y, u = .frz ob y) → a ∉ C.ι := fun {u} e k m => by
    obtain ⟨u', e', k1, k2, _⟩ := r.kind m
    rw [e] at e'; cases e'
    rcases k with ⟨xs, k⟩ | ⟨ob, y, k⟩
    · exact k1 _ k
    · exact k2 _ _ k
  rcases h with (k | ⟨ob, k⟩) | k
  · exact .inl (.inl ((x.kp _ _ (na k (.inl ⟨_, rfl⟩)) k).exact (.inl fun _ z => by cases z)))
  · exact .inl (.inr ⟨ob, (x.kp _ _ (na k (.inr ⟨_, _, rfl⟩)) k).exact (.inl fun _ z => by cases z)⟩)
  · exact .inr k
theorem Ext.out {b : Nat} {C C' : RC} (x : Ext b C C') {a : Addr} {u : HO} (n : Froz C a) (h : C.H a = some u) : Froz C' a := by
  refine ⟨fun m => ?_, fun m => ?_⟩
  rotate_left
  · rcases x.bad a m with q | q | q
    · exact n.2 q
    · exact n.1 q
    · rw [h] at q; cases q
  rcases x.new a m with q | q
  · exact n.1 q
  · rw [h] at q; cases q
theorem Ext.ref {b : Nat} {C C' : RC} (x : Ext b C C') {n : Nat} {a : Addr} (hn : n < b) (h : C.ι[n]? = some a) : C'.ι[n]? = some a := by
  have e := congrArg (fun l => l[n]?) x.pre
  simp only [List.getElem?_take_of_lt hn] at e
  rw [e]; exact h
/-- what data needs to stay -/
structure Tr (b : Nat) (C C' : RC) : Prop where
  w : C'.w = C.w
  K : C'.K = C.K
  seqT : ∀ a vs, SqT C.K C.H a vs → SqT C'.K C'.H a vs
  froz : ∀ a u, Froz C a → C.H a = some u → Froz C' a ∧ Kp C C' a u
  frz : ∀ a o u, C.H a = some (.frz o u) → C'.H a = some (.frz o u)
  ref : ∀ n a, n < b → C.ι[n]? = some a → C'.ι[n]? = some a
theorem Ext.tr {b : Nat} {C C' : RC} {S : Sto} (x : Ext b C C') (r : RepS C S) : Tr b C C' where
  w := x.w
  K := x.K
  seqT := fun a vs h => x.seqT r h
  froz := fun a u n h => ⟨x.out n h, x.kp _ _ n.1 h⟩
  frz := fun a o u q => (x.kp _ _ (fun m => by
    obtain ⟨u', e', _, k2, _⟩ := r.kind m
    rw [q] at e'; cases e'
    exact k2 _ _ rfl) q).exact (.inl fun _ z => by cases z)
  ref := fun n a hn h => x.ref hn h
mutual
theorem RepV.tr {b : Nat} {C C' : RC} (x : Tr b C C') : ∀ (d : MV) (v : V), refsB b d = true → RepV C d v → RepV C' d v
  | .non, v, _, h => by rw [RepV] at h ⊢; exact h
  | .bl _, v, _, h => by rw [RepV] at h ⊢; exact h
  | .int _, v, _, h => by rw [RepV] at h ⊢; exact h
  | .str _, v, _, h => by rw [RepV] at h ⊢; exact h
  | .tup xs, v, hb, h => by
    rw [RepV] at h ⊢
    obtain ⟨a, vs, e, q, t⟩ := h
    exact ⟨a, vs, e, x.seqT _ _ q, RepVs.tr x xs vs (by simpa [refsB] using hb) t⟩
  | .lst xs, v, hb, h => by
    rw [RepV] at h ⊢
    obtain ⟨a, vs, e, n, q, t⟩ := h
    exact ⟨a, vs, e, (x.froz _ _ n q).1, (x.froz _ _ n q).2.exact (.inl fun _ z => by cases z), RepVs.tr x xs vs (by simpa [refsB] using hb) t⟩
  | .kls xs, v, hb, h => by
    rw [RepV] at h ⊢
    obtain ⟨a, vs, e, q, t⟩ := h
    refine ⟨a, vs, e, ?_, RepVs.tr x xs vs (by simpa [refsB] using hb) t⟩
    rcases q with ⟨o, q⟩ | q
    · exact .inl ⟨o, x.frz _ _ _ q⟩
    · exact .inr (by rw [x.K]; exact q)
  | .dct ks ds, v, hb, h => by
    rw [RepV] at h ⊢
    obtain ⟨a, vs, e, n, q, l, nd, t⟩ := h
    have t' := RepVs.tr x ds vs (by simpa [refsB] using hb) t
    rcases q with q | ⟨o, q⟩
    · rcases (x.froz _ _ n q).2 with k | ⟨_, _, ob, k⟩
      · exact ⟨a, vs, e, (x.froz _ _ n q).1, .inl k, l, nd, t'⟩
      · exact ⟨a, vs, e, (x.froz _ _ n q).1, .inr ⟨ob, k⟩, l, nd, t'⟩
    · exact ⟨a, vs, e, (x.froz _ _ n q).1, .inr ⟨o, (x.froz _ _ n q).2.exact (.inl fun _ z => by cases z)⟩, l, nd, t'⟩
  | .dcT ks ds, v, hb, h => by
    rw [RepV] at h ⊢
    obtain ⟨a, e, n, sm, ko, nd, l, z, ob, es, ep, ps, us, kvs, vs, q, ex, hd, he, hk, tk, rv, t⟩ := h
    have hb' : refsBs b ks = true ∧ refsBs b ds = true := by simpa [refsB] using hb
    refine ⟨a, e, (x.froz _ _ n q).1, sm, ko, nd, l, z, ob, es, ep, ps, us, kvs, vs, (x.froz _ _ n q).2.exact (.inl fun _ z => by cases z), ex, hd, ?_, hk, RepVs.tr x ks kvs hb'.1 tk, rv, RepVs.tr x ds vs hb'.2 t⟩
    rw [x.w]; exact he
  | .obj c fs ds, v, hb, h => by
    rw [RepV] at h ⊢
    obtain ⟨a, dx, vs, e, n, q, l, t⟩ := h
    refine ⟨a, dx, vs, e, (x.froz _ _ n q).1, ?_, l, RepVs.tr x ds vs (by simpa [refsB] using hb) t⟩
    rw [x.K]; exact (x.froz _ _ n q).2.exact (.inl fun _ z => by cases z)
  | .ref n, v, hb, h => by
    rw [RepV] at h ⊢
    obtain ⟨a, e, q⟩ := h
    exact ⟨a, e, x.ref _ _ (by simpa [refsB] using hb) q⟩
theorem RepVs.tr {b : Nat} {C C' : RC} (x : Tr b C C') : ∀ (ds : List MV) (vs : List V), refsBs b ds = true → RepVs C ds vs → RepVs C' ds vs
  | [], vs, _, h => by rw [h.nil_inv]; exact .nil
  | d :: ds, vs, hb, h => by
    obtain ⟨v, vr, rfl, h1, h2⟩ := h.cons_inv
    have hb' : refsB b d = true ∧ refsBs b ds = true := by simpa [refsBs] using hb
    exact .cons (RepV.tr x d v hb'.1 h1) (RepVs.tr x ds vr hb'.2 h2)
end
theorem RepV.ext {b : Nat} {C C' : RC} {S : Sto} (x : Ext b C C') (r : RepS C S) (d : MV) (v : V) (hb : refsB b d = true) (h : RepV C d v) : RepV C' d v := RepV.tr (x.tr r) d v hb h
theorem RepVs.ext {b : Nat} {C C' : RC} {S : Sto} (x : Ext b C C') (r : RepS C S) (d : List MV) (v : List V) (hb : refsBs b d = true) (h : RepVs C d v) : RepVs C' d v := RepVs.tr (x.tr r) d v hb h
mutual
theorem RepV.refs {C : RC} : ∀ (d : MV) (v : V), RepV C d v → refsB C.ι.length d = true
  | .non, v, h => rfl
  | .bl _, v, h => rfl
  | .int _, v, h => rfl
  | .str _, v, h => rfl
  | .tup xs, v, h => by
    rw [RepV] at h; obtain ⟨a, vs, e, q, t⟩ := h
    rw [refsB]; exact RepVs.refs xs vs t
  | .lst xs, v, h => by
    rw [RepV] at h; obtain ⟨a, vs, e, n, q, t⟩ := h
    rw [refsB]; exact RepVs.refs xs vs t
  | .kls xs, v, h => by
    rw [RepV] at h; obtain ⟨a, vs, e, q, t⟩ := h
    rw [refsB]; exact RepVs.refs xs vs t
  | .dct ks ds, v, h => by
    rw [RepV] at h; obtain ⟨a, vs, e, n, q, l, nd, t⟩ := h
    rw [refsB]; exact RepVs.refs ds vs t
  | .dcT ks ds, v, h => by
    rw [RepV] at h
    obtain ⟨a, e, n, sm, ko, nd, l, z, ob, es, ep, ps, us, kvs, vs, q, ex, hd, he, hk, tk, rv, t⟩ := h
    rw [refsB, RepVs.refs ks kvs tk, RepVs.refs ds vs t]; rfl
  | .obj c fs ds, v, h => by
    rw [RepV] at h
    obtain ⟨a, dx, vs, e, n, q, l, t⟩ := h
    rw [refsB]; exact RepVs.refs ds vs t
  | .ref n, v, h => by
    rw [RepV] at h
    obtain ⟨a, e, q⟩ := h
    rw [refsB]; exact decide_eq_true (List.getElem?_eq_some_iff.mp q).1
theorem RepVs.refs {C : RC} : ∀ (ds : List MV) (vs : List V), RepVs C ds vs → refsBs C.ι.length ds = true
  | [], vs, _ => rfl
  | d :: ds, vs, h => by
    obtain ⟨v, vr, rfl, h1, h2⟩ := h.cons_inv
    rw [refsBs, RepV.refs d v h1, RepVs.refs ds vr h2]; rfl
end
/-- nothing of the store goes -/
abbrev Grow (C C' : RC) : Prop := Ext C.ι.length C C'
theorem Grow.refl {C : RC} : Grow C C := Ext.refl (Nat.le_refl _)
theorem Ext.grow {b : Nat} {C C' : RC} (x : Grow C C') (h : b ≤ C.ι.length) : Ext b C C' := x.weak h
theorem Grow.trans {C C1 C2 : RC} (x : Grow C C1) (y : Grow C1 C2) : Grow C C2 := Ext.trans x (y.weak x.le')
theorem RepV.grow {C C' : RC} {S : Sto} (x : Grow C C') (r : RepS C S) {d : MV} {v : V} (h : RepV C d v) : RepV C' d v := RepV.ext x r d v (RepV.refs d v h) h
theorem RepVs.grow {C C' : RC} {S : Sto} (x : Grow C C') (r : RepS C S) {ds : List MV} {vs : List V} (h : RepVs C ds vs) : RepVs C' ds vs := RepVs.ext x r ds vs (RepVs.refs ds vs h) h
/-- the slots -/
def EnvR (C : RC) (ρ : Ev) (σ : L2.St) : Prop := ∀ (i : Nat) (d : MV), ρ[i]? = some (some d) → ∃ v, σ[i]? = some (some v) ∧ RepV C d v
theorem EnvR.grow {C C' : RC} {S : Sto} {ρ : Ev} {σ : L2.St} (h : EnvR C ρ σ) (x : Grow C C') (r : RepS C S) : EnvR C' ρ σ := fun i d e => by
  obtain ⟨v, e1, q⟩ := h i d e
  exact ⟨v, e1, q.grow x r⟩
theorem EnvR.set {C : RC} {ρ : Ev} {σ : L2.St} (h : EnvR C ρ σ) {i : Nat} {d : MV} {v : V} (hi : ρ.length = σ.length) (q : RepV C d v) : EnvR C (ρ.set i (some d)) (σ.set i (some v)) := fun j e q' => by
  by_cases hj : j = i
  · subst hj
    by_cases hl : j < ρ.length
    · rw [List.getElem?_set_self hl] at q'
      cases q'
      exact ⟨v, by rw [List.getElem?_set_self (by omega)], q⟩
    · rw [List.getElem?_eq_none (by simpa using hl)] at q'; cases q'
  · rw [List.getElem?_set_ne (Ne.symm hj)] at q' ⊢
    exact h j e q'
end Mi
set_option Elab.async false
set_option linter.all false
set_option maxRecDepth 100000
set_option maxHeartbeats 2000000
namespace Mi
open PySem PySem.Spec PyProof.Rows L2
theorem RepO.grow {C C' : RC} {S : Sto} {a : Addr} {o : MO} (x : Grow C C') (r : RepS C S) (e : C'.H a = C.H a) (h : RepO C a o) : RepO C' a o := by
  cases o with
  | lst xs => obtain ⟨vs, q, t⟩ := h; exact ⟨vs, e.trans q, t.grow x r⟩
  | dct ks ds => obtain ⟨vs, q, l, nd, t⟩ := h; exact ⟨vs, e.trans q, l, nd, t.grow x r⟩
  | dcT ks ds =>
    obtain ⟨sm, ko, nd, l, z, ob, es, ep, ps, us, kvs, vs, q, ex, hd, he, hk, tk, rv, t⟩ := h
    exact ⟨sm, ko, nd, l, z, ob, es, ep, ps, us, kvs, vs, e.trans q, ex, hd, by rw [x.w]; exact he, hk, tk.grow x r, rv, t.grow x r⟩
  | obj c fs ds => obtain ⟨dx, vs, q, l, t⟩ := h; exact ⟨dx, vs, by rw [x.K]; exact e.trans q, l, t.grow x r⟩
/-- a new object, not of the store -/
def RC.put (C : RC) (p : Addr) (o : HO) : RC := { C with H := upd C.H p o }
theorem Grow.put {C : RC} {p : Addr} {o : HO} (h : C.H p = none) : Grow C (C.put p o) := by
  refine ⟨rfl, rfl, fun _ h => .inl h, fun _ h => h, fun a u _ e => ?_, fun a m => .inl m, rfl, Nat.le_refl _, Nat.le_refl _⟩
  refine .inl (show upd C.H p o a = some u from ?_)
  rw [upd_ne (ne_of_none e h)]; exact e
theorem RepS.put {C : RC} {S : Sto} {p : Addr} {o : HO} (r : RepS C S) (h : C.H p = none) : RepS (C.put p o) S := by
  refine ⟨r.len, r.nd, fun a m => ⟨(r.bad a m).1, ?_⟩, fun n mo a e1 e2 => ?_⟩
  · show upd C.H p o a ≠ none
    by_cases q : a = p
    · subst q; exact absurd h (r.bad a m).2
    · rw [upd_ne q]; exact (r.bad a m).2
  · have ro := r.ob n mo a e1 e2
    refine ro.grow (Grow.put h) r ?_
    obtain ⟨u, hu, _⟩ := ro.kind
    show upd C.H p o a = C.H a
    rw [upd_ne (ne_of_none hu h)]
theorem Froz.put {C : RC} {S : Sto} {p : Addr} {o : HO} (r : RepS C S) (h : C.H p = none) : Froz (C.put p o) p := by
  refine ⟨fun m => ?_, fun m => (r.bad p m).2 h⟩
  obtain ⟨u, hu, _⟩ := r.kind (show p ∈ C.ι from m)
  rw [h] at hu; cases hu
theorem put_same {C : RC} {p : Addr} {o : HO} : (C.put p o).H p = some o := upd_same
/-- a new cell of the store -/
def RC.cell (C : RC) (p : Addr) (o : HO) : RC := { C with H := upd C.H p o, ι := C.ι ++ [p] }
theorem Grow.cell {C : RC} {p : Addr} {o : HO} (h : C.H p = none) : Grow C (C.cell p o) := by
  refine ⟨rfl, rfl, fun _ h => .inl h, fun _ h => h, fun a u _ e => ?_, fun a m => ?_, by simp [RC.cell], Nat.le_refl _, by simp [RC.cell]⟩
  · refine .inl (show upd C.H p o a = some u from ?_)
    rw [upd_ne (ne_of_none e h)]; exact e
  · rcases List.mem_append.mp (show a ∈ C.ι ++ [p] from m) with m | m
    · exact .inl m
    · have e : a = p := by simpa using m
      subst e; exact .inr h
theorem RepS.notin {C : RC} {S : Sto} {p : Addr} (r : RepS C S) (h : C.H p = none) : p ∉ C.ι := fun m => by
  obtain ⟨u, hu, _⟩ := r.kind m
  rw [h] at hu; cases hu
theorem RepS.cell {C : RC} {S : Sto} {p : Addr} {o : HO} {mo : MO} (r : RepS C S) (h : C.H p = none) (q : RepO (C.cell p o) p mo) : RepS (C.cell p o) (S ++ [mo]) := by
  refine ⟨by simp [RC.cell, r.len], ?_, fun a m => ⟨fun m2 => ?_, ?_⟩, fun n mo' a e1 e2 => ?_⟩
  · show (C.ι ++ [p]).Nodup
    rw [List.nodup_append]
    refine ⟨r.nd, by simp, fun a ha b hb => ?_⟩
    have e : b = p := by simpa using hb
    subst e
    intro e; subst e
    exact r.notin h ha
  · rcases List.mem_append.mp (show a ∈ C.ι ++ [p] from m2) with m2 | m2
    · exact (r.bad a m).1 m2
    · have e : a = p := by simpa using m2
      subst e; exact (r.bad a m).2 h
  · show upd C.H p o a ≠ none
    by_cases z : a = p
    · subst z; exact absurd h (r.bad a m).2
    · rw [upd_ne z]; exact (r.bad a m).2
  · have e2 : (C.ι ++ [p])[n]? = some a := e2
    by_cases hn : n < S.length
    · rw [List.getElem?_append_left hn] at e1
      rw [List.getElem?_append_left (by rw [r.len]; exact hn)] at e2
      have ro := r.ob n mo' a e1 e2
      refine ro.grow (Grow.cell h) r ?_
      obtain ⟨u, hu, _⟩ := ro.kind
      show upd C.H p o a = C.H a
      rw [upd_ne (ne_of_none hu h)]
    · rw [List.getElem?_append_right (by omega)] at e1
      rw [List.getElem?_append_right (by rw [r.len]; omega), r.len] at e2
      cases hz : n - S.length with
      | zero =>
        rw [hz] at e1 e2
        simp at e1 e2
        subst e1; subst e2
        exact q
      | succ k => rw [hz] at e1; simp at e1
theorem cell_same {C : RC} {p : Addr} {o : HO} : (C.cell p o).H p = some o := upd_same
theorem cell_ref {C : RC} {S : Sto} {p : Addr} {o : HO} (r : RepS C S) : RepV (C.cell p o) (.ref S.length) (.ref p) := by
  rw [RepV]
  exact ⟨p, rfl, by simp [RC.cell, ← r.len]⟩
/-- a cell of the store is written -/
theorem Grow.write {C : RC} {a : Addr} {o : HO} (h : a ∈ C.ι) : Grow C (C.put a o) := by
  refine ⟨rfl, rfl, fun _ h => .inl h, fun _ h => h, fun b u n e => ?_, fun b m => .inl m, rfl, Nat.le_refl _, Nat.le_refl _⟩
  refine .inl (show upd C.H a o b = some u from ?_)
  rw [upd_ne (fun z => n (by rw [z]; exact h))]; exact e
theorem RepS.write {C : RC} {S : Sto} {n : Nat} {a : Addr} {o : HO} {mo : MO} (r : RepS C S) (h : C.ι[n]? = some a) (q : RepO (C.put a o) a mo) : RepS (C.put a o) (S.set n mo) := by
  have ha : a ∈ C.ι := List.mem_of_getElem? h
  refine ⟨by simp [RC.put, r.len], r.nd, fun b m => ⟨(r.bad b m).1, ?_⟩, fun k mo' b e1 e2 => ?_⟩
  · show upd C.H a o b ≠ none
    by_cases z : b = a
    · subst z; exact absurd ha (r.bad b m).1
    · rw [upd_ne z]; exact (r.bad b m).2
  · by_cases hk : k = n
    · subst hk
      have e2 : C.ι[k]? = some b := e2
      rw [h] at e2; cases e2
      have hl : k < S.length := by rw [← r.len]; exact (List.getElem?_eq_some_iff.mp h).1
      rw [List.getElem?_set_self hl] at e1
      cases e1
      exact q
    · rw [List.getElem?_set_ne (Ne.symm hk)] at e1
      have ro := r.ob k mo' b e1 e2
      refine ro.grow (Grow.write ha) r ?_
      show upd C.H a o b = C.H b
      refine upd_ne fun z => hk ?_
      subst z
      exact (List.getElem_inj r.nd).mp ((List.getElem?_eq_some_iff.mp e2).2.trans (List.getElem?_eq_some_iff.mp h).2.symm) |> fun e => by exact e
inductive R (α : Type) where
  | ok (a : α) (S : Sto)
  | exc (c : Str) (d : MV) (S : Sto)
  | stk
def R.bind {α β : Type} (r : R α) (f : α → Sto → R β) : R β := match r with
  | .ok a S => f a S
  | .exc c d S => .exc c d S
  | .stk => .stk
@[simp] theorem R.bind_ok {α β : Type} (a : α) (S : Sto) (f : α → Sto → R β) : (R.ok a S).bind f = f a S := rfl
@[simp] theorem R.bind_exc {α β : Type} (c : Str) (d : MV) (S : Sto) (f : α → Sto → R β) : (R.exc c d S : R α).bind f = .exc c d S := rfl
@[simp] theorem R.bind_stk {α β : Type} (f : α → Sto → R β) : (R.stk : R α).bind f = .stk := rfl
/-- an own exception: its class, and its one field's value (or none) -/
def ExcR (C : RC) (c : Str) (d : MV) (cls : Value) (dx : Option Addr) : Prop :=
  cls = .ref (He.ga C.K c) ∧ ((d = .non ∧ dx = none) ∨ ∃ a f d' v, d = .obj c [f] [d'] ∧ dx = some a ∧ C.H a = some (.xd [(f, v)]) ∧ RepV C d' v)
theorem ExcR.ext {b : Nat} {C C' : RC} {S : Sto} {c : Str} {d : MV} {cls : Value} {dx : Option Addr} (h : ExcR C c d cls dx) (x : Ext b C C') (r : RepS C S) (hb : refsB b d = true) : ExcR C' c d cls dx := by
  refine ⟨by rw [x.K]; exact h.1, ?_⟩
  rcases h.2 with h | ⟨a, f, d', v, ed, e, q, t⟩
  · exact .inl h
  · refine .inr ⟨a, f, d', v, ed, e, (x.kp _ _ (fun m => ?_) q).exact (.inl fun _ z => by cases z), RepV.ext x r d' v (by subst ed; simpa [refsB, refsBs] using hb) t⟩
    obtain ⟨u, hu, _, _, _, k⟩ := r.kind m
    rw [q] at hu; cases hu
    exact k _ rfl
/-- what is wanted of a result -/
def Wants {α : Type} (W : WX) (σ : L2.St) (C : RC) (r : R α) (Q : α → Sto → RC → Prop) : Prop := match r with
  | .ok a S => ∀ C', Grow C C' → RepS C' S → Q a S C'
  | .exc c d S => ∀ C' cls dx, Grow C C' → RepS C' S → ExcR C' c d cls dx → W cls dx σ C'.H
  | .stk => False
theorem Wants.bind {α β : Type} {W : WX} {σ : L2.St} {C : RC} {r : R α} {f : α → Sto → R β} {Q : β → Sto → RC → Prop} (h : Wants W σ C (r.bind f) Q) :
    Wants W σ C r (fun a S1 C1 => Wants W σ C1 (f a S1) Q ∧ Grow C C1) := by
  cases r with
  | ok a S =>
    intro C1 g r1
    refine ⟨?_, g⟩
    have h : Wants W σ C (f a S) Q := h
    revert h
    cases f a S with
    | ok b S2 => exact fun h C2 g2 r2 => h C2 (g.trans g2) r2
    | exc c d S2 => exact fun h C2 cls dx g2 r2 e => h C2 cls dx (g.trans g2) r2 e
    | stk => exact fun h => h
  | exc c d S => exact h
  | stk => exact h
theorem Wants.mono {α : Type} {W : WX} {σ : L2.St} {C : RC} {r : R α} {Q Q' : α → Sto → RC → Prop} (h : Wants W σ C r Q) (k : ∀ a S C', Grow C C' → RepS C' S → r = .ok a S → Q a S C' → Q' a S C') : Wants W σ C r Q' := by
  cases r with
  | ok a S => exact fun C' g r => k a S C' g r rfl (h C' g r)
  | exc c d S => exact h
  | stk => exact h
/-- the state of a walk: data for the slots, the store -/
structure Sv (X : Cx) (ρ : Ev) (σ : L2.St) (S : Sto) (C : RC) : Prop where
  w : C.w = X.w
  K : C.K = X.K
  rs : RepS C S
  ev : EnvR C ρ σ
  ln : ρ.length = σ.length
theorem Sv.grow {X : Cx} {ρ : Ev} {σ : L2.St} {S S' : Sto} {C C' : RC} (s : Sv X ρ σ S C) (g : Grow C C') (r : RepS C' S') : Sv X ρ σ S' C' :=
  ⟨g.w.trans s.w, g.K.trans s.K, r, s.ev.grow g s.rs, s.ln⟩
/-- readings: of an expression's value, a test, an argument list -/
def tE (X : Cx) (W : WX) (m : Ev → Sto → R MV) : TE := fun σ H Q => ∃ C ρ S, C.H = H ∧ Sv X ρ σ S C ∧ Wants W σ C (m ρ S) (fun d _ C' => ∀ v, RepV C' d v → Q v C'.H)
def tT (X : Cx) (W : WX) (m : Ev → Sto → R Bool) : TT := fun σ H Q => ∃ C ρ S, C.H = H ∧ Sv X ρ σ S C ∧ Wants W σ C (m ρ S) (fun b _ C' => Q b C'.H)
def tA (X : Cx) (W : WX) (m : Ev → Sto → R (List MV)) : TA := fun σ H Q => ∃ C ρ S, C.H = H ∧ Sv X ρ σ S C ∧ Wants W σ C (m ρ S) (fun ds _ C' => ∀ vs, RepVs C' ds vs → Q vs C'.H)
theorem _root_.L2.PE.imp {X : Cx} {e : Expr} {t t' : TE} (h : PE X e t) (k : ∀ σ H Q, t' σ H Q → t σ H Q) : PE X e t' := ⟨fun pins s σ H Q I q => h.run pins s σ H Q I (k σ H Q q)⟩
theorem _root_.L2.PT.imp {X : Cx} {e : Expr} {t t' : TT} (h : PT X e t) (k : ∀ σ H Q, t' σ H Q → t σ H Q) : PT X e t' := ⟨fun pins s σ H Q I q => h.run pins s σ H Q I (k σ H Q q)⟩
theorem _root_.L2.PW.imp {X : Cx} {e : Expr} {t t' : TT} (h : PW X e t) (k : ∀ σ H Q, t' σ H Q → t σ H Q) : PW X e t' := ⟨fun wh pins s σ H Q I q => h.run wh pins s σ H Q I (k σ H Q q)⟩
theorem _root_.L2.PA.imp {X : Cx} {es : List Expr} {t t' : TA} (h : PA X es t) (k : ∀ σ H Q, t' σ H Q → t σ H Q) : PA X es t' := ⟨fun pos pins s σ H Q I q => h.run pos pins s σ H Q I (k σ H Q q)⟩
theorem _root_.L2.PS.imp {X : Cx} {st : Stmt} {t t' : TS} (h : PS X st t) (k : ∀ D σ H, t' D σ H → t D σ H) : PS X st t' := ⟨fun pins s σ H D I q => h.run pins s σ H D I (k D σ H q)⟩
theorem _root_.L2.PSs.imp {X : Cx} {st : List Stmt} {t t' : TS} (h : PSs X st t) (k : ∀ D σ H, t' D σ H → t D σ H) : PSs X st t' := ⟨fun pins s σ H D I q => h.run pins s σ H D I (k D σ H q)⟩
/-- the step of a bind: behind the first part -/
theorem tE.bind {X : Cx} {W : WX} {m : Ev → Sto → R MV} {β : Type} {f : MV → Sto → R β} {σ : L2.St} {C : RC} {ρ : Ev} {S : Sto} {Q : β → Sto → RC → Prop} {Q1 : VK} (s : Sv X ρ σ S C) (h : Wants W σ C ((m ρ S).bind f) Q)
    (k : ∀ d S1 C1 v, Sv X ρ σ S1 C1 → Grow C C1 → RepV C1 d v → Wants W σ C1 (f d S1) Q → Q1 v C1.H) : tE X W m σ C.H Q1 :=
  ⟨C, ρ, S, rfl, s, h.bind.mono fun d S1 C1 g r _ q v hv => k d S1 C1 v (s.grow g r) g hv q.1⟩
theorem tT.bind {X : Cx} {W : WX} {m : Ev → Sto → R Bool} {β : Type} {f : Bool → Sto → R β} {σ : L2.St} {C : RC} {ρ : Ev} {S : Sto} {Q : β → Sto → RC → Prop} {Q1 : Bool → Hp → Prop} (s : Sv X ρ σ S C) (h : Wants W σ C ((m ρ S).bind f) Q)
    (k : ∀ b S1 C1, Sv X ρ σ S1 C1 → Grow C C1 → Wants W σ C1 (f b S1) Q → Q1 b C1.H) : tT X W m σ C.H Q1 :=
  ⟨C, ρ, S, rfl, s, h.bind.mono fun d S1 C1 g r _ q => k d S1 C1 (s.grow g r) g q.1⟩
theorem tA.bind {X : Cx} {W : WX} {m : Ev → Sto → R (List MV)} {β : Type} {f : List MV → Sto → R β} {σ : L2.St} {C : RC} {ρ : Ev} {S : Sto} {Q : β → Sto → RC → Prop} {Q1 : List V → Hp → Prop} (s : Sv X ρ σ S C) (h : Wants W σ C ((m ρ S).bind f) Q)
    (k : ∀ ds S1 C1 vs, Sv X ρ σ S1 C1 → Grow C C1 → RepVs C1 ds vs → Wants W σ C1 (f ds S1) Q → Q1 vs C1.H) : tA X W m σ C.H Q1 :=
  ⟨C, ρ, S, rfl, s, h.bind.mono fun d S1 C1 g r _ q vs hv => k d S1 C1 vs (s.grow g r) g hv q.1⟩
/-- a value told at once -/
theorem Wants.here {α : Type} {W : WX} {σ : L2.St} {C C' : RC} {a : α} {S' : Sto} {Q : α → Sto → RC → Prop} (h : Wants W σ C (.ok a S') Q) (g : Grow C C') (r : RepS C' S') : Q a S' C' := h C' g r
theorem Wants.now {α : Type} {W : WX} {σ : L2.St} {C : RC} {a : α} {S : Sto} {Q : α → Sto → RC → Prop} (h : Wants W σ C (.ok a S) Q) (r : RepS C S) : Q a S C := h C Grow.refl r
end Mi
set_option Elab.async false
set_option linter.all false
set_option maxRecDepth 100000
set_option maxHeartbeats 2000000
namespace Mi
open PySem PySem.Spec PyProof.Rows L2
def lstOf (S : Sto) : MV → Option (List MV)
  | .lst xs => some xs
  | .ref n => match S[n]? with
    | some (.lst xs) => some xs
    | _ => none
  | _ => none
def seqOf (S : Sto) : MV → Option (List MV)
  | .tup xs => some xs
  | .kls xs => some xs
  | d => lstOf S d
theorem lstOf_rep {C : RC} {S : Sto} {d : MV} {v : V} {xs : List MV} (r : RepS C S) (h : RepV C d v) (e : lstOf S d = some xs) : ∃ a vs, v = .ref a ∧ C.H a = some (.lst vs) ∧ RepVs C xs vs := by
  cases d with
  | lst ys =>
    rw [lstOf] at e; cases e
    rw [RepV] at h
    obtain ⟨a, vs, e, _, q, t⟩ := h
    exact ⟨a, vs, e, q, t⟩
  | ref n =>
    rw [RepV] at h
    obtain ⟨a, e1, e2⟩ := h
    rw [lstOf] at e
    cases q : S[n]? with
    | none => simp [q] at e
    | some o =>
      rw [q] at e
      cases o with
      | lst ys =>
        cases e
        obtain ⟨vs, h1, h2⟩ := r.ob n _ a q e2
        exact ⟨a, vs, e1, h1, h2⟩
      | _ => cases e
  | _ => cases e
theorem seqOf_rep {C : RC} {S : Sto} {d : MV} {v : V} {xs : List MV} (r : RepS C S) (h : RepV C d v) (e : seqOf S d = some xs) : ∃ a vs, v = .ref a ∧ (SqL C.K C.H a vs ∨ SqT C.K C.H a vs) ∧ RepVs C xs vs := by
  cases d with
  | tup ys =>
    rw [seqOf] at e; cases e
    rw [RepV] at h
    obtain ⟨a, vs, e, q, t⟩ := h
    exact ⟨a, vs, e, .inr q, t⟩
  | kls ys =>
    rw [seqOf] at e; cases e
    rw [RepV] at h
    obtain ⟨a, vs, e, q, t⟩ := h
    refine ⟨a, vs, e, .inl ?_, t⟩
    rcases q with ⟨o, q⟩ | q
    · exact .inl (.inr ⟨o, q⟩)
    · exact q.sq _
  | lst ys => obtain ⟨a, vs, e, q, t⟩ := lstOf_rep r h e; exact ⟨a, vs, e, .inl (.of q), t⟩
  | ref n => obtain ⟨a, vs, e, q, t⟩ := lstOf_rep r h e; exact ⟨a, vs, e, .inl (.of q), t⟩
  | _ => cases e
/-- a value op's reading -/
def rOf (X : Cx) (f : MV → MV → Sto → R MV) : R2 := fun x y H Q => ∃ C S d1 d2, C.H = H ∧ C.w = X.w ∧ C.K = X.K ∧ RepS C S ∧ RepV C d1 x ∧ RepV C d2 y ∧
  ∃ a S', f d1 d2 S = .ok a S' ∧ ∀ C', Grow C C' → RepS C' S' → ∀ v, RepV C' a v → Q v C'.H
theorem vInt {C : RC} {i : Int} {v : V} (h : RepV C (.int i) v) : v = .int i := by rw [RepV] at h; exact h
theorem vBl {C : RC} {i : Bool} {v : V} (h : RepV C (.bl i) v) : v = .bl i := by rw [RepV] at h; exact h
theorem vStr {C : RC} {i : Str} {v : V} (h : RepV C (.str i) v) : v = .str i := by rw [RepV] at h; exact h
theorem vNon {C : RC} {v : V} (h : RepV C .non v) : v = .non := by rw [RepV] at h; exact h
theorem repI {C : RC} (i : Int) : RepV C (.int i) (.int i) := by rw [RepV]
theorem repB {C : RC} (i : Bool) : RepV C (.bl i) (.bl i) := by rw [RepV]
theorem repS {C : RC} (i : Str) : RepV C (.str i) (.str i) := by rw [RepV]
theorem repN {C : RC} : RepV C .non .non := by rw [RepV]
theorem repTup {C : RC} {p : Addr} {ds : List MV} {vs : List V} (h : C.H p = some (.tup vs)) (t : RepVs C ds vs) : RepV C (.tup ds) (.ref p) := by
  rw [RepV]; exact ⟨p, vs, rfl, .of h, t⟩
theorem repLst {C : RC} {p : Addr} {ds : List MV} {vs : List V} (n : Froz C p) (h : C.H p = some (.lst vs)) (t : RepVs C ds vs) : RepV C (.lst ds) (.ref p) := by
  rw [RepV]; exact ⟨p, vs, rfl, n, h, t⟩
/-- a new tuple, a new frozen list -/
theorem newTup {C : RC} {S : Sto} {Q : VK} {ds : List MV} {vs : List V} (r : RepS C S) (t : RepVs C ds vs) (q : ∀ C', Grow C C' → RepS C' S → ∀ v, RepV C' (.tup ds) v → Q v C'.H) : ∀ p, C.H p = none → Q (.ref p) (upd C.H p (.tup vs)) := fun p hp =>
  q (C.put p (.tup vs)) (Grow.put hp) (r.put hp) (.ref p) (repTup put_same (t.grow (Grow.put hp) r))
theorem newLst {C : RC} {S : Sto} {Q : VK} {ds : List MV} {vs : List V} (r : RepS C S) (t : RepVs C ds vs) (q : ∀ C', Grow C C' → RepS C' S → ∀ v, RepV C' (.lst ds) v → Q v C'.H) : ∀ p, C.H p = none → Q (.ref p) (upd C.H p (.lst vs)) := fun p hp =>
  q (C.put p (.lst vs)) (Grow.put hp) (r.put hp) (.ref p) (repLst (.put r hp) put_same (t.grow (Grow.put hp) r))
/-- a new list cell -/
theorem newCell {C : RC} {S : Sto} {Q : VK} {ds : List MV} {vs : List V} (r : RepS C S) (t : RepVs C ds vs) (q : ∀ C', Grow C C' → RepS C' (S ++ [.lst ds]) → ∀ v, RepV C' (.ref S.length) v → Q v C'.H) : ∀ p, C.H p = none → Q (.ref p) (upd C.H p (.lst vs)) := fun p hp =>
  q (C.cell p (.lst vs)) (Grow.cell hp) (r.cell hp ⟨vs, cell_same, t.grow (Grow.cell hp) r⟩) (.ref p) (cell_ref r)
def addL (a b : MV) (S : Sto) : R MV := match lstOf S a, lstOf S b with
  | some xs, some ys => if xs.length + ys.length ≤ sizeLine then .ok (.lst (xs ++ ys)) S else .stk
  | _, _ => .stk
def addM : MV → MV → Sto → R MV
  | .int i, .int j, S => .ok (.int (i + j)) S
  | .str x, .str y, S => if x.length + y.length ≤ sizeLine then .ok (.str (x ++ y)) S else .stk
  | .tup xs, .tup ys, S => if xs.length + ys.length ≤ sizeLine then .ok (.tup (xs ++ ys)) S else .stk
  | a, b, S => addL a b S
theorem addL_of {a b : MV} {S S' : Sto} {d : MV} (h : addL a b S = .ok d S') : ∃ xs ys, lstOf S a = some xs ∧ lstOf S b = some ys ∧ xs.length + ys.length ≤ sizeLine ∧ d = .lst (xs ++ ys) ∧ S' = S := by
  unfold addL at h
  cases ha : lstOf S a with
  | none => rw [ha] at h; cases h
  | some xs =>
    cases hb : lstOf S b with
    | none => rw [ha, hb] at h; cases h
    | some ys =>
      rw [ha, hb] at h
      dsimp only at h
      by_cases hl : xs.length + ys.length ≤ sizeLine
      · rw [if_pos hl] at h; cases h; exact ⟨xs, ys, rfl, rfl, hl, rfl, rfl⟩
      · rw [if_neg hl] at h; cases h
theorem addM_cases {a b : MV} {S S' : Sto} {d : MV} (h : addM a b S = .ok d S') : (∃ i j, a = .int i ∧ b = .int j) ∨ (∃ x y, a = .str x ∧ b = .str y) ∨ (∃ x y, a = .tup x ∧ b = .tup y) ∨ addL a b S = .ok d S' := by
  unfold addM at h
  split at h
  · exact .inl ⟨_, _, rfl, rfl⟩
  · exact .inr (.inl ⟨_, _, rfl, rfl⟩)
  · exact .inr (.inr (.inl ⟨_, _, rfl, rfl⟩))
  · exact .inr (.inr (.inr h))
section
variable {X : Cx}
theorem opM_add : OpR X (binaryOp .Add) (rOf X addM) := by
  intro pins s σ H x y v u Q I rx ry rof
  obtain ⟨C, S, d1, d2, rfl, hw, hK, r, h1, h2, a, S', e, q⟩ := rof
  rcases addM_cases e with ⟨i, j, rfl, rfl⟩ | ⟨i, j, rfl, rfl⟩ | ⟨xs, ys, rfl, rfl⟩ | e
  · cases vInt h1; cases vInt h2
    cases e
    exact op_add pins s σ C.H _ _ v u Q I rx ry ⟨i, j, rfl, rfl, q C Grow.refl r _ (repI _)⟩
  · cases vStr h1; cases vStr h2
    simp only [addM] at e
    split at e
    · cases e
      exact op_add_str pins s σ C.H _ _ v u Q I rx ry ⟨i, j, rfl, rfl, by assumption, q C Grow.refl r _ (repS _)⟩
    · cases e
  · rw [RepV] at h1 h2
    obtain ⟨p1, vs1, rfl, q1, t1⟩ := h1
    obtain ⟨p2, vs2, rfl, q2, t2⟩ := h2
    simp only [addM] at e
    split at e
    · rename_i hl
      cases e
      rw [hK] at q1 q2
      have l1 := t1.length
      have l2 := t2.length
      refine op_catA pins s σ C.H _ _ v u Q I rx ry ⟨p1, p2, vs1, vs2, rfl, rfl, q1, q2, by omega, fun z => ?_, fun z1 z2 => ?_, fun z1 z2 => ?_⟩
      · subst z
        have : xs = [] := List.eq_nil_of_length_eq_zero (by simpa using l1)
        subst this
        exact q C Grow.refl r _ (by rw [RepV]; exact ⟨p2, vs2, rfl, by rw [hK]; exact q2, t2⟩)
      · subst z2
        have : ys = [] := List.eq_nil_of_length_eq_zero (by simpa using l2)
        subst this
        exact q C Grow.refl r _ (by rw [RepV]; exact ⟨p1, vs1, rfl, by rw [hK]; exact q1, by simpa using t1⟩)
      · exact newTup r (t1.append t2) q
    · cases e
  · obtain ⟨xs, ys, ha, hb, hl, rfl, rfl⟩ := addL_of e
    obtain ⟨p1, vs1, rfl, q1, t1⟩ := lstOf_rep r h1 ha
    obtain ⟨p2, vs2, rfl, q2, t2⟩ := lstOf_rep r h2 hb
    have l1 := t1.length
    have l2 := t2.length
    exact op_cat pins s σ C.H _ _ v u Q I rx ry ⟨p1, p2, vs1, vs2, rfl, rfl, q1, q2, by omega, newLst r (t1.append t2) q⟩
def subM : MV → MV → Sto → R MV
  | .int i, .int j, S => .ok (.int (i - j)) S
  | _, _, _ => .stk
theorem opM_sub : OpR X (binaryOp .Sub) (rOf X subM) := by
  intro pins s σ H x y v u Q I rx ry rof
  obtain ⟨C, S, d1, d2, rfl, hw, hK, r, h1, h2, a, S', e, q⟩ := rof
  unfold subM at e
  split at e
  · cases vInt h1; cases vInt h2; cases e
    exact op_sub pins s σ C.H _ _ v u Q I rx ry ⟨_, _, rfl, rfl, q C Grow.refl r _ (repI _)⟩
  · cases e
def modM : MV → MV → Sto → R MV
  | .int i, .int j, S => if 0 < j then .ok (.int (i % j)) S else .stk
  | _, _, _ => .stk
theorem opM_mod : OpR X (binaryOp .Mod) (rOf X modM) := by
  intro pins s σ H x y v u Q I rx ry rof
  obtain ⟨C, S, d1, d2, rfl, hw, hK, r, h1, h2, a, S', e, q⟩ := rof
  unfold modM at e
  split at e
  · split at e
    · cases vInt h1; cases vInt h2; cases e
      exact op_mod pins s σ C.H _ _ v u Q I rx ry ⟨_, _, rfl, rfl, by assumption, q C Grow.refl r _ (repI _)⟩
    · cases e
  · cases e
def fdivM : MV → MV → Sto → R MV
  | .int i, .int j, S => if 0 < j ∧ j < 1073741824 then .ok (.int (i / j)) S else .stk
  | _, _, _ => .stk
theorem opM_fdiv : OpR X (binaryOp .FloorDiv) (rOf X fdivM) := by
  intro pins s σ H x y v u Q I rx ry rof
  obtain ⟨C, S, d1, d2, rfl, hw, hK, r, h1, h2, a, S', e, q⟩ := rof
  unfold fdivM at e
  split at e
  · split at e
    · cases vInt h1; cases vInt h2; cases e
      exact op_fdiv pins s σ C.H _ _ v u Q I rx ry ⟨_, _, rfl, rfl, by assumption, q C Grow.refl r _ (repI _)⟩
    · cases e
  · cases e
def powM : MV → MV → Sto → R MV
  | .int i, .int j, S => if 0 ≤ j ∧ j ≤ 1000 ∧ i.natAbs < 1000 then .ok (.int (i ^ j.toNat)) S else .stk
  | _, _, _ => .stk
theorem opM_pow : OpR X (binaryOp .Pow) (rOf X powM) := by
  intro pins s σ H x y v u Q I rx ry rof
  obtain ⟨C, S, d1, d2, rfl, hw, hK, r, h1, h2, a, S', e, q⟩ := rof
  unfold powM at e
  split at e
  · split at e
    · cases vInt h1; cases vInt h2; cases e
      refine op_pow pins s σ C.H _ _ v u Q I rx ry ⟨_, _, rfl, rfl, ⟨by omega, by omega, ?_⟩, q C Grow.refl r _ (repI _)⟩
      exact Nat.lt_trans (by omega : _ < 1000) (by decide)
    · cases e
  · cases e
/-- t * 1 is t -/
theorem tuple_mul1 (l : Addr) (items : Array Value) (n : Nat) (dd : Option Addr) (sl : Array (Option Value)) (u : Tok) :
    Meets (Builtin.«tuple.__mul__» ⟨[.ref l, .int 1 u], []⟩) (fun _ R s => s.heap.get? l = some { cls := .type "tuple", dict := dd, data := .seq items n, slots := sl } ∧
      R (.ok (.ret (Value.ref l))) s) :=
  .of_wp fun prog w A R st hyp => by
    obtain ⟨hp, gs, dr, tk, os⟩ := st
    obtain ⟨hl, h⟩ := hyp
    have f1 := AutoSeq1.idx_int
    wp_walk using AutoSeq1.wpAny_loadPart' hl
    repeat (first
      | (refine wpAny_ite_true (by simp) ?_; wp_walk using AutoSeq1.wpAny_loadPart' hl)
      | (refine wpAny_ite_false (by simp) ?_; wp_walk using AutoSeq1.wpAny_loadPart' hl))
    exact ⟨_, rfl, h⟩
end
end Mi
set_option Elab.async false
set_option linter.all false
set_option maxRecDepth 100000
set_option maxHeartbeats 2000000
namespace Mi
open PySem PySem.Spec PyProof.Rows L2
def repM (xs : List MV) (k : Int) : List MV := (List.replicate k.toNat xs).flatten
def mulM : MV → MV → Sto → R MV
  | .int i, .int j, S => if -(2 ^ 64) < j ∧ j < 2 ^ 64 then .ok (.int (i * j)) S else .stk
  | .tup xs, .int k, S => if xs.isEmpty = false ∧ 1 ≤ k ∧ k ≤ 1000 ∧ xs.length ≤ 1000 then .ok (.tup (repM xs k)) S else .stk
  | d, .int k, S => match lstOf S d with
    | some xs => if 0 ≤ k ∧ k ≤ 1000 ∧ xs.length ≤ 1000 then .ok (.lst (repM xs k)) S else .stk
    | none => .stk
  | _, _, _ => .stk
section
variable {X : Cx}
theorem op_rep1 {pins : List (Addr × Obj)} {s : Shared} {σ : L2.St} {H : Hp} {v u : Value} {Q : VK} {l : Addr} {xs : List V} (I : Inv X pins σ H s) (rx : RelV (.ref l) v) (ry : RelV (.int 1) u) (hT : SqT X.K H l xs) (q : Q (.ref l) H) :
    wpAny (model X.prog X.w) X.A (binaryOp .Mult v u) (EP X pins σ Q) X.xe s := by
  cases rx
  obtain ⟨t, rfl⟩ := ry
  obtain ⟨its, r, ⟨ot, ho, hc, n, hd⟩, hs⟩ := I.tuple hT
  obtain ⟨cls, dd, data, sl⟩ := ot
  simp only at hc hd
  subst hc hd
  exact wpAny_binaryOp_repeat_ref (T := "tuple") (U := "int") (by decide) ⟨_, ho, rfl⟩ (fun s' => typeIs_int s' 1 t) noFill_tuple_mul F.fills_int_mul F.slot_int_rmul repeat_tuple F.slot_int_index.lookup
    (call_meets F.slot_int_rmul (typeIs_int s 1 t) F.entry_int_rmul (F.args_int_rmul_2 _ _) (int_rmul_tuple 1 t l its.toArray n dd sl)
      ⟨ho, rfl, ⟨_, ho, rfl⟩, call_meets F.slot_tuple_mul ⟨_, ho, rfl⟩ F.entry_tuple_mul (F.args_tuple_mul_2 _ _) (tuple_mul1 l its.toArray n dd sl t) ⟨ho, ⟨.ref l, H, I, rfl, q⟩⟩⟩)
theorem repM_one (xs : List MV) : repM xs 1 = xs := by simp [repM]
theorem opM_mul : OpR X (binaryOp .Mult) (rOf X mulM) := by
  intro pins s σ H x y v u Q I rx ry rof
  obtain ⟨C, S, d1, d2, rfl, hw, hK, r, h1, h2, a, S', e, q⟩ := rof
  unfold mulM at e
  split at e
  · split at e
    · cases vInt h1; cases vInt h2; cases e
      exact op_mul pins s σ C.H _ _ v u Q I rx ry ⟨_, _, rfl, rfl, .inr (by assumption), q C Grow.refl r _ (repI _)⟩
    · cases e
  · rename_i xs k
    split at e
    · rename_i hc
      cases e
      cases vInt h2
      obtain ⟨hne, hk1, hk2, hl⟩ := hc
      have h0 := h1
      rw [RepV] at h1
      obtain ⟨p1, vs1, rfl, q1, t1⟩ := h1
      rw [hK] at q1
      have l1 := t1.length
      by_cases hk : k = 1
      · subst hk
        rw [repM_one] at q
        exact op_rep1 I rx ry q1 (q C Grow.refl r _ h0)
      · refine op_repT pins s σ C.H _ _ v u Q I rx ry ⟨p1, k, vs1, rfl, rfl, q1, ?_, by omega, hk2, by omega, newTup r (t1.flatRep k.toNat) q⟩
        intro z; subst z
        have : xs = [] := List.eq_nil_of_length_eq_zero (by simpa using l1)
        subst this; simp at hne
    · cases e
  · rename_i k _ _
    cases ha : lstOf S d1 with
    | none => rw [ha] at e; cases e
    | some xs =>
      rw [ha] at e
      dsimp only at e
      split at e
      · rename_i hc
        obtain ⟨hk1, hk2, hl⟩ := hc
        cases e
        cases vInt h2
        obtain ⟨p1, vs1, rfl, q1, t1⟩ := lstOf_rep r h1 ha
        have l1 := t1.length
        refine op_rep pins s σ C.H _ _ v u Q I rx ry ⟨p1, k, vs1, rfl, rfl, q1, by omega, by omega, ?_, newLst r (t1.flatRep k.toNat) q⟩
        rw [sizeLine_eq]
        have := Nat.mul_le_mul (show vs1.length ≤ 1000 by omega) (show k.toNat ≤ 1000 by omega)
        omega
      · cases e
  · cases e
end
def pdF : Nat → Sto → MV → PyData
  | 0, _, _ => .dict []
  | _ + 1, _, .non => .none
  | _ + 1, _, .bl b => .bool b
  | _ + 1, _, .int i => .int i
  | _ + 1, _, .str x => .str x
  | n + 1, S, .tup xs => .tuple (xs.map (pdF n S))
  | n + 1, S, .lst xs => .list (xs.map (pdF n S))
  | n + 1, S, .ref k => match S[k]? with
    | some (.lst xs) => .list (xs.map (pdF n S))
    | _ => .dict []
  | _ + 1, _, _ => .dict []
theorem pdF_dp {C : RC} {S : Sto} (r : RepS C S) : ∀ (n : Nat) (d : MV) (v : V), RepV C d v → (pdF n S d).canLay0 = true → Dp C.K C.H v (pdF n S d) := by
  intro n
  induction n with
  | zero => intro d v _ h; simp [pdF, PyData.canLay0] at h
  | succ n ih =>
    have all : ∀ (xs : List MV) (vs : List V), RepVs C xs vs → PyData.canLayAll0 (xs.map (pdF n S)) = true → DpAll C.K C.H vs (xs.map (pdF n S)) := by
      intro xs
      induction xs with
      | nil => intro vs h _; rw [h.nil_inv]; exact .nil
      | cons x xs ihx =>
        intro vs h c
        obtain ⟨v, vr, rfl, h1, h2⟩ := h.cons_inv
        rw [List.map_cons] at c ⊢
        have c' : (pdF n S x).canLay0 = true ∧ PyData.canLayAll0 (xs.map (pdF n S)) = true := by simpa [PyData.canLayAll0] using c
        exact .cons (ih x v h1 c'.1) (ihx vr h2 c'.2)
    intro d v h c
    cases d with
    | non => rw [vNon h]; exact .non
    | bl b => rw [vBl h]; exact .bl b
    | int i => rw [vInt h]; exact .int i
    | str x => rw [vStr h]; exact .str x
    | tup xs =>
      rw [RepV] at h
      obtain ⟨a, vs, rfl, q, t⟩ := h
      exact .tup q (all xs vs t (by simpa [pdF, PyData.canLay0] using c))
    | lst xs =>
      rw [RepV] at h
      obtain ⟨a, vs, rfl, _, q, t⟩ := h
      exact .lst (.of q) (all xs vs t (by simpa [pdF, PyData.canLay0] using c))
    | ref k =>
      rw [RepV] at h
      obtain ⟨a, rfl, q⟩ := h
      rw [pdF] at c ⊢
      cases e : S[k]? with
      | none => rw [e] at c; simp [PyData.canLay0] at c
      | some o =>
        rw [e] at c
        cases o with
        | lst xs =>
          obtain ⟨vs, h1, h2⟩ := r.ob k _ a e q
          exact .lst (.of h1) (all xs vs h2 (by simpa [PyData.canLay0] using c))
        | _ => simp [PyData.canLay0] at c
    | _ => simp [pdF, PyData.canLay0] at c
/-- the scalars that == tells apart at once -/
def skind : MV → Nat
  | .non => 0 | .bl _ => 1 | .int _ => 2 | .str _ => 4
  | _ => 100
@[simp] theorem sk_non : skind .non = 0 := rfl
@[simp] theorem sk_bl {b : Bool} : skind (.bl b) = 1 := rfl
@[simp] theorem sk_int {i : Int} : skind (.int i) = 2 := rfl
@[simp] theorem sk_str {x : Str} : skind (.str x) = 4 := rfl
@[simp] theorem sk_tup {x : List MV} : skind (.tup x) = 100 := rfl
@[simp] theorem sk_lst {x : List MV} : skind (.lst x) = 100 := rfl
@[simp] theorem sk_kls {x : List MV} : skind (.kls x) = 100 := rfl
@[simp] theorem sk_ref {n : Nat} : skind (.ref n) = 100 := rfl
@[simp] theorem sk_obj {c : Str} {f : List Str} {x : List MV} : skind (.obj c f x) = 100 := rfl
@[simp] theorem sk_dct {k : List Key} {x : List MV} : skind (.dct k x) = 100 := rfl
@[simp] theorem sk_dcT {k x : List MV} : skind (.dcT k x) = 100 := rfl
/-- all pairs of scalars but a bool beside an int -/
def scalM (a b : MV) : Bool := let n := skind a + skind b; Nat.blt n 10 && !(n == 3)
def seqM : MV → MV → Bool
  | .non, .non => true
  | .int i, .int j => decide (i = j)
  | .bl i, .bl j => decide (i = j)
  | .str i, .str j => decide (i = j)
  | _, _ => false
def eqB (S : Sto) (a b : MV) : Option Bool :=
  if scalM a b then some (seqM a b)
  else if SeqAt.shaped (pdF 8 S a) && SeqAt.shaped (pdF 8 S b) then some (PyData.eqv (pdF 8 S a) (pdF 8 S b)) else none
def eqM (a b : MV) (S : Sto) : R MV := match eqB S a b with
  | some k => .ok (.bl k) S
  | none => .stk
def neM (a b : MV) (S : Sto) : R MV := match eqB S a b with
  | some k => .ok (.bl (!k)) S
  | none => .stk
theorem scal_rep {C : RC} {a b : MV} {x y : V} (h : scalM a b = true) (ha : RepV C a x) (hb : RepV C b y) : scal x y = true ∧ seqM a b = decide (x = y) := by
  cases a <;> cases b <;> first
    | (simp [scalM, skind, Nat.blt] at h; done)
    | (first
        | rw [vNon ha] | rw [vBl ha] | rw [vInt ha] | rw [vStr ha]
       first
        | rw [vNon hb] | rw [vBl hb] | rw [vInt hb] | rw [vStr hb]
       refine ⟨rfl, ?_⟩
       simp [seqM])
section
variable {X : Cx}
theorem opM_eq (hu : X.A.units + 64 < cLine) : OpR X (compareOp .Eq) (rOf X eqM) := by
  intro pins s σ H x y v u Q I rx ry rof
  obtain ⟨C, S, d1, d2, rfl, hw, hK, r, h1, h2, a, S', e, q⟩ := rof
  unfold eqM at e
  cases eb : eqB S d1 d2 with
  | none => rw [eb] at e; cases e
  | some k =>
    rw [eb] at e; cases e
    unfold eqB at eb
    by_cases hs : scalM d1 d2 = true
    · rw [if_pos hs] at eb; cases eb
      obtain ⟨g1, g2⟩ := scal_rep hs h1 h2
      rw [g2] at q
      exact op_eq pins s σ C.H _ _ v u Q I rx ry ⟨g1, q C Grow.refl r _ (repB _)⟩
    · rw [if_neg hs] at eb
      split at eb
      · rename_i hh
        obtain ⟨z1, z2⟩ := Bool.and_eq_true_iff.mp hh
        cases eb
        refine op_eqD hu pins s σ C.H _ _ v u Q I rx ry ⟨_, _, by rw [← hK]; exact pdF_dp r 8 d1 x h1 (SeqAt.canLay_of_shaped z1), by rw [← hK]; exact pdF_dp r 8 d2 y h2 (SeqAt.canLay_of_shaped z2), z1, z2, q C Grow.refl r _ (repB _)⟩
      · cases eb
theorem opM_ne (hu : X.A.units + 64 < cLine) : OpR X (compareOp .NotEq) (rOf X neM) := by
  intro pins s σ H x y v u Q I rx ry rof
  obtain ⟨C, S, d1, d2, rfl, hw, hK, r, h1, h2, a, S', e, q⟩ := rof
  unfold neM at e
  cases eb : eqB S d1 d2 with
  | none => rw [eb] at e; cases e
  | some k =>
    rw [eb] at e; cases e
    unfold eqB at eb
    by_cases hs : scalM d1 d2 = true
    · rw [if_pos hs] at eb; cases eb
      obtain ⟨g1, g2⟩ := scal_rep hs h1 h2
      rw [g2] at q
      exact op_ne pins s σ C.H _ _ v u Q I rx ry ⟨g1, q C Grow.refl r _ (repB _)⟩
    · rw [if_neg hs] at eb
      split at eb
      · rename_i hh
        obtain ⟨z1, z2⟩ := Bool.and_eq_true_iff.mp hh
        cases eb
        refine op_neD hu pins s σ C.H _ _ v u Q I rx ry ⟨_, _, by rw [← hK]; exact pdF_dp r 8 d1 x h1 (SeqAt.canLay_of_shaped z1), by rw [← hK]; exact pdF_dp r 8 d2 y h2 (SeqAt.canLay_of_shaped z2), z1, z2, q C Grow.refl r _ (repB _)⟩
      · cases eb
/-- is None, is True .. -/
def isB : MV → MV → Option Bool
  | .bl a, .bl b => some (decide (a = b))
  | .non, .non => some true
  | .bl _, .non | .int _, .non | .str _, .non | .tup _, .non | .lst _, .non | .dct _ _, .non | .dcT _ _, .non | .obj _ _ _, .non | .ref _, .non => some false
  | .non, .bl _ => some false
  | _, _ => none
def isM (a b : MV) (S : Sto) : R MV := match isB a b with
  | some k => .ok (.bl k) S
  | none => .stk
def isnM (a b : MV) (S : Sto) : R MV := match isB a b with
  | some k => .ok (.bl (!k)) S
  | none => .stk
theorem isB_rep {C : RC} {a b : MV} {x y : V} {k : Bool} (h : isB a b = some k) (ha : RepV C a x) (hb : RepV C b y) : (y = .non ∧ k = decide (x = .non)) ∨ (∃ i j, x = .bl i ∧ y = .bl j ∧ k = decide (i = j)) ∨ ∃ j, x = .non ∧ y = .bl j ∧ k = false := by
  cases a <;> cases b <;> first
    | (simp [isB] at h; done)
    | (rw [vNon ha, vBl hb]; simp [isB] at h; exact .inr (.inr ⟨_, rfl, rfl, h⟩))
    | (rw [vBl ha, vBl hb]; simp [isB] at h; exact .inr (.inl ⟨_, _, rfl, rfl, h.symm⟩))
    | (refine .inl ⟨vNon hb, ?_⟩
       have h : some _ = some k := h
       cases h
       first
        | (rw [vNon ha]; simp; done)
        | (rw [vBl ha]; simp; done)
        | (rw [vInt ha]; simp; done)
        | (rw [vStr ha]; simp; done)
        | (rw [RepV] at ha
           obtain ⟨a, ha⟩ := ha
           first
            | (obtain ⟨vs, rfl, _⟩ := ha; simp; done)
            | (obtain ⟨rfl, _⟩ := ha; simp; done)
            | (obtain ⟨_, _, rfl, _⟩ := ha; simp; done)))
theorem opM_is : OpR X (compareOp .Is) (rOf X isM) := by
  intro pins s σ H x y v u Q I rx ry rof
  obtain ⟨C, S, d1, d2, rfl, hw, hK, r, h1, h2, a, S', e, q⟩ := rof
  unfold isM at e
  cases eb : isB d1 d2 with
  | none => rw [eb] at e; cases e
  | some k =>
    rw [eb] at e; cases e
    rcases isB_rep eb h1 h2 with ⟨rfl, rfl⟩ | ⟨i, j, rfl, rfl, rfl⟩ | ⟨j, rfl, rfl, rfl⟩
    · exact op_isN pins s σ C.H _ _ v u Q I rx ry ⟨rfl, q C Grow.refl r _ (repB _)⟩
    · exact op_isBl pins s σ C.H _ _ v u Q I rx ry ⟨i, j, rfl, rfl, q C Grow.refl r _ (repB _)⟩
    · cases rx; cases ry
      exact wpAny_is_other rfl (by intro z; cases z) ⟨.bl false, C.H, I, rfl, q C Grow.refl r _ (repB _)⟩
theorem opM_isn : OpR X (compareOp .IsNot) (rOf X isnM) := by
  intro pins s σ H x y v u Q I rx ry rof
  obtain ⟨C, S, d1, d2, rfl, hw, hK, r, h1, h2, a, S', e, q⟩ := rof
  unfold isnM at e
  cases eb : isB d1 d2 with
  | none => rw [eb] at e; cases e
  | some k =>
    rw [eb] at e; cases e
    rcases isB_rep eb h1 h2 with ⟨rfl, rfl⟩ | ⟨i, j, rfl, rfl, rfl⟩ | ⟨j, rfl, rfl, rfl⟩
    · exact op_notN pins s σ C.H _ _ v u Q I rx ry ⟨rfl, q C Grow.refl r _ (repB _)⟩
    · exact op_notBl pins s σ C.H _ _ v u Q I rx ry ⟨i, j, rfl, rfl, q C Grow.refl r _ (repB _)⟩
    · cases rx; cases ry
      exact wpAny_isNot_other rfl (by intro z; cases z) ⟨.bl true, C.H, I, rfl, q C Grow.refl r _ (repB _)⟩
/-- orders of ints -/
def cmpI (f : Int → Int → Bool) : MV → MV → Sto → R MV
  | .int i, .int j, S => .ok (.bl (f i j)) S
  | _, _, _ => .stk
theorem opM_int {op : CmpOp} {f : Int → Int → Bool} (ho : OpR X (compareOp op) (rI0 fun i j => .bl (f i j))) : OpR X (compareOp op) (rOf X (cmpI f)) := by
  intro pins s σ H x y v u Q I rx ry rof
  obtain ⟨C, S, d1, d2, rfl, hw, hK, r, h1, h2, a, S', e, q⟩ := rof
  unfold cmpI at e
  split at e
  · cases vInt h1; cases vInt h2; cases e
    exact ho pins s σ C.H _ _ v u Q I rx ry ⟨_, _, rfl, rfl, q C Grow.refl r _ (repB _)⟩
  · cases e
abbrev ltM := cmpI fun i j => decide (i < j)
abbrev leM := cmpI fun i j => decide (i ≤ j)
abbrev gtM := cmpI fun i j => decide (j < i)
abbrev geM := cmpI fun i j => decide (j ≤ i)
end
end Mi
set_option Elab.async false
set_option linter.all false
set_option maxRecDepth 100000
set_option maxHeartbeats 2000000
namespace Mi
open PySem PySem.Spec PyProof.Rows L2
def keyV : MV → Option Key
  | .int i => some (.inl i)
  | .str x => some (.inr x)
  | _ => none
theorem keyV_rep {C : RC} {d : MV} {v : V} {k : Key} (h : RepV C d v) (e : keyV d = some k) : v = kV k := by
  cases d with
  | int i => cases e; exact vInt h
  | str x => cases e; exact vStr h
  | _ => cases e
def dctOf (S : Sto) : MV → Option (List Key × List MV)
  | .dct ks vs => some (ks, vs)
  | .ref n => match S[n]? with
    | some (.dct ks vs) => some (ks, vs)
    | _ => none
  | _ => none
theorem dctOf_rep {C : RC} {S : Sto} {d : MV} {v : V} {ks : List Key} {ds : List MV} (r : RepS C S) (h : RepV C d v) (e : dctOf S d = some (ks, ds)) :
    ∃ a vs, v = .ref a ∧ Rd C.H a (.dK (ks.zip vs)) ∧ ks.length = vs.length ∧ ks.Nodup ∧ RepVs C ds vs := by
  cases d with
  | dct ks' ds' =>
    cases e
    rw [RepV] at h
    obtain ⟨a, vs, e, _, q, l, nd, t⟩ := h
    exact ⟨a, vs, e, q, l, nd, t⟩
  | ref n =>
    rw [RepV] at h
    obtain ⟨a, e1, e2⟩ := h
    rw [dctOf] at e
    cases q : S[n]? with
    | none => simp [q] at e
    | some o =>
      rw [q] at e
      cases o with
      | dct ks' ds' =>
        cases e
        obtain ⟨vs, h1, l, nd, h2⟩ := r.ob n _ a q e2
        exact ⟨a, vs, e1, .inl h1, l, nd, h2⟩
      | _ => cases e
  | _ => cases e
/-- what a dict holds -/
def dlook {κ : Type} [DecidableEq κ] : List κ → List MV → κ → Option MV
  | k' :: ks, v :: vs, k => if k' = k then some v else dlook ks vs k
  | _, _, _ => none
theorem dlook_rep {C : RC} {k : Key} : ∀ {ks : List Key} {ds : List MV} {vs : List V}, RepVs C ds vs →
    (∀ d, dlook ks ds k = some d → ∃ v, valV (ks.zip vs) k = some v ∧ RepV C d v) ∧ (dlook ks ds k = none → valV (ks.zip vs) k = none)
  | [], ds, vs, _ => ⟨fun d e => by simp [dlook] at e, fun _ => by simp [valV]⟩
  | k' :: ks, [], vs, t => by rw [t.nil_inv]; exact ⟨fun d e => by simp [dlook] at e, fun _ => by simp [valV]⟩
  | k' :: ks, d' :: ds, vs, t => by
    obtain ⟨v, vr, rfl, h1, h2⟩ := t.cons_inv
    rw [List.zip_cons_cons]
    by_cases e : k' = k
    · rw [valV_pos (p := (k', v)) e]
      simp only [dlook, if_pos e]
      exact ⟨fun d q => by cases q; exact ⟨v, rfl, h1⟩, fun q => by cases q⟩
    · rw [valV_neg (p := (k', v)) e]
      simp only [dlook, if_neg e]
      exact dlook_rep h2
def dsetV {κ : Type} [DecidableEq κ] : List κ → List MV → κ → MV → List MV
  | k' :: ks, v :: vs, k, d => (if k' = k then d else v) :: dsetV ks vs k d
  | _, vs, _, _ => vs
def dput {κ : Type} [DecidableEq κ] (ks : List κ) (vs : List MV) (k : κ) (d : MV) : List κ × List MV :=
  if k ∈ ks then (ks, dsetV ks vs k d) else (ks ++ [k], vs ++ [d])
def vsetV {κ : Type} [DecidableEq κ] : List κ → List V → κ → V → List V
  | k' :: ks, v :: vs, k, d => (if k' = k then d else v) :: vsetV ks vs k d
  | _, vs, _, _ => vs
theorem vsetV_len {κ : Type} [DecidableEq κ] (k : κ) (d : V) : ∀ (ks : List κ) (vs : List V), (vsetV ks vs k d).length = vs.length
  | [], vs => rfl
  | _ :: _, [] => rfl
  | k' :: ks, v :: vs => by simp [vsetV, vsetV_len k d ks vs]
theorem dsetV_rep {κ : Type} [DecidableEq κ] {C : RC} {k : κ} {d : MV} {v : V} (q : RepV C d v) : ∀ {ks : List κ} {ds : List MV} {vs : List V}, RepVs C ds vs → RepVs C (dsetV ks ds k d) (vsetV ks vs k v)
  | [], ds, vs, t => t
  | k' :: ks, [], vs, t => by rw [t.nil_inv]; exact .nil
  | k' :: ks, d' :: ds, vs, t => by
    obtain ⟨u, vr, rfl, h1, h2⟩ := t.cons_inv
    simp only [dsetV, vsetV]
    by_cases e : k' = k
    · rw [if_pos e, if_pos e]; exact .cons q (dsetV_rep q h2)
    · rw [if_neg e, if_neg e]; exact .cons h1 (dsetV_rep q h2)
theorem zip_map_set {κ : Type} [DecidableEq κ] (k : κ) (y : V) : ∀ (ks : List κ) (vs : List V), (ks.zip vs).map (fun kv => if kv.1 = k then (kv.1, y) else kv) = ks.zip (vsetV ks vs k y)
  | [], vs => by simp
  | k' :: ks, [] => by simp [vsetV]
  | k' :: ks, v :: vs => by
    rw [List.zip_cons_cons, List.map_cons, zip_map_set k y ks vs, vsetV, List.zip_cons_cons]
    by_cases e : k' = k
    · simp [e]
    · simp [e]
theorem any_zip {κ : Type} [DecidableEq κ] (k : κ) : ∀ (ks : List κ) (vs : List V), ks.length = vs.length → ((ks.zip vs).any fun kv => decide (kv.1 = k)) = decide (k ∈ ks)
  | [], vs, _ => by simp
  | k' :: ks, [], l => by simp at l
  | k' :: ks, v :: vs, l => by
    rw [List.zip_cons_cons, List.any_cons, any_zip k ks vs (by simpa using l)]
    by_cases e : k' = k
    · simp [e]
    · have e' : ¬ k = k' := fun z => e z.symm
      simp [e, e']
/-- the dict behind a store -/
theorem dput_rep {C : RC} {ks ks' : List Key} {ds ds' : List MV} {k : Key} {d : MV} {v : V} {vs : List V} (t : RepVs C ds vs) (l : ks.length = vs.length) (nd : ks.Nodup) (q : RepV C d v) (e : dput ks ds k d = (ks', ds')) :
    ∃ vs', putK (ks.zip vs) k v = ks'.zip vs' ∧ ks'.length = vs'.length ∧ ks'.Nodup ∧ RepVs C ds' vs' := by
  unfold dput at e
  unfold putK
  rw [any_zip k ks vs l]
  by_cases hm : k ∈ ks
  · rw [if_pos hm] at e; cases e
    rw [if_pos (by simp [hm])]
    exact ⟨vsetV ks vs k v, zip_map_set k v ks vs, by rw [vsetV_len]; exact l, nd, dsetV_rep q t⟩
  · rw [if_neg hm] at e; cases e
    rw [if_neg (by simp [hm])]
    refine ⟨vs ++ [v], ?_, by simp [l], ?_, t.append (.cons q .nil)⟩
    · rw [List.zip_append l]; simp
    · rw [List.nodup_append]
      refine ⟨nd, by simp, fun x hx y hy => ?_⟩
      have : y = k := by simpa using hy
      subst this
      intro z; subst z; exact hm hx
def idxD (d i : MV) (S : Sto) : R MV := match dctOf S d, keyV i with
  | some (ks, ds), some k => match dlook ks ds k with
    | some x => .ok x S
    | none => .stk
  | _, _ => .stk
def idxM (d i : MV) (S : Sto) : R MV := match seqOf S d with
  | some xs => match i with
    | .int k => match atI xs k with
      | some x => .ok x S
      | none => .stk
    | _ => .stk
  | none => idxD d i S
theorem atI_rep {C : RC} {ds : List MV} {vs : List V} {k : Int} {d : MV} (t : RepVs C ds vs) (e : atI ds k = some d) : ∃ v, atI vs k = some v ∧ RepV C d v := by
  unfold atI at e ⊢
  rw [← t.length]
  cases q : ixN ds.length k with
  | none => simp [q] at e
  | some j =>
    rw [q] at e
    obtain ⟨v, h1, h2⟩ := t.get (i := j) e
    exact ⟨v, h1, h2⟩
theorem idxM_cases {d i : MV} {S S' : Sto} {x : MV} (h : idxM d i S = .ok x S') : S' = S ∧ ((∃ xs k, seqOf S d = some xs ∧ i = .int k ∧ atI xs k = some x) ∨ ∃ ks ds k, dctOf S d = some (ks, ds) ∧ keyV i = some k ∧ dlook ks ds k = some x) := by
  unfold idxM at h
  cases hs : seqOf S d with
  | some xs =>
    rw [hs] at h
    cases i with
    | int k =>
      dsimp only at h
      cases q : atI xs k with
      | none => rw [q] at h; cases h
      | some y => rw [q] at h; cases h; exact ⟨rfl, .inl ⟨xs, k, rfl, rfl, q⟩⟩
    | _ => cases h
  | none =>
    rw [hs] at h
    dsimp only at h
    unfold idxD at h
    cases e1 : dctOf S d with
    | none => rw [e1] at h; cases h
    | some p =>
      obtain ⟨ks, ds⟩ := p
      cases e2 : keyV i with
      | none => rw [e1, e2] at h; cases h
      | some k =>
        rw [e1, e2] at h
        dsimp only at h
        cases q : dlook ks ds k with
        | none => rw [q] at h; cases h
        | some y => rw [q] at h; cases h; exact ⟨rfl, .inr ⟨ks, ds, k, rfl, rfl, q⟩⟩
section
variable {X : Cx}
theorem ixM (hu : X.A.units + 1 < cLine) : IxR X (rOf X idxM) := by
  intro value slice pins s σ H x y v u Q I rx ry rof hs
  obtain ⟨C, S, d1, d2, rfl, hw, hK, r, h1, h2, a, S', e, q⟩ := rof
  obtain ⟨rfl, ⟨xs, k, e1, rfl, e3⟩ | ⟨ks, ds, k, e1, e2, e3⟩⟩ := idxM_cases e
  · cases vInt h2
    obtain ⟨p, vs, rfl, sq, t⟩ := seqOf_rep r h1 e1
    obtain ⟨z, hz, rz⟩ := atI_rep t e3
    rw [hK] at sq
    rcases sq with sq | sq
    · exact ix_list value slice pins s σ C.H _ _ v u Q I rx ry ⟨p, vs, k, z, rfl, rfl, sq, hz, q C Grow.refl r z rz⟩ hs
    · exact ix_tup value slice pins s σ C.H _ _ v u Q I rx ry ⟨p, vs, k, z, rfl, rfl, sq, hz, q C Grow.refl r z rz⟩ hs
  · have ek := keyV_rep h2 e2
    subst ek
    obtain ⟨p, vs, rfl, rd, l, nd, t⟩ := dctOf_rep r h1 e1
    obtain ⟨z, hz, rz⟩ := (dlook_rep (ks := ks) t).1 a e3
    cases rx
    have g : DGet C.H p (kV k) (some z) := .inl ⟨_, k, rd, rfl, hz.symm⟩
    exact tail_any (dict_typeIs I g) PySem.F.slot_dict_getitem.lookup (d_getItem hu I g ry fun w' s' I' rw' => ⟨z, C.H, I', rw', q C Grow.refl r z rz⟩) hs
end
def cutM (xs : List MV) (lo hi : Option Int) : List MV := (xs.drop (HT.sIx xs.length 0 lo)).take (HT.sIx xs.length xs.length hi - HT.sIx xs.length 0 lo)
def slcM (d : MV) (lo hi : Option Int) (S : Sto) : R MV := match d with
  | .tup xs => .ok (.tup (cutM xs lo hi)) S
  | .str z => if z.length ≤ sizeLine then .ok (.str (cutS z lo hi)) S else .stk
  | d => match lstOf S d with
    | some xs => .ok (.lst (cutM xs lo hi)) S
    | none => .stk
def rSlM (X : Cx) : V → Option Int → Option Int → Hp → VK → Prop := fun x lo hi H Q => ∃ C S d, C.H = H ∧ C.w = X.w ∧ C.K = X.K ∧ RepS C S ∧ RepV C d x ∧ ∃ a S', slcM d lo hi S = .ok a S' ∧ ∀ C', Grow C C' → RepS C' S' → ∀ v, RepV C' a v → Q v C'.H
theorem cut_rep {C : RC} {ds : List MV} {vs : List V} (t : RepVs C ds vs) (lo hi : Option Int) : RepVs C (cutM ds lo hi) (cutV vs lo hi) := by
  unfold cutM cutV
  rw [← t.length]
  exact (t.drop _).take _
theorem cutM_all {xs : List MV} {lo hi : Option Int} (h : HT.sIx xs.length 0 lo = 0 ∧ HT.sIx xs.length xs.length hi = xs.length) : cutM xs lo hi = xs := by
  unfold cutM
  rw [h.1, h.2]; simp
theorem slM {X : Cx} : SlR X (rSlM X) := by
  intro pins s σ H x v vl vu lo hi sl Q I rx hs pl pu rof
  obtain ⟨C, S, d, rfl, hw, hK, r, h1, a, S', e, q⟩ := rof
  unfold slcM at e
  split at e
  · cases e
    have h0 := h1
    rw [RepV] at h1
    obtain ⟨p, vs, rfl, sq, t⟩ := h1
    rw [hK] at sq
    refine sl_tupA pins s σ C.H _ v vl vu lo hi sl Q I rx hs pl pu ⟨p, vs, rfl, sq, fun z => ?_, fun z => newTup r (cut_rep t lo hi) q⟩
    rw [← t.length] at z
    rw [cutM_all z] at q
    exact q C Grow.refl r _ h0
  · split at e
    · cases e
      cases vStr h1
      exact sl_str pins s σ C.H _ v vl vu lo hi sl Q I rx hs pl pu ⟨_, rfl, by assumption, q C Grow.refl r _ (repS _)⟩
    · cases e
  · cases el : lstOf S d with
    | none => rw [el] at e; cases e
    | some xs =>
      rw [el] at e; cases e
      obtain ⟨p, vs, rfl, sq, t⟩ := lstOf_rep r h1 el
      exact sl_list pins s σ C.H _ v vl vu lo hi sl Q I rx hs pl pu ⟨p, vs, rfl, .of sq, newLst r (cut_rep t lo hi) q⟩
def inB (S : Sto) (x c : MV) : Option Bool := match dctOf S c with
  | some (ks, ds) => match keyV x with
    | some k => some (dlook ks ds k).isSome
    | none => none
  | none => match pdF 8 S c with
    | .list ds => if SeqAt.shaped (pdF 8 S x) && SeqAt.shaped (.list ds) then some (ds.any fun z => PyData.eqv z (pdF 8 S x)) else none
    | .tuple ds => if SeqAt.shaped (pdF 8 S x) && SeqAt.shaped (.tuple ds) then some (ds.any fun z => PyData.eqv z (pdF 8 S x)) else none
    | _ => none
def inM (a b : MV) (S : Sto) : R MV := match inB S a b with
  | some k => .ok (.bl k) S
  | none => .stk
def ninM (a b : MV) (S : Sto) : R MV := match inB S a b with
  | some k => .ok (.bl (!k)) S
  | none => .stk
theorem room_in_shT {A : Around} {d : PyData} {ds : List PyData} (h : SeqAt.shaped d = true) (hu : A.units + 65 < cLine) : A.units + 1 + min (PyData.depthAll ds) d.depth < cLine := by
  have h1 := SeqAt.depth_of_shaped h
  have h2 : min (PyData.depthAll ds) d.depth ≤ d.depth := Nat.min_le_right _ _
  omega
section
variable {X : Cx}
theorem inB_rep {pins : List (Addr × Obj)} {s : Shared} {σ : L2.St} {C : RC} {S : Sto} {x y : V} {v u : Value} {d1 d2 : MV} {k : Bool} {Q1 Q2 : Value → Shared → Prop} (hu : X.A.units + 65 < cLine) (I : Inv X pins σ C.H s) (rx : RelV x v) (ry : RelV y u)
    (hK : C.K = X.K) (r : RepS C S) (h1 : RepV C d1 x) (h2 : RepV C d2 y) (e : inB S d1 d2 = some k) (q1 : ∀ s', Inv X pins σ C.H s' → Q1 (.bool k) s') (q2 : ∀ s', Inv X pins σ C.H s' → Q2 (.bool (!k)) s') :
    wpAny (model X.prog X.w) X.A (compareOp .In v u) Q1 X.xe s ∧ wpAny (model X.prog X.w) X.A (compareOp .NotIn v u) Q2 X.xe s := by
  unfold inB at e
  cases ed : dctOf S d2 with
  | some p =>
    obtain ⟨ks, ds⟩ := p
    rw [ed] at e
    dsimp only at e
    cases ek : keyV d1 with
    | none => rw [ek] at e; cases e
    | some key =>
      rw [ek] at e
      dsimp only at e
      have e' : (dlook ks ds key).isSome = k := Option.some.inj e
      have hv := keyV_rep h1 ek
      subst hv
      obtain ⟨p, vs, rfl, rd, l, nd, t⟩ := dctOf_rep r h2 ed
      cases ry
      have hk : (valV (ks.zip vs) key).isSome = k := by
        rw [← e']
        cases q : dlook ks ds key with
        | none => rw [(dlook_rep (ks := ks) t).2 q]; rfl
        | some d => obtain ⟨z, hz, _⟩ := (dlook_rep (ks := ks) t).1 d q; rw [hz]; rfl
      have g : DGet C.H p (kV key) (valV (ks.zip vs) key) := .inl ⟨_, key, rd, rfl, rfl⟩
      refine ⟨d_in (by omega) I g rx fun s' I' => ?_, d_notIn (by omega) I g rx fun s' I' => ?_⟩
      · rw [hk]; exact q1 s' I'
      · rw [hk]; exact q2 s' I'
  | none =>
    rw [ed] at e
    dsimp only at e
    cases ep : pdF 8 S d2 with
    | list ds =>
      rw [ep] at e
      dsimp only at e
      split at e
      · rename_i hh
        obtain ⟨z1, z2⟩ := Bool.and_eq_true_iff.mp hh
        have e' : (ds.any fun z => PyData.eqv z (pdF 8 S d1)) = k := Option.some.inj e
        have D1 := pdF_dp r 8 d1 x h1 (SeqAt.canLay_of_shaped z1)
        have D2 := pdF_dp r 8 d2 y h2 (by rw [ep]; exact SeqAt.canLay_of_shaped z2)
        rw [hK] at D1 D2
        rw [ep] at D2
        obtain ⟨as, r1⟩ := Dp.reads I _ x v D1 rx
        obtain ⟨bs, r2⟩ := Dp.reads I _ y u D2 ry
        have lay := SeqAt.canLay_of_shaped z2
        refine ⟨SeqAt.in_list_reads r2 r1 (by simpa [PyData.canLay0] using lay) (SeqAt.canLay_of_shaped z1) (room_in_shT z1 hu) (by rw [e']; exact q1 s I),
          SeqAt.notIn_list_reads r2 r1 (by simpa [PyData.canLay0] using lay) (SeqAt.canLay_of_shaped z1) (room_in_shT z1 hu) (by rw [e']; exact q2 s I)⟩
      · cases e
    | tuple ds =>
      rw [ep] at e
      dsimp only at e
      split at e
      · rename_i hh
        obtain ⟨z1, z2⟩ := Bool.and_eq_true_iff.mp hh
        have e' : (ds.any fun z => PyData.eqv z (pdF 8 S d1)) = k := Option.some.inj e
        have D1 := pdF_dp r 8 d1 x h1 (SeqAt.canLay_of_shaped z1)
        have D2 := pdF_dp r 8 d2 y h2 (by rw [ep]; exact SeqAt.canLay_of_shaped z2)
        rw [hK] at D1 D2
        rw [ep] at D2
        obtain ⟨as, r1⟩ := Dp.reads I _ x v D1 rx
        obtain ⟨bs, r2⟩ := Dp.reads I _ y u D2 ry
        have lay := SeqAt.canLay_of_shaped z2
        refine ⟨SeqAt.in_tuple_reads r2 r1 (by simpa [PyData.canLay0] using lay) (SeqAt.canLay_of_shaped z1) (room_in_shT z1 hu) (by rw [e']; exact q1 s I),
          SeqAt.notIn_tuple_reads r2 r1 (by simpa [PyData.canLay0] using lay) (SeqAt.canLay_of_shaped z1) (room_in_shT z1 hu) (by rw [e']; exact q2 s I)⟩
      · cases e
    | _ => rw [ep] at e; cases e
theorem opM_in (hu : X.A.units + 65 < cLine) : OpR X (compareOp .In) (rOf X inM) := by
  intro pins s σ H x y v u Q I rx ry rof
  obtain ⟨C, S, d1, d2, rfl, hw, hK, r, h1, h2, a, S', e, q⟩ := rof
  unfold inM at e
  cases eb : inB S d1 d2 with
  | none => rw [eb] at e; cases e
  | some k =>
    rw [eb] at e; cases e
    exact (inB_rep hu I rx ry hK r h1 h2 eb (fun s' I' => ⟨.bl _, C.H, I', rfl, q C Grow.refl r _ (repB _)⟩) (Q2 := fun _ _ => True) (fun s' I' => True.intro)).1
theorem opM_nin (hu : X.A.units + 65 < cLine) : OpR X (compareOp .NotIn) (rOf X ninM) := by
  intro pins s σ H x y v u Q I rx ry rof
  obtain ⟨C, S, d1, d2, rfl, hw, hK, r, h1, h2, a, S', e, q⟩ := rof
  unfold ninM at e
  cases eb : inB S d1 d2 with
  | none => rw [eb] at e; cases e
  | some k =>
    rw [eb] at e; cases e
    exact (inB_rep hu I rx ry hK r h1 h2 eb (Q1 := fun _ _ => True) (fun s' I' => True.intro) (fun s' I' => ⟨.bl _, C.H, I', rfl, q C Grow.refl r _ (repB _)⟩)).2
end
end Mi
set_option Elab.async false
set_option linter.all false
set_option maxRecDepth 100000
set_option maxHeartbeats 2000000
namespace Mi
open PySem PySem.Spec PyProof.Rows L2
/-- a call's reading -/
def rCf (X : Cx) (f : List MV → Sto → R MV) : List V → Hp → VK → Prop := fun vs H Q => ∃ C S ds, C.H = H ∧ C.w = X.w ∧ C.K = X.K ∧ RepS C S ∧ RepVs C ds vs ∧
  ∃ a S', f ds S = .ok a S' ∧ ∀ C', Grow C C' → RepS C' S' → ∀ v, RepV C' a v → Q v C'.H
theorem one_of {C : RC} {d : MV} {vs : List V} (t : RepVs C [d] vs) : ∃ v, vs = [v] ∧ RepV C d v := by
  obtain ⟨v, vr, rfl, h1, h2⟩ := t.cons_inv
  rw [h2.nil_inv]
  exact ⟨v, rfl, h1⟩
theorem two_of {C : RC} {d e : MV} {vs : List V} (t : RepVs C [d, e] vs) : ∃ v u, vs = [v, u] ∧ RepV C d v ∧ RepV C e u := by
  obtain ⟨v, vr, rfl, h1, h2⟩ := t.cons_inv
  obtain ⟨u, rfl, h3⟩ := one_of h2
  exact ⟨v, u, rfl, h1, h3⟩
def lenD (d : MV) (S : Sto) : R MV := match dctOf S d with
  | some (ks, _) => .ok (.int ks.length) S
  | none => match d with
    | .str x => if x.length ≤ sizeLine then .ok (.int x.length) S else .stk
    | _ => .stk
def lenM : List MV → Sto → R MV
  | [d], S => match seqOf S d with
    | some xs => .ok (.int xs.length) S
    | none => lenD d S
  | _, _ => .stk
section
variable {X : Cx}
theorem crM_len : CallR X (.builtin "len") (rCf X lenM) := by
  intro pins s σ H vs us Q I rv h
  obtain ⟨C, S, ds, rfl, hw, hK, r, t, a, S', e, q⟩ := h
  unfold lenM at e
  split at e
  · rename_i d
    obtain ⟨v, rfl, h1⟩ := one_of t
    cases hs : seqOf S d with
    | some xs =>
      rw [hs] at e; cases e
      obtain ⟨p, ws, rfl, sq, tt⟩ := seqOf_rep r h1 hs
      rw [hK] at sq
      have l := tt.length
      refine call_len pins s σ C.H _ us Q I rv ⟨.ref p, ws.length, rfl, ?_, ?_⟩
      · rcases sq with sq | sq
        · exact .inl ⟨ws, sq, rfl⟩
        · exact .inr ⟨ws, sq, rfl⟩
      · rw [← l]; exact q C Grow.refl r _ (repI _)
    | none =>
      rw [hs] at e
      dsimp only at e
      unfold lenD at e
      cases hd : dctOf S d with
      | some p =>
        obtain ⟨ks, es⟩ := p
        rw [hd] at e; cases e
        obtain ⟨p, ws, rfl, rd, l, nd, tt⟩ := dctOf_rep r h1 hd
        obtain ⟨u, rfl, ru⟩ := vals1 rv
        cases ru
        refine d_len I rd fun tk s' I' => ⟨.int ks.length, C.H, I', ⟨tk, ?_⟩, q C Grow.refl r _ (repI _)⟩
        simp [List.length_zip, l]
      | none =>
        rw [hd] at e
        dsimp only at e
        split at e
        · split at e
          · cases e
            cases vStr h1
            exact call_len pins s σ C.H _ us Q I rv ⟨_, _, rfl, ⟨by assumption, rfl⟩, q C Grow.refl r _ (repI _)⟩
          · cases e
        · cases e
  · cases e
def intM : List MV → Sto → R MV
  | [.int i], S => .ok (.int i) S
  | [.bl b], S => .ok (.int (if b then 1 else 0)) S
  | _, _ => .stk
theorem crM_int : CallR X (.type "int") (rCf X intM) := by
  intro pins s σ H vs us Q I rv h
  obtain ⟨C, S, ds, rfl, hw, hK, r, t, a, S', e, q⟩ := h
  unfold intM at e
  split at e
  · cases e
    obtain ⟨v, rfl, h1⟩ := one_of t
    cases vInt h1
    exact call_int1 pins s σ C.H _ us Q I rv (.inl ⟨_, rfl, q C Grow.refl r _ (repI _)⟩)
  · cases e
    obtain ⟨v, rfl, h1⟩ := one_of t
    cases vBl h1
    exact call_int1 pins s σ C.H _ us Q I rv (.inr ⟨_, rfl, q C Grow.refl r _ (repI _)⟩)
  · cases e
def tupM : List MV → Sto → R MV
  | [d], S => match seqOf S d with
    | some xs => .ok (.tup xs) S
    | none => .stk
  | _, _ => .stk
theorem crM_tuple : CallR X (.type "tuple") (rCf X tupM) := by
  intro pins s σ H vs us Q I rv h
  obtain ⟨C, S, ds, rfl, hw, hK, r, t, a, S', e, q⟩ := h
  unfold tupM at e
  split at e
  · rename_i d
    obtain ⟨v, rfl, h1⟩ := one_of t
    cases hs : seqOf S d with
    | some xs =>
      rw [hs] at e; cases e
      obtain ⟨p, ws, rfl, sq, tt⟩ := seqOf_rep r h1 hs
      refine call_tuple_of pins s σ C.H _ us Q I rv ⟨p, ws, rfl, ?_⟩
      rcases sq with sq | sq
      · exact .inl ⟨by rw [← hK]; exact sq, newTup r tt q⟩
      · exact .inr ⟨by rw [← hK]; exact sq, q C Grow.refl r _ (by rw [RepV]; exact ⟨p, ws, rfl, sq, tt⟩)⟩
    | none => rw [hs] at e; cases e
  · cases e
/-- list(x), not to be written | a cell -/
def lstM (fr : Bool) : List MV → Sto → R MV
  | [d], S => match seqOf S d with
    | some xs => if fr then .ok (.lst xs) S else .ok (.ref S.length) (S ++ [.lst xs])
    | none => .stk
  | _, _ => .stk
theorem crM_list (fr : Bool) : CallR X (.type "list") (rCf X (lstM fr)) := by
  intro pins s σ H vs us Q I rv h
  obtain ⟨C, S, ds, rfl, hw, hK, r, t, a, S', e, q⟩ := h
  unfold lstM at e
  split at e
  · rename_i d
    obtain ⟨v, rfl, h1⟩ := one_of t
    cases hs : seqOf S d with
    | some xs =>
      rw [hs] at e
      dsimp only at e
      obtain ⟨p, ws, rfl, sq, tt⟩ := seqOf_rep r h1 hs
      rw [hK] at sq
      refine call_list_of pins s σ C.H _ us Q I rv ⟨p, ws, rfl, sq, ?_⟩
      cases fr with
      | true => cases e; exact newLst r tt q
      | false => cases e; exact newCell r tt q
    | none => rw [hs] at e; cases e
  · cases e
def allBl : List MV → Option (List Bool)
  | [] => some []
  | .bl b :: r => (allBl r).map (b :: ·)
  | _ => none
theorem allBl_rep {C : RC} : ∀ {ds : List MV} {vs : List V} {bs : List Bool}, RepVs C ds vs → allBl ds = some bs → vs = bs.map V.bl
  | [], vs, bs, t, e => by rw [t.nil_inv]; cases e; rfl
  | d :: ds, vs, bs, t, e => by
    obtain ⟨v, vr, rfl, h1, h2⟩ := t.cons_inv
    cases d with
    | bl b =>
      rw [allBl] at e
      obtain ⟨bs', e1, rfl⟩ := Option.map_eq_some_iff.mp e
      rw [vBl h1, allBl_rep h2 e1]; rfl
    | _ => cases e
def allIn : List MV → Option (List Int)
  | [] => some []
  | .int b :: r => (allIn r).map (b :: ·)
  | _ => none
def overBl (f : List Bool → Bool) : List MV → Sto → R MV
  | [d], S => match lstOf S d with
    | some xs => match allBl xs with
      | some bs => .ok (.bl (f bs)) S
      | none => .stk
    | none => .stk
  | _, _ => .stk
abbrev anyM := overBl fun bs => bs.any id
abbrev allM := overBl fun bs => bs.all id
theorem overBl_of {f : List Bool → Bool} {C : RC} {S S' : Sto} {ds : List MV} {vs : List V} {a : MV} (r : RepS C S) (t : RepVs C ds vs) (e : overBl f ds S = .ok a S') :
    ∃ p bs, vs = [.ref p] ∧ SqL C.K C.H p (bs.map V.bl) ∧ a = .bl (f bs) ∧ S' = S := by
  unfold overBl at e
  split at e
  · rename_i d
    obtain ⟨v, rfl, h1⟩ := one_of t
    cases hs : lstOf S d with
    | none => rw [hs] at e; cases e
    | some xs =>
      rw [hs] at e
      dsimp only at e
      cases hb : allBl xs with
      | none => rw [hb] at e; cases e
      | some bs =>
        rw [hb] at e; cases e
        obtain ⟨p, ws, rfl, sq, tt⟩ := lstOf_rep r h1 hs
        rw [allBl_rep tt hb] at sq
        exact ⟨p, bs, rfl, .of sq, rfl, rfl⟩
  · cases e
theorem crM_any (hc : X.calm = true) : CallR X (.builtin "any") (rCf X anyM) := by
  intro pins s σ H vs us Q I rv h
  obtain ⟨C, S, ds, rfl, hw, hK, r, t, a, S', e, q⟩ := h
  obtain ⟨p, bs, rfl, sq, rfl, rfl⟩ := overBl_of r t e
  rw [hK] at sq
  exact cr_any hc pins s σ C.H _ us Q I rv ⟨p, bs, rfl, sq, q C Grow.refl r _ (repB _)⟩
theorem crM_all (hc : X.calm = true) : CallR X (.builtin "all") (rCf X allM) := by
  intro pins s σ H vs us Q I rv h
  obtain ⟨C, S, ds, rfl, hw, hK, r, t, a, S', e, q⟩ := h
  obtain ⟨p, bs, rfl, sq, rfl, rfl⟩ := overBl_of r t e
  rw [hK] at sq
  exact cr_all hc pins s σ C.H _ us Q I rv ⟨p, bs, rfl, sq, q C Grow.refl r _ (repB _)⟩
def sumM : List MV → Sto → R MV
  | [d], S => match lstOf S d with
    | some xs => match allIn xs with
      | some bs => .ok (.int bs.sum) S
      | none => .stk
    | none => .stk
  | _, _ => .stk
def strM : List MV → Sto → R MV
  | [.int i], S => if i.natAbs < 1000000000 then .ok (.str (toString i)) S else .stk
  | [.str x], S => .ok (.str x) S
  | _, _ => .stk
def tyN (S : Sto) : MV → Option String
  | .non => some "NoneType"
  | .bl _ => some "bool"
  | .int _ => some "int"
  | .str _ => some "str"
  | .tup _ => some "tuple"
  | .lst _ => some "list"
  | .dct _ _ => some "dict"
  | .ref n => match S[n]? with
    | some (.dct _ _) => some "dict"
    | some (MO.lst _) => some "list"
    | _ => none
  | _ => none
def isiB (S : Sto) (d : MV) (t : String) : Option Bool := match tyN S d with
  | some n => kitB n t
  | none => none
theorem tyN_rep {C : RC} {S : Sto} {d : MV} {v : V} {n : String} (r : RepS C S) (h : RepV C d v) (e : tyN S d = some n) : TyX C.K C.H v (.type n) := by
  cases d with
  | non => cases e; rw [vNon h]; exact .base .non
  | bl b => cases e; rw [vBl h]; exact .base (.bl b)
  | int i => cases e; rw [vInt h]; exact .base (.int i)
  | str x => cases e; rw [vStr h]; exact .base (.str x)
  | tup xs =>
    cases e
    rw [RepV] at h
    obtain ⟨a, vs, rfl, q, t⟩ := h
    rcases q with (q | ⟨o, q⟩) | ⟨o, its, n, q1, q2, _⟩
    · exact .base (.tup q)
    · exact .fTuple q
    · exact .kTuple q1 q2
  | lst xs =>
    cases e
    rw [RepV] at h
    obtain ⟨a, vs, rfl, _, q, t⟩ := h
    exact .base (.lst q)
  | dct ks ds =>
    cases e
    rw [RepV] at h
    obtain ⟨a, vs, rfl, _, q, _⟩ := h
    rcases q with q | ⟨o, q⟩
    · exact .base (.dK q)
    · exact .fDict q
  | ref k =>
    rw [RepV] at h
    obtain ⟨a, rfl, q⟩ := h
    rw [tyN] at e
    cases es : S[k]? with
    | none => rw [es] at e; cases e
    | some o =>
      rw [es] at e
      cases o with
      | lst xs => cases e; obtain ⟨vs, h1, _⟩ := r.ob k _ a es q; exact .base (.lst h1)
      | dct ks ds => cases e; obtain ⟨vs, h1, _⟩ := r.ob k _ a es q; exact .base (.dK h1)
      | _ => cases e
  | _ => cases e
def isiM (t : String) : List MV → Sto → R MV
  | [d], S => match isiB S d t with
    | some b => .ok (.bl b) S
    | none => .stk
  | _, _ => .stk
end
end Mi
set_option Elab.async false
set_option linter.all false
set_option maxRecDepth 100000
set_option maxHeartbeats 2000000
namespace Mi
open PySem PySem.Spec PyProof.Rows L2
abbrev ME := Ev → Sto → R MV
abbrev MT := Ev → Sto → R Bool
abbrev MA := Ev → Sto → R (List MV)
abbrev SE (X : Cx) (W : WX) (e : Expr) (m : ME) : Prop := PE X e (tE X W m)
abbrev ST (X : Cx) (W : WX) (e : Expr) (m : MT) : Prop := PT X e (tT X W m)
abbrev SW (X : Cx) (W : WX) (e : Expr) (m : MT) : Prop := PW X e (tT X W m)
abbrev SA (X : Cx) (W : WX) (es : List Expr) (m : MA) : Prop := PA X es (tA X W m)
def mVar (i : Nat) : ME := fun ρ S => match ρ[i]? with
  | some (some d) => .ok d S
  | _ => .stk
def mC (d : MV) : ME := fun _ S => .ok d S
def mOp (f : MV → MV → Sto → R MV) (a b : ME) : ME := fun ρ S => (a ρ S).bind fun x S1 => (b ρ S1).bind fun y S2 => f x y S2
def toB (d : MV) (S : Sto) : R Bool := match d with
  | .bl b => .ok b S
  | _ => .stk
def mTest (a : ME) : MT := fun ρ S => (a ρ S).bind toB
def mChain (f g : MV → MV → Sto → R MV) (a b c : ME) : ME := fun ρ S => (a ρ S).bind fun x S1 => (b ρ S1).bind fun y S2 => (f x y S2).bind fun z S3 => (toB z S3).bind fun k S4 =>
  if k then (c ρ S4).bind fun u S5 => g y u S5 else .ok (.bl false) S4
def mNot (a : MT) : MT := fun ρ S => (a ρ S).bind fun b S1 => .ok (!b) S1
def mAnd (a b : MT) : MT := fun ρ S => (a ρ S).bind fun x S1 => if x then b ρ S1 else .ok false S1
def mOr (a b : MT) : MT := fun ρ S => (a ρ S).bind fun x S1 => if x then .ok true S1 else b ρ S1
def mAndV (a b : ME) : ME := fun ρ S => (mTest a ρ S).bind fun x S1 => if x then b ρ S1 else .ok (.bl false) S1
def mOrV (a b : ME) : ME := fun ρ S => (mTest a ρ S).bind fun x S1 => if x then .ok (.bl true) S1 else b ρ S1
def mNotV (a : ME) : ME := fun ρ S => (mTest a ρ S).bind fun x S1 => .ok (.bl (!x)) S1
def mIf (c : MT) (a b : ME) : ME := fun ρ S => (c ρ S).bind fun x S1 => if x then a ρ S1 else b ρ S1
def mNil : MA := fun _ S => .ok [] S
def mCons (a : ME) (r : MA) : MA := fun ρ S => (a ρ S).bind fun x S1 => (r ρ S1).bind fun xs S2 => .ok (x :: xs) S2
def mTup (a : MA) : ME := fun ρ S => (a ρ S).bind fun xs S1 => .ok (.tup xs) S1
def mLst (a : MA) : ME := fun ρ S => (a ρ S).bind fun xs S1 => .ok (.lst xs) S1
def mCell (a : MA) : ME := fun ρ S => (a ρ S).bind fun xs S1 => .ok (.ref S1.length) (S1 ++ [.lst xs])
def mCallF (f : List MV → Sto → R MV) (a : MA) : ME := fun ρ S => (a ρ S).bind f
section
variable {X : Cx} {W : WX} {a b c e : Expr} {es : List Expr} {ma mb mc : ME} {mt mu : MT} {mas : MA} {pos : Pos}
theorem se_var {i : Nat} {x : Str} (hN : X.N[i]? = some x) (hv : Vis X.env.scope x) (hd : (x == ("__debug__" : Str)) = false := by decide) (hcd : (x == ("__classdict__" : Str)) = false := by decide) : SE X W (.Name x pos) (mVar i) :=
  (pe_var hN hv hd hcd).imp fun σ H Q ⟨C, ρ, S, e, s, q⟩ => by
    subst e
    unfold mVar at q
    split at q
    · rename_i d hd
      obtain ⟨v, e1, r⟩ := s.ev i d hd
      exact ⟨v, e1, q.now s.rs v r⟩
    · exact q.elim
theorem se_c {v : V} {d : MV} (h : PE X e (tC v)) (r : ∀ C : RC, C.K = X.K → RepV C d v) : SE X W e (mC d) :=
  h.imp fun σ H Q ⟨C, ρ, S, e, s, q⟩ => by
    subst e
    exact q.now s.rs v (r C s.K)
theorem se_int {i : Int} {j} : SE X W (.Constant (.int i) j pos) (mC (.int i)) := se_c pe_int fun _ _ => repI i
theorem se_bl {i : Bool} {j} : SE X W (.Constant (.bool i) j pos) (mC (.bl i)) := se_c pe_bl fun _ _ => repB i
theorem se_str {i : Str} {j} : SE X W (.Constant (.str i) j pos) (mC (.str i)) := se_c pe_str fun _ _ => repS i
theorem se_non {j} : SE X W (.Constant .none j pos) (mC .non) := se_c pe_non fun _ _ => repN
/-- a module's constant -/
theorem se_glob {x : Str} {v : V} {u : Value} {d : MV} (hg : Gl X x) (hm : X.mg x = some u) (r : RelV v u) (q : ∀ C : RC, C.K = X.K → RepV C d v) (hd : (x == ("__debug__" : Str)) = false := by decide) : SE X W (.Name x pos) (mC d) :=
  se_c (pe_glob hg hm r hd) q
/-- a two-place reading over two subreadings -/
theorem op_imp {f : MV → MV → Sto → R MV} {σ : L2.St} {H : Hp} {Q : VK} (hf : ∀ d1 d2 S c d S', f d1 d2 S ≠ .exc c d S') (h : tE X W (mOp f ma mb) σ H Q) : tOp (rOf X f) (tE X W ma) (tE X W mb) σ H Q := by
  obtain ⟨C, ρ, S, e, s, q⟩ := h
  subst e
  refine tE.bind s q fun d1 S1 C1 v1 s1 g1 r1 q1 => ?_
  refine tE.bind s1 q1 fun d2 S2 C2 v2 s2 g2 r2 q2 => ?_
  refine ⟨C2, S2, d1, d2, rfl, s2.w, s2.K, s2.rs, r1.grow g2 s1.rs, r2, ?_⟩
  cases e : f d1 d2 S2 with
  | ok a S' =>
    rw [e] at q2
    exact ⟨a, S', rfl, q2⟩
  | exc c d S' => exact absurd e (hf _ _ _ _ _ _)
  | stk => rw [e] at q2; exact q2.elim
/-- no exception -/
def Pure2 (f : MV → MV → Sto → R MV) : Prop := ∀ d1 d2 S c d S', f d1 d2 S ≠ .exc c d S'
theorem se_op {op : Operator} {f : MV → MV → Sto → R MV} (ho : OpR X (binaryOp op) (rOf X f)) (hf : Pure2 f) (ha : SE X W a ma) (hb : SE X W b mb) : SE X W (.BinOp a op b pos) (mOp f ma mb) :=
  (pe_op ho ha hb).imp fun σ H Q h => op_imp hf h
theorem se_cmp {op : CmpOp} {f : MV → MV → Sto → R MV} (ho : OpR X (compareOp op) (rOf X f)) (hf : Pure2 f) (hm : behindInMarks op b = false) (ha : SE X W a ma) (hb : SE X W b mb) : SE X W (.Compare a [op] [b] pos) (mOp f ma mb) :=
  (pe_cmpR ho ha hb hm).imp fun σ H Q h => op_imp hf h
/-- a test by its value -/
theorem tTest_imp {t : TE} {m : ME} (k : ∀ σ H Q, tE X W m σ H Q → t σ H Q) : ∀ σ H Q, tT X W (mTest m) σ H Q → tTest t σ H Q := fun σ H Q h => by
  obtain ⟨C, ρ, S, e, s, q⟩ := h
  subst e
  refine k σ C.H _ (tE.bind s q fun d1 S1 C1 v1 s1 g1 r1 q1 => ?_)
  unfold toB at q1
  split at q1
  · exact ⟨_, vBl r1, q1.now s1.rs⟩
  · exact q1.elim
theorem st_cmp {op : CmpOp} {f : MV → MV → Sto → R MV} (ho : OpR X (compareOp op) (rOf X f)) (hf : Pure2 f) (hm : behindInMarks op b = false) (ha : SE X W a ma) (hb : SE X W b mb) : ST X W (.Compare a [op] [b] pos) (mTest (mOp f ma mb)) :=
  (pt_cmpR ho ha hb hm).imp (tTest_imp fun σ H Q h => op_imp hf h)
theorem st_val (h : SE X W e ma) (he : ∀ whole, isTrue e X.env whole = (do let v ← whole; standAt e.pos; holding [v] (truthy v)) := by intro _; rfl) : ST X W e (mTest ma) :=
  (pt_val h he).imp (tTest_imp fun σ H Q h => h)
theorem chain_imp {f g : MV → MV → Sto → R MV} {σ : L2.St} {H : Hp} {Q : VK} (hf : Pure2 f) (hg : Pure2 g) (h : tE X W (mChain f g ma mb mc) σ H Q) : tChain (rOf X f) (rOf X g) (tE X W ma) (tE X W mb) (tE X W mc) σ H Q := by
  obtain ⟨C, ρ, S, e, s, q⟩ := h
  subst e
  refine tE.bind s q fun d1 S1 C1 v1 s1 g1 r1 q1 => ?_
  refine tE.bind s1 q1 fun d2 S2 C2 v2 s2 g2 r2 q2 => ?_
  refine ⟨C2, S2, d1, d2, rfl, s2.w, s2.K, s2.rs, r1.grow g2 s1.rs, r2, ?_⟩
  cases e : f d1 d2 S2 with
  | exc c d S' => exact absurd e (hf _ _ _ _ _ _)
  | stk => rw [e] at q2; exact q2.elim
  | ok z S' =>
    rw [e] at q2
    refine ⟨z, S', rfl, fun C3 g3 rs3 v rv => ?_⟩
    have q3 : Wants W σ C2 ((toB z S').bind fun k S4 => if k then (mc ρ S4).bind fun u S5 => g d2 u S5 else .ok (.bl false) S4) _ := q2
    unfold toB at q3
    split at q3
    · rename_i k
      refine ⟨k, vBl rv, ?_⟩
      have s3 := s2.grow g3 rs3
      rw [R.bind_ok] at q3
      cases k with
      | true =>
        have q4 : Wants W σ C3 ((mc ρ S').bind fun u S5 => g d2 u S5) (fun d _ C' => ∀ v, RepV C' d v → Q v C'.H) := by
          revert q3
          rw [if_pos rfl]
          cases ((mc ρ S').bind fun u S5 => g d2 u S5) with
          | ok b S2 => exact fun h C2 g2 r2 => h C2 (g3.trans g2) r2
          | exc c d S2 => exact fun h C2 cls dx g2 r2 e => h C2 cls dx (g3.trans g2) r2 e
          | stk => exact fun h => h
        rw [if_pos rfl]
        refine tE.bind s3 q4 fun d3 S4 C4 v3 s4 g4 r3 q5 => ?_
        refine ⟨C4, S4, d2, d3, rfl, s4.w, s4.K, s4.rs, (r2.grow g3 s2.rs).grow g4 s3.rs, r3, ?_⟩
        cases e : g d2 d3 S4 with
        | ok a S' =>
          rw [e] at q5
          exact ⟨a, S', rfl, q5⟩
        | exc c d S' => exact absurd e (hg _ _ _ _ _ _)
        | stk => rw [e] at q5; exact q5.elim
      | false =>
        rw [if_neg (by decide)] at q3 ⊢
        exact q3.here g3 rs3 _ (repB _)
    · exact q3.elim
theorem se_chain {op op' : CmpOp} {f g : MV → MV → Sto → R MV} (ho : OpR X (compareOp op) (rOf X f)) (hf : Pure2 f) (ho' : OpR X (compareOp op') (rOf X g)) (hg : Pure2 g) (ha : SE X W a ma) (hb : SE X W b mb) (hc : SE X W c mc)
    (hm : lastMarks [op, op'] [b, c] = false := by with_unfolding_all rfl) : SE X W (.Compare a [op, op'] [b, c] pos) (mChain f g ma mb mc) := (pe_chain ho ho' ha hb hc hm).imp fun σ H Q h => chain_imp hf hg h
theorem st_chain {op op' : CmpOp} {f g : MV → MV → Sto → R MV} (ho : OpR X (compareOp op) (rOf X f)) (hf : Pure2 f) (ho' : OpR X (compareOp op') (rOf X g)) (hg : Pure2 g) (ha : SE X W a ma) (hb : SE X W b mb) (hc : SE X W c mc)
    (hm : lastMarks [op, op'] [b, c] = false := by with_unfolding_all rfl) : ST X W (.Compare a [op, op'] [b, c] pos) (mTest (mChain f g ma mb mc)) := (pt_chain ho ho' ha hb hc hm).imp (tTest_imp fun σ H Q h => chain_imp hf hg h)
theorem st_not (ha : ST X W a mt) : ST X W (.UnaryOp .Not a pos) (mNot mt) :=
  (pt_not ha).imp fun σ H Q ⟨C, ρ, S, e, s, q⟩ => by
    subst e
    exact tT.bind s q fun d S1 C1 s1 g1 q1 => q1.now s1.rs
variable {rest : List Expr}
theorem sw_and1 (ha : ST X W a mt) : SW X W (.BoolOp .And [a] pos) mt := pw_and1 ha
theorem sw_or1 (ha : ST X W a mt) : SW X W (.BoolOp .Or [a] pos) mt := pw_or1 ha
theorem sw_and (ha : ST X W a mt) (hb : SW X W (.BoolOp .And (b :: rest) pos) mu) : SW X W (.BoolOp .And (a :: b :: rest) pos) (mAnd mt mu) :=
  (pw_and ha hb).imp fun σ H Q ⟨C, ρ, S, e, s, q⟩ => by
    subst e
    refine tT.bind s q fun d S1 C1 s1 g1 q1 => ?_
    cases d with
    | true => rw [if_pos rfl] at q1 ⊢; exact ⟨C1, ρ, S1, rfl, s1, q1⟩
    | false => rw [if_neg (by decide)] at q1 ⊢; exact q1.now s1.rs
theorem sw_or (ha : ST X W a mt) (hb : SW X W (.BoolOp .Or (b :: rest) pos) mu) : SW X W (.BoolOp .Or (a :: b :: rest) pos) (mOr mt mu) :=
  (pw_or ha hb).imp fun σ H Q ⟨C, ρ, S, e, s, q⟩ => by
    subst e
    refine tT.bind s q fun d S1 C1 s1 g1 q1 => ?_
    cases d with
    | false => rw [if_neg (by decide)] at q1 ⊢; exact ⟨C1, ρ, S1, rfl, s1, q1⟩
    | true => rw [if_pos rfl] at q1 ⊢; exact q1.now s1.rs
theorem st_w (h : SW X W e mt) : ST X W e mt := h.pt
theorem se_one {op} (h : SE X W a ma) : SE X W (.BoolOp op [a] pos) ma := pe_one h
theorem tB_step {C : RC} {ρ : Ev} {S : Sto} {σ : L2.St} {β : Type} {f : Bool → Sto → R β} {Q : β → Sto → RC → Prop} {Q1 : VK} (s : Sv X ρ σ S C) (h : Wants W σ C ((mTest ma ρ S).bind f) Q)
    (k : ∀ b S1 C1, Sv X ρ σ S1 C1 → Grow C C1 → Wants W σ C1 (f b S1) Q → Q1 (.bl b) C1.H) : tE X W ma σ C.H Q1 := by
  have h' : Wants W σ C ((ma ρ S).bind fun d S1 => (toB d S1).bind f) Q := by
    unfold mTest at h
    cases e : ma ρ S with
    | ok a S' => rw [e] at h; exact h
    | exc c d S' => rw [e] at h; exact h
    | stk => rw [e] at h; exact h
  refine tE.bind s h' fun d S1 C1 v s1 g r q => ?_
  unfold toB at q
  split at q
  · rw [vBl r]
    exact k _ S1 C1 s1 g q
  · exact q.elim
theorem se_and (ha : SE X W a ma) (hb : SE X W (.BoolOp .And (b :: rest) pos) mb) : SE X W (.BoolOp .And (a :: b :: rest) pos) (mAndV ma mb) :=
  (pe_and ha hb).imp fun σ H Q ⟨C, ρ, S, e, s, q⟩ => by
    subst e
    refine tB_step s q fun d S1 C1 s1 g1 q1 => ⟨d, rfl, ?_⟩
    cases d with
    | true => rw [if_pos rfl] at q1 ⊢; exact ⟨C1, ρ, S1, rfl, s1, q1⟩
    | false => rw [if_neg (by decide)] at q1 ⊢; exact q1.now s1.rs _ (repB _)
theorem se_or (ha : SE X W a ma) (hb : SE X W (.BoolOp .Or (b :: rest) pos) mb) : SE X W (.BoolOp .Or (a :: b :: rest) pos) (mOrV ma mb) :=
  (pe_or ha hb).imp fun σ H Q ⟨C, ρ, S, e, s, q⟩ => by
    subst e
    refine tB_step s q fun d S1 C1 s1 g1 q1 => ⟨d, rfl, ?_⟩
    cases d with
    | false => rw [if_neg (by decide)] at q1 ⊢; exact ⟨C1, ρ, S1, rfl, s1, q1⟩
    | true => rw [if_pos rfl] at q1 ⊢; exact q1.now s1.rs _ (repB _)
theorem se_not (ha : SE X W a ma) : SE X W (.UnaryOp .Not a pos) (mNotV ma) :=
  (pe_not ha).imp fun σ H Q ⟨C, ρ, S, e, s, q⟩ => by
    subst e
    exact tB_step s q fun d S1 C1 s1 g1 q1 => ⟨d, rfl, q1.now s1.rs _ (repB _)⟩
theorem se_if (hc : ST X W c mt) (ha : SE X W a ma) (hb : SE X W b mb) : SE X W (.IfExp c a b pos) (mIf mt ma mb) :=
  (pe_ifExp hc ha hb).imp fun σ H Q ⟨C, ρ, S, e, s, q⟩ => by
    subst e
    refine tT.bind s q fun d S1 C1 s1 g1 q1 => ?_
    cases d with
    | true => rw [if_pos rfl] at q1 ⊢; exact ⟨C1, ρ, S1, rfl, s1, q1⟩
    | false => rw [if_neg (by decide)] at q1 ⊢; exact ⟨C1, ρ, S1, rfl, s1, q1⟩
theorem sa_nil : SA X W [] mNil := pa_nil.imp fun σ H Q ⟨C, ρ, S, e, s, q⟩ => by
  subst e
  exact q.now s.rs [] .nil
theorem sa_cons (ha : SE X W e ma) (hr : SA X W es mas) (hs : starEach (e :: es) X.env = (false, eval e X.env) :: starEach es X.env := by rfl) : SA X W (e :: es) (mCons ma mas) :=
  (pa_cons ha hr hs).imp fun σ H Q ⟨C, ρ, S, e, s, q⟩ => by
    subst e
    refine tE.bind s q fun d1 S1 C1 v1 s1 g1 r1 q1 => ?_
    refine tA.bind s1 q1 fun d2 S2 C2 v2 s2 g2 r2 q2 => ?_
    exact q2.now s2.rs _ (.cons (r1.grow g2 s1.rs) r2)
/-- how many -/
def LenA (m : MA) (n : Nat) : Prop := ∀ ρ S ds S', m ρ S = .ok ds S' → ds.length = n
theorem lenNil : LenA mNil 0 := fun ρ S ds S' e => by cases e; rfl
theorem R.bind_ok' {α β : Type} {r : R α} {f : α → Sto → R β} {b : β} {S' : Sto} (h : r.bind f = .ok b S') : ∃ a S1, r = .ok a S1 ∧ f a S1 = .ok b S' := by
  cases r with
  | ok a S => exact ⟨a, S, rfl, h⟩
  | exc c d S => cases h
  | stk => cases h
theorem lenCons {n : Nat} (h : LenA mas n) : LenA (mCons ma mas) (n + 1) := fun ρ S ds S' e => by
  obtain ⟨x, S1, _, e⟩ := R.bind_ok' e
  obtain ⟨xs, S2, e2, e⟩ := R.bind_ok' e
  cases e
  rw [List.length_cons, h _ _ _ _ e2]
theorem se_tup {x1} {n : Nat} (h : SA X W es mas) (hl : LenA mas n) (hn : n ≤ 1000) : SE X W (.Tuple es x1 pos) (mTup mas) :=
  (pe_tup h).imp fun σ H Q ⟨C, ρ, S, e, s, q⟩ => by
    subst e
    refine ⟨C, ρ, S, rfl, s, ?_⟩
    refine Wants.mono (Wants.bind q) fun ds S1 C1 g r1 e1 q1 vs rv => ?_
    have hn' : vs.length ≤ sizeLine := by rw [← rv.length, hl _ _ _ _ e1, sizeLine_eq]; omega
    exact ⟨hn', newTup r1 rv fun C' g' r' v rv' => q1.1.here g' r' v rv'⟩
theorem se_lst {n : Nat} (h : SA X W es mas) (hl : LenA mas n) (hn : n ≤ 1000) : SE X W (.List es pos) (mLst mas) :=
  (pe_lst h).imp fun σ H Q ⟨C, ρ, S, e, s, q⟩ => by
    subst e
    refine ⟨C, ρ, S, rfl, s, ?_⟩
    refine Wants.mono (Wants.bind q) fun ds S1 C1 g r1 e1 q1 vs rv => ?_
    have hn' : vs.length ≤ sizeLine := by rw [← rv.length, hl _ _ _ _ e1, sizeLine_eq]; omega
    exact ⟨hn', newLst r1 rv fun C' g' r' v rv' => q1.1.here g' r' v rv'⟩
theorem se_cell {n : Nat} (h : SA X W es mas) (hl : LenA mas n) (hn : n ≤ 1000) : SE X W (.List es pos) (mCell mas) :=
  (pe_lst h).imp fun σ H Q ⟨C, ρ, S, e, s, q⟩ => by
    subst e
    refine ⟨C, ρ, S, rfl, s, ?_⟩
    refine Wants.mono (Wants.bind q) fun ds S1 C1 g r1 e1 q1 vs rv => ?_
    have hn' : vs.length ≤ sizeLine := by rw [← rv.length, hl _ _ _ _ e1, sizeLine_eq]; omega
    exact ⟨hn', newCell r1 rv fun C' g' r' v rv' => q1.1.here g' r' v rv'⟩
theorem se_ix (hu : X.A.units + 1 < cLine) (hs : PlainIx b) (ha : SE X W a ma) (hb : SE X W b mb) (hf : Pure2 idxM) : SE X W (.Subscript a b pos) (mOp idxM ma mb) :=
  (pe_ix (ixM hu) ha hb hs).imp fun σ H Q h => op_imp hf h
theorem cf_imp {f : List MV → Sto → R MV} {σ : L2.St} {H : Hp} {Q : VK} (hf : ∀ ds S c d S', f ds S ≠ .exc c d S') (h : tE X W (mCallF f mas) σ H Q) : tCB (rCf X f) (tA X W mas) σ H Q := by
  obtain ⟨C, ρ, S, e, s, q⟩ := h
  subst e
  refine tA.bind s q fun ds S1 C1 vs s1 g1 r1 q1 => ?_
  refine ⟨C1, S1, ds, rfl, s1.w, s1.K, s1.rs, r1, ?_⟩
  cases e : f ds S1 with
  | ok a S' =>
    rw [e] at q1
    exact ⟨a, S', rfl, q1⟩
  | exc c d S' => exact absurd e (hf _ _ _ _ _)
  | stk => rw [e] at q1; exact q1.elim
def Pure1 (f : List MV → Sto → R MV) : Prop := ∀ ds S c d S', f ds S ≠ .exc c d S'
theorem se_callB {x : Str} {id : String} {p : Pos} {f : List MV → Sto → R MV} (hc : CallR X (.builtin id) (rCf X f)) (hf : Pure1 f) (hg : Gl X x) (hm : X.mg x = none) (hv : bootBuiltins x = some (.builtin id)) (ha : SA X W (e :: es) mas) (hn : x ≠ "__name__" := by decide) (hdb : (x == ("__debug__" : Str)) = false := by decide)
    (he : starEach (e :: es) X.env = (false, eval e X.env) :: starEach es X.env := by rfl) (hpl : (backTo pos (starEach es X.env)).any (·.1) = false := by rfl) : SE X W (.Call (.Name x p) (e :: es) [] pos) (mCallF f mas) :=
  (pe_callB hc hg hm hv ha hn hdb he hpl).imp fun σ H Q h => cf_imp hf h
theorem se_callTy {x : Str} {id : String} {p : Pos} {f : List MV → Sto → R MV} (hc : CallR X (.type id) (rCf X f)) (hf : Pure1 f) (hg : Gl X x) (hm : X.mg x = none) (hv : bootBuiltins x = some (.type id)) (ha : SA X W (e :: es) mas) (hn : x ≠ "__name__" := by decide) (hdb : (x == ("__debug__" : Str)) = false := by decide)
    (he : starEach (e :: es) X.env = (false, eval e X.env) :: starEach es X.env := by rfl) (hpl : (backTo pos (starEach es X.env)).any (·.1) = false := by rfl) : SE X W (.Call (.Name x p) (e :: es) [] pos) (mCallF f mas) :=
  (pe_callTy hc hg hm hv ha hn hdb he hpl).imp fun σ H Q h => cf_imp hf h
end
theorem pu_add : Pure2 addM := by
  intro a b S c d S' h
  unfold addM at h
  split at h
  · cases h
  · split at h <;> cases h
  · split at h <;> cases h
  · unfold addL at h
    split at h
    · split at h <;> cases h
    · cases h
theorem pu_sub : Pure2 subM := by intro a b S c d S' h; unfold subM at h; split at h <;> cases h
theorem pu_mod : Pure2 modM := by intro a b S c d S' h; unfold modM at h; split at h; (split at h <;> cases h); cases h
theorem pu_fdiv : Pure2 fdivM := by intro a b S c d S' h; unfold fdivM at h; split at h; (split at h <;> cases h); cases h
theorem pu_pow : Pure2 powM := by intro a b S c d S' h; unfold powM at h; split at h; (split at h <;> cases h); cases h
theorem pu_mul : Pure2 mulM := by
  intro a b S c d S' h
  unfold mulM at h
  split at h
  all_goals first
    | (cases h; done)
    | (split at h <;> first | (cases h; done) | (split at h <;> cases h; done))
theorem pu_eq : Pure2 eqM := by intro a b S c d S' h; unfold eqM at h; split at h <;> cases h
theorem pu_ne : Pure2 neM := by intro a b S c d S' h; unfold neM at h; split at h <;> cases h
theorem pu_is : Pure2 isM := by intro a b S c d S' h; unfold isM at h; split at h <;> cases h
theorem pu_isn : Pure2 isnM := by intro a b S c d S' h; unfold isnM at h; split at h <;> cases h
theorem pu_in : Pure2 inM := by intro a b S c d S' h; unfold inM at h; split at h <;> cases h
theorem pu_nin : Pure2 ninM := by intro a b S c d S' h; unfold ninM at h; split at h <;> cases h
theorem pu_cmpI {f : Int → Int → Bool} : Pure2 (cmpI f) := by intro a b S c d S' h; unfold cmpI at h; split at h <;> cases h
theorem pu_ix : Pure2 idxM := by
  intro a b S c d S' h
  unfold idxM at h
  split at h
  · split at h
    · split at h <;> first | (cases h; done) | (split at h <;> cases h; done)
    · cases h
  · unfold idxD at h
    split at h
    · split at h <;> cases h
    · cases h
end Mi
set_option Elab.async false
set_option linter.all false
set_option maxRecDepth 100000
set_option maxHeartbeats 2000000
namespace Mi
open PySem PySem.Spec PyProof.Rows L2
inductive RS where
  | nx (ρ : Ev) (S : Sto)
  | rt (d : MV) (S : Sto)
  | exc (c : Str) (d : MV) (ρ : Ev) (S : Sto)
  | stk
abbrev MS := Ev → Sto → RS
def WantS (W : WX) (D : Ends) (C : RC) : RS → Prop
  | .nx ρ S => ∀ C' σ', Grow C C' → RepS C' S → EnvR C' ρ σ' → ρ.length = σ'.length → D.nx σ' C'.H
  | .rt d S => ∀ C' v, Grow C C' → RepS C' S → RepV C' d v → D.rt v C'.H
  | .exc c d ρ S => ∀ C' σ' cls dx, Grow C C' → RepS C' S → EnvR C' ρ σ' → ρ.length = σ'.length → ExcR C' c d cls dx → W cls dx σ' C'.H
  | .stk => False
def tS (X : Cx) (W : WX) (m : MS) : TS := fun D σ H => ∃ C ρ S, C.H = H ∧ Sv X ρ σ S C ∧ WantS W D C (m ρ S)
abbrev SS (X : Cx) (W : WX) (st : Stmt) (m : MS) : Prop := PS X st (tS X W m)
abbrev SSs (X : Cx) (W : WX) (st : List Stmt) (m : MS) : Prop := PSs X st (tS X W m)
theorem WantS.grow {W : WX} {D : Ends} {C C1 : RC} {r : RS} (h : WantS W D C r) (g : Grow C C1) : WantS W D C1 r := by
  cases r with
  | nx ρ S => exact fun C' σ' g' r' e l => h C' σ' (g.trans g') r' e l
  | rt d S => exact fun C' v g' r' e => h C' v (g.trans g') r' e
  | exc c d ρ S => exact fun C' σ' cls dx g' r' e l x => h C' σ' cls dx (g.trans g') r' e l x
  | stk => exact h
def R.thn {α : Type} (r : R α) (ρ : Ev) (k : α → Sto → RS) : RS := match r with
  | .ok a S => k a S
  | .exc c d S => .exc c d ρ S
  | .stk => .stk
@[simp] theorem R.thn_ok {α : Type} (a : α) (S : Sto) (ρ : Ev) (f : α → Sto → RS) : (R.ok a S).thn ρ f = f a S := rfl
@[simp] theorem R.thn_exc {α : Type} (c : Str) (d : MV) (S : Sto) (ρ : Ev) (f : α → Sto → RS) : (R.exc c d S : R α).thn ρ f = .exc c d ρ S := rfl
@[simp] theorem R.thn_stk {α : Type} (ρ : Ev) (f : α → Sto → RS) : (R.stk : R α).thn ρ f = .stk := rfl
theorem WantS.thn {α : Type} {X : Cx} {W : WX} {D : Ends} {C : RC} {ρ : Ev} {σ : L2.St} {S : Sto} {r : R α} {k : α → Sto → RS} (s : Sv X ρ σ S C) (h : WantS W D C (r.thn ρ k)) :
    Wants W σ C r (fun a S1 C1 => WantS W D C1 (k a S1) ∧ Grow C C1) := by
  cases r with
  | ok a S' => exact fun C1 g r1 => ⟨WantS.grow h g, g⟩
  | exc c d S' => exact fun C1 cls dx g r1 e => h C1 σ cls dx g r1 (s.ev.grow g s.rs) s.ln e
  | stk => exact h
section
variable {X : Cx} {W : WX} {D : Ends} {σ : L2.St} {C : RC} {ρ : Ev} {S : Sto}
theorem tE.thn {m : ME} {k : MV → Sto → RS} {Q1 : VK} (s : Sv X ρ σ S C) (h : WantS W D C ((m ρ S).thn ρ k))
    (z : ∀ d S1 C1 v, Sv X ρ σ S1 C1 → Grow C C1 → RepV C1 d v → WantS W D C1 (k d S1) → Q1 v C1.H) : tE X W m σ C.H Q1 :=
  ⟨C, ρ, S, rfl, s, (WantS.thn s h).mono fun d S1 C1 g r _ q v hv => z d S1 C1 v (s.grow g r) g hv q.1⟩
theorem tT.thn {m : MT} {k : Bool → Sto → RS} {Q1 : Bool → Hp → Prop} (s : Sv X ρ σ S C) (h : WantS W D C ((m ρ S).thn ρ k))
    (z : ∀ d S1 C1, Sv X ρ σ S1 C1 → Grow C C1 → WantS W D C1 (k d S1) → Q1 d C1.H) : tT X W m σ C.H Q1 :=
  ⟨C, ρ, S, rfl, s, (WantS.thn s h).mono fun d S1 C1 g r _ q => z d S1 C1 (s.grow g r) g q.1⟩
end
def mNext : MS := fun ρ S => .nx ρ S
def mSeq (a b : MS) : MS := fun ρ S => match a ρ S with
  | .nx ρ1 S1 => b ρ1 S1
  | r => r
def mIfS (c : MT) (a b : MS) : MS := fun ρ S => (c ρ S).thn ρ fun x S1 => if x then a ρ S1 else b ρ S1
def mRet (e : ME) : MS := fun ρ S => (e ρ S).thn ρ fun d S1 => .rt d S1
def mRetN : MS := fun ρ S => .rt .non S
def mDrop (e : ME) : MS := fun ρ S => (e ρ S).thn ρ fun _ S1 => .nx ρ S1
/-- targets -/
structure Tg where
  f : MV → Ev → Option Ev
  ix : List Nat
structure Tgs where
  f : List MV → Ev → Option Ev
  ix : List Nat
  n : Nat
def oS (o : Option Ev) (S : Sto) : RS := match o with
  | some ρ => .nx ρ S
  | none => .stk
def mAsg (e : ME) (g : Tg) : MS := fun ρ S => (e ρ S).thn ρ fun d S1 => oS (g.f d ρ) S1
def tgName (i : Nat) : Tg := ⟨fun d ρ => some (ρ.set i (some d)), [i]⟩
def tgNil : Tgs := ⟨fun ds ρ => match ds with
  | [] => some ρ
  | _ => none, [], 0⟩
def tgCons (t : Tg) (u : Tgs) : Tgs := ⟨fun ds ρ => match ds with
  | d :: r => (t.f d ρ).bind (u.f r)
  | [] => none, t.ix ++ u.ix, u.n + 1⟩
def tgTup (u : Tgs) : Tg := ⟨fun d ρ => match d with
  | .tup xs => if xs.length = u.n then u.f xs ρ else none
  | _ => none, u.ix⟩
def tG (X : Cx) (t : Tg) : TG := fun v σ H Q => ∃ C ρ S d ρ', C.H = H ∧ Sv X ρ σ S C ∧ RepV C d v ∧ t.f d ρ = some ρ' ∧ ∀ σ', EnvR C ρ' σ' → ρ'.length = σ'.length → σ'.length = σ.length → (∀ vs, (∀ i ∈ t.ix, i ∈ vs) → wipe σ' vs = wipe σ vs) → Q σ' H
def tGs (X : Cx) (t : Tgs) : TGs := fun vs σ H Q => ∃ C ρ S ds ρ', C.H = H ∧ Sv X ρ σ S C ∧ RepVs C ds vs ∧ t.f ds ρ = some ρ' ∧ ∀ σ', EnvR C ρ' σ' → ρ'.length = σ'.length → σ'.length = σ.length → (∀ vs, (∀ i ∈ t.ix, i ∈ vs) → wipe σ' vs = wipe σ vs) → Q σ' H
theorem _root_.L2.PG.imp {X : Cx} {tg : Expr} {t t' : TG} (h : PG X tg t) (k : ∀ v σ H Q, t' v σ H Q → t v σ H Q) : PG X tg t' := ⟨fun pins s σ H v u Q I r q => h.run pins s σ H v u Q I r (k v σ H Q q)⟩
theorem _root_.L2.PGs.imp {X : Cx} {tg : List Expr} {t t' : TGs} (h : PGs X tg t) (k : ∀ v σ H Q, t' v σ H Q → t v σ H Q) : PGs X tg t' := ⟨fun pins s σ H v u Q I r q => h.run pins s σ H v u Q I r (k v σ H Q q)⟩
abbrev SG (X : Cx) (tg : Expr) (t : Tg) : Prop := PG X tg (tG X t)
abbrev SGs (X : Cx) (tg : List Expr) (t : Tgs) : Prop := PGs X tg (tGs X t)
theorem wipe_get (σ : L2.St) : ∀ (vs : List Nat) (j : Nat), (wipe σ vs)[j]? = if j ∈ vs then (σ[j]?).map (fun _ => none) else σ[j]?
  | [], j => by simp [wipe]
  | v :: vs, j => by
    unfold wipe
    by_cases hj : v = j
    · subst hj
      by_cases hl : v < (wipe σ vs).length
      · rw [List.getElem?_set_self hl]
        have : v < σ.length := by rw [wipe_length] at hl; exact hl
        simp [this]
      · rw [List.getElem?_eq_none (by simpa using hl)]
        have : ¬ v < σ.length := by rw [wipe_length] at hl; exact hl
        simp [this]
    · rw [List.getElem?_set_ne hj, wipe_get σ vs j]
      have : (j ∈ v :: vs) ↔ j ∈ vs := by simp [Ne.symm hj]
      simp only [this]
theorem wipe_set (σ : L2.St) (i : Nat) (x : Option V) (vs : List Nat) (h : i ∈ vs) : wipe (σ.set i x) vs = wipe σ vs := by
  apply List.ext_getElem?; intro j
  rw [wipe_get, wipe_get]
  by_cases hj : j ∈ vs
  · rw [if_pos hj, if_pos hj]
    by_cases e : i = j
    · subst e
      by_cases hl : i < σ.length
      · simp [hl]
      · simp [hl]
    · rw [List.getElem?_set_ne e]
  · rw [if_neg hj, if_neg hj, List.getElem?_set_ne (fun e => hj (by rw [← e]; exact h))]
theorem wipe_wipe (σ : L2.St) (vs : List Nat) : wipe (wipe σ vs) vs = wipe σ vs := by
  apply List.ext_getElem?; intro j
  rw [wipe_get, wipe_get]
  by_cases hj : j ∈ vs
  · rw [if_pos hj, if_pos hj]
    cases σ[j]? <;> rfl
  · rw [if_neg hj, if_neg hj]
section
variable {X : Cx} {W : WX} {a b c e : Expr} {es : List Expr} {me : ME} {mt : MT} {pos : Pos} {st : Stmt} {sts sts' : List Stmt} {m m1 m2 : MS}
theorem sg_name {i : Nat} {x : Str} (hN : X.N.Nodup) (hi : X.N[i]? = some x) (hx : Loc X.env.scope x) (hf : X.fn x = true ∨ X.env.scope.names.lookup x = some .local := by first | exact .inl rfl | exact .inr rfl | assumption) : SG X (.Name x pos) (tgName i) :=
  (pg_name hN hi hx hf).imp fun v σ H Q ⟨C, ρ, S, d, ρ', e, s, r, e1, q⟩ => by
    subst e
    have e1 : some (ρ.set i (some d)) = some ρ' := e1
    cases e1
    exact q _ (s.ev.set s.ln r) (by simp [s.ln]) (by simp) fun vs h => wipe_set σ i _ vs (h i (by simp [tgName]))
theorem sgs_nil : SGs X [] tgNil := pgs_nil.imp fun v σ H Q ⟨C, ρ, S, d, ρ', e, s, r, e1, q⟩ => by
  subst e
  cases d with
  | nil =>
    have e1 : some ρ = some ρ' := e1
    cases e1
    rw [r.nil_inv]
    exact ⟨rfl, q σ s.ev s.ln rfl fun _ _ => rfl⟩
  | cons x xs => cases e1
theorem sgs_cons {t : Tg} {u : Tgs} (h1 : SG X e t) (h2 : SGs X es u) (hs : (assignEach (e :: es) X.env).map (·.2) = assign e X.env :: (assignEach es X.env).map (·.2) := by rfl) : SGs X (e :: es) (tgCons t u) :=
  (pgs_cons h1 h2 hs).imp fun v σ H Q ⟨C, ρ, S, d, ρ', e, s, r, e1, q⟩ => by
    subst e
    cases d with
    | nil => cases e1
    | cons x xs =>
      obtain ⟨v1, vr, rfl, r1, r2⟩ := r.cons_inv
      have e1 : (t.f x ρ).bind (u.f xs) = some ρ' := e1
      cases e2 : t.f x ρ with
      | none => rw [e2] at e1; cases e1
      | some ρ1 =>
        rw [e2] at e1
        have e1 : u.f xs ρ1 = some ρ' := e1
        refine ⟨v1, vr, rfl, C, ρ, S, x, ρ1, rfl, s, r1, e2, fun σ1 ev1 l1 l1' w1 => ?_⟩
        refine ⟨C, ρ1, S, xs, ρ', rfl, ⟨s.w, s.K, s.rs, ev1, l1⟩, r2, e1, fun σ2 ev2 l2 l2' w2 => q σ2 ev2 l2 (l2'.trans l1') fun vs hv => ?_⟩
        rw [w2 vs fun i hi => hv i (List.mem_append_right _ hi), w1 vs fun i hi => hv i (List.mem_append_left _ hi)]
theorem sg_tup {k : Nat} {u : Tgs} (hc : X.calm = true) (h : SGs X es u) (hn : (assignEach es X.env).length = u.n := by rfl) (hst : (assignEach es X.env).findIdx? (·.1) = none := by rfl) : SG X (.Tuple es k pos) (tgTup u) :=
  (pg_tup hc h hn hst).imp fun v σ H Q ⟨C, ρ, S, d, ρ', e, s, r, e1, q⟩ => by
    subst e
    cases d with
    | tup xs =>
      have e1 : (if xs.length = u.n then u.f xs ρ else none) = some ρ' := e1
      split at e1
      · rename_i hl
        rw [RepV] at r
        obtain ⟨p, vs, rfl, sq, t⟩ := r
        rw [s.K] at sq
        exact ⟨p, vs, rfl, sq, by rw [← t.length, hl], C, ρ, S, xs, ρ', rfl, s, t, e1, q⟩
      · cases e1
    | _ => cases e1
theorem ss_asg {g : Tg} (he : SE X W e me) (hg : SG X a g) (hs : swapsWithSole [a] e pos.line X.env = pure false := by rfl) (hw : swappedStores [a] e X.env = pure none := by rfl)
    (h1 : (assignEach [a] X.env).map (·.2) = [assign a X.env] := by rfl) : SS X W (.Assign [a] e pos) (mAsg me g) :=
  (ps_asg he hg hs hw h1).imp fun D σ H ⟨C, ρ, S, e, s, q⟩ => by
    subst e
    refine tE.thn s q fun d S1 C1 v s1 g1 r1 q1 => ?_
    unfold oS at q1
    split at q1
    · rename_i ρ' e1
      exact ⟨C1, ρ, S1, d, ρ', rfl, s1, r1, e1, fun σ' ev l _ _ => q1 C1 σ' Grow.refl s1.rs ev l⟩
    · exact q1.elim
theorem ss_set {i : Nat} {x : Str} {pos' : Pos} (hN : X.N.Nodup) (hi : X.N[i]? = some x) (hx : Loc X.env.scope x) (he : SE X W e me) (hs : swapsWith e (some (.Name x pos')) pos.line X.env = pure false := by rfl) (hf : X.fn x = true ∨ X.env.scope.names.lookup x = some .local := by first | exact .inl rfl | exact .inr rfl | assumption) :
    SS X W (.Assign [.Name x pos'] e pos) (mAsg me (tgName i)) :=
  (ps_set hN hi hx he hs hf).imp fun D σ H ⟨C, ρ, S, e, s, q⟩ => by
    subst e
    refine tE.thn s q fun d S1 C1 v s1 g1 r1 q1 => ?_
    exact q1 C1 _ Grow.refl s1.rs (s1.ev.set s1.ln r1) (by simp [s1.ln])
theorem sss_nil : SSs X W [] mNext := pss_nil.imp fun D σ H ⟨C, ρ, S, e, s, q⟩ => by
  subst e
  exact q C σ Grow.refl s.rs s.ev s.ln
theorem sss_cons (h1 : SS X W st m1) (h2 : SSs X W sts m2) : SSs X W (st :: sts) (mSeq m1 m2) :=
  (pss_cons h1 h2).imp fun D σ H ⟨C, ρ, S, e, s, q⟩ => by
    subst e
    refine ⟨C, ρ, S, rfl, s, ?_⟩
    unfold mSeq at q
    cases e : m1 ρ S with
    | nx ρ1 S1 =>
      rw [e] at q
      exact fun C' σ' g r ev l => ⟨C', ρ1, S1, rfl, ⟨g.w.trans s.w, g.K.trans s.K, r, ev, l⟩, q.grow g⟩
    | rt d S1 => rw [e] at q; exact q
    | exc c d ρ1 S1 => rw [e] at q; exact q
    | stk => rw [e] at q; exact q
theorem sss_one (h1 : SS X W st m1) : SSs X W [st] m1 := pss_one h1
theorem ss_if (hc : ST X W c mt) (ha : SSs X W sts m1) (hb : SSs X W sts' m2) : SS X W (.If c sts sts' pos) (mIfS mt m1 m2) :=
  (ps_if hc ha hb).imp fun D σ H ⟨C, ρ, S, e, s, q⟩ => by
    subst e
    refine tT.thn s q fun d S1 C1 s1 g1 q1 => ?_
    cases d with
    | true => rw [if_pos rfl] at q1 ⊢; exact ⟨C1, ρ, S1, rfl, s1, q1⟩
    | false => rw [if_neg (by decide)] at q1 ⊢; exact ⟨C1, ρ, S1, rfl, s1, q1⟩
theorem ss_ret (he : SE X W e me) : SS X W (.Return (some e) pos) (mRet me) :=
  (ps_ret he).imp fun D σ H ⟨C, ρ, S, e, s, q⟩ => by
    subst e
    exact tE.thn s q fun d S1 C1 v s1 g1 r1 q1 => q1 C1 v Grow.refl s1.rs r1
theorem ss_retN : SS X W (.Return none pos) mRetN := ps_retN.imp fun D σ H ⟨C, ρ, S, e, s, q⟩ => by
  subst e
  exact q C .non Grow.refl s.rs repN
theorem ss_expr (he : SE X W e me) (hs : swapsWith e none pos.line X.env = pure false := by rfl) : SS X W (.Expr e pos) (mDrop me) :=
  (ps_expr he hs).imp fun D σ H ⟨C, ρ, S, e, s, q⟩ => by
    subst e
    exact tE.thn s q fun d S1 C1 v s1 g1 r1 q1 => q1 C1 σ Grow.refl s1.rs s1.ev s1.ln
end
abbrev MF := List MV → Sto → R MV
def spM (w : World) (K : PySem.W.Frag) (n : Nat) (m : MF) : Sp := fun vs H Q E => vs.length = n ∧ ∃ C S ds, C.H = H ∧ C.w = w ∧ C.K = K ∧ RepS C S ∧ RepVs C ds vs ∧
  Wants (fun cls dx _ H' => E cls dx H') [] C (m ds S) (fun d _ C' => ∀ v, RepV C' d v → Q v C'.H)
theorem Wants.wish {α : Type} {W W' : WX} {σ σ' : L2.St} {C : RC} {r : R α} {Q : α → Sto → RC → Prop} (h : Wants W σ C r Q) (k : ∀ cls dx H, W cls dx σ H → W' cls dx σ' H) : Wants W' σ' C r Q := by
  cases r with
  | ok a S => exact h
  | exc c d S => exact fun C' cls dx g r e => k _ _ _ (h C' cls dx g r e)
  | stk => exact h
def toR : RS → R MV
  | .nx _ S => .ok .non S
  | .rt d S => .ok d S
  | .exc c d _ S => .exc c d S
  | .stk => .stk
def ev0 (N : Nat) (ds : List MV) : Ev := ds.map some ++ List.replicate (N - ds.length) none
def mFn (N : Nat) (body : MS) : MF := fun ds S => toR (body (ev0 N ds) S)
section
variable {X : Cx} {W : WX} {e : Expr} {es : List Expr} {mas : MA} {pos p : Pos} {k : Nat} {f : Addr} {fd : FuncData} {ps : List Str} {x : Str} {m : MF}
theorem se_call {n : Nat} (F : FnOk X.prog X.w X.K X.mg X.base (L2.CX X.prog X.w) k f fd ps (spM X.w X.K n m)) (hr : Room k X.A) (hg : Gl X x) (hm : X.mg x = some (.ref f)) (hk : PySem.W.keepIn X.K (.ref f) = true) (hb : Binds X.K fd ps []) (tk : Takes X W)
    (ha : SA X W (e :: es) mas) (hl : LenA mas n) (hdb : (x == ("__debug__" : Str)) = false := by decide) (he : starEach (e :: es) X.env = (false, eval e X.env) :: starEach es X.env := by rfl) (hpl : (backTo pos (starEach es X.env)).any (·.1) = false := by rfl) :
    SE X W (.Call (.Name x p) (e :: es) [] pos) (mCallF m mas) :=
  (pe_callS (E := WE W) F hr hg hm hk hb (passAt tk) ha hdb he hpl).imp fun σ H Q ⟨C, ρ, S, e, s, q⟩ => by
    subst e
    refine ⟨C, ρ, S, rfl, s, ?_⟩
    refine Wants.mono (Wants.bind q) fun ds S1 C1 g r1 e1 q1 vs rv => ?_
    refine ⟨by rw [← rv.length]; exact hl _ _ _ _ e1, C1, S1, ds, rfl, g.w.trans s.w, g.K.trans s.K, r1, rv, ?_⟩
    exact q1.1.wish fun cls dx H h => h
theorem se_call0 (F : FnOk X.prog X.w X.K X.mg X.base (L2.CX X.prog X.w) k f fd ps (spM X.w X.K 0 m)) (hr : Room k X.A) (hg : Gl X x) (hm : X.mg x = some (.ref f)) (hk : PySem.W.keepIn X.K (.ref f) = true) (hb : Binds X.K fd ps [])
    (hpure : ∀ S c d S', m [] S ≠ .exc c d S') (hdb : (x == ("__debug__" : Str)) = false := by decide) :
    SE X W (.Call (.Name x p) [] [] pos) (mCallF m mNil) :=
  (pe_call0 (E := fun _ _ _ => False) (dvs := []) (ds := []) F hr hg hm hk hb .nil (fun pins σ H s e s' I c => by
    obtain ⟨_, _, _, _, _, _, _, _, _, _, _, _, h⟩ := c
    exact h.elim) hdb).imp fun σ H Q ⟨C, ρ, S, e, s, q⟩ => by
    subst e
    refine ⟨rfl, C, S, [], rfl, s.w, s.K, s.rs, .nil, ?_⟩
    have q : Wants W σ C (m [] S) (fun d _ C' => ∀ v, RepV C' d v → Q v C'.H) := q
    cases e : m [] S with
    | ok d S' => rw [e] at q; exact q
    | exc c d S' => exact absurd e (hpure _ _ _ _)
    | stk => rw [e] at q; exact q
end
theorem env_start {C : RC} {ds : List MV} {vs : List V} {N : List Str} (t : RepVs C ds vs) : EnvR C (ev0 N.length ds) (L2.start N vs) := fun i d e => by
  unfold ev0 at e
  by_cases hi : i < ds.length
  · rw [List.getElem?_append_left (by simpa using hi), List.getElem?_map] at e
    cases e1 : ds[i]? with
    | none => rw [e1] at e; cases e
    | some d' =>
      rw [e1] at e
      have : d' = d := by simpa using e
      subst this
      obtain ⟨v, h1, h2⟩ := t.get e1
      refine ⟨v, ?_, h2⟩
      unfold L2.start
      have hv : i < vs.length := by rw [← t.length]; exact hi
      rw [List.getElem?_append_left (by simpa using hv), List.getElem?_map, h1]
      rfl
  · rw [List.getElem?_append_right (by simpa using hi), List.getElem?_replicate] at e
    split at e <;> cases e
/-- a def's body gives its promise -/
theorem body_ok {X : Cx} {body : List Stmt} {m : MS} {N : List Str} {vs : List V} {H : Hp} {Q : VK} {E : XK} {n : Nat} (hN : n ≤ N.length) (hb : SSs X (fun cls dx _ H' => E cls dx H') body m) (hsp : spM X.w X.K n (mFn N.length m) vs H Q E) :
    ∃ t, PSs X body t ∧ t { nx := fun _ H' => Q .non H', rt := Q } (L2.start N vs) H := by
  refine ⟨_, hb, ?_⟩
  obtain ⟨hl, C, S, ds, rfl, hw, hK, r, t, q⟩ := hsp
  have hld := t.length
  refine ⟨C, ev0 N.length ds, S, rfl, ⟨hw, hK, r, env_start t, ?_⟩, ?_⟩
  · unfold ev0 L2.start
    simp [hld]
  · unfold mFn at q
    cases e : m (ev0 N.length ds) S with
    | nx ρ S1 =>
      rw [e] at q
      exact fun C' σ' g r' ev l => q C' g r' .non repN
    | rt d S1 => rw [e] at q; exact fun C' v g r' rv => q C' g r' v rv
    | exc c d ρ S1 => rw [e] at q; exact fun C' σ' cls dx g r' ev l x => q C' cls dx g r' x
    | stk => rw [e] at q; exact q
end Mi
set_option Elab.async false
set_option linter.all false
set_option maxRecDepth 100000
set_option maxHeartbeats 2000000
namespace Mi
open PySem PySem.Spec PyProof.Rows L2
def SqK (K : PySem.W.Frag) : Bool → Hp → Addr → List V → Prop
  | true, H, a, xs => SqT K H a xs
  | false, H, a, xs => SqL K H a xs
def ItK : Bool → Heap → Addr → Addr → Nat → Prop
  | true, h, it, a, i => h.IsTupleIter it a i
  | false, h, it, a, i => h.IsListIter it a i
def CoK : Bool → Heap → Addr → Array Value → Prop
  | true, h, a, its => h.IsTuple a its
  | false, h, a, its => h.IsList a its
def obK : Bool → Addr → Obj
  | true, a => { cls := .type "tuple_iterator", data := .fields #[.ref a, .int 0 0] }
  | false, a => { cls := .type "list_iterator", data := .fields #[.ref a, .int 0 0] }
theorem drawsK {prog : Program} {w : World} {A : Around} (hh : A.handled = none) (it a : Addr) (hne : a ≠ it) : ∀ (t : Bool) (items : Array Value),
    Draws prog w A it [it, a] items.size (fun i v => items[i]? = some v) (fun i h => ItK t h it a i ∧ CoK t h a items)
  | true, items => Draws.tuple hh it a hne items
  | false, items => Draws.list hh it a hne items
theorem beginsK (a : Addr) (items : Array Value) : ∀ t : Bool, Begins (.ref a) (obK t a) fun h => CoK t h a items
  | true => begins_tuple a items
  | false => begins_list a items
theorem itK_new {h : Heap} {it a : Addr} : ∀ {t : Bool}, h.get? it = some (obK t a) → ItK t h it a 0
  | true, e => ⟨_, e, rfl, rfl⟩
  | false, e => ⟨_, e, rfl, rfl⟩
theorem itK_obj {h : Heap} {it a : Addr} {i : Nat} : ∀ {t : Bool}, ItK t h it a i → ∃ o, h.get? it = some o ∧ ∀ v, o.data ≠ .cell v
  | true, ⟨o, e, _, d⟩ => ⟨o, e, fun v z => by rw [d] at z; cases z⟩
  | false, ⟨o, e, _, d⟩ => ⟨o, e, fun v z => by rw [d] at z; cases z⟩
theorem itK_at {h h' : Heap} {it a : Addr} {i : Nat} : ∀ {t : Bool}, ItK t h it a i → (∀ o, h.get? it = some o → h'.get? it = some o) → ItK t h' it a i
  | true, st, k => Heap.IsTupleIter.at st k
  | false, st, k => Heap.IsListIter.at st k
section
variable {X : Cx} {pins : List (Addr × Obj)} {σ : L2.St} {H : Hp} {s : Shared} {a : Addr} {xs ys : List V}
theorem seqK (I : Inv X pins σ H s) : ∀ {t : Bool}, SqK X.K t H a xs → ∃ its : List Value, Vals xs its ∧ CoK t s.heap a its.toArray ∧ a < s.heap.objs.size
  | true, h => by
    obtain ⟨its, rv, p, _⟩ := I.tuple h
    obtain ⟨o, e, _⟩ := id p
    exact ⟨its, rv, p, Heap.lt_size e⟩
  | false, h => by
    obtain ⟨its, rv, p, _⟩ := I.list h
    exact ⟨its, rv, p.isList, p.lt⟩
theorem injK (I : Inv X pins σ H s) : ∀ {t : Bool}, SqK X.K t H a xs → SqK X.K t H a ys → xs = ys
  | true, h, h' => I.tuple_inj h h'
  | false, h, h' => I.list_inj h h'
end
/-- two sources, three sources, the items in a new tuple -/
def ItZ2 (K : PySem.W.Frag) (t1 t2 : Bool) (a b : Addr) : It :=
  ⟨fun i H => ∃ (xs ys : List V) (x y : V), SqK K t1 H a xs ∧ SqK K t2 H b ys ∧ xs[i]? = some x ∧ ys[i]? = some y,
    fun i H v H' => ∃ T x y, v = .ref T ∧ H T = none ∧ H' = upd H T (.tup [x, y]) ∧ (∀ xs, SqK K t1 H a xs → xs[i]? = some x) ∧ ∀ ys, SqK K t2 H b ys → ys[i]? = some y,
    fun i H => ∃ xs ys : List V, SqK K t1 H a xs ∧ SqK K t2 H b ys ∧ i ≤ xs.length ∧ i ≤ ys.length ∧ (i = xs.length ∨ i = ys.length)⟩
def ItZ3 (K : PySem.W.Frag) (t1 t2 t3 : Bool) (a b c : Addr) : It :=
  ⟨fun i H => ∃ (xs ys zs : List V) (x y z : V), SqK K t1 H a xs ∧ SqK K t2 H b ys ∧ SqK K t3 H c zs ∧ xs[i]? = some x ∧ ys[i]? = some y ∧ zs[i]? = some z,
    fun i H v H' => ∃ T x y z, v = .ref T ∧ H T = none ∧ H' = upd H T (.tup [x, y, z]) ∧ (∀ xs, SqK K t1 H a xs → xs[i]? = some x) ∧ (∀ ys, SqK K t2 H b ys → ys[i]? = some y) ∧ ∀ zs, SqK K t3 H c zs → zs[i]? = some z,
    fun i H => ∃ xs ys zs : List V, SqK K t1 H a xs ∧ SqK K t2 H b ys ∧ SqK K t3 H c zs ∧ i ≤ xs.length ∧ i ≤ ys.length ∧ i ≤ zs.length ∧ (i = xs.length ∨ i = ys.length ∨ i = zs.length)⟩
def ItE (K : PySem.W.Frag) (t1 : Bool) (a : Addr) : It :=
  ⟨fun i H => ∃ (xs : List V) (x : V), SqK K t1 H a xs ∧ xs[i]? = some x,
    fun i H v H' => ∃ T x, v = .ref T ∧ H T = none ∧ H' = upd H T (.tup [.int (i : Nat), x]) ∧ (∀ xs, SqK K t1 H a xs → xs[i]? = some x),
    fun i H => ∃ xs : List V, SqK K t1 H a xs ∧ i = xs.length⟩
theorem lenT {xs : List V} {its : List Value} {i : Nat} {x : V} (rv : Vals xs its) (h : xs[i]? = some x) : i < its.toArray.size := by
  have := (List.getElem?_eq_some_iff.mp h).1
  have := rv.length
  simp; omega
theorem itemT {xs : List V} {its : List Value} {i : Nat} {x : V} {u : Value} (rv : Vals xs its) (h : xs[i]? = some x) (hu : its.toArray[i]? = some u) : RelV x u := by
  obtain ⟨u', hu', ru⟩ := rv.get h
  have : u' = u := by
    have e : its[i]? = some u := by simpa using hu
    rw [hu'] at e; cases e; rfl
  rw [← this]; exact ru
structure NewWalk (P : Program) (w : World) (K : PySem.W.Frag) (tg : Expr) (J : It) (fp : List Addr) (I : Addr) (tn : Nat → Heap → Prop) : Prop where
  inI : I ∈ fp
  cells : ∀ i h, tn i h → ∀ b ∈ fp, ∃ o, h.get? b = some o ∧ ∀ v, o.data ≠ .cell v
  stay : ∀ i h h', tn i h → (∀ b ∈ fp, ∀ o, h.get? b = some o → h'.get? b = some o) → tn i h'
  own : ∀ (A : Around) (i : Nat) (s : Shared) (Q : Value → Shared → Prop) (E : Value → Shared → Prop), tn i s.heap → Q (.ref I) s → wpAny (model P w) A (pyIter (.ref I)) Q E s
  more : ∀ (X : Cx) (i : Nat) (pins : List (Addr × Obj)) (s : Shared) (σ : L2.St) (H : Hp), X.prog = P → X.w = w → X.K = K → X.A.in1.handled = none → Inv X pins σ H s →
    (∀ b ∈ fp, FpOk X pins H b ∧ b < s.heap.objs.size) → tn i s.heap → J.go i H →
    ∃ (gf wr : List Addr) (n : Nat) (Y : Nat → Heap → Value → Heap → Prop) (St : Nat → Heap → Prop), GoesN P w X.A tg I gf wr n Y St ∧ i < n ∧ St i s.heap ∧
      ∀ v h' tk, Y i s.heap v h' → St (i + 1) h' → (∀ b o, b ∉ wr → s.heap.get? b = some o → h'.get? b = some o) →
        ∃ x H', Inv X pins σ H' { s with heap := h', toks := tk } ∧ RelV x v ∧ J.yld i H x H' ∧ tn (i + 1) h' ∧ ∀ b ∈ fp, H' b = none
  last : ∀ (X : Cx) (i : Nat) (pins : List (Addr × Obj)) (s : Shared) (σ : L2.St) (H : Hp), X.prog = P → X.w = w → X.K = K → X.A.in1.handled = none → Inv X pins σ H s → tn i s.heap → J.stop i H →
    ∃ (gf wr : List Addr) (n : Nat) (Y : Nat → Heap → Value → Heap → Prop) (St : Nat → Heap → Prop), GoesN P w X.A tg I gf wr n Y St ∧ St n s.heap ∧ ∀ b ∈ wr, b ∈ fp
theorem NewWalk.turn {P : Program} {w : World} {K : PySem.W.Frag} {tg : Expr} {J : It} {fp : List Addr} {I : Addr} {tn : Nat → Heap → Prop} (N : NewWalk P w K tg J fp I tn) : Turn P w K tg J fp I tn := by
  refine ⟨N.inI, N.cells, N.stay, ?_, ?_, N.own⟩
  · intro X eP ew eK calm i pins s σ H E inv fresh now go
    have hh : X.A.in1.handled = none := inv.ok.hd calm
    obtain ⟨gf, wr, n, Y, St, G, lt, st, k⟩ := N.more X i pins s σ H eP ew eK hh inv (fun b hb => ⟨fresh b hb, by
      obtain ⟨o, ho, _⟩ := N.cells i s.heap now b hb
      exact Heap.lt_size ho⟩) now go
    exact G.goes i s _ E lt st fun v h' tk y st' kept _ => k v h' tk y st' kept
  · intro X eP ew eK calm i pins s σ H E inv fresh now over
    have hh : X.A.in1.handled = none := inv.ok.hd calm
    obtain ⟨gf, wr, n, Y, St, G, st, sub⟩ := N.last X i pins s σ H eP ew eK hh inv now over
    exact G.stops s _ E st fun h' tk kept _ => inv.turnedL (fun b o nb => kept b o fun m => nb (sub b m)) fresh
/-- one new tuple -/
theorem one_new {X : Cx} {pins : List (Addr × Obj)} {s : Shared} {σ : L2.St} {H : Hp} {fp wr : List Addr} {T : Addr} {h' : Heap} {tk : Tok} {xs : List V} {us : List Value} (inv : Inv X pins σ H s) (fresh : ∀ b ∈ fp, FpOk X pins H b ∧ b < s.heap.objs.size)
    (sub : ∀ b ∈ wr, b ∈ fp) (kept : ∀ b o, b ∉ wr → s.heap.get? b = some o → h'.get? b = some o) (hT : s.heap.objs.size ≤ T) (tup : h'.IsTuple T us.toArray) (rv : Vals xs us) (sz : xs.length ≤ sizeLine) :
    Inv X pins σ (upd H T (.tup xs)) { s with heap := h', toks := tk } ∧ H T = none ∧ ∀ b ∈ fp, upd H T (.tup xs) b = none :=
  ⟨inv.turnedNew (fun b o nb => kept b o fun m => nb (sub b m)) (fun b hb => (fresh b hb).1) hT ⟨sz, us, rv, tup⟩, inv.hok.fresh hT, fun b hb => by
    rw [upd_ne fun e => Nat.lt_irrefl b (Nat.lt_of_lt_of_le (fresh b hb).2 (by rw [e]; exact hT))]
    exact (fresh b hb).1.1⟩
section
variable {P : Program} {w : World} {K : PySem.W.Frag} {elts : List Expr} {kk : Nat} {tpos : Pos} {t1 t2 t3 : Bool} {a b c z e it TI TO i1 i2 i3 : Addr}
theorem walk_z2 (D : ZipSep2 z TI TO i1 i2 [i1, a] [i2, b]) (na : a ≠ i1) (nb : b ≠ i2) : NewWalk P w K (.Tuple elts kk tpos) (ItZ2 K t1 t2 a b) [z, TI, TO, i1, i2] z
    (fun i h => IsZip h z TI TO .none ∧ IsTupOf2 h TI (.ref i1) (.ref i2) ∧ (∃ x y, IsTupOf2 h TO x y) ∧ ItK t1 h i1 a i ∧ ItK t2 h i2 b i) where
  inI := List.mem_cons_self
  cells := by
    rintro i h ⟨oz, oI, ⟨x, y, oO⟩, o1, o2⟩ d hd
    simp only [List.mem_cons, List.not_mem_nil, or_false] at hd
    rcases hd with rfl | rfl | rfl | rfl | rfl
    · exact ⟨_, oz, nofun⟩
    · exact ⟨_, oI, nofun⟩
    · exact ⟨_, oO, nofun⟩
    · exact itK_obj o1
    · exact itK_obj o2
  stay := by
    rintro i h h' ⟨oz, oI, ⟨x, y, oO⟩, o1, o2⟩ k
    simp only [List.mem_cons, List.not_mem_nil, or_false, forall_eq_or_imp, forall_eq] at k
    exact ⟨k.1 _ oz, k.2.1 _ oI, ⟨x, y, k.2.2.1 _ oO⟩, itK_at o1 k.2.2.2.1, itK_at o2 k.2.2.2.2⟩
  own := fun A i s Q E st => wpAny_pyIter_zip st.1
  more := by
    rintro X i pins s σ H rfl rfl rfl hh inv fresh ⟨oz, oI, oO, o1, o2⟩ ⟨xs, ys, x, y, qx, qy, ex, ey⟩
    obtain ⟨us, ru, pu, _⟩ := seqK inv qx
    obtain ⟨vs, rv, pv, _⟩ := seqK inv qy
    refine ⟨_, _, _, _, _, GoesN.zip2 D (drawsK hh i1 a na t1 us.toArray) (drawsK hh i2 b nb t2 vs.toArray), Nat.lt_min.mpr ⟨lenT ru ex, lenT rv ey⟩, ⟨oz, oI, oO, ⟨o1, pu⟩, ⟨o2, pv⟩⟩, ?_⟩
    rintro v h' tk ⟨T, u, u', rfl, hT, eu, eu', tup⟩ ⟨oz', oI', oO', ⟨o1', _⟩, ⟨o2', _⟩⟩ kept
    obtain ⟨J1, J2, J3⟩ := one_new (tk := tk) (us := [u, u']) inv fresh (by simp) kept hT tup (.cons (itemT ru ex eu) (.cons (itemT rv ey eu') .nil)) (show 2 ≤ sizeLine by decide)
    exact ⟨.ref T, _, J1, rfl, ⟨T, x, y, rfl, J2, rfl, fun l q => injK inv q qx ▸ ex, fun l q => injK inv q qy ▸ ey⟩, ⟨oz', oI', oO', o1', o2'⟩, J3⟩
  last := by
    rintro X i pins s σ H rfl rfl rfl hh inv ⟨oz, oI, oO, o1, o2⟩ ⟨xs, ys, qx, qy, k1, k2, hend⟩
    obtain ⟨us, ru, pu, _⟩ := seqK inv qx
    obtain ⟨vs, rv, pv, _⟩ := seqK inv qy
    have em : min us.toArray.size vs.toArray.size = i := by
      have := ru.length
      have := rv.length
      simp only [List.size_toArray]
      omega
    refine ⟨_, _, _, _, _, GoesN.zip2 D (drawsK hh i1 a na t1 us.toArray) (drawsK hh i2 b nb t2 vs.toArray), ?_, by simp⟩
    rw [em]
    exact ⟨oz, oI, oO, ⟨o1, pu⟩, ⟨o2, pv⟩⟩
theorem walk_z3 (D : ZipSep3 z TI TO i1 i2 i3 [i1, a] [i2, b] [i3, c]) (na : a ≠ i1) (nb : b ≠ i2) (nc : c ≠ i3) : NewWalk P w K (.Tuple elts kk tpos) (ItZ3 K t1 t2 t3 a b c) [z, TI, TO, i1, i2, i3] z
    (fun i h => IsZip h z TI TO .none ∧ IsTupOf3 h TI (.ref i1) (.ref i2) (.ref i3) ∧ (∃ x y v, IsTupOf3 h TO x y v) ∧ ItK t1 h i1 a i ∧ ItK t2 h i2 b i ∧ ItK t3 h i3 c i) where
  inI := List.mem_cons_self
  cells := by
    rintro i h ⟨oz, oI, ⟨x, y, v, oO⟩, o1, o2, o3⟩ d hd
    simp only [List.mem_cons, List.not_mem_nil, or_false] at hd
    rcases hd with rfl | rfl | rfl | rfl | rfl | rfl
    · exact ⟨_, oz, nofun⟩
    · exact ⟨_, oI, nofun⟩
    · exact ⟨_, oO, nofun⟩
    · exact itK_obj o1
    · exact itK_obj o2
    · exact itK_obj o3
  stay := by
    rintro i h h' ⟨oz, oI, ⟨x, y, v, oO⟩, o1, o2, o3⟩ k
    simp only [List.mem_cons, List.not_mem_nil, or_false, forall_eq_or_imp, forall_eq] at k
    exact ⟨k.1 _ oz, k.2.1 _ oI, ⟨x, y, v, k.2.2.1 _ oO⟩, itK_at o1 k.2.2.2.1, itK_at o2 k.2.2.2.2.1, itK_at o3 k.2.2.2.2.2⟩
  own := fun A i s Q E st => wpAny_pyIter_zip st.1
  more := by
    rintro X i pins s σ H rfl rfl rfl hh inv fresh ⟨oz, oI, oO, o1, o2, o3⟩ ⟨xs, ys, zs, x, y, v, qx, qy, qv, ex, ey, ev⟩
    obtain ⟨us, ru, pu, _⟩ := seqK inv qx
    obtain ⟨vs, rv, pv, _⟩ := seqK inv qy
    obtain ⟨ws, rw', pw, _⟩ := seqK inv qv
    refine ⟨_, _, _, _, _, GoesN.zip3 D (drawsK hh i1 a na t1 us.toArray) (drawsK hh i2 b nb t2 vs.toArray) (drawsK hh i3 c nc t3 ws.toArray), Nat.lt_min.mpr ⟨Nat.lt_min.mpr ⟨lenT ru ex, lenT rv ey⟩, lenT rw' ev⟩, ⟨oz, oI, oO, ⟨o1, pu⟩, ⟨o2, pv⟩, ⟨o3, pw⟩⟩, ?_⟩
    rintro _ h' tk ⟨T, u, u', u'', rfl, hT, eu, eu', eu'', tup⟩ ⟨oz', oI', oO', ⟨o1', _⟩, ⟨o2', _⟩, ⟨o3', _⟩⟩ kept
    obtain ⟨J1, J2, J3⟩ := one_new (tk := tk) (us := [u, u', u'']) inv fresh (by simp) kept hT tup (.cons (itemT ru ex eu) (.cons (itemT rv ey eu') (.cons (itemT rw' ev eu'') .nil))) (show 3 ≤ sizeLine by decide)
    exact ⟨.ref T, _, J1, rfl, ⟨T, x, y, v, rfl, J2, rfl, fun l q => injK inv q qx ▸ ex, fun l q => injK inv q qy ▸ ey, fun l q => injK inv q qv ▸ ev⟩, ⟨oz', oI', oO', o1', o2', o3'⟩, J3⟩
  last := by
    rintro X i pins s σ H rfl rfl rfl hh inv ⟨oz, oI, oO, o1, o2, o3⟩ ⟨xs, ys, zs, qx, qy, qz, k1, k2, k3, hend⟩
    obtain ⟨us, ru, pu, _⟩ := seqK inv qx
    obtain ⟨vs, rv, pv, _⟩ := seqK inv qy
    obtain ⟨ws, rw', pw, _⟩ := seqK inv qz
    have em : min (min us.toArray.size vs.toArray.size) ws.toArray.size = i := by
      have := ru.length
      have := rv.length
      have := rw'.length
      simp only [List.size_toArray]
      omega
    refine ⟨_, _, _, _, _, GoesN.zip3 D (drawsK hh i1 a na t1 us.toArray) (drawsK hh i2 b nb t2 vs.toArray) (drawsK hh i3 c nc t3 ws.toArray), ?_, by simp⟩
    rw [em]
    exact ⟨oz, oI, oO, ⟨o1, pu⟩, ⟨o2, pv⟩, ⟨o3, pw⟩⟩
theorem walk_e (na : a ≠ it) (ne : e ≠ it) (nea : e ≠ a) : NewWalk P w K (.Tuple elts kk tpos) (ItE K t1 a) [e, it] e (fun i h => (∃ old, IsEnum h e it ((i : Nat) : Int) old) ∧ ItK t1 h it a i) where
  inI := List.mem_cons_self
  cells := by
    rintro i h ⟨⟨old, oe⟩, o1⟩ d hd
    simp only [List.mem_cons, List.not_mem_nil, or_false] at hd
    rcases hd with rfl | rfl
    · exact ⟨_, oe, nofun⟩
    · exact itK_obj o1
  stay := by
    rintro i h h' ⟨⟨old, oe⟩, o1⟩ k
    simp only [List.mem_cons, List.not_mem_nil, or_false, forall_eq_or_imp, forall_eq] at k
    exact ⟨⟨old, k.1 _ oe⟩, itK_at o1 k.2⟩
  own := fun A i s Q E st q => st.1.elim fun old oe => wpAny_pyIter_enum oe q
  more := by
    rintro X i pins s σ H rfl rfl rfl hh inv fresh ⟨⟨old, oe⟩, o1⟩ ⟨xs, x, qx, ex⟩
    obtain ⟨us, ru, pu, _⟩ := seqK inv qx
    refine ⟨_, _, _, _, _, GoesN.enumFrom 0 (drawsK hh it a na t1 us.toArray) e ne (by simp [ne, nea]) (by simp), lenT ru ex, ⟨⟨old, by rw [Int.zero_add]; exact oe⟩, o1, pu⟩, ?_⟩
    rintro v h' tk ⟨T, t, u, rfl, hT, eu, tup⟩ ⟨⟨old', oe'⟩, o1', _⟩ kept
    rw [Int.zero_add] at tup oe'
    obtain ⟨J1, J2, J3⟩ := one_new (tk := tk) (us := [.int i t, u]) inv fresh (by simp) kept hT tup (.cons (show RelV (.int (i : Nat)) (.int i t) from ⟨_, rfl⟩) (.cons (itemT ru ex eu) .nil)) (show 2 ≤ sizeLine by decide)
    exact ⟨.ref T, _, J1, rfl, ⟨T, x, rfl, J2, rfl, fun l q => injK inv q qx ▸ ex⟩, ⟨⟨old', oe'⟩, o1'⟩, J3⟩
  last := by
    rintro X i pins s σ H rfl rfl rfl hh inv ⟨⟨old, oe⟩, o1⟩ ⟨xs, qx, hend⟩
    obtain ⟨us, ru, pu, _⟩ := seqK inv qx
    have em : us.toArray.size = i := by
      have := ru.length
      simp only [List.size_toArray]
      omega
    refine ⟨_, _, _, _, _, GoesN.enumFrom 0 (drawsK hh it a na t1 us.toArray) e ne (by simp [ne, nea]) (by simp), ?_, by simp⟩
    rw [em]
    exact ⟨⟨old, by rw [Int.zero_add]; exact oe⟩, o1, pu⟩
end
end Mi
set_option Elab.async false
set_option linter.all false
set_option maxRecDepth 100000
set_option maxHeartbeats 2000000
namespace Mi
open PySem PySem.Spec PyProof.Rows L2
/-- a key as data -/
def keyMV : Key → MV
  | .inl i => .int i
  | .inr x => .str x
inductive Src where
  | seq (d : MV) (xs : List MV)
  | rng (lo : Int) (n : Nat)
  | enm (d : MV) (xs : List MV)
  | zp2 (d : MV) (xs : List MV) (e : MV) (ys : List MV)
  | zp3 (d : MV) (xs : List MV) (e : MV) (ys : List MV) (f : MV) (zs : List MV)
  | ezp (d : MV) (xs : List MV) (e : MV) (ys : List MV)
  | dks (ks : List Key)
  | dkt (ks : List MV)
def enmI : Nat → List MV → List MV
  | _, [] => []
  | i, x :: xs => .tup [.int (i : Nat), x] :: enmI (i + 1) xs
def zipI : List MV → List MV → List MV
  | x :: xs, y :: ys => .tup [x, y] :: zipI xs ys
  | _, _ => []
def zipI3 : List MV → List MV → List MV → List MV
  | x :: xs, y :: ys, z :: zs => .tup [x, y, z] :: zipI3 xs ys zs
  | _, _, _ => []
def Src.items : Src → List MV
  | .seq _ xs => xs
  | .rng lo n => (List.range n).map fun (i : Nat) => .int (lo + i)
  | .enm _ xs => enmI 0 xs
  | .zp2 _ xs _ ys => zipI xs ys
  | .zp3 _ xs _ ys _ zs => zipI3 xs ys zs
  | .ezp _ xs _ ys => enmI 0 (zipI xs ys)
  | .dks ks => ks.map keyMV
  | .dkt ks => ks
def Src.ok (S : Sto) : Src → Bool
  | .seq d xs => decide (seqOf S d = some xs)
  | .rng _ _ => true
  | .enm d xs => decide (seqOf S d = some xs)
  | .zp2 d xs e ys => decide (seqOf S d = some xs) && decide (seqOf S e = some ys)
  | .zp3 d xs e ys f zs => decide (seqOf S d = some xs) && (decide (seqOf S e = some ys) && decide (seqOf S f = some zs))
  | .ezp d xs e ys => decide (seqOf S d = some xs) && decide (seqOf S e = some ys)
  | .dks _ => true
  | .dkt _ => true
def isT : MV → Bool
  | .tup _ => true
  | _ => false
theorem seqK_of {C : RC} {S : Sto} {d : MV} {v : V} {xs : List MV} (r : RepS C S) (h : RepV C d v) (e : seqOf S d = some xs) : ∃ a vs, v = .ref a ∧ SqK C.K (isT d) C.H a vs ∧ RepVs C xs vs := by
  cases d with
  | tup ys =>
    rw [seqOf] at e; cases e
    rw [RepV] at h
    obtain ⟨a, vs, e, q, t⟩ := h
    exact ⟨a, vs, e, q, t⟩
  | kls ys =>
    rw [seqOf] at e; cases e
    rw [RepV] at h
    obtain ⟨a, vs, e, q, t⟩ := h
    refine ⟨a, vs, e, ?_, t⟩
    rcases q with ⟨o, q⟩ | q
    · exact .inl (.inr ⟨o, q⟩)
    · exact q.sq _
  | lst ys => obtain ⟨a, vs, e, q, t⟩ := lstOf_rep r h e; exact ⟨a, vs, e, (show SqL C.K C.H a vs from .of q), t⟩
  | ref n => obtain ⟨a, vs, e, q, t⟩ := lstOf_rep r h e; exact ⟨a, vs, e, (show SqL C.K C.H a vs from .of q), t⟩
  | _ => cases e
theorem Tr.refl {b : Nat} {C : RC} : Tr b C C := ⟨rfl, rfl, fun _ _ h => h, fun _ _ n h => ⟨n, .inl h⟩, fun _ _ _ h => h, fun _ _ _ h => h⟩
theorem Tr.trans {b b' : Nat} {C C1 C2 : RC} (x : Tr b C C1) (y : Tr b' C1 C2) (h : b ≤ b') : Tr b C C2 where
  w := y.w.trans x.w
  K := y.K.trans x.K
  seqT := fun a vs q => y.seqT _ _ (x.seqT _ _ q)
  froz := fun a u n q => by
    obtain ⟨n1, k⟩ := x.froz _ _ n q
    rcases k with k | ⟨nb, e, ob, k⟩
    · obtain ⟨n2, j⟩ := y.froz _ _ n1 k
      rcases j with j | ⟨_, e, j⟩
      · exact ⟨n2, .inl j⟩
      · exact ⟨n2, .inr ⟨n.2, e, j⟩⟩
    · obtain ⟨n2, j⟩ := y.froz _ _ n1 k
      exact ⟨n2, .inr ⟨nb, e, ob, j.exact (.inl fun _ z => by cases z)⟩⟩
  frz := fun a o u q => y.frz _ _ _ (x.frz _ _ _ q)
  ref := fun n a hn q => y.ref n a (Nat.lt_of_lt_of_le hn h) (x.ref n a hn q)
theorem RepV.trn {C C' : RC} (x : Tr C.ι.length C C') {d : MV} {v : V} (h : RepV C d v) : RepV C' d v := RepV.tr x d v (RepV.refs d v h) h
theorem RepVs.trn {C C' : RC} (x : Tr C.ι.length C C') {d : List MV} {v : List V} (h : RepVs C d v) : RepVs C' d v := RepVs.tr x d v (RepVs.refs d v h) h
theorem RepO.trn {C C' : RC} {a : Addr} {o : MO} (x : Tr C.ι.length C C') (e : C'.H a = C.H a) (h : RepO C a o) : RepO C' a o := by
  cases o with
  | lst xs => obtain ⟨vs, q, t⟩ := h; exact ⟨vs, e.trans q, t.trn x⟩
  | dct ks ds => obtain ⟨vs, q, l, nd, t⟩ := h; exact ⟨vs, e.trans q, l, nd, t.trn x⟩
  | dcT ks ds =>
    obtain ⟨sm, ko, nd, l, z, ob, es, ep, ps, us, kvs, vs, q, ex, hd, he, hk, tk, rv, t⟩ := h
    exact ⟨sm, ko, nd, l, z, ob, es, ep, ps, us, kvs, vs, e.trans q, ex, hd, by rw [x.w]; exact he, hk, tk.trn x, rv, t.trn x⟩
  | obj c fs ds => obtain ⟨dx, vs, q, l, t⟩ := h; exact ⟨dx, vs, by rw [x.K]; exact e.trans q, l, t.trn x⟩
/-- what a walk over a source gives -/
def SrcW (X : Cx) (src : Src) (J : It) (C0 : RC) : Prop := ∀ C S, Tr C0.ι.length C0 C → RepS C S → src.ok S = true →
  (∀ i, i < src.items.length → J.go i C.H) ∧ J.stop src.items.length C.H ∧
  ∀ i x H', i < src.items.length → J.yld i C.H x H' → ∃ C' d, C'.H = H' ∧ Grow C C' ∧ RepS C' S ∧ src.items[i]? = some d ∧ RepV C' d x
def tI (X : Cx) (W : WX) (m : Ev → Sto → R Src) : TI := fun σ H Rr => ∃ C ρ S, C.H = H ∧ Sv X ρ σ S C ∧ Wants W σ C (m ρ S) (fun src _ C' => ∀ J, SrcW X src J C' → Rr J C'.H)
abbrev SI (X : Cx) (W : WX) (tg iter : Expr) (m : Ev → Sto → R Src) : Prop := PI X tg iter (tI X W m)
def srcOf (d : MV) (S : Sto) : R Src := match seqOf S d with
  | some xs => .ok (.seq d xs) S
  | none => .stk
def mSrc (e : ME) : Ev → Sto → R Src := fun ρ S => (e ρ S).bind srcOf
theorem srcOf_of {d : MV} {S S' : Sto} {s : Src} (h : srcOf d S = .ok s S') : ∃ xs, seqOf S d = some xs ∧ s = .seq d xs ∧ S' = S := by
  unfold srcOf at h
  split at h
  · cases h; exact ⟨_, by assumption, rfl, rfl⟩
  · cases h
def JSeq (K : PySem.W.Frag) : Bool → Addr → It
  | true, a => Itt K a
  | false, a => Itl K a
theorem src_seq {X : Cx} {C0 : RC} {d : MV} {xs : List MV} {a : Addr} (hK : C0.K = X.K) (rv : RepV C0 d (.ref a)) : SrcW X (.seq d xs) (JSeq X.K (isT d) a) C0 := fun C S x r ok => by
  have rv' := rv.trn x
  have e : seqOf S d = some xs := of_decide_eq_true ok
  obtain ⟨a', vs, e1, sq, t⟩ := seqK_of r rv' e
  cases e1
  rw [x.K, hK] at sq
  have l := t.length
  show (∀ i, i < xs.length → _) ∧ (JSeq X.K (isT d) a).stop xs.length C.H ∧ ∀ i x H', i < xs.length → _ → _
  cases hd : isT d with
  | true =>
    rw [hd] at sq
    refine ⟨fun i hi => ⟨vs, vs[i]'(by omega), sq, by rw [List.getElem?_eq_getElem]⟩, ⟨vs, sq, by omega⟩, fun i z H' hi y => ?_⟩
    obtain ⟨e2, y⟩ := y
    obtain ⟨d', h1, h2⟩ := t.get' (y vs sq)
    exact ⟨C, d', e2.symm, Grow.refl, r, h1, h2⟩
  | false =>
    rw [hd] at sq
    refine ⟨fun i hi => ⟨vs, vs[i]'(by omega), sq, by rw [List.getElem?_eq_getElem]⟩, ⟨vs, sq, by omega⟩, fun i z H' hi y => ?_⟩
    obtain ⟨e2, y⟩ := y
    obtain ⟨d', h1, h2⟩ := t.get' (y vs sq)
    exact ⟨C, d', e2.symm, Grow.refl, r, h1, h2⟩
theorem pi_seqK {X : Cx} {tg l : Expr} {tl : TE} (hl : PE X l tl) : PI X tg l (fun σ H Rr => tl σ H fun x H1 => ∃ a t xs, x = .ref a ∧ SqK X.K t H1 a xs ∧ Rr (JSeq X.K t a) H1) where
  run pins s σ H Rr inv q := by
    refine thn (hl.run pins s σ H _ inv q) ?_
    rintro v s1 ⟨_, H1, inv1, rv, a, t, xs, rfl, sq, q1⟩
    cases rv
    obtain ⟨us, _, p, _⟩ := seqK inv1 sq
    cases t
    · exact wpAny_pyIter_list p (pi_one (tk := s1.toks) inv1 _ (turn_list a _) ⟨_, Heap.get?_push_size _ rfl, rfl, rfl⟩ q1)
    · exact wpAny_pyIter_tuple p (pi_one (tk := s1.toks) inv1 _ (turn_tuple a _) ⟨_, Heap.get?_push_size _ rfl, rfl, rfl⟩ q1)
theorem _root_.L2.PI.imp {X : Cx} {tg it : Expr} {t t' : TI} (h : PI X tg it t) (k : ∀ σ H Q, t' σ H Q → t σ H Q) : PI X tg it t' := ⟨fun pins s σ H Q I q => h.run pins s σ H Q I (k σ H Q q)⟩
section
variable {X : Cx} {W : WX} {tg l e e2 e3 : Expr} {ml : ME} {mas : MA} {p pos tpos : Pos} {elts : List Expr} {kk : Nat}
theorem si_seq (hl : SE X W l ml) : SI X W tg l (mSrc ml) :=
  (pi_seqK hl).imp fun σ H Q ⟨C, ρ, S, e, s, q⟩ => by
    subst e
    refine tE.bind s q fun d S1 C1 v s1 g1 r1 q1 => ?_
    cases e : srcOf d S1 with
    | ok src S' =>
      rw [e] at q1
      obtain ⟨xs, e1, rfl, rfl⟩ := srcOf_of e
      obtain ⟨a, vs, rfl, sq, t⟩ := seqK_of s1.rs r1 e1
      rw [s1.K] at sq
      exact ⟨a, isT d, vs, rfl, sq, q1.now s1.rs _ (src_seq s1.K r1)⟩
    | exc c d' S' => unfold srcOf at e; split at e <;> cases e
    | stk => rw [e] at q1; exact q1.elim
def rngFit : Int → Bool
  | .ofNat m => Nat.blt m 4611686018427387904
  | .negSucc m => Nat.blt m 4611686018427387904
theorem rngFit_ok : ∀ {j : Int}, rngFit j = true → -(2 ^ 62) ≤ j ∧ j < 2 ^ 62
  | .ofNat m, h => by
    have h : m ≤ 4611686018427387903 := by simpa [rngFit, Nat.blt] using h
    have e : Int.ofNat m = (m : Int) := rfl
    rw [e]; omega
  | .negSucc m, h => by
    have h : m ≤ 4611686018427387903 := by simpa [rngFit, Nat.blt] using h
    have e : Int.negSucc m = -(m : Int) - 1 := by omega
    rw [e]; omega
def rngOf : List MV → Sto → R Src
  | [.int j], S => if rngFit j then .ok (.rng 0 j.toNat) S else .stk
  | _, _ => .stk
def mRng (m : MA) : Ev → Sto → R Src := fun ρ S => (m ρ S).bind rngOf
def rng2Of : List MV → Sto → R Src
  | [.int i, .int j], S => if rngFit i && rngFit j then .ok (.rng i (j - i).toNat) S else .stk
  | _, _ => .stk
def mRng2 (m : MA) : Ev → Sto → R Src := fun ρ S => (m ρ S).bind rng2Of
theorem src_rng {C0 : RC} {lo : Int} {n : Nat} : SrcW X (.rng lo n) (Itr lo n) C0 := fun C S x r ok => by
  have hl : (Src.rng lo n).items.length = n := by simp [Src.items]
  rw [hl]
  refine ⟨fun i hi => hi, Nat.le_refl _, fun i z H' hi y => ?_⟩
  obtain ⟨rfl, rfl⟩ := y
  exact ⟨C, .int (lo + i), rfl, Grow.refl, r, by simp [Src.items, hi], repI _⟩
theorem si_rng (hg : Gl X "range") (hm : X.mg "range" = none) (ha : SA X W [e] mas) (hs : starEach [e] X.env = [(false, eval e X.env)] := by rfl) : SI X W tg (.Call (.Name "range" p) [e] [] pos) (mRng mas) :=
  (pi_range1 hg hm ha hs).imp fun σ H Q ⟨C, ρ, S, e, s, q⟩ => by
    subst e
    refine tA.bind s q fun ds S1 C1 vs s1 g1 r1 q1 => ?_
    unfold rngOf at q1
    split at q1
    · split at q1
      · obtain ⟨v, rfl, rv⟩ := one_of r1
        rename_i h
        have h := rngFit_ok h
        exact ⟨_, by rw [vInt rv], h.1, h.2, q1.now s1.rs _ src_rng⟩
      · exact q1.elim
    · exact q1.elim
theorem refs_of : ∀ {as : List Addr} {us : List Value}, Vals (as.map V.ref) us → us = as.map Value.ref
  | [], _, .nil => rfl
  | a :: as, _, .cons r rr => by rw [refs_of rr]; cases r; rfl
theorem pi_made {ta : TA} {es : List Expr} {nm : Str} {T : String} {wq : List V → Hp → (It → Hp → Prop) → Prop} (hg : Gl X nm) (hm : X.mg nm = none) (hv : bootBuiltins nm = some (.type T)) (ha : PA X (e :: es) ta)
    (mk : ∀ (pins : List (Addr × Obj)) (σ : L2.St) (H : Hp) (s : Shared) (us : List Value) (vs : List V) (Rr : It → Hp → Prop), Inv X pins σ H s → Vals vs us → wq vs H Rr →
      wpAny (model X.prog X.w) X.A (call (.type T) us) (fun v s' => wpAny (model X.prog X.w) X.A (pyIter v) (PIE X pins σ tg Rr) X.xe s') X.xe s)
    (hs : starEach (e :: es) X.env = (false, eval e X.env) :: starEach es X.env) (hpl : (backTo pos (starEach es X.env)).any (·.1) = false) (nn : nm ≠ "__name__" := by decide) (nd : (nm == ("__debug__" : Str)) = false := by decide) :
    PI X tg (.Call (.Name nm p) (e :: es) [] pos) (fun σ H Rr => ta σ H fun vs H1 => wq vs H1 Rr) where
  run pins s σ H Rr inv q := Call_ (ld_blt inv hg hm hv (callWith_type1 (thn (ha.run pos pins s σ H _ inv q) fun us s1 ⟨vs, H1, inv1, r, q1⟩ => mk pins σ H1 s1 us vs Rr inv1 r q1) hs hpl) nn nd)
theorem all_new {pins : List (Addr × Obj)} {σ : L2.St} {H : Hp} {s : Shared} (inv : Inv X pins σ H s) {fp : List Addr} (h : fp.all (fun b => Nat.ble s.heap.objs.size b) = true) : ∀ b ∈ fp, FpOk X pins H b := fun b hb => by
  have le : s.heap.objs.size ≤ b := Nat.le_of_ble_eq_true (List.all_eq_true.mp h b hb)
  exact inv.fpOk le (inv.hok.fresh le)
theorem pi_z2 {ta : TA} (hg : Gl X "zip") (hm : X.mg "zip" = none) (ha : PA X [e, e2] ta)
    (hs : starEach (e :: [e2]) X.env = (false, eval e X.env) :: starEach [e2] X.env) (hpl : (backTo pos (starEach [e2] X.env)).any (·.1) = false) :
    PI X (.Tuple elts kk tpos) (.Call (.Name "zip" p) (e :: [e2]) [] pos) (fun σ H Rr => ta σ H fun vs H1 => ∃ a b t1 t2 xs ys, vs = [.ref a, .ref b] ∧ SqK X.K t1 H1 a xs ∧ SqK X.K t2 H1 b ys ∧ Rr (ItZ2 X.K t1 t2 a b) H1) := by
  refine pi_made hg hm PyProof.Rows.boot_zip ha ?_ hs hpl
  rintro pins σ H s us _ Rr inv r ⟨a, b, t1, t2, xs, ys, rfl, qx, qy, q⟩
  cases refs_of (as := [a, b]) r
  obtain ⟨ua, _, pa, la⟩ := seqK inv qx
  obtain ⟨ub, _, pb, lb⟩ := seqK inv qy
  refine zip_begins2 (beginsK a ua.toArray t1) (beginsK b ub.toArray t2) pa pb fun h' oz oI oO o1 o2 _ kept => wpAny_pyIter_zip oz ?_
  have sep := zip_sep2 (N := s.heap.objs.size) (fp1 := [a]) (fp2 := [b]) (by simpa using la) (by simpa using lb)
  exact ⟨_, _, _, _, H, rfl, inv.kept (t' := s.toks) kept, (walk_z2 sep (Nat.ne_of_lt la) (Nat.ne_of_lt (Nat.lt_succ_of_lt lb))).turn, ⟨oz, oI, ⟨_, _, oO⟩, itK_new o1, itK_new o2⟩, all_new inv (by simp [Nat.ble_eq]), q⟩
theorem pi_z3 {ta : TA} (hg : Gl X "zip") (hm : X.mg "zip" = none) (ha : PA X [e, e2, e3] ta)
    (hs : starEach (e :: [e2, e3]) X.env = (false, eval e X.env) :: starEach [e2, e3] X.env) (hpl : (backTo pos (starEach [e2, e3] X.env)).any (·.1) = false) :
    PI X (.Tuple elts kk tpos) (.Call (.Name "zip" p) (e :: [e2, e3]) [] pos) (fun σ H Rr => ta σ H fun vs H1 => ∃ a b c t1 t2 t3 xs ys zs, vs = [.ref a, .ref b, .ref c] ∧ SqK X.K t1 H1 a xs ∧ SqK X.K t2 H1 b ys ∧ SqK X.K t3 H1 c zs ∧ Rr (ItZ3 X.K t1 t2 t3 a b c) H1) := by
  refine pi_made hg hm PyProof.Rows.boot_zip ha ?_ hs hpl
  rintro pins σ H s us _ Rr inv r ⟨a, b, c, t1, t2, t3, xs, ys, zs, rfl, qx, qy, qz, q⟩
  cases refs_of (as := [a, b, c]) r
  obtain ⟨ua, _, pa, la⟩ := seqK inv qx
  obtain ⟨ub, _, pb, lb⟩ := seqK inv qy
  obtain ⟨uc, _, pc, lc⟩ := seqK inv qz
  refine zip_begins3 (beginsK a ua.toArray t1) (beginsK b ub.toArray t2) (beginsK c uc.toArray t3) pa pb pc fun h' oz oI oO o1 o2 o3 _ kept => wpAny_pyIter_zip oz ?_
  have sep := zip_sep3 (N := s.heap.objs.size) (fp1 := [a]) (fp2 := [b]) (fp3 := [c]) (by simpa using la) (by simpa using lb) (by simpa using lc)
  exact ⟨_, _, _, _, H, rfl, inv.kept (t' := s.toks) kept, (walk_z3 sep (Nat.ne_of_lt la) (Nat.ne_of_lt (Nat.lt_succ_of_lt lb)) (Nat.ne_of_lt (Nat.lt_add_right 2 lc))).turn, ⟨oz, oI, ⟨_, _, _, oO⟩, itK_new o1, itK_new o2, itK_new o3⟩, all_new inv (by simp [Nat.ble_eq]), q⟩
theorem zipI_get : ∀ {xs ys : List MV} {i : Nat} {x y : MV}, xs[i]? = some x → ys[i]? = some y → (zipI xs ys)[i]? = some (.tup [x, y])
  | [], _, _, _, _, e1, _ => by simp at e1
  | _ :: _, [], _, _, _, _, e2 => by simp at e2
  | a :: xs, b :: ys, 0, x, y, h, h' => by simp at h h'; subst h; subst h'; rfl
  | a :: xs, b :: ys, i + 1, x, y, h, h' => by
    have := zipI_get (xs := xs) (ys := ys) (i := i) (by simpa using h) (by simpa using h')
    simpa [zipI] using this
theorem zipI_len : ∀ {xs ys : List MV}, (zipI xs ys).length = min xs.length ys.length
  | [], _ => by simp [zipI]
  | _ :: _, [] => by simp [zipI]
  | a :: xs, b :: ys => by simp only [zipI, List.length_cons, zipI_len (xs := xs) (ys := ys)]; omega
theorem zipI3_get : ∀ {xs ys zs : List MV} {i : Nat} {x y z : MV}, xs[i]? = some x → ys[i]? = some y → zs[i]? = some z → (zipI3 xs ys zs)[i]? = some (.tup [x, y, z])
  | [], _, _, _, _, _, _, h, _, _ => by simp at h
  | _ :: _, [], _, _, _, _, _, _, h, _ => by simp at h
  | _ :: _, _ :: _, [], _, _, _, _, _, _, h => by simp at h
  | a :: xs, b :: ys, c :: zs, 0, x, y, z, h, h', h'' => by simp at h h' h''; subst h; subst h'; subst h''; rfl
  | a :: xs, b :: ys, c :: zs, i + 1, x, y, z, h, h', h'' => by
    have := zipI3_get (xs := xs) (ys := ys) (zs := zs) (i := i) (by simpa using h) (by simpa using h') (by simpa using h'')
    simpa [zipI3] using this
theorem zipI3_len : ∀ {xs ys zs : List MV}, (zipI3 xs ys zs).length = min xs.length (min ys.length zs.length)
  | [], _, _ => by simp [zipI3]
  | _ :: _, [], _ => by simp [zipI3]
  | _ :: _, _ :: _, [] => by simp [zipI3]
  | a :: xs, b :: ys, c :: zs => by simp only [zipI3, List.length_cons, zipI3_len (xs := xs) (ys := ys) (zs := zs)]; omega
theorem enmI_get : ∀ {xs : List MV} {i k : Nat} {x : MV}, xs[i]? = some x → (enmI k xs)[i]? = some (.tup [.int ((k + i : Nat) : Int), x])
  | [], _, _, _, e1 => by simp at e1
  | a :: xs, 0, k, x, h => by simp at h; subst h; rfl
  | a :: xs, i + 1, k, x, h => by
    have := enmI_get (xs := xs) (i := i) (k := k + 1) (by simpa using h)
    rw [show k + 1 + i = k + (i + 1) by omega] at this
    simpa [enmI] using this
theorem enmI_len : ∀ {xs : List MV} {k : Nat}, (enmI k xs).length = xs.length
  | [], _ => rfl
  | a :: xs, k => by simp only [enmI, List.length_cons, enmI_len (xs := xs)]
theorem src_z2 {C0 : RC} {d e : MV} {xs ys : List MV} {a b : Addr} (hK : C0.K = X.K) (rv : RepV C0 d (.ref a)) (rv2 : RepV C0 e (.ref b)) : SrcW X (.zp2 d xs e ys) (ItZ2 X.K (isT d) (isT e) a b) C0 := fun C S x r ok => by
  have ok' : seqOf S d = some xs ∧ seqOf S e = some ys := by simpa [Src.ok] using ok
  obtain ⟨a', vs, e1, sq, t⟩ := seqK_of r (rv.trn x) ok'.1
  obtain ⟨b', us, e2, sq2, t2⟩ := seqK_of r (rv2.trn x) ok'.2
  cases e1
  cases e2
  rw [x.K, hK] at sq sq2
  have l := t.length
  have l2 := t2.length
  have hl : (Src.zp2 d xs e ys).items.length = min xs.length ys.length := zipI_len
  rw [hl]
  refine ⟨fun i hi => ⟨vs, us, vs[i]'(by omega), us[i]'(by omega), sq, sq2, by rw [List.getElem?_eq_getElem], by rw [List.getElem?_eq_getElem]⟩, ⟨vs, us, sq, sq2, by omega, by omega, by omega⟩, fun i z H' hi y => ?_⟩
  obtain ⟨T, x1, y1, rfl, hT, rfl, f1, f2⟩ := y
  obtain ⟨d1, h1, h2⟩ := t.get' (f1 vs sq)
  obtain ⟨d2, h3, h4⟩ := t2.get' (f2 us sq2)
  exact ⟨C.put T (.tup [x1, y1]), _, rfl, Grow.put hT, r.put hT, zipI_get h1 h3, repTup put_same (.cons (h2.grow (Grow.put hT) r) (.cons (h4.grow (Grow.put hT) r) .nil))⟩
theorem src_z3 {C0 : RC} {d e f : MV} {xs ys zs : List MV} {a b c : Addr} (hK : C0.K = X.K) (rv : RepV C0 d (.ref a)) (rv2 : RepV C0 e (.ref b)) (rv3 : RepV C0 f (.ref c)) : SrcW X (.zp3 d xs e ys f zs) (ItZ3 X.K (isT d) (isT e) (isT f) a b c) C0 := fun C S x r ok => by
  have ok' : seqOf S d = some xs ∧ seqOf S e = some ys ∧ seqOf S f = some zs := by simpa [Src.ok] using ok
  obtain ⟨a', vs, e1, sq, t⟩ := seqK_of r (rv.trn x) ok'.1
  obtain ⟨b', us, e2, sq2, t2⟩ := seqK_of r (rv2.trn x) ok'.2.1
  obtain ⟨c', ws, e3, sq3, t3⟩ := seqK_of r (rv3.trn x) ok'.2.2
  cases e1
  cases e2
  cases e3
  rw [x.K, hK] at sq sq2 sq3
  have l := t.length
  have l2 := t2.length
  have l3 := t3.length
  have hl : (Src.zp3 d xs e ys f zs).items.length = min xs.length (min ys.length zs.length) := zipI3_len
  rw [hl]
  refine ⟨fun i hi => ⟨vs, us, ws, vs[i]'(by omega), us[i]'(by omega), ws[i]'(by omega), sq, sq2, sq3, by rw [List.getElem?_eq_getElem], by rw [List.getElem?_eq_getElem], by rw [List.getElem?_eq_getElem]⟩, ⟨vs, us, ws, sq, sq2, sq3, by omega, by omega, by omega, by omega⟩, fun i z H' hi y => ?_⟩
  obtain ⟨T, x1, y1, z1, rfl, hT, rfl, f1, f2, f3⟩ := y
  obtain ⟨d1, h1, h2⟩ := t.get' (f1 vs sq)
  obtain ⟨d2, h3, h4⟩ := t2.get' (f2 us sq2)
  obtain ⟨d3, h5, h6⟩ := t3.get' (f3 ws sq3)
  exact ⟨C.put T (.tup [x1, y1, z1]), _, rfl, Grow.put hT, r.put hT, zipI3_get h1 h3 h5, repTup put_same (.cons (h2.grow (Grow.put hT) r) (.cons (h4.grow (Grow.put hT) r) (.cons (h6.grow (Grow.put hT) r) .nil)))⟩
theorem src_e {C0 : RC} {d : MV} {xs : List MV} {a : Addr} (hK : C0.K = X.K) (rv : RepV C0 d (.ref a)) : SrcW X (.enm d xs) (ItE X.K (isT d) a) C0 := fun C S x r ok => by
  have ok' : seqOf S d = some xs := by simpa [Src.ok] using ok
  obtain ⟨a', vs, e1, sq, t⟩ := seqK_of r (rv.trn x) ok'
  cases e1
  rw [x.K, hK] at sq
  have l := t.length
  have hl : (Src.enm d xs).items.length = xs.length := enmI_len
  rw [hl]
  refine ⟨fun i hi => ⟨vs, vs[i]'(by omega), sq, by rw [List.getElem?_eq_getElem]⟩, ⟨vs, sq, by omega⟩, fun i z H' hi y => ?_⟩
  obtain ⟨T, x1, rfl, hT, rfl, f1⟩ := y
  obtain ⟨d1, h1, h2⟩ := t.get' (f1 vs sq)
  have := enmI_get (k := 0) h1
  rw [Nat.zero_add] at this
  exact ⟨C.put T (.tup [.int (i : Nat), x1]), _, rfl, Grow.put hT, r.put hT, this, repTup put_same (.cons (repI _) (.cons (h2.grow (Grow.put hT) r) .nil))⟩
def zp2Of : List MV → Sto → R Src
  | [d, e], S => match seqOf S d, seqOf S e with
    | some xs, some ys => .ok (.zp2 d xs e ys) S
    | _, _ => .stk
  | _, _ => .stk
def mZip2 (m : MA) : Ev → Sto → R Src := fun ρ S => (m ρ S).bind zp2Of
def zp3Of : List MV → Sto → R Src
  | [d, e, f], S => match seqOf S d, seqOf S e, seqOf S f with
    | some xs, some ys, some zs => .ok (.zp3 d xs e ys f zs) S
    | _, _, _ => .stk
  | _, _ => .stk
def mZip3 (m : MA) : Ev → Sto → R Src := fun ρ S => (m ρ S).bind zp3Of
def enmOf : List MV → Sto → R Src
  | [d], S => match seqOf S d with
    | some xs => .ok (.enm d xs) S
    | none => .stk
  | _, _ => .stk
def mEnum (m : MA) : Ev → Sto → R Src := fun ρ S => (m ρ S).bind enmOf
theorem si_zip2 (hg : Gl X "zip") (hm : X.mg "zip" = none) (ha : SA X W [e, e2] mas)
    (hs : starEach (e :: [e2]) X.env = (false, eval e X.env) :: starEach [e2] X.env := by rfl)
    (hpl : (backTo pos (starEach [e2] X.env)).any (·.1) = false := by rfl) :
    SI X W (.Tuple elts kk tpos) (.Call (.Name "zip" p) [e, e2] [] pos) (mZip2 mas) :=
  (pi_z2 hg hm ha hs hpl).imp fun σ H Q ⟨C, ρ, S, e, s, q⟩ => by
    subst e
    refine tA.bind s q fun ds S1 C1 vs s1 g1 r1 q1 => ?_
    unfold zp2Of at q1
    split at q1
    · split at q1
      · rename_i e1 e2
        obtain ⟨v, u, rfl, rv, ru⟩ := two_of r1
        obtain ⟨a, vs, rfl, sq, t⟩ := seqK_of s1.rs rv e1
        obtain ⟨b, us, rfl, sq2, t2⟩ := seqK_of s1.rs ru e2
        rw [s1.K] at sq sq2
        exact ⟨a, b, _, _, vs, us, rfl, sq, sq2, q1.now s1.rs _ (src_z2 s1.K rv ru)⟩
      · exact q1.elim
    · exact q1.elim
theorem three_of {C : RC} {d e f : MV} {vs : List V} (t : RepVs C [d, e, f] vs) : ∃ v u w, vs = [v, u, w] ∧ RepV C d v ∧ RepV C e u ∧ RepV C f w := by
  obtain ⟨v, vr, rfl, r, t⟩ := t.cons_inv
  obtain ⟨u, w, rfl, r2, r3⟩ := two_of t
  exact ⟨v, u, w, rfl, r, r2, r3⟩
theorem si_zip3 (hg : Gl X "zip") (hm : X.mg "zip" = none) (ha : SA X W [e, e2, e3] mas)
    (hs : starEach (e :: [e2, e3]) X.env = (false, eval e X.env) :: starEach [e2, e3] X.env := by rfl)
    (hpl : (backTo pos (starEach [e2, e3] X.env)).any (·.1) = false := by rfl) :
    SI X W (.Tuple elts kk tpos) (.Call (.Name "zip" p) [e, e2, e3] [] pos) (mZip3 mas) :=
  (pi_z3 hg hm ha hs hpl).imp fun σ H Q ⟨C, ρ, S, e, s, q⟩ => by
    subst e
    refine tA.bind s q fun ds S1 C1 vs s1 g1 r1 q1 => ?_
    unfold zp3Of at q1
    split at q1
    · split at q1
      · rename_i e1 e2 e3
        obtain ⟨v, u, x, rfl, rv, ru, rx⟩ := three_of r1
        obtain ⟨a, vs, rfl, sq, t⟩ := seqK_of s1.rs rv e1
        obtain ⟨b, us, rfl, sq2, t2⟩ := seqK_of s1.rs ru e2
        obtain ⟨c, ws, rfl, sq3, t3⟩ := seqK_of s1.rs rx e3
        rw [s1.K] at sq sq2 sq3
        exact ⟨a, b, c, _, _, _, vs, us, ws, rfl, sq, sq2, sq3, q1.now s1.rs _ (src_z3 s1.K rv ru rx)⟩
      · exact q1.elim
    · exact q1.elim
end
end Mi
set_option Elab.async false
set_option linter.all false
set_option maxRecDepth 100000
set_option maxHeartbeats 2000000
namespace Mi
open PySem PySem.Spec PyProof.Rows L2
def forGo (ok : Sto → Bool) (g : Tg) (body : MS) : List MV → MS
  | [], ρ, S => if ok S then .nx ρ S else .stk
  | x :: xs, ρ, S => if ok S then (match g.f x ρ with
    | some ρ1 => match body ρ1 S with
      | .nx ρ2 S2 => forGo ok g body xs ρ2 S2
      | r => r
    | none => .stk) else .stk
def mFor (mi : Ev → Sto → R Src) (g : Tg) (body : MS) : MS := fun ρ S => (mi ρ S).thn ρ fun src S1 => forGo (fun S => src.ok S) g body src.items ρ S1
section
variable {X : Cx} {W : WX} {tg iter : Expr} {body : List Stmt} {mi : Ev → Sto → R Src} {g : Tg} {mb : MS} {pos : Pos}
theorem ss_for (hp : PassesOwn (model X.prog X.w) X.A X.env X.xe) (hc : X.calm = true) (hi : SI X W tg iter mi) (hg : SG X tg g) (hb : SSs X W body mb)
    (hs : ∀ x, foldedSetIterable iter X.env x = pure x := by intro _; rfl) : SS X W (.For tg iter body [] pos) (mFor mi g mb) :=
  (ps_for hp hc hi hg hb hs).imp fun D σ H ⟨C, ρ, S, e, s, q⟩ => by
    subst e
    refine ⟨C, ρ, S, rfl, s, ?_⟩
    refine (WantS.thn s q).mono fun src S1 C1 g1 r1 _ q1 J sw => ?_
    refine ⟨fun i m σ' H' => m = src.items.length - i ∧ i ≤ src.items.length ∧ ∃ C' ρ' S', C'.H = H' ∧ Sv X ρ' σ' S' C' ∧ Grow C1 C' ∧ WantS W D C' (forGo (fun S => src.ok S) g mb (src.items.drop i) ρ' S'), ⟨src.items.length, by simp, Nat.zero_le _, C1, ρ, S1, rfl, s.grow g1 r1, Grow.refl, q1.1⟩, ?_⟩
    rintro i m σ' H' ⟨rfl, hi, C', ρ', S', rfl, s', g', w⟩
    by_cases hlt : i < src.items.length
    · have ed : src.items.drop i = src.items[i] :: src.items.drop (i + 1) := List.drop_eq_getElem_cons hlt
      rw [ed, forGo] at w
      by_cases hok : src.ok S' = true
      · rw [if_pos hok] at w
        obtain ⟨k1, k2, k3⟩ := sw C' S' (g'.tr r1) s'.rs hok
        refine .inr ⟨k1 i hlt, fun σ'' H'' => (fun i m σ' H' => m = src.items.length - i ∧ i ≤ src.items.length ∧ ∃ C' ρ' S', C'.H = H' ∧ Sv X ρ' σ' S' C' ∧ Grow C1 C' ∧ WantS W D C' (forGo (fun S => src.ok S) g mb (src.items.drop i) ρ' S')) (i + 1) (src.items.length - (i + 1)) σ'' H'',
          fun σ'' H'' h => ⟨_, by omega, h⟩, fun x H'' y => ?_⟩
        obtain ⟨C2, d, rfl, g2, r2, e2, rv⟩ := k3 i x H'' hlt y
        rw [List.getElem?_eq_getElem hlt] at e2
        have e3 : src.items[i] = d := Option.some.inj e2
        cases e4 : g.f src.items[i] ρ' with
        | none => rw [e4] at w; exact w.elim
        | some ρ1 =>
          rw [e4] at w
          dsimp only at w
          refine ⟨C2, ρ', S', d, ρ1, rfl, s'.grow g2 r2, rv, by rw [← e3]; exact e4, fun σ1 ev1 l1 _ _ => ?_⟩
          refine ⟨C2, ρ1, S', rfl, ⟨g2.w.trans s'.w, g2.K.trans s'.K, r2, ev1, l1⟩, ?_⟩
          cases e5 : mb ρ1 S' with
          | nx ρ2 S2 =>
            rw [e5] at w
            exact fun C3 σ3 g3 r3 ev3 l3 => ⟨rfl, hlt, C3, ρ2, S2, rfl, ⟨g3.w.trans (g2.w.trans s'.w), g3.K.trans (g2.K.trans s'.K), r3, ev3, l3⟩, g'.trans (g2.trans g3), w.grow (g2.trans g3)⟩
          | rt d S2 => rw [e5] at w; exact w.grow g2
          | exc c d ρ2 S2 => rw [e5] at w; exact w.grow g2
          | stk => rw [e5] at w; exact w.elim
      · rw [if_neg hok] at w; exact w.elim
    · have e : i = src.items.length := by omega
      subst e
      rw [List.drop_length, forGo] at w
      by_cases hok : src.ok S' = true
      · rw [if_pos hok] at w
        obtain ⟨k1, k2, k3⟩ := sw C' S' (g'.tr r1) s'.rs hok
        exact .inl ⟨k2, w C' σ' Grow.refl s'.rs s'.ev s'.ln⟩
      · rw [if_neg hok] at w; exact w.elim
end
def wipeE (ρ : Ev) : List Nat → Ev
  | [] => ρ
  | v :: vs => (wipeE ρ vs).set v none
theorem wipeE_len (ρ : Ev) : ∀ vs, (wipeE ρ vs).length = ρ.length
  | [] => rfl
  | v :: vs => by unfold wipeE; rw [List.length_set, wipeE_len]
theorem env_wipe {C : RC} {ρ : Ev} {σ : L2.St} (h : EnvR C ρ σ) (l : ρ.length = σ.length) : ∀ vs, EnvR C (wipeE ρ vs) (wipe σ vs)
  | [] => h
  | v :: vs => fun i d e => by
    unfold wipeE at e
    by_cases hi : v = i
    · subst hi
      by_cases hl : v < (wipeE ρ vs).length
      · rw [List.getElem?_set_self hl] at e; cases e
      · rw [List.getElem?_eq_none (by simpa using hl)] at e; cases e
    · rw [List.getElem?_set_ne hi] at e
      obtain ⟨u, e1, r⟩ := env_wipe h l vs i d e
      refine ⟨u, ?_, r⟩
      unfold wipe
      rw [List.getElem?_set_ne hi]
      exact e1
theorem EnvR.trn {C C' : RC} {ρ : Ev} {σ : L2.St} (h : EnvR C ρ σ) (x : Tr C.ι.length C C') : EnvR C' ρ σ := fun i d e => by
  obtain ⟨v, e1, q⟩ := h i d e
  exact ⟨v, e1, q.trn x⟩
def R.calm {α : Type} : R α → R α
  | .exc _ _ _ => .stk
  | r => r
@[simp] theorem R.calm_ok {α : Type} (a : α) (S : Sto) : (R.ok a S).calm = .ok a S := rfl
def lcGo (ok : Sto → Bool) (g : Tg) (tt : MT) (te : ME) (ρ : Ev) : List MV → List MV → Sto → R (List MV)
  | [], acc, S => if ok S then .ok acc S else .stk
  | x :: xs, acc, S => if ok S then (match g.f x ρ with
    | some ρ1 => (tt ρ1 S).calm.bind fun b S1 => if b then (te ρ1 S1).calm.bind fun y S2 => lcGo ok g tt te ρ xs (acc ++ [y]) S2 else lcGo ok g tt te ρ xs acc S1
    | none => .stk) else .stk
def mkL (fr : Bool) (ys : List MV) (S : Sto) : R MV := if fr then .ok (.lst ys) S else .ok (.ref S.length) (S ++ [.lst ys])
def mLc (fr : Bool) (vs : List Nat) (mi : Ev → Sto → R Src) (g : Tg) (tt : MT) (te : ME) : ME := fun ρ S => (mi ρ S).bind fun src S1 =>
  if src.items.length ≤ sizeLine then (lcGo (fun S => src.ok S) g tt te (wipeE ρ vs) src.items [] S1).bind (mkL fr) else .stk
/-- the new list is being filled at D: it is not of the data yet -/
theorem Tr.wr {C : RC} {S : Sto} {D : Addr} {us vs : List V} (r : RepS C S) (hb : D ∈ C.bad) (h : C.H D = some (.lst us)) : Tr C.ι.length C (C.put D (.lst vs)) where
  w := rfl
  K := rfl
  seqT := fun a ws q => by
    rcases q with (q | ⟨o, q⟩) | q
    · exact .inl (.inl (by show upd C.H D (.lst vs) a = _; rw [upd_ne (fun z => by subst z; rw [h] at q; cases q)]; exact q))
    · exact .inl (.inr ⟨o, by show upd C.H D (.lst vs) a = _; rw [upd_ne (fun z => by subst z; rw [h] at q; cases q)]; exact q⟩)
    · exact .inr q
  froz := fun a u n q => ⟨n, .inl (by show upd C.H D (.lst vs) a = _; rw [upd_ne (fun z => n.2 (by rw [z]; exact hb))]; exact q)⟩
  frz := fun a o u q => by show upd C.H D (.lst vs) a = _; rw [upd_ne (fun z => by subst z; rw [h] at q; cases q)]; exact q
  ref := fun n a _ q => q
theorem RepS.wr {C : RC} {S : Sto} {D : Addr} {us vs : List V} (r : RepS C S) (hb : D ∈ C.bad) (h : C.H D = some (.lst us)) : RepS (C.put D (.lst vs)) S := by
  refine ⟨r.len, r.nd, fun a m => ⟨(r.bad a m).1, ?_⟩, fun n mo a e1 e2 => ?_⟩
  · show upd C.H D (.lst vs) a ≠ none
    by_cases q : a = D
    · subst q; rw [upd_same]; simp
    · rw [upd_ne q]; exact (r.bad a m).2
  · refine (r.ob n mo a e1 e2).trn (Tr.wr r hb h) ?_
    show upd C.H D (.lst vs) a = C.H a
    exact upd_ne fun z => (r.bad D hb).1 (by rw [← z]; exact List.mem_of_getElem? e2)
/-- the state at the start -/
def RC.fill (C : RC) (D : Addr) : RC := { C.put D (.lst []) with bad := D :: C.bad }
theorem Grow.fill {C : RC} {D : Addr} (h : C.H D = none) : Grow C (C.fill D) where
  w := rfl
  K := rfl
  bad := fun a m => by
    rcases List.mem_cons.mp (show a ∈ D :: C.bad from m) with z | z
    · subst z; exact .inr (.inr h)
    · exact .inl z
  bad' := fun a m => List.mem_cons_of_mem _ m
  kp := fun a o na e => .inl (by show upd C.H D _ a = _; rw [upd_ne (ne_of_none e h)]; exact e)
  new := fun a m => .inl m
  pre := rfl
  le := Nat.le_refl _
  le' := Nat.le_refl _
theorem RepS.fill {C : RC} {S : Sto} {D : Addr} (r : RepS C S) (h : C.H D = none) : RepS (C.fill D) S := by
  refine ⟨r.len, r.nd, fun a m => ?_, fun n mo a e1 e2 => ?_⟩
  · rcases List.mem_cons.mp (show a ∈ D :: C.bad from m) with z | z
    · subst z; exact ⟨r.notin h, by show upd C.H a _ a ≠ none; rw [upd_same]; simp⟩
    · refine ⟨(r.bad a z).1, ?_⟩
      show upd C.H D _ a ≠ none
      rw [upd_ne (fun q => (r.bad a z).2 (by rw [q]; exact h))]
      exact (r.bad a z).2
  · refine (r.ob n mo a e1 e2).trn ((Grow.fill h).tr r) ?_
    show upd C.H D _ a = C.H a
    exact upd_ne fun z => r.notin h (by rw [← z]; exact List.mem_of_getElem? e2)
/-- with the bad ones of an earlier state -/
def RC.rb (C C0 : RC) : RC := { C with bad := C0.bad }
theorem rb_step {C0 C C' : RC} (x : Grow C0 (C.rb C0)) (hb : ∀ a ∈ C0.bad, a ∈ C.bad) (y : Grow C C') : Grow C0 (C'.rb C0) where
  w := y.w.trans x.w
  K := y.K.trans x.K
  bad := fun a m => .inl m
  bad' := fun a m => m
  kp := fun a o na h => by
    have n1 : a ∉ C.ι := fun m => by
      rcases x.new a m with q | q
      · exact na q
      · rw [h] at q; cases q
    rcases x.kp a o na h with k | ⟨nb, e, ob, k⟩
    · rcases y.kp a o n1 k with j | ⟨nb, e, j⟩
      · exact .inl j
      · exact .inr ⟨fun m => nb (hb a m), e, j⟩
    · exact .inr ⟨nb, e, ob, (y.kp a _ n1 k).exact (.inl fun _ z => by cases z)⟩
  new := fun a m => by
    rcases y.new a m with q | q
    · exact x.new a q
    · by_cases ha : a ∈ C0.ι
      · exact .inl ha
      · cases e : C0.H a with
        | none => exact .inr rfl
        | some o =>
          exact absurd q (x.kp a o ha e).nix
  pre := (y.weak x.le').pre.trans x.pre
  le := Nat.le_refl _
  le' := Nat.le_trans x.le' y.le'
theorem rb_wr {C0 C : RC} {D : Addr} {o : HO} (x : Grow C0 (C.rb C0)) (h : C0.H D = none) : Grow C0 ((C.put D o).rb C0) where
  w := x.w
  K := x.K
  bad := fun a m => .inl m
  bad' := fun a m => m
  kp := fun a u na e => by
    show upd C.H D o a = some u ∨ _ ∧ _ ∧ ∃ ob, upd C.H D o a = some (.frz ob u)
    rw [upd_ne (ne_of_none e h)]
    exact x.kp a u na e
  new := x.new
  pre := x.pre
  le := x.le
  le' := x.le'
theorem Tr.rb {C C0 : RC} (h : ∀ a ∈ C0.bad, a ∈ C.bad) : Tr C.ι.length C (C.rb C0) :=
  ⟨rfl, rfl, fun _ _ q => q, fun a u n q => ⟨⟨n.1, fun m => n.2 (h a m)⟩, .inl q⟩, fun _ _ _ q => q, fun _ _ _ q => q⟩
theorem RepS.rb {C C0 : RC} {S : Sto} (r : RepS C S) (h : ∀ a ∈ C0.bad, a ∈ C.bad) : RepS (C.rb C0) S :=
  ⟨r.len, r.nd, fun a m => r.bad a (h a m), fun n mo a e1 e2 => (r.ob n mo a e1 e2).trn (Tr.rb h) rfl⟩
/-- the filled list becomes a cell of the store -/
def RC.adopt (C : RC) (D : Addr) : RC := { C with ι := C.ι ++ [D] }
theorem Wants.calm {α β : Type} {W W' : WX} {σ σ' : L2.St} {C : RC} {r : R α} {f : α → Sto → R β} {Q : β → Sto → RC → Prop} (h : Wants W σ C (r.calm.bind f) Q) :
    Wants W' σ' C r (fun a S1 C1 => Wants W σ C1 (f a S1) Q ∧ Grow C C1) := by
  cases r with
  | ok a S => exact fun C1 g r1 => (Wants.bind h) C1 g r1
  | exc c d S => exact h.elim
  | stk => exact h
/-- what is wanted of the filled list -/
def LW (D : Addr) (Q : VK) (fr : Bool) (C0 : RC) : R (List MV) → Prop
  | .ok acc S => ∀ C, Grow C0 (C.rb C0) → (∀ a ∈ C0.bad, a ∈ C.bad) → RepS C S → D ∈ C.bad → ∀ vs, C.H D = some (.lst vs) → RepVs C acc vs → Q (.ref D) C.H
  | _ => False
section
variable {X : Cx} {W : WX}
theorem lw_end {σ : L2.St} {C0 : RC} {D : Addr} {Q : VK} {fr : Bool} {S0 : Sto} {r : R (List MV)} (r0 : RepS C0 S0) (hD : C0.H D = none) (hr : ∀ c d S, r ≠ .exc c d S) (h : Wants W σ C0 (r.bind (mkL fr)) (fun d _ C' => ∀ v, RepV C' d v → Q v C'.H)) : LW D Q fr C0 r := by
  cases r with
  | exc c d S => exact absurd rfl (hr c d S)
  | stk => exact h
  | ok acc S =>
    intro C g hb rs hbD vs hv rv
    have nD : D ∉ C.ι := (rs.bad D hbD).1
    have nb : D ∉ C0.bad := fun m => (r0.bad D m).2 hD
    have rs' := rs.rb hb
    have rv' := rv.trn (Tr.rb (C0 := C0) hb)
    cases fr with
    | true =>
      have h : Wants W σ C0 (.ok (.lst acc) S) (fun d _ C' => ∀ v, RepV C' d v → Q v C'.H) := h
      exact h (C.rb C0) g rs' (.ref D) (repLst ⟨nD, nb⟩ hv rv')
    | false =>
      have h : Wants W σ C0 (.ok (.ref S.length) (S ++ [.lst acc])) (fun d _ C' => ∀ v, RepV C' d v → Q v C'.H) := h
      have tr : Tr C.ι.length C ((C.rb C0).adopt D) := by
        refine ⟨rfl, rfl, fun _ _ q => q, fun a u n q => ⟨⟨fun m => ?_, fun m => n.2 (hb a m)⟩, .inl q⟩, fun _ _ _ q => q, fun n a hn q => ?_⟩
        · rcases List.mem_append.mp (show a ∈ C.ι ++ [D] from m) with m | m
          · exact n.1 m
          · have e : a = D := by simpa using m
            exact n.2 (by rw [e]; exact hbD)
        · show (C.ι ++ [D])[n]? = some a
          rw [List.getElem?_append_left (by exact hn)]; exact q
      have g2 : Grow C0 ((C.rb C0).adopt D) := by
        refine ⟨g.w, g.K, fun a m => .inl m, fun a m => m, g.kp, fun a m => ?_, ?_, g.le, ?_⟩
        · rcases List.mem_append.mp (show a ∈ C.ι ++ [D] from m) with m | m
          · exact g.new a m
          · have e : a = D := by simpa using m
            exact .inr (by rw [e]; exact hD)
        · show (C.ι ++ [D]).take C0.ι.length = _
          rw [List.take_append_of_le_length (show C0.ι.length ≤ C.ι.length from g.le')]; exact g.pre
        · show C0.ι.length ≤ (C.ι ++ [D]).length
          rw [List.length_append]
          exact Nat.le_trans g.le' (Nat.le_add_right _ _)
      have rs2 : RepS ((C.rb C0).adopt D) (S ++ [.lst acc]) := by
        refine ⟨by show (C.ι ++ [D]).length = _; simp [rs.len], ?_, fun a m => ⟨fun m2 => ?_, (rs.bad a (hb a m)).2⟩, fun n mo a e1 e2 => ?_⟩
        · show (C.ι ++ [D]).Nodup
          rw [List.nodup_append]
          refine ⟨rs.nd, by simp, fun a ha b hb => ?_⟩
          have e : b = D := by simpa using hb
          subst e
          intro e; subst e
          exact nD ha
        · rcases List.mem_append.mp (show a ∈ C.ι ++ [D] from m2) with m2 | m2
          · exact (rs.bad a (hb a m)).1 m2
          · have e : a = D := by simpa using m2
            subst e; exact nb m
        · have e2 : (C.ι ++ [D])[n]? = some a := e2
          by_cases hn : n < S.length
          · rw [List.getElem?_append_left hn] at e1
            rw [List.getElem?_append_left (by rw [rs.len]; exact hn)] at e2
            exact (rs.ob n mo a e1 e2).trn tr rfl
          · rw [List.getElem?_append_right (by omega)] at e1
            rw [List.getElem?_append_right (by rw [rs.len]; omega), rs.len] at e2
            cases hz : n - S.length with
            | zero =>
              rw [hz] at e1 e2
              simp at e1 e2
              subst e1; subst e2
              exact ⟨vs, hv, rv.trn tr⟩
            | succ k => rw [hz] at e1; simp at e1
      refine h ((C.rb C0).adopt D) g2 rs2 (.ref D) ?_
      rw [RepV]
      exact ⟨D, rfl, by show (C.ι ++ [D])[S.length]? = some D; rw [← rs.len]; simp⟩
theorem lcGo_noexc {ok : Sto → Bool} {g : Tg} {tt : MT} {te : ME} {ρ : Ev} : ∀ (xs acc : List MV) (S : Sto) (c : Str) (d : MV) (S' : Sto), lcGo ok g tt te ρ xs acc S ≠ .exc c d S'
  | [], acc, S, c, d, S', h => by
    unfold lcGo at h
    split at h <;> cases h
  | x :: xs, acc, S, c, d, S', h => by
    unfold lcGo at h
    split at h
    · split at h
      · rename_i ρ1 e1
        cases e : tt ρ1 S with
        | ok b S1 =>
          rw [e] at h
          simp only [R.calm_ok, R.bind_ok] at h
          split at h
          · cases e2 : te ρ1 S1 with
            | ok y S2 =>
              rw [e2] at h
              simp only [R.calm_ok, R.bind_ok] at h
              exact lcGo_noexc xs _ S2 c d S' h
            | exc c' d' S2 => rw [e2] at h; cases h
            | stk => rw [e2] at h; cases h
          · exact lcGo_noexc xs _ S1 c d S' h
        | exc c' d' S1 => rw [e] at h; cases h
        | stk => rw [e] at h; cases h
      · cases h
    · cases h
end
abbrev WNo : WX := fun _ _ _ _ => False
theorem takesNo {X : Cx} {s : Shared} {H : Hp} {sc : Scope} {ce : Env} {fp : List Addr} : Takes (X.blk s H sc ce fp) WNo := fun u s' ⟨_, _, _, _, _, _, _, _, h⟩ => h.2.2.2.2.2.2.2.2
/-- several tests -/
theorem _root_.L2.PTs.imp {X : Cx} {ts : List Expr} {t t' : TT} (h : PTs X ts t) (k : ∀ σ H Q, t' σ H Q → t σ H Q) : PTs X ts t' := ⟨fun pins s σ H Q I q => h.run pins s σ H Q I (k σ H Q q)⟩
def mTrue : MT := fun _ S => .ok true S
section
variable {X : Cx} {W : WX} {tg iter elt : Expr} {ifs : List Expr} {scope : Scope} {own : List (Str × Nat)} {mi : Ev → Sto → R Src} {g : Tg} {tt : MT} {te : ME} {pos : Pos} {fr : Bool}
/-- the reading of a comprehension -/
theorem lc_imp {σ : L2.St} {H : Hp} {Q : VK} {vs : List Nat} (hix : ∀ i ∈ g.ix, i ∈ vs) (h : tE X W (mLc fr vs mi g tt te) σ H Q) : tLc (tI X W mi) (tG X g) (tT X WNo tt) (tE X WNo te) vs σ H Q := by
  obtain ⟨C, ρ, S, e, s, q⟩ := h
  subst e
  refine ⟨C, ρ, S, rfl, s, (Wants.bind q).mono fun src S1 C0 g0 r0 _ q0 J sw D hD => ?_⟩
  have q0 := q0.1
  split at q0
  case isFalse => exact q0.elim
  rename_i hsz
  have lw : LW D Q fr C0 (lcGo (fun S => src.ok S) g tt te (wipeE ρ vs) src.items [] S1) := lw_end r0 hD (lcGo_noexc _ _ _) q0
  have s0 : Sv X ρ σ S1 C0 := s.grow g0 r0
  refine ⟨fun i m H' => m = src.items.length - i ∧ i ≤ src.items.length ∧ ∃ C' S' acc accv, C'.H = H' ∧ Tr C0.ι.length C0 C' ∧ Grow C0 (C'.rb C0) ∧ (∀ a ∈ C0.bad, a ∈ C'.bad) ∧ RepS C' S' ∧ D ∈ C'.bad ∧ C'.H D = some (.lst accv) ∧ RepVs C' acc accv ∧ acc.length ≤ i ∧
      LW D Q fr C0 (lcGo (fun S => src.ok S) g tt te (wipeE ρ vs) (src.items.drop i) acc S'), ⟨src.items.length, by simp, Nat.zero_le _, C0.fill D, S1, [], [], rfl, (Grow.fill hD).tr r0, ?_, fun a m => List.mem_cons_of_mem _ m, r0.fill hD, List.mem_cons_self, upd_same, .nil, Nat.le_refl _, lw⟩, ?_⟩
  · exact rb_wr Grow.refl hD
  rintro i m H' ⟨rfl, hi, C1, S', acc, accv, rfl, tr, gr, hb, rs, hbD, hv, rv, hl, w⟩
  by_cases hlt : i < src.items.length
  · have ed : src.items.drop i = src.items[i] :: src.items.drop (i + 1) := List.drop_eq_getElem_cons hlt
    rw [ed, lcGo] at w
    by_cases hok : src.ok S' = true
    · rw [if_pos hok] at w
      obtain ⟨k1, k2, k3⟩ := sw C1 S' tr rs hok
      refine .inr ⟨k1 i hlt, fun H'' => (fun i m H' => m = src.items.length - i ∧ i ≤ src.items.length ∧ ∃ C' S' acc accv, C'.H = H' ∧ Tr C0.ι.length C0 C' ∧ Grow C0 (C'.rb C0) ∧ (∀ a ∈ C0.bad, a ∈ C'.bad) ∧ RepS C' S' ∧ D ∈ C'.bad ∧ C'.H D = some (.lst accv) ∧ RepVs C' acc accv ∧ acc.length ≤ i ∧
        LW D Q fr C0 (lcGo (fun S => src.ok S) g tt te (wipeE ρ vs) (src.items.drop i) acc S')) (i + 1) (src.items.length - (i + 1)) H'', fun H'' h => ⟨_, by omega, h⟩, fun x H'' y => ?_⟩
      obtain ⟨C2, d, rfl, g2, r2, e2, rd⟩ := k3 i x H'' hlt y
      rw [List.getElem?_eq_getElem hlt] at e2
      have e3 : src.items[i] = d := Option.some.inj e2
      have g01 : C0.ι.length ≤ C1.ι.length := gr.le'
      have tr2 : Tr C0.ι.length C0 C2 := tr.trans (g2.tr rs) g01
      have ew : EnvR C2 (wipeE ρ vs) (wipe σ vs) := (env_wipe s0.ev s0.ln vs).trn tr2
      have sv2 : Sv X (wipeE ρ vs) (wipe σ vs) S' C2 := ⟨tr2.w.trans s0.w, tr2.K.trans s0.K, r2, ew, by rw [wipeE_len, wipe_length]; exact s0.ln⟩
      have hvn : ∀ {Ca Cb : RC} {Sa : Sto} {us : List V}, Grow Ca Cb → RepS Ca Sa → D ∈ Ca.bad → Ca.H D = some (.lst us) → Cb.H D = some (.lst us) ∧ D ∈ Cb.bad := fun {Ca Cb Sa us} x r hb h => ⟨(x.kp _ _ (r.bad D hb).1 h).exact (.inr hb), x.bad' D hb⟩
      cases e4 : g.f src.items[i] (wipeE ρ vs) with
      | none => rw [e4] at w; exact w.elim
      | some ρ1 =>
        rw [e4] at w
        dsimp only at w
        refine ⟨C2, wipeE ρ vs, S', d, ρ1, rfl, sv2, rd, by rw [← e3]; exact e4, fun σ1 ev1 l1 l1' w1 => ⟨by rw [w1 vs hix, wipe_wipe], ?_⟩⟩
        have sv3 : Sv X ρ1 σ1 S' C2 := ⟨sv2.w, sv2.K, r2, ev1, l1⟩
        refine ⟨C2, ρ1, S', rfl, sv3, ?_⟩
        cases e5 : tt ρ1 S' with
        | exc c d S2 => rw [e5] at w; exact w.elim
        | stk => rw [e5] at w; exact w.elim
        | ok b S2 =>
          rw [e5] at w
          simp only [R.calm_ok, R.bind_ok] at w
          intro C3 g3 r3
          have sv4 := sv3.grow g3 r3
          have gr3 : Grow C0 (C3.rb C0) := rb_step (rb_step gr hb g2) (fun a m => g2.bad' a (hb a m)) g3
          have hb3 : ∀ a ∈ C0.bad, a ∈ C3.bad := fun a m => g3.bad' a (g2.bad' a (hb a m))
          have z2 := hvn g2 rs hbD hv
          have z3 := hvn g3 r2 z2.2 z2.1
          have tr3 : Tr C0.ι.length C0 C3 := tr2.trans (g3.tr r2) (Nat.le_trans g01 g2.le')
          have rv3 : RepVs C3 acc accv := (rv.grow g2 rs).grow g3 r2
          cases b with
          | false =>
            rw [if_neg (by decide)] at w
            dsimp only
            rw [if_neg (by decide)]
            exact ⟨rfl, hlt, C3, S2, acc, accv, rfl, tr3, gr3, hb3, r3, z3.2, z3.1, rv3, by omega, w⟩
          | true =>
            rw [if_pos rfl] at w
            dsimp only
            rw [if_pos rfl]
            refine ⟨C3, ρ1, S2, rfl, sv4, ?_⟩
            cases e6 : te ρ1 S2 with
            | exc c d S2 => rw [e6] at w; exact w.elim
            | stk => rw [e6] at w; exact w.elim
            | ok yv S3 =>
              rw [e6] at w
              simp only [R.calm_ok, R.bind_ok] at w
              intro C4 g4 r4 v rvv
              have z4 := hvn g4 r3 z3.2 z3.1
              have hb4 : ∀ a ∈ C0.bad, a ∈ C4.bad := fun a m => g4.bad' a (hb3 a m)
              have tr4 : Tr C0.ι.length C0 C4 := tr3.trans (g4.tr r3) (Nat.le_trans g01 (Nat.le_trans g2.le' g3.le'))
              have l4 : C0.ι.length ≤ C4.ι.length := Nat.le_trans g01 (Nat.le_trans g2.le' (Nat.le_trans g3.le' g4.le'))
              have rv4 : RepVs C4 acc accv := rv3.grow g4 r3
              have wr := Tr.wr (vs := accv ++ [v]) r4 z4.2 z4.1
              refine ⟨accv, z4.1, by rw [← rv4.length]; omega, rfl, hlt, C4.put D (.lst (accv ++ [v])), S3, acc ++ [yv], accv ++ [v], rfl, tr4.trans wr l4, rb_wr (rb_step gr3 hb3 g4) hD, hb4, r4.wr z4.2 z4.1, z4.2, put_same, (rv4.trn wr).append (.cons (rvv.trn wr) .nil), by simp; omega, w⟩
    · rw [if_neg hok] at w; exact w.elim
  · have e : i = src.items.length := by omega
    subst e
    rw [List.drop_length, lcGo] at w
    by_cases hok : src.ok S' = true
    · rw [if_pos hok] at w
      obtain ⟨k1, k2, k3⟩ := sw C1 S' tr rs hok
      exact .inl ⟨k2, w C1 gr hb rs hbD accv hv rv⟩
    · rw [if_neg hok] at w; exact w.elim
abbrev STs (X : Cx) (W : WX) (ts : List Expr) (m : MT) : Prop := PTs X ts (tT X W m)
theorem sts_nil : STs X W [] mTrue := by
  first
    | exact pts_nil.imp fun σ H Q ⟨C, ρ, S, e, s, q⟩ => by subst e; exact q.now s.rs
theorem tE.blk {X : Cx} {s0 : Shared} {H0 : Hp} {sc : Scope} {ce : Env} {fp : List Addr} {W : WX} {m : ME} {σ : L2.St} {H : Hp} {Q : VK} (h : tE X W m σ H Q) : tE (X.blk s0 H0 sc ce fp) W m σ H Q := by
  obtain ⟨C, ρ, S, e, s, q⟩ := h
  exact ⟨C, ρ, S, e, ⟨s.w, s.K, s.rs, s.ev, s.ln⟩, q⟩
theorem tT.blk {X : Cx} {s0 : Shared} {H0 : Hp} {sc : Scope} {ce : Env} {fp : List Addr} {W : WX} {m : MT} {σ : L2.St} {H : Hp} {Q : Bool → Hp → Prop} (h : tT X W m σ H Q) : tT (X.blk s0 H0 sc ce fp) W m σ H Q := by
  obtain ⟨C, ρ, S, e, s, q⟩ := h
  exact ⟨C, ρ, S, e, ⟨s.w, s.K, s.rs, s.ev, s.ln⟩, q⟩
theorem tG.blk {X : Cx} {s0 : Shared} {H0 : Hp} {sc : Scope} {ce : Env} {fp : List Addr} {t : Tg} {v : V} {σ : L2.St} {H : Hp} {Q : L2.St → Hp → Prop} (h : tG X t v σ H Q) : tG (X.blk s0 H0 sc ce fp) t v σ H Q := by
  obtain ⟨C, ρ, S, d, ρ', e, s, q⟩ := h
  exact ⟨C, ρ, S, d, ρ', e, ⟨s.w, s.K, s.rs, s.ev, s.ln⟩, q⟩
theorem se_lc (hc : X.calm = true) (hN : X.N.Nodup) (hi : SI X W tg iter mi) (ok : BlkOk X.N X.env.scope scope own)
    (hg : ∀ (s : Shared) (H : Hp) (C : Addr) (cl : List (Str × Addr)) (fp : List Addr), SG (X.blk s H scope (compEnvC scope cl C X.env) fp) tg g) (ht : ∀ (s : Shared) (H : Hp) (C : Addr) (cl : List (Str × Addr)) (fp : List Addr), STs (X.blk s H scope (compEnvC scope cl C X.env) fp) WNo ifs tt)
    (he : ∀ (s : Shared) (H : Hp) (C : Addr) (cl : List (Str × Addr)) (fp : List Addr), SE (X.blk s H scope (compEnvC scope cl C X.env) fp) WNo elt te) (hix : ∀ i ∈ g.ix, i ∈ own.map (·.2)) (hs : ∀ x, foldedSetIterable iter X.env x = pure x := by intro _; rfl) :
    SE X W (.ListComp elt [⟨tg, iter, ifs, 0⟩] scope pos) (mLc fr (own.map (·.2)) mi g tt te) :=
  (pe_lc hc hN hi ok (g := tG X g) (fun s H C cl fp => (hg s H C cl fp).imp fun v σ H Q h => tG.blk h) (fun s H C cl fp => (ht s H C cl fp).imp fun σ H Q h => tT.blk h) (fun s H C cl fp => (he s H C cl fp).imp fun σ H Q h => tE.blk h) hs).imp fun σ H Q h => lc_imp hix h
end
end Mi
set_option Elab.async false
set_option linter.all false
set_option maxRecDepth 100000
set_option maxHeartbeats 2000000
namespace Mi
open PySem PySem.Spec PyProof.Rows L2
def setM (o i d : MV) (S : Sto) : Option Sto := match o with
  | .ref n => (match S[n]? with
    | some (.lst xs) => (match i with
      | .int k => (match ixN xs.length k with
        | some j => some (S.set n (.lst (xs.set j d)))
        | none => none)
      | _ => none)
    | some (.dct ks vs) => (match keyV i with
      | some k => if ks.length < 1000 then some (S.set n (.dct (dput ks vs k d).1 (dput ks vs k d).2)) else none
      | none => none)
    | _ => none)
  | _ => none
def rSet (X : Cx) : TSet := fun o i v H Q => ∃ C S d1 d2 d3, C.H = H ∧ C.w = X.w ∧ C.K = X.K ∧ RepS C S ∧ RepV C d1 o ∧ RepV C d2 i ∧ RepV C d3 v ∧ ∃ S', setM d1 d2 d3 S = some S' ∧ ∀ C', Grow C C' → RepS C' S' → Q C'.H
theorem write_ok {C : RC} {S : Sto} {n : Nat} {a : Addr} {o : HO} {mo : MO} {Q : Hp → Prop} (r : RepS C S) (h : C.ι[n]? = some a) (q : RepO (C.put a o) a mo) (k : ∀ C', Grow C C' → RepS C' (S.set n mo) → Q C'.H) : Q (upd C.H a o) :=
  k (C.put a o) (Grow.write (List.mem_of_getElem? h)) (r.write h q)
theorem psetM {X : Cx} (hu : X.A.units + 1 < cLine) : PSet X (rSet X) := by
  intro pins s σ H o i v ov iv u Q I ro ri rv rof
  obtain ⟨C, S, d1, d2, d3, rfl, hw, hK, r, h1, h2, h3, S', e, q⟩ := rof
  cases d1 with
  | ref n =>
    rw [RepV] at h1
    obtain ⟨a, rfl, ha⟩ := h1
    unfold setM at e
    dsimp only at e
    have gw : ∀ {o : HO}, Grow C (C.put a o) := Grow.write (List.mem_of_getElem? ha)
    cases e0 : S[n]? with
    | none => rw [e0] at e; cases e
    | some mo =>
      rw [e0] at e
      have ro' := r.ob n mo a e0 ha
      cases mo with
      | lst xs =>
        dsimp only at e
        cases d2 with
        | int k =>
          dsimp only at e
          cases ej : ixN xs.length k with
          | none => rw [ej] at e; cases e
          | some j =>
            rw [ej] at e
            cases e
            obtain ⟨vs, hv, t⟩ := ro'
            refine set_list pins s σ C.H _ _ _ ov iv u Q I ro ri rv ⟨a, vs, k, j, rfl, vInt h2, hv, by rw [← t.length]; exact ej, ?_⟩
            exact write_ok (mo := .lst (xs.set j d3)) r ha ⟨_, put_same, (t.set h3 j).grow gw r⟩ q
        | _ => cases e
      | dct ks ds =>
        dsimp only at e
        cases ek : keyV d2 with
        | none => rw [ek] at e; cases e
        | some k =>
          rw [ek] at e
          dsimp only at e
          split at e
          · rename_i hz
            cases e
            obtain ⟨vs, hv, l, nd, t⟩ := ro'
            have ekv := keyV_rep h2 ek
            subst ekv
            obtain ⟨vs', e1, e2, e3, e4⟩ := dput_rep (ks' := (dput ks ds k d3).1) (ds' := (dput ks ds k d3).2) t l nd h3 rfl
            refine set_dict hu pins s σ C.H _ _ _ ov iv u Q I ro ri rv ⟨a, _, rfl, .k hv ?_, ?_⟩
            · rw [List.length_zip, ← l, sizeLine_eq]; omega
            · rw [e1]
              exact write_ok (mo := .dct (dput ks ds k d3).1 (dput ks ds k d3).2) r ha ⟨vs', put_same, e2, e3, e4.grow gw r⟩ q
          · cases e
      | _ => cases e
  | _ => cases e
def mSub (e o i : ME) : MS := fun ρ S => (e ρ S).thn ρ fun d S1 => (o ρ S1).thn ρ fun od S2 => (i ρ S2).thn ρ fun id S3 => match setM od id d S3 with
  | some S4 => .nx ρ S4
  | none => .stk
section
variable {X : Cx} {W : WX} {e o i : Expr} {me mo mi : ME} {pos tpos apos : Pos}
/-- o[i] = v by its parts -/
abbrev SubAs (X : Cx) (o i : Expr) (tpos : Pos) : Prop := ∀ v, assign (.Subscript o i tpos) X.env v =
  (holding [v] (eval o X.env) >>= fun to => holding [v, to] (eval i X.env) >>= fun at' => standAt tpos >>= fun _ => holding [v, to, at'] (setItem to at' v) >>= fun _ => release [v, to, at'] [])
theorem ss_sub (hu : X.A.units + 1 < cLine) (he : SE X W e me) (ho : SE X W o mo) (hi : SE X W i mi) (ha : SubAs X o i tpos := by intro _; rfl) (hs : swapsWithSole [.Subscript o i tpos] e pos.line X.env = pure false := by rfl) (hw : swappedStores [.Subscript o i tpos] e X.env = pure none := by rfl)
    (h1 : (assignEach [.Subscript o i tpos] X.env).map (·.2) = [assign (.Subscript o i tpos) X.env] := by rfl) : SS X W (.Assign [.Subscript o i tpos] e pos) (mSub me mo mi) :=
  (ps_asg he (pg_sub ho hi (psetM hu) ha) hs hw h1).imp fun D σ H ⟨C, ρ, S, e, s, q⟩ => by
    subst e
    refine tE.thn s q fun d S1 C1 v s1 g1 r1 q1 => ?_
    refine tE.thn s1 q1 fun od S2 C2 ov s2 g2 r2 q2 => ?_
    refine tE.thn s2 q2 fun id S3 C3 iv s3 g3 r3 q3 => ?_
    refine ⟨C3, S3, od, id, d, rfl, s3.w, s3.K, s3.rs, r2.grow g3 s2.rs, r3, (r1.grow g2 s1.rs).grow g3 s2.rs, ?_⟩
    cases e : setM od id d S3 with
    | none => rw [e] at q3; exact q3.elim
    | some S4 =>
      rw [e] at q3
      exact ⟨S4, rfl, fun C' g r => q3 C' σ g r (s3.ev.grow g s3.rs) s3.ln⟩
def appM (o d : MV) (S : Sto) : R MV := match o with
  | .ref n => (match S[n]? with
    | some (.lst xs) => if xs.length < sizeLine then .ok .non (S.set n (.lst (xs ++ [d]))) else .stk
    | _ => .stk)
  | _ => .stk
def isLst (S : Sto) (o : MV) : Bool := (lstOf S o).isSome
def mApp (o : ME) (e : ME) : ME := fun ρ S => (o ρ S).bind fun od S1 => if isLst S1 od then (e ρ S1).bind fun d S2 => appM od d S2 else .stk
abbrev FewArgs (X : Cx) (pos : Pos) (e : Expr) : Prop := ((backTo pos (starEach [e] X.env)).all (fun x => !x.1) && (backToKw pos (keywordEach [] X.env)).all (fun x => x.1.isSome) && decide (([e] : List Expr).length +
  ([] : List Keyword).length + (if ([] : List Keyword).isEmpty then 0 else 1) < 30)) = true
theorem se_app (ho : SE X W o mo) (he : SE X W e me) (hbase : attributeBase o "append" X.env (eval o X.env) = eval o X.env := by rfl)
    (hfew : FewArgs X pos e := by rfl)
    (hline : (apos.endLine == pos.line) = true := by rfl) (hs : starEach [e] X.env = (false, eval e X.env) :: starEach [] X.env := by rfl) (hplain : (backTo pos (starEach [] X.env)).any (·.1) = false := by rfl) :
    SE X W (.Call (.Attribute o "append" apos) [e] [] pos) (mApp mo me) :=
  (pe_bm PySem.F.plainAttrs_list PySem.F.slot_list_append PySem.F.type_list_append mt_append ho (pa_cons he pa_nil hs) hbase hfew hline hs hplain).imp fun σ H Q ⟨C, ρ, S, e, s, q⟩ => by
    subst e
    refine tE.bind s q fun od S1 C1 ov s1 g1 r1 q1 => ?_
    split at q1
    · rename_i hl
      unfold isLst at hl
      obtain ⟨xs, hx⟩ := Option.isSome_iff_exists.mp hl
      obtain ⟨a, vs, rfl, ha, t⟩ := lstOf_rep s1.rs r1 hx
      refine ⟨.inl ⟨rfl, vs, .of ha⟩, ?_⟩
      refine tE.bind s1 q1 fun d S2 C2 v s2 g2 r2 q2 => ?_
      have ro := r1.grow g2 s1.rs
      unfold appM at q2
      cases od with
      | ref n =>
        dsimp only at q2
        rw [RepV] at ro
        obtain ⟨a', ea, ha2⟩ := ro
        cases ea
        cases e0 : S2[n]? with
        | none => rw [e0] at q2; exact q2.elim
        | some mo =>
          rw [e0] at q2
          cases mo with
          | lst xs =>
            dsimp only at q2
            obtain ⟨us, hv, t2⟩ := s2.rs.ob n _ _ e0 ha2
            split at q2
            · rename_i hz
              refine ⟨a, us, v, rfl, rfl, hv, by rw [← t2.length]; exact hz, ?_⟩
              have gw : Grow C2 (C2.put a (.lst (us ++ [v]))) := Grow.write (List.mem_of_getElem? ha2)
              exact q2.here gw (s2.rs.write (mo := .lst (xs ++ [d])) ha2 ⟨_, put_same, (t2.append (.cons r2 .nil)).grow gw s2.rs⟩) _ repN
            · exact q2.elim
          | _ => exact q2.elim
      | _ => exact q2.elim
    · exact q1.elim
def mIsi (t : String) (e : ME) : ME := fun ρ S => (e ρ S).bind fun d S1 => isiM t [d] S1
theorem se_isi {t : String} {x : Str} {p1 p2 : Pos} (hg : Gl X "isinstance") (hm : X.mg "isinstance" = none) (hgx : Gl X x) (hmx : X.mg x = none) (hvx : bootBuiltins x = some (.type t)) (he : SE X W e me) (hnx : x ≠ "__name__" := by decide) (hdx : (x == ("__debug__" : Str)) = false := by decide)
    (hs : starEach [e, .Name x p2] X.env = (false, eval e X.env) :: starEach [.Name x p2] X.env := by rfl) (hs2 : starEach [.Name x p2] X.env = (false, eval (.Name x p2) X.env) :: starEach [] X.env := by rfl) (hpl : (backTo pos (starEach [.Name x p2] X.env)).any (·.1) = false := by rfl) :
    SE X W (.Call (.Name "isinstance" p1) [e, .Name x p2] [] pos) (mIsi t me) :=
  (pe_callB call_isi hg hm PyProof.Rows.boot_isinstance (pa_cons he (pa_cons (pe_bltn (v := .ty t) hgx hmx hvx rfl hnx hdx) pa_nil hs2) hs) (by decide) (by decide) hs hpl).imp fun σ H Q ⟨C, ρ, S, e, s, q⟩ => by
    subst e
    refine tE.bind s q fun d S1 C1 v s1 g1 r1 q1 => ?_
    unfold isiM at q1
    dsimp only at q1
    cases eb : isiB S1 d t with
    | none => rw [eb] at q1; exact q1.elim
    | some b =>
      rw [eb] at q1
      unfold isiB at eb
      cases en : tyN S1 d with
      | none => rw [en] at eb; cases eb
      | some n =>
        rw [en] at eb
        dsimp only at eb
        have ty := tyN_rep s1.rs r1 en
        rw [s1.K] at ty
        exact ⟨v, .ty t, _, _, b, rfl, .ty t, ty, kit_ty eb, q1.now s1.rs _ (repB _)⟩
end
end Mi
set_option Elab.async false
set_option linter.all false
set_option maxRecDepth 100000
set_option maxHeartbeats 2000000
namespace Mi
open PySem PySem.Spec PyProof.Rows L2
def objOf (S : Sto) : MV → Option (Str × List Str × List MV)
  | .obj c fs vs => some (c, fs, vs)
  | .ref n => (match S[n]? with
    | some (.obj c fs vs) => some (c, fs, vs)
    | _ => none)
  | _ => none
theorem objOf_rep {C : RC} {S : Sto} {d : MV} {v : V} {c : Str} {fs : List Str} {ds : List MV} (r : RepS C S) (h : RepV C d v) (e : objOf S d = some (c, fs, ds)) :
    ∃ a dx vs, v = .ref a ∧ C.H a = some (.ins (He.ga C.K c) dx (fs.zip vs)) ∧ fs.length = vs.length ∧ RepVs C ds vs := by
  cases d with
  | obj c' fs' vs' =>
    rw [objOf] at e; cases e
    rw [RepV] at h
    obtain ⟨a, dx, vs, e, _, q, l, t⟩ := h
    exact ⟨a, dx, vs, e, q, l, t⟩
  | ref n =>
    rw [RepV] at h
    obtain ⟨a, e1, e2⟩ := h
    rw [objOf] at e
    cases q : S[n]? with
    | none => simp [q] at e
    | some o =>
      rw [q] at e
      cases o with
      | obj c' fs' vs' =>
        cases e
        obtain ⟨dx, vs, h1, h2, h3⟩ := r.ob n _ a q e2
        exact ⟨a, dx, vs, e1, h1, h2, h3⟩
      | _ => cases e
  | _ => cases e
def flook : List Str → List MV → Str → Option MV
  | f :: fs, d :: ds, g => if g = f then some d else flook fs ds g
  | _, _, _ => none
theorem str_beq_ne {a b : Str} (h : a ≠ b) : (a == b) = false := by
  cases e : (a == b) with
  | false => rfl
  | true => exact absurd (eq_of_beq e) h
theorem flook_rep {C : RC} {g : Str} {d : MV} : ∀ {fs : List Str} {ds : List MV} {vs : List V}, RepVs C ds vs → flook fs ds g = some d → ∃ v, (fs.zip vs).lookup g = some v ∧ RepV C d v
  | [], _, _, _, e => by simp [flook] at e
  | _ :: _, [], _, _, e => by simp [flook] at e
  | f :: fs, x :: ds, vs, t, e => by
    obtain ⟨v, vr, rfl, r, t⟩ := t.cons_inv
    rw [flook] at e
    by_cases h : g = f
    · rw [if_pos h] at e; cases e
      subst h
      exact ⟨v, by simp [List.lookup], r⟩
    · rw [if_neg h] at e
      obtain ⟨u, h1, h2⟩ := flook_rep t e
      refine ⟨u, ?_, h2⟩
      rw [List.zip_cons_cons, List.lookup_cons, str_beq_ne h]
      exact h1
theorem flook_none {C : RC} {g : Str} : ∀ {fs : List Str} {ds : List MV} {vs : List V}, RepVs C ds vs → fs.length = vs.length → flook fs ds g = none → (fs.zip vs).lookup g = none
  | [], _, _, _, _, _ => rfl
  | f :: fs, [], vs, t, l, e => by
    have := t.nil_inv
    subst this
    simp at l
  | f :: fs, x :: ds, vs, t, l, e => by
    obtain ⟨v, vr, rfl, r, t⟩ := t.cons_inv
    rw [flook] at e
    by_cases h : g = f
    · rw [if_pos h] at e; cases e
    · rw [if_neg h] at e
      rw [List.zip_cons_cons, List.lookup_cons, str_beq_ne h]
      exact flook_none t (by simpa using l) e
def fput : List Str → List MV → Str → MV → List Str × List MV
  | f :: fs, d :: ds, g, x => if f = g then (f :: fs, x :: ds) else (f :: (fput fs ds g x).1, d :: (fput fs ds g x).2)
  | _, _, g, x => ([g], [x])
theorem fput_rep {C : RC} {g : Str} {x : MV} {v : V} (r : RepV C x v) : ∀ {fs : List Str} {ds : List MV} {vs : List V}, RepVs C ds vs → fs.length = vs.length →
    ∃ vs', putF g v (fs.zip vs) = (fput fs ds g x).1.zip vs' ∧ (fput fs ds g x).1.length = vs'.length ∧ RepVs C (fput fs ds g x).2 vs'
  | [], ds, vs, t, l => by
    have : vs = [] := List.eq_nil_of_length_eq_zero (by simpa using l.symm)
    subst this
    refine ⟨[v], ?_, ?_, ?_⟩ <;> simp [fput, putF]
    exact .cons r .nil
  | f :: fs, [], vs, t, l => by
    have := t.nil_inv
    subst this
    simp at l
  | f :: fs, d :: ds, vs, t, l => by
    obtain ⟨u, vr, rfl, ru, t⟩ := t.cons_inv
    rw [fput, List.zip_cons_cons, putF]
    by_cases h : f = g
    · rw [if_pos h, if_pos h]
      exact ⟨v :: vr, by rw [List.zip_cons_cons], by simpa using l, .cons r t⟩
    · rw [if_neg h, if_neg h]
      obtain ⟨vs', h1, h2, h3⟩ := fput_rep r t (by simpa using l)
      exact ⟨u :: vs', by rw [h1, List.zip_cons_cons], by simpa using h2, .cons ru h3⟩
def fldM (c f : Str) (d : MV) (S : Sto) : R MV := match objOf S d with
  | some (c', fs, ds) => if c' = c then (match flook fs ds f with
    | some x => .ok x S
    | none => .stk) else .stk
  | none => .stk
def mFld (c f : Str) (o : ME) : ME := fun ρ S => (o ρ S).bind fun d S1 => fldM c f d S1
def fsetM (c f : Str) (o d : MV) (S : Sto) : Option Sto := match o with
  | .ref n => (match S[n]? with
    | some (.obj c' fs ds) => if c' = c ∧ fs.length < 900 then some (S.set n (.obj c' (fput fs ds f d).1 (fput fs ds f d).2)) else none
    | _ => none)
  | _ => none
def mFset (c f : Str) (e o : ME) : MS := fun ρ S => (e ρ S).thn ρ fun d S1 => (o ρ S1).thn ρ fun od S2 => match fsetM c f od d S2 with
  | some S3 => .nx ρ S3
  | none => .stk
section
variable {X : Cx} {W : WX} {e o : Expr} {es : List Expr} {me mo : ME} {mas : MA} {pos tpos apos p : Pos} {c f x : Str}
theorem se_fld (hc : Cls X.K (He.ga X.K c)) (hn : NoAttr X.K (He.ga X.K c) f) (ho : SE X W e me) (hb : attributeBase e f X.env (eval e X.env) = eval e X.env := by rfl) : SE X W (.Attribute e f pos) (mFld c f me) :=
  (pe_fld ho hb).imp fun σ H Q ⟨C, ρ, S, e, s, q⟩ => by
    subst e
    refine tE.bind s q fun d S1 C1 v s1 g1 r1 q1 => ?_
    unfold fldM at q1
    cases e1 : objOf S1 d with
    | none => rw [e1] at q1; exact q1.elim
    | some z =>
      obtain ⟨c', fs, ds⟩ := z
      rw [e1] at q1
      dsimp only at q1
      split at q1
      · rename_i ec
        subst ec
        cases e2 : flook fs ds f with
        | none => rw [e2] at q1; exact q1.elim
        | some x =>
          rw [e2] at q1
          obtain ⟨a, dx, vs, rfl, ha, l, t⟩ := objOf_rep s1.rs r1 e1
          obtain ⟨u, h1, h2⟩ := flook_rep t e2
          rw [s1.K] at ha
          exact ⟨a, _, dx, _, u, rfl, ha, hc, hn, h1, q1.now s1.rs u h2⟩
      · exact q1.elim
theorem ss_fset (hc : Cls X.K (He.ga X.K c)) (hn : NoAttr X.K (He.ga X.K c) f) (he : SE X W e me) (ho : SE X W o mo) (hs : swapsWith e (some (.Attribute o f tpos)) pos.line X.env = pure false := by rfl) : SS X W (.Assign [.Attribute o f tpos] e pos) (mFset c f me mo) :=
  (ps_fld ho he hs).imp fun D σ H ⟨C, ρ, S, e, s, q⟩ => by
    subst e
    refine tE.thn s q fun d S1 C1 v s1 g1 r1 q1 => ?_
    refine tE.thn s1 q1 fun od S2 C2 ov s2 g2 r2 q2 => ?_
    have rd := r1.grow g2 s1.rs
    unfold fsetM at q2
    cases od with
    | ref n =>
      dsimp only at q2
      rw [RepV] at r2
      obtain ⟨a, rfl, ha⟩ := r2
      cases e0 : S2[n]? with
      | none => rw [e0] at q2; exact q2.elim
      | some z =>
        rw [e0] at q2
        cases z with
        | obj c' fs ds =>
          dsimp only at q2
          split at q2
          · rename_i h
            split at h
            · rename_i hh
              obtain ⟨rfl, hl⟩ := hh
              cases h
              obtain ⟨dx, vs, h1, h2, h3⟩ := s2.rs.ob n _ a e0 ha
              obtain ⟨vs', k1, k2, k3⟩ := fput_rep (g := f) rd h3 h2
              have hK := s2.K
              rw [hK] at h1
              refine ⟨a, _, dx, _, rfl, h1, hc, hn, by rw [List.length_zip]; omega, ?_⟩
              have gw : ∀ {o : HO}, Grow C2 (C2.put a o) := Grow.write (List.mem_of_getElem? ha)
              rw [k1]
              have w := s2.rs.write (mo := .obj c' (fput fs ds f d).1 (fput fs ds f d).2) (o := .ins (He.ga X.K c') dx ((fput fs ds f d).1.zip vs')) ha ⟨dx, vs', by rw [put_same, ← hK]; rfl, k2, k3.grow gw s2.rs⟩
              exact q2 _ σ gw w (s2.ev.grow gw s2.rs) s2.ln
            · cases h
          · exact q2.elim
        | _ => exact q2.elim
    | _ => exact q2.elim
def makM (c : Str) (m : MF) (ds : List MV) (S : Sto) : R MV := (m (.ref S.length :: ds) (S ++ [.obj c [] []])).bind fun r S2 => match r with
  | .non => .ok (.ref S.length) S2
  | _ => .stk
end
section
variable {X : Cx} {CX : CXT} {k : Nat} {f C : Addr} {fd : FuncData} {ps : List Str} {sp : Sp} {E : L2.St → XK} {x m : Str} {p pos apos : Pos} {e o : Expr} {es : List Expr} {ta : TE} {t : TA}
/-- o.m(..), what is raised wished for at the slots -/
def tMethS (C : Addr) (m : Str) (sp : Sp) (E : L2.St → XK) (ta : TE) (t : TA) : TE := fun σ H Q => ta σ H fun x H1 => ∃ a dx fs, x = .ref a ∧ H1 a = some (.ins C dx fs) ∧ fs.lookup m = none ∧
  t σ H1 fun vs H2 => sp (x :: vs) H2 Q (E σ)
/-- a method's call by its parts -/
abbrev MethAs (X : Cx) (o : Expr) (m : Str) (apos pos : Pos) (es : List Expr) (pl : Sem Bool) : Prop := eval (.Call (.Attribute o m apos) es [] pos) X.env =
  (eval o X.env >>= fun ov => standAt apos.atName >>= fun _ => holding [ov] (getMethod ov m pl) >>= fun q => callWith pos q.1 q.2 (backTo pos (starEach es X.env)) (backToKw pos (keywordEach [] X.env)))
/-- up to the arguments -/
theorem meth_run {pl : Sem Bool} {pins : List (Addr × Obj)} {σ : L2.St} {H : Hp} {s : Shared} {Q : VK} {ws : List Expr} {G : V → Hp → Prop} (ho : PE X o ta) (c : Cls X.K C) (hm : Meth X.K C m f) (form : MethAs X o m apos pos ws pl) (inv : Inv X pins σ H s)
    (h : ta σ H fun x H1 => ∃ a dx fs, x = .ref a ∧ H1 a = some (.ins C dx fs) ∧ fs.lookup m = none ∧ G x H1)
    (go : ∀ a H1 s1, Inv X pins σ H1 s1 → G (.ref a) H1 → wpAny (model X.prog X.w) X.A (callWith pos (.ref f) [.ref a] (backTo pos (starEach ws X.env)) []) (EP X pins σ Q) X.xe s1) :
    wpAny (model X.prog X.w) X.A (eval (.Call (.Attribute o m apos) ws [] pos) X.env) (EP X pins σ Q) X.xe s :=
  PySem.W.methodCall_KW (thn (ho.run pins s σ H _ inv h) fun _ s1 ⟨_, H1, inv1, at1, a, _, _, is1, obj1, no1, g⟩ => by
    cases is1; cases at1
    exact getmeth_ok inv1 obj1 c hm no1 (go a H1 s1 inv1 g)) form
theorem pe_methS1 {pl : Sem Bool} (he : PE X o ta) (c : Cls X.K C) (hm : Meth X.K C m f) (F : FnOk X.prog X.w X.K X.mg X.base CX k f fd ps sp) (hr : Room k X.A) (hb : Binds X.K fd ps []) (hx : ∀ σ, PassesAt CX X σ (E σ)) (ha : PA X (e :: es) t)
    (first : starEach (e :: es) X.env = (false, eval e X.env) :: starEach es X.env) (plain : (backTo pos (starEach es X.env)).any (·.1) = false) (form : MethAs X o m apos pos (e :: es) pl) : PE X (.Call (.Attribute o m apos) (e :: es) [] pos) (tMethS C m sp E ta t) where
  run pins s σ H Q inv q := meth_run (G := fun x H1 => t σ H1 fun vs H2 => sp (x :: vs) H2 Q (E σ)) he c hm form inv q fun a H1 s1 inv1 q1 =>
    PySem.W.callWith_K (h₀ := X.base) inv1.ok.mod.kin hm.kp (thn (ha.run pos pins s1 σ H1 _ inv1 q1) fun us _ ⟨vs, _, inv2, rs, q2⟩ => ⟨inv2.kIn, run_fnS F hr hb (hx σ) inv2 (.cons (show RelV (.ref a) (.ref a) from rfl) rs) q2⟩) first plain
/-- C(..) with an __init__ of its own: the new object's two cells lie at the heap's end -/
theorem run_makeS {pins : List (Addr × Obj)} {σ : L2.St} {H : Hp} {s : Shared} {Q : VK} {us : List Value} {vs : List V} (M : Mk X.K C f) (F : FnOk X.prog X.w X.K X.mg X.base CX k f fd ps sp) (hr : Room (k + 1) X.A) (hb : Binds X.K fd ps [])
    (hx : PassesAt CX X σ (E σ)) (inv : Inv X pins σ H s) (rs : Vals vs us)
    (h : ∀ x dx, H x = none → H dx = none → dx ≠ x → sp (.ref x :: vs) (upd (upd H dx (.own x)) x (.ins C dx [])) (fun v H2 => v = .non ∧ Q (.ref x) H2) (E σ)) :
    wpAny (model X.prog X.w) X.A (call (.ref C) us []) (EP X pins σ Q) X.xe s := by
  have made := Inv.made (C := C) inv
  have self : Vals (V.ref (s.heap.objs.size + 1) :: vs) (Value.ref (s.heap.objs.size + 1) :: us) := .cons (show RelV (.ref _) (.ref _) from rfl) rs
  have told := h _ _ (inv.hok.fresh (Nat.le_add_right _ 1)) (inv.hok.fresh Nat.le.refl) fun z => Nat.succ_ne_self _ z.symm
  have bound := hb _ (Value.ref (s.heap.objs.size + 1) :: us) made.kIn (by rw [List.append_nil]; exact self.length.symm.trans (F.len _ _ _ _ told))
  simp only [List.append_nil] at bound
  refine wpAny_call (make_map inv.kIn M.makes M.init (beq_iff_eq.mp M.fn) (codeAny_mono (F.run _ X.stack _ _ ⟨Value.ref (s.heap.objs.size + 1) :: us, []⟩ _ _ _ (E σ) (hr.make C us []) (made.env0.make C us []) bound self told) ?_))
  rintro (x | fl) s' res
  · exact hx pins _ _ x s' made res
  · cases fl with
    | ret _ =>
      obtain ⟨_, H', inv3, is, rfl, q⟩ := made.after res
      exact ⟨is, V.ref (s.heap.objs.size + 1), H', inv3, rfl, q⟩
    | _ => exact res.elim
def tMakeS (C : Addr) (sp : Sp) (E : L2.St → XK) (t : TA) : TE := fun σ H Q => t σ H fun vs H1 => ∀ x dx, H1 x = none → H1 dx = none → dx ≠ x →
  sp (.ref x :: vs) (upd (upd H1 dx (.own x)) x (.ins C dx [])) (fun v H2 => v = .non ∧ Q (.ref x) H2) (E σ)
theorem pe_makeS (M : Mk X.K C f) (F : FnOk X.prog X.w X.K X.mg X.base CX k f fd ps sp) (hr : Room (k + 1) X.A) (hg : Gl X x) (hm : X.mg x = some (.ref C)) (hb : Binds X.K fd ps []) (hx : ∀ σ, PassesAt CX X σ (E σ)) (ha : PA X (e :: es) t)
    (nd : (x == ("__debug__" : Str)) = false) (first : starEach (e :: es) X.env = (false, eval e X.env) :: starEach es X.env) (plain : (backTo pos (starEach es X.env)).any (·.1) = false) : PE X (.Call (.Name x p) (e :: es) [] pos) (tMakeS C sp E t) where
  run pins s σ H Q inv q := wpAny_Call_Name_kw (ld_glob inv hg hm (PySem.W.callWith_K (h₀ := X.base) inv.ok.mod.kin M.kp (thn (ha.run pos pins s σ H _ inv q) fun us s1 ⟨vs, H1, inv1, rs, q1⟩ => ⟨inv1.kIn, run_makeS M F hr hb (hx σ) inv1 rs q1⟩) first plain) nd)
end
section
variable {X : Cx} {W : WX} {e o : Expr} {es : List Expr} {me mo : ME} {mas : MA} {pos tpos apos p : Pos} {c x mn : Str} {k n : Nat} {f : Addr} {fd : FuncData} {ps : List Str} {m : MF}
theorem se_make (M : Mk X.K (He.ga X.K c) f) (F : FnOk X.prog X.w X.K X.mg X.base (L2.CX X.prog X.w) k f fd ps (spM X.w X.K (n + 1) m)) (hr : Room (k + 1) X.A) (hg : Gl X x) (hm : X.mg x = some (.ref (He.ga X.K c))) (hb : Binds X.K fd ps []) (tk : Takes X W)
    (ha : SA X W (e :: es) mas) (hl : LenA mas n) (hdb : (x == ("__debug__" : Str)) = false := by decide) (he : starEach (e :: es) X.env = (false, eval e X.env) :: starEach es X.env := by rfl) (hpl : (backTo pos (starEach es X.env)).any (·.1) = false := by rfl) :
    SE X W (.Call (.Name x p) (e :: es) [] pos) (mCallF (makM c m) mas) :=
  (pe_makeS (E := WE W) M F hr hg hm hb (passAt tk) ha hdb he hpl).imp fun σ H Q ⟨C, ρ, S, e, s, q⟩ => by
    subst e
    refine ⟨C, ρ, S, rfl, s, ?_⟩
    refine Wants.mono (Wants.bind q) fun ds S1 C1 g r1 e1 q1 vs rv => ?_
    intro a dx ha hdx hne
    have s1 := s.grow g r1
    have g2 : Grow C1 (C1.put dx (.own a)) := Grow.put hdx
    have r2 : RepS (C1.put dx (.own a)) S1 := r1.put hdx
    have h2 : (C1.put dx (.own a)).H a = none := by
      show upd C1.H dx _ a = none
      rw [upd_ne (Ne.symm hne)]; exact ha
    have g3 := Grow.cell (o := .ins (He.ga X.K c) dx []) h2
    have r3 : RepS ((C1.put dx (.own a)).cell a (.ins (He.ga X.K c) dx [])) (S1 ++ [.obj c [] []]) :=
      r2.cell h2 ⟨dx, [], by rw [cell_same]; show _ = some (HO.ins (He.ga C1.K c) dx []); rw [s1.K], rfl, .nil⟩
    have q1 := q1.1
    refine ⟨by rw [List.length_cons, ← rv.length, hl _ _ _ _ e1], _, _, .ref S1.length :: ds, rfl, (g2.trans g3).w.trans s1.w, (g2.trans g3).K.trans s1.K, r3, .cons (cell_ref r2) (rv.grow (g2.trans g3) r1), ?_⟩
    have q2 : Wants W σ C1 ((m (.ref S1.length :: ds) (S1 ++ [.obj c [] []])).bind fun r S2 => match r with
      | .non => .ok (.ref S1.length) S2
      | _ => .stk) (fun d _ C' => ∀ v, RepV C' d v → Q v C'.H) := q1
    cases e2 : m (.ref S1.length :: ds) (S1 ++ [.obj c [] []]) with
    | exc c' d S' => rw [e2] at q2; exact fun C' cls dx' g' r' e' => q2 C' cls dx' ((g2.trans g3).trans g') r' e'
    | stk => rw [e2] at q2; exact q2.elim
    | ok r S2 =>
      rw [e2] at q2
      intro C' g' r' v rv'
      rw [R.bind_ok] at q2
      cases r with
      | non => exact ⟨vNon rv', q2.here ((g2.trans g3).trans g') r' _ ((cell_ref r2).grow g' r3)⟩
      | _ => exact q2.elim
def methM (c mn : Str) (m : MF) (od : MV) (S : Sto) : Bool := match objOf S od with
  | some (c', fs, ds) => decide (c' = c) && (flook fs ds mn).isNone
  | none => false
def mMeth (c mn : Str) (m : MF) (o : ME) (as : MA) : ME := fun ρ S => (o ρ S).bind fun od S1 => if methM c mn m od S1 then (as ρ S1).bind fun ds S2 => m (od :: ds) S2 else .stk
theorem meth_imp {σ : L2.St} {H : Hp} {Q : VK} (hl : LenA mas n) (h : tE X W (mMeth c mn m mo mas) σ H Q) : tMethS (He.ga X.K c) mn (spM X.w X.K (n + 1) m) (WE W) (tE X W mo) (tA X W mas) σ H Q := by
  obtain ⟨C, ρ, S, e, s, q⟩ := h
  subst e
  refine tE.bind s q fun od S1 C1 v s1 g1 r1 q1 => ?_
  split at q1
  · rename_i hh
    unfold methM at hh
    cases e1 : objOf S1 od with
    | none => rw [e1] at hh; cases hh
    | some z =>
      obtain ⟨c', fs, ds⟩ := z
      rw [e1] at hh
      simp only [Bool.and_eq_true, decide_eq_true_eq, Option.isNone_iff_eq_none] at hh
      obtain ⟨rfl, hn⟩ := hh
      obtain ⟨a, dx, vs, rfl, ha, l, t⟩ := objOf_rep s1.rs r1 e1
      rw [s1.K] at ha
      refine ⟨a, dx, _, rfl, ha, flook_none t l hn, C1, ρ, S1, rfl, s1, ?_⟩
      refine Wants.mono (Wants.bind q1) fun ds S2 C2 g2 r2 e2 q2 vs rv => ?_
      refine ⟨by rw [List.length_cons, ← rv.length, hl _ _ _ _ e2], C2, S2, od :: ds, rfl, g2.w.trans s1.w, g2.K.trans s1.K, r2, .cons (r1.grow g2 s1.rs) rv, ?_⟩
      exact q2.1.wish fun cls dx H h => h
  · exact q1.elim
theorem se_meth {pl : Sem Bool} (cl : Cls X.K (He.ga X.K c)) (hm : Meth X.K (He.ga X.K c) mn f) (F : FnOk X.prog X.w X.K X.mg X.base (L2.CX X.prog X.w) k f fd ps (spM X.w X.K (n + 1) m)) (hr : Room k X.A) (hb : Binds X.K fd ps []) (tk : Takes X W) (ho : SE X W o mo) (ha : SA X W (e :: es) mas) (hl : LenA mas n)
    (hst : starEach (e :: es) X.env = (false, eval e X.env) :: starEach es X.env := by rfl)
    (hpl : (backTo pos (starEach es X.env)).any (·.1) = false := by rfl) (ht : MethAs X o mn apos pos (e :: es) pl := by rfl) :
    SE X W (.Call (.Attribute o mn apos) (e :: es) [] pos) (mMeth c mn m mo mas) :=
  (pe_methS1 (E := WE W) ho cl hm F hr hb (passAt tk) ha hst hpl ht).imp fun σ H Q h => meth_imp hl h
def eqO (c : Str) (m : MF) (a b : MV) (S : Sto) : R MV := match objOf S a, objOf S b with
  | some (c1, _, _), some (c2, _, _) => if c1 = c ∧ c2 = c then ((m [a, b] S).calm.bind fun r S' => match r with
    | .bl k => .ok (.bl k) S'
    | _ => .stk) else .stk
  | _, _ => .stk
end
end Mi
set_option Elab.async false
set_option linter.all false
set_option maxRecDepth 100000
set_option maxHeartbeats 2000000
namespace Mi
open PySem PySem.Spec PyProof.Rows L2
def spXI (K : PySem.W.Frag) (C : Addr) (f : Str) : Sp := fun vs H Q _ => ∃ a v, vs = [.ref a, v] ∧ H a = some (exo a C none) ∧ ∀ d, H d = none → d ≠ a → Q .non (upd (upd H d (exd d [(f, v)])) a (exo a C (some d)))
theorem xi_body {X : Cx} {body : List Stmt} {C : Addr} {f : Str} {vs : List V} {H : Hp} {Q : VK} {E : XK} {N : List Str} {n0 n1 : Str} {p0 p1 pp pos : Pos} (hN : X.N = [n0, n1]) (hNN : N = [n0, n1]) (v0 : Vis X.env.scope n0) (v1 : Vis X.env.scope n1) (T : OexC X.K C) (hno : PySem.W.findIn X.K (.ref C) f = some none)
    (d0 : (n0 == ("__debug__" : Str)) = false) (c0 : (n0 == ("__classdict__" : Str)) = false) (d1 : (n1 == ("__debug__" : Str)) = false) (c1 : (n1 == ("__classdict__" : Str)) = false)
    (hs : swapsWith (.Name n1 p1) (some (.Attribute (.Name n0 p0) f pp)) pos.line X.env = pure false) (hb : body = [.Assign [.Attribute (.Name n0 p0) f pp] (.Name n1 p1) pos]) (h : spXI X.K C f vs H Q E) :
    ∃ t, PSs X body t ∧ t { nx := fun _ H' => Q .non H', rt := Q } (L2.start N vs) H := by
  subst hb
  refine ⟨_, pss_one (ps_ost (pe_var (i := 0) (by rw [hN]; rfl) v0 d0 c0) (pe_var (i := 1) (by rw [hN]; rfl) v1 d1 c1) hs), ?_⟩
  obtain ⟨a, v, rfl, ha, q⟩ := h
  subst hNN
  exact ⟨v, rfl, .ref a, rfl, a, C, rfl, T, hno, .inl ⟨ha, fun dx hd ne => q dx hd ne⟩⟩
def mRaise (c f : Str) (e : ME) : MS := fun ρ S => (e ρ S).thn ρ fun d S1 => .exc c (.obj c [f] [d]) ρ S1
section
variable {X : Cx} {W : WX} {e : Expr} {me : ME} {p pos rpos : Pos} {x c f : Str} {fI : Addr} {k : Nat} {fd : FuncData} {ps : List Str}
theorem ss_raise1 (hcalm : X.calm = true) (tk : Takes X W) (T : OexC X.K (He.ga X.K c)) (iC : PySem.W.findIn X.K (.ref (He.ga X.K c)) "__init__" = some (some (.ref fI))) (tI : PySem.W.typeIn X.K (.ref fI) = some (.type "function"))
    (F1 : FnOk X.prog X.w X.K X.mg X.base (L2.CX X.prog X.w) k fI fd ps (spXI X.K (He.ga X.K c) f)) (hr : Room (k + 1) X.A) (hb : Binds X.K fd ps []) (hg : Gl X x) (hm : X.mg x = some (.ref (He.ga X.K c))) (he : SE X W e me)
    (hdb : (x == ("__debug__" : Str)) = false := by decide) (hs : starEach [e] X.env = (false, eval e X.env) :: starEach [] X.env := by rfl) (hpl : (backTo pos (starEach [] X.env)).any (·.1) = false := by rfl) :
    SS X W (.Raise (some (.Call (.Name x p) [e] [] pos)) none rpos) (mRaise c f me) :=
  (ps_raise hcalm tk (pmk_oex (ds := []) (dvs := []) T iC tI F1 hr hb .nil passL hg hm (pa_cons he pa_nil hs) hdb hs hpl)).imp fun D σ H ⟨C, ρ, S, e, s, q⟩ => by
    subst e
    refine tE.thn s q fun d S1 C1 v s1 g1 r1 q1 => ?_
    refine ⟨by simp, fun a ha => ?_⟩
    refine ⟨a, v, rfl, upd_same, fun dx hd ne => ⟨rfl, dx, [(f, v)], upd_same, by rw [upd_ne ne, upd_same], ?_, ?_⟩⟩
    · rw [upd_ne ne] at hd; exact hd
    · have hd1 : C1.H dx = none := by rw [upd_ne ne] at hd; exact hd
      have e1 : upd (del (upd (upd (upd C1.H a (exo a (He.ga X.K c) none)) dx (exd dx [(f, v)])) a (exo a (He.ga X.K c) (some dx))) a) dx (.xd [(f, v)]) = upd C1.H dx (.xd [(f, v)]) := by
        funext b
        by_cases h : b = dx
        · subst h; rw [upd_same, upd_same]
        · rw [upd_ne h, upd_ne h]
          by_cases h2 : b = a
          · subst h2; rw [del_same, ha]
          · rw [del_ne h2, upd_ne h2, upd_ne h, upd_ne h2]
      rw [e1]
      have gp : Grow C1 (C1.put dx (.xd [(f, v)])) := Grow.put hd1
      exact q1 _ σ _ _ gp (s1.rs.put hd1) (s1.ev.grow gp s1.rs) s1.ln ⟨by show _ = Value.ref (He.ga C1.K c); rw [s1.K], .inr ⟨dx, f, d, v, rfl, rfl, put_same, r1.grow gp s1.rs⟩⟩
end
theorem tS.to {X X' : Cx} {W : WX} {m : MS} (h1 : X'.w = X.w) (h2 : X'.K = X.K) {D : Ends} {σ : L2.St} {H : Hp} (h : tS X W m D σ H) : tS X' W m D σ H := by
  obtain ⟨C, ρ, S, e, s, q⟩ := h
  exact ⟨C, ρ, S, e, ⟨s.w.trans h1.symm, s.K.trans h2.symm, s.rs, s.ev, s.ln⟩, q⟩
def RS.calm : RS → RS
  | .exc _ _ _ _ => .stk
  | r => r
theorem WantS.calm {W : WX} {D : Ends} {C : RC} {r : RS} (h : WantS W D C r.calm) : WantS WNo D C r := by
  cases r with
  | nx ρ S => exact h
  | rt d S => exact h
  | exc c d ρ S => exact h.elim
  | stk => exact h
def mTry (ct : Str → Option Bool) (body suite : MS) : MS := fun ρ S => match body ρ S with
  | .exc c d ρ1 S1 => (match ct c with
    | some true => (suite ρ1 S1).calm
    | some false => .exc c d ρ1 S1
    | none => .stk)
  | r => r
/-- e.f of the caught one, kept in the slot j; the name's slot i -/
def mTryF (ct : Str → Option Bool) (f : Str) (i j : Nat) (body : MS) : MS := fun ρ S => match body ρ S with
  | .exc c d ρ1 S1 => (match ct c with
    | some true => (match d with
      | .obj _ [g] [x] => if g = f ∧ i ≠ j ∧ i < ρ1.length then .nx (((ρ1.set i none).set j (some x)).set i none) S1 else .stk
      | _ => .stk)
    | some false => .exc c d ρ1 S1
    | none => .stk)
  | r => r
section
variable {X : Cx} {W : WX} {x n : Str} {c : Value} {body suite : List Stmt} {b₀ : Stmt} {np pos pos' : Pos} {ct : Str → Option Bool} {mb ms : MS}
theorem ss_try (hs : X.stack = X.env :: X.outer) (hf : X.env.frame = some X.env.locals) (hc : Names X x c) (tk : Takes X W) (hct : ∀ c' b, ct c' = some b → PySem.W.exmOne X.K (.ref (He.ga X.K c')) c = some b)
    (hb : ∀ (W : WX) (pn : List (Addr × Obj)) (xe : Value → Shared → Prop), Takes (X.tr pn xe) W → PassesOwn (model X.prog X.w) X.A X.env xe → SSs (X.tr pn xe) W body mb)
    (hsu : ∀ (a : Addr) (pn : List (Addr × Obj)), SSs (X.suite a pn) WNo (b₀ :: suite) ms) :
    SS X W (.Try body [.ExceptHandler (some (.Name x np)) none (b₀ :: suite) pos'] [] [] pos) (mTry ct mb ms) :=
  (ps_try_only (tb := fun W => tS X W mb) (ts := fun _ _ _ => tS X WNo ms) hs hf hc tk (fun W pn xe t p => (hb W pn xe t p).imp fun D σ H h => tS.to (X := X) (X' := X.tr pn xe) rfl rfl h)
    (fun a oe cls d pn _ _ => (hsu a ((a, oe) :: pn)).imp fun D σ H h => tS.to (X := X) (X' := X.suite a ((a, oe) :: pn)) rfl rfl h)).imp fun D σ H ⟨C, ρ, S, e, s, q⟩ => by
    subst e
    refine ⟨C, ρ, S, rfl, s, ?_⟩
    unfold mTry at q
    cases e : mb ρ S with
    | nx ρ1 S1 => rw [e] at q; exact q
    | rt d S1 => rw [e] at q; exact q
    | stk => rw [e] at q; exact q
    | exc c' d ρ1 S1 =>
      rw [e] at q
      dsimp only at q
      intro C' σ' cls dx g r ev l xr
      have hK : C'.K = X.K := g.K.trans s.K
      have ec := xr.1
      rw [hK] at ec
      cases eb : ct c' with
      | none => rw [eb] at q; exact q.elim
      | some b =>
        rw [eb] at q
        have he := hct c' b eb
        refine ⟨b, by rw [ec]; exact he, fun hb1 a ha => ?_, fun hb0 => ?_⟩
        · subst hb1
          exact ⟨C', ρ1, S1, rfl, ⟨g.w.trans s.w, hK, r, ev, l⟩, (WantS.calm q).grow g⟩
        · subst hb0
          exact q C' σ' cls dx g r ev l xr
theorem ss_tryF {i j : Nat} {f c : Str} {t : Str} {np2 tp ap pa : Pos} (hs : X.stack = X.env :: X.outer) (hf : X.env.frame = some X.env.locals) (hN : X.N.Nodup) (hi : X.N[i]? = some n) (hln : X.env.kindOf n = some .local) (hc : Names X x (.ref (He.ga X.K c))) (tk : Takes X W)
    (hct : ∀ c' b, ct c' = some b → PySem.W.exmOne X.K (.ref (He.ga X.K c')) (.ref (He.ga X.K c)) = some b) (hone : ∀ c', ct c' = some true → c' = c) (T : XfC X.K (He.ga X.K c)) (hno : PySem.W.findIn X.K (.ref (He.ga X.K c)) f = some none)
    (hj : X.N[j]? = some t) (hjl : X.env.scope.names.lookup t = some .local) (hnd : (n == ("__debug__" : Str)) = false) (hnc : (n == ("__classdict__" : Str)) = false)
    (hb : ∀ (W : WX) (pn : List (Addr × Obj)) (xe : Value → Shared → Prop), Takes (X.tr pn xe) W → PassesOwn (model X.prog X.w) X.A X.env xe → SSs (X.tr pn xe) W body mb)
    (hatt : attributeBase (.Name n np2) f X.env (eval (.Name n np2) X.env) = eval (.Name n np2) X.env := by rfl) (hsw : swapsWith (.Attribute (.Name n np2) f ap) (some (.Name t tp)) pa.line X.env = pure false := by rfl) :
    SS X W (.Try body [.ExceptHandler (some (.Name x np)) (some n) [.Assign [.Name t tp] (.Attribute (.Name n np2) f ap) pa] pos'] [] [] pos) (mTryF ct f i j mb) :=
  (ps_try_as (i := i) (tb := fun W => tS X W mb) (ts := fun a cls d => tAsg (tXf a cls d (He.ga X.K c) f (tVar i)) (gName j)) hs hf hN hi hln hc tk (fun W pn xe t p => (hb W pn xe t p).imp fun D σ H h => tS.to (X := X) (X' := X.tr pn xe) rfl rfl h)
    (fun a oe cls d pn hz hf => pss_one (ps_set (X := X.suite a ((a, oe) :: pn)) hN hj (.inl hjl) (pe_xf T hno hz hf (pe_var (X := X.suite a ((a, oe) :: pn)) hi (.inl hln) hnd hnc) hatt) hsw (.inr hjl)))).imp fun D σ H ⟨C, ρ, S, e, s, q⟩ => by
    subst e
    refine ⟨C, ρ, S, rfl, s, ?_⟩
    unfold mTryF at q
    cases e : mb ρ S with
    | nx ρ1 S1 => rw [e] at q; exact q
    | rt d S1 => rw [e] at q; exact q
    | stk => rw [e] at q; exact q
    | exc c' d ρ1 S1 =>
      rw [e] at q
      dsimp only at q
      intro C' σ' cls dx g r ev l xr
      have hK : C'.K = X.K := g.K.trans s.K
      have ec := xr.1
      rw [hK] at ec
      cases eb : ct c' with
      | none => rw [eb] at q; exact q.elim
      | some b =>
        rw [eb] at q
        have he := hct c' b eb
        refine ⟨b, by rw [ec]; exact he, fun hb1 a ha => ?_, fun hb0 => ?_⟩
        · subst hb1
          dsimp only at q
          split at q
          · rename_i c2 g2 x2
            split at q
            · rename_i hh
              obtain ⟨rfl, hij, hil⟩ := hh
              rcases xr.2 with ⟨z, _⟩ | ⟨a2, f2, d2, v2, z, ed, eh, rv⟩
              · cases z
              · cases z
                have hc' := hone c' eb
                subst hc'
                refine ⟨.ref a, by rw [List.getElem?_set_self (by rw [← l]; exact hil)], rfl, ec, a2, _, v2, ed, eh, by simp [List.lookup], ?_⟩
                refine q C' _ g r ?_ (by simp [l])
                intro k d3 e3
                by_cases hk : k = i
                · subst hk
                  by_cases hl2 : k < (((ρ1.set k none).set j (some x2))).length
                  · rw [List.getElem?_set_self hl2] at e3; cases e3
                  · rw [List.getElem?_eq_none (by simpa using hl2)] at e3; cases e3
                · rw [List.getElem?_set_ne (Ne.symm hk)] at e3
                  by_cases hkj : k = j
                  · subst hkj
                    by_cases hl2 : k < (ρ1.set i none).length
                    · rw [List.getElem?_set_self hl2] at e3
                      cases e3
                      refine ⟨v2, ?_, rv⟩
                      rw [List.getElem?_set_ne (Ne.symm hk), List.getElem?_set_self (by simpa [← l] using hl2)]
                    · rw [List.getElem?_eq_none (by simpa using hl2)] at e3; cases e3
                  · rw [List.getElem?_set_ne (Ne.symm hkj), List.getElem?_set_ne (Ne.symm hk)] at e3
                    obtain ⟨u, h1, h2⟩ := ev k d3 e3
                    refine ⟨u, ?_, h2⟩
                    rw [List.getElem?_set_ne (Ne.symm hk), List.getElem?_set_ne (Ne.symm hkj), List.getElem?_set_ne (Ne.symm hk)]
                    exact h1
            · exact q.elim
          · exact q.elim
        · subst hb0
          exact q C' σ' cls dx g r ev l xr
end
end Mi
set_option Elab.async false
set_option linter.all false
set_option maxRecDepth 100000
set_option maxHeartbeats 2000000
namespace Mi
open PySem PySem.Spec PyProof.Rows L2
def frz (b : Nat) (S : Sto) : Nat → MV → Option MV
  | 0, d => if refsB b d then some d else none
  | n + 1, .ref k => if k < b then some (.ref k) else (match S[k]? with
    | some (.lst xs) => (xs.mapM (frz b S n)).map .lst
    | some (.dct ks vs) => (vs.mapM (frz b S n)).map (.dct ks)
    | some (.dcT ks vs) => if refsBs b ks then (vs.mapM (frz b S n)).map (.dcT ks) else none
    | some (.obj c fs vs) => (vs.mapM (frz b S n)).map (.obj c fs)
    | _ => none)
  | n + 1, .tup xs => (xs.mapM (frz b S n)).map .tup
  | n + 1, .lst xs => (xs.mapM (frz b S n)).map .lst
  | n + 1, .dct ks vs => (vs.mapM (frz b S n)).map (.dct ks)
  | n + 1, .obj c fs vs => (vs.mapM (frz b S n)).map (.obj c fs)
  | _ + 1, d => if refsB b d then some d else none
def RC.cut (C : RC) (b : Nat) : RC := { C with ι := C.ι.take b }
theorem Tr.cut {C : RC} {b : Nat} : Tr b C (C.cut b) := by
  refine ⟨rfl, rfl, fun _ _ q => q, fun a u n q => ⟨⟨fun m => n.1 (List.mem_of_mem_take m), n.2⟩, .inl q⟩, fun _ _ _ q => q, fun n a hn q => ?_⟩
  show (C.ι.take b)[n]? = some a
  rw [List.getElem?_take_of_lt hn]; exact q
theorem mapM_rep {C C' : RC} {f : MV → Option MV} (h : ∀ d v d', RepV C d v → f d = some d' → RepV C' d' v) : ∀ {xs ys : List MV} {vs : List V}, RepVs C xs vs → xs.mapM f = some ys → RepVs C' ys vs
  | [], ys, vs, t, e => by
    simp at e; subst e
    rw [t.nil_inv]; exact .nil
  | x :: xs, ys, vs, t, e => by
    obtain ⟨v, vr, rfl, r, t⟩ := t.cons_inv
    rw [List.mapM_cons] at e
    cases e1 : f x with
    | none => rw [e1] at e; cases e
    | some y =>
      rw [e1] at e
      cases e2 : xs.mapM f with
      | none => rw [e2] at e; cases e
      | some zs =>
        rw [e2] at e
        have e : some (y :: zs) = some ys := e
        cases e
        exact .cons (h x v y r e1) (mapM_rep h t e2)
theorem notmem_take {C : RC} {n b : Nat} {a : Addr} (nd : C.ι.Nodup) (h : C.ι[n]? = some a) (hb : b ≤ n) : a ∉ C.ι.take b := fun m => by
  obtain ⟨j, hj⟩ := List.mem_iff_getElem?.mp m
  rw [List.getElem?_take] at hj
  split at hj
  · rename_i hl
    obtain ⟨h1, e1⟩ := List.getElem?_eq_some_iff.mp h
    obtain ⟨h2, e2⟩ := List.getElem?_eq_some_iff.mp hj
    have := (List.getElem_inj nd).mp (e1.trans e2.symm)
    omega
  · cases hj
theorem frz_rep {C : RC} {S : Sto} {b : Nat} (r : RepS C S) : ∀ (n : Nat) (d : MV) (v : V) (d' : MV), RepV C d v → frz b S n d = some d' → RepV (C.cut b) d' v
  | 0, d, v, d', h, e => by
    rw [frz] at e
    split at e
    · cases e
      exact RepV.tr Tr.cut d v (by assumption) h
    · cases e
  | n + 1, d, v, d', h, e => by
    have ih := frz_rep (b := b) r n
    have fz : ∀ {a : Addr} {k : Nat}, C.ι[k]? = some a → b ≤ k → Froz (C.cut b) a := fun {a k} hk hb => ⟨notmem_take r.nd hk hb, fun m => (r.bad a m).1 (List.mem_of_getElem? hk)⟩
    have fz2 : ∀ {a : Addr}, Froz C a → Froz (C.cut b) a := fun {a} n => ⟨fun m => n.1 (List.mem_of_mem_take m), n.2⟩
    have rest : ∀ d : MV, (if refsB b d then some d else none) = some d' → RepV C d v → RepV (C.cut b) d' v := fun d e h => by
      by_cases hb : refsB b d = true
      · rw [if_pos hb] at e
        cases e
        exact RepV.tr Tr.cut _ v hb h
      · rw [if_neg hb] at e; cases e
    cases d with
    | ref k =>
      rw [frz] at e
      rw [RepV] at h
      obtain ⟨a, rfl, ha⟩ := h
      split at e
      · cases e
        rw [RepV]
        refine ⟨a, rfl, ?_⟩
        show (C.ι.take b)[k]? = some a
        rw [List.getElem?_take_of_lt (by assumption)]; exact ha
      · rename_i hk
        have hk : b ≤ k := Nat.le_of_not_lt hk
        cases e0 : S[k]? with
        | none => rw [e0] at e; cases e
        | some o =>
          rw [e0] at e
          have ro := r.ob k o a e0 ha
          cases o with
          | lst xs =>
            dsimp only at e
            cases e1 : xs.mapM (frz b S n) with
            | none => rw [e1] at e; cases e
            | some ys =>
              rw [e1] at e; cases e
              obtain ⟨vs, hv, t⟩ := ro
              rw [RepV]
              exact ⟨a, vs, rfl, fz ha hk, hv, mapM_rep ih t e1⟩
          | dct ks xs =>
            dsimp only at e
            cases e1 : xs.mapM (frz b S n) with
            | none => rw [e1] at e; cases e
            | some ys =>
              rw [e1] at e; cases e
              obtain ⟨vs, hv, l, nd, t⟩ := ro
              rw [RepV]
              exact ⟨a, vs, rfl, fz ha hk, .inl hv, l, nd, mapM_rep ih t e1⟩
          | obj c fs xs =>
            dsimp only at e
            cases e1 : xs.mapM (frz b S n) with
            | none => rw [e1] at e; cases e
            | some ys =>
              rw [e1] at e; cases e
              obtain ⟨dx, vs, hv, l, t⟩ := ro
              rw [RepV]
              exact ⟨a, dx, vs, rfl, fz ha hk, hv, l, mapM_rep ih t e1⟩
          | dcT ks xs =>
            dsimp only at e
            by_cases hb : refsBs b ks = true
            · rw [if_pos hb] at e
              cases e1 : xs.mapM (frz b S n) with
              | none => rw [e1] at e; cases e
              | some ys =>
                rw [e1] at e; cases e
                obtain ⟨sm, ko, nd, l, z, ob, es, ep, ps, us, kvs, vs, q, ex, hd, he, hk', tk, rv, t⟩ := ro
                have t' := mapM_rep ih t e1
                rw [RepV]
                exact ⟨a, rfl, fz ha hk, sm, ko, nd, by rw [l, t.length, t'.length], z, ob, es, ep, ps, us, kvs, vs, q, ex, hd, he, hk', RepVs.tr Tr.cut ks kvs hb tk, rv, t'⟩
            · rw [if_neg hb] at e; cases e
    | tup xs =>
      rw [frz] at e
      cases e1 : xs.mapM (frz b S n) with
      | none => rw [e1] at e; cases e
      | some ys =>
        rw [e1] at e; cases e
        rw [RepV] at h ⊢
        obtain ⟨a, vs, ev, q, t⟩ := h
        exact ⟨a, vs, ev, q, mapM_rep ih t e1⟩
    | lst xs =>
      rw [frz] at e
      cases e1 : xs.mapM (frz b S n) with
      | none => rw [e1] at e; cases e
      | some ys =>
        rw [e1] at e; cases e
        rw [RepV] at h ⊢
        obtain ⟨a, vs, ev, nn, q, t⟩ := h
        exact ⟨a, vs, ev, fz2 nn, q, mapM_rep ih t e1⟩
    | dct ks xs =>
      rw [frz] at e
      cases e1 : xs.mapM (frz b S n) with
      | none => rw [e1] at e; cases e
      | some ys =>
        rw [e1] at e; cases e
        rw [RepV] at h ⊢
        obtain ⟨a, vs, ev, nn, q, l, nd, t⟩ := h
        exact ⟨a, vs, ev, fz2 nn, q, l, nd, mapM_rep ih t e1⟩
    | obj c fs xs =>
      rw [frz] at e
      cases e1 : xs.mapM (frz b S n) with
      | none => rw [e1] at e; cases e
      | some ys =>
        rw [e1] at e; cases e
        rw [RepV] at h ⊢
        obtain ⟨a, dx, vs, ev, nn, q, l, t⟩ := h
        exact ⟨a, dx, vs, ev, fz2 nn, q, l, mapM_rep ih t e1⟩
    | non => exact rest _ (by simpa only [frz] using e) h
    | bl x => exact rest _ (by simpa only [frz] using e) h
    | int x => exact rest _ (by simpa only [frz] using e) h
    | str x => exact rest _ (by simpa only [frz] using e) h
    | dcT x y => exact rest _ (by simpa only [frz] using e) h
    | kls x => exact rest _ (by simpa only [frz] using e) h
def refsO (b : Nat) : MO → Bool
  | .lst xs => refsBs b xs
  | .dct _ vs => refsBs b vs
  | .dcT ks vs => refsBs b ks && refsBs b vs
  | .obj _ _ vs => refsBs b vs
def cutS (b : Nat) (S S' : Sto) : Option Sto := if S'.take b = S then some S else if (S'.take b).all (refsO b) then some (S'.take b) else none
/-- at a def's end the cells that it made go -/
def frzF (m : MF) : MF := fun ds S => match m ds S with
  | .ok d S' => (match frz S.length S' 8 d, cutS S.length S S' with
    | some d', some S2 => .ok d' S2
    | _, _ => .stk)
  | .exc c d S' => (match cutS S.length S S' with
    | some S2 => if refsB S.length d then .exc c d S2 else .stk
    | none => .stk)
  | .stk => .stk
theorem RepO.refs {C : RC} {a : Addr} {o : MO} (h : RepO C a o) : refsO C.ι.length o = true := by
  cases o with
  | lst xs => obtain ⟨vs, q, t⟩ := h; exact RepVs.refs xs vs t
  | dct ks ds => obtain ⟨vs, q, l, nd, t⟩ := h; exact RepVs.refs ds vs t
  | dcT ks ds =>
    obtain ⟨sm, ko, nd, l, z, ob, es, ep, ps, us, kvs, vs, q, ex, hd, he, hk, tk, rv, t⟩ := h
    simp only [refsO, RepVs.refs ks kvs tk, RepVs.refs ds vs t, Bool.and_self]
  | obj c fs ds => obtain ⟨dx, vs, q, l, t⟩ := h; exact RepVs.refs ds vs t
theorem RepO.trb {C C' : RC} {b : Nat} {a : Addr} {o : MO} (x : Tr b C C') (e : C'.H a = C.H a) (hb : refsO b o = true) (h : RepO C a o) : RepO C' a o := by
  cases o with
  | lst xs => obtain ⟨vs, q, t⟩ := h; exact ⟨vs, e.trans q, RepVs.tr x _ _ hb t⟩
  | dct ks ds => obtain ⟨vs, q, l, nd, t⟩ := h; exact ⟨vs, e.trans q, l, nd, RepVs.tr x _ _ hb t⟩
  | dcT ks ds =>
    obtain ⟨sm, ko, nd, l, z, ob, es, ep, ps, us, kvs, vs, q, ex, hd, he, hk, tk, rv, t⟩ := h
    have hb' : refsBs b ks = true ∧ refsBs b ds = true := by simpa [refsO] using hb
    exact ⟨sm, ko, nd, l, z, ob, es, ep, ps, us, kvs, vs, e.trans q, ex, hd, by rw [x.w]; exact he, hk, RepVs.tr x _ _ hb'.1 tk, rv, RepVs.tr x _ _ hb'.2 t⟩
  | obj c fs ds => obtain ⟨dx, vs, q, l, t⟩ := h; exact ⟨dx, vs, by rw [x.K]; exact e.trans q, l, RepVs.tr x _ _ hb t⟩
theorem cut_rep' {C C' : RC} {S S' S2 : Sto} (r : RepS C S) (g : Grow C C') (r' : RepS C' S') (h : cutS S.length S S' = some S2) : RepS (C'.cut S.length) S2 ∧ Grow C (C'.cut S.length) := by
  have hl : S.length = C.ι.length := r.len.symm
  have key : ∀ S2, S'.take S.length = S2 → (∀ o ∈ S2, refsO S.length o = true) → RepS (C'.cut S.length) S2 := fun S2 e2 ho => by
    subst e2
    refine ⟨by show (C'.ι.take _).length = _; simp [r'.len], r'.nd.sublist (List.take_sublist _ _), fun a m => ⟨fun m2 => (r'.bad a m).1 (List.mem_of_mem_take m2), (r'.bad a m).2⟩, fun n mo a e1 e2 => ?_⟩
    have e2 : (C'.ι.take S.length)[n]? = some a := e2
    rw [List.getElem?_take] at e1 e2
    split at e1
    · rename_i hn
      rw [if_pos hn] at e2
      exact (r'.ob n mo a e1 e2).trb Tr.cut rfl (ho mo (List.mem_of_getElem? (by rw [List.getElem?_take_of_lt hn]; exact e1)))
    · cases e1
  refine ⟨?_, ?_⟩
  · unfold cutS at h
    split at h
    · rename_i e
      cases h
      refine key S e fun o ho => ?_
      obtain ⟨n, hn⟩ := List.mem_iff_getElem?.mp ho
      have hn2 : n < C.ι.length := by rw [r.len]; exact (List.getElem?_eq_some_iff.mp hn).1
      rw [hl]
      exact (r.ob n o C.ι[n] hn (List.getElem?_eq_getElem hn2)).refs
    · split at h
      · rename_i e
        cases h
        exact key _ rfl (List.all_eq_true.mp e)
      · cases h
  · refine ⟨g.w, g.K, g.bad, g.bad', g.kp, fun a m => g.new a (List.mem_of_mem_take m), ?_, g.le, ?_⟩
    · show (C'.ι.take S.length).take C.ι.length = _
      rw [hl, List.take_take, Nat.min_self]; exact g.pre
    · show C.ι.length ≤ (C'.ι.take S.length).length
      rw [List.length_take, hl]
      have := g.le'
      omega
theorem frz_ok {P : Program} {w : World} {K : PySem.W.Frag} {mg : Str → Option Value} {base : Heap} {k n : Nat} {f : Addr} {fd : FuncData} {ps : List Str} {m : MF} (F : FnOk P w K mg base (L2.CX P w) k f fd ps (spM w K n m)) :
    FnOk P w K mg base (L2.CX P w) k f fd ps (spM w K n (frzF m)) := F.imp fun vs H Q E ⟨hl, C, S, ds, e, hw, hK, r, t, q⟩ => by
  refine ⟨hl, C, S, ds, e, hw, hK, r, t, ?_⟩
  unfold frzF at q
  cases e1 : m ds S with
  | stk => rw [e1] at q; exact q
  | ok d S' =>
    rw [e1] at q
    dsimp only at q
    intro C' g r' v rv
    cases e2 : frz S.length S' 8 d with
    | none => rw [e2] at q; exact q.elim
    | some d' =>
      cases e3 : cutS S.length S S' with
      | none => rw [e2, e3] at q; exact q.elim
      | some S2 =>
        rw [e2, e3] at q
        obtain ⟨h1, h2⟩ := cut_rep' r g r' e3
        exact q (C'.cut S.length) h2 h1 v (frz_rep r' 8 d v d' rv e2)
  | exc c d S' =>
    rw [e1] at q
    dsimp only at q
    intro C' cls dx g r' xr
    cases e3 : cutS S.length S S' with
    | none => rw [e3] at q; exact q.elim
    | some S2 =>
      rw [e3] at q
      dsimp only at q
      split at q
      · rename_i hb
        obtain ⟨h1, h2⟩ := cut_rep' r g r' e3
        refine q (C'.cut S.length) cls dx h2 h1 ⟨xr.1, ?_⟩
        rcases xr.2 with z | ⟨a, f, d', v, ed, e, q, t⟩
        · exact .inl z
        · exact .inr ⟨a, f, d', v, ed, e, q, RepV.tr Tr.cut d' v (by subst ed; simpa [refsB, refsBs] using hb) t⟩
      · exact q.elim
mutual
def conB (K : PySem.W.Frag) : MV → Value → Bool
  | .non, .none => true
  | .bl b, .bool c => b == c
  | .str x, .str y _ => decide (y = x)
  | .int i, .int j _ => decide (j = i)
  | .tup xs, .ref a => (match K.lookup a with
    | some ⟨.type c, _, .seq its _, _⟩ => decide (c = "tuple") && (decide (its.size ≤ sizeLine) && conBs K xs its.toList)
    | _ => false)
  | _, _ => false
def conBs (K : PySem.W.Frag) : List MV → List Value → Bool
  | [], [] => true
  | d :: ds, u :: us => conB K d u && conBs K ds us
  | _, _ => false
end
mutual
theorem conB_ok {K : PySem.W.Frag} : ∀ (d : MV) (u : Value), conB K d u = true → ∃ v, RelV v u ∧ ∀ C : RC, C.K = K → RepV C d v
  | .non, u, h => by cases u <;> first | (exact ⟨.non, rfl, fun _ _ => repN⟩) | cases h
  | .bl b, u, h => by
    cases u with
    | bool c =>
      have : b = c := by simpa [conB] using h
      exact ⟨.bl b, by rw [this]; rfl, fun _ _ => repB _⟩
    | _ => cases h
  | .int i, u, h => by
    cases u with
    | int j t =>
      have : j = i := by simpa [conB] using h
      exact ⟨.int i, ⟨t, by rw [this]⟩, fun _ _ => repI _⟩
    | _ => cases h
  | .str x, u, h => by
    cases u with
    | str y t =>
      have : y = x := by simpa [conB] using h
      exact ⟨.str x, ⟨t, by rw [this]⟩, fun _ _ => repS _⟩
    | _ => cases h
  | .tup xs, u, h => by
    cases u with
    | ref a =>
      rw [conB] at h
      cases q : K.lookup a with
      | none => rw [q] at h; cases h
      | some o =>
        obtain ⟨oc, od, dt, osl⟩ := o
        rw [q] at h
        cases oc with
        | type c =>
          cases dt with
          | seq its n =>
            have both : (decide (c = "tuple") && (decide (its.size ≤ sizeLine) && conBs K xs its.toList)) = true := h
            rw [Bool.and_eq_true, Bool.and_eq_true, decide_eq_true_eq, decide_eq_true_eq] at both
            obtain ⟨rfl, hz, h3⟩ := both
            obtain ⟨vs, rv, t⟩ := conBs_ok xs its.toList h3
            refine ⟨.ref a, rfl, fun C hC => ?_⟩
            rw [RepV]
            exact ⟨a, vs, rfl, by rw [hC]; exact .inr ⟨_, its, n, q, rfl, rfl, hz, rv⟩, t C hC⟩
          | _ => cases h
        | _ => cases dt <;> cases h
    | _ => cases h
  | .lst _, u, h => by cases u <;> cases h
  | .dct _ _, u, h => by cases u <;> cases h
  | .dcT _ _, u, h => by cases u <;> cases h
  | .obj _ _ _, u, h => by cases u <;> cases h
  | .ref _, u, h => by cases u <;> cases h
  | .kls _, u, h => by cases u <;> cases h
theorem conBs_ok {K : PySem.W.Frag} : ∀ (ds : List MV) (us : List Value), conBs K ds us = true → ∃ vs, Vals vs us ∧ ∀ C : RC, C.K = K → RepVs C ds vs
  | [], [], _ => ⟨[], .nil, fun _ _ => .nil⟩
  | [], _ :: _, h => by cases h
  | _ :: _, [], h => by cases h
  | d :: ds, u :: us, h => by
    have both : (conB K d u && conBs K ds us) = true := h
    rw [Bool.and_eq_true] at both
    obtain ⟨v, r, t⟩ := conB_ok d u both.1
    obtain ⟨vs, rv, tv⟩ := conBs_ok ds us both.2
    exact ⟨v :: vs, .cons r rv, fun C hC => .cons (t C hC) (tv C hC)⟩
end
/-- an own exception class with an own __init__: its record, its lookups -/
def oexObj (C : Addr) : Option Obj → Bool
  | some ⟨.type "type", _, .cls ⟨_, _, .ref D :: up, _, _, true, _, _, _, _, false⟩, ⟨[_, _, _, _, some (.builtin n), _]⟩⟩ => D == C && (n == "ValueError.__new__" && PySem.HandSPX.refsVE up)
  | _ => false
def oexB (K : PySem.W.Frag) (C : Addr) : Bool := oexObj C (K.lookup C) && (He.eqO (PySem.W.findIn K (.ref C) "__setattr__") (some (some (.builtin "object.__setattr__"))) &&
  (decide (PySem.W.subIn K (.ref C) (.type "BaseException") = some true ∧ PySem.W.typeIn K (.ref C) = some (.type "type")) && PySem.W.keepIn K (.ref C)))
theorem oexB_ok {K : PySem.W.Frag} {C : Addr} (h : oexB K C = true) : OexC K C := by
  unfold oexB at h
  rw [Bool.and_eq_true, Bool.and_eq_true, Bool.and_eq_true, decide_eq_true_eq] at h
  obtain ⟨rec, sa, both, kept⟩ := h
  refine ⟨?_, He.eqO_ok sa, both.1, both.2, kept⟩
  unfold oexObj at rec
  split at rec
  · rename_i is
    rw [Bool.and_eq_true, Bool.and_eq_true, beq_iff_eq, beq_iff_eq] at rec
    obtain ⟨rfl, rfl, ve⟩ := rec
    exact ⟨_, _, _, _, _, _, _, _, _, _, _, _, _, _, _, is, ve⟩
  · cases rec
end Mi
set_option Elab.async false
set_option linter.all false
set_option maxRecDepth 100000
set_option maxHeartbeats 2000000
namespace Mi
open PySem PySem.Spec PyProof.Rows L2
/-- a def by its name, with what it does -/
def FN (P : Program) (w : World) (K : PySem.W.Frag) (mg : Str → Option Value) (base : Heap) (k n : Nat) (x : Str) (m : MF) : Prop :=
  ∃ f fd ps, FnOk P w K mg base (L2.CX P w) k f fd ps (spM w K n m) ∧ mg x = some (.ref f) ∧ PySem.W.keepIn K (.ref f) = true ∧ Binds K fd ps []
/-- a method -/
def MN (P : Program) (w : World) (K : PySem.W.Frag) (mg : Str → Option Value) (base : Heap) (k n : Nat) (c mn : Str) (m : MF) : Prop :=
  ∃ fd ps, FnOk P w K mg base (L2.CX P w) k (He.ma K (He.ga K c) mn) fd ps (spM w K n m) ∧ Binds K fd ps []
/-- a constant of the module -/
def KC (mg : Str → Option Value) (K : PySem.W.Frag) (x : Str) (d : MV) : Prop := ∃ u v, mg x = some u ∧ RelV v u ∧ ∀ C : RC, C.K = K → RepV C d v
theorem kc_of {mg : Str → Option Value} {K : PySem.W.Frag} {x : Str} {d : MV} {u : Value} (h : mg x = some u) (c : conB K d u = true) : KC mg K x d := by
  obtain ⟨v, r, q⟩ := conB_ok d u c
  exact ⟨u, v, h, r, q⟩
/-- an exception class with one field and its __init__ -/
structure XN (P : Program) (w : World) (K : PySem.W.Frag) (mg : Str → Option Value) (base : Heap) (k : Nat) (c f : Str) : Prop where
  g : mg c = some (.ref (He.ga K c))
  T : OexC K (He.ga K c)
  iC : PySem.W.findIn K (.ref (He.ga K c)) "__init__" = some (some (.ref (He.ma K (He.ga K c) "__init__")))
  tI : PySem.W.typeIn K (.ref (He.ma K (He.ga K c) "__init__")) = some (.type "function")
  F : ∃ fd ps, FnOk P w K mg base (L2.CX P w) k (He.ma K (He.ga K c) "__init__") fd ps (spXI K (He.ga K c) f) ∧ Binds K fd ps []
section
variable {X : Cx} {W : WX} {e o : Expr} {es : List Expr} {mo : ME} {mas : MA} {pos p apos rpos : Pos} {k n j : Nat} {x c mn f : Str} {m : MF}
theorem se_callN (h : FN X.prog X.w X.K X.mg X.base k n x m) (hr : Room j X.A) (hj : k ≤ j) (hg : Gl X x) (tk : Takes X W) (ha : SA X W (e :: es) mas) (hl : LenA mas n) (hdb : (x == ("__debug__" : Str)) = false := by decide)
    (he : starEach (e :: es) X.env = (false, eval e X.env) :: starEach es X.env := by rfl)
    (hpl : (backTo pos (starEach es X.env)).any (·.1) = false := by rfl) :
    SE X W (.Call (.Name x p) (e :: es) [] pos) (mCallF m mas) := by
  obtain ⟨f, fd, ps, F, h1, h2, h3⟩ := h
  exact se_call F (hr.mono hj) hg h1 h2 h3 tk ha hl hdb he hpl
theorem se_callN0 (h : FN X.prog X.w X.K X.mg X.base k 0 x m) (hr : Room j X.A) (hj : k ≤ j) (hg : Gl X x) (hpure : ∀ S c d S', m [] S ≠ .exc c d S') (hdb : (x == ("__debug__" : Str)) = false := by decide) :
    SE X W (.Call (.Name x p) [] [] pos) (mCallF m mNil) := by
  obtain ⟨f, fd, ps, F, h1, h2, h3⟩ := h
  exact se_call0 F (hr.mono hj) hg h1 h2 h3 hpure hdb
theorem se_makeN (h : MN X.prog X.w X.K X.mg X.base k (n + 1) c "__init__" m) (M : Mk X.K (He.ga X.K c) (He.ma X.K (He.ga X.K c) "__init__")) (hm : X.mg c = some (.ref (He.ga X.K c))) (hr : Room j X.A) (hj : k + 1 ≤ j) (hg : Gl X c) (tk : Takes X W) (ha : SA X W (e :: es) mas) (hl : LenA mas n) (hdb : (c == ("__debug__" : Str)) = false := by decide)
    (he : starEach (e :: es) X.env = (false, eval e X.env) :: starEach es X.env := by rfl)
    (hpl : (backTo pos (starEach es X.env)).any (·.1) = false := by rfl) :
    SE X W (.Call (.Name c p) (e :: es) [] pos) (mCallF (makM c m) mas) := by
  obtain ⟨fd, ps, F, h3⟩ := h
  exact se_make M F (hr.mono hj) hg hm h3 tk ha hl hdb he hpl
theorem se_methN {pl : Sem Bool} (h : MN X.prog X.w X.K X.mg X.base k (n + 1) c mn m) (cl : Cls X.K (He.ga X.K c)) (hm : Meth X.K (He.ga X.K c) mn (He.ma X.K (He.ga X.K c) mn)) (hr : Room j X.A) (hj : k ≤ j) (tk : Takes X W) (ho : SE X W o mo) (ha : SA X W (e :: es) mas) (hl : LenA mas n)
    (hst : starEach (e :: es) X.env = (false, eval e X.env) :: starEach es X.env := by rfl)
    (hpl : (backTo pos (starEach es X.env)).any (·.1) = false := by rfl) (ht : MethAs X o mn apos pos (e :: es) pl := by rfl) :
    SE X W (.Call (.Attribute o mn apos) (e :: es) [] pos) (mMeth c mn m mo mas) := by
  obtain ⟨fd, ps, F, h3⟩ := h
  exact se_meth cl hm F (hr.mono hj) h3 tk ho ha hl hst hpl ht
theorem se_globN {d : MV} (h : KC X.mg X.K x d) (hg : Gl X x) (hd : (x == ("__debug__" : Str)) = false := by decide) : SE X W (.Name x pos) (mC d) := by
  obtain ⟨u, v, h1, h2, h3⟩ := h
  exact se_glob hg h1 h2 h3 hd
theorem ss_raiseN {me : ME} (h : XN X.prog X.w X.K X.mg X.base k c f) (hcalm : X.calm = true) (tk : Takes X W) (hr : Room j X.A) (hj : k + 1 ≤ j) (hg : Gl X c) (he : SE X W e me)
    (hdb : (c == ("__debug__" : Str)) = false := by decide) (hs : starEach [e] X.env = (false, eval e X.env) :: starEach [] X.env := by rfl) (hpl : (backTo pos (starEach [] X.env)).any (·.1) = false := by rfl) :
    SS X W (.Raise (some (.Call (.Name c p) [e] [] pos)) none rpos) (mRaise c f me) := by
  obtain ⟨fd, ps, F, h3⟩ := h.F
  exact ss_raise1 hcalm tk h.T h.iC h.tI F (hr.mono hj) h3 hg h.g he hdb hs hpl
end
/-- an exception class's __init__: from its def -/
theorem xn_init {P : Program} {w : World} {K : PySem.W.Frag} {mg : Str → Option Value} {base : Heap} {st : Stmt} {fd : FuncData} {c q f n0 n1 : Str} {p0 p1 pp pos : Pos} (F : FunD K "__init__" q (defArgs st) (defBody st) (defScope st) [] [] (He.ma K (He.ga K c) "__init__") fd)
    (S : FnScope [n0, n1] [n0, n1] (defScope st)) (T : OexC K (He.ga K c)) (hno : PySem.W.findIn K (.ref (He.ga K c)) f = some none) (hb : defBody st = [.Assign [.Attribute (.Name n0 p0) f pp] (.Name n1 p1) pos])
    (v0 : Vis (defScope st) n0) (v1 : Vis (defScope st) n1)
    (d0 : (n0 == ("__debug__" : Str)) = false) (c0 : (n0 == ("__classdict__" : Str)) = false) (d1 : (n1 == ("__debug__" : Str)) = false) (c1 : (n1 == ("__classdict__" : Str)) = false)
    (hs : ∀ (cdv : Value) (s : Shared), swapsWith (.Name n1 p1) (some (.Attribute (.Name n0 p0) f pp)) pos.line (envOfC q (defScope st) s.heap.objs.size (He.ma K (He.ga K c) "__init__") cdv) = pure false) : FnOk P w K mg base (L2.CX P w) 1 (He.ma K (He.ga K c) "__init__") fd [n0, n1] (spXI K (He.ga K c) f) := by
  refine F.ok S (fun vs H Q E h => ?_) (fun cdv A outer s H vs Q E hr h => xi_body rfl rfl v0 v1 T hno d0 c0 d1 c1 (hs cdv s) hb h)
  obtain ⟨a, v, rfl, _⟩ := h
  rfl
section
variable {X : Cx} {W : WX} {pos : Pos} {x : Str} {k : Nat}
theorem sv (i : Nat) (hN : X.N[i]? = some x := by rfl) (hv : Vis X.env.scope x := by first | exact .inl rfl | exact .inr (.inl rfl) | exact .inr (.inr rfl)) (hd : (x == ("__debug__" : Str)) = false := by decide) (hcd : (x == ("__classdict__" : Str)) = false := by decide) : SE X W (.Name x pos) (mVar i) := se_var hN hv hd hcd
theorem sn (i : Nat) (nd : X.N.Nodup) (hN : X.N[i]? = some x := by rfl) (hx : Loc X.env.scope x := by first | exact .inl rfl | exact .inr rfl) (hf : X.fn x = true ∨ X.env.scope.names.lookup x = some .local := by first | exact .inl rfl | exact .inr rfl | assumption) : SG X (.Name x pos) (tgName i) := sg_name nd hN hx hf
theorem sset (i : Nat) {e : Expr} {me : ME} {pos' : Pos} (nd : X.N.Nodup) (he : SE X W e me) (hN : X.N[i]? = some x := by rfl) (hx : Loc X.env.scope x := by first | exact .inl rfl | exact .inr rfl) (hs : swapsWith e (some (.Name x pos')) pos.line X.env = pure false := by rfl) (hf : X.fn x = true ∨ X.env.scope.names.lookup x = some .local := by first | exact .inl rfl | exact .inr rfl | assumption) :
    SS X W (.Assign [.Name x pos'] e pos) (mAsg me (tgName i)) := ss_set nd hN hx he hs hf
theorem Room.u1 (r : Room k X.A) : X.A.units + 1 < cLine := by have := r.un; omega
theorem Room.u64 (r : Room k X.A) : X.A.units + 64 < cLine := by have := r.un; omega
theorem Room.u65 (r : Room k X.A) : X.A.units + 65 < cLine := by have := r.un; omega
end
end Mi
set_option maxHeartbeats 0
namespace Mi
open PySem PySem.Spec PyProof.Rows L2
def tabB (K : PySem.W.Frag) (x : Str) (kvs : List (Str × Int)) : Bool := match K.lookup (He.ga K x) with
  | some ⟨_, _, .dict es _, _⟩ => decide (es.toList.map (fun e => (match e.key with
    | .str y _ => some y
    | _ => none)) = kvs.map fun p => some p.1) && (es.toList.zip kvs).all fun q => (match q.1.val with
    | .int j _ => decide (j = q.2.2)
    | _ => false)
  | _ => false
end Mi
namespace Lw
open PySem PySem.Spec PyProof.Rows L2 Mi
def top (i : Nat) : Stmt := PySem.Challenge.pw_seriesbooked_k12_texts_refused.main.body.getD i (.Pass ⟨0, 0, 0, 0⟩)
def d_FIGURES : MV := .str "0123456789"
def d_PARTS : MV := .tup [.str "checking", .str "singles", .str "halves", .str "telling"]
def d_VALUES : MV := .tup [.tup [.str "none", .str "room", .str "both"], .tup [.str "keep", .str "move", .str "reset"], .tup [.str "left", .str "undone"], .tup [.str "now", .str "seen"]]
def tab_SIZES : List (Str × Int) := [("room", 3), ("person", 2), ("one", 4), ("off", 3)]
abbrev s_law_begin : Stmt := top 34
abbrev s_law_values : Stmt := top 36
abbrev s_law_draw : Stmt := top 35
abbrev s_law_parts : Stmt := top 38
abbrev s_number_of : Stmt := top 28
abbrev s_Calendar___init__ : Stmt := inClass (top 19) 0
abbrev s_Rule___init__ : Stmt := inClass (top 24) 0
abbrev s_rule_of : Stmt := top 25
abbrev s_calendar_in : Stmt := top 29
abbrev s_is_whole : Stmt := top 16
abbrev s_fresh : Stmt := top 10
abbrev s_Calendar_count : Stmt := inClass (top 19) 1
abbrev s_Calendar_mark : Stmt := inClass (top 19) 2
abbrev s_Calendar_add : Stmt := inClass (top 19) 6
abbrev s_Calendar___len__ : Stmt := inClass (top 19) 21
abbrev s_Calendar_is_deed : Stmt := inClass (top 19) 10
abbrev s_room_day : Stmt := top 12
abbrev s_Calendar_is_room : Stmt := inClass (top 19) 4
abbrev s_Calendar_room_row : Stmt := inClass (top 19) 11
abbrev s_Calendar_is_person : Stmt := inClass (top 19) 5
abbrev s_Calendar_person_row : Stmt := inClass (top 19) 12
abbrev s_Calendar_day_row : Stmt := inClass (top 19) 13
abbrev s_Calendar_row_behind : Stmt := inClass (top 19) 14
abbrev s_Calendar_put : Stmt := inClass (top 19) 3
abbrev s_Calendar_note : Stmt := inClass (top 19) 15
abbrev s_with_series : Stmt := top 11
abbrev s_taken_back : Stmt := top 13
abbrev s_Calendar_do : Stmt := inClass (top 19) 16
abbrev s_led_on : Stmt := top 20
abbrev s_is_done : Stmt := top 31
abbrev s_deed_in : Stmt := top 30
abbrev s_read : Stmt := top 32
abbrev s_law_told : Stmt := top 40
abbrev s_law : Stmt := top 41
abbrev s_XBadLine : Stmt := inClass (top 8) 0
abbrev s_XBadRule : Stmt := inClass (top 6) 0
abbrev s_XRefused : Stmt := inClass (top 7) 0
def D_law_begin : He.DefD := ⟨("_law_begin", none), "_law_begin", "_law_begin", defArgs s_law_begin, defBody s_law_begin, defScope s_law_begin, [], []⟩
def D_law_values : He.DefD := ⟨("_law_values", none), "_law_values", "_law_values", defArgs s_law_values, defBody s_law_values, defScope s_law_values, [], []⟩
def D_law_draw : He.DefD := ⟨("_law_draw", none), "_law_draw", "_law_draw", defArgs s_law_draw, defBody s_law_draw, defScope s_law_draw, [], []⟩
def D_law_parts : He.DefD := ⟨("_law_parts", none), "_law_parts", "_law_parts", defArgs s_law_parts, defBody s_law_parts, defScope s_law_parts, [], []⟩
def D_number_of : He.DefD := ⟨("number_of", none), "number_of", "number_of", defArgs s_number_of, defBody s_number_of, defScope s_number_of, [], []⟩
def D_Calendar___init__ : He.DefD := ⟨("Calendar", some "__init__"), "__init__", "Calendar.__init__", defArgs s_Calendar___init__, defBody s_Calendar___init__, defScope s_Calendar___init__, [], []⟩
def D_Rule___init__ : He.DefD := ⟨("Rule", some "__init__"), "__init__", "Rule.__init__", defArgs s_Rule___init__, defBody s_Rule___init__, defScope s_Rule___init__, [], []⟩
def D_rule_of : He.DefD := ⟨("rule_of", none), "rule_of", "rule_of", defArgs s_rule_of, defBody s_rule_of, defScope s_rule_of, [], []⟩
def D_calendar_in : He.DefD := ⟨("calendar_in", none), "calendar_in", "calendar_in", defArgs s_calendar_in, defBody s_calendar_in, defScope s_calendar_in, [], []⟩
def D_is_whole : He.DefD := ⟨("is_whole", none), "is_whole", "is_whole", defArgs s_is_whole, defBody s_is_whole, defScope s_is_whole, [], []⟩
def D_fresh : He.DefD := ⟨("fresh", none), "fresh", "fresh", defArgs s_fresh, defBody s_fresh, defScope s_fresh, [], []⟩
def D_Calendar_count : He.DefD := ⟨("Calendar", some "count"), "count", "Calendar.count", defArgs s_Calendar_count, defBody s_Calendar_count, defScope s_Calendar_count, [], []⟩
def D_Calendar_mark : He.DefD := ⟨("Calendar", some "mark"), "mark", "Calendar.mark", defArgs s_Calendar_mark, defBody s_Calendar_mark, defScope s_Calendar_mark, [], []⟩
def D_Calendar_add : He.DefD := ⟨("Calendar", some "add"), "add", "Calendar.add", defArgs s_Calendar_add, defBody s_Calendar_add, defScope s_Calendar_add, [], []⟩
def D_Calendar___len__ : He.DefD := ⟨("Calendar", some "__len__"), "__len__", "Calendar.__len__", defArgs s_Calendar___len__, defBody s_Calendar___len__, defScope s_Calendar___len__, [], []⟩
def D_Calendar_is_deed : He.DefD := ⟨("Calendar", some "is_deed"), "is_deed", "Calendar.is_deed", defArgs s_Calendar_is_deed, defBody s_Calendar_is_deed, defScope s_Calendar_is_deed, [], []⟩
def D_room_day : He.DefD := ⟨("room_day", none), "room_day", "room_day", defArgs s_room_day, defBody s_room_day, defScope s_room_day, [], []⟩
def D_Calendar_is_room : He.DefD := ⟨("Calendar", some "is_room"), "is_room", "Calendar.is_room", defArgs s_Calendar_is_room, defBody s_Calendar_is_room, defScope s_Calendar_is_room, [], []⟩
def D_Calendar_room_row : He.DefD := ⟨("Calendar", some "room_row"), "room_row", "Calendar.room_row", defArgs s_Calendar_room_row, defBody s_Calendar_room_row, defScope s_Calendar_room_row, [], []⟩
def D_Calendar_is_person : He.DefD := ⟨("Calendar", some "is_person"), "is_person", "Calendar.is_person", defArgs s_Calendar_is_person, defBody s_Calendar_is_person, defScope s_Calendar_is_person, [], []⟩
def D_Calendar_person_row : He.DefD := ⟨("Calendar", some "person_row"), "person_row", "Calendar.person_row", defArgs s_Calendar_person_row, defBody s_Calendar_person_row, defScope s_Calendar_person_row, [], []⟩
def D_Calendar_day_row : He.DefD := ⟨("Calendar", some "day_row"), "day_row", "Calendar.day_row", defArgs s_Calendar_day_row, defBody s_Calendar_day_row, defScope s_Calendar_day_row, [], []⟩
def D_Calendar_row_behind : He.DefD := ⟨("Calendar", some "row_behind"), "row_behind", "Calendar.row_behind", defArgs s_Calendar_row_behind, defBody s_Calendar_row_behind, defScope s_Calendar_row_behind, [], []⟩
def D_Calendar_put : He.DefD := ⟨("Calendar", some "put"), "put", "Calendar.put", defArgs s_Calendar_put, defBody s_Calendar_put, defScope s_Calendar_put, [], []⟩
def D_Calendar_note : He.DefD := ⟨("Calendar", some "note"), "note", "Calendar.note", defArgs s_Calendar_note, defBody s_Calendar_note, defScope s_Calendar_note, [], []⟩
def D_with_series : He.DefD := ⟨("with_series", none), "with_series", "with_series", defArgs s_with_series, defBody s_with_series, defScope s_with_series, [], []⟩
def D_taken_back : He.DefD := ⟨("taken_back", none), "taken_back", "taken_back", defArgs s_taken_back, defBody s_taken_back, defScope s_taken_back, [], []⟩
def D_Calendar_do : He.DefD := ⟨("Calendar", some "do"), "do", "Calendar.do", defArgs s_Calendar_do, defBody s_Calendar_do, defScope s_Calendar_do, [], []⟩
def D_led_on : He.DefD := ⟨("led_on", none), "led_on", "led_on", defArgs s_led_on, defBody s_led_on, defScope s_led_on, [], []⟩
def D_is_done : He.DefD := ⟨("is_done", none), "is_done", "is_done", defArgs s_is_done, defBody s_is_done, defScope s_is_done, [], []⟩
def D_deed_in : He.DefD := ⟨("deed_in", none), "deed_in", "deed_in", defArgs s_deed_in, defBody s_deed_in, defScope s_deed_in, [], []⟩
def D_read : He.DefD := ⟨("read", none), "read", "read", defArgs s_read, defBody s_read, defScope s_read, [], []⟩
def D_law_told : He.DefD := ⟨("_law_told", none), "_law_told", "_law_told", defArgs s_law_told, defBody s_law_told, defScope s_law_told, [], []⟩
def D_law : He.DefD := ⟨("law", none), "law", "law", defArgs s_law, defBody s_law, defScope s_law, [], []⟩
def D_XBadLine : He.DefD := ⟨("BadLine", some "__init__"), "__init__", "BadLine.__init__", defArgs s_XBadLine, defBody s_XBadLine, defScope s_XBadLine, [], []⟩
def D_XBadRule : He.DefD := ⟨("BadRule", some "__init__"), "__init__", "BadRule.__init__", defArgs s_XBadRule, defBody s_XBadRule, defScope s_XBadRule, [], []⟩
def D_XRefused : He.DefD := ⟨("Refused", some "__init__"), "__init__", "Refused.__init__", defArgs s_XRefused, defBody s_XRefused, defScope s_XRefused, [], []⟩
def fn : List He.DefD := [D_law_begin, D_law_values, D_law_draw, D_law_parts, D_number_of, D_Calendar___init__, D_Rule___init__, D_rule_of, D_calendar_in, D_is_whole, D_fresh, D_Calendar_count, D_Calendar_mark, D_Calendar_add, D_Calendar___len__, D_Calendar_is_deed, D_room_day, D_Calendar_is_room, D_Calendar_room_row, D_Calendar_is_person, D_Calendar_person_row, D_Calendar_day_row, D_Calendar_row_behind, D_Calendar_put, D_Calendar_note, D_with_series, D_taken_back, D_Calendar_do, D_led_on, D_is_done, D_deed_in, D_read, D_law_told, D_law, D_XBadLine, D_XBadRule, D_XRefused]
def fa : List He.Fa := [.glo "_law_begin", .glo "_law_values", .glo "_law_draw", .glo "_law_parts", .glo "number_of", .glo "rule_of", .glo "calendar_in", .glo "is_whole", .glo "fresh", .glo "room_day", .glo "with_series", .glo "taken_back", .glo "led_on", .glo "is_done", .glo "deed_in", .glo "read", .glo "_law_told", .glo "law", .free "all", .free "any", .free "bool", .free "enumerate", .free "int", .free "isinstance", .free "len", .free "list", .free "range", .free "str", .free "tuple", .free "zip", .str "FIGURES" "0123456789", .glo "PARTS", .glo "VALUES", .glo "SIZES", .glo "BadDeed", .glo "BadLine", .glo "BadRule", .glo "BadSeries", .glo "Calendar", .glo "Refused", .glo "Rule", .cls "Calendar", .cls "Rule", .noat "Calendar" "before", .noat "Calendar" "days", .noat "Calendar" "done", .noat "Calendar" "hours", .noat "Calendar" "persons", .noat "Calendar" "rooms", .noat "Calendar" "rows", .noat "Calendar" "rule", .noat "Calendar" "seen", .noat "Rule" "checking", .noat "Rule" "halves", .noat "Rule" "singles", .noat "Rule" "telling", .noat "BadLine" "line", .noat "BadRule" "part", .noat "Refused" "deed", .exm "BadDeed" "BadDeed" true, .exm "BadLine" "BadLine" true, .exm "BadRule" "BadRule" true, .exm "BadSeries" "BadSeries" true, .exm "Refused" "Refused" true, .exm "BadDeed" "BadSeries" false, .exm "BadDeed" "Refused" false, .exm "Refused" "BadDeed" false, .exm "Refused" "BadSeries" false, .exc "BadDeed", .exc "BadSeries", .meth "Calendar" "__len__", .meth "Calendar" "add", .meth "Calendar" "count", .meth "Calendar" "day_row", .meth "Calendar" "do", .meth "Calendar" "is_deed", .meth "Calendar" "is_person", .meth "Calendar" "is_room", .meth "Calendar" "mark", .meth "Calendar" "note", .meth "Calendar" "person_row", .meth "Calendar" "put", .meth "Calendar" "room_row", .meth "Calendar" "row_behind", .mkr "Calendar", .mkr "Rule"]
def exs : List (PySem.W.Frag → Bool) := [fun K => conB K d_PARTS (.ref (He.ga K "PARTS")), fun K => conB K d_VALUES (.ref (He.ga K "VALUES")), fun K => oexB K (He.ga K "BadLine"), fun K => xfB K (He.ga K "BadLine"), fun K => He.eqO (PySem.W.findIn K (.ref (He.ga K "BadLine")) "__init__") (some (some (.ref (He.ma K (He.ga K "BadLine") "__init__")))), fun K => decide (PySem.W.typeIn K (.ref (He.ma K (He.ga K "BadLine") "__init__")) = some (.type "function")), fun K => oexB K (He.ga K "BadRule"), fun K => xfB K (He.ga K "BadRule"), fun K => He.eqO (PySem.W.findIn K (.ref (He.ga K "BadRule")) "__init__") (some (some (.ref (He.ma K (He.ga K "BadRule") "__init__")))), fun K => decide (PySem.W.typeIn K (.ref (He.ma K (He.ga K "BadRule") "__init__")) = some (.type "function")), fun K => oexB K (He.ga K "Refused"), fun K => xfB K (He.ga K "Refused"), fun K => He.eqO (PySem.W.findIn K (.ref (He.ga K "Refused")) "__init__") (some (some (.ref (He.ma K (He.ga K "Refused") "__init__")))), fun K => decide (PySem.W.typeIn K (.ref (He.ma K (He.ga K "Refused") "__init__")) = some (.type "function")), fun K => tabB K "SIZES" tab_SIZES]
def ex (K : PySem.W.Frag) : Bool := exs.all fun f => f K
theorem ex_at {K : PySem.W.Frag} (h : ex K = true) (i : Nat) {f : PySem.W.Frag → Bool} (e : exs[i]? = some f := by rfl) : f K = true := List.all_eq_true.mp h f (List.mem_of_getElem? e)
abbrev R0 : PySem.W.OpenRow := PySem.W.OpenLaw.row PySem.Challenge.rw_seriesbooked_k12_texts_refused
abbrev hk : PySem.W.Hook := He.hookX 5 fa fn [((fun K => He.ga K "SIZES"), ["room", "person", "one", "off"])] [] ex
def ob (s : PySem.W.SharedT) : He.AlX := He.obsX 5 fa fn [((fun K => He.ga K "SIZES"), ["room", "person", "one", "off"])] [] ex (HandSHeadRun.getT s)
theorem ob_eq (s : PySem.W.SharedT) : ob s = hk.obs s.abs := He.obsX_eq (HandSHeadRun.getT_eq s)
def ns0 : List PySem.Str := ["_wall", "SeriesError", "BadSeries", "BadDeed", "NothingDone", "BadRule", "Refused", "BadLine", "fresh", "with_series", "room_day", "taken_back", "person_hours", "is_whole", "SIZES", "Calendar", "led_on", "PARTS", "VALUES", "Rule"]
def ns1 : List PySem.Str := ["rule_of", "FIGURES", "number_of", "calendar_in", "deed_in", "is_done", "read", "_law_begin", "_law_draw", "_law_values", "_law_names", "_law_parts", "_law_rule", "_law_told"]
def nms : List PySem.Str := ns0 ++ ns1
theorem run_f (w : PySem.World) : HandSHeadRun.RunEq R0 (PySem.W.view R0.prog [41]) hk ob 6000 nms (w.withFollow "special-get-raises" false) := by
  intro os
  kernel_rfl
theorem run_t (w : PySem.World) : HandSHeadRun.RunEq R0 (PySem.W.view R0.prog [41]) hk ob 6000 nms (w.withFollow "special-get-raises" true) := by
  intro os
  kernel_rfl
theorem run0 (w : PySem.World) : HandSHeadRun.RunEq R0 (PySem.W.view R0.prog [41]) hk ob 6000 nms w := by
  exact PySem.W.byRow2 "special-get-raises" run_f run_t w
end Lw
set_option Elab.async false
set_option linter.all false
set_option maxRecDepth 100000
set_option maxHeartbeats 2000000
namespace Mi
open PySem PySem.Spec PyProof.Rows L2
abbrev MO' := Ev → Sto → R (Option Int)
def moNone : MO' := fun _ S => .ok none S
def moSome (e : ME) : MO' := fun ρ S => (e ρ S).bind fun d S1 => match d with
  | .int i => .ok (some i) S1
  | _ => .stk
def tO (X : Cx) (W : WX) (m : MO') : TO := fun σ H Q => ∃ C ρ S, C.H = H ∧ Sv X ρ σ S C ∧ Wants W σ C (m ρ S) (fun o _ C' => Q o C'.H)
theorem _root_.L2.PO.imp {X : Cx} {e : Option Expr} {t t' : TO} (h : PO X e t) (k : ∀ σ H Q, t' σ H Q → t σ H Q) : PO X e t' := ⟨fun pins s σ H Q I q => h.run pins s σ H Q I (k σ H Q q)⟩
abbrev SO (X : Cx) (W : WX) (e : Option Expr) (m : MO') : Prop := PO X e (tO X W m)
def mSlice (e : ME) (lo hi : MO') : ME := fun ρ S => (e ρ S).bind fun d S1 => (lo ρ S1).bind fun l S2 => (hi ρ S2).bind fun h S3 => slcM d l h S3
theorem pu_slc : ∀ d l h S c x S', slcM d l h S ≠ .exc c x S' := by
  intro d l h S c x S' e
  unfold slcM at e
  split at e
  · cases e
  · split at e <;> cases e
  · split at e <;> cases e
section
variable {X : Cx} {W : WX} {e : Expr} {me : ME} {lo hi : Option Expr} {ml mh : MO'} {pos p2 : Pos}
theorem so_none : SO X W none moNone := po_none.imp fun σ H Q ⟨C, ρ, S, e, s, q⟩ => by
  subst e
  exact q.now s.rs
theorem so_some (h : SE X W e me) : SO X W (some e) (moSome me) := (po_some h).imp fun σ H Q ⟨C, ρ, S, e, s, q⟩ => by
  subst e
  refine tE.bind s q fun d S1 C1 v s1 g1 r1 q1 => ?_
  split at q1
  · exact ⟨_, vInt r1, q1.now s1.rs⟩
  · exact q1.elim
theorem se_slice (he : SE X W e me) (hl : SO X W lo ml) (hh : SO X W hi mh) : SE X W (.Subscript e (.Slice lo hi none p2) pos) (mSlice me ml mh) :=
  (pe_slice slM he hl hh).imp fun σ H Q ⟨C, ρ, S, e, s, q⟩ => by
    subst e
    refine tE.bind s q fun d S1 C1 v s1 g1 r1 q1 => ?_
    refine ⟨C1, ρ, S1, rfl, s1, (Wants.bind q1).mono fun l S2 C2 g2 r2 _ q2 => ?_⟩
    have s2 := s1.grow g2 r2
    refine ⟨C2, ρ, S2, rfl, s2, (Wants.bind q2.1).mono fun h S3 C3 g3 r3 _ q3 => ?_⟩
    have s3 := s2.grow g3 r3
    refine ⟨C3, S3, d, rfl, s3.w, s3.K, s3.rs, (r1.grow g2 s1.rs).grow g3 s2.rs, ?_⟩
    have q3 := q3.1
    cases e : slcM d l h S3 with
    | ok a S' => rw [e] at q3; exact ⟨a, S', rfl, q3⟩
    | exc c d S' => exact absurd e (pu_slc _ _ _ _ _ _ _)
    | stk => rw [e] at q3; exact q3.elim
end
theorem pu_len : Pure1 lenM := by
  intro ds S c d S' h
  unfold lenM at h
  split at h
  · split at h
    · cases h
    · unfold lenD at h
      split at h
      · cases h
      · split at h
        · split at h <;> cases h
        · cases h
  · cases h
theorem pu_int : Pure1 intM := by intro ds S c d S' h; unfold intM at h; split at h <;> cases h
theorem pu_tuple : Pure1 tupM := by
  intro ds S c d S' h
  unfold tupM at h
  split at h
  · split at h <;> cases h
  · cases h
theorem pu_list {fr : Bool} : Pure1 (lstM fr) := by
  intro ds S c d S' h
  unfold lstM at h
  split at h
  · split at h
    · split at h <;> cases h
    · cases h
  · cases h
theorem takes_cx {P : Program} {w : World} {K : PySem.W.Frag} {mg : Str → Option Value} {base : Heap} {N : List Str} {q : Str} {sc : Scope} {f : Addr} {cdv : Value} {A : Around} {outer : List Env} {s : Shared} {H : Hp} {E : XK} :
    Takes (cxOf (L2.CX P w) P w K mg base N q sc f cdv A outer s H E) (fun cls dx _ H => E cls dx H) := takes_of rfl rfl rfl rfl
theorem pass_cx {P : Program} {w : World} {K : PySem.W.Frag} {mg : Str → Option Value} {base : Heap} {N : List Str} {q : Str} {sc : Scope} {f : Addr} {cdv : Value} {A : Around} {outer : List Env} {s : Shared} {H : Hp} {E : XK} :
    PassesOwn (model P w) (cxOf (L2.CX P w) P w K mg base N q sc f cdv A outer s H E).A (cxOf (L2.CX P w) P w K mg base N q sc f cdv A outer s H E).env (cxOf (L2.CX P w) P w K mg base N q sc f cdv A outer s H E).xe := passes_of rfl
def oneC (c : Str) : Str → Option Bool := fun c' => if c' = c then some true else none
theorem oneC_is {c : Str} : ∀ c', oneC c c' = some true → c' = c := fun c' h => by
  unfold oneC at h
  by_cases e : c' = c
  · exact e
  · rw [if_neg e] at h; cases h
theorem oneC_ok {K : PySem.W.Frag} {c : Str} (x : PySem.W.exmOne K (.ref (He.ga K c)) (.ref (He.ga K c)) = some true) : ∀ c' b, oneC c c' = some b → PySem.W.exmOne K (.ref (He.ga K c')) (.ref (He.ga K c)) = some b := fun c' b h => by
  unfold oneC at h
  by_cases e : c' = c
  · rw [if_pos e] at h; cases h; rw [e]; exact x
  · rw [if_neg e] at h; cases h
theorem bt_len : bootBuiltins "len" = some (.builtin "len") := by decide +kernel
theorem bt_int : bootBuiltins "int" = some (.type "int") := by decide +kernel
theorem bt_str : bootBuiltins "str" = some (.type "str") := by decide +kernel
theorem bt_bool : bootBuiltins "bool" = some (.type "bool") := by decide +kernel
theorem bt_list : bootBuiltins "list" = some (.type "list") := by decide +kernel
theorem bt_tuple : bootBuiltins "tuple" = some (.type "tuple") := by decide +kernel
theorem bt_any : bootBuiltins "any" = some (.builtin "any") := by decide +kernel
theorem bt_all : bootBuiltins "all" = some (.builtin "all") := by decide +kernel
end Mi
set_option Elab.async false
set_option linter.all false
set_option maxRecDepth 100000
set_option maxHeartbeats 2000000
namespace Mi
open PySem PySem.Spec PyProof.Rows L2
mutual
def sh : MV → Bool
  | .non | .bl _ | .int _ => true
  | .str x => PyData.strOk x
  | .tup xs => shs xs
  | .lst xs => shs xs
  | _ => false
def shs : List MV → Bool
  | [] => true
  | x :: xs => sh x && shs xs
end
mutual
def dpt : MV → Nat
  | .tup xs => dpts xs + 1
  | .lst xs => dpts xs + 1
  | _ => 0
def dpts : List MV → Nat
  | [] => 0
  | x :: xs => max (dpt x) (dpts xs)
end
mutual
def cn : MV → MV
  | .bl b => .int (if b then 1 else 0)
  | .tup xs => .tup (cns xs)
  | .lst xs => .lst (cns xs)
  | x => x
def cns : List MV → List MV
  | [] => []
  | x :: xs => cn x :: cns xs
end
mutual
def pdO : MV → PyData
  | .non => .none
  | .bl b => .bool b
  | .int i => .int i
  | .str x => .str x
  | .tup xs => .tuple (pdOs xs)
  | .lst xs => .list (pdOs xs)
  | _ => .dict []
def pdOs : List MV → List PyData
  | [] => []
  | x :: xs => pdO x :: pdOs xs
end
mutual
theorem pdF_O (S : Sto) : ∀ (n : Nat) (x : MV), sh x = true → dpt x < n → pdF n S x = pdO x
  | 0, x, _, h => by omega
  | n + 1, .non, _, _ => by simp [pdF, pdO]
  | n + 1, .bl _, _, _ => by simp [pdF, pdO]
  | n + 1, .int _, _, _ => by simp [pdF, pdO]
  | n + 1, .str _, _, _ => by simp [pdF, pdO]
  | n + 1, .tup xs, h, d => by
    rw [pdF, pdO, pdF_Os S n xs (by simpa [sh] using h) (by rw [dpt] at d; omega)]
  | n + 1, .lst xs, h, d => by
    rw [pdF, pdO, pdF_Os S n xs (by simpa [sh] using h) (by rw [dpt] at d; omega)]
  | n + 1, .dct _ _, h, _ => by simp [sh] at h
  | n + 1, .dcT _ _, h, _ => by simp [sh] at h
  | n + 1, .obj _ _ _, h, _ => by simp [sh] at h
  | n + 1, .ref _, h, _ => by simp [sh] at h
  | n + 1, .kls _, h, _ => by simp [sh] at h
theorem pdF_Os (S : Sto) : ∀ (n : Nat) (xs : List MV), shs xs = true → dpts xs < n → xs.map (pdF n S) = pdOs xs
  | n, [], _, _ => by simp [pdOs]
  | n, x :: xs, h, d => by
    rw [shs, Bool.and_eq_true] at h
    rw [dpts] at d
    rw [List.map_cons, pdOs, pdF_O S n x h.1 (by omega), pdF_Os S n xs h.2 (by omega)]
end
mutual
theorem can_O : ∀ x : MV, sh x = true → (pdO x).canLay0 = true
  | .non, _ => by simp [pdO, PyData.canLay0]
  | .bl _, _ => by simp [pdO, PyData.canLay0]
  | .int _, _ => by simp [pdO, PyData.canLay0]
  | .str _, h => by simpa [pdO, PyData.canLay0, sh] using h
  | .tup xs, h => by rw [pdO, PyData.canLay0]; exact can_Os xs (by simpa [sh] using h)
  | .lst xs, h => by rw [pdO, PyData.canLay0]; exact can_Os xs (by simpa [sh] using h)
  | .dct _ _, h => by simp [sh] at h
  | .dcT _ _, h => by simp [sh] at h
  | .obj _ _ _, h => by simp [sh] at h
  | .ref _, h => by simp [sh] at h
  | .kls _, h => by simp [sh] at h
theorem can_Os : ∀ xs : List MV, shs xs = true → PyData.canLayAll0 (pdOs xs) = true
  | [], _ => by simp [pdOs, PyData.canLayAll0]
  | x :: xs, h => by
    rw [shs, Bool.and_eq_true] at h
    rw [pdOs, PyData.canLayAll0, can_O x h.1, can_Os xs h.2]; rfl
end
mutual
theorem dep_O : ∀ x : MV, (pdO x).depth ≤ dpt x ∨ sh x = false
  | .non => .inl (by simp [pdO, PyData.depth])
  | .bl _ => .inl (by simp [pdO, PyData.depth])
  | .int _ => .inl (by simp [pdO, PyData.depth])
  | .str _ => .inl (by simp [pdO, PyData.depth])
  | .tup xs => by
    rcases dep_Os xs with h | h
    · exact .inl (by rw [pdO, PyData.depth, dpt]; omega)
    · exact .inr (by rw [sh]; exact h)
  | .lst xs => by
    rcases dep_Os xs with h | h
    · exact .inl (by rw [pdO, PyData.depth, dpt]; omega)
    · exact .inr (by rw [sh]; exact h)
  | .dct _ _ => .inr (by simp [sh])
  | .dcT _ _ => .inr (by simp [sh])
  | .obj _ _ _ => .inr (by simp [sh])
  | .ref _ => .inr (by simp [sh])
  | .kls _ => .inr (by simp [sh])
theorem dep_Os : ∀ xs : List MV, PyData.depthAll (pdOs xs) ≤ dpts xs ∨ shs xs = false
  | [] => .inl (by simp [pdOs, PyData.depthAll])
  | x :: xs => by
    rcases dep_O x with h | h
    · rcases dep_Os xs with h2 | h2
      · exact .inl (by rw [pdOs, PyData.depthAll, dpts]; omega)
      · exact .inr (by rw [shs, h2]; simp)
    · exact .inr (by rw [shs, h]; simp)
end
theorem dec_and {p q r : Prop} [Decidable p] [Decidable q] [Decidable r] (h : r ↔ p ∧ q) : (decide p && decide q) = decide r := by
  by_cases hp : p <;> by_cases hq : q <;> simp [hp, hq, h]
mutual
theorem eqv_O : ∀ x y : MV, sh x = true → sh y = true → PyData.eqv (pdO x) (pdO y) = decide (cn x = cn y)
  | .non, y, hx, hy => by cases y <;> simp [pdO, PyData.eqv, cn, sh] at hy ⊢
  | .bl a, y, hx, hy => by
    cases y <;> simp [pdO, PyData.eqv, cn, sh] at hy ⊢
    · rename_i b; cases a <;> cases b <;> rfl
    · rw [Bool.beq_eq_decide_eq]
  | .int a, y, hx, hy => by
    cases y <;> simp [pdO, PyData.eqv, cn, sh] at hy ⊢
    all_goals first | rfl | rw [Bool.beq_eq_decide_eq]
  | .str a, y, hx, hy => by
    cases y <;> simp [pdO, PyData.eqv, cn, sh] at hy ⊢
    all_goals first | rfl | rw [Bool.beq_eq_decide_eq]
  | .tup xs, y, hx, hy => by
    cases y with
    | tup ys =>
      rw [pdO, pdO, PyData.eqv, cn, cn, eqv_Os xs ys (by simpa [sh] using hx) (by simpa [sh] using hy)]
      simp
    | _ => simp [pdO, PyData.eqv, cn, sh] at hy ⊢
  | .lst xs, y, hx, hy => by
    cases y with
    | lst ys =>
      rw [pdO, pdO, PyData.eqv, cn, cn, eqv_Os xs ys (by simpa [sh] using hx) (by simpa [sh] using hy)]
      simp
    | _ => simp [pdO, PyData.eqv, cn, sh] at hy ⊢
  | .dct _ _, _, h, _ => by simp [sh] at h
  | .dcT _ _, _, h, _ => by simp [sh] at h
  | .obj _ _ _, _, h, _ => by simp [sh] at h
  | .ref _, _, h, _ => by simp [sh] at h
  | .kls _, _, h, _ => by simp [sh] at h
theorem eqv_Os : ∀ xs ys : List MV, shs xs = true → shs ys = true → PyData.eqvAll (pdOs xs) (pdOs ys) = decide (cns xs = cns ys)
  | [], [], _, _ => by simp [pdOs, PyData.eqvAll, cns]
  | [], _ :: _, _, _ => by simp [pdOs, PyData.eqvAll, cns]
  | _ :: _, [], _, _ => by simp [pdOs, PyData.eqvAll, cns]
  | x :: xs, y :: ys, hx, hy => by
    rw [shs, Bool.and_eq_true] at hx hy
    rw [pdOs, pdOs, PyData.eqvAll, cns, cns, eqv_O x y hx.1 hy.1, eqv_Os xs ys hx.2 hy.2]
    exact dec_and (by simp)
end
theorem shaped_O {x : MV} (h : sh x = true) (d : dpt x ≤ 7) : SeqAt.shaped (pdO x) = true := by
  unfold SeqAt.shaped
  rw [can_O x h]
  rcases dep_O x with e | e
  · simp; omega
  · rw [h] at e; cases e
/-- a cell that is a list, looked through -/
def deref (S : Sto) : MV → MV
  | .ref n => (match S[n]? with
    | some (.lst xs) => .lst xs
    | _ => .ref n)
  | x => x
theorem pdF_deref (S : Sto) (x : MV) : pdF 8 S x = pdF 8 S (deref S x) := by
  unfold deref
  split
  · split
    · rename_i h
      simp only [pdF, h]
    · rfl
  · rfl
theorem scal_not_ref {x y : MV} (h : scalM x y = true) : (∀ n, x ≠ .ref n) ∧ ∀ n, y ≠ .ref n := by
  cases x <;> cases y <;> simp [scalM, skind] at h ⊢
theorem deref_of {S : Sto} {x : MV} (h : ∀ n, x ≠ .ref n) : deref S x = x := by
  unfold deref
  split
  · rename_i n; exact absurd rfl (h n)
  · rfl
theorem eqB_sh {S : Sto} {x y x' y' : MV} (ex : deref S x = x') (ey : deref S y = y') (hx : sh x' = true) (hy : sh y' = true) (dx : dpt x' ≤ 7) (dy : dpt y' ≤ 7) : eqB S x y = some (decide (cn x' = cn y')) := by
  unfold eqB
  by_cases hs : scalM x y = true
  · rw [if_pos hs]
    obtain ⟨h1, h2⟩ := scal_not_ref hs
    rw [deref_of h1] at ex
    rw [deref_of h2] at ey
    subst ex ey
    congr 1
    cases x <;> cases y <;> simp [scalM, skind] at hs <;> simp [seqM, cn]
    rename_i a b
    cases a <;> cases b <;> simp
  · rw [if_neg hs, pdF_deref S x, pdF_deref S y, ex, ey, pdF_O S 8 x' hx (by omega), pdF_O S 8 y' hy (by omega), shaped_O hx dx, shaped_O hy dy, eqv_O x' y' hx hy]
    rfl
theorem eqM_sh {S : Sto} {x y x' y' : MV} (ex : deref S x = x') (ey : deref S y = y') (hx : sh x' = true) (hy : sh y' = true) (dx : dpt x' ≤ 7) (dy : dpt y' ≤ 7) : eqM x y S = .ok (.bl (decide (cn x' = cn y'))) S := by
  unfold eqM; rw [eqB_sh ex ey hx hy dx dy]
theorem neM_sh {S : Sto} {x y x' y' : MV} (ex : deref S x = x') (ey : deref S y = y') (hx : sh x' = true) (hy : sh y' = true) (dx : dpt x' ≤ 7) (dy : dpt y' ≤ 7) : neM x y S = .ok (.bl (!decide (cn x' = cn y'))) S := by
  unfold neM; rw [eqB_sh ex ey hx hy dx dy]
theorem any_O {x : MV} (hx : sh x = true) : ∀ ys : List MV, shs ys = true → ((pdOs ys).any fun z => PyData.eqv z (pdO x)) = decide (cn x ∈ cns ys)
  | [], _ => by simp [pdOs, cns]
  | y :: ys, h => by
    rw [shs, Bool.and_eq_true] at h
    rw [pdOs, List.any_cons, cns, any_O hx ys h.2, eqv_O y x h.1 hx]
    by_cases e : cn x = cn y
    · simp [e]
    · simp [e, Ne.symm e]
theorem inB_sh {S : Sto} {x c : MV} {ys : List MV} (ec : deref S c = .tup ys ∨ deref S c = .lst ys) (hx : sh x = true) (hy : shs ys = true) (dx : dpt x ≤ 7) (dy : dpts ys ≤ 6) : inB S x c = some (decide (cn x ∈ cns ys)) := by
  have nd : dctOf S c = none := by
    cases c with
    | ref n =>
      simp only [deref] at ec
      simp only [dctOf]
      cases e : S[n]? with
      | none => rfl
      | some o =>
        rw [e] at ec
        cases o <;> first | rfl | (rcases ec with ec | ec <;> cases ec)
    | dct ks vs => rcases ec with ec | ec <;> cases ec
    | _ => rfl
  unfold inB
  rw [nd]
  dsimp only
  rw [pdF_deref S c]
  rcases ec with ec | ec
  · have hc : sh (.tup ys) = true := by rw [sh]; exact hy
    have hd : dpt (.tup ys) ≤ 7 := by rw [dpt]; omega
    have e0 := shaped_O hc hd
    rw [pdO] at e0
    rw [ec, pdF_O S 8 (.tup ys) hc (by omega), pdO]
    dsimp only
    rw [pdF_O S 8 x hx (by omega), shaped_O hx dx, e0, any_O hx ys hy]
    rfl
  · have hc : sh (.lst ys) = true := by rw [sh]; exact hy
    have hd : dpt (.lst ys) ≤ 7 := by rw [dpt]; omega
    have e0 := shaped_O hc hd
    rw [pdO] at e0
    rw [ec, pdF_O S 8 (.lst ys) hc (by omega), pdO]
    dsimp only
    rw [pdF_O S 8 x hx (by omega), shaped_O hx dx, e0, any_O hx ys hy]
    rfl
/-- what a frozen def answers -/
theorem frzF_ok {m : MF} {ds : List MV} {S S' : Sto} {d d' : MV} (h : m ds S = .ok d S') (h1 : frz S.length S' 8 d = some d') (h2 : S'.take S.length = S) : frzF m ds S = .ok d' S := by
  unfold frzF Mi.cutS
  rw [h]
  dsimp only
  rw [h1, if_pos h2]
end Mi
set_option Elab.async false
set_option linter.all false
set_option maxRecDepth 100000
set_option maxHeartbeats 2000000
namespace Mi
open PySem PySem.Spec PyProof.Rows L2
def pureF (m : MF) : MF := fun ds S => if refsBs 0 ds then (match m ds [] with
  | .ok d S' => (match frz 0 S' 8 d with
    | some d' => .ok d' S
    | none => .stk)
  | .exc c d S' => if refsB 0 d then .exc c d S else .stk
  | .stk => .stk) else .stk
/-- the cells set apart: not to be read, not to be written -/
def RC.bare (C : RC) : RC := { C with ι := [], bad := C.ι ++ C.bad }
def RC.back (C C0 : RC) : RC := { C with ι := C0.ι, bad := C0.bad }
theorem Tr.bare {C : RC} {S : Sto} {ds : List MV} {vs : List V} (h : refsBs 0 ds = true) (t : RepVs C ds vs) : RepVs C.bare ds vs :=
  RepVs.tr (b := 0) (C := C) (C' := C.bare) ⟨rfl, rfl, fun _ _ q => q, fun a u n q => ⟨⟨(by intro m; cases m), fun m => (List.mem_append.mp m).elim n.1 n.2⟩, .inl q⟩, fun _ _ _ q => q, fun n a hn q => by omega⟩ ds vs h t
theorem RepS.bare {C : RC} {S : Sto} (r : RepS C S) : RepS C.bare [] := by
  refine ⟨rfl, List.nodup_nil, fun a m => ⟨(by intro z; cases z), ?_⟩, fun n o a e _ => by simp at e⟩
  rcases List.mem_append.mp (show a ∈ C.ι ++ C.bad from m) with z | z
  · obtain ⟨u, hu, _⟩ := r.kind z
    show C.H a ≠ none
    rw [hu]; simp
  · exact (r.bad a z).2
theorem bare_back {C C' : RC} {S : Sto} {S' : Sto} (r : RepS C S) (g : Grow C.bare C') (r' : RepS C' S') : Grow C (C'.back C) ∧ RepS (C'.back C) S := by
  have kq : ∀ a o, C.H a = some o → Kp C.bare C' a o := fun a o e => g.kp a o (by intro m; cases m) e
  have kp : ∀ a o, C.H a = some o → (∀ kvs, o ≠ .dK kvs) ∨ a ∈ C.ι → C'.H a = some o := fun a o e h => (kq a o e).exact (h.imp id fun m => List.mem_append_left _ m)
  have kk : ∀ a o, C.H a = some o → Kp C (C'.back C) a o := fun a o e => (kq a o e).imp id fun ⟨nb, h⟩ => ⟨fun m => nb (List.mem_append_right _ m), h⟩
  have tr : Tr C.ι.length C (C'.back C) := by
    refine ⟨g.w, g.K, fun a vs q => ?_, fun a u n q => ⟨n, kk a u q⟩, fun a o u q => kp a _ q (.inl fun _ z => by cases z), fun n a hn q => q⟩
    rw [show (C'.back C).K = C.K from g.K]
    rcases q with (q | ⟨o, q⟩) | q
    · exact .inl (.inl (kp a _ q (.inl fun _ z => by cases z)))
    · exact .inl (.inr ⟨o, kp a _ q (.inl fun _ z => by cases z)⟩)
    · exact .inr q
  refine ⟨⟨g.w, g.K, fun a m => .inl m, fun a m => m, fun a o _ e => kk a o e, fun a m => .inl m, rfl, Nat.le_refl _, Nat.le_refl _⟩, ⟨r.len, r.nd, fun a m => ⟨(r.bad a m).1, ?_⟩, fun n o a e1 e2 => ?_⟩⟩
  · cases e : C.H a with
    | none => exact absurd e (r.bad a m).2
    | some o => show C'.H a ≠ none; exact (kq a o e).nix
  · refine (r.ob n o a e1 e2).trn tr ?_
    obtain ⟨u, hu, _⟩ := (r.ob n o a e1 e2).kind
    rw [hu]; exact kp a u hu (.inr (List.mem_of_getElem? e2))
theorem Tr.back {C C' : RC} (g : Grow C.bare C') : Tr 0 (C'.cut 0) (C'.back C) := by
  refine ⟨rfl, rfl, fun _ _ q => q, fun a u n q => ⟨⟨fun m => n.2 (g.bad' a (List.mem_append_left _ m)), fun m => n.2 (g.bad' a (List.mem_append_right _ m))⟩, .inl q⟩, fun _ _ _ q => q, fun n a hn q => by omega⟩
mutual
theorem frz_refs {b : Nat} {S : Sto} : ∀ (n : Nat) (d d' : MV), frz b S n d = some d' → refsB b d' = true
  | 0, d, d', e => by
    rw [frz] at e
    by_cases h : refsB b d = true
    · rw [if_pos h] at e; cases e; exact h
    · rw [if_neg h] at e; cases e
  | n + 1, d, d', e => by
    have rest : ∀ d : MV, (if refsB b d then some d else none) = some d' → refsB b d' = true := fun d e => by
      by_cases h : refsB b d = true
      · rw [if_pos h] at e; cases e; exact h
      · rw [if_neg h] at e; cases e
    have go : ∀ {xs ys : List MV}, xs.mapM (frz b S n) = some ys → refsBs b ys = true := fun {xs ys} e => frz_refss n xs ys e
    cases d with
    | ref k =>
      rw [frz] at e
      split at e
      · rename_i h; cases e; simp [refsB, h]
      · cases e0 : S[k]? with
        | none => rw [e0] at e; cases e
        | some o =>
          rw [e0] at e
          cases o with
          | lst xs =>
            dsimp only at e
            cases e1 : xs.mapM (frz b S n) with
            | none => rw [e1] at e; cases e
            | some ys => rw [e1] at e; cases e; rw [refsB]; exact go e1
          | dct ks xs =>
            dsimp only at e
            cases e1 : xs.mapM (frz b S n) with
            | none => rw [e1] at e; cases e
            | some ys => rw [e1] at e; cases e; rw [refsB]; exact go e1
          | obj c fs xs =>
            dsimp only at e
            cases e1 : xs.mapM (frz b S n) with
            | none => rw [e1] at e; cases e
            | some ys => rw [e1] at e; cases e; rw [refsB]; exact go e1
          | dcT ks xs =>
            dsimp only at e
            by_cases hb : refsBs b ks = true
            · rw [if_pos hb] at e
              cases e1 : xs.mapM (frz b S n) with
              | none => rw [e1] at e; cases e
              | some ys => rw [e1] at e; cases e; rw [refsB, hb, go e1]; rfl
            · rw [if_neg hb] at e; cases e
    | tup xs =>
      rw [frz] at e
      cases e1 : xs.mapM (frz b S n) with
      | none => rw [e1] at e; cases e
      | some ys => rw [e1] at e; cases e; rw [refsB]; exact go e1
    | lst xs =>
      rw [frz] at e
      cases e1 : xs.mapM (frz b S n) with
      | none => rw [e1] at e; cases e
      | some ys => rw [e1] at e; cases e; rw [refsB]; exact go e1
    | dct ks xs =>
      rw [frz] at e
      cases e1 : xs.mapM (frz b S n) with
      | none => rw [e1] at e; cases e
      | some ys => rw [e1] at e; cases e; rw [refsB]; exact go e1
    | obj c fs xs =>
      rw [frz] at e
      cases e1 : xs.mapM (frz b S n) with
      | none => rw [e1] at e; cases e
      | some ys => rw [e1] at e; cases e; rw [refsB]; exact go e1
    | non => exact rest _ (by simpa only [frz] using e)
    | bl x => exact rest _ (by simpa only [frz] using e)
    | int x => exact rest _ (by simpa only [frz] using e)
    | str x => exact rest _ (by simpa only [frz] using e)
    | dcT x y => exact rest _ (by simpa only [frz] using e)
    | kls x => exact rest _ (by simpa only [frz] using e)
theorem frz_refss {b : Nat} {S : Sto} : ∀ (n : Nat) (xs ys : List MV), xs.mapM (frz b S n) = some ys → refsBs b ys = true
  | n, [], ys, e => by simp at e; subst e; rfl
  | n, x :: xs, ys, e => by
    rw [List.mapM_cons] at e
    cases e1 : frz b S n x with
    | none => rw [e1] at e; cases e
    | some y =>
      rw [e1] at e
      cases e2 : xs.mapM (frz b S n) with
      | none => rw [e2] at e; cases e
      | some zs =>
        rw [e2] at e
        have e : some (y :: zs) = some ys := e
        cases e
        rw [refsBs, frz_refs n x y e1, frz_refss n xs zs e2]; rfl
end
theorem pure_ok {P : Program} {w : World} {K : PySem.W.Frag} {mg : Str → Option Value} {base : Heap} {k n : Nat} {f : Addr} {fd : FuncData} {ps : List Str} {m : MF} (F : FnOk P w K mg base (L2.CX P w) k f fd ps (spM w K n m)) :
    FnOk P w K mg base (L2.CX P w) k f fd ps (spM w K n (pureF m)) := F.imp fun vs H Q E ⟨hl, C, S, ds, e, hw, hK, r, t, q⟩ => by
  unfold pureF at q
  split at q
  · rename_i hr
    refine ⟨hl, C.bare, [], ds, e, hw, hK, r.bare, Tr.bare (S := S) hr t, ?_⟩
    cases e1 : m ds [] with
    | stk => rw [e1] at q; exact q
    | ok d S' =>
      rw [e1] at q
      dsimp only at q
      intro C' g r' v rv
      cases e2 : frz 0 S' 8 d with
      | none => rw [e2] at q; exact q.elim
      | some d' =>
        rw [e2] at q
        obtain ⟨h1, h2⟩ := bare_back r g r'
        exact q (C'.back C) h1 h2 v (RepV.tr (Tr.back g) d' v (frz_refs 8 d d' e2) (frz_rep r' 8 d v d' rv e2))
    | exc c d S' =>
      rw [e1] at q
      dsimp only at q
      intro C' cls dx g r' xr
      split at q
      · rename_i hb
        obtain ⟨h1, h2⟩ := bare_back r g r'
        refine q (C'.back C) cls dx h1 h2 ⟨xr.1, ?_⟩
        rcases xr.2 with z | ⟨a, f, d', v, ed, e, q, t⟩
        · exact .inl z
        · have hb' : refsB 0 d' = true := by subst ed; simpa [refsB, refsBs] using hb
          exact .inr ⟨a, f, d', v, ed, e, q, RepV.tr (Tr.back g) d' v hb' (RepV.tr Tr.cut d' v hb' t)⟩
      · exact q.elim
  · exact q.elim
end Mi
set_option Elab.async false
set_option linter.all false
set_option maxRecDepth 100000
set_option maxHeartbeats 4000000
namespace PySem
open Sem (wp)
open AutoSeq1 (wpAny_loadPart')
/-- what iter(v) gives where the heap is hp -/
def IterTo (v it : Value) (hp hp' : Heap) : Prop := ∀ (prog : Program) (w : World) (A : Around) (E : Value → Shared → Prop) (s : Shared) (Q : Value → Shared → Prop), s.heap = hp → Q it { s with heap := hp' } → wpAny (model prog w) A (pyIter v) Q E s
/-- a fresh enumerate over it -/
abbrev enumOb (it : Value) : Obj := { cls := .type "enumerate", data := .fields #[.none, .bool false, it, rawInt 0, .none, .none] }
theorem enum_made {v it : Value} {hp hp' : Heap} (go : IterTo v it hp hp') :
    Meets (Builtin.«enumerate.__new__» ⟨[.type "enumerate", v], []⟩) (fun _ R st => st.heap = hp ∧ R (.ok (.ret (.ref hp'.objs.size))) { st with heap := hp'.push (enumOb it) }) := by
  refine .of_wp fun prog w A R st both => ?_
  obtain ⟨h0, gs, dr, tk, os⟩ := st
  obtain ⟨at0, fin⟩ := both
  have own := sub_enumerate
  have next : ∀ {A' : Around} {E' : Value → Shared → Prop} {Q' : Value → Shared → Prop}, Q' it ⟨hp', gs, dr, tk, os⟩ → wpAny (model prog w) A' (pyIter v) Q' E' ⟨h0, gs, dr, tk, os⟩ := fun q => go prog w _ _ ⟨h0, gs, dr, tk, os⟩ _ at0 q
  wp_walk using next
  refine wpAny_stack_any fun who => wpAny_pure ?_
  split
  · rename_i cl _ _ _ _ _
    rcases (cl == Value.type "enumerate") with _ | _ <;> (wp_walk using next; exact ⟨_, rfl, fin⟩)
  · wp_walk using next; exact ⟨_, rfl, fin⟩
/-- enumerate(v) -/
theorem enum_call {prog : Program} {w : World} {A : Around} {E : Value → Shared → Prop} {s : Shared} {v it : Value} {hp' : Heap} {Q : Value → Shared → Prop} (go : IterTo v it s.heap hp') (q : Q (.ref hp'.objs.size) { s with heap := hp'.push (enumOb it) }) :
    wpAny (model prog w) A (call (.type "enumerate") [v]) Q E s :=
  callType_new F.called_enumerate (by decide) (F.typeCall_enumerate_1 _) (F.newCall_enumerate_1 _) (fun o => F.args_object_init_2 o _) F.entry_enumerate_new (enum_made go) ⟨rfl, ⟨⟨_, Heap.get?_push_size _ rfl, rfl⟩, q⟩⟩
end PySem
namespace Mi
open PySem PySem.Spec PyProof.Rows L2
/-- over a list or a tuple: its own iterator lies ahead of the enumerate's record -/
theorem iterK {s : Shared} {a : Addr} {us : Array Value} {t : Bool} (p : CoK t s.heap a us) : IterTo (.ref a) (.ref s.heap.objs.size) s.heap (s.heap.push (obK t a)) := fun prog w A E s' Q es q => by
  have b := (beginsK a us t).iter prog w A E s' Q (es ▸ p)
  rw [es] at b
  exact b q
section
variable {X : Cx} {W : WX} {tg l e e2 e3 : Expr} {ml : ME} {mas : MA} {p pos tpos : Pos} {elts : List Expr} {kk : Nat}
theorem pi_e {ta : TA} (hg : Gl X "enumerate") (hm : X.mg "enumerate" = none) (ha : PA X [e] ta) (hs : starEach (e :: []) X.env = (false, eval e X.env) :: starEach [] X.env) (hpl : (backTo pos (starEach [] X.env)).any (·.1) = false) :
    PI X (.Tuple elts kk tpos) (.Call (.Name "enumerate" p) [e] [] pos) (fun σ H Rr => ta σ H fun vs H1 => ∃ a t xs, vs = [.ref a] ∧ SqK X.K t H1 a xs ∧ Rr (ItE X.K t a) H1) := by
  refine pi_made hg hm boot_enumerate ha ?_ hs hpl
  rintro pins σ H s us _ Rr inv r ⟨a, t, xs, rfl, sq, q⟩
  cases refs_of (as := [a]) r
  obtain ⟨ua, _, pa, la⟩ := seqK inv sq
  refine enum_call (iterK pa) ?_
  have nf : (obK t a).isFreed = false := by cases t <;> rfl
  have sz : (s.heap.push (obK t a)).objs.size = s.heap.objs.size + 1 := Heap.size_push ..
  have oe : IsEnum ((s.heap.push (obK t a)).push (enumOb (.ref s.heap.objs.size))) (s.heap.push (obK t a)).objs.size s.heap.objs.size 0 .none := Heap.get?_push_size _ rfl
  have oi : ((s.heap.push (obK t a)).push (enumOb (.ref s.heap.objs.size))).get? s.heap.objs.size = some (obK t a) := Heap.get?_push_of_some _ (Heap.get?_push_size _ nf)
  rw [sz] at oe ⊢
  refine wpAny_pyIter_enum oe ⟨_, _, _, _, H, rfl, inv.kept (t' := s.toks) fun b o q => Heap.get?_push_of_some _ (Heap.get?_push_of_some _ q),
    (walk_e (Nat.ne_of_lt la) (Nat.succ_ne_self _) (Nat.ne_of_gt (Nat.lt_succ_of_lt la))).turn, ⟨⟨_, oe⟩, itK_new oi⟩, all_new inv (by simp [Nat.ble_eq]), q⟩
theorem si_enum (hg : Gl X "enumerate") (hm : X.mg "enumerate" = none) (ha : SA X W [e] mas) (hs : starEach (e :: []) X.env = (false, eval e X.env) :: starEach [] X.env := by rfl) (hpl : (backTo pos (starEach [] X.env)).any (·.1) = false := by rfl) :
    SI X W (.Tuple elts kk tpos) (.Call (.Name "enumerate" p) [e] [] pos) (mEnum mas) :=
  (pi_e hg hm ha hs hpl).imp fun σ H Q ⟨C, ρ, S, e, s, q⟩ => by
    subst e
    refine tA.bind s q fun ds S1 C1 vs s1 g1 r1 q1 => ?_
    unfold enmOf at q1
    split at q1
    · split at q1
      · rename_i e1
        obtain ⟨v, rfl, rv⟩ := one_of r1
        obtain ⟨a, vs, rfl, sq, t⟩ := seqK_of s1.rs rv e1
        rw [s1.K] at sq
        exact ⟨a, _, vs, rfl, sq, q1.now s1.rs _ (src_e s1.K rv)⟩
      · exact q1.elim
    · exact q1.elim
theorem se_neg {n : Int} {j : Nat} {p1 p2 : Pos} : SE X W (.UnaryOp .USub (.Constant (.int n) j p1) p2) (mC (.int (-n))) := by
  refine (pe_un (r := rU fun i => .int (-i)) (by first | exact un_neg | exact un_usub | exact unR_neg) pe_int).imp fun σ H Q ⟨C, ρ, S, e, s, q⟩ => ?_
  subst e
  exact ⟨n, rfl, q.now s.rs _ (repI _)⟩
end
end Mi
set_option Elab.async false
set_option linter.all false
set_option maxRecDepth 100000
set_option maxHeartbeats 4000000
namespace Mi
open PySem
/-- the record of an iterator that owns a tuple: what it knows of the tuple, whether it holds it for out, the rest of its fields -/
abbrev OwnRec (h : Heap) (a : Addr) (c : String) (v0 : Value) (f : Bool) (rest : List Value) : Prop :=
  h.get? a = some { cls := .type c, dict := none, data := .fields (v0 :: .bool f :: rest).toArray, slots := #[] }
/-- nothing, or where a tuple once lay -/
def Tells (v : Value) : Prop := v = .none ∨ ∃ T : Addr, v = rawInt T
/-- all but the cells W stands -/
def Stays (W : List Addr) (h h' : Heap) : Prop := ∀ b o, b ∉ W → h.get? b = some o → h'.get? b = some o
theorem Stays.trans {W : List Addr} {h h1 h2 : Heap} (x : Stays W h h1) (y : Stays W h1 h2) : Stays W h h2 := fun b o nb e => y b o nb (x b o nb e)
theorem Stays.of {W : List Addr} {a : Addr} {h h' : Heap} (x : Heap.SameBut a h h') (m : a ∈ W) : Stays W h h' := fun b o nb e => x.extBut b o (fun z => nb (z ▸ m)) e
section
variable {prog : Program} {w : World} {A : Around} {s : Shared} {E : Value → Shared → Prop}
/-- is the owned tuple free? whatever the answer, only the second field may be written -/
theorem own_free {a : Addr} {c : String} {v0 : Value} {f : Bool} {rest : List Value} {Q : Bool → Shared → Prop} (rec : OwnRec s.heap a c v0 f rest) (tells : Tells v0)
    (k : ∀ b f' h', OwnRec h' a c v0 f' rest → Heap.SameBut a s.heap h' → Q b { s with heap := h' }) : wpAny (model prog w) A (Builtin.SmallTypes.ownedTupleIsFree (.ref a)) Q E s := by
  have asis : ∀ b, Q b s := fun b => k b f s.heap rec (Heap.SameBut.refl _ _)
  have look : ∀ {T : Addr} {Q' : Option Obj → Shared → Prop}, Q' (s.heap.get? T) s → wpAny (model prog w) A (loadIfAlive T) Q' E s := fun q _ _ _ => q
  simp only [Builtin.SmallTypes.ownedTupleIsFree]
  refine wpAny_bind (wpAny_field rec rfl (x := v0) rfl ?_)
  obtain rfl | ⟨T, rfl⟩ := tells
  · exact wpAny_pure (asis true)
  · simp only [rawInt, Int.toNat_natCast]
    apply wpAny_bind
    apply look
    rcases s.heap.get? T with _ | oT
    · exact wpAny_pure (asis true)
    · refine wpAny_bind (wpAny_field rec rfl (x := .bool f) rfl ?_)
      cases f
      · exact wpAny_bind (wpAny_setField_rec rec (by simp) fun h' rec' sb => wpAny_pure (k false true h' rec' sb))
      · exact wpAny_pure (asis false)
/-- a new tuple goes out -/
theorem own_out {a T : Addr} {c : String} {v0 : Value} {f : Bool} {rest : List Value} {Q : Unit → Shared → Prop} (ir : OwnRec s.heap a c v0 f rest) (k : ∀ h', OwnRec h' a c (rawInt T) false rest → Heap.SameBut a s.heap h' → Q () { s with heap := h' }) :
    wpAny (model prog w) A (Builtin.SmallTypes.ownedTupleHandOut (.ref a) (.ref T)) Q E s :=
  wpAny_bind (wpAny_setField_rec ir (by simp) fun _ ir1 sb1 => wpAny_setField_rec ir1 (by simp) fun h2 ir2 sb2 => k h2 ir2 ⟨sb2.1.trans sb1.1, fun b nb => (sb2.2 b nb).trans (sb1.2 b nb)⟩)
end
section
variable {prog : Program} {w : World} {A : Around} {E : Value → Shared → Prop} {s : Shared} {z TI TO i1 i2 : Addr} {fp1 fp2 : List Addr} {n1 n2 i : Nat} {P1 P2 : Nat → Value → Prop} {St1 St2 : Nat → Heap → Prop} {v0 : Value} {f : Bool}
/-- a zip over two sources, whatever has become of its tuple -/
structure ZipAt (h : Heap) (z TI TO i1 i2 : Addr) : Prop where
  it : ∃ v0 f, Tells v0 ∧ OwnRec h z "zip" v0 f [.bool false, .ref TI, .ref TO]
  src : IsTupOf2 h TI (.ref i1) (.ref i2)
  own : ∃ a b, IsTupOf2 h TO a b
theorem zip_more {Q : Value → Shared → Prop} (S : ZipSep2 z TI TO i1 i2 fp1 fp2) (D1 : Draws prog w A i1 fp1 n1 P1 St1) (D2 : Draws prog w A i2 fp2 n2 P2 St2) (at0 : ZipAt s.heap z TI TO i1 i2) (st1 : St1 i s.heap) (st2 : St2 i s.heap) (lt1 : i < n1) (lt2 : i < n2)
    (k : ∀ x y h' tk, P1 i x → P2 i y → ZipAt h' z TI TO i1 i2 → St1 (i + 1) h' → St2 (i + 1) h' → IsTupOf2 h' s.heap.objs.size x y → s.heap.objs.size < h'.objs.size → Stays [z, TO, i1, i2] s.heap h' → Q (.ref s.heap.objs.size) { s with heap := h', toks := tk }) :
    wpAny (model prog w) A (Builtin.«zip.__next__» ⟨[.ref z], []⟩) (fun r s' => ∃ v, r = .done (.ret v) ∧ Q v s') E s := by
  obtain ⟨⟨v0, f, tells, ir⟩, src, a, b, own⟩ := at0
  obtain ⟨hp, gs, dr, tk0, os⟩ := s
  dsimp only at k st1 st2 src ir own
  have free := fun {Q'} => own_free (prog := prog) (w := w) (A := A) (E := E) (s := ⟨hp, gs, dr, tk0, os⟩) (Q := Q') ir tells
  wp_walk using free
  rintro (_ | _) f' h0 ir0 sb0
  · simp only [← Array.forIn_toList, List.forIn_cons, List.forIn_nil, Bool.false_eq_true, if_false]
    have d1 := fun {Q'} {E'} => D1.item i ⟨h0, gs, dr, tk0, os⟩ Q' E' lt1 (D1.over st1 sb0 S.zf1)
    wp_walk using d1
    intro x h1 tk1 px go1 sb1
    dsimp only
    have d2 := fun {Q'} {E'} => D2.item i ⟨h1, gs, dr, tk1, os⟩ Q' E' lt2 (D2.over (D2.over st2 sb0 S.zf2) sb1 S.sep1_2)
    wp_walk using d2
    intro y h2 tk2 py go2 sb2
    dsimp only
    wp_walk
    have sz : h2.objs.size = hp.objs.size := sb2.1.trans (sb1.1.trans sb0.1)
    have far : Stays [z, TO, i1, i2] hp h2 := ((Stays.of sb0 (by simp)).trans (Stays.of sb1 (by simp))).trans (Stays.of sb2 (by simp))
    have ir2 : OwnRec h2 z "zip" v0 f' [.bool false, .ref TI, .ref TO] := sb2.extBut _ _ S.zi2 (sb1.extBut _ _ S.zi1 ir0)
    have own2 : IsTupOf2 h2 TO a b := sb2.extBut _ _ S.Ti2 (sb1.extBut _ _ S.Ti1 (sb0.extBut _ _ S.TOz own))
    have src2 : IsTupOf2 h2 TI (.ref i1) (.ref i2) := far _ _ (by simp [S.TIz, S.TITO, S.TIi1, S.TIi2]) src
    have up : ∀ {b o p}, h2.get? b = some o → (h2.push p).get? b = some o := Heap.get?_push_of_some _
    have last : IsTupOf2 (h2.push { cls := .type "tuple", data := .seq #[x, y] }) h2.objs.size x y := Heap.get?_push_size _ rfl
    refine ⟨_, rfl, ?_⟩
    rw [sz] at last ⊢
    exact k x y _ tk2 px py ⟨⟨v0, f', tells, up ir2⟩, up src2, a, b, up own2⟩ (D1.frame _ _ _ (D1.over go1 sb2 S.sep2_1) fun _ _ _ => up) (D2.frame _ _ _ go2 fun _ _ _ => up) last
      (by rw [Heap.size_push, sz]; exact Nat.lt_succ_self _) (far.trans fun _ _ _ => up)
  · simp only [if_true, List.zipIdx_cons, List.zipIdx_nil, List.forIn_cons, List.forIn_nil]
    have mark := fun {Q'} {E'} => wpAny_setField_rec (prog := prog) (w := w) (A := A) (E := E') (s := ⟨h0, gs, dr, tk0, os⟩) (k := 0) (x := .ellipsis) (Q := Q') ir0 (by simp)
    wp_walk using mark
    intro h1 ir1 sb1
    dsimp only at ir1 sb1 ⊢
    have d1 := fun {Q'} {E'} => D1.item i ⟨h1, gs, dr, tk0, os⟩ Q' E' lt1 (D1.over (D1.over st1 sb0 S.zf1) sb1 S.zf1)
    wp_walk using wpAny_onRaise, d1
    intro x h2 tk1 px go1 sb2
    dsimp only at sb2 ⊢
    have own2 : IsTupOf2 h2 TO a b := sb2.extBut _ _ S.Ti1 (sb1.extBut _ _ S.TOz (sb0.extBut _ _ S.TOz own))
    have put1 := fun {Q'} {E'} => updateSeq_IsTupOf2 (prog := prog) (w := w) (A := A) (E := E') (s := ⟨h2, gs, dr, tk1, os⟩) (x := x) (k := 0) (Q := Q') own2
    wp_walk using put1
    intro h3 own3 sb3
    replace own3 : IsTupOf2 h3 TO x b := own3
    dsimp only at sb3 ⊢
    have d2 := fun {Q'} {E'} => D2.item i ⟨h3, gs, dr, tk1, os⟩ Q' E' lt2 (D2.over (D2.over (D2.over (D2.over st2 sb0 S.zf2) sb1 S.zf2) sb2 S.sep1_2) sb3 S.Tf2)
    wp_walk using wpAny_onRaise, d2
    intro y h4 tk2 py go2 sb4
    dsimp only at sb4 ⊢
    have own4 : IsTupOf2 h4 TO x b := sb4.extBut _ _ S.Ti2 own3
    have put2 := fun {Q'} {E'} => updateSeq_IsTupOf2 (prog := prog) (w := w) (A := A) (E := E') (s := ⟨h4, gs, dr, tk2, os⟩) (x := y) (k := 0 + 1) (Q := Q') own4
    wp_walk using put2
    intro h5 own5 sb5
    replace own5 : IsTupOf2 h5 TO x y := own5
    dsimp only at sb5 ⊢
    have far : Stays [z, TO, i1, i2] hp h5 := ((((((Stays.of sb0 (by simp)).trans (Stays.of sb1 (by simp))).trans (Stays.of sb2 (by simp)))).trans (Stays.of sb3 (by simp))).trans (Stays.of sb4 (by simp))).trans (Stays.of sb5 (by simp))
    have sz : h5.objs.size = hp.objs.size := sb5.1.trans (sb4.1.trans (sb3.1.trans (sb2.1.trans (sb1.1.trans sb0.1))))
    have ir5 : OwnRec h5 z "zip" .ellipsis f' [.bool false, .ref TI, .ref TO] := sb5.extBut _ _ S.TOz.symm (sb4.extBut _ _ S.zi2 (sb3.extBut _ _ S.TOz.symm (sb2.extBut _ _ S.zi1 ir1)))
    have src5 : IsTupOf2 h5 TI (.ref i1) (.ref i2) := far _ _ (by simp [S.TIz, S.TITO, S.TIi1, S.TIi2]) src
    have up : ∀ {b o p}, h5.get? b = some o → (h5.push p).get? b = some o := Heap.get?_push_of_some _
    have give := fun {Q'} {E'} => own_out (prog := prog) (w := w) (A := A) (E := E') (s := ⟨h5.push { cls := .type "tuple", data := .seq #[x, y] }, gs, dr, tk2, os⟩) (T := h5.objs.size) (Q := Q') (up ir5)
    wp_walk using give
    intro h6 ir6 sb6
    dsimp only at sb6
    have z0 : z < h5.objs.size := Heap.lt_size ir5
    have six : ∀ {c o}, c ≠ z → h5.get? c = some o → h6.get? c = some o := fun n e => sb6.extBut _ _ n (up e)
    have far6 : Stays [z, TO, i1, i2] h5 h6 := fun c o n e => six (fun q => n (by simp [q])) e
    have last : IsTupOf2 h6 h5.objs.size x y := sb6.extBut _ _ (Nat.ne_of_gt z0) (Heap.get?_push_size _ rfl)
    apply wpAny_pure; refine ⟨_, rfl, ?_⟩
    have more : hp.objs.size < h6.objs.size := by rw [sb6.1, Heap.size_push, sz]; exact Nat.lt_succ_self _
    rw [sz] at last ⊢
    exact k x y h6 tk2 px py ⟨⟨_, _, .inr ⟨_, rfl⟩, ir6⟩, six S.TIz src5, x, y, six S.TOz own5⟩
      (D1.over (D1.frame _ _ _ (D1.over (D1.over (D1.over go1 sb3 S.Tf1) sb4 S.sep2_1) sb5 S.Tf1) fun _ _ _ => up) sb6 S.zf1) (D2.over (D2.frame _ _ _ (D2.over go2 sb5 S.Tf2) fun _ _ _ => up) sb6 S.zf2) last more (far.trans far6)
theorem Stays.ofE {W : List Addr} {a : Addr} {h h' : Heap} (x : Heap.ExtBut a h h') (m : a ∈ W) : Stays W h h' := fun b o nb e => x b o (fun z => nb (z ▸ m)) e
/-- the zip ends: the first or the second source has no more -/
theorem zip_last {Q : Fin → Shared → Prop} (S : ZipSep2 z TI TO i1 i2 fp1 fp2) (D1 : Draws prog w A i1 fp1 n1 P1 St1) (D2 : Draws prog w A i2 fp2 n2 P2 St2) (at0 : ZipAt s.heap z TI TO i1 i2) (st1 : St1 i s.heap) (st2 : St2 i s.heap) (over : i = n1 ∨ i < n1 ∧ i = n2)
    (k : ∀ h' tk x, Stays [z, TO, i1, i2] s.heap h' → (∃ o, h'.get? x = some o ∧ o.cls = .type "StopIteration") → E (.ref x) { s with heap := h', toks := tk }) :
    wpAny (model prog w) A (Builtin.«zip.__next__» { pos := [.ref z], kw := [] }) Q E s := by
  obtain ⟨⟨v0, f, tells, ir⟩, src, a, b, own⟩ := at0
  obtain ⟨hp, gs, dr, tk0, os⟩ := s
  dsimp only at k st1 st2 src ir own
  have free := fun {Q'} => own_free (prog := prog) (w := w) (A := A) (E := E) (s := ⟨hp, gs, dr, tk0, os⟩) (Q := Q') ir tells
  wp_walk using free
  rintro (_ | _) f' h0 ir0 sb0
  · simp only [← Array.forIn_toList, List.forIn_cons, List.forIn_nil, Bool.false_eq_true, if_false]
    obtain e1 | ⟨lt1, e2⟩ := over
    · have d1 := fun {Q'} {E'} => D1.done ⟨h0, gs, dr, tk0, os⟩ Q' E' (e1 ▸ D1.over st1 sb0 S.zf1)
      wp_walk using d1
      exact fun h1 x eb stop => k h1 tk0 x ((Stays.of sb0 (by simp)).trans (Stays.ofE eb (by simp))) stop
    · have d1 := fun {Q'} {E'} => D1.item i ⟨h0, gs, dr, tk0, os⟩ Q' E' lt1 (D1.over st1 sb0 S.zf1)
      wp_walk using d1
      intro x h1 tk1 px go1 sb1
      dsimp only at sb1 ⊢
      have d2 := fun {Q'} {E'} => D2.done ⟨h1, gs, dr, tk1, os⟩ Q' E' (e2 ▸ D2.over (D2.over st2 sb0 S.zf2) sb1 S.sep1_2)
      wp_walk using d2
      exact fun h2 x eb stop => k h2 tk1 x (((Stays.of sb0 (by simp)).trans (Stays.of sb1 (by simp))).trans (Stays.ofE eb (by simp))) stop
  · simp only [if_true, List.zipIdx_cons, List.zipIdx_nil, List.forIn_cons, List.forIn_nil]
    have mark := fun {Q'} {E'} => wpAny_setField_rec (prog := prog) (w := w) (A := A) (E := E') (s := ⟨h0, gs, dr, tk0, os⟩) (k := 0) (x := .ellipsis) (Q := Q') ir0 (by simp)
    wp_walk using mark
    intro h1 ir1 sb1
    dsimp only at ir1 sb1 ⊢
    have upto : Stays [z, TO, i1, i2] hp h1 := (Stays.of sb0 (by simp)).trans (Stays.of sb1 (by simp))
    /- what is done when a source stops -/
    have clean : ∀ {hq hr : Heap} {tk : Tok} {j x : Addr}, Stays [z, TO, i1, i2] hp hq → Heap.ExtBut j hq hr → j ∈ [z, TO, i1, i2] → OwnRec hr z "zip" .ellipsis f' [.bool false, .ref TI, .ref TO] → (∃ o, hr.get? x = some o ∧ o.cls = .type "StopIteration") →
        wpAny (model prog w) A (setField (.ref z) 0 .none) (fun _ s' => E (.ref x) s') E ⟨hr, gs, dr, tk, os⟩ := fun {hq hr tk j x} st eb m irq ⟨o, ox, oc⟩ =>
      wpAny_setField_rec irq (by simp) fun hs _ sbs => k hs tk x ((st.trans (Stays.ofE eb m)).trans (Stays.of sbs (by simp))) ⟨o, sbs.extBut _ _ (fun e => by
        have same := ox.symm.trans (e ▸ irq)
        cases same; simp at oc) ox, oc⟩
    obtain e1 | ⟨lt1, e2⟩ := over
    · have d1 := fun {Q'} {E'} => D1.done ⟨h1, gs, dr, tk0, os⟩ Q' E' (e1 ▸ D1.over (D1.over st1 sb0 S.zf1) sb1 S.zf1)
      wp_walk using wpAny_onRaise, d1
      exact fun h2 x eb stop => clean upto eb (by simp) (eb _ _ S.zi1 ir1) stop
    · have d1 := fun {Q'} {E'} => D1.item i ⟨h1, gs, dr, tk0, os⟩ Q' E' lt1 (D1.over (D1.over st1 sb0 S.zf1) sb1 S.zf1)
      wp_walk using wpAny_onRaise, d1
      intro x h2 tk1 px go1 sb2
      dsimp only at sb2 ⊢
      have own2 : IsTupOf2 h2 TO a b := sb2.extBut _ _ S.Ti1 (sb1.extBut _ _ S.TOz (sb0.extBut _ _ S.TOz own))
      have put1 := fun {Q'} {E'} => updateSeq_IsTupOf2 (prog := prog) (w := w) (A := A) (E := E') (s := ⟨h2, gs, dr, tk1, os⟩) (x := x) (k := 0) (Q := Q') own2
      wp_walk using put1
      intro h3 own3 sb3
      dsimp only at sb3 ⊢
      have d2 := fun {Q'} {E'} => D2.done ⟨h3, gs, dr, tk1, os⟩ Q' E' (e2 ▸ D2.over (D2.over (D2.over (D2.over st2 sb0 S.zf2) sb1 S.zf2) sb2 S.sep1_2) sb3 S.Tf2)
      wp_walk using wpAny_onRaise, d2
      exact fun h4 x eb stop => clean ((upto.trans (Stays.of sb2 (by simp))).trans (Stays.of sb3 (by simp))) eb (by simp) (eb _ _ S.zi2 (sb3.extBut _ _ S.TOz.symm (sb2.extBut _ _ S.zi1 ir1))) stop
end
end Mi
set_option Elab.async false
set_option linter.all false
set_option maxRecDepth 100000
set_option maxHeartbeats 4000000
namespace Mi
open PySem
section
variable {prog : Program} {w : World} {A : Around} {s : Shared} {E : Value → Shared → Prop}
/-- an enumerate, whatever has become of its tuple -/
def EnumAt (h : Heap) (e it : Addr) (i : Int) : Prop := ∃ v0 f old, Tells v0 ∧ OwnRec h e "enumerate" v0 f [.ref it, rawInt i, .none, old]
theorem EnumAt.kept {h h' : Heap} {e it : Addr} {i : Int} (x : EnumAt h e it i) (k : ∀ o, h.get? e = some o → h'.get? e = some o) : EnumAt h' e it i := x.imp fun _ y => y.imp fun _ z => z.imp fun _ q => ⟨q.1, k _ q.2⟩
theorem EnumAt.obj {h : Heap} {e it : Addr} {i : Int} : EnumAt h e it i → ∃ o, h.get? e = some o ∧ (o.cls = .type "enumerate" ∧ ∀ v, o.data ≠ .cell v)
  | ⟨_, _, _, _, q⟩ => ⟨_, q, rfl, nofun⟩
/-- enumerate's turn over whatever gives the items -/
theorem enum_more {e it : Addr} {i : Int} {G : Value → Heap → Prop} {Q : Value → Shared → Prop} (at0 : EnumAt s.heap e it i)
    (inner : ∀ {Q' E' : Value → Shared → Prop}, (∀ x h1 tk, G x h1 → (∀ o, s.heap.get? e = some o → h1.get? e = some o) → Q' x { s with heap := h1, toks := tk }) → wpAny (model prog w) A (Builtin.SmallTypes.nextOf (.ref it)) Q' E' s)
    (k : ∀ x h1 h' tk, G x h1 → EnumAt h' e it (i + 1) → IsTupOf2 h' h1.objs.size (.int i tk) x → h1.objs.size < h'.objs.size → Stays [e] h1 h' → Q (.ref h1.objs.size) { s with heap := h', toks := tk + 1 }) :
    wpAny (model prog w) A (Builtin.«enumerate.__next__» ⟨[.ref e], []⟩) (fun r s' => ∃ v, r = .done (.ret v) ∧ Q v s') E s := by
  obtain ⟨v0, f, old, tells, er⟩ := at0
  obtain ⟨hp, gs, dr, tk0, os⟩ := s
  dsimp only at k inner er
  refine wpAny_bind (wpAny_pure (wpAny_bind (wpAny_field er rfl (x := .ref it) rfl (wpAny_bind (inner fun x h1 tk g ke => ?_)))))
  dsimp only
  have er1 := ke _ er
  have set1 := fun {Q'} {E'} => wpAny_setField_rec (prog := prog) (w := w) (A := A) (E := E') (s := ⟨h1, gs, dr, tk + 1, os⟩) (k := 3) (x := rawInt (i + 1)) (Q := Q') er1 (by simp)
  wp_walk using set1
  intro h2 er2 sb2
  dsimp only at sb2 er2 ⊢
  have set2 := fun {Q'} {E'} => wpAny_setField_rec (prog := prog) (w := w) (A := A) (E := E') (s := ⟨h2, gs, dr, tk + 1, os⟩) (k := 4) (x := .none) (Q := Q') er2 (by simp)
  wp_walk using set2
  intro h3 er3 sb3
  dsimp only at sb3 er3 ⊢
  have sz3 : h3.objs.size = h1.objs.size := sb3.1.trans sb2.1
  have el : e < h1.objs.size := Heap.lt_size er1
  have up : ∀ {b o p}, h3.get? b = some o → (h3.push p).get? b = some o := Heap.get?_push_of_some _
  have free := fun {Q'} {E'} => own_free (prog := prog) (w := w) (A := A) (E := E') (s := ⟨h3.push { cls := .type "tuple", data := .seq #[.int i tk, x] }, gs, dr, tk + 1, os⟩) (Q := Q') (up (show OwnRec h3 e "enumerate" v0 f [.ref it, rawInt (i + 1), .none, old] from er3)) tells
  wp_walk using free
  have far : ∀ {h' : Heap}, Stays [e] (h3.push { cls := .type "tuple", data := .seq #[.int i tk, x] }) h' → Stays [e] h1 h' := fun st => ((Stays.of sb2 (by simp)).trans (Stays.of sb3 (by simp))).trans fun b o nb q => st b o nb (up q)
  have new : IsTupOf2 (h3.push { cls := .type "tuple", data := .seq #[.int i tk, x] }) h1.objs.size (.int i tk) x := by rw [← sz3]; exact Heap.get?_push_size _ rfl
  have grown : ∀ {h' : Heap}, h'.objs.size = (h3.push { cls := .type "tuple", data := .seq #[.int i tk, x] }).objs.size → h1.objs.size < h'.objs.size := fun q => by rw [q, Heap.size_push, sz3]; exact Nat.lt_succ_self _
  rintro (_ | _) f' h4 er4 sb4
  · wp_walk
    refine ⟨_, rfl, ?_⟩
    rw [sz3]
    exact k x h1 h4 tk g ⟨v0, f', old, tells, er4⟩ (sb4.extBut _ _ (Nat.ne_of_gt el) new) (grown sb4.1) (far (Stays.of sb4 (by simp)))
  · have set5 := fun {Q'} {E'} => wpAny_setField_rec (prog := prog) (w := w) (A := A) (E := E') (s := ⟨h4, gs, dr, tk + 1, os⟩) (k := 5) (x := x) (Q := Q') er4 (by simp)
    wp_walk using set5
    intro h5 er5 sb5
    dsimp only at sb5 er5 ⊢
    have give := fun {Q'} {E'} => own_out (prog := prog) (w := w) (A := A) (E := E') (s := ⟨h5, gs, dr, tk + 1, os⟩) (T := h3.objs.size) (Q := Q') (show OwnRec h5 e "enumerate" v0 f' [.ref it, rawInt (i + 1), .none, x] from er5)
    wp_walk using give
    intro h6 er6 sb6
    dsimp only at sb6 er6 ⊢
    wp_walk
    refine ⟨_, rfl, ?_⟩
    rw [sz3]
    exact k x h1 h6 tk g ⟨_, _, x, .inr ⟨_, rfl⟩, er6⟩ (sb6.extBut _ _ (Nat.ne_of_gt el) (sb5.extBut _ _ (Nat.ne_of_gt el) (sb4.extBut _ _ (Nat.ne_of_gt el) new))) (grown (sb6.1.trans (sb5.1.trans sb4.1))) (far (((Stays.of sb4 (by simp)).trans (Stays.of sb5 (by simp))).trans (Stays.of sb6 (by simp))))
theorem enum_last {e it : Addr} {i : Int} {Q : PySem.Fin → Shared → Prop} (at0 : EnumAt s.heap e it i) (inner : ∀ {Q' : Value → Shared → Prop}, wpAny (model prog w) A (Builtin.SmallTypes.nextOf (.ref it)) Q' E s) :
    wpAny (model prog w) A (Builtin.«enumerate.__next__» { pos := [.ref e], kw := [] }) Q E s := by
  obtain ⟨_, _, _, _, er⟩ := at0
  exact wpAny_bind (wpAny_pure (wpAny_bind (wpAny_field er rfl (x := .ref it) rfl (wpAny_bind inner))))
/-- the step ahead of the store: at most the owned tuple is forgotten -/
theorem enum_letgo {e it T : Addr} {i : Int} {elts : List Expr} {kk : Nat} {pos : Pos} {Q : Unit → Shared → Prop} (at0 : EnumAt s.heap e it i) (k : ∀ h', EnumAt h' e it i → Heap.SameBut e s.heap h' → Q () { s with heap := h' }) :
    wpAny (model prog w) A (letOwnedTupleGo (.Tuple elts kk pos) (.ref e) (.ref T)) Q E s := by
  obtain ⟨v0, f, old, tells, er⟩ := at0
  simp only [letOwnedTupleGo]
  refine wpAny_bind (wpAny_load er ?_)
  dsimp only
  refine wpAny_ite ?_
  split
  · refine wpAny_bind (wpAny_rule (show wpAny _ _ (setField (.ref e) 0 .none) Q E s from ?_))
    exact wpAny_setField_rec er (by simp) fun h' er' sb => k h' ⟨.none, f, old, .inl rfl, er'⟩ sb
  · exact wpAny_pure (k s.heap ⟨v0, f, old, tells, er⟩ (Heap.SameBut.refl _ _))
/-- next by its slot: an item, or a StopIteration -/
theorem next_by {T id : String} {b : Builtin} {a : Addr} {Q : Option Value → Shared → Prop} (ty : s.TypeIs (.ref a) T) (sl : Slot T "__next__" id) (en : entryFor table id = some b) (ar : argsOk id ⟨[.ref a], []⟩)
    (h : wpAny (model prog w) A.in1 (b ⟨[.ref a], []⟩) (fun r s' => ∃ v, r = .done (.ret v) ∧ Q (some v) s') (fun x s' => (∃ p o, x = .ref p ∧ s'.heap.get? p = some o ∧ o.cls = .type "StopIteration") ∧ Q none s') s) :
    wpAny (model prog w) A (pyNext (Value.ref a)) Q E s := by
  simp only [pyNext]
  refine wpAny_bind (wpAny_attempt (wpAny_callSpecial?_slot ty sl (wpAny_mono (wpAny_call_entry sl ty en h ar) (fun v s' q => wpAny_pure q) ?_)))
  rintro _ s' ⟨⟨p, o, rfl, ho, hc⟩, q⟩
  exact wpAny_bind (wpAny_isInstance ⟨o, ho, hc⟩ isSubtype_stop (wpAny_pure q))
theorem nextOf_by {T id : String} {b : Builtin} {a : Addr} {Q : Value → Shared → Prop} (ty : s.TypeIs (.ref a) T) (sl : Slot T "__next__" id) (en : entryFor table id = some b) (ar : argsOk id ⟨[.ref a], []⟩)
    (h : wpAny (model prog w) A.in1 (b ⟨[.ref a], []⟩) (fun r s' => ∃ v, r = .done (.ret v) ∧ Q v s') E s) : wpAny (model prog w) A (Builtin.SmallTypes.nextOf (.ref a)) Q E s :=
  wpAny_bind (wpAny_callSpecial?_slot ty sl (wpAny_mono (wpAny_call_entry sl ty en h ar) (fun _ _ q => wpAny_pure q) fun _ _ q => q))
theorem enum_self {e it : Addr} {i : Int} {Q : Value → Shared → Prop} (at0 : EnumAt s.heap e it i) (q : Q (.ref e) s) : wpAny (model prog w) A (pyIter (.ref e)) Q E s := by
  obtain ⟨o, ho, hc, _⟩ := at0.obj
  have ty : s.TypeIs (.ref e) "enumerate" := ⟨o, ho, hc⟩
  exact wpAny_pyIter_slot ty F.slot_enumerate_iter (wpAny_call_entry F.slot_enumerate_iter ty F.entry_enumerate_iter (wpAny_bind (wpAny_pure (wpAny_pure ⟨_, rfl, _, _, ty, F.slot_enumerate_next.lookup, q⟩))) (F.args_enumerate_iter_1 _))
end
open PySem.Spec PyProof.Rows L2
def ItEz (K : PySem.W.Frag) (t1 t2 : Bool) (a b : Addr) : It :=
  ⟨fun i H => ∃ (xs ys : List V) (x y : V), SqK K t1 H a xs ∧ SqK K t2 H b ys ∧ xs[i]? = some x ∧ ys[i]? = some y,
    fun i H v H' => ∃ T U x y, v = .ref U ∧ H T = none ∧ H U = none ∧ T ≠ U ∧ H' = upd (upd H T (.tup [x, y])) U (.tup [.int (i : Nat), .ref T]) ∧ (∀ xs, SqK K t1 H a xs → xs[i]? = some x) ∧ ∀ ys, SqK K t2 H b ys → ys[i]? = some y,
    fun i H => ∃ xs ys : List V, SqK K t1 H a xs ∧ SqK K t2 H b ys ∧ i ≤ xs.length ∧ i ≤ ys.length ∧ (i = xs.length ∨ i = ys.length)⟩
/-- the enumerate's cell lies apart -/
def Apart (e : Addr) (W : List Addr) : Prop := ∀ b ∈ W, b ≠ e
def EzAt (t1 t2 : Bool) (a b e z TI TO i1 i2 : Addr) (i : Nat) (h : Heap) : Prop := EnumAt h e z (i : Nat) ∧ ZipAt h z TI TO i1 i2 ∧ ItK t1 h i1 a i ∧ ItK t2 h i2 b i
theorem ZipAt.kept {h h' : Heap} {z TI TO i1 i2 : Addr} (x : ZipAt h z TI TO i1 i2) (k : ∀ b ∈ [z, TI, TO], ∀ o, h.get? b = some o → h'.get? b = some o) : ZipAt h' z TI TO i1 i2 := by
  simp only [List.mem_cons, List.not_mem_nil, or_false, forall_eq_or_imp, forall_eq] at k
  obtain ⟨⟨v0, f, tl, ir⟩, src, p, q, own⟩ := x
  exact ⟨⟨v0, f, tl, k.1 _ ir⟩, k.2.1 _ src, p, q, k.2.2 _ own⟩
section
variable {P : Program} {w : World} {K : PySem.W.Frag} {elts : List Expr} {kk : Nat} {tpos : Pos} {t1 t2 : Bool} {a b e z TI TO i1 i2 : Addr}
theorem EzAt.cells {i : Nat} {h : Heap} (x : EzAt t1 t2 a b e z TI TO i1 i2 i h) : ∀ d ∈ [e, z, TI, TO, i1, i2], ∃ o, h.get? d = some o ∧ ∀ v, o.data ≠ .cell v := by
  obtain ⟨en, ⟨⟨_, _, _, ir⟩, src, _, _, own⟩, o1, o2⟩ := x
  intro d hd
  simp only [List.mem_cons, List.not_mem_nil, or_false] at hd
  rcases hd with rfl | rfl | rfl | rfl | rfl | rfl
  · exact en.obj.imp fun _ q => ⟨q.1, q.2.2⟩
  · exact ⟨_, ir, nofun⟩
  · exact ⟨_, src, nofun⟩
  · exact ⟨_, own, nofun⟩
  · exact itK_obj o1
  · exact itK_obj o2
theorem EzAt.stay {i : Nat} {h h' : Heap} (x : EzAt t1 t2 a b e z TI TO i1 i2 i h) (k : ∀ d ∈ [e, z, TI, TO, i1, i2], ∀ o, h.get? d = some o → h'.get? d = some o) : EzAt t1 t2 a b e z TI TO i1 i2 i h' :=
  ⟨x.1.kept (k e (by simp)), x.2.1.kept fun d m => k d (by simp only [List.mem_cons, List.not_mem_nil, or_false] at m ⊢; rcases m with m | m | m <;> simp [m]), itK_at x.2.2.1 (k i1 (by simp)), itK_at x.2.2.2 (k i2 (by simp))⟩
theorem ez_item (D : ZipSep2 z TI TO i1 i2 [i1, a] [i2, b]) (ap : Apart e [z, TI, TO, i1, i2]) (na : a ≠ i1) (nb : b ≠ i2) {X : Cx} {pins : List (Addr × Obj)} {s : Shared} {σ : L2.St} {H : Hp} {E : Value → Shared → Prop} {i : Nat} (hh : X.A.in1.handled = none)
    (inv : Inv X pins σ H s) (fresh : ∀ d ∈ [e, z, TI, TO, i1, i2], FpOk X pins H d) (now : EzAt t1 t2 a b e z TI TO i1 i2 i s.heap) (go : (ItEz X.K t1 t2 a b).go i H) :
    wpAny (model X.prog X.w) X.A (pyNext (.ref e)) (fun r s1 => ∃ u, r = some u ∧ wpAny (model X.prog X.w) X.A (letOwnedTupleGo (.Tuple elts kk tpos) (.ref e) u) (fun _ s2 => ∃ x H', Inv X pins σ H' s2 ∧ RelV x u ∧ (ItEz X.K t1 t2 a b).yld i H x H' ∧
      EzAt t1 t2 a b e z TI TO i1 i2 (i + 1) s2.heap ∧ ∀ d ∈ [e, z, TI, TO, i1, i2], H' d = none) E s1) E s := by
  have small : ∀ d ∈ [e, z, TI, TO, i1, i2], d < s.heap.objs.size := fun d m => (now.cells d m).elim fun o q => Heap.lt_size q.1
  have fresh2 : ∀ d ∈ [e, z, TI, TO, i1, i2], FpOk X pins H d ∧ d < s.heap.objs.size := fun d m => ⟨fresh d m, small d m⟩
  obtain ⟨en, za, o1, o2⟩ := now
  obtain ⟨xs, ys, x, y, qx, qy, ex, ey⟩ := go
  obtain ⟨us, ru, pu, _⟩ := seqK inv qx
  obtain ⟨vs, rv, pv, _⟩ := seqK inv qy
  obtain ⟨oe, he, ce, _⟩ := en.obj
  obtain ⟨_, _, _, zr⟩ := za.it
  have ne := fun c m => ap c m
  simp only [List.mem_cons, List.not_mem_nil, or_false, forall_eq_or_imp, forall_eq] at ne
  refine next_by ⟨oe, he, ce⟩ F.slot_enumerate_next F.entry_enumerate_next (F.args_enumerate_next_1 _)
    (enum_more (G := fun v h1 => v = .ref s.heap.objs.size ∧ ∃ u u', us.toArray[i]? = some u ∧ vs.toArray[i]? = some u' ∧ ZipAt h1 z TI TO i1 i2 ∧ ItK t1 h1 i1 a (i + 1) ∧ ItK t2 h1 i2 b (i + 1) ∧ IsTupOf2 h1 s.heap.objs.size u u' ∧ s.heap.objs.size < h1.objs.size ∧ Stays [z, TO, i1, i2] s.heap h1)
      en (fun {Q' E'} cont => nextOf_by (b := Builtin.«zip.__next__») ⟨_, zr, rfl⟩ F.slot_zip_next F.entry_zip_next (F.args_zip_next_1 _)
        (zip_more D (drawsK (prog := X.prog) (w := X.w) (A := X.A.in1.in1) hh i1 a na t1 us.toArray) (drawsK (prog := X.prog) (w := X.w) (A := X.A.in1.in1) hh i2 b nb t2 vs.toArray) za ⟨o1, pu⟩ ⟨o2, pv⟩ (lenT ru ex) (lenT rv ey)
          fun u u' h1 tk eu eu' za1 p1 p2 tup big st => cont _ h1 tk ⟨rfl, u, u', eu, eu', za1, p1.1, p2.1, tup, big, st⟩ fun o q => st e o (by simp [Ne.symm ne.1, Ne.symm ne.2.2.1, Ne.symm ne.2.2.2.1, Ne.symm ne.2.2.2.2]) q)) ?_)
  rintro _ h1 h' tk ⟨rfl, u, u', eu, eu', za1, p1, p2, tup1, big1, st1⟩ en' tup2 big2 st2
  refine ⟨_, rfl, enum_letgo en' fun h'' en'' sb => ?_⟩
  have st3 : Stays [e] h1 h'' := st2.trans (Stays.of sb (by simp))
  have tup3 : IsTupOf2 h'' h1.objs.size (.int i tk) (.ref s.heap.objs.size) := sb.extBut _ _ (Nat.ne_of_gt (Nat.lt_trans (small e (by simp)) big1)) tup2
  obtain ⟨J1, J2, J3⟩ := one_new (tk := tk) (us := [u, u']) (fp := [e, z, TI, TO, i1, i2]) (wr := [z, TO, i1, i2]) (h' := h1) inv fresh2 (by simp) st1 (Nat.le_refl _) (show h1.IsTuple _ _ from ⟨_, tup1, rfl, _, rfl⟩) (.cons (itemT ru ex eu) (.cons (itemT rv ey eu') .nil)) (show 2 ≤ sizeLine by decide)
  obtain ⟨L1, L2, L3⟩ := one_new (tk := tk + 1) (us := [.int i tk, .ref s.heap.objs.size]) (fp := [e, z, TI, TO, i1, i2]) (wr := [e]) (h' := h'') J1 (fun d m => ⟨⟨J3 d m, (fresh d m).2⟩, Nat.lt_trans (small d m) big1⟩) (by simp) st3 (Nat.le_refl _)
    (show h''.IsTuple _ _ from ⟨_, tup3, rfl, _, rfl⟩) (.cons (show RelV (.int (i : Nat)) (.int i tk) from ⟨_, rfl⟩) (.cons (show RelV (.ref s.heap.objs.size) (.ref s.heap.objs.size) from rfl) .nil)) (show 2 ≤ sizeLine by decide)
  have off : s.heap.objs.size ≠ h1.objs.size := Nat.ne_of_lt big1
  refine ⟨.ref h1.objs.size, _, L1, rfl, ⟨s.heap.objs.size, h1.objs.size, x, y, rfl, J2, ?_, off, rfl, fun l q => injK inv q qx ▸ ex, fun l q => injK inv q qy ▸ ey⟩, ⟨?_, za1.kept ?_, itK_at p1 fun o q => st3 _ o ?_ q, itK_at p2 fun o q => st3 _ o ?_ q⟩, L3⟩
  · have z2 : upd H s.heap.objs.size (.tup [x, y]) h1.objs.size = none := L2
    rwa [upd_ne off.symm] at z2
  · have en2 : EnumAt h'' e z ((i : Int) + 1) := en''
    rwa [← Int.natCast_succ] at en2
  · intro d m o q
    refine st3 d o ?_ q
    simp only [List.mem_cons, List.not_mem_nil, or_false] at m ⊢
    rcases m with rfl | rfl | rfl
    · exact ne.1
    · exact ne.2.1
    · exact ne.2.2.1
  · simpa using ne.2.2.2.1
  · simpa using ne.2.2.2.2
theorem turn_ez (D : ZipSep2 z TI TO i1 i2 [i1, a] [i2, b]) (ap : Apart e [z, TI, TO, i1, i2]) (na : a ≠ i1) (nb : b ≠ i2) : Turn P w K (.Tuple elts kk tpos) (ItEz K t1 t2 a b) [e, z, TI, TO, i1, i2] e (EzAt t1 t2 a b e z TI TO i1 i2) := by
  refine ⟨List.mem_cons_self, fun i h x => x.cells, fun i h h' x k => x.stay k, ?_, ?_, fun A i s Q E x q => enum_self x.1 q⟩
  · rintro X rfl rfl rfl calm i pins s σ H E inv fresh now go
    exact ez_item D ap na nb (show X.A.in1.handled = none from inv.ok.hd calm) inv fresh now go
  · rintro X rfl rfl rfl calm i pins s σ H E inv fresh ⟨en, za, o1, o2⟩ ⟨xs, ys, qx, qy, l1, l2, over⟩
    have hh : X.A.in1.handled = none := inv.ok.hd calm
    obtain ⟨us, ru, pu, _⟩ := seqK inv qx
    obtain ⟨vs, rv, pv, _⟩ := seqK inv qy
    obtain ⟨oe, he, ce, _⟩ := en.obj
    obtain ⟨_, _, _, zr⟩ := za.it
    have m1 : xs.length = us.toArray.size := by simp [ru.length]
    have m2 : ys.length = vs.toArray.size := by simp [rv.length]
    refine next_by ⟨oe, he, ce⟩ F.slot_enumerate_next F.entry_enumerate_next (F.args_enumerate_next_1 _) (enum_last en fun {Q'} => nextOf_by (b := Builtin.«zip.__next__») ⟨_, zr, rfl⟩ F.slot_zip_next F.entry_zip_next (F.args_zip_next_1 _)
      (zip_last D (drawsK (prog := X.prog) (w := X.w) (A := X.A.in1.in1) hh i1 a na t1 us.toArray) (drawsK (prog := X.prog) (w := X.w) (A := X.A.in1.in1) hh i2 b nb t2 vs.toArray) za ⟨o1, pu⟩ ⟨o2, pv⟩ (by omega) fun h' tk p st ⟨o, ho, hc⟩ => ⟨⟨p, o, rfl, ho, hc⟩, rfl, ?_⟩))
    exact inv.turnedL (t' := tk) (ch := [e, z, TI, TO, i1, i2]) (fun d o nd => st d o fun m => nd (by simp only [List.mem_cons, List.not_mem_nil, or_false] at m ⊢; rcases m with m | m | m | m <;> simp [m])) fresh
end
section
variable {X : Cx} {W : WX} {tg e e2 : Expr} {mas : MA} {p p2 pos pos2 tpos : Pos} {elts : List Expr} {kk : Nat}
theorem pi_ez {ta : TA} (hge : Gl X "enumerate") (hme : X.mg "enumerate" = none) (hg : Gl X "zip") (hm : X.mg "zip" = none) (ha : PA X [e, e2] ta) (hs : starEach (e :: [e2]) X.env = (false, eval e X.env) :: starEach [e2] X.env) (hpl : (backTo pos2 (starEach [e2] X.env)).any (·.1) = false)
    (na : starEach [.Call (.Name "zip" p2) [e, e2] [] pos2] X.env = (false, eval (.Call (.Name "zip" p2) [e, e2] [] pos2) X.env) :: starEach [] X.env) :
    PI X (.Tuple elts kk tpos) (.Call (.Name "enumerate" p) [.Call (.Name "zip" p2) [e, e2] [] pos2] [] pos) (fun σ H Rr => ta σ H fun vs H1 => ∃ a b t1 t2 xs ys, vs = [.ref a, .ref b] ∧ SqK X.K t1 H1 a xs ∧ SqK X.K t2 H1 b ys ∧ Rr (ItEz X.K t1 t2 a b) H1) where
  run pins s σ H Rr inv h := by
    refine Call_ (ld_blt inv hge hme boot_enumerate (callWith_type1 (args_cons (Call_ (ld_blt inv hg hm PyProof.Rows.boot_zip (callWith_type1 (thn (ha.run pos2 pins s σ H _ inv h) ?_) hs hpl))) na) na rfl))
    rintro us s1 ⟨_, H1, inv1, r, a, b, t1, t2, xs, ys, rfl, qx, qy, q⟩
    cases refs_of (as := [a, b]) r
    obtain ⟨ua, _, pa, la⟩ := seqK inv1 qx
    obtain ⟨ub, _, pb, lb⟩ := seqK inv1 qy
    refine zip_begins2 (beginsK a ua.toArray t1) (beginsK b ub.toArray t2) pa pb fun h' oz oI oO o1 o2 sz kept => args_nil ?_
    have iz : IterTo (.ref (s1.heap.objs.size + 4)) (.ref (s1.heap.objs.size + 4)) h' h' := fun prog w A E s' Q es q' => wpAny_pyIter_zip (s := s') (es ▸ oz) (by subst es; exact q')
    refine enum_call (s := { s1 with heap := h' }) iz ?_
    have up : ∀ {c o}, h'.get? c = some o → (h'.push (enumOb (.ref (s1.heap.objs.size + 4)))).get? c = some o := Heap.get?_push_of_some _
    have oe : IsEnum (h'.push (enumOb (.ref (s1.heap.objs.size + 4)))) h'.objs.size (s1.heap.objs.size + 4) 0 .none := Heap.get?_push_size _ rfl
    rw [sz] at oe ⊢
    have sep := zip_sep2 (N := s1.heap.objs.size) (fp1 := [a]) (fp2 := [b]) (by simpa using la) (by simpa using lb)
    refine wpAny_pyIter_enum oe ⟨_, _, _, _, H1, rfl, inv1.kept (t' := s1.toks) fun c o q => up (kept c o q), turn_ez sep (e := s1.heap.objs.size + 5) ?_ (Nat.ne_of_lt la) (Nat.ne_of_lt (Nat.lt_succ_of_lt lb)),
      ⟨⟨.none, false, .none, .inl rfl, oe⟩, ⟨⟨.none, false, .inl rfl, up oz⟩, up oI, _, _, up oO⟩, itK_new (up o1), itK_new (up o2)⟩, all_new inv1 (by simp [Nat.ble_eq]), q⟩
    intro c m z
    simp only [List.mem_cons, List.not_mem_nil, or_false] at m
    rcases m with rfl | rfl | rfl | rfl | rfl <;> (have zn : (_ : Nat) = (_ : Nat) := z; omega)
theorem src_ez {C0 : RC} {d e : MV} {xs ys : List MV} {a b : Addr} (hK : C0.K = X.K) (rv : RepV C0 d (.ref a)) (rv2 : RepV C0 e (.ref b)) : SrcW X (.ezp d xs e ys) (ItEz X.K (isT d) (isT e) a b) C0 := fun C S x r ok => by
  have ok' : seqOf S d = some xs ∧ seqOf S e = some ys := by simpa [Src.ok] using ok
  obtain ⟨a', vs, e1, sq, t⟩ := seqK_of r (rv.trn x) ok'.1
  obtain ⟨b', us, e2, sq2, t2⟩ := seqK_of r (rv2.trn x) ok'.2
  cases e1
  cases e2
  rw [x.K, hK] at sq sq2
  have l := t.length
  have l2 := t2.length
  have hl : (Src.ezp d xs e ys).items.length = min xs.length ys.length := by
    show (enmI 0 (zipI xs ys)).length = _
    rw [enmI_len, zipI_len]
  rw [hl]
  refine ⟨fun i hi => ⟨vs, us, vs[i]'(by omega), us[i]'(by omega), sq, sq2, by rw [List.getElem?_eq_getElem], by rw [List.getElem?_eq_getElem]⟩, ⟨vs, us, sq, sq2, by omega, by omega, by omega⟩, fun i z H' hi y => ?_⟩
  obtain ⟨T, U, x1, y1, rfl, hT, hU, hTU, rfl, f1, f2⟩ := y
  obtain ⟨d1, h1, h2⟩ := t.get' (f1 vs sq)
  obtain ⟨d2, h3, h4⟩ := t2.get' (f2 us sq2)
  have g1 : Grow C (C.put T (.tup [x1, y1])) := Grow.put hT
  have r1 := r.put (o := .tup [x1, y1]) hT
  have hU1 : (C.put T (.tup [x1, y1])).H U = none := by
    show upd C.H T _ U = none
    rw [upd_ne (Ne.symm hTU)]; exact hU
  have tT : RepV (C.put T (.tup [x1, y1])) (.tup [d1, d2]) (.ref T) := repTup put_same (.cons (h2.grow g1 r) (.cons (h4.grow g1 r) .nil))
  have hi0 := enmI_get (k := 0) (zipI_get h1 h3)
  rw [Nat.zero_add] at hi0
  exact ⟨(C.put T (.tup [x1, y1])).put U (.tup [.int (i : Nat), .ref T]), _, rfl, g1.trans (Grow.put hU1), r1.put hU1, hi0, repTup put_same (.cons (repI _) (.cons (tT.grow (Grow.put hU1) r1) .nil))⟩
def ezOf : List MV → Sto → R Src
  | [d, e], S => match seqOf S d, seqOf S e with
    | some xs, some ys => .ok (.ezp d xs e ys) S
    | _, _ => .stk
  | _, _ => .stk
def mEzip (m : MA) : Ev → Sto → R Src := fun ρ S => (m ρ S).bind ezOf
theorem si_ezip (hge : Gl X "enumerate") (hme : X.mg "enumerate" = none) (hg : Gl X "zip") (hm : X.mg "zip" = none) (ha : SA X W [e, e2] mas)
    (hs : starEach [e, e2] X.env = (false, eval e X.env) :: starEach [e2] X.env := by rfl) (hpl : (backTo pos2 (starEach [e2] X.env)).any (·.1) = false := by rfl)
    (na : starEach [.Call (.Name "zip" p2) [e, e2] [] pos2] X.env = (false, eval (.Call (.Name "zip" p2) [e, e2] [] pos2) X.env) :: starEach [] X.env := by rfl) :
    SI X W (.Tuple elts kk tpos) (.Call (.Name "enumerate" p) [.Call (.Name "zip" p2) [e, e2] [] pos2] [] pos) (mEzip mas) :=
  (pi_ez hge hme hg hm ha hs hpl na).imp fun σ H Q ⟨C, ρ, S, e, s, q⟩ => by
    subst e
    refine tA.bind s q fun ds S1 C1 vs s1 g1 r1 q1 => ?_
    unfold ezOf at q1
    split at q1
    · split at q1
      · rename_i e1 e2
        obtain ⟨v, u, rfl, rv, ru⟩ := two_of r1
        obtain ⟨a, vs, rfl, sq, t⟩ := seqK_of s1.rs rv e1
        obtain ⟨b, us, rfl, sq2, t2⟩ := seqK_of s1.rs ru e2
        rw [s1.K] at sq sq2
        exact ⟨a, b, _, _, vs, us, rfl, sq, sq2, q1.now s1.rs _ (src_ez s1.K rv ru)⟩
      · exact q1.elim
    · exact q1.elim
end
end Mi
set_option Elab.async false
set_option linter.all false
set_option maxRecDepth 100000
set_option maxHeartbeats 4000000
namespace Mi
open PySem PySem.Spec PyProof.Rows L2
end Mi
set_option Elab.async false
set_option linter.all false
set_option maxRecDepth 100000
set_option maxHeartbeats 4000000
namespace Mi
open PySem PySem.Spec PyProof.Rows L2
/-- what stands behind so many items -/
structure EnH (H0 : Hp) (xs : List V) (L : Addr) (i : Nat) (Ts : List Addr) (H : Hp) : Prop where
  keep : ∀ b o, H0 b = some o → H b = some o
  len : Ts.length = i
  at' : H L = some (.lst (Ts.map V.ref))
  tup : ∀ (j : Nat) (x : V) (T : Addr), xs[j]? = some x → Ts[j]? = some T → H T = some (.tup [.int (j : Nat), x])
theorem EnH.sq {H0 H : Hp} {xs ys : List V} {L a : Addr} {i : Nat} {Ts : List Addr} {K : PySem.W.Frag} (en : EnH H0 xs L i Ts H) : ∀ {t : Bool}, SqK K t H0 a ys → SqK K t H a ys
  | true, .inl (.inl q) => .inl (.inl (en.keep _ _ q))
  | true, .inl (.inr ⟨o, q⟩) => .inl (.inr ⟨o, en.keep _ _ q⟩)
  | true, .inr q => .inr q
  | false, .inl (.inl q) => .inl (.inl (en.keep _ _ q))
  | false, .inl (.inr ⟨o, q⟩) => .inl (.inr ⟨o, en.keep _ _ q⟩)
  | false, .inr q => .inr q
section
variable {X : Cx} {W : WX} {x : Expr} {p p2 pos pos2 : Pos} {mas : MA}
def lstE : List MV → Sto → R MV
  | [d], S => match seqOf S d with
    | some xs => if xs.length ≤ sizeLine then .ok (.lst (enmI 0 xs)) S else .stk
    | none => .stk
  | _, _ => .stk
end
end Mi
set_option Elab.async false
set_option linter.all false
set_option maxRecDepth 100000
set_option maxHeartbeats 4000000
namespace Mi
open PySem PySem.Spec PyProof.Rows L2
def truW (d : MV) (S : Sto) : R Bool := match d with
  | .bl b => .ok b S
  | .non => .ok false S
  | .int i => .ok (i != 0) S
  | .str x => if x.length ≤ sizeLine then .ok ((x.length : Int) != 0) S else .stk
  | d => (match seqOf S d with
    | some xs => .ok (!xs.isEmpty) S
    | none => (match d with
      | .ref n => (match S[n]? with
        | some (.dct ks _) => .ok (!ks.isEmpty) S
        | _ => .stk)
      | _ => .stk))
def mTruth (a : ME) : MT := fun ρ S => (a ρ S).bind truW
theorem isE_of {C : RC} {xs : List MV} {vs : List V} (t : RepVs C xs vs) : (!xs.isEmpty) = !vs.isEmpty := by
  cases xs with
  | nil => rw [t.nil_inv]; rfl
  | cons d ds => obtain ⟨v, vr, rfl, _, _⟩ := t.cons_inv; rfl
theorem truW_rep {C : RC} {S S' : Sto} {d : MV} {v : V} {b : Bool} (r : RepS C S) (h : RepV C d v) (e : truW d S = .ok b S') : TruV C.K v C.H b ∧ S' = S := by
  have seqs : ∀ d xs, RepV C d v → seqOf S d = some xs → TruV C.K v C.H (!xs.isEmpty) := fun d xs h e => by
    obtain ⟨a, vs, rfl, sq, t⟩ := seqOf_rep r h e
    rcases sq with sq | sq
    · exact .inl ⟨vs, sq, isE_of t⟩
    · exact .inr (.inl ⟨vs, sq, isE_of t⟩)
  have rest : ∀ d : MV, RepV C d v → (match seqOf S d with
    | some xs => R.ok (!xs.isEmpty) S
    | none => (match d with
      | .ref n => (match S[n]? with
        | some (.dct ks _) => R.ok (!ks.isEmpty) S
        | _ => R.stk)
      | _ => R.stk)) = .ok b S' → TruV C.K v C.H b ∧ S' = S := fun d h e => by
    cases q : seqOf S d with
    | some xs => rw [q] at e; cases e; exact ⟨seqs d xs h q, rfl⟩
    | none =>
      rw [q] at e
      cases d with
      | ref n =>
        dsimp only at e
        cases q2 : S[n]? with
        | none => rw [q2] at e; cases e
        | some o =>
          rw [q2] at e
          cases o with
          | dct ks ds =>
            cases e
            rw [RepV] at h
            obtain ⟨a, e1, e2⟩ := h
            obtain ⟨vs, h1, l, nd, h2⟩ := r.ob n _ a q2 e2
            subst e1
            refine ⟨.inr (.inr ⟨_, h1, ?_⟩), rfl⟩
            cases ks with
            | nil => rfl
            | cons k ks => cases vs with
              | nil => simp at l
              | cons v vs => rfl
          | _ => cases e
      | _ => cases e
  cases d with
  | bl x => cases e; rw [RepV] at h; subst h; exact ⟨rfl, rfl⟩
  | non => cases e; rw [RepV] at h; subst h; exact ⟨rfl, rfl⟩
  | int i => cases e; rw [RepV] at h; subst h; exact ⟨rfl, rfl⟩
  | str x =>
    rw [RepV] at h; subst h
    unfold truW at e
    dsimp only at e
    split at e
    · rename_i hl; cases e; exact ⟨⟨hl, rfl⟩, rfl⟩
    · cases e
  | tup xs => exact rest _ h e
  | lst xs => exact rest _ h e
  | dct ks xs => exact rest _ h e
  | dcT ks xs => exact rest _ h e
  | obj c f xs => exact rest _ h e
  | ref n => exact rest _ h e
  | kls xs => exact rest _ h e
theorem truW_noexc {d : MV} {S : Sto} {c : Str} {x : MV} {S' : Sto} : truW d S ≠ .exc c x S' := by
  intro h
  unfold truW at h
  split at h <;> (first | (cases h; done) | skip)
  · split at h <;> cases h
  · split at h
    · cases h
    · split at h
      · split at h <;> cases h
      · cases h
section
variable {X : Cx} {W : WX} {e : Expr} {ma : ME}
theorem st_truth (h : SE X W e ma) (he : ∀ whole, isTrue e X.env whole = (do let v ← whole; standAt e.pos; holding [v] (truthy v)) := by intro _; rfl) : ST X W e (mTruth ma) :=
  (pt_truth h he).imp fun σ H Q ⟨C, ρ, S, e, s, q⟩ => by
    subst e
    refine tE.bind s q fun d S1 C1 v s1 g1 r1 q1 => ?_
    cases e1 : truW d S1 with
    | ok b S2 =>
      rw [e1] at q1
      obtain ⟨t, rfl⟩ := truW_rep s1.rs r1 e1
      rw [s1.K] at t
      exact ⟨b, t, q1.now s1.rs⟩
    | exc c x S2 => exact absurd e1 truW_noexc
    | stk => rw [e1] at q1; exact q1.elim
end
structure X0 (K : PySem.W.Frag) (C : Addr) : Prop where
  e : PySem.W.excIn K C He.veBase "ValueError.__new__" = true
  k : PySem.W.keepIn K (.ref C) = true
  s : PySem.W.subIn K (.ref C) (.type "BaseException") = some true
  t : PySem.W.typeIn K (.ref C) = some (.type "type")
theorem pmk_own0 {X : Cx} {pos : Pos} {C : Addr} {bmB : List Value} {B newId initId : String} {x : Str} {p : Pos} (F : ExcBaseFacts B newId initId bmB) (q : PySem.W.excIn X.K C bmB newId = true) (gC : X.mg x = some (.ref C))
    (kC : PySem.W.keepIn X.K (.ref C) = true) (r : Raises X (.ref C)) (hg : Gl X x) (hdb : (x == ("__debug__" : Str)) = false := by decide) :
    PMk X (.Call (.Name x p) [] [] pos) (fun σ H Q => Q (.ref C) none H) := by
  intro pins s σ H Q I h
  refine wpAny_Call_Name_kw (ld_glob I hg gC (PySem.W.callWith_K0 (first := []) I.kIn kC ?_) hdb)
  obtain ⟨bm, N, nm, qn, bs, hdct, sn, sub, ab, col, dd, k0, k1, k2, k3, k5, mN, hC, hN, hni, T⟩ := exc_obj I.kIn q
  refine wpAny_call_exc_subT F T hC hN hni (fun h' e hm => ?_) (Nat.zero_le _)
  exact mk_of I hm r h (I.hok.gone hm.new)
def mRaise0 (c : Str) : MS := fun ρ S => .exc c .non ρ S
theorem ss_raise0 {X : Cx} {W : WX} {p pos rpos : Pos} {x c : Str} (hcalm : X.calm = true) (tk : Takes X W) (F : X0 X.K (He.ga X.K c)) (hg : Gl X x) (hm : X.mg x = some (.ref (He.ga X.K c))) (hdb : (x == ("__debug__" : Str)) = false := by decide) :
    SS X W (.Raise (some (.Call (.Name x p) [] [] pos)) none rpos) (mRaise0 c) :=
  (ps_raise hcalm tk (pmk_own0 PySem.F.excBase_ValueError F.e hm F.k (raises_own F.s F.t) hg hdb)).imp fun D σ H ⟨C, ρ, S, e, s, q⟩ => by
    subst e
    exact q C σ _ _ Grow.refl s.rs s.ev s.ln ⟨by show _ = Value.ref (He.ga C.K c); rw [s.K], .inl ⟨rfl, rfl⟩⟩
end Mi
set_option Elab.async false
set_option linter.all false
set_option maxRecDepth 100000
set_option maxHeartbeats 4000000
namespace Mi
open PySem PySem.Spec PyProof.Rows L2
def RC.fillO (C : RC) (D : Addr) (o : HO) : RC := { C.put D o with bad := D :: C.bad }
theorem Grow.fillO {C : RC} {D : Addr} {o : HO} (h : C.H D = none) : Grow C (C.fillO D o) where
  w := rfl
  K := rfl
  bad := fun a m => by
    rcases List.mem_cons.mp (show a ∈ D :: C.bad from m) with z | z
    · subst z; exact .inr (.inr h)
    · exact .inl z
  bad' := fun a m => List.mem_cons_of_mem _ m
  kp := fun a o na e => .inl (by show upd C.H D _ a = _; rw [upd_ne (ne_of_none e h)]; exact e)
  new := fun a m => .inl m
  pre := rfl
  le := Nat.le_refl _
  le' := Nat.le_refl _
theorem RepS.fillO {C : RC} {S : Sto} {D : Addr} {o : HO} (r : RepS C S) (h : C.H D = none) : RepS (C.fillO D o) S := by
  refine ⟨r.len, r.nd, fun a m => ?_, fun n mo a e1 e2 => ?_⟩
  · rcases List.mem_cons.mp (show a ∈ D :: C.bad from m) with z | z
    · subst z; exact ⟨r.notin h, by show upd C.H a _ a ≠ none; rw [upd_same]; simp⟩
    · refine ⟨(r.bad a z).1, ?_⟩
      show upd C.H D _ a ≠ none
      rw [upd_ne (fun q => (r.bad a z).2 (by rw [q]; exact h))]
      exact (r.bad a z).2
  · refine (r.ob n mo a e1 e2).trn ((Grow.fillO h).tr r) ?_
    show upd C.H D _ a = C.H a
    exact upd_ne fun z => r.notin h (by rw [← z]; exact List.mem_of_getElem? e2)
theorem adopt_ok {C0 C : RC} {S0 S : Sto} {D : Addr} {mo : MO} (r0 : RepS C0 S0) (hD : C0.H D = none) (g : Grow C0 (C.rb C0)) (hb : ∀ a ∈ C0.bad, a ∈ C.bad) (rs : RepS C S) (hbD : D ∈ C.bad)
    (hmo : ∀ C', Tr C.ι.length C C' → C'.H D = C.H D → RepO C' D mo) : Grow C0 ((C.rb C0).adopt D) ∧ RepS ((C.rb C0).adopt D) (S ++ [mo]) ∧ RepV ((C.rb C0).adopt D) (.ref S.length) (.ref D) := by
  have nD : D ∉ C.ι := (rs.bad D hbD).1
  have nb : D ∉ C0.bad := fun m => (r0.bad D m).2 hD
  have tr : Tr C.ι.length C ((C.rb C0).adopt D) := by
    refine ⟨rfl, rfl, fun _ _ q => q, fun a u n q => ⟨⟨fun m => ?_, fun m => n.2 (hb a m)⟩, .inl q⟩, fun _ _ _ q => q, fun n a hn q => ?_⟩
    · rcases List.mem_append.mp (show a ∈ C.ι ++ [D] from m) with m | m
      · exact n.1 m
      · have e : a = D := by simpa using m
        exact n.2 (by rw [e]; exact hbD)
    · show (C.ι ++ [D])[n]? = some a
      rw [List.getElem?_append_left (by exact hn)]; exact q
  refine ⟨⟨g.w, g.K, fun a m => .inl m, fun a m => m, g.kp, fun a m => ?_, ?_, g.le, ?_⟩, ⟨by show (C.ι ++ [D]).length = _; simp [rs.len], ?_, fun a m => ⟨fun m2 => ?_, (rs.bad a (hb a m)).2⟩, fun n mo' a e1 e2 => ?_⟩, ?_⟩
  · rcases List.mem_append.mp (show a ∈ C.ι ++ [D] from m) with m | m
    · exact g.new a m
    · have e : a = D := by simpa using m
      exact .inr (by rw [e]; exact hD)
  · show (C.ι ++ [D]).take C0.ι.length = _
    rw [List.take_append_of_le_length (show C0.ι.length ≤ C.ι.length from g.le')]; exact g.pre
  · show C0.ι.length ≤ (C.ι ++ [D]).length
    rw [List.length_append]
    exact Nat.le_trans g.le' (Nat.le_add_right _ _)
  · show (C.ι ++ [D]).Nodup
    rw [List.nodup_append]
    refine ⟨rs.nd, by simp, fun a ha b hb => ?_⟩
    have e : b = D := by simpa using hb
    subst e
    intro e; subst e
    exact nD ha
  · rcases List.mem_append.mp (show a ∈ C.ι ++ [D] from m2) with m2 | m2
    · exact (rs.bad a (hb a m)).1 m2
    · have e : a = D := by simpa using m2
      subst e; exact nb m
  · have e2 : (C.ι ++ [D])[n]? = some a := e2
    by_cases hn : n < S.length
    · rw [List.getElem?_append_left hn] at e1
      rw [List.getElem?_append_left (by rw [rs.len]; exact hn)] at e2
      exact (rs.ob n mo' a e1 e2).trn tr rfl
    · rw [List.getElem?_append_right (by omega)] at e1
      rw [List.getElem?_append_right (by rw [rs.len]; omega), rs.len] at e2
      cases hz : n - S.length with
      | zero =>
        rw [hz] at e1 e2
        simp at e1 e2
        subst e1; subst e2
        exact hmo _ tr rfl
      | succ k => rw [hz] at e1; simp at e1
  · rw [RepV]
    exact ⟨D, rfl, by show (C.ι ++ [D])[S.length]? = some D; rw [← rs.len]; simp⟩
def mkD (fr : Bool) (ks : List Key) (ds : List MV) (S : Sto) : R MV := if fr then .ok (.dct ks ds) S else .ok (.ref S.length) (S ++ [.dct ks ds])
theorem repDct {C : RC} {p : Addr} {ks : List Key} {ds : List MV} {vs : List V} (n : Froz C p) (h : C.H p = some (.dK (ks.zip vs))) (l : ks.length = vs.length) (nd : ks.Nodup) (t : RepVs C ds vs) : RepV C (.dct ks ds) (.ref p) := by
  rw [RepV]; exact ⟨p, vs, rfl, n, .inl h, l, nd, t⟩
/-- the filled dict, told -/
theorem dict_end {W : WX} {σ : L2.St} {C0 C : RC} {S0 S : Sto} {D : Addr} {Q : VK} {fr : Bool} {ks : List Key} {ds : List MV} {vs : List V} (r0 : RepS C0 S0) (hD : C0.H D = none) (g : Grow C0 (C.rb C0)) (hb : ∀ a ∈ C0.bad, a ∈ C.bad) (rs : RepS C S) (hbD : D ∈ C.bad)
    (hv : C.H D = some (.dK (ks.zip vs))) (l : ks.length = vs.length) (nd : ks.Nodup) (rv : RepVs C ds vs) (h : Wants W σ C0 (mkD fr ks ds S) (fun d _ C' => ∀ v, RepV C' d v → Q v C'.H)) : Q (.ref D) C.H := by
  have nD : D ∉ C.ι := (rs.bad D hbD).1
  have nb : D ∉ C0.bad := fun m => (r0.bad D m).2 hD
  cases fr with
  | true =>
    have h : Wants W σ C0 (.ok (.dct ks ds) S) (fun d _ C' => ∀ v, RepV C' d v → Q v C'.H) := h
    exact h (C.rb C0) g (rs.rb hb) (.ref D) (repDct ⟨nD, nb⟩ hv l nd (rv.trn (Tr.rb (C0 := C0) hb)))
  | false =>
    have h : Wants W σ C0 (.ok (.ref S.length) (S ++ [.dct ks ds])) (fun d _ C' => ∀ v, RepV C' d v → Q v C'.H) := h
    obtain ⟨g2, rs2, rv2⟩ := adopt_ok (mo := .dct ks ds) r0 hD g hb rs hbD fun C' tr e => ⟨vs, by rw [e]; exact hv, l, nd, rv.trn tr⟩
    exact h _ g2 rs2 _ rv2
section
variable {X : Cx} {W : WX} {k v : Expr} {keys : List (Option Expr)} {values : List Expr} {ks : List Key} {mas : MA} {ma : ME} {pos : Pos}
def mDct (fr : Bool) (ks : List Key) (m : MA) : ME := fun ρ S => (m ρ S).bind fun ds S1 => mkD fr ks ds S1
/-- {} -/
theorem se_dnew {fr : Bool} : SE X W (.Dict [] [] pos) (fun _ S => mkD fr [] [] S) :=
  pe_dnewK.imp fun σ H Q ⟨C, ρ, S, e, s, q⟩ p hp => by
    subst e
    exact dict_end (C := C.fillO p (.dK [])) (fr := fr) (ks := []) (ds := []) (vs := []) s.rs hp (rb_step (Grow.refl (C := C)) (fun _ m => m) (Grow.fillO hp)) (fun a m => List.mem_cons_of_mem _ m) (s.rs.fillO hp) List.mem_cons_self upd_same rfl List.nodup_nil .nil q
end
end Mi
set_option Elab.async false
set_option linter.all false
set_option maxRecDepth 100000
set_option maxHeartbeats 4000000
namespace Mi
open PySem PySem.Spec PyProof.Rows L2
def dcGo (ok : Sto → Bool) (g : Tg) (tt : MT) (tk tv : ME) (ρ : Ev) : List MV → List Key → List MV → Sto → R (List Key × List MV)
  | [], ks, ds, S => if ok S then .ok (ks, ds) S else .stk
  | x :: xs, ks, ds, S => if ok S then (match g.f x ρ with
    | some ρ1 => (tt ρ1 S).calm.bind fun b S1 => if b then (tk ρ1 S1).calm.bind fun kd S2 => (match keyV kd with
        | some k => (tv ρ1 S2).calm.bind fun y S3 => dcGo ok g tt tk tv ρ xs (dput ks ds k y).1 (dput ks ds k y).2 S3
        | none => .stk) else dcGo ok g tt tk tv ρ xs ks ds S1
    | none => .stk) else .stk
def mDc (fr : Bool) (vs : List Nat) (mi : Ev → Sto → R Src) (g : Tg) (tt : MT) (tk tv : ME) : ME := fun ρ S => (mi ρ S).bind fun src S1 =>
  if src.items.length ≤ sizeLine then (dcGo (fun S => src.ok S) g tt tk tv (wipeE ρ vs) src.items [] [] S1).bind fun p S2 => mkD fr p.1 p.2 S2 else .stk
def lc2Go (ok : Sto → Bool) (g : Tg) (tt : MT) (mi1 : Ev → Sto → R Src) (vs1 : List Nat) (g1 : Tg) (tt1 : MT) (te : ME) (ρ : Ev) : List MV → List MV → Sto → R (List MV)
  | [], acc, S => if ok S then .ok acc S else .stk
  | x :: xs, acc, S => if ok S then (match g.f x ρ with
    | some ρ1 => (tt ρ1 S).calm.bind fun b S1 => if b then (mi1 ρ1 S1).calm.bind fun src1 S2 =>
        if acc.length + src1.items.length ≤ sizeLine then (lcGo (fun S => src1.ok S) g1 tt1 te (wipeE ρ1 vs1) src1.items acc S2).bind fun acc' S3 => lc2Go ok g tt mi1 vs1 g1 tt1 te ρ xs acc' S3 else .stk
      else lc2Go ok g tt mi1 vs1 g1 tt1 te ρ xs acc S1
    | none => .stk) else .stk
def mLc2 (fr : Bool) (vs vs1 : List Nat) (mi : Ev → Sto → R Src) (g : Tg) (tt : MT) (mi1 : Ev → Sto → R Src) (g1 : Tg) (tt1 : MT) (te : ME) : ME := fun ρ S => (mi ρ S).bind fun src S1 =>
  (lc2Go (fun S => src.ok S) g tt mi1 vs1 g1 tt1 te (wipeE ρ vs) src.items [] S1).bind (mkL fr)
theorem Tr.le {C C' : RC} (x : Tr C.ι.length C C') : C.ι.length ≤ C'.ι.length := by
  by_cases h : C.ι.length = 0
  · omega
  · have hl : C.ι.length - 1 < C.ι.length := by omega
    have := (List.getElem?_eq_some_iff.mp (x.ref (C.ι.length - 1) _ hl (List.getElem?_eq_getElem hl))).1
    omega
/-- the list D is being filled, C0 the state at its start -/
structure Fl (C0 : RC) (D : Addr) (C : RC) (S : Sto) (acc : List MV) (accv : List V) : Prop where
  tr : Tr C0.ι.length C0 C
  gr : Grow C0 (C.rb C0)
  hb : ∀ a ∈ C0.bad, a ∈ C.bad
  rs : RepS C S
  hbD : D ∈ C.bad
  hv : C.H D = some (.lst accv)
  rv : RepVs C acc accv
theorem Fl.grow {C0 C C' : RC} {D : Addr} {S S' : Sto} {acc : List MV} {accv : List V} (f : Fl C0 D C S acc accv) (g : Grow C C') (r : RepS C' S') : Fl C0 D C' S' acc accv where
  tr := f.tr.trans (g.tr f.rs) f.gr.le'
  gr := rb_step f.gr f.hb g
  hb := fun a m => g.bad' a (f.hb a m)
  rs := r
  hbD := g.bad' D f.hbD
  hv := (g.kp _ _ (f.rs.bad D f.hbD).1 f.hv).exact (.inr f.hbD)
  rv := f.rv.grow g f.rs
theorem Fl.app {C0 C : RC} {D : Addr} {S : Sto} {acc : List MV} {accv : List V} {d : MV} {v : V} (f : Fl C0 D C S acc accv) (hD : C0.H D = none) (rv : RepV C d v) : Fl C0 D (C.put D (.lst (accv ++ [v]))) S (acc ++ [d]) (accv ++ [v]) := by
  have wr := Tr.wr (vs := accv ++ [v]) f.rs f.hbD f.hv
  exact ⟨f.tr.trans wr f.gr.le', rb_wr f.gr hD, f.hb, f.rs.wr f.hbD f.hv, f.hbD, put_same, (f.rv.trn wr).append (.cons (rv.trn wr) .nil)⟩
theorem Fl.le {C0 C : RC} {D : Addr} {S : Sto} {acc : List MV} {accv : List V} (f : Fl C0 D C S acc accv) : C0.ι.length ≤ C.ι.length := f.gr.le'
section
variable {X : Cx} {W : WX} {tg iter tg1 iter1 elt : Expr} {ifs ifs1 : List Expr} {scope : Scope} {own : List (Str × Nat)} {mi mi1 : Ev → Sto → R Src} {g g1 : Tg} {tt tt1 : MT} {te : ME} {pos : Pos} {fr : Bool} {vs1 : List Nat}
theorem tI.blk {s0 : Shared} {H0 : Hp} {sc : Scope} {ce : Env} {fp : List Addr} {m : Ev → Sto → R Src} {σ : L2.St} {H : Hp} {Q : It → Hp → Prop} (h : tI X W m σ H Q) : tI (X.blk s0 H0 sc ce fp) W m σ H Q := by
  obtain ⟨C, ρ, S, e, s, q⟩ := h
  exact ⟨C, ρ, S, e, ⟨s.w, s.K, s.rs, s.ev, s.ln⟩, q⟩
end
end Mi
set_option Elab.async false
set_option linter.all false
set_option maxRecDepth 100000
set_option maxHeartbeats 4000000
namespace Mi
open PySem PySem.Spec PyProof.Rows L2
theorem x0_of {K : PySem.W.Frag} {x : Str} (c : (He.Fa.exc x).ok K = true) : X0 K (He.ga K x) :=
  let ⟨a, b, c, d⟩ := He.exc_ok c
  ⟨a, b, c, d⟩
theorem pu_over {f : List Bool → Bool} : Pure1 (overBl f) := by
  intro ds S c d S' h
  unfold overBl at h
  split at h
  · split at h
    · split at h
      · cases h
      · cases h
    · cases h
  · cases h
theorem pu_any : Pure1 anyM := pu_over
theorem pu_all : Pure1 allM := pu_over
end Mi
set_option Elab.async false
set_option linter.all false
set_option maxRecDepth 100000
set_option maxHeartbeats 2000000
namespace Mi
open PySem PySem.Spec PyProof.Rows L2
end Mi
set_option Elab.async false
set_option linter.all false
set_option maxRecDepth 100000
set_option maxHeartbeats 2000000
namespace Mi
open PySem PySem.Spec PyProof.Rows L2
mutual
def nk : MV → NestedKey
  | .bl b => .num (if b then 1 else 0)
  | .int i => .num i
  | .str x => .text x
  | .tup xs => .tup (nks xs)
  | _ => .none
def nks : List MV → List NestedKey
  | [] => []
  | x :: xs => nk x :: nks xs
end
theorem nks_map : ∀ xs : List MV, nks xs = xs.map nk
  | [] => rfl
  | x :: xs => by rw [nks, nks_map xs]; rfl
mutual
def unk : NestedKey → MV
  | .none => .non
  | .num i => .int i
  | .text x => .str x
  | .tup ks => .tup (unks ks)
def unks : List NestedKey → List MV
  | [] => []
  | x :: xs => unk x :: unks xs
end
mutual
theorem unk_nk : ∀ k : MV, keyOk k = true → unk (nk k) = canon k
  | .non, _ => rfl
  | .bl _, _ => rfl
  | .int _, _ => rfl
  | .str _, _ => rfl
  | .tup xs, h => by rw [nk, unk, canon, unks_nks xs (by simpa [keyOk] using h)]
  | .lst _, h => by simp [keyOk] at h
  | .dct _ _, h => by simp [keyOk] at h
  | .dcT _ _, h => by simp [keyOk] at h
  | .obj _ _ _, h => by simp [keyOk] at h
  | .ref _, h => by simp [keyOk] at h
  | .kls _, h => by simp [keyOk] at h
theorem unks_nks : ∀ ks : List MV, keyOks ks = true → unks (nks ks) = canons ks
  | [], _ => rfl
  | k :: ks, h => by
    rw [keyOks, Bool.and_eq_true] at h
    rw [nks, unks, canons, unk_nk k h.1, unks_nks ks h.2]
end
mutual
theorem nk_canon : ∀ k : MV, nk (canon k) = nk k
  | .bl _ => rfl
  | .non => rfl
  | .int _ => rfl
  | .str _ => rfl
  | .tup xs => by rw [canon, nk, nk, nks_canons xs]
  | .lst _ => rfl
  | .dct _ _ => rfl
  | .dcT _ _ => rfl
  | .obj _ _ _ => rfl
  | .ref _ => rfl
  | .kls _ => rfl
theorem nks_canons : ∀ ks : List MV, nks (canons ks) = nks ks
  | [] => rfl
  | k :: ks => by rw [canons, nks, nks, nk_canon k, nks_canons ks]
end
theorem nk_eq {a b : MV} (ha : keyOk a = true) (hb : keyOk b = true) : nk a = nk b ↔ canon a = canon b := by
  constructor
  · intro h; rw [← unk_nk a ha, ← unk_nk b hb, h]
  · intro h; rw [← nk_canon a, ← nk_canon b, h]
mutual
theorem hash_nk (w : World) : ∀ k : MV, keyOk k = true → hashK w k = (nk k).hash w
  | .non, _ => by show hashK w .non = NestedKey.hash w .none; rfl
  | .bl _, _ => rfl
  | .int _, _ => rfl
  | .str _, _ => rfl
  | .tup xs, h => by rw [hashK, nk, NestedKey.hash, hashes_nks w xs (by simpa [keyOk] using h)]
  | .lst _, h => by simp [keyOk] at h
  | .dct _ _, h => by simp [keyOk] at h
  | .dcT _ _, h => by simp [keyOk] at h
  | .obj _ _ _, h => by simp [keyOk] at h
  | .ref _, h => by simp [keyOk] at h
  | .kls _, h => by simp [keyOk] at h
theorem hashes_nks (w : World) : ∀ ks : List MV, keyOks ks = true → hashKs w ks = NestedKey.hashes w (nks ks)
  | [], _ => rfl
  | k :: ks, h => by
    rw [keyOks, Bool.and_eq_true] at h
    rw [hashKs, nks, NestedKey.hashes, hash_nk w k h.1, hashes_nks w ks h.2]
end
mutual
theorem dep_nk : ∀ k : MV, (nk k).depth = kdep k
  | .bl _ => rfl
  | .non => rfl
  | .int _ => rfl
  | .str _ => rfl
  | .tup xs => by rw [nk, NestedKey.depth, kdep, deps_nks xs]
  | .lst _ => rfl
  | .dct _ _ => rfl
  | .dcT _ _ => rfl
  | .obj _ _ _ => rfl
  | .ref _ => rfl
  | .kls _ => rfl
theorem deps_nks : ∀ ks : List MV, NestedKey.depthAll (nks ks) = kdeps ks
  | [] => rfl
  | k :: ks => by rw [nks, NestedKey.depthAll, kdeps, dep_nk k, deps_nks ks]
end
section
variable {X : Cx} {pins : List (Addr × Obj)} {s : Shared} {σ : L2.St} {C : RC}
mutual
theorem nis_of (I : Inv X pins σ C.H s) (hK : C.K = X.K) : ∀ (k : MV) (v : V) (u : Value), keyOk k = true → RepV C k v → RelV v u → NestedIs s.heap (nk k) u
  | .non, v, u, _, h, r => by rw [RepV] at h; subst h; cases r; exact .none
  | .bl b, v, u, _, h, r => by rw [RepV] at h; subst h; cases r; exact .bool rfl
  | .int i, v, u, _, h, r => by
    rw [RepV] at h; subst h
    obtain ⟨t, rfl⟩ := r
    exact .int i t
  | .str x, v, u, _, h, r => by
    rw [RepV] at h; subst h
    obtain ⟨t, rfl⟩ := r
    exact .text x t
  | .tup xs, v, u, hk, h, r => by
    rw [RepV] at h
    obtain ⟨a, vs, rfl, hq, t⟩ := h
    cases r
    rw [hK] at hq
    obtain ⟨its, rv, ht, _⟩ := I.tuple hq
    obtain ⟨o, ho, hc, n, hd⟩ := (show s.heap.IsTuple a its.toArray from ht)
    rw [nk]
    exact .tup ho hc hd (by simpa using nall_of I hK xs vs its (by simpa [keyOk] using hk) t rv)
  | .lst _, _, _, h, _, _ => by simp [keyOk] at h
  | .dct _ _, _, _, h, _, _ => by simp [keyOk] at h
  | .dcT _ _, _, _, h, _, _ => by simp [keyOk] at h
  | .obj _ _ _, _, _, h, _, _ => by simp [keyOk] at h
  | .ref _, _, _, h, _, _ => by simp [keyOk] at h
  | .kls _, _, _, h, _, _ => by simp [keyOk] at h
theorem nall_of (I : Inv X pins σ C.H s) (hK : C.K = X.K) : ∀ (ks : List MV) (vs : List V) (us : List Value), keyOks ks = true → RepVs C ks vs → Vals vs us → NestedAll s.heap (nks ks) us
  | [], vs, us, _, h, r => by rw [h.nil_inv] at r; cases r; exact .nil
  | k :: ks, vs, us, hk, h, r => by
    obtain ⟨v, vr, rfl, h1, h2⟩ := h.cons_inv
    cases r with
    | cons r rr =>
      rw [keyOks, Bool.and_eq_true] at hk
      exact .cons (nis_of I hK k v _ hk.1 h1 r) (nall_of I hK ks vr _ hk.2 h2 rr)
end
end
def zipH : List MV → List Addr → List Value → List (NestedKey × Addr × Value)
  | k :: ks, p :: ps, u :: us => (nk k, p, u) :: zipH ks ps us
  | _, _, _ => []
theorem ents_zip {P : Program} {w : World} : ∀ (ks : List MV) (ps : List Addr) (us : List Value), keyOks ks = true → entsOf w ks ps us = (zipH ks ps us).map (entryOfKey (nestedKind P w))
  | [], ps, us, _ => rfl
  | _ :: _, [], us, _ => rfl
  | _ :: _, _ :: _, [], _ => rfl
  | k :: ks, p :: ps, u :: us, h => by
    rw [keyOks, Bool.and_eq_true] at h
    rw [entsOf, zipH, List.map_cons, ents_zip ks ps us h.2, hash_nk w k h.1]; rfl
theorem zip_keys : ∀ (ks : List MV) (ps : List Addr) (us : List Value), ks.length = ps.length → ks.length = us.length → (zipH ks ps us).map (·.1) = nks ks
  | [], ps, us, _, _ => by cases ps <;> rfl
  | _ :: _, [], us, h, _ => by simp at h
  | _ :: _, _ :: _, [], _, h => by simp at h
  | k :: ks, p :: ps, u :: us, h, h' => by
    rw [zipH, List.map_cons, nks, zip_keys ks ps us (by simpa using h) (by simpa using h')]
theorem nodup_nks {ks : List MV} (h : keyOks ks = true) (nd : (canons ks).Nodup) : (nks ks).Nodup := by
  have : ∀ ks : List MV, keyOks ks = true → (canons ks).Nodup → (nks ks).Nodup := by
    intro ks
    induction ks with
    | nil => intro _ _; exact List.nodup_nil
    | cons k ks ih =>
      intro h nd
      rw [keyOks, Bool.and_eq_true] at h
      rw [canons, List.nodup_cons] at nd
      rw [nks, List.nodup_cons]
      refine ⟨fun hm => nd.1 ?_, ih h.2 nd.2⟩
      rw [nks_map, List.mem_map] at hm
      obtain ⟨x, hx, e⟩ := hm
      have hxk : keyOk x = true := by
        have : ∀ ks : List MV, keyOks ks = true → ∀ x ∈ ks, keyOk x = true := by
          intro ks
          induction ks with
          | nil => intro _ x hx; cases hx
          | cons y ys ih =>
            intro h x hx
            rw [keyOks, Bool.and_eq_true] at h
            obtain e | e := List.mem_cons.mp hx
            · rw [e]; exact h.1
            · exact ih h.2 x e
        exact this ks h.2 x hx
      rw [← (nk_eq hxk h.1).mp e, canons_map]
      exact List.mem_map_of_mem hx
  exact this ks h nd
section
variable {X : Cx} {pins : List (Addr × Obj)} {s : Shared} {σ : L2.St} {C : RC}
theorem is_zip (I : Inv X pins σ C.H s) (hK : C.K = X.K) : ∀ (ks : List MV) (ps : List Addr) (us : List Value), keyOks ks = true → kdeps ks ≤ 8 → RepVs C ks (ps.map V.ref) → ∀ x ∈ zipH ks ps us, (nestedKind X.prog X.w).is s.heap x.1 x.2.1
  | [], ps, us, _, _, _, x, hx => by cases hx
  | _ :: _, [], us, _, _, _, x, hx => by cases hx
  | _ :: _, _ :: _, [], _, _, _, x, hx => by cases hx
  | k :: ks, p :: ps, u :: us, h, hd, r, x, hx => by
    rw [keyOks, Bool.and_eq_true] at h
    rw [kdeps] at hd
    obtain ⟨v, vr, e, r1, r2⟩ := r.cons_inv
    rw [List.map_cons] at e
    cases e
    obtain e | e := List.mem_cons.mp hx
    · subst e
      exact ⟨nis_of I hK k (.ref p) (.ref p) h.1 r1 rfl, by show (nk k).depth ≤ 8; rw [dep_nk]; omega⟩
    · exact is_zip I hK ks ps us h.2 (by omega) r2 x e
/-- the dict as the kit's rules see it -/
theorem dct_H {a : Addr} {ob : Obj} {es : Array DictEntry} {ep : Nat} {ks : List MV} {ps : List Addr} {us : List Value} (I : Inv X pins σ C.H s) (hw : C.w = X.w) (hK : C.K = X.K) (ha : C.H a = some (.ext fun h => h.get? a = some ob)) (ex : ob.ExactDict) (hd : ob.data = .dict es ep)
    (he : es.toList = entsOf C.w ks ps us) (ko : keyTs ks = true) (nd : (canons ks).Nodup) (rk : RepVs C ks (ps.map V.ref)) (lu : ks.length = us.length) : s.heap.DictOfH (nestedKind X.prog X.w) a (zipH ks ps us) := by
  rw [keyTs, Bool.and_eq_true] at ko
  have hg : s.heap.get? a = some ob := (I.hok a _ ha).1
  have lp : ks.length = ps.length := by have := rk.length; simpa using this
  refine ⟨ob, es, ep, hg, ex, hd, by rw [he, hw, ents_zip (P := X.prog) ks ps us ko.1], is_zip I hK ks ps us ko.1 (of_decide_eq_true ko.2) rk, ?_⟩
  rw [zip_keys ks ps us lp lu]
  exact nodup_nks ko.1 nd
end
theorem at_cons {K : Type} [DecidableEq K] {x : K × Addr × Value} {xs : List (K × Addr × Value)} {k : K} : atKey (x :: xs) k = if x.1 = k then some x.2 else atKey xs k := by
  unfold atKey
  rw [List.find?_cons]
  by_cases h : x.1 = k <;> simp [h]
theorem at_zip {C : RC} {k : MV} (hk : keyOk k = true) : ∀ (ks : List MV) (ps : List Addr) (us : List Value) (ds : List MV) (vs : List V), keyOks ks = true → ks.length = ps.length → RepVs C ds vs → Vals vs us → ks.length = ds.length →
    (match dlook (canons ks) ds (canon k) with
      | some d => ∃ p u v, atKey (zipH ks ps us) (nk k) = some (p, u) ∧ RelV v u ∧ RepV C d v
      | none => atKey (zipH ks ps us) (nk k) = none)
  | [], ps, us, ds, vs, _, _, _, _, _ => by
    have : zipH [] ps us = [] := by cases ps <;> rfl
    rw [this]; rfl
  | _ :: _, [], us, ds, vs, _, h, _, _, _ => by simp at h
  | k' :: ks, p :: ps, us, ds, vs, h, lp, r, rv, ld => by
    cases ds with
    | nil => simp at ld
    | cons d ds =>
      obtain ⟨v, vr, rfl, r1, r2⟩ := r.cons_inv
      cases rv with
      | cons q qq =>
        rename_i u us
        rw [keyOks, Bool.and_eq_true] at h
        rw [canons, dlook, zipH, at_cons]
        by_cases e : canon k' = canon k
        · have e' : nk k' = nk k := (nk_eq h.1 hk).mpr e
          simp only [e, if_true, e']
          exact ⟨p, u, v, rfl, q, r1⟩
        · have e' : ¬ nk k' = nk k := fun z => e ((nk_eq h.1 hk).mp z)
          have e2 : ¬ canon k' = canon k := e
          simp only [e', if_false]
          rw [if_neg (by exact e2)]
          exact at_zip hk ks ps us ds vr h.2 (by simpa using lp) r2 qq (by simpa using ld)
end Mi
set_option Elab.async false
set_option linter.all false
set_option maxRecDepth 100000
set_option maxHeartbeats 2000000
namespace Mi
open PySem PySem.Spec PyProof.Rows L2
def dcTOf (S : Sto) : MV → Option (List MV × List MV)
  | .dcT ks vs => some (ks, vs)
  | .ref n => (match S[n]? with
    | some (.dcT ks vs) => some (ks, vs)
    | _ => none)
  | _ => none
/-- a dict with tuple keys, and what stands for it -/
def RepT (C : RC) (a : Addr) (ks ds : List MV) : Prop := (a == sysModules) = false ∧ keyTs ks = true ∧ ((canons ks).Nodup) ∧ ks.length = ds.length ∧ ks.length ≤ sizeLine ∧
  ∃ (ob : Obj) (es : Array DictEntry) (ep : Nat) (ps : List Addr) (us : List Value) (kvs vs : List V),
    C.H a = some (.ext fun h => h.get? a = some ob) ∧ ob.ExactDict ∧ ob.data = .dict es ep ∧ es.toList = entsOf C.w ks ps us ∧ kvs = ps.map V.ref ∧ RepVs C ks kvs ∧ Vals vs us ∧ RepVs C ds vs
theorem dcTOf_rep {C : RC} {S : Sto} {d : MV} {v : V} {ks ds : List MV} (r : RepS C S) (h : RepV C d v) (e : dcTOf S d = some (ks, ds)) : ∃ a, v = .ref a ∧ RepT C a ks ds := by
  cases d with
  | dcT ks' ds' =>
    cases e
    rw [RepV] at h
    obtain ⟨a, rfl, fz, rest⟩ := h
    exact ⟨a, rfl, rest⟩
  | ref n =>
    rw [RepV] at h
    obtain ⟨a, rfl, ha⟩ := h
    have e : (match S[n]? with
      | some (.dcT ks vs) => some (ks, vs)
      | _ => none) = some (ks, ds) := e
    cases e0 : S[n]? with
    | none => rw [e0] at e; cases e
    | some mo =>
      rw [e0] at e
      have ro := r.ob n mo a e0 ha
      cases mo with
      | dcT ks' ds' => cases e; exact ⟨a, rfl, ro⟩
      | _ => cases e
  | _ => cases e
/-- a key of such a dict -/
def keyT : MV → Bool
  | .tup xs => keyOks xs && decide (kdeps xs + 1 ≤ 8)
  | _ => false
theorem keyT_ok {k : MV} (h : keyT k = true) : keyOk k = true ∧ kdep k ≤ 8 ∧ ∃ xs, k = .tup xs := by
  cases k with
  | tup xs =>
    rw [keyT, Bool.and_eq_true] at h
    exact ⟨h.1, of_decide_eq_true h.2, xs, rfl⟩
  | _ => cases h
section
variable {X : Cx}
theorem room_n {A : Around} (hu : A.units + 65 < cLine) : (nestedKind P w).room A.in1 := by
  show A.units + 1 + 8 < cLine
  omega
/-- the key and the dict in the heap -/
theorem look_T {pins : List (Addr × Obj)} {s : Shared} {σ : L2.St} {C : RC} {S : Sto} {x y : V} {v u : Value} {d1 d2 : MV} {ks ds : List MV} (I : Inv X pins σ C.H s) (rx : RelV x v) (ry : RelV y u) (hw : C.w = X.w) (hK : C.K = X.K) (r : RepS C S) (h1 : RepV C d1 x) (h2 : RepV C d2 y) (e : dcTOf S d2 = some (ks, ds)) (hk : keyT d1 = true) :
    ∃ (a b : Addr) (ps : List Addr) (us : List Value) (vs : List V), v = .ref a ∧ u = .ref b ∧ x = .ref a ∧ y = .ref b ∧ (b == sysModules) = false ∧ (nestedKind X.prog X.w).is s.heap (nk d1) a ∧ s.heap.DictOfH (nestedKind X.prog X.w) b (zipH ks ps us) ∧
      (match dlook (canons ks) ds (canon d1) with
        | some d => ∃ p u v, atKey (zipH ks ps us) (nk d1) = some (p, u) ∧ RelV v u ∧ RepV C d v
        | none => atKey (zipH ks ps us) (nk d1) = none) := by
  obtain ⟨k1, k2, xs, rfl⟩ := keyT_ok hk
  obtain ⟨b, rfl, sm, ko, nd, ll, lz, ob, es, ep, ps, us, kvs, vs, ha, ex, hd, he, hkv, rk, rv, rd⟩ := dcTOf_rep r h2 e
  have h1' := h1
  rw [RepV] at h1'
  obtain ⟨a, ws, rfl, _⟩ := h1'
  cases rx
  cases ry
  subst hkv
  have lu : ks.length = us.length := by rw [ll, rd.length, rv.length]
  refine ⟨a, b, ps, us, vs, rfl, rfl, rfl, rfl, sm, ⟨nis_of I hK _ _ _ k1 h1 rfl, by show (nk (MV.tup xs)).depth ≤ 8; rw [dep_nk]; exact k2⟩, dct_H I hw hK ha ex hd he ko nd rk lu, ?_⟩
  rw [keyTs, Bool.and_eq_true] at ko
  exact at_zip k1 ks ps us ds vs ko.1 (by have := rk.length; simpa using this) rd rv ll
/-- d[k] -/
def idxTM (c x : MV) (S : Sto) : R MV := match dcTOf S c with
  | some (ks, ds) => if keyT x then (match dlook (canons ks) ds (canon x) with
    | some d => .ok d S
    | none => .stk) else .stk
  | none => .stk
theorem pu_ixT : Pure2 idxTM := by
  intro a b S c d S' h
  unfold idxTM at h
  split at h
  · split at h
    · split at h <;> cases h
    · cases h
  · cases h
theorem ixTM (hu : X.A.units + 65 < cLine) : IxR X (rOf X idxTM) := by
  intro value slice pins s σ H x y v u Q I rx ry rof hs
  obtain ⟨C, S, d1, d2, rfl, hw, hK, r, h1, h2, a, S', e, q⟩ := rof
  unfold idxTM at e
  split at e
  · rename_i ks ds e0
    split at e
    · rename_i hk
      split at e
      · rename_i d ed
        cases e
        obtain ⟨a, b, ps, us, vs, rfl, rfl, rfl, rfl, sm, ik, hm, at'⟩ := look_T I ry rx hw hK r h2 h1 e0 hk
        rw [ed] at at'
        obtain ⟨p, u, w', hp, rw', rd⟩ := at'
        exact tail_any hm.typeIs PySem.F.slot_dict_getitem.lookup (wpAny_getItem_heap (room_n hu) ik hm hp ⟨w', C.H, I.tok _, rw', q C Grow.refl r w' rd⟩) hs
      · cases e
    · cases e
  · cases e
end
end Mi
set_option Elab.async false
set_option linter.all false
set_option maxRecDepth 100000
set_option maxHeartbeats 2000000
namespace Mi
open PySem PySem.Spec PyProof.Rows L2
def dputT (ks vs : List MV) (k d : MV) : List MV × List MV := if canon k ∈ canons ks then (ks, dsetV (canons ks) vs (canon k) d) else (ks ++ [k], vs ++ [d])
theorem zip_app {k : MV} {a : Addr} {u : Value} : ∀ (ks : List MV) (ps : List Addr) (us : List Value), ks.length = ps.length → ks.length = us.length → zipH ks ps us ++ [(nk k, a, u)] = zipH (ks ++ [k]) (ps ++ [a]) (us ++ [u])
  | [], ps, us, h, h' => by
    have : ps = [] := List.eq_nil_of_length_eq_zero (by simpa using h.symm)
    have : us = [] := List.eq_nil_of_length_eq_zero (by simpa using h'.symm)
    subst_vars; rfl
  | _ :: _, [], us, h, _ => by simp at h
  | _ :: _, _ :: _, [], _, h => by simp at h
  | k' :: ks, p :: ps, u' :: us, h, h' => by
    rw [zipH, List.cons_append, zip_app ks ps us (by simpa using h) (by simpa using h')]; rfl
theorem keyOks_app : ∀ (ks : List MV) (k : MV), keyOks (ks ++ [k]) = (keyOks ks && keyOk k)
  | [], k => by simp [keyOks]
  | x :: ks, k => by rw [List.cons_append, keyOks, keyOks_app ks k, keyOks, Bool.and_assoc]
theorem kdeps_app : ∀ (ks : List MV) (k : MV), kdeps (ks ++ [k]) = max (kdeps ks) (kdep k)
  | [], k => by simp [kdeps]
  | x :: ks, k => by rw [List.cons_append, kdeps, kdeps_app ks k, kdeps]; omega
theorem canons_app (ks : List MV) (k : MV) : canons (ks ++ [k]) = canons ks ++ [canon k] := by rw [canons_map, canons_map, List.map_append]; rfl
theorem canons_len (ks : List MV) : (canons ks).length = ks.length := by rw [canons_map, List.length_map]
theorem dlook_mem {κ : Type} [DecidableEq κ] {k : κ} : ∀ (ks : List κ) (ds : List MV), ks.length = ds.length → ((dlook ks ds k).isSome ↔ k ∈ ks)
  | [], ds, _ => by cases ds <;> simp [dlook]
  | _ :: _, [], bad => by simp at bad
  | k' :: ks, d :: ds, h => by
    rw [dlook]
    by_cases e : k' = k
    · rw [if_pos e]; simp [e]
    · rw [if_neg e, dlook_mem ks ds (by simpa using h)]; simp [Ne.symm e]
def setTM (o i d : MV) (S : Sto) : Option Sto := match o with
  | .ref n => (match S[n]? with
    | some (.dcT ks vs) => if keyT i && decide (ks.length < sizeLine) then some (S.set n (.dcT (dputT ks vs i d).1 (dputT ks vs i d).2)) else none
    | _ => none)
  | _ => none
end Mi
set_option Elab.async false
set_option linter.all false
set_option maxRecDepth 100000
set_option maxHeartbeats 4000000
namespace Mi
open PySem PySem.Spec PyProof.Rows L2
def mSubT (e o i : ME) : MS := fun ρ S => (e ρ S).thn ρ fun d S1 => (o ρ S1).thn ρ fun od S2 => (i ρ S2).thn ρ fun id S3 => match setTM od id d S3 with
  | some S4 => .nx ρ S4
  | none => .stk
end Mi
set_option Elab.async false
set_option linter.all false
set_option maxRecDepth 100000
set_option maxHeartbeats 4000000
namespace Mi
open PySem PySem.Spec PyProof.Rows L2
def mkDT (fr : Bool) (ks ds : List MV) (S : Sto) : R MV := if fr then .ok (.dcT ks ds) S else .ok (.ref S.length) (S ++ [.dcT ks ds])
def ob0 : Obj := { cls := .type "dict", data := .dict #[] }
/-- the filled dict, told -/
theorem dictT_end {W : WX} {σ : L2.St} {C0 C : RC} {S0 S : Sto} {D : Addr} {Q : VK} {fr : Bool} {ks ds : List MV} (r0 : RepS C0 S0) (hD : C0.H D = none) (g : Grow C0 (C.rb C0)) (hb : ∀ a ∈ C0.bad, a ∈ C.bad) (rs : RepS C S) (hbD : D ∈ C.bad)
    (rt : RepT C D ks ds) (h : Wants W σ C0 (mkDT fr ks ds S) (fun d _ C' => ∀ v, RepV C' d v → Q v C'.H)) : Q (.ref D) C.H := by
  have nD : D ∉ C.ι := (rs.bad D hbD).1
  have nb : D ∉ C0.bad := fun m => (r0.bad D m).2 hD
  obtain ⟨sm, ko, nd, l, z, ob, es, ep, ps, us, kvs, vs, q, ex, hd, he, hk, tk, rv, t⟩ := rt
  cases fr with
  | true =>
    have h : Wants W σ C0 (.ok (.dcT ks ds) S) (fun d _ C' => ∀ v, RepV C' d v → Q v C'.H) := h
    refine h (C.rb C0) g (rs.rb hb) (.ref D) ?_
    rw [RepV]
    exact ⟨D, rfl, ⟨nD, nb⟩, sm, ko, nd, l, z, ob, es, ep, ps, us, kvs, vs, q, ex, hd, he, hk, tk.trn (Tr.rb (C0 := C0) hb), rv, t.trn (Tr.rb (C0 := C0) hb)⟩
  | false =>
    have h : Wants W σ C0 (.ok (.ref S.length) (S ++ [.dcT ks ds])) (fun d _ C' => ∀ v, RepV C' d v → Q v C'.H) := h
    obtain ⟨g2, rs2, rv2⟩ := adopt_ok (mo := .dcT ks ds) r0 hD g hb rs hbD fun C' tr e =>
      ⟨sm, ko, nd, l, z, ob, es, ep, ps, us, kvs, vs, e.trans q, ex, hd, by rw [tr.w]; exact he, hk, tk.trn tr, rv, t.trn tr⟩
    exact h _ g2 rs2 _ rv2
theorem ext0 {P : Program} {w : World} {H : Hp} {h : Heap} {p : Addr} {ob : Obj} (e : h.get? p = some ob) : ObjOk P w H h p (.ext fun h => h.get? p = some ob) := ⟨e, ⟨_, e⟩, fun _ _ q k => k _ q⟩
section
variable {X : Cx} {W : WX} {k v : Expr} {mk mv : ME} {pos : Pos}
/-- {}, to be a dict with tuple keys -/
theorem se_dnewT {fr : Bool} : SE X W (.Dict [] [] pos) (fun _ S => mkDT fr [] [] S) := by
  refine ⟨fun pins s σ H Q I ⟨C, ρ, S, e, sv, q⟩ => ?_⟩
  subst e
  have hn : C.H s.heap.objs.size = none := I.hok.fresh Nat.le.refl
  have hg : (s.heap.push ob0).get? s.heap.objs.size = some ob0 := Heap.get?_push_size _ rfl
  refine wpAny_Dict_empty ⟨.ref s.heap.objs.size, _, I.laid (a := s.heap.objs.size) (o := .ext fun h => h.get? s.heap.objs.size = some ob0) (t' := s.toks) (fun _ _ q => Heap.get?_push_of_some _ q) (Nat.le_refl _) (ext0 hg), rfl, ?_⟩
  refine dictT_end (C := C.fillO s.heap.objs.size (.ext fun h => h.get? s.heap.objs.size = some ob0)) (fr := fr) (ks := []) (ds := []) sv.rs hn (rb_step (Grow.refl (C := C)) (fun _ m => m) (Grow.fillO hn)) (fun a m => List.mem_cons_of_mem _ m) (sv.rs.fillO hn) List.mem_cons_self ?_ q
  exact ⟨beq_eq_false_iff_ne.mpr (Ne.symm (Nat.ne_of_lt I.big)), rfl, List.nodup_nil, rfl, Nat.zero_le _, ob0, #[], 0, [], [], [], [], upd_same, ⟨rfl, rfl, rfl⟩, rfl, rfl, rfl, .nil, .nil, .nil⟩
/-- {k: v} with a tuple k -/
def mDct1T (fr : Bool) (mk mv : ME) : ME := fun ρ S => (mk ρ S).bind fun kd S1 => (mv ρ S1).bind fun d S2 => if keyT kd then mkDT fr [kd] [d] S2 else .stk
end
end Mi
set_option Elab.async false
set_option linter.all false
set_option maxRecDepth 100000
set_option maxHeartbeats 4000000
namespace Mi
open PySem PySem.Spec PyProof.Rows L2
section
variable {X : Cx} {W : WX} {a b e : Expr} {ma mb me : ME} {pos : Pos} {x : Str}
theorem se_ixT (hu : X.A.units + 65 < cLine) (hs : PlainIx b) (ha : SE X W a ma) (hb : SE X W b mb) (hf : Pure2 idxTM) : SE X W (.Subscript a b pos) (mOp idxTM ma mb) :=
  (pe_ix (ixTM hu) ha hb hs).imp fun σ H Q h => op_imp hf h
end
end Mi
set_option Elab.async false
set_option linter.all false
set_option maxRecDepth 100000
set_option maxHeartbeats 4000000
namespace Mi
open PySem PySem.Spec PyProof.Rows L2
theorem key_rep {C : RC} : ∀ k : Key, RepV C (keyMV k) (kV k)
  | .inl i => repI i
  | .inr x => repS x
theorem zip_fst {α β : Type} : ∀ (ks : List α) (vs : List β), ks.length = vs.length → (ks.zip vs).map (·.1) = ks
  | [], _, _ => by simp
  | k :: ks, [], h => by simp at h
  | k :: ks, v :: vs, h => by simp [zip_fst ks vs (by simpa using h)]
end Mi
set_option Elab.async false
set_option linter.all false
set_option maxRecDepth 100000
set_option maxHeartbeats 4000000
namespace Mi
open PySem PySem.Spec PyProof.Rows L2
/-- behind an expression its value may be told to be read only -/
def tGh (t : TE) : TE := fun σ H Q => t σ H fun x H1 => Q x H1 ∨ ∃ d u, x = .ref d ∧ H1 d = some u ∧ Mut (some u) ∧ ∀ o, Q x (upd H1 d (.frz o u))
theorem pe_gh {X : Cx} {e : Expr} {t : TE} (he : PE X e t) : PE X e (tGh t) := by
  refine ⟨fun pins s σ H Q I h => thn (he.run pins s σ H _ I h) fun v s1 ⟨x, H1, I1, rx, q⟩ => ?_⟩
  rcases q with q | ⟨d, u, ex, hd, mu, q⟩
  · exact ⟨x, H1, I1, rx, q⟩
  · obtain ⟨o, I2⟩ := I1.lock hd mu
    exact ⟨x, _, I2, rx, q o⟩
def RC.lk (C : RC) (p : Addr) (o : Obj) (kvs : List (Key × V)) : RC := C.put p (.frz o (.dK kvs))
theorem Grow.lk {C : RC} {p : Addr} {o : Obj} {kvs : List (Key × V)} (n : Froz C p) (h : C.H p = some (.dK kvs)) : Grow C (C.lk p o kvs) := by
  refine ⟨rfl, rfl, fun _ m => .inl m, fun _ m => m, fun a u _ e => ?_, fun a m => .inl m, rfl, Nat.le_refl _, Nat.le_refl _⟩
  by_cases z : a = p
  · subst z
    rw [h] at e; cases e
    exact .inr ⟨n.2, ⟨_, rfl⟩, o, upd_same⟩
  · exact .inl (show upd C.H p _ a = some u by rw [upd_ne z]; exact e)
theorem RepS.lk {C : RC} {S : Sto} {p : Addr} {o : Obj} {kvs : List (Key × V)} (r : RepS C S) (n : Froz C p) (h : C.H p = some (.dK kvs)) : RepS (C.lk p o kvs) S := by
  refine ⟨r.len, r.nd, fun a m => ⟨(r.bad a m).1, ?_⟩, fun i mo a e1 e2 => ?_⟩
  · show upd C.H p _ a ≠ none
    rw [upd_ne (fun z => n.2 (by rw [← z]; exact m))]
    exact (r.bad a m).2
  · refine (r.ob i mo a e1 e2).grow (Grow.lk n h) r ?_
    show upd C.H p _ a = C.H a
    exact upd_ne fun z => n.1 (by rw [← z]; exact List.mem_of_getElem? e2)
theorem src_dks {X : Cx} {C0 : RC} {ks : List Key} {vs : List V} {p : Addr} {o : Obj} (l : ks.length = vs.length) (h : C0.H p = some (.frz o (.dK (ks.zip vs)))) : SrcW X (.dks ks) (Itk p o (ks.zip vs)) C0 := fun C S x r _ => by
  have h' : C.H p = some (.frz o (.dK (ks.zip vs))) := x.frz _ _ _ h
  have ln : (ks.zip vs).length = ks.length := by rw [List.length_zip]; omega
  have li : (Src.dks ks).items.length = ks.length := by simp [Src.items]
  refine ⟨fun i hi => ⟨h', by rw [ln]; omega⟩, ⟨h', by rw [ln]; omega⟩, fun i z H' hi y => ?_⟩
  obtain ⟨e2, k, v, e3, e4⟩ := y
  have ek : ks[i]? = some k := by
    have := congrArg (Option.map (·.1)) e3
    rw [← List.getElem?_map, zip_fst ks vs l] at this
    exact this
  refine ⟨C, keyMV k, e2.symm, Grow.refl, r, ?_, by rw [e4]; exact key_rep k⟩
  show (ks.map keyMV)[i]? = _
  rw [List.getElem?_map, ek]; rfl
def dksOf : MV → Sto → R Src
  | .dct ks _, S => .ok (.dks ks) S
  | _, _ => .stk
def mKeys (m : ME) : Ev → Sto → R Src := fun ρ S => (m ρ S).bind dksOf
theorem si_dks {X : Cx} {W : WX} {tg l : Expr} {ml : ME} (hl : SE X W l ml) : SI X W tg l (mKeys ml) :=
  (pi_keys (pe_gh hl)).imp fun σ H Q ⟨C, ρ, S, e, s, q⟩ => by
    subst e
    unfold iKeys tGh
    refine tE.bind s q fun d S1 C1 v s1 g1 r1 q1 => ?_
    cases d with
    | dct ks ds =>
      rw [RepV] at r1
      obtain ⟨p, vs, rfl, n, hq, ll, nd, t⟩ := r1
      rcases hq with hq | ⟨o, hq⟩
      · refine .inr ⟨p, _, rfl, hq, trivial, fun o => ⟨p, o, rfl, .inl ⟨ks.zip vs, upd_same, ?_⟩⟩⟩
        exact q1 (C1.lk p o (ks.zip vs)) (Grow.lk n hq) (s1.rs.lk n hq) _ (src_dks ll upd_same)
      · exact .inl ⟨p, o, rfl, .inl ⟨ks.zip vs, hq, q1 C1 Grow.refl s1.rs _ (src_dks ll hq)⟩⟩
    | _ => exact q1.elim
end Mi
set_option Elab.async false
set_option linter.all false
set_option maxRecDepth 100000
set_option maxHeartbeats 4000000
namespace Mi
open PySem PySem.Spec PyProof.Rows L2
end Mi
set_option Elab.async false
set_option linter.all false
set_option maxRecDepth 100000
set_option maxHeartbeats 4000000
namespace Mi
open PySem PySem.Spec PyProof.Rows L2
theorem _root_.L2.PGs.imp' {X : Cx} {tg : List Expr} {t t' : TGs} (h : PGs X tg t) (k : ∀ v σ H Q, t' v σ H Q → t v σ H Q) : PGs X tg t' := ⟨fun pins s σ H v u Q I r q => h.run pins s σ H v u Q I r (k v σ H Q q)⟩
end Mi
set_option Elab.async false
set_option linter.all false
set_option maxRecDepth 100000
set_option maxHeartbeats 4000000
namespace Mi
open PySem PySem.Spec PyProof.Rows L2
end Mi
set_option Elab.async false
set_option linter.all false
set_option maxRecDepth 100000
set_option maxHeartbeats 4000000
namespace Mi
open PySem PySem.Spec PyProof.Rows L2
end Mi
set_option Elab.async false
set_option linter.all false
set_option maxRecDepth 100000
set_option maxHeartbeats 4000000
namespace Mi
open PySem PySem.Spec PyProof.Rows L2
mutual
def imm : MV → Bool
  | .non | .bl _ | .int _ | .str _ => true
  | .tup xs => imms xs
  | _ => false
def imms : List MV → Bool
  | [] => true
  | x :: xs => imm x && imms xs
end
def immX : MV → Bool
  | .obj _ _ xs => imms xs
  | .non => true
  | _ => false
def viewF (m : MF) : MF := fun ds S => match ds.mapM (frz 0 S 8) with
  | some es => (match m es [] with
    | .ok d _ => if imm d then .ok d S else .stk
    | .exc c d _ => if immX d then .exc c d S else .stk
    | .stk => .stk)
  | none => .stk
/-- what was locked meanwhile is as it was -/
def fixH (C : RC) (H : Hp) : Hp := fun a => if a ∈ C.ι then C.H a else H a
def RC.fix (C C0 : RC) : RC := { C with H := fixH C0 C.H, ι := C0.ι, bad := C0.bad }
theorem RepS.cut0 {C : RC} {S : Sto} (r : RepS C S) : RepS (C.cut 0) [] := by
  refine ⟨rfl, List.nodup_nil, fun a m => ⟨(by intro z; cases z), (r.bad a m).2⟩, fun n o a e _ => by simp at e⟩
theorem fixH_in {C : RC} {H : Hp} {a : Addr} (h : a ∈ C.ι) : fixH C H a = C.H a := if_pos h
theorem fixH_out {C : RC} {H : Hp} {a : Addr} (h : a ∉ C.ι) : fixH C H a = H a := if_neg h
/-- cells: kept, or locked -/
theorem kp_cell {C C' : RC} (g : Grow (C.cut 0) C') {a : Addr} {o : HO} (h : C.H a = some o) : C'.H a = some o ∨ (∃ kvs, o = .dK kvs) ∧ ∃ ob, C'.H a = some (.frz ob o) := by
  rcases g.kp a o (by intro m; cases m) h with k | ⟨_, k1, k2⟩
  · exact .inl k
  · exact .inr ⟨k1, k2⟩
theorem fix_back {C C' : RC} {S S' : Sto} (r : RepS C S) (g : Grow (C.cut 0) C') (r' : RepS C' S') : Grow C (C'.fix C) ∧ RepS (C'.fix C) S := by
  have kk : ∀ a o, a ∉ C.ι → C.H a = some o → Kp C (C'.fix C) a o := fun a o n e => by
    have h : (C'.fix C).H a = C'.H a := fixH_out n
    rcases g.kp a o (by intro m; cases m) e with k | ⟨nb, k1, ob, k2⟩
    · exact .inl (h.trans k)
    · exact .inr ⟨nb, k1, ob, h.trans k2⟩
  have kx : ∀ a o, a ∉ C.ι → C.H a = some o → (∀ kvs, o ≠ .dK kvs) → (C'.fix C).H a = some o := fun a o n e h => (kk a o n e).exact (.inl h)
  have na : ∀ {a u}, C.H a = some u → ((∃ xs, u = .tup xs) ∨ ∃ ob y, u = .frz ob y) → a ∉ C.ι := fun {a u} e k m => by
    obtain ⟨u', e', k1, k2, _⟩ := r.kind m
    rw [e] at e'; cases e'
    rcases k with ⟨xs, k⟩ | ⟨ob, y, k⟩
    · exact k1 _ k
    · exact k2 _ _ k
  have tr : Tr C.ι.length C (C'.fix C) := by
    refine ⟨g.w, g.K, fun a vs q => ?_, fun a u n q => ⟨n, kk a u n.1 q⟩, fun a o u q => kx a _ (na q (.inr ⟨_, _, rfl⟩)) q (fun _ z => by cases z), fun n a hn q => q⟩
    rw [show (C'.fix C).K = C.K from g.K]
    rcases q with (q | ⟨o, q⟩) | q
    · exact .inl (.inl (kx a _ (na q (.inl ⟨_, rfl⟩)) q (fun _ z => by cases z)))
    · exact .inl (.inr ⟨o, kx a _ (na q (.inr ⟨_, _, rfl⟩)) q (fun _ z => by cases z)⟩)
    · exact .inr q
  refine ⟨⟨g.w, g.K, fun a m => .inl m, fun a m => m, kk, fun a m => .inl m, rfl, Nat.le_refl _, Nat.le_refl _⟩, ⟨r.len, r.nd, fun a m => ⟨(r.bad a m).1, ?_⟩, fun n o a e1 e2 => ?_⟩⟩
  · cases e : C.H a with
    | none => exact absurd e (r.bad a m).2
    | some o => exact (kk a o (r.bad a m).1 e).nix
  · refine (r.ob n o a e1 e2).trn tr ?_
    obtain ⟨u, hu, _⟩ := (r.ob n o a e1 e2).kind
    exact fixH_in (List.mem_of_getElem? e2)
mutual
theorem imm_fix {C C' : RC} {S : Sto} (r : RepS C S) (g : Grow (C.cut 0) C') : ∀ (d : MV) (v : V), imm d = true → RepV C' d v → RepV (C'.fix C) d v
  | .non, v, _, h => by rw [RepV] at h ⊢; exact h
  | .bl _, v, _, h => by rw [RepV] at h ⊢; exact h
  | .int _, v, _, h => by rw [RepV] at h ⊢; exact h
  | .str _, v, _, h => by rw [RepV] at h ⊢; exact h
  | .tup xs, v, hi, h => by
    rw [RepV] at h ⊢
    obtain ⟨a, vs, e, q, t⟩ := h
    refine ⟨a, vs, e, ?_, imms_fix r g xs vs (by simpa [imm] using hi) t⟩
    have out : ∀ u, C'.H a = some u → ((∃ xs, u = .tup xs) ∨ ∃ ob ys, u = .frz ob (.tup ys)) → a ∉ C.ι := fun u e k m => by
      obtain ⟨u', e', k1, k2, _⟩ := r.kind m
      rcases kp_cell g e' with z | ⟨⟨kvs, z1⟩, ob, z2⟩
      · rw [z] at e; cases e
        rcases k with ⟨_, k⟩ | ⟨_, _, k⟩
        · exact k1 _ k
        · exact k2 _ _ k
      · rw [z2] at e; cases e
        rcases k with ⟨_, k⟩ | ⟨_, _, k⟩
        · cases k
        · cases k; cases z1
    rcases q with (q | ⟨o, q⟩) | q
    · exact .inl (.inl ((fixH_out (out _ q (.inl ⟨_, rfl⟩))).trans q))
    · exact .inl (.inr ⟨o, (fixH_out (out _ q (.inr ⟨_, _, rfl⟩))).trans q⟩)
    · exact .inr q
  | .lst _, _, hi, _ => by simp [imm] at hi
  | .dct _ _, _, hi, _ => by simp [imm] at hi
  | .dcT _ _, _, hi, _ => by simp [imm] at hi
  | .obj _ _ _, _, hi, _ => by simp [imm] at hi
  | .ref _, _, hi, _ => by simp [imm] at hi
  | .kls _, _, hi, _ => by simp [imm] at hi
theorem imms_fix {C C' : RC} {S : Sto} (r : RepS C S) (g : Grow (C.cut 0) C') : ∀ (ds : List MV) (vs : List V), imms ds = true → RepVs C' ds vs → RepVs (C'.fix C) ds vs
  | [], vs, _, h => by rw [h.nil_inv]; exact .nil
  | d :: ds, vs, hi, h => by
    obtain ⟨v, vr, rfl, h1, h2⟩ := h.cons_inv
    rw [imms, Bool.and_eq_true] at hi
    exact .cons (imm_fix r g d v hi.1 h1) (imms_fix r g ds vr hi.2 h2)
end
/-- the heap behind: the same state, held -/
theorem hok_fix {P : Program} {w : World} {C C' : RC} {S : Sto} {h : Heap} (r : RepS C S) (g : Grow (C.cut 0) C') (ok : HOk P w C'.H h) : HOk P w (fixH C C'.H) h := by
  have own : ∀ b a, C'.H b = some (.own a) → fixH C C'.H b = some (.own a) := fun b a q => by
    refine (fixH_out fun m => ?_).trans q
    obtain ⟨u, hu, _, _, k3, _⟩ := r.kind m
    rcases kp_cell g hu with z | ⟨_, ob, z⟩
    · rw [q] at z; cases z; exact k3 _ rfl
    · rw [q] at z; cases z
  have tup : ∀ b xs, C'.H b = some (.tup xs) → fixH C C'.H b = some (.tup xs) := fun b xs q => by
    refine (fixH_out fun m => ?_).trans q
    obtain ⟨u, hu, k1, _⟩ := r.kind m
    rcases kp_cell g hu with z | ⟨_, ob, z⟩
    · rw [q] at z; cases z; exact k1 _ rfl
    · rw [q] at z; cases z
  intro a o e
  by_cases m : a ∈ C.ι
  · rw [fixH_in m] at e
    rcases kp_cell g e with z | ⟨_, ob, z⟩
    · exact (ok a o z).stay (fun _ _ _ q => q) (fun b q => own b a q) tup
    · exact (ok a _ z).2.stay (fun _ _ _ q => q) (fun b q => own b a q) tup
  · rw [fixH_out m] at e
    exact (ok a o e).stay (fun _ _ _ q => q) (fun b q => own b a q) tup
theorem un_fix {fs : List Addr} {C C' : RC} {S : Sto} {h h' : Heap} (r : RepS C S) (u : Un fs [] C.H C'.H h h') : Un fs [] C.H (fixH C C'.H) h h' := by
  have out : ∀ b, C.H b = none → b ∉ C.ι := fun b e m => by
    obtain ⟨x, hx, _⟩ := r.kind m
    rw [e] at hx; cases hx
  refine ⟨u.keep, u.slot, fun b o e n hx => (fixH_out (out b n)).trans (u.free b o e n hx), u.there, fun b xs e => ?_, fun b o x e => ?_, fun b ps e => ?_⟩
  · by_cases m : b ∈ C.ι
    · exact (fixH_in m).trans e
    · exact (fixH_out m).trans (u.tups b xs e)
  · by_cases m : b ∈ C.ι
    · exact (fixH_in m).trans e
    · exact (fixH_out m).trans (u.frzs b o x e)
  · by_cases m : b ∈ C.ι
    · exact ⟨#[], by rw [Array.append_empty]; exact (fixH_in m).trans e⟩
    · obtain ⟨more, q⟩ := u.tbls b ps e
      exact ⟨more, (fixH_out m).trans q⟩
theorem ub_fix {fs : List Addr} {C C' : RC} {S : Sto} {h B h' : Heap} (r : RepS C S) (u : UB fs C.H C'.H h B h') : UB fs C.H (fixH C C'.H) h B h' := by
  have out : ∀ b, C.H b = none → b ∉ C.ι := fun b e m => by
    obtain ⟨x, hx, _⟩ := r.kind m
    rw [e] at hx; cases hx
  refine ⟨u.keep, u.slot, fun b o e n => (fixH_out (out b n)).trans (u.free b o e n), u.there, fun b xs e => ?_, fun b o x e => ?_, fun b ps e => ?_⟩
  · by_cases m : b ∈ C.ι
    · exact (fixH_in m).trans e
    · exact (fixH_out m).trans (u.tups b xs e)
  · by_cases m : b ∈ C.ι
    · exact (fixH_in m).trans e
    · exact (fixH_out m).trans (u.frzs b o x e)
  · by_cases m : b ∈ C.ι
    · exact ⟨#[], by rw [Array.append_empty]; exact (fixH_in m).trans e⟩
    · obtain ⟨more, q⟩ := u.tbls b ps e
      exact ⟨more, (fixH_out m).trans q⟩
theorem view_ok {P : Program} {w : World} {K : PySem.W.Frag} {mg : Str → Option Value} {base : Heap} {k n : Nat} {f : Addr} {fd : FuncData} {ps : List Str} {m : MF} (F : FnOk P w K mg base (L2.CX P w) k f fd ps (spM w K n m)) :
    FnOk P w K mg base (L2.CX P w) k f fd ps (spM w K n (viewF m)) := by
  have key : ∀ vs H Q E, spM w K n (viewF m) vs H Q E → ∃ (C : RC) (S : Sto), C.H = H ∧ RepS C S ∧
      spM w K n m vs H (fun v H' => ∃ (C' : RC) (S' : Sto), C'.H = H' ∧ Grow (C.cut 0) C' ∧ RepS C' S' ∧ Q v (fixH C H')) (fun cls dx H' => ∃ (C' : RC) (S' : Sto), C'.H = H' ∧ Grow (C.cut 0) C' ∧ RepS C' S' ∧ (∀ a, H' a = none → fixH C H' a = none) ∧ E cls dx (fixH C H')) := by
    rintro vs H Q E ⟨hl, C, S, ds, e, hw, hK, r, t, q⟩
    refine ⟨C, S, e, r, hl, C.cut 0, [], ?_⟩
    unfold viewF at q
    cases e0 : ds.mapM (frz 0 S 8) with
    | none => rw [e0] at q; exact q.elim
    | some es =>
      rw [e0] at q
      refine ⟨es, e, hw, hK, r.cut0, mapM_rep (fun d v d' h1 h2 => frz_rep r 8 d v d' h1 h2) t e0, ?_⟩
      dsimp only at q
      cases e1 : m es [] with
      | stk => rw [e1] at q; exact q
      | ok d S' =>
        rw [e1] at q
        dsimp only at q
        intro C' g r' v rv
        split at q
        · rename_i hi
          obtain ⟨h1, h2⟩ := fix_back r g r'
          exact ⟨C', S', rfl, g, r', q (C'.fix C) h1 h2 v (imm_fix r g d v hi rv)⟩
        · exact q.elim
      | exc c d S' =>
        rw [e1] at q
        dsimp only at q
        intro C' cls dx g r' xr
        split at q
        · rename_i hi
          obtain ⟨h1, h2⟩ := fix_back r g r'
          refine ⟨C', S', rfl, g, r', fun a ha => ?_, q (C'.fix C) cls dx h1 h2 ⟨xr.1.trans (by rw [show (C'.fix C).K = C'.K from rfl]), ?_⟩⟩
          · refine (fixH_out fun m => ?_).trans ha
            obtain ⟨u, hu, _⟩ := r.kind m
            rcases kp_cell g hu with z | ⟨_, ob, z⟩ <;> (rw [ha] at z; cases z)
          · rcases xr.2 with z | ⟨a, f, d', v, ed, e2, q2, t2⟩
            · exact .inl z
            · subst ed
              have hi' : imm d' = true := by simpa [immX, imms] using hi
              refine .inr ⟨a, f, d', v, rfl, e2, (fixH_out fun m => ?_).trans q2, imm_fix r g d' v hi' t2⟩
              obtain ⟨u, hu, _, _, _, k4⟩ := r.kind m
              rcases kp_cell g hu with z | ⟨_, ob, z⟩
              · rw [q2] at z; cases z; exact k4 _ rfl
              · rw [q2] at z; cases z
        · exact q.elim
  refine ⟨fun vs H Q E q => ?_, fun A outer s H args us vs Q E hr he hb hv hs => ?_⟩
  · obtain ⟨C, S, _, _, q'⟩ := key vs H Q E q
    exact F.len vs H _ _ q'
  · obtain ⟨C, S, eC, r, q'⟩ := key vs H Q E hs
    subst eC
    refine codeAny_mono (F.run A outer s C.H args us vs _ _ hr he hb hv q') fun res s' h => ?_
    cases res with
    | error x =>
      obtain ⟨a, B, H', cls, d, e1, fl, ok, ub, hn, os, gb, C', S', eH, g, r', fr, e⟩ := h
      subst eH
      exact ⟨a, B, fixH C C'.H, cls, d, e1, fl, hok_fix r g ok, ub_fix r ub, fr a hn, os, gb, e⟩
    | ok fin =>
      cases fin with
      | ret u =>
        obtain ⟨v, H', os, gb, un, ok, rv, C', S', eH, g, r', e⟩ := h
        subst eH
        exact ⟨v, fixH C C'.H, os, gb, un_fix r un, hok_fix r g ok, rv, e⟩
      | _ => exact h.elim
end Mi
set_option Elab.async false
set_option linter.all false
set_option maxRecDepth 100000
set_option maxHeartbeats 4000000
namespace Mi
open PySem PySem.Spec PyProof.Rows L2
/-- of that type, with no dict of its own -/
def IsX (X : Cx) (H : Hp) (x : V) (T : String) : Prop := ∀ (pins : List (Addr × Obj)) (s : Shared) (σ : L2.St) (v : Value), Inv X pins σ H s → RelV x v → s.TypeIs v T ∧ ∀ b, v = .ref b → ∃ ob, s.heap.get? b = some ob ∧ ob.dict = none
def tBx (X : Cx) (T : String) (r : V → List V → Hp → VK → Prop) (to : TE) (t : TA) : TE := fun σ H Q => to σ H fun x H1 => IsX X H1 x T ∧ t σ H1 fun xs H2 => r x xs H2 Q
/-- the call o.m(..) written plainly -/
structure Mth (X : Cx) (o : Expr) (name : Str) (apos : Pos) (es : List Expr) (cpos : Pos) : Prop where
  base : attributeBase o name X.env (eval o X.env) = eval o X.env
  few : ((backTo cpos (starEach es X.env)).all (fun x => !x.1) && (backToKw cpos (keywordEach [] X.env)).all (fun x => x.1.isSome) &&
    decide (es.length + ([] : List Keyword).length + (if ([] : List Keyword).isEmpty then 0 else 1) < 30)) = true
  line : (apos.endLine == cpos.line : Bool) = true
section
variable {X : Cx} {o e : Expr} {es : List Expr} {to : TE} {t : TA} {name : Str} {apos cpos : Pos} {T id : String} {r : V → List V → Hp → VK → Prop}
theorem pe_bx (pa : PlainAttrs T) (slot : Slot T name id) (hty : typeOf (.builtin id) = pure (.type "method_descriptor")) (hm : MtR X id r) (ho : PE X o to) (ha : PA X (e :: es) t) (M : Mth X o name apos (e :: es) cpos)
    (hs : starEach (e :: es) X.env = (false, eval e X.env) :: starEach es X.env) (hp : (backTo cpos (starEach es X.env)).any (·.1) = false) :
    PE X (.Call (.Attribute o name apos) (e :: es) [] cpos) (tBx X T r to t) := by
  refine ⟨fun pins s σ H Q J g => ?_⟩
  refine wpAny_Call_method_late M.base M.few M.line rfl (thn (ho.run pins s σ H _ J g) fun v s1 q => ?_)
  obtain ⟨x, H1, I1, r1, ix, q1⟩ := q
  have k := ix pins s1 σ v I1 r1
  refine ⟨T, id, pa, slot, hty, k.1, k.2, ?_⟩
  have run := ha.run cpos pins s1 σ H1 _ I1 q1
  rw [hs] at run ⊢
  refine Calls.callWith_builtin (by show (false || (backTo cpos (starEach es X.env)).any (·.1)) = false; rw [hp]; rfl) (Calls.evalArgs_plain (thn run fun us s2 q => ?_))
  obtain ⟨vs, H2, I2, r2, q2⟩ := q
  exact hm pins s2 σ H2 x vs v us Q I2 r1 r2 q2
end
/-- a method over data and the store -/
abbrev MM := MV → List MV → Sto → R MV
def rMM (X : Cx) (f : MM) : V → List V → Hp → VK → Prop := fun x xs H Q => ∃ C S d ds, C.H = H ∧ C.w = X.w ∧ C.K = X.K ∧ RepS C S ∧ RepV C d x ∧ RepVs C ds xs ∧ ∃ a S', f d ds S = .ok a S' ∧ ∀ C', Grow C C' → RepS C' S' → ∀ v, RepV C' a v → Q v C'.H
def PureM (f : MM) : Prop := ∀ d ds S c e S', f d ds S ≠ .exc c e S'
/-- the receiver's kind, seen on the data -/
def KindM (X : Cx) (kind : Sto → MV → Bool) (T : String) : Prop := ∀ (C : RC) (S : Sto) (d : MV) (v : V), C.w = X.w → C.K = X.K → RepS C S → RepV C d v → kind S d = true → IsX X C.H v T
def mBM (kind : Sto → MV → Bool) (f : MM) (o : ME) (m : MA) : ME := fun ρ S => (o ρ S).bind fun d S1 => if kind S1 d then (m ρ S1).bind fun ds S2 => f d ds S2 else .stk
section
variable {X : Cx} {W : WX} {o e : Expr} {es : List Expr} {mo : ME} {ma : MA} {name : Str} {apos cpos : Pos} {T id : String} {f : MM} {kind : Sto → MV → Bool}
theorem mm_end {C : RC} {S : Sto} {σ : L2.St} {d : MV} {ds : List MV} {Q : VK} (hf : PureM f) (q : Wants W σ C (f d ds S) fun a _ C' => ∀ v, RepV C' a v → Q v C'.H) :
    ∃ a S', f d ds S = .ok a S' ∧ ∀ C', Grow C C' → RepS C' S' → ∀ v, RepV C' a v → Q v C'.H := by
  cases e : f d ds S with
  | ok a S' => rw [e] at q; exact ⟨a, S', rfl, q⟩
  | exc c x S' => exact absurd e (hf _ _ _ _ _ _)
  | stk => rw [e] at q; exact q.elim
theorem se_bx (pa : PlainAttrs T) (slot : Slot T name id) (hty : typeOf (.builtin id) = pure (.type "method_descriptor")) (hm : MtR X id (rMM X f)) (hf : PureM f) (hk : KindM X kind T) (ho : SE X W o mo) (ha : SA X W (e :: es) ma) (M : Mth X o name apos (e :: es) cpos)
    (hs : starEach (e :: es) X.env = (false, eval e X.env) :: starEach es X.env := by rfl) (hp : (backTo cpos (starEach es X.env)).any (·.1) = false := by rfl) :
    SE X W (.Call (.Attribute o name apos) (e :: es) [] cpos) (mBM kind f mo ma) :=
  (pe_bx pa slot hty hm ho ha M hs hp).imp fun σ H Q ⟨C, ρ, S, e, s, q⟩ => by
    subst e
    refine tE.bind s q fun d S1 C1 v s1 g1 r1 q1 => ?_
    split at q1
    · rename_i hkd
      refine ⟨hk C1 S1 d v s1.w s1.K s1.rs r1 hkd, ?_⟩
      refine tA.bind s1 q1 fun ds S2 C2 vs s2 g2 r2 q2 => ?_
      exact ⟨C2, S2, d, ds, rfl, s2.w, s2.K, s2.rs, r1.grow g2 s1.rs, r2, mm_end hf q2⟩
    · exact q1.elim
def kDct (S : Sto) (d : MV) : Bool := (dctOf S d).isSome
def kDcT (S : Sto) (d : MV) : Bool := (dcTOf S d).isSome
def kStr (_ : Sto) : MV → Bool
  | .str _ => true
  | _ => false
theorem kd_str : KindM X kStr "str" := fun C S d v hw hK r h e pins s σ u I ru => by
  cases d with
  | str x => rw [RepV] at h; subst h; exact tyV_is (T := "str") I ru rfl
  | _ => cases e
theorem kd_dct : KindM X kDct "dict" := fun C S d v hw hK r h e pins s σ u I ru => by
  obtain ⟨⟨ks, ds⟩, hx⟩ := Option.isSome_iff_exists.mp e
  obtain ⟨a, vs, rfl, hd, _⟩ := dctOf_rep r h hx
  cases ru
  obtain ⟨k1, k2, _⟩ := isD_at I (.inl ⟨_, hd⟩)
  exact ⟨k1, k2⟩
theorem kd_dcT : KindM X kDcT "dict" := fun C S d v hw hK r h e pins s σ u I ru => by
  obtain ⟨⟨ks, ds⟩, hx⟩ := Option.isSome_iff_exists.mp e
  obtain ⟨b, rfl, sm, ko, nd, ll, lz, ob, es, ep, ps, us, kvs, vs, ha, ex, hd, _⟩ := dcTOf_rep r h hx
  cases ru
  have hg : s.heap.get? b = some ob := (I.hok b _ ha).1
  exact ⟨⟨ob, hg, ex.1⟩, fun c ec => by cases ec; exact ⟨ob, hg, ex.2.1⟩⟩
end
def dgetM : MM := fun d ds S => match ds with
  | [k, x] => (match dcTOf S d with
    | some (ks, vs) => if keyT k then .ok ((dlook (canons ks) vs (canon k)).getD x) S else .stk
    | none => .stk)
  | _ => .stk
theorem pu_dget : PureM dgetM := by
  intro d ds S c e S' h
  unfold dgetM at h
  repeat' split at h
  all_goals cases h
theorem mt_dget {X : Cx} (hu : X.A.units + 65 < cLine) : MtR X "dict.get" (rMM X dgetM) := by
  intro pins s σ H x xs v us Q I rx rxs rof
  obtain ⟨C, S, d, ds, rfl, hw, hK, r, h1, h2, a, S', e, q⟩ := rof
  unfold dgetM at e
  split at e
  · rename_i k y
    split at e
    · rename_i ks vs e0
      split at e
      · rename_i hk
        cases e
        obtain ⟨vk, vr, rfl, r1, r2⟩ := h2.cons_inv
        obtain ⟨vy, vn, rfl, r3, r4⟩ := r2.cons_inv
        rw [r4.nil_inv] at rxs
        cases rxs with
        | cons ry rt =>
          cases rt with
          | cons rz rn =>
            cases rn
            obtain ⟨a', b, ps, us', vs', rfl, rfl, rfl, rfl, sm, ik, hm, at'⟩ := look_T I ry rx hw hK r r1 h1 e0 hk
            refine getOr_keyed (kvs := pairsH (zipH ks ps us')) (room_n hu) ik sm ⟨_, hm, rfl⟩ ?_
            rw [valueAt_pairsH]
            cases ed : dlook (canons ks) vs (canon k) with
            | none =>
              rw [ed] at at'
              rw [at']
              rw [ed] at q
              exact ⟨vy, C.H, I.tok _, rz, q C Grow.refl r vy r3⟩
            | some d' =>
              rw [ed] at at'
              obtain ⟨p, u, w, hp, rw', rd⟩ := at'
              rw [hp]
              rw [ed] at q
              exact ⟨w, C.H, I.tok _, rw', q C Grow.refl r w rd⟩
      · cases e
    · cases e
  · cases e
def dsetdM : MM := fun d ds S => match d, ds with
  | .ref n, [k, x] => (match S[n]? with
    | some (.dcT ks vs) => if keyT k && decide (ks.length < sizeLine) then (match dlook (canons ks) vs (canon k) with
      | some y => .ok y S
      | none => .ok x (S.set n (.dcT (ks ++ [k]) (vs ++ [x])))) else .stk
    | _ => .stk)
  | _, _ => .stk
theorem pu_dsetd : PureM dsetdM := by
  intro d ds S c e S' h
  unfold dsetdM at h
  repeat' split at h
  all_goals cases h
theorem mt_dsetd {X : Cx} (hu : X.A.units + 65 < cLine) : MtR X "dict.setdefault" (rMM X dsetdM) := by
  intro pins s σ H x xs v us Q I rx rxs rof
  obtain ⟨C, S, d, ds, rfl, hw, hK, r, h1, h2, a, S', e, q⟩ := rof
  unfold dsetdM at e
  split at e
  · rename_i n k y
    split at e
    · rename_i ks vs e0
      split at e
      · rename_i hh
        rw [Bool.and_eq_true] at hh
        obtain ⟨hk, hz⟩ := hh
        have hz : ks.length < sizeLine := of_decide_eq_true hz
        have hd2 : dcTOf S (.ref n) = some (ks, vs) := by
          show (match S[n]? with
            | some (.dcT ks vs) => some (ks, vs)
            | _ => none) = _
          rw [e0]
        obtain ⟨vk, vr, rfl, r1, r2⟩ := h2.cons_inv
        obtain ⟨vy, vn, rfl, r3, r4⟩ := r2.cons_inv
        rw [r4.nil_inv] at rxs
        obtain ⟨k1, k2, kx, ek⟩ := keyT_ok hk
        obtain ⟨b, rfl, sm, ko, nd, ll, lz, ob, es, ep, ps, us', kvs, ws, ha, ex, hd, he, hkv, rk, rvs, rd⟩ := dcTOf_rep r h1 hd2
        subst hkv
        have hb : C.ι[n]? = some b := by
          rw [RepV] at h1
          obtain ⟨b', eb, h⟩ := h1
          cases eb; exact h
        cases rxs with
        | cons ry rt =>
          cases rt with
          | @cons _ u _ _ rz rn =>
            cases rn
            cases rx
            have r1' := r1
            rw [ek, RepV] at r1'
            obtain ⟨p, qs, rfl, _⟩ := r1'
            cases ry
            have lu : ks.length = us'.length := by rw [ll, rd.length, rvs.length]
            have lp : ks.length = ps.length := by have := rk.length; simpa using this
            have ko' := ko
            rw [keyTs, Bool.and_eq_true] at ko'
            have ik : (nestedKind X.prog X.w).is s.heap (nk k) p := ⟨nis_of I hK _ _ _ k1 r1 rfl, by show (nk k).depth ≤ 8; rw [dep_nk]; exact k2⟩
            have hm := dct_H I hw hK ha ex hd he ko nd rk lu
            have lenz : (zipH ks ps us').length = ks.length := by
              have := congrArg List.length (zip_keys ks ps us' lp lu)
              rw [List.length_map, nks_map, List.length_map] at this; exact this
            have at' := at_zip k1 ks ps us' vs ws ko'.1 lp rd rvs ll
            refine call_setdefault_heap (hsz := by rw [lenz]; omega) (room_n hu) ik sm hm (fun pu hp => ?_) fun hn h' hm' hs => ?_
            · cases ed : dlook (canons ks) vs (canon k) with
              | none => rw [ed] at at'; rw [at'] at hp; cases hp
              | some d' =>
                rw [ed] at at' e
                cases e
                obtain ⟨p', u', w', hp', rw', rd'⟩ := at'
                rw [hp'] at hp
                cases hp
                exact ⟨w', C.H, I.tok _, rw', q C Grow.refl r w' rd'⟩
            · cases ed : dlook (canons ks) vs (canon k) with
              | some d' =>
                rw [ed] at at'
                obtain ⟨p', u', w', hp', _⟩ := at'
                rw [hp'] at hn; cases hn
              | none =>
                rw [ed] at at' e
                cases e
                have hmem : canon k ∉ canons ks := fun z => by
                  have := (dlook_mem (canons ks) vs (by rw [canons_len]; exact ll)).mpr z
                  rw [ed] at this; cases this
                obtain ⟨ob', es', ep', ho', ex', hd', he', _, _⟩ := hm'
                have n2 : storedH (zipH ks ps us') (nk k) p u = zipH (ks ++ [k]) (ps ++ [p]) (us' ++ [u]) := by rw [storedH_new at', zip_app ks ps us' lp lu]
                have n3 : keyTs (ks ++ [k]) = true := by
                  rw [keyTs, keyOks_app, ko'.1, k1, kdeps_app]
                  have := of_decide_eq_true ko'.2
                  simp; omega
                have n4 : (canons (ks ++ [k])).Nodup := by
                  rw [canons_app, List.nodup_append]
                  refine ⟨nd, by simp, fun a ha b hb => ?_⟩
                  have e : b = canon k := by simpa using hb
                  subst e
                  intro z; subst z; exact hmem ha
                have n7 : RepVs C (ks ++ [k]) ((ps ++ [p]).map V.ref) := by
                  rw [List.map_append]
                  exact rk.append (.cons r1 .nil)
                have gw : ∀ {o : HO}, Grow C (C.put b o) := Grow.write (List.mem_of_getElem? hb)
                have n3' := n3
                rw [keyTs, Bool.and_eq_true] at n3'
                refine ⟨vy, upd C.H b (.ext fun h => h.get? b = some ob'), I.write (e := b) (by rw [ha]; trivial) (.inl rfl) (fun c u' hc hu' => (hs.2 c hc).trans hu') ⟨ob', ho'⟩ ⟨ho', ⟨ob', ho'⟩, fun h1 h2 p k => k _ p⟩, rz, ?_⟩
                refine write_ok (Q := fun H => Q vy H) (mo := .dcT (ks ++ [k]) (vs ++ [_])) r hb ?_ fun C' g r' => q C' g r' vy (r3.grow g r)
                exact ⟨sm, n3, n4, by simp [ll], by simp; omega, ob', es', ep', ps ++ [p], us' ++ [u], _, ws ++ [vy], put_same, ex', hd', by show es'.toList = entsOf C.w _ _ _; rw [he', n2, hw, ents_zip (P := X.prog) _ _ _ n3'.1], rfl, n7.grow gw r, rvs.append (.cons rz .nil), (rd.append (.cons r3 .nil)).grow gw r⟩
      · cases e
    · cases e
  · cases e
end Mi
set_option Elab.async false
set_option linter.all false
set_option maxRecDepth 100000
set_option maxHeartbeats 4000000
namespace Mi
open PySem PySem.Spec PyProof.Rows L2
def ddel {κ : Type} [DecidableEq κ] : List κ → List MV → κ → List κ × List MV
  | k' :: ks, v :: vs, k => if k' = k then ddel ks vs k else (k' :: (ddel ks vs k).1, v :: (ddel ks vs k).2)
  | _, _, _ => ([], [])
def vdel {κ : Type} [DecidableEq κ] : List κ → List V → κ → List V
  | k' :: ks, v :: vs, k => if k' = k then vdel ks vs k else v :: vdel ks vs k
  | _, _, _ => []
theorem ddel_rep {C : RC} {k : Key} : ∀ {ks : List Key} {ds : List MV} {vs : List V}, ks.length = vs.length → RepVs C ds vs →
    dropK (ks.zip vs) k = (ddel ks ds k).1.zip (vdel ks vs k) ∧ (ddel ks ds k).1.length = (vdel ks vs k).length ∧ RepVs C (ddel ks ds k).2 (vdel ks vs k) ∧ (∀ x ∈ (ddel ks ds k).1, x ∈ ks)
  | [], ds, vs, l, t => by
    have : vs = [] := List.eq_nil_of_length_eq_zero (by simpa using l.symm)
    subst this
    have : ds = [] := List.eq_nil_of_length_eq_zero (by simpa using t.length)
    subst this
    exact ⟨rfl, rfl, .nil, fun x h => by cases h⟩
  | k' :: ks, ds, [], l, t => by simp at l
  | k' :: ks, [], v :: vs, l, t => by cases t.length
  | k' :: ks, d :: ds, v :: vs, l, t => by
    obtain ⟨v', vr, e, t1, t2⟩ := t.cons_inv
    cases e
    obtain ⟨i1, i2, i3, i4⟩ := ddel_rep (k := k) (ks := ks) (by simpa using l) t2
    by_cases h : k' = k
    · rw [ddel, vdel, if_pos h, if_pos h]
      refine ⟨?_, i2, i3, fun x hx => List.mem_cons_of_mem _ (i4 x hx)⟩
      rw [← i1]
      simp [dropK, h]
    · rw [ddel, vdel, if_neg h, if_neg h]
      refine ⟨?_, by simp [i2], .cons t1 i3, fun x hx => ?_⟩
      · show dropK ((k', v) :: ks.zip vs) k = (k', v) :: ((ddel ks ds k).1.zip (vdel ks vs k))
        rw [← i1]
        simp [dropK, h]
      · rcases List.mem_cons.mp hx with e | e
        · rw [e]; exact List.mem_cons_self
        · exact List.mem_cons_of_mem _ (i4 x e)
theorem ddel_nodup {k : Key} : ∀ {ks : List Key} {ds : List MV}, ks.length = ds.length → ks.Nodup → (ddel ks ds k).1.Nodup
  | [], ds, _, _ => by
    have : ddel ([] : List Key) ds k = ([], []) := by cases ds <;> rfl
    rw [this]; exact List.nodup_nil
  | k' :: ks, [], l, _ => by simp at l
  | k' :: ks, d :: ds, l, nd => by
    have nd' := List.nodup_cons.mp nd
    have ih := ddel_nodup (k := k) (ks := ks) (ds := ds) (by simpa using l) nd'.2
    have sub : ∀ (ks : List Key) (ds : List MV), ∀ x ∈ (ddel ks ds k).1, x ∈ ks := by
      intro ks
      induction ks with
      | nil => intro ds x h; simp [ddel] at h
      | cons y ys ih =>
        intro ds x h
        cases ds with
        | nil => simp [ddel] at h
        | cons e es =>
          rw [ddel] at h
          split at h
          · exact List.mem_cons_of_mem _ (ih es x h)
          · rcases List.mem_cons.mp h with z | z
            · rw [z]; exact List.mem_cons_self
            · exact List.mem_cons_of_mem _ (ih es x z)
    rw [ddel]
    split
    · exact ih
    · exact List.nodup_cons.mpr ⟨fun m => nd'.1 (sub _ _ _ m), ih⟩
def dpopM : MM := fun d ds S => match d, ds with
  | .ref n, [k] => (match S[n]? with
    | some (.dct ks vs) => (match keyV k with
      | some j => (match dlook ks vs j with
        | some y => .ok y (S.set n (.dct (ddel ks vs j).1 (ddel ks vs j).2))
        | none => .stk)
      | none => .stk)
    | _ => .stk)
  | _, _ => .stk
theorem pu_dpop : PureM dpopM := by
  intro d ds S c e S' h
  unfold dpopM at h
  repeat' split at h
  all_goals cases h
theorem mt_dpop {X : Cx} : MtR X "dict.pop" (rMM X dpopM) := by
  intro pins s σ H x xs v us Q I rx rxs rof
  obtain ⟨C, S, d, ds, rfl, hw, hK, r, h1, h2, a, S', e, q⟩ := rof
  unfold dpopM at e
  split at e
  · rename_i n k
    split at e
    · rename_i ks vs e0
      split at e
      · rename_i j ej
        split at e
        · rename_i y ey
          cases e
          rw [RepV] at h1
          obtain ⟨p, rfl, hp⟩ := h1
          obtain ⟨ws, hv, l, nd, t⟩ := r.ob n _ p e0 hp
          obtain ⟨vk, vr, rfl, r1, r2⟩ := h2.cons_inv
          rw [r2.nil_inv] at rxs
          have ek := keyV_rep r1 ej
          subst ek
          cases rx
          cases rxs with
          | cons ry rt =>
            cases rt
            obtain ⟨z, hz, rz⟩ := (dlook_rep (k := j) (ks := ks) t).1 _ ey
            obtain ⟨i1, i2, i3, _⟩ := ddel_rep (k := j) l t
            refine d_pop I hv ry hz (.inl rfl) fun w' s' I' rw' => ⟨z, _, I', rw', ?_⟩
            have gw : ∀ {o : HO}, Grow C (C.put p o) := Grow.write (List.mem_of_getElem? hp)
            rw [i1]
            exact write_ok (Q := fun H => Q z H) (mo := .dct (ddel ks vs j).1 (ddel ks vs j).2) r hp ⟨_, put_same, i2, ddel_nodup (l.trans t.length.symm) nd, i3.grow gw r⟩ fun C' g r' => q C' g r' z (rz.grow g r)
        · cases e
      · cases e
    · cases e
  · cases e
end Mi
set_option Elab.async false
set_option linter.all false
set_option maxRecDepth 100000
set_option maxHeartbeats 4000000
namespace Mi
open PySem PySem.Spec PyProof.Rows L2
structure TabK (w : World) (K : PySem.W.Frag) (mg : Str → Option Value) (x : Str) (kvs : List (Str × Int)) : Prop where
  at_ : mg x = some (.ref (He.ga K x))
  dct : ∃ es n, KDict K w (He.ga K x) es n
  hit : ∀ z i, kvs.lookup z = some i → ∃ u, PySem.W.nsIn K (He.ga K x) z = some (some u) ∧ RelV (.int i) u
  mis : ∀ z, kvs.lookup z = none → PySem.W.nsIn K (He.ga K x) z = some none
def inW (neg : Bool) (kvs : List (Str × Int)) (m : ME) : ME := fun ρ S => (m ρ S).bind fun d S1 => match d with
  | .str z => .ok (.bl (xor neg (kvs.lookup z).isSome)) S1
  | _ => .stk
def ixW (kvs : List (Str × Int)) (m : ME) : ME := fun ρ S => (m ρ S).bind fun d S1 => match d with
  | .str z => (match kvs.lookup z with
    | some i => .ok (.int i) S1
    | none => .stk)
  | _ => .stk
def getW (kvs : List (Str × Int)) (m : ME) : ME := fun ρ S => (m ρ S).bind fun d S1 => match d with
  | .str z => (match kvs.lookup z with
    | some i => .ok (.int i) S1
    | none => .ok .non S1)
  | _ => .stk
section
variable {X : Cx} {W : WX} {e : Expr} {me : ME} {x : Str} {kvs : List (Str × Int)} {pos p apos : Pos}
theorem ns_of (T : TabK X.w X.K X.mg x kvs) (z : Str) : ∃ r, PySem.W.nsIn X.K (He.ga X.K x) z = some r ∧ r.isSome = (kvs.lookup z).isSome := by
  cases h : kvs.lookup z with
  | none => exact ⟨none, T.mis z h, rfl⟩
  | some i =>
    obtain ⟨u, hu, _⟩ := T.hit z i h
    exact ⟨some u, hu, rfl⟩
theorem inW_imp (T : TabK X.w X.K X.mg x kvs) {σ : L2.St} {H : Hp} {Q : VK} {r : R2} (neg : Bool)
    (hr : ∀ (z : Str) (o : Option Value) (H : Hp), PySem.W.nsIn X.K (He.ga X.K x) z = some o → Q (.bl (xor neg o.isSome)) H → r (.str z) (.ref (He.ga X.K x)) H Q)
    (h : tE X W (inW neg kvs me) σ H Q) : tOp r (tE X W me) (tC (.ref (He.ga X.K x))) σ H Q := by
  obtain ⟨C, ρ, S, rfl, s, q⟩ := h
  refine tE.bind s q fun d S1 C1 v s1 g1 r1 q1 => ?_
  cases d with
  | str z =>
    rw [RepV] at r1
    subst r1
    obtain ⟨o, e1, e2⟩ := ns_of T z
    refine hr z o C1.H e1 ?_
    rw [e2]
    exact q1.now s1.rs _ (repB _)
  | _ => exact q1.elim
theorem st_ninW (T : TabK X.w X.K X.mg x kvs) (hg : Gl X x) (he : SE X W e me) (hm : behindInMarks .NotIn (.Name x p) = false := by with_unfolding_all rfl) (hd : (x == ("__debug__" : Str)) = false := by decide) : ST X W (.Compare e [.NotIn] [.Name x p] pos) (mTest (inW true kvs me)) := by
  obtain ⟨es, n, D⟩ := T.dct
  refine (pt_cmpR (op_notIn_kd D) he (pe_glob (v := .ref (He.ga X.K x)) hg T.at_ rfl hd) hm).imp (tTest_imp fun σ H Q h => inW_imp T true (fun z o H1 e1 q => ⟨z, o, rfl, rfl, e1, ?_⟩) h)
  simpa using q
theorem se_ixW (T : TabK X.w X.K X.mg x kvs) (hg : Gl X x) (hs : PlainIx e) (he : SE X W e me) (hd : (x == ("__debug__" : Str)) = false := by decide) : SE X W (.Subscript (.Name x p) e pos) (ixW kvs me) := by
  obtain ⟨es, n, D⟩ := T.dct
  refine (pe_ix ix_kdict (pe_glob (v := .ref (He.ga X.K x)) hg T.at_ rfl hd) he hs).imp fun σ H Q ⟨C, ρ, S, eH, s, q⟩ => ?_
  subst eH
  unfold tOp tC
  refine tE.bind s q fun d S1 C1 v s1 g1 r1 q1 => ?_
  cases d with
  | str z =>
    rw [RepV] at r1
    subst r1
    dsimp only at q1
    cases h : kvs.lookup z with
    | none => rw [h] at q1; exact q1.elim
    | some i =>
      rw [h] at q1
      obtain ⟨u, hu, ru⟩ := T.hit z i h
      exact ⟨He.ga X.K x, z, .int i, rfl, rfl, ⟨es, n, u, D.at_, D.lit, hu, ru⟩, q1.now s1.rs _ (repI _)⟩
  | _ => exact q1.elim
/-- SIZES.get(e) -/
theorem se_getW (T : TabK X.w X.K X.mg x kvs) (hg : Gl X x) (he : SE X W e me) (M : Mth X (.Name x p) "get" apos [e] pos) (hd : (x == ("__debug__" : Str)) = false := by decide)
    (hs : starEach [e] X.env = (false, eval e X.env) :: starEach [] X.env := by rfl) (hp : (backTo pos (starEach [] X.env)).any (·.1) = false := by rfl) : SE X W (.Call (.Attribute (.Name x p) "get" apos) [e] [] pos) (getW kvs me) := by
  obtain ⟨es, n, D⟩ := T.dct
  let r : V → List V → Hp → VK → Prop := fun y vs H Q => ∃ z, y = .ref (He.ga X.K x) ∧ vs = [.str z] ∧ (∀ i, kvs.lookup z = some i → Q (.int i) H) ∧ (kvs.lookup z = none → Q .non H)
  have hm : MtR X "dict.get" r := by
    rintro pins s σ H y vs v us Q I ry rvs ⟨z, rfl, rfl, q1, q2⟩
    cases ry
    cases rvs with
    | cons rz rn =>
      cases rn
      obtain ⟨t, rfl⟩ := rz
      have mo := PySem.W.mapOf_K (prog := X.prog) (w := X.w) I.kIn D.at_ D.lit
      refine call_meetsIn PySem.F.slot_dict_get mo.typeIs PySem.F.entry_dict_get (PySem.F.args_dict_get_2 _ _) (meets_dict_get (strKind X.prog X.w) (He.ga X.K x) (PySem.strKind_is X.prog X.w z t) D.low) ⟨_, mo, ?_⟩
      cases h : kvs.lookup z with
      | none =>
        rw [PySem.W.find_K D.at_ (T.mis z h)]
        exact ⟨.non, H, I.tok _, rfl, q2 h⟩
      | some i =>
        obtain ⟨u, hu, ru⟩ := T.hit z i h
        rw [PySem.W.find_K D.at_ hu]
        exact ⟨.int i, H, I.tok _, ru, q1 i h⟩
  refine (pe_bx PySem.F.plainAttrs_dict PySem.F.slot_dict_get PySem.F.type_dict_get hm (pe_glob (v := .ref (He.ga X.K x)) hg T.at_ rfl hd) (pa_cons he pa_nil hs) M hs hp).imp fun σ H Q ⟨C, ρ, S, eH, s, q⟩ => ?_
  subst eH
  refine ⟨fun pins s1 σ1 v I rv => ?_, ?_⟩
  · cases rv
    refine ⟨kd_type D I, fun b eb => ?_⟩
    cases eb
    exact ⟨_, I.kIn _ _ D.at_, rfl⟩
  · show tE X W me σ C.H _
    refine tE.bind s q fun d S1 C1 v s1 g1 r1 q1 => ?_
    cases d with
    | str z =>
      rw [RepV] at r1
      subst r1
      dsimp only at q1
      refine ⟨z, rfl, rfl, fun i h => ?_, fun h => ?_⟩
      · rw [h] at q1; exact q1.now s1.rs _ (repI _)
      · rw [h] at q1; exact q1.now s1.rs _ repN
    | _ => exact q1.elim
end
theorem tab_find {z : Str} : ∀ {es : List DictEntry} {kvs : List (Str × Int)}, es.map (fun e => (match e.key with
    | .str y _ => some y
    | _ => none)) = kvs.map (fun p => some p.1) → ((es.zip kvs).all fun q => (match q.1.val with
    | .int j _ => decide (j = q.2.2)
    | _ => false)) = true →
    (match kvs.lookup z with
      | some i => ∃ e, es.find? (fun e => e.key.isStr z) = some e ∧ RelV (.int i) e.val
      | none => es.find? (fun e => e.key.isStr z) = none ∧ es.any (fun e => e.refKey) = false)
  | [], [], _, _ => by simp
  | [], _ :: _, hq, _ => by cases hq
  | _ :: _, [], hq, _ => by cases hq
  | e :: es, p :: kvs, h, h2 => by
    rw [List.map_cons, List.map_cons, List.cons.injEq] at h
    rw [List.zip_cons_cons, List.all_cons, Bool.and_eq_true] at h2
    have ih := tab_find (z := z) h.2 h2.2
    obtain ⟨k, i⟩ := p
    have hk : ∃ t, e.key = .str k t := by
      have h1 := h.1
      split at h1
      · rename_i y t ey
        cases h1
        exact ⟨t, ey⟩
      · cases h1
    obtain ⟨t, hk⟩ := hk
    have hv : RelV (.int i) e.val := by
      have h3 := h2.1
      split at h3
      · rename_i j t ej
        have ej : e.val = .int j t := ej
        have : j = i := of_decide_eq_true h3
        rw [ej, ← this]; exact ⟨t, rfl⟩
      · cases h3
    have is_ : e.key.isStr z = decide (k = z) := by
      rw [hk]
      show (k == z) = _
      by_cases hz : k = z <;> simp [hz]
    rw [List.lookup_cons, List.find?_cons, is_]
    by_cases hz : k = z
    · subst hz
      simp only [beq_self_eq_true, decide_true]
      exact ⟨e, rfl, hv⟩
    · have : (z == k) = false := by simpa using fun e => hz e.symm
      rw [this, decide_eq_false hz]
      dsimp only
      cases hl : kvs.lookup z with
      | some i' =>
        rw [hl] at ih
        exact ih
      | none =>
        rw [hl] at ih
        refine ⟨ih.1, ?_⟩
        rw [List.any_cons, ih.2]
        have : e.refKey = false := by
          unfold DictEntry.refKey
          rw [hk]
        rw [this]; rfl
theorem tab_ok {w : World} {K : PySem.W.Frag} {mg : Str → Option Value} {x : Str} {kvs : List (Str × Int)} (h : tabB K x kvs = true) (a : mg x = some (.ref (He.ga K x))) (d : ∃ es n, KDict K w (He.ga K x) es n) : TabK w K mg x kvs := by
  obtain ⟨es, n, D⟩ := d
  unfold tabB at h
  rw [D.at_] at h
  rw [Bool.and_eq_true] at h
  have h1 := of_decide_eq_true h.1
  refine ⟨a, ⟨es, n, D⟩, fun z i hz => ?_, fun z hz => ?_⟩
  · have := tab_find (z := z) h1 h.2
    rw [hz] at this
    obtain ⟨e, he, hv⟩ := this
    refine ⟨e.val, ?_, hv⟩
    unfold PySem.W.nsIn
    rw [D.at_]
    dsimp only
    rw [he]
  · have := tab_find (z := z) h1 h.2
    rw [hz] at this
    unfold PySem.W.nsIn
    rw [D.at_]
    dsimp only
    rw [this.1]
    dsimp only
    rw [this.2]; rfl
end Mi
set_option Elab.async false
set_option linter.all false
set_option maxRecDepth 100000
set_option maxHeartbeats 4000000
namespace Mi
open PySem PySem.Spec PyProof.Rows L2
section
variable {prog : Program} {w : World} {A : Around} {E : Value → Shared → Prop} {s : Shared} {K : PySem.W.Frag} {x C f : Addr} {ox : Obj} {odd : Option Obj}
theorem len_own {Q : Value → Shared → Prop} (X : K.In s.heap) (I : PySem.W.InstAt s.heap x ox C odd) (hs : PySem.W.findIn K (.ref C) "__len__" = some (some (.ref f))) (hf : PySem.W.isFn K (.ref f) = true)
    (h : wpAny (model prog w) A.in1 (call (.ref f) [.ref x]) (fun r s1 => ∃ n t, r = Value.int n t ∧ 0 ≤ n ∧ n < 2 ^ 63 ∧ Q (.int n s1.toks) { s1 with toks := s1.toks + 1 }) E s) : wpAny (model prog w) A (call (.builtin "len") [.ref x]) Q E s := by
  have cs : wpAny (model prog w) A.in1 (callSpecial? (.ref x) (Str.ofString "__len__")) (fun r s1 => ∃ n t, r = some (Value.int n t) ∧ 0 ≤ n ∧ n < 2 ^ 63 ∧ Q (.int n s1.toks) { s1 with toks := s1.toks + 1 }) E s := by
    have last : wpAny (model prog w) A.in1 (call (.ref f) [.ref x] >>= fun v => pure (some v)) (fun r s1 => ∃ n t, r = some (Value.int n t) ∧ 0 ≤ n ∧ n < 2 ^ 63 ∧ Q (.int n s1.toks) { s1 with toks := s1.toks + 1 }) E s :=
      wpAny_bind (wpAny_mono h (fun v s1 ⟨n, t, e, u⟩ => wpAny_pure ⟨n, t, congrArg some e, u⟩) fun v s1 z => z)
    unfold callSpecial? specialOf
    apply wpAny_bind
    apply wpAny_bind
    apply I.type.here
    apply (PySem.W.looks_findIn X hs).here
    apply wpAny_holding
    apply wpAny_bind
    apply (PySem.W.bind_fn X _ (beq_iff_eq.mp hf)).here
    exact last
  apply Calls.call_function_entry kind_len plain_len entry_len (args_len1 _)
  show wpAny _ _ (Builtin.«len» _) _ _ _; unfold Builtin.«len»
  apply wpAny_bind (m := oneArg "len" _)
  apply wpAny_pure
  apply wpAny_bind (m := callSpecial? (.ref x) (Str.ofString "__len__"))
  apply wpAny_mono cs _ (fun v s1 z => z)
  rintro v s1 ⟨n, t, rfl, lo, hi, u⟩
  apply wpAny_bind
  apply wpAny_holding
  apply wpAny_pure
  apply wpAny_bind
  apply wpAny_letGo
  have nlo : ¬ n < 0 := by omega
  have nhi : ¬ n ≥ 2 ^ 63 := by omega
  show wpAny (model prog w) _ (if n < 0 then _ else _) _ E s1; rw [if_neg nlo]
  show wpAny (model prog w) _ (if n ≥ 2 ^ 63 then _ else _) _ E s1; rw [if_neg nhi]
  exact wpAny_bind (wpAny_mkInt (wpAny_pure ⟨_, rfl, u⟩))
end
def lenO (c : Str) (m : MF) : List MV → Sto → R MV
  | [d], S => (match objOf S d with
    | some (c', _, _) => if c' = c then ((m [d] S).calm.bind fun r S' => match r with
      | .int i => if 0 ≤ i ∧ i < 1000000000 then .ok (.int i) S' else .stk
      | _ => .stk) else .stk
    | none => .stk)
  | _, _ => .stk
theorem pu_lenO {c : Str} {m : MF} : Pure1 (lenO c m) := by
  intro ds S e d S' h
  unfold lenO at h
  split at h
  · rename_i d0
    split at h
    · split at h
      · cases q : m [d0] S with
        | exc a b T => rw [q] at h; cases h
        | stk => rw [q] at h; cases h
        | ok r T =>
          rw [q, R.calm_ok, R.bind_ok] at h
          split at h
          · split at h <;> cases h
          · cases h
      · cases h
    · cases h
  · cases h
section
variable {X : Cx} {k : Nat} {c : Str} {m : MF} {f : Addr} {fd : FuncData} {ps : List Str}
/-- a def run below a built-in -/
theorem run_in {pins : List (Addr × Obj)} {s : Shared} {σ : L2.St} {H : Hp} {Q : VK} {us : List Value} {vs : List V} (F : FnOk X.prog X.w X.K X.mg X.base (L2.CX X.prog X.w) k f fd ps (spM X.w X.K vs.length m)) (hr : Room k X.A.in1) (hb : Binds X.K fd ps [])
    (I : Inv X pins σ H s) (r : Vals vs us) (h : spM X.w X.K vs.length m vs H Q (fun _ _ _ => False)) : wpAny (model X.prog X.w) X.A.in1 (call (.ref f) us) (EP X pins σ Q) X.xe s := by
  have sz : (us ++ []).length = ps.length := by rw [List.append_nil, ← r.length]; exact F.len vs H Q _ h
  have bs := hb s us I.kIn sz
  rw [List.append_nil] at bs
  refine wpAny_call (codeAny_mono (F.run X.A.in1 X.stack s H ⟨us, []⟩ us vs Q (fun _ _ _ => False) hr I.env0.in1 bs r h) fun res s' hq => ?_)
  cases res with
  | error e =>
    obtain ⟨_, _, _, _, _, _, _, _, _, _, _, _, z⟩ := hq
    exact z.elim
  | ok fl =>
    cases fl with
    | ret u => exact I.after hq
    | _ => exact False.elim hq
theorem crM_lenO (F : FnOk X.prog X.w X.K X.mg X.base (L2.CX X.prog X.w) k f fd ps (spM X.w X.K 1 m)) (hr : Room (k + 1) X.A) (hs : PySem.W.findIn X.K (.ref (He.ga X.K c)) "__len__" = some (some (.ref f))) (hf : PySem.W.isFn X.K (.ref f) = true) (hb : Binds X.K fd ps []) :
    CallR X (.builtin "len") (rCf X (lenO c m)) := by
  intro pins s σ H vs us Q I rv rof
  obtain ⟨C, S, ds, rfl, hw, hK, r, t, a, S', e, q⟩ := rof
  unfold lenO at e
  split at e
  · rename_i d
    obtain ⟨v, rfl, h1⟩ := one_of t
    split at e
    · rename_i c1 f1 v1 e1
      split at e
      · rename_i hc
        subst hc
        obtain ⟨p, dx, ws, rfl, hp, _⟩ := objOf_rep r h1 e1
        cases rv with
        | cons r1 rn =>
          cases rn
          cases r1
          rw [hK] at hp
          obtain ⟨_, at1, _⟩ := ins_get I.hok hp
          obtain ⟨_, look1, _⟩ := at1.look
          have hsp : spM X.w X.K 1 m [.ref p] C.H (fun v H' => (∃ i : Int, v = .int i ∧ 0 ≤ i ∧ i < 1000000000) ∧ Q v H') (fun _ _ _ => False) := by
            refine ⟨rfl, C, S, [d], rfl, hw, hK, r, .cons h1 .nil, ?_⟩
            cases e3 : m [d] S with
            | exc c d S' => rw [e3] at e; cases e
            | stk => rw [e3] at e; cases e
            | ok r1 S1 =>
              rw [e3, R.calm_ok, R.bind_ok] at e
              cases r1 with
              | int i =>
                dsimp only at e
                split at e
                · rename_i hi
                  cases e
                  exact fun C' g' r' v' rv' => ⟨⟨i, by rw [RepV] at rv'; exact rv', hi.1, hi.2⟩, q C' g' r' v' rv'⟩
                · cases e
              | _ => cases e
          refine len_own I.kIn look1 hs hf (wpAny_mono (run_in (vs := [.ref p]) (us := [.ref p]) F (Room.in1 hr) hb I (.cons rfl .nil) hsp) ?_ fun _ _ z => z)
          rintro u' s' ⟨v', H', I', rz, ⟨i, rfl, h0, h9⟩, ex⟩
          obtain ⟨tk, rfl⟩ := (show ∃ tk, u' = Value.int i tk from rz)
          exact ⟨i, tk, rfl, h0, by omega, .int i, H', I'.tok _, ⟨_, rfl⟩, ex⟩
      · cases e
    · cases e
  · cases e
theorem crM_lenN {j : Nat} (h : MN X.prog X.w X.K X.mg X.base k 1 c "__len__" m) (hm : Meth X.K (He.ga X.K c) "__len__" (He.ma X.K (He.ga X.K c) "__len__")) (hr : Room j X.A) (hj : k + 1 ≤ j) : CallR X (.builtin "len") (rCf X (lenO c m)) := by
  obtain ⟨fd, ps, F, h3⟩ := h
  exact crM_lenO F (hr.mono hj) hm.at_ hm.fn h3
end
end Mi
set_option Elab.async false
set_option linter.all false
set_option maxRecDepth 100000
set_option maxHeartbeats 4000000
namespace Mi
open PySem PySem.Spec PyProof.Rows L2
end Mi
set_option Elab.async false
set_option linter.all false
set_option maxRecDepth 100000
set_option maxHeartbeats 4000000
namespace Mi
open PySem PySem.Spec PyProof.Rows L2
def txtsOf : List MV → Option (List Str)
  | [] => some []
  | .str x :: xs => (txtsOf xs).map (x :: ·)
  | _ :: _ => none
theorem txtsOf_eq : ∀ {xs : List MV} {ys : List Str}, txtsOf xs = some ys → xs = ys.map .str
  | [], ys, h => by cases h; rfl
  | .str x :: xs, ys, h => by
    rw [txtsOf] at h
    cases e : txtsOf xs with
    | none => simp [e] at h
    | some zs => rw [e] at h; cases h; rw [txtsOf_eq e]; rfl
  | .non :: _, _, h => by cases h
  | .bl _ :: _, _, h => by cases h
  | .int _ :: _, _, h => by cases h
  | .tup _ :: _, _, h => by cases h
  | .lst _ :: _, _, h => by cases h
  | .dct _ _ :: _, _, h => by cases h
  | .dcT _ _ :: _, _, h => by cases h
  | .obj _ _ _ :: _, _, h => by cases h
  | .ref _ :: _, _, h => by cases h
  | .kls _ :: _, _, h => by cases h
@[simp] theorem txtsOf_map : ∀ ys : List Str, txtsOf (ys.map .str) = some ys
  | [] => rfl
  | y :: ys => by rw [List.map_cons, txtsOf, txtsOf_map ys]; rfl
theorem strs_rep {C : RC} : ∀ {ys : List Str} {vs : List V}, RepVs C (ys.map .str) vs → vs = ys.map V.str
  | [], vs, h => h.nil_inv
  | y :: ys, vs, h => by
    obtain ⟨v, vr, rfl, h1, h2⟩ := h.cons_inv
    rw [vStr h1, strs_rep h2]; rfl
theorem rep_strs {C : RC} : ∀ ys : List Str, RepVs C (ys.map .str) (ys.map V.str)
  | [] => .nil
  | y :: ys => .cons (repS y) (rep_strs ys)
def joinFit (a : Str) (ys : List Str) : Bool := Nat.ble ((ys.map (·.length)).sum + ys.length * a.length) 16777216
def joinM : MM := fun d ds S => match d, ds with
  | .str a, [e] => (match seqOf S e with
    | some xs => (match txtsOf xs with
      | some ys => if joinFit a ys then .ok (.str (Txt.join a ys)) S else .stk
      | none => .stk)
    | none => .stk)
  | _, _ => .stk
theorem pu_join : PureM joinM := by
  intro d ds S c e S' h
  unfold joinM at h
  repeat' split at h
  all_goals cases h
theorem mt_joinM {X : Cx} : MtR X "str.join" (rMM X joinM) := by
  intro pins s σ H x xs v us Q I rx rxs rof
  obtain ⟨C, S, d, ds, rfl, hw, hK, r, h1, h2, a, S', e, q⟩ := rof
  unfold joinM at e
  split at e
  · rename_i b f
    split at e
    · rename_i zs e0
      split at e
      · rename_i ys e1
        split at e
        · rename_i hf
          cases e
          obtain ⟨v2, rfl, h3⟩ := one_of h2
          obtain ⟨p, ws, rfl, sq, tt⟩ := seqOf_rep r h3 e0
          rw [hK] at sq
          rw [txtsOf_eq e1] at tt
          rw [strs_rep tt] at sq
          cases vStr h1
          exact mt_join pins s σ C.H _ _ v us Q I rx rxs ⟨b, p, ys, rfl, rfl, sq, Nat.le_of_ble_eq_true hf, q C Grow.refl r _ (repS _)⟩
        · cases e
      · cases e
    · cases e
  · cases e
def splitM : MM := fun d ds S => match d, ds with
  | .str a, [.str b] => if !(b.length == 0) && Nat.ble (a.length + 2) sizeLine then .ok (.lst ((Txt.split a b).map .str)) S else .stk
  | _, _ => .stk
theorem pu_split : PureM splitM := by
  intro d ds S c e S' h
  unfold splitM at h
  repeat' split at h
  all_goals cases h
theorem mt_splitM {X : Cx} : MtR X "str.split" (rMM X splitM) := by
  intro pins s σ H x xs v us Q I rx rxs rof
  obtain ⟨C, S, d, ds, rfl, hw, hK, r, h1, h2, a, S', e, q⟩ := rof
  unfold splitM at e
  split at e
  · rename_i z b
    split at e
    · rename_i hh
      obtain ⟨hb, hz⟩ := Bool.and_eq_true_iff.mp hh
      cases e
      obtain ⟨v2, rfl, h3⟩ := one_of h2
      cases vStr h1; cases vStr h3
      exact mt_split pins s σ C.H _ _ v us Q I rx rxs ⟨z, b, rfl, rfl, by simpa using hb, Nat.le_of_ble_eq_true hz, newLst r (rep_strs _) q⟩
    · cases e
  · cases e
theorem log2_fit {n : Nat} (h : n < 1000000000) : n.log2 < 1920 := by
  by_cases z : n = 0
  · subst z; decide
  · exact Nat.lt_of_lt_of_le ((Nat.log2_lt z).mpr (show n < 2 ^ 30 by omega)) (by decide)
theorem crM_str {X : Cx} : CallR X (.type "str") (rCf X strM) := by
  intro pins s σ H vs us Q I rv h
  obtain ⟨C, S, ds, rfl, hw, hK, r, t, a, S', e, q⟩ := h
  unfold strM at e
  split at e
  · split at e
    · rename_i hf
      cases e
      obtain ⟨v, rfl, h1⟩ := one_of t
      cases vInt h1
      exact call_str_int pins s σ C.H _ us Q I rv ⟨_, rfl, log2_fit hf, q C Grow.refl r _ (repS _)⟩
    · cases e
  · cases e
    obtain ⟨v, rfl, h1⟩ := one_of t
    cases vStr h1
    exact SkE.call_str_str pins s σ C.H _ us Q I rv ⟨_, rfl, q C Grow.refl r _ (repS _)⟩
  · cases e
theorem pu_str : Pure1 strM := by
  intro ds S c d S' h
  unfold strM at h
  repeat' split at h
  all_goals cases h
def intTM : List MV → Sto → R MV
  | [.str a], S => match PySem.intText? a with
    | some n => if Nat.ble a.length 640 then .ok (.int n) S else .stk
    | none => .stk
  | _, _ => .stk
theorem crM_intT {X : Cx} : CallR X (.type "int") (rCf X intTM) := by
  intro pins s σ H vs us Q I rv h
  obtain ⟨C, S, ds, rfl, hw, hK, r, t, a, S', e, q⟩ := h
  unfold intTM at e
  split at e
  · split at e
    · rename_i n hn
      split at e
      · rename_i hl
        cases e
        obtain ⟨v, rfl, h1⟩ := one_of t
        cases vStr h1
        exact call_int_str pins s σ C.H _ us Q I rv ⟨_, n, rfl, hn, Nat.le_of_ble_eq_true hl, q C Grow.refl r _ (repI _)⟩
      · cases e
    · cases e
  · cases e
theorem pu_intT : Pure1 intTM := by
  intro ds S c d S' h
  unfold intTM at h
  repeat' split at h
  all_goals cases h
def inSM : MV → MV → Sto → R MV
  | .str ⟨⟨[c]⟩⟩, .str z, S => .ok (.bl (decide (c ∈ z.cps.toList))) S
  | _, _, _ => .stk
theorem opM_inS {X : Cx} : OpR X (compareOp .In) (rOf X inSM) := by
  intro pins s σ H x y v u Q I rx ry rof
  obtain ⟨C, S, d1, d2, rfl, hw, hK, r, h1, h2, a, S', e, q⟩ := rof
  unfold inSM at e
  split at e
  · cases e
    cases vStr h1; cases vStr h2
    exact op_in_sign pins s σ C.H _ _ v u Q I rx ry ⟨_, _, rfl, rfl, q C Grow.refl r _ (repB _)⟩
  · cases e
theorem pu_inS : Pure2 inSM := by
  intro a b S c d S' h
  unfold inSM at h
  split at h <;> cases h
def signs (x : Str) : List MV := x.cps.toList.map fun c => .str ⟨#[c]⟩
def sgnOf : MV → Sto → R Src
  | .str x, S => .ok (.dkt (signs x)) S
  | _, _ => .stk
def mSigns (m : ME) : Ev → Sto → R Src := fun ρ S => (m ρ S).bind sgnOf
theorem src_sgn {X : Cx} {C0 : RC} {x : Str} : SrcW X (.dkt (signs x)) (Its x) C0 := fun C S _ r _ => by
  have ln : (signs x).length = x.cps.size := by simp [signs]
  refine ⟨fun i hi => ?_, ?_, fun i z H' hi y => ?_⟩
  · show i < x.cps.size
    rw [← ln]; exact hi
  · show x.cps.size ≤ (signs x).length
    rw [ln]; exact Nat.le_refl _
  · obtain ⟨e2, c, e3, e4⟩ := y
    refine ⟨C, .str ⟨#[c]⟩, e2.symm, Grow.refl, r, ?_, by rw [e4]; exact repS _⟩
    show (signs x)[i]? = _
    unfold signs
    rw [List.getElem?_map, Array.getElem?_toList, e3]; rfl
theorem si_sgn {X : Cx} {W : WX} {tg l : Expr} {ml : ME} (hl : SE X W l ml) : SI X W tg l (mSigns ml) :=
  (pi_str hl).imp fun σ H Q ⟨C, ρ, S, e, s, q⟩ => by
    subst e
    refine tE.bind s q fun d S1 C1 v s1 g1 r1 q1 => ?_
    cases d with
    | str x => exact ⟨x, vStr r1, q1.now s1.rs _ src_sgn⟩
    | _ => exact q1.elim
end Mi
set_option Elab.async false
set_option linter.all false
set_option maxRecDepth 100000
set_option maxHeartbeats 4000000
namespace Mi
open PySem PySem.Spec PyProof.Rows L2
/-- the class c, with others told apart -/
def manyC (c : Str) (rest : List Str) : Str → Option Bool := fun c' => if c' = c then some true else if c' ∈ rest then some false else none
theorem manyC_ok {K : PySem.W.Frag} {c : Str} {rest : List Str} (x : PySem.W.exmOne K (.ref (He.ga K c)) (.ref (He.ga K c)) = some true)
    (y : ∀ r ∈ rest, PySem.W.exmOne K (.ref (He.ga K r)) (.ref (He.ga K c)) = some false) : ∀ c' b, manyC c rest c' = some b → PySem.W.exmOne K (.ref (He.ga K c')) (.ref (He.ga K c)) = some b := fun c' b h => by
  unfold manyC at h
  by_cases e : c' = c
  · rw [if_pos e] at h; cases h; rw [e]; exact x
  · rw [if_neg e] at h
    by_cases m : c' ∈ rest
    · rw [if_pos m] at h; cases h; exact y c' m
    · rw [if_neg m] at h; cases h
theorem manyC_is {c : Str} {rest : List Str} : ∀ c', manyC c rest c' = some true → c' = c := fun c' h => by
  unfold manyC at h
  by_cases e : c' = c
  · exact e
  · rw [if_neg e] at h
    by_cases m : c' ∈ rest
    · rw [if_pos m] at h; cases h
    · rw [if_neg m] at h; cases h
def mHds : List ((Str → Option Bool) × MS) → Str → MV → MS
  | [], c, d => fun ρ S => .exc c d ρ S
  | (ct, su) :: r, c, d => fun ρ S => match ct c with
    | some true => (su ρ S).calm
    | some false => mHds r c d ρ S
    | none => .stk
def mTryN (hs : List ((Str → Option Bool) × MS)) (body : MS) : MS := fun ρ S => match body ρ S with
  | .exc c d ρ1 S1 => mHds hs c d ρ1 S1
  | r => r
inductive HdsM (X : Cx) : List ExceptHandler → List ((Str → Option Bool) × MS) → Prop
  | nil : HdsM X [] []
  | cons {x : Str} {c : Value} {b₀ : Stmt} {suite : List Stmt} {np pos' : Pos} {hds : List ExceptHandler} {l : List ((Str → Option Bool) × MS)} {ct : Str → Option Bool} {ms : MS} (hc : Names X x c)
      (hct : ∀ c' b, ct c' = some b → PySem.W.exmOne X.K (.ref (He.ga X.K c')) c = some b) (hsu : ∀ (a : Addr) (pn : List (Addr × Obj)), SSs (X.suite a pn) WNo (b₀ :: suite) ms) (r : HdsM X hds l) :
      HdsM X (.ExceptHandler (some (.Name x np)) none (b₀ :: suite) pos' :: hds) ((ct, ms) :: l)
section
variable {X : Cx} {W : WX} {body : List Stmt} {h₀ : ExceptHandler} {hds : List ExceptHandler} {l : List ((Str → Option Bool) × MS)} {pos : Pos} {mb : MS}
theorem HdsM.ok (h : HdsM X hds l) : ∃ L, HdsOk X hds L ∧ ∀ (D : Ends) (C : RC) (ρ : Ev) (S : Sto) (σ : L2.St) (c : Str) (d : MV) (cls : Value) (dx : Option Addr), cls = .ref (He.ga X.K c) → Sv X ρ σ S C → (∀ {r : RS}, WantS W D C r → r = .exc c d ρ S → W cls dx σ C.H) →
    WantS W D C (mHds l c d ρ S) → wMany X.K W D L cls dx σ C.H := by
  induction h with
  | nil =>
    refine ⟨[], .nil, fun D C ρ S σ c d cls dx ec s k q => ?_⟩
    exact k q rfl
  | @cons x c b₀ suite np pos' hds l ct ms hc hct hsu r ih =>
    obtain ⟨L, h1, h2⟩ := ih
    refine ⟨(c, fun _ _ _ => tS X WNo ms) :: L, .cons hc (fun a oe cls d pn _ _ => (hsu a ((a, oe) :: pn)).imp fun D σ H h => tS.to (X := X) (X' := X.suite a ((a, oe) :: pn)) rfl rfl h) h1, fun D C ρ S σ c' d cls dx ec s k q => ?_⟩
    rw [mHds] at q
    cases eb : ct c' with
    | none => rw [eb] at q; exact q.elim
    | some b =>
      rw [eb] at q
      refine ⟨b, by rw [ec]; exact hct c' b eb, fun hb1 a ha => ?_, fun hb0 => ?_⟩
      · subst hb1
        exact ⟨C, ρ, S, rfl, s, WantS.calm q⟩
      · subst hb0
        exact h2 D C ρ S σ c' d cls dx ec s k q
theorem ss_tryN (hs : X.stack = X.env :: X.outer) (hf : X.env.frame = some X.env.locals) (tk : Takes X W) (hh : HdsM X (h₀ :: hds) l)
    (hb : ∀ (W : WX) (pn : List (Addr × Obj)) (xe : Value → Shared → Prop), Takes (X.tr pn xe) W → PassesOwn (model X.prog X.w) X.A X.env xe → SSs (X.tr pn xe) W body mb) :
    SS X W (.Try body (h₀ :: hds) [] [] pos) (mTryN l mb) := by
  obtain ⟨L, h1, h2⟩ := hh.ok (W := W)
  refine (ps_try_many (tb := fun W => tS X W mb) hs hf tk (fun W pn xe t p => (hb W pn xe t p).imp fun D σ H h => tS.to (X := X) (X' := X.tr pn xe) rfl rfl h) h1).imp fun D σ H ⟨C, ρ, S, e, s, q⟩ => ?_
  subst e
  refine ⟨C, ρ, S, rfl, s, ?_⟩
  unfold mTryN at q
  cases e : mb ρ S with
  | nx ρ1 S1 => rw [e] at q; exact q
  | rt d S1 => rw [e] at q; exact q
  | stk => rw [e] at q; exact q
  | exc c' d ρ1 S1 =>
    rw [e] at q
    dsimp only at q
    intro C' σ' cls dx g r ev ln xr
    have hK : C'.K = X.K := g.K.trans s.K
    have ec := xr.1
    rw [hK] at ec
    refine h2 D C' ρ1 S1 σ' c' d cls dx ec ⟨g.w.trans s.w, hK, r, ev, ln⟩ (fun {r'} w er => ?_) (WantS.grow q g)
    subst er
    exact w C' σ' cls dx Grow.refl r ev ln xr
end
end Mi
set_option Elab.async false
set_option linter.all false
set_option maxRecDepth 100000
set_option maxHeartbeats 4000000
namespace Mi
open PySem PySem.Spec PyProof.Rows L2
theorem R.bbind {α β γ : Type} {r : R α} {f : α → Sto → R β} {g : β → Sto → R γ} : (r.bind f).bind g = r.bind fun a S => (f a S).bind g := by cases r <;> rfl
/-- a text of the module -/
theorem kc_str {mg : Str → Option Value} {K : PySem.W.Frag} {x z : Str} (h : ∃ t, mg x = some (.str z t)) : KC mg K x (.str z) := by
  obtain ⟨t, e⟩ := h
  exact ⟨.str z t, .str z, e, ⟨t, rfl⟩, fun _ _ => repS z⟩
def tLit (y : Str) : TE := fun _ H Q => Q (.str y) H
section
variable {X : Cx} {W : WX} {e f o : Expr} {es : List Expr} {te : TE} {ta : TA} {r : R2} {op : Operator} {y z : Str} {j k : Nat} {c0 c1 p apos pos : Pos}
/-- e op "..", then what wants a text already written -/
theorem pa_lit (he : PE X e te) (ho : OpR X (binaryOp op) r) (hr : PAT X es ta) (hs : starEach (.BinOp e op (.Constant (.str y) j c0) p :: es) X.env = (false, eval (.BinOp e op (.Constant (.str y) j c0) p) X.env) :: starEach es X.env := by rfl) :
    PA X (.BinOp e op (.Constant (.str y) j c0) p :: es) (tCons (tOp r te (tLit y)) ta) := by
  refine ⟨fun pos2 pins s σ H Q I h => ?_⟩
  rw [hs]
  show wpAny _ _ (spliced ((false, eval (.BinOp e op (.Constant (.str y) j c0) p) X.env) :: backTo pos2 (starEach es X.env))) _ _ s
  refine Calls.spliced_cons (wpAny_BinOp (thn (he.run pins s σ H _ I h) fun v s1 ⟨x, H1, I1, r1, q1⟩ => Calls.Constant_str ?_))
  have q1 : r x (.str y) H1 _ := q1
  refine wpAny_mono (PySem.wpAny_toks (ho pins { s1 with toks := s1.toks + 1 } σ H1 x (.str y) v _ _ (I1.tok _) r1 ⟨_, rfl⟩ q1)) (fun u s2 q => ?_) fun _ _ w => w.2
  obtain ⟨hk, x2, H2, I2, r2, q2⟩ := q
  have h1 : 1 ≤ s2.toks := Nat.le_trans (Nat.le_add_left 1 s1.toks) hk
  exact thn (hr pos2 pins s2 σ H2 _ h1 I2 q2) fun us s3 ⟨xs, H3, I3, r3, q3⟩ => ⟨x2 :: xs, H3, I3, .cons r2 r3, q3⟩
theorem _root_.L2.PA.imp' {t t' : TA} (h : PA X es t) (k : ∀ σ H Q, t' σ H Q → t σ H Q) : PA X es t' := ⟨fun pos pins s σ H Q I q => h.run pos pins s σ H Q I (k σ H Q q)⟩
abbrev SET (X : Cx) (W : WX) (e : Expr) (m : ME) : Prop := PET X e (tE X W m)
abbrev SAT (X : Cx) (W : WX) (es : List Expr) (m : MA) : Prop := PAT X es (tA X W m)
theorem set_of {m : ME} (h : SE X W e m) : SET X W e m := fun pins s σ H Q _ I q => h.run pins s σ H Q I q
theorem sat_nil : SAT X W [] mNil := fun pos pins s σ H Q _ I q => sa_nil.run pos pins s σ H Q I q
theorem sat_cons {ma : ME} {mas : MA} (ha : SET X W e ma) (hr : SAT X W es mas) (hs : starEach (e :: es) X.env = (false, eval e X.env) :: starEach es X.env := by rfl) : SAT X W (e :: es) (mCons ma mas) := by
  intro pos pins s σ H Q h0 I ⟨C, ρ, S, e, s1, q⟩
  subst e
  refine pat_cons ha hr hs pos pins s σ C.H Q h0 I ?_
  refine tE.bind s1 q fun d1 S1 C1 v1 s1 g1 r1 q1 => ?_
  refine tA.bind s1 q1 fun d2 S2 C2 v2 s2 g2 r2 q2 => ?_
  exact q2.now s2.rs _ (.cons (r1.grow g2 s1.rs) r2)
def replM (y z : Str) : MV → Sto → R MV
  | .str x, S => if Nat.ble (x.length + (x.length + 1) * z.length) 16777216 then .ok (.str (Txt.replace x y z)) S else .stk
  | _, _ => .stk
def mRepl (y z : Str) (o : ME) : ME := fun ρ S => (o ρ S).bind (replM y z)
theorem set_repl {mo : ME} (ho : SE X W o mo) (hyz : (y == z) = false := by decide)
    (hs2 : starEach [.Constant (.str y) j c0, .Constant (.str z) k c1] X.env = [(false, eval (.Constant (.str y) j c0) X.env), (false, eval (.Constant (.str z) k c1) X.env)] := by rfl)
    (hb2 : attributeBase o "replace" X.env (eval o X.env) = eval o X.env := by rfl) (hl2 : (apos.endLine == pos.line) = true := by rfl) :
    SET X W (.Call (.Attribute o "replace" apos) [.Constant (.str y) j c0, .Constant (.str z) k c1] [] pos) (mRepl y z mo) := by
  intro pins s σ H Q h0 I ⟨C, ρ, S, e, s1, q⟩
  subst e
  refine CwR.pet_replC ho hyz hs2 hb2 hl2 pins s σ C.H Q h0 I ?_
  refine tE.bind s1 q fun d S1 C1 v s1 g1 r1 q1 => ?_
  unfold replM at q1
  split at q1
  · split at q1
    · rename_i hf
      exact ⟨_, vStr r1, Nat.le_of_ble_eq_true hf, q1.now s1.rs _ (repS _)⟩
    · exact q1.elim
  · exact q1.elim
theorem sa_lit {me : ME} {mas : MA} (he : SE X W e me) (hr : SAT X W es mas) (hs : starEach (.BinOp e .Add (.Constant (.str y) j c0) p :: es) X.env = (false, eval (.BinOp e .Add (.Constant (.str y) j c0) p) X.env) :: starEach es X.env := by rfl) :
    SA X W (.BinOp e .Add (.Constant (.str y) j c0) p :: es) (mCons (mOp addM me (mC (.str y))) mas) :=
  (pa_lit he opM_add hr hs).imp' fun σ H Q ⟨C, ρ, S, e, s, q⟩ => by
    subst e
    unfold mCons mOp mC at q
    show tE X W me σ C.H fun x H1 => rOf X addM x (.str y) H1 fun a H2 => tA X W mas σ H2 fun xs H3 => Q (a :: xs) H3
    refine tE.bind s (by simpa only [R.bbind] using q) fun d1 S1 C1 v1 s1 g1 r1 q1 => ?_
    have q1 : Wants W σ C1 ((addM d1 (.str y) S1).bind fun d S2 => (mas ρ S2).bind fun ds S3 => .ok (d :: ds) S3) _ := q1
    cases ea : addM d1 (.str y) S1 with
    | stk => rw [ea] at q1; exact q1.elim
    | exc c x S' => exact absurd ea (pu_add _ _ _ _ _ _)
    | ok a S2 =>
      rw [ea] at q1
      have q1 := (Wants.bind q1)
      refine ⟨C1, S1, d1, .str y, rfl, s1.w, s1.K, s1.rs, r1, repS y, a, S2, ea, fun C' g r' v rv => ?_⟩
      have s2 : Sv X ρ σ S2 C' := ⟨g.w.trans s1.w, g.K.trans s1.K, r', s1.ev.grow g s1.rs, s1.ln⟩
      refine tA.bind s2 (q1 C' g r').1 fun d2 S3 C3 v2 s3 g3 r3 q3 => ?_
      exact q3.now s3.rs _ (.cons (rv.grow g3 s2.rs) r3)
end
end Mi
set_option Elab.async false
set_option linter.all false
set_option maxRecDepth 100000
set_option maxHeartbeats 4000000
namespace Lw
open PySem PySem.Spec PyProof.Rows L2 Mi
/-- what the head tells -/
structure Gs (K : PySem.W.Frag) (mg : Str → Option Value) : Prop where
  b_all : mg "all" = none
  b_any : mg "any" = none
  b_bool : mg "bool" = none
  b_enumerate : mg "enumerate" = none
  b_int : mg "int" = none
  b_isinstance : mg "isinstance" = none
  b_len : mg "len" = none
  b_list : mg "list" = none
  b_range : mg "range" = none
  b_str : mg "str" = none
  b_tuple : mg "tuple" = none
  b_zip : mg "zip" = none
  k_FIGURES : KC mg K "FIGURES" d_FIGURES
  k_PARTS : KC mg K "PARTS" d_PARTS
  k_VALUES : KC mg K "VALUES" d_VALUES
  gc_BadDeed : mg "BadDeed" = some (.ref (He.ga K "BadDeed"))
  gc_BadLine : mg "BadLine" = some (.ref (He.ga K "BadLine"))
  gc_BadRule : mg "BadRule" = some (.ref (He.ga K "BadRule"))
  gc_BadSeries : mg "BadSeries" = some (.ref (He.ga K "BadSeries"))
  gc_Calendar : mg "Calendar" = some (.ref (He.ga K "Calendar"))
  gc_Refused : mg "Refused" = some (.ref (He.ga K "Refused"))
  gc_Rule : mg "Rule" = some (.ref (He.ga K "Rule"))
  c_Calendar : Cls K (He.ga K "Calendar")
  c_Rule : Cls K (He.ga K "Rule")
  n_Calendar_before : NoAttr K (He.ga K "Calendar") "before"
  n_Calendar_days : NoAttr K (He.ga K "Calendar") "days"
  n_Calendar_done : NoAttr K (He.ga K "Calendar") "done"
  n_Calendar_hours : NoAttr K (He.ga K "Calendar") "hours"
  n_Calendar_persons : NoAttr K (He.ga K "Calendar") "persons"
  n_Calendar_rooms : NoAttr K (He.ga K "Calendar") "rooms"
  n_Calendar_rows : NoAttr K (He.ga K "Calendar") "rows"
  n_Calendar_rule : NoAttr K (He.ga K "Calendar") "rule"
  n_Calendar_seen : NoAttr K (He.ga K "Calendar") "seen"
  n_Rule_checking : NoAttr K (He.ga K "Rule") "checking"
  n_Rule_halves : NoAttr K (He.ga K "Rule") "halves"
  n_Rule_singles : NoAttr K (He.ga K "Rule") "singles"
  n_Rule_telling : NoAttr K (He.ga K "Rule") "telling"
  x0_BadDeed : X0 K (He.ga K "BadDeed")
  xm_BadDeed_BadDeed : PySem.W.exmOne K (.ref (He.ga K "BadDeed")) (.ref (He.ga K "BadDeed")) = some true
  n_BadLine_line : PySem.W.findIn K (.ref (He.ga K "BadLine")) "line" = some none
  xf_BadLine : XfC K (He.ga K "BadLine")
  xo_BadLine : OexC K (He.ga K "BadLine")
  xi_BadLine : PySem.W.findIn K (.ref (He.ga K "BadLine")) "__init__" = some (some (.ref (He.ma K (He.ga K "BadLine") "__init__")))
  xt_BadLine : PySem.W.typeIn K (.ref (He.ma K (He.ga K "BadLine") "__init__")) = some (.type "function")
  xm_BadLine_BadLine : PySem.W.exmOne K (.ref (He.ga K "BadLine")) (.ref (He.ga K "BadLine")) = some true
  n_BadRule_part : PySem.W.findIn K (.ref (He.ga K "BadRule")) "part" = some none
  xf_BadRule : XfC K (He.ga K "BadRule")
  xo_BadRule : OexC K (He.ga K "BadRule")
  xi_BadRule : PySem.W.findIn K (.ref (He.ga K "BadRule")) "__init__" = some (some (.ref (He.ma K (He.ga K "BadRule") "__init__")))
  xt_BadRule : PySem.W.typeIn K (.ref (He.ma K (He.ga K "BadRule") "__init__")) = some (.type "function")
  xm_BadRule_BadRule : PySem.W.exmOne K (.ref (He.ga K "BadRule")) (.ref (He.ga K "BadRule")) = some true
  x0_BadSeries : X0 K (He.ga K "BadSeries")
  xm_BadSeries_BadSeries : PySem.W.exmOne K (.ref (He.ga K "BadSeries")) (.ref (He.ga K "BadSeries")) = some true
  n_Refused_deed : PySem.W.findIn K (.ref (He.ga K "Refused")) "deed" = some none
  xf_Refused : XfC K (He.ga K "Refused")
  xo_Refused : OexC K (He.ga K "Refused")
  xi_Refused : PySem.W.findIn K (.ref (He.ga K "Refused")) "__init__" = some (some (.ref (He.ma K (He.ga K "Refused") "__init__")))
  xt_Refused : PySem.W.typeIn K (.ref (He.ma K (He.ga K "Refused") "__init__")) = some (.type "function")
  xm_Refused_Refused : PySem.W.exmOne K (.ref (He.ga K "Refused")) (.ref (He.ga K "Refused")) = some true
  xn_BadDeed_BadSeries : PySem.W.exmOne K (.ref (He.ga K "BadDeed")) (.ref (He.ga K "BadSeries")) = some false
  xn_BadDeed_Refused : PySem.W.exmOne K (.ref (He.ga K "BadDeed")) (.ref (He.ga K "Refused")) = some false
  xn_Refused_BadDeed : PySem.W.exmOne K (.ref (He.ga K "Refused")) (.ref (He.ga K "BadDeed")) = some false
  xn_Refused_BadSeries : PySem.W.exmOne K (.ref (He.ga K "Refused")) (.ref (He.ga K "BadSeries")) = some false
  m_Calendar___len__ : Meth K (He.ga K "Calendar") "__len__" (He.ma K (He.ga K "Calendar") "__len__")
  m_Calendar_add : Meth K (He.ga K "Calendar") "add" (He.ma K (He.ga K "Calendar") "add")
  m_Calendar_count : Meth K (He.ga K "Calendar") "count" (He.ma K (He.ga K "Calendar") "count")
  m_Calendar_day_row : Meth K (He.ga K "Calendar") "day_row" (He.ma K (He.ga K "Calendar") "day_row")
  m_Calendar_do : Meth K (He.ga K "Calendar") "do" (He.ma K (He.ga K "Calendar") "do")
  m_Calendar_is_deed : Meth K (He.ga K "Calendar") "is_deed" (He.ma K (He.ga K "Calendar") "is_deed")
  m_Calendar_is_person : Meth K (He.ga K "Calendar") "is_person" (He.ma K (He.ga K "Calendar") "is_person")
  m_Calendar_is_room : Meth K (He.ga K "Calendar") "is_room" (He.ma K (He.ga K "Calendar") "is_room")
  m_Calendar_mark : Meth K (He.ga K "Calendar") "mark" (He.ma K (He.ga K "Calendar") "mark")
  m_Calendar_note : Meth K (He.ga K "Calendar") "note" (He.ma K (He.ga K "Calendar") "note")
  m_Calendar_person_row : Meth K (He.ga K "Calendar") "person_row" (He.ma K (He.ga K "Calendar") "person_row")
  m_Calendar_put : Meth K (He.ga K "Calendar") "put" (He.ma K (He.ga K "Calendar") "put")
  m_Calendar_room_row : Meth K (He.ga K "Calendar") "room_row" (He.ma K (He.ga K "Calendar") "room_row")
  m_Calendar_row_behind : Meth K (He.ga K "Calendar") "row_behind" (He.ma K (He.ga K "Calendar") "row_behind")
  mk_Calendar : Mk K (He.ga K "Calendar") (He.ma K (He.ga K "Calendar") "__init__")
  mk_Rule : Mk K (He.ga K "Rule") (He.ma K (He.ga K "Rule") "__init__")
def m_law_begin_s0 : MS := (mRet (mCell (mCons (mCallF (lstM true) (mCons (mVar 0) mNil)) (mCons (mC (.int 0)) (mCons (mC (.int 0)) (mCons (mC (.int 7)) mNil))))))
def m_law_begin : MF := mFn 1 (m_law_begin_s0)
theorem sc_m_law_begin : FnScope ["_law_script"] ["_law_script"] (defScope s_law_begin) := ⟨rfl, rfl, rfl, by decide +kernel, rfl, by decide +kernel, by decide +kernel⟩
theorem ok_law_begin {P : Program} {w : PySem.World} {K : PySem.W.Frag} {mg : Str → Option Value} {base : Heap} {f : Addr} {fd : FuncData} (g : Gs K mg) (F : FunD K "_law_begin" "_law_begin" (defArgs s_law_begin) (defBody s_law_begin) (defScope s_law_begin) [] [] f fd) (hg : mg "_law_begin" = some (.ref f)) : FN P w K mg base 1 1 "_law_begin" m_law_begin := by
  refine ⟨f, fd, ["_law_script"], ?_, hg, F.kp, F.bindsN fun _ _ _ _ _ _ us hl => match us, hl with | [_], _ => rfl⟩
  refine F.ok sc_m_law_begin (fun vs H Q E h => h.1) (fun cdv A outer s H vs Q E hr h => body_ok (m := m_law_begin_s0) (by decide) ?_ h)
  exact (sss_one (ss_ret (se_cell (sa_cons (se_callTy (crM_list true) pu_list rfl g.b_list bt_list (sa_cons (sv 0) sa_nil)) (sa_cons se_int (sa_cons se_int (sa_cons se_int sa_nil)))) (lenCons (lenCons (lenCons (lenCons lenNil)))) (by decide))))
def m_law_values_s0 : MS := (mRet (mLst (mCons (mLst (mCons (mC (.str "none")) (mCons (mC (.str "room")) (mCons (mC (.str "both")) mNil)))) (mCons (mLst (mCons (mC (.str "keep")) (mCons (mC (.str "move")) (mCons (mC (.str "reset")) mNil)))) (mCons (mLst (mCons (mC (.str "left")) (mCons (mC (.str "undone")) mNil))) (mCons (mLst (mCons (mC (.str "now")) (mCons (mC (.str "seen")) mNil))) mNil))))))
def m_law_values : MF := mFn 0 (m_law_values_s0)
theorem sc_m_law_values : FnScope [] [] (defScope s_law_values) := ⟨rfl, rfl, rfl, by decide +kernel, rfl, by decide +kernel, by decide +kernel⟩
theorem ok_law_values {P : Program} {w : PySem.World} {K : PySem.W.Frag} {mg : Str → Option Value} {base : Heap} {f : Addr} {fd : FuncData} (g : Gs K mg) (F : FunD K "_law_values" "_law_values" (defArgs s_law_values) (defBody s_law_values) (defScope s_law_values) [] [] f fd) (hg : mg "_law_values" = some (.ref f)) : FN P w K mg base 1 0 "_law_values" m_law_values := by
  refine ⟨f, fd, [], ?_, hg, F.kp, F.bindsN fun _ _ _ _ _ _ us hl => match us, hl with | [], _ => rfl⟩
  refine F.ok sc_m_law_values (fun vs H Q E h => h.1) (fun cdv A outer s H vs Q E hr h => body_ok (m := m_law_values_s0) (by decide) ?_ h)
  exact (sss_one (ss_ret (se_lst (sa_cons (se_lst (sa_cons se_str (sa_cons se_str (sa_cons se_str sa_nil))) (lenCons (lenCons (lenCons lenNil))) (by decide)) (sa_cons (se_lst (sa_cons se_str (sa_cons se_str (sa_cons se_str sa_nil))) (lenCons (lenCons (lenCons lenNil))) (by decide)) (sa_cons (se_lst (sa_cons se_str (sa_cons se_str sa_nil)) (lenCons (lenCons lenNil)) (by decide)) (sa_cons (se_lst (sa_cons se_str (sa_cons se_str sa_nil)) (lenCons (lenCons lenNil)) (by decide)) sa_nil)))) (lenCons (lenCons (lenCons (lenCons lenNil)))) (by decide))))
theorem px_law_values : ∀ S c d S', m_law_values [] S ≠ .exc c d S' := by intro S c d S' h; first | (exact absurd h (by intro h; cases h)) | cases h
def m_law_draw_s2 : MS := (mAsg (mOp idxM (mOp idxM (mVar 0) (mC (.int 0))) (mOp idxM (mVar 0) (mC (.int 1)))) (tgName 3))
def m_law_draw_s3 : MS := (mSub (mOp addM (mOp idxM (mVar 0) (mC (.int 1))) (mC (.int 1))) (mVar 0) (mC (.int 1)))
def m_law_draw_s5 : MS := (mSub (mVar 3) (mVar 0) (mC (.int 2)))
def m_law_draw_s6 : MS := (mSub (mOp modM (mCallF intM (mCons (mOp addM (mOp addM (mOp mulM (mOp idxM (mVar 0) (mC (.int 3))) (mC (.int 48271))) (mOp mulM (mVar 3) (mC (.int 69621)))) (mC (.int 11))) mNil)) (mC (.int 2147483647))) (mVar 0) (mC (.int 3)))
def m_law_draw_s4 : MS := (mIfS (mTest (mOp geM (mVar 3) (mOp powM (mC (.int 10)) (mC (.int 18))))) m_law_draw_s5 m_law_draw_s6)
def m_law_draw_s7 : MS := (mSub (mOp modM (mCallF intM (mCons (mOp addM (mOp mulM (mOp idxM (mVar 0) (mC (.int 3))) (mC (.int 48271))) (mC (.int 7))) mNil)) (mC (.int 2147483647))) (mVar 0) (mC (.int 3)))
def m_law_draw_s1 : MS := (mIfS (mTest (mOp ltM (mOp idxM (mVar 0) (mC (.int 1))) (mCallF lenM (mCons (mOp idxM (mVar 0) (mC (.int 0))) mNil)))) (mSeq m_law_draw_s2 (mSeq m_law_draw_s3 m_law_draw_s4)) m_law_draw_s7)
def m_law_draw_s0 : MS := (mIfS (mTest (mOp eqM (mOp idxM (mVar 0) (mC (.int 2))) (mC (.int 0)))) m_law_draw_s1 mNext)
def m_law_draw_s9 : MS := (mAsg (mOp modM (mCallF intM (mCons (mOp idxM (mVar 0) (mC (.int 2))) mNil)) (mVar 1)) (tgName 2))
def m_law_draw_s10 : MS := (mSub (mOp fdivM (mOp idxM (mVar 0) (mC (.int 2))) (mVar 1)) (mVar 0) (mC (.int 2)))
def m_law_draw_s11 : MS := (mRet (mVar 2))
def m_law_draw_s8 : MS := (mIfS (mTest (mOp gtM (mOp idxM (mVar 0) (mC (.int 2))) (mC (.int 0)))) (mSeq m_law_draw_s9 (mSeq m_law_draw_s10 m_law_draw_s11)) mNext)
def m_law_draw_s12 : MS := (mRet (mOp modM (mOp modM (mCallF intM (mCons (mOp mulM (mOp idxM (mVar 0) (mC (.int 3))) (mC (.int 16807))) mNil)) (mC (.int 2147483629))) (mVar 1)))
def m_law_draw : MF := mFn 4 ((mSeq m_law_draw_s0 (mSeq m_law_draw_s8 m_law_draw_s12)))
theorem sc_m_law_draw : FnScope ["_law_draws", "_law_size", "_law_found", "_law_cell"] ["_law_draws", "_law_size"] (defScope s_law_draw) := ⟨rfl, rfl, rfl, by decide +kernel, rfl, by decide +kernel, by decide +kernel⟩
theorem ok_law_draw {P : Program} {w : PySem.World} {K : PySem.W.Frag} {mg : Str → Option Value} {base : Heap} {f : Addr} {fd : FuncData} (g : Gs K mg) (F : FunD K "_law_draw" "_law_draw" (defArgs s_law_draw) (defBody s_law_draw) (defScope s_law_draw) [] [] f fd) (hg : mg "_law_draw" = some (.ref f)) : FN P w K mg base 1 2 "_law_draw" m_law_draw := by
  refine ⟨f, fd, ["_law_draws", "_law_size"], ?_, hg, F.kp, F.bindsN fun _ _ _ _ _ _ us hl => match us, hl with | [_, _], _ => rfl⟩
  refine F.ok sc_m_law_draw (fun vs H Q E h => h.1) (fun cdv A outer s H vs Q E hr h => body_ok (m := (mSeq m_law_draw_s0 (mSeq m_law_draw_s8 m_law_draw_s12))) (by decide) ?_ h)
  exact (sss_cons (ss_if (st_cmp (opM_eq (Room.u64 hr)) pu_eq (nomark _) (se_ix (Room.u1 hr) (fun _ _ => rfl) (sv 0) se_int pu_ix) se_int) (sss_one (ss_if (st_cmp (opM_int op_lt) pu_cmpI (nomark _) (se_ix (Room.u1 hr) (fun _ _ => rfl) (sv 0) se_int pu_ix) (se_callB crM_len pu_len rfl g.b_len bt_len (sa_cons (se_ix (Room.u1 hr) (fun _ _ => rfl) (sv 0) se_int pu_ix) sa_nil))) (sss_cons (sset 3 sc_m_law_draw.nd (se_ix (Room.u1 hr) (fun _ _ => rfl) (se_ix (Room.u1 hr) (fun _ _ => rfl) (sv 0) se_int pu_ix) (se_ix (Room.u1 hr) (fun _ _ => rfl) (sv 0) se_int pu_ix) pu_ix)) (sss_cons (ss_sub (Room.u1 hr) (se_op opM_add pu_add (se_ix (Room.u1 hr) (fun _ _ => rfl) (sv 0) se_int pu_ix) se_int) (sv 0) se_int) (sss_one (ss_if (st_cmp (opM_int op_ge) pu_cmpI (nomark _) (sv 3) (se_op opM_pow pu_pow se_int se_int)) (sss_one (ss_sub (Room.u1 hr) (sv 3) (sv 0) se_int)) (sss_one (ss_sub (Room.u1 hr) (se_op opM_mod pu_mod (se_callTy crM_int pu_int rfl g.b_int bt_int (sa_cons (se_op opM_add pu_add (se_op opM_add pu_add (se_op opM_mul pu_mul (se_ix (Room.u1 hr) (fun _ _ => rfl) (sv 0) se_int pu_ix) se_int) (se_op opM_mul pu_mul (sv 3) se_int)) se_int) sa_nil)) se_int) (sv 0) se_int)))))) (sss_one (ss_sub (Room.u1 hr) (se_op opM_mod pu_mod (se_callTy crM_int pu_int rfl g.b_int bt_int (sa_cons (se_op opM_add pu_add (se_op opM_mul pu_mul (se_ix (Room.u1 hr) (fun _ _ => rfl) (sv 0) se_int pu_ix) se_int) se_int) sa_nil)) se_int) (sv 0) se_int)))) sss_nil) (sss_cons (ss_if (st_cmp (opM_int op_gt) pu_cmpI (nomark _) (se_ix (Room.u1 hr) (fun _ _ => rfl) (sv 0) se_int pu_ix) se_int) (sss_cons (sset 2 sc_m_law_draw.nd (se_op opM_mod pu_mod (se_callTy crM_int pu_int rfl g.b_int bt_int (sa_cons (se_ix (Room.u1 hr) (fun _ _ => rfl) (sv 0) se_int pu_ix) sa_nil)) (sv 1))) (sss_cons (ss_sub (Room.u1 hr) (se_op opM_fdiv pu_fdiv (se_ix (Room.u1 hr) (fun _ _ => rfl) (sv 0) se_int pu_ix) (sv 1)) (sv 0) se_int) (sss_one (ss_ret (sv 2))))) sss_nil) (sss_one (ss_ret (se_op opM_mod pu_mod (se_op opM_mod pu_mod (se_callTy crM_int pu_int rfl g.b_int bt_int (sa_cons (se_op opM_mul pu_mul (se_ix (Room.u1 hr) (fun _ _ => rfl) (sv 0) se_int pu_ix) se_int) sa_nil)) se_int) (sv 1))))))
def m_law_parts_s0 : MS := (mRet (mLc true [1] (mSrc (mCallF m_law_values mNil)) (tgName 1) mTrue (mOp idxM (mVar 1) (mCallF m_law_draw (mCons (mVar 0) (mCons (mCallF lenM (mCons (mVar 1) mNil)) mNil))))))
def m_law_parts : MF := mFn 2 (m_law_parts_s0)
theorem sc_m_law_parts : FnScope ["_law_draws", "_law_some"] ["_law_draws"] (defScope s_law_parts) := ⟨rfl, rfl, rfl, by decide +kernel, rfl, by decide +kernel, by decide +kernel⟩
theorem ok_law_parts {P : Program} {w : PySem.World} {K : PySem.W.Frag} {mg : Str → Option Value} {base : Heap} {f : Addr} {fd : FuncData} (g : Gs K mg) (h_law_values : FN P w K mg base 1 0 "_law_values" m_law_values) (h_law_draw : FN P w K mg base 1 2 "_law_draw" m_law_draw) (F : FunD K "_law_parts" "_law_parts" (defArgs s_law_parts) (defBody s_law_parts) (defScope s_law_parts) [] [] f fd) (hg : mg "_law_parts" = some (.ref f)) : FN P w K mg base 2 1 "_law_parts" m_law_parts := by
  refine ⟨f, fd, ["_law_draws"], ?_, hg, F.kp, F.bindsN fun _ _ _ _ _ _ us hl => match us, hl with | [_], _ => rfl⟩
  refine F.ok sc_m_law_parts (fun vs H Q E h => h.1) (fun cdv A outer s H vs Q E hr h => body_ok (m := m_law_parts_s0) (by decide) ?_ h)
  exact (sss_one (ss_ret (se_lc (fr := true) (own := [("_law_some", 1)]) rfl sc_m_law_parts.nd (si_seq (se_callN0 h_law_values hr (by decide) rfl px_law_values)) (blkOk_by rfl) (fun _ _ _ _ _ => (sn 1 sc_m_law_parts.nd)) (fun _ _ _ _ _ => sts_nil) (fun _ _ _ _ _ => (se_ix (Room.u1 hr) (fun _ _ => rfl) (sv 1) (se_callN h_law_draw hr (by decide) rfl takesNo (sa_cons (sv 0) (sa_cons (se_callB crM_len pu_len rfl g.b_len bt_len (sa_cons (sv 1) sa_nil)) sa_nil)) (lenCons (lenCons lenNil))) pu_ix)) (by decide))))
def m_number_of_s1 : MS := (mRet (mC .non))
def m_number_of_s0 : MS := (mIfS (mOr (mNot (mTest (mChain leM leM (mC (.int 1)) (mCallF lenM (mCons (mVar 0) mNil)) (mC (.int 9))))) (mOr (mNot (mTest (mCallF allM (mCons (mLc true [1] (mSigns (mVar 0)) (tgName 1) mTrue (mOp inSM (mVar 1) (mC d_FIGURES))) mNil)))) (mTest (mOp neM (mCallF strM (mCons (mCallF intTM (mCons (mVar 0) mNil)) mNil)) (mVar 0))))) m_number_of_s1 mNext)
def m_number_of_s2 : MS := (mRet (mCallF intTM (mCons (mVar 0) mNil)))
def m_number_of : MF := mFn 2 ((mSeq m_number_of_s0 m_number_of_s2))
theorem sc_m_number_of : FnScope ["word", "sign"] ["word"] (defScope s_number_of) := ⟨rfl, rfl, rfl, by decide +kernel, rfl, by decide +kernel, by decide +kernel⟩
theorem ok_number_of {P : Program} {w : PySem.World} {K : PySem.W.Frag} {mg : Str → Option Value} {base : Heap} {f : Addr} {fd : FuncData} (g : Gs K mg) (F : FunD K "number_of" "number_of" (defArgs s_number_of) (defBody s_number_of) (defScope s_number_of) [] [] f fd) (hg : mg "number_of" = some (.ref f)) : FN P w K mg base 1 1 "number_of" m_number_of := by
  refine ⟨f, fd, ["word"], ?_, hg, F.kp, F.bindsN fun _ _ _ _ _ _ us hl => match us, hl with | [_], _ => rfl⟩
  refine F.ok sc_m_number_of (fun vs H Q E h => h.1) (fun cdv A outer s H vs Q E hr h => body_ok (m := (mSeq m_number_of_s0 m_number_of_s2)) (by decide) ?_ h)
  exact (sss_cons (ss_if (st_w (sw_or (st_not (st_chain (opM_int op_le) pu_cmpI (opM_int op_le) pu_cmpI se_int (se_callB crM_len pu_len rfl g.b_len bt_len (sa_cons (sv 0) sa_nil)) se_int)) (sw_or (st_not (st_val (se_callB (crM_all rfl) pu_all rfl g.b_all bt_all (sa_cons (se_lc (fr := true) (own := [("sign", 1)]) rfl sc_m_number_of.nd (si_sgn (sv 0)) (blkOk_by rfl) (fun _ _ _ _ _ => (sn 1 sc_m_number_of.nd)) (fun _ _ _ _ _ => sts_nil) (fun _ _ _ _ _ => (se_cmp opM_inS pu_inS (by with_unfolding_all rfl) (sv 1) (se_globN g.k_FIGURES rfl))) (by decide)) sa_nil)))) (sw_or1 (st_cmp (opM_ne (Room.u64 hr)) pu_ne (nomark _) (se_callTy crM_str pu_str rfl g.b_str bt_str (sa_cons (se_callTy crM_intT pu_intT rfl g.b_int bt_int (sa_cons (sv 0) sa_nil)) sa_nil)) (sv 0)))))) (sss_one (ss_ret se_non)) sss_nil) (sss_one (ss_ret (se_callTy crM_intT pu_intT rfl g.b_int bt_int (sa_cons (sv 0) sa_nil)))))
def m_Calendar___init___s0 : MS := (mFset "Calendar" "rule" (mVar 1) (mVar 0))
def m_Calendar___init___s1 : MS := (mFset "Calendar" "days" (mVar 2) (mVar 0))
def m_Calendar___init___s2 : MS := (mFset "Calendar" "hours" (mVar 3) (mVar 0))
def m_Calendar___init___s3 : MS := (mFset "Calendar" "rows" (mCell mNil) (mVar 0))
def m_Calendar___init___s4 : MS := (mFset "Calendar" "before" (mCell mNil) (mVar 0))
def m_Calendar___init___s5 : MS := (mFset "Calendar" "seen" (mCell mNil) (mVar 0))
def m_Calendar___init___s6 : MS := (mFset "Calendar" "rooms" (fun _ S => mkDT false [] [] S) (mVar 0))
def m_Calendar___init___s7 : MS := (mFset "Calendar" "persons" (fun _ S => mkDT false [] [] S) (mVar 0))
def m_Calendar___init___s8 : MS := (mFset "Calendar" "done" (mCell mNil) (mVar 0))
def m_Calendar___init__ : MF := mFn 4 ((mSeq m_Calendar___init___s0 (mSeq m_Calendar___init___s1 (mSeq m_Calendar___init___s2 (mSeq m_Calendar___init___s3 (mSeq m_Calendar___init___s4 (mSeq m_Calendar___init___s5 (mSeq m_Calendar___init___s6 (mSeq m_Calendar___init___s7 m_Calendar___init___s8)))))))))
theorem sc_m_Calendar___init__ : FnScope ["self", "rule", "days", "hours"] ["self", "rule", "days", "hours"] (defScope s_Calendar___init__) := ⟨rfl, rfl, rfl, by decide +kernel, rfl, by decide +kernel, by decide +kernel⟩
theorem ok_Calendar___init__ {P : Program} {w : PySem.World} {K : PySem.W.Frag} {mg : Str → Option Value} {base : Heap} {fd : FuncData} (g : Gs K mg) (F : FunD K "__init__" "Calendar.__init__" (defArgs s_Calendar___init__) (defBody s_Calendar___init__) (defScope s_Calendar___init__) [] [] (He.ma K (He.ga K "Calendar") "__init__") fd) : MN P w K mg base 1 4 "Calendar" "__init__" m_Calendar___init__ := by
  refine ⟨fd, ["self", "rule", "days", "hours"], ?_, F.bindsN fun _ _ _ _ _ _ us hl => match us, hl with | [_, _, _, _], _ => rfl⟩
  refine F.ok sc_m_Calendar___init__ (fun vs H Q E h => h.1) (fun cdv A outer s H vs Q E hr h => body_ok (m := (mSeq m_Calendar___init___s0 (mSeq m_Calendar___init___s1 (mSeq m_Calendar___init___s2 (mSeq m_Calendar___init___s3 (mSeq m_Calendar___init___s4 (mSeq m_Calendar___init___s5 (mSeq m_Calendar___init___s6 (mSeq m_Calendar___init___s7 m_Calendar___init___s8))))))))) (by decide) ?_ h)
  exact (sss_cons (ss_fset g.c_Calendar g.n_Calendar_rule (sv 1) (sv 0)) (sss_cons (ss_fset g.c_Calendar g.n_Calendar_days (sv 2) (sv 0)) (sss_cons (ss_fset g.c_Calendar g.n_Calendar_hours (sv 3) (sv 0)) (sss_cons (ss_fset g.c_Calendar g.n_Calendar_rows (se_cell sa_nil lenNil (by decide)) (sv 0)) (sss_cons (ss_fset g.c_Calendar g.n_Calendar_before (se_cell sa_nil lenNil (by decide)) (sv 0)) (sss_cons (ss_fset g.c_Calendar g.n_Calendar_seen (se_cell sa_nil lenNil (by decide)) (sv 0)) (sss_cons (ss_fset g.c_Calendar g.n_Calendar_rooms (se_dnewT (fr := false)) (sv 0)) (sss_cons (ss_fset g.c_Calendar g.n_Calendar_persons (se_dnewT (fr := false)) (sv 0)) (sss_one (ss_fset g.c_Calendar g.n_Calendar_done (se_cell sa_nil lenNil (by decide)) (sv 0)))))))))))
def m_Rule___init___s2 : MS := (mRaise "BadRule" "part" (mVar 5))
def m_Rule___init___s1 : MS := (mIfS (mOr (mNot (mTest (mIsi "str" (mVar 6)))) (mTest (mOp ninM (mVar 6) (mVar 7)))) m_Rule___init___s2 mNext)
def m_Rule___init___s0 : MS := (mFor (mZip3 (mCons (mC d_PARTS) (mCons (mTup (mCons (mVar 1) (mCons (mVar 2) (mCons (mVar 3) (mCons (mVar 4) mNil))))) (mCons (mC d_VALUES) mNil)))) (tgTup (tgCons (tgName 5) (tgCons (tgName 6) (tgCons (tgName 7) tgNil)))) m_Rule___init___s1)
def m_Rule___init___s3 : MS := (mFset "Rule" "checking" (mVar 1) (mVar 0))
def m_Rule___init___s4 : MS := (mFset "Rule" "singles" (mVar 2) (mVar 0))
def m_Rule___init___s5 : MS := (mFset "Rule" "halves" (mVar 3) (mVar 0))
def m_Rule___init___s6 : MS := (mFset "Rule" "telling" (mVar 4) (mVar 0))
def m_Rule___init__ : MF := mFn 8 ((mSeq m_Rule___init___s0 (mSeq m_Rule___init___s3 (mSeq m_Rule___init___s4 (mSeq m_Rule___init___s5 m_Rule___init___s6)))))
theorem sc_m_Rule___init__ : FnScope ["self", "checking", "singles", "halves", "telling", "part", "value", "some"] ["self", "checking", "singles", "halves", "telling"] (defScope s_Rule___init__) := ⟨rfl, rfl, rfl, by decide +kernel, rfl, by decide +kernel, by decide +kernel⟩
theorem ok_Rule___init__ {P : Program} {w : PySem.World} {K : PySem.W.Frag} {mg : Str → Option Value} {base : Heap} {fd : FuncData} (g : Gs K mg) (x_BadRule : XN P w K mg base 1 "BadRule" "part") (F : FunD K "__init__" "Rule.__init__" (defArgs s_Rule___init__) (defBody s_Rule___init__) (defScope s_Rule___init__) [] [] (He.ma K (He.ga K "Rule") "__init__") fd) : MN P w K mg base 3 5 "Rule" "__init__" m_Rule___init__ := by
  refine ⟨fd, ["self", "checking", "singles", "halves", "telling"], ?_, F.bindsN fun _ _ _ _ _ _ us hl => match us, hl with | [_, _, _, _, _], _ => rfl⟩
  refine F.ok sc_m_Rule___init__ (fun vs H Q E h => h.1) (fun cdv A outer s H vs Q E hr h => body_ok (m := (mSeq m_Rule___init___s0 (mSeq m_Rule___init___s3 (mSeq m_Rule___init___s4 (mSeq m_Rule___init___s5 m_Rule___init___s6))))) (by decide) ?_ h)
  exact (sss_cons (ss_for pass_cx rfl (si_zip3 rfl g.b_zip (sa_cons (se_globN g.k_PARTS rfl) (sa_cons (se_tup (sa_cons (sv 1) (sa_cons (sv 2) (sa_cons (sv 3) (sa_cons (sv 4) sa_nil)))) (lenCons (lenCons (lenCons (lenCons lenNil)))) (by decide)) (sa_cons (se_globN g.k_VALUES rfl) sa_nil)))) (sg_tup rfl (sgs_cons (sn 5 sc_m_Rule___init__.nd) (sgs_cons (sn 6 sc_m_Rule___init__.nd) (sgs_cons (sn 7 sc_m_Rule___init__.nd) sgs_nil)))) (sss_one (ss_if (st_w (sw_or (st_not (st_val (se_isi rfl g.b_isinstance rfl g.b_str bt_str (sv 6)))) (sw_or1 (st_cmp (opM_nin (Room.u65 hr)) pu_nin (by with_unfolding_all rfl) (sv 6) (sv 7))))) (sss_one (ss_raiseN x_BadRule rfl takes_cx hr (by decide) rfl (sv 5))) sss_nil))) (sss_cons (ss_fset g.c_Rule g.n_Rule_checking (sv 1) (sv 0)) (sss_cons (ss_fset g.c_Rule g.n_Rule_singles (sv 2) (sv 0)) (sss_cons (ss_fset g.c_Rule g.n_Rule_halves (sv 3) (sv 0)) (sss_one (ss_fset g.c_Rule g.n_Rule_telling (sv 4) (sv 0)))))))
def m_rule_of_s0 : MS := (mRet (mCallF (makM "Rule" m_Rule___init__) (mCons (mOp idxM (mVar 0) (mC (.int 0))) (mCons (mOp idxM (mVar 0) (mC (.int 1))) (mCons (mOp idxM (mVar 0) (mC (.int 2))) (mCons (mOp idxM (mVar 0) (mC (.int 3))) mNil))))))
def m_rule_of : MF := frzF (mFn 1 (m_rule_of_s0))
theorem sc_m_rule_of : FnScope ["row"] ["row"] (defScope s_rule_of) := ⟨rfl, rfl, rfl, by decide +kernel, rfl, by decide +kernel, by decide +kernel⟩
theorem ok_rule_of {P : Program} {w : PySem.World} {K : PySem.W.Frag} {mg : Str → Option Value} {base : Heap} {f : Addr} {fd : FuncData} (g : Gs K mg) (h_Rule___init__ : MN P w K mg base 3 5 "Rule" "__init__" m_Rule___init__) (F : FunD K "rule_of" "rule_of" (defArgs s_rule_of) (defBody s_rule_of) (defScope s_rule_of) [] [] f fd) (hg : mg "rule_of" = some (.ref f)) : FN P w K mg base 5 1 "rule_of" m_rule_of := by
  refine ⟨f, fd, ["row"], ?_, hg, F.kp, F.bindsN fun _ _ _ _ _ _ us hl => match us, hl with | [_], _ => rfl⟩
  refine frz_ok (m := mFn _ _) (F.ok sc_m_rule_of (fun vs H Q E h => h.1) (fun cdv A outer s H vs Q E hr h => body_ok (m := m_rule_of_s0) (by decide) ?_ h))
  exact (sss_one (ss_ret (se_makeN h_Rule___init__ g.mk_Rule g.gc_Rule hr (by decide) rfl takes_cx (sa_cons (se_ix (Room.u1 hr) (fun _ _ => rfl) (sv 0) se_int pu_ix) (sa_cons (se_ix (Room.u1 hr) (fun _ _ => rfl) (sv 0) se_int pu_ix) (sa_cons (se_ix (Room.u1 hr) (fun _ _ => rfl) (sv 0) se_int pu_ix) (sa_cons (se_ix (Room.u1 hr) (fun _ _ => rfl) (sv 0) se_int pu_ix) sa_nil)))) (lenCons (lenCons (lenCons (lenCons lenNil)))))))
def m_calendar_in_s0 : MS := (mAsg (mBM kStr splitM (mVar 0) (mCons (mC (.str " ")) mNil)) (tgName 1))
def m_calendar_in_s2 : MS := (mRet (mC .non))
def m_calendar_in_s1 : MS := (mIfS (mOr (mTest (mOp neM (mCallF lenM (mCons (mVar 1) mNil)) (mOp addM (mCallF lenM (mCons (mC d_VALUES) mNil)) (mC (.int 3))))) (mOr (mTest (mOp neM (mOp idxM (mVar 1) (mC (.int 0))) (mC (.str "rule")))) (mOr (mNot (mTruth (mCallF m_number_of (mCons (mOp idxM (mVar 1) (mC (.int (-2)))) mNil)))) (mNot (mTruth (mCallF m_number_of (mCons (mOp idxM (mVar 1) (mC (.int (-1)))) mNil))))))) m_calendar_in_s2 mNext)
def m_calendar_in_s3 : MS := (mAsg (mC .non) (tgName 2))
def m_calendar_in_s5 : MS := (mAsg (mCallF (makM "Calendar" m_Calendar___init__) (mCons (mCallF m_rule_of (mCons (mSlice (mVar 1) (moSome (mC (.int 1))) (moSome (mC (.int 5)))) mNil)) (mCons (mCallF m_number_of (mCons (mOp idxM (mVar 1) (mC (.int (-2)))) mNil)) (mCons (mCallF m_number_of (mCons (mOp idxM (mVar 1) (mC (.int (-1)))) mNil)) mNil)))) (tgName 2))
def m_calendar_in_s6 : MS := (mAsg (mC .non) (tgName 2))
def m_calendar_in_s4 : MS := (mTry (oneC "BadRule") m_calendar_in_s5 m_calendar_in_s6)
def m_calendar_in_s7 : MS := (mRet (mVar 2))
def m_calendar_in : MF := mFn 3 ((mSeq m_calendar_in_s0 (mSeq m_calendar_in_s1 (mSeq m_calendar_in_s3 (mSeq m_calendar_in_s4 m_calendar_in_s7)))))
theorem sc_m_calendar_in : FnScope ["line", "words", "made"] ["line"] (defScope s_calendar_in) := ⟨rfl, rfl, rfl, by decide +kernel, rfl, by decide +kernel, by decide +kernel⟩
theorem ok_calendar_in {P : Program} {w : PySem.World} {K : PySem.W.Frag} {mg : Str → Option Value} {base : Heap} {f : Addr} {fd : FuncData} (g : Gs K mg) (h_number_of : FN P w K mg base 1 1 "number_of" m_number_of) (h_Calendar___init__ : MN P w K mg base 1 4 "Calendar" "__init__" m_Calendar___init__) (h_rule_of : FN P w K mg base 5 1 "rule_of" m_rule_of) (x_BadRule : XN P w K mg base 1 "BadRule" "part") (F : FunD K "calendar_in" "calendar_in" (defArgs s_calendar_in) (defBody s_calendar_in) (defScope s_calendar_in) [] [] f fd) (hg : mg "calendar_in" = some (.ref f)) : FN P w K mg base 6 1 "calendar_in" m_calendar_in := by
  refine ⟨f, fd, ["line"], ?_, hg, F.kp, F.bindsN fun _ _ _ _ _ _ us hl => match us, hl with | [_], _ => rfl⟩
  refine F.ok sc_m_calendar_in (fun vs H Q E h => h.1) (fun cdv A outer s H vs Q E hr h => body_ok (m := (mSeq m_calendar_in_s0 (mSeq m_calendar_in_s1 (mSeq m_calendar_in_s3 (mSeq m_calendar_in_s4 m_calendar_in_s7))))) (by decide) ?_ h)
  exact (sss_cons (sset 1 sc_m_calendar_in.nd (se_bx PySem.F.plainAttrs_str PySem.F.slot_str_split PySem.F.type_str_split mt_splitM pu_split kd_str (sv 0) (sa_cons se_str sa_nil) ⟨rfl, rfl, rfl⟩)) (sss_cons (ss_if (st_w (sw_or (st_cmp (opM_ne (Room.u64 hr)) pu_ne (nomark _) (se_callB crM_len pu_len rfl g.b_len bt_len (sa_cons (sv 1) sa_nil)) (se_op opM_add pu_add (se_callB crM_len pu_len rfl g.b_len bt_len (sa_cons (se_globN g.k_VALUES rfl) sa_nil)) se_int)) (sw_or (st_cmp (opM_ne (Room.u64 hr)) pu_ne (nomark _) (se_ix (Room.u1 hr) (fun _ _ => rfl) (sv 1) se_int pu_ix) se_str) (sw_or (st_not (st_truth (se_callN h_number_of hr (by decide) rfl takes_cx (sa_cons (se_ix (Room.u1 hr) (fun _ _ => rfl) (sv 1) (se_neg) pu_ix) sa_nil) (lenCons lenNil)))) (sw_or1 (st_not (st_truth (se_callN h_number_of hr (by decide) rfl takes_cx (sa_cons (se_ix (Room.u1 hr) (fun _ _ => rfl) (sv 1) (se_neg) pu_ix) sa_nil) (lenCons lenNil))))))))) (sss_one (ss_ret se_non)) sss_nil) (sss_cons (sset 2 sc_m_calendar_in.nd se_non) (sss_cons (ss_try (ct := (oneC "BadRule")) rfl rfl ⟨rfl, by decide, .inl g.gc_BadRule⟩ takes_cx (oneC_ok g.xm_BadRule_BadRule) (fun _ _ _ tk pp => (sss_one (sset 2 sc_m_calendar_in.nd (se_makeN h_Calendar___init__ g.mk_Calendar g.gc_Calendar hr (by decide) rfl tk (sa_cons (se_callN h_rule_of hr (by decide) rfl tk (sa_cons (se_slice (sv 1) (so_some se_int) (so_some se_int)) sa_nil) (lenCons lenNil)) (sa_cons (se_callN h_number_of hr (by decide) rfl tk (sa_cons (se_ix (Room.u1 hr) (fun _ _ => rfl) (sv 1) (se_neg) pu_ix) sa_nil) (lenCons lenNil)) (sa_cons (se_callN h_number_of hr (by decide) rfl tk (sa_cons (se_ix (Room.u1 hr) (fun _ _ => rfl) (sv 1) (se_neg) pu_ix) sa_nil) (lenCons lenNil)) sa_nil))) (lenCons (lenCons (lenCons lenNil))))))) (fun _ _ => (sss_one (sset 2 sc_m_calendar_in.nd se_non)))) (sss_one (ss_ret (sv 2)))))))
def m_is_whole_s0 : MS := (mRet (mAndV (mIsi "int" (mVar 0)) (mAndV (mNotV (mIsi "bool" (mVar 0))) (mChain leM leM (mVar 1) (mVar 0) (mVar 2)))))
def m_is_whole : MF := mFn 3 (m_is_whole_s0)
theorem sc_m_is_whole : FnScope ["thing", "least", "most"] ["thing", "least", "most"] (defScope s_is_whole) := ⟨rfl, rfl, rfl, by decide +kernel, rfl, by decide +kernel, by decide +kernel⟩
theorem ok_is_whole {P : Program} {w : PySem.World} {K : PySem.W.Frag} {mg : Str → Option Value} {base : Heap} {f : Addr} {fd : FuncData} (g : Gs K mg) (F : FunD K "is_whole" "is_whole" (defArgs s_is_whole) (defBody s_is_whole) (defScope s_is_whole) [] [] f fd) (hg : mg "is_whole" = some (.ref f)) : FN P w K mg base 1 3 "is_whole" m_is_whole := by
  refine ⟨f, fd, ["thing", "least", "most"], ?_, hg, F.kp, F.bindsN fun _ _ _ _ _ _ us hl => match us, hl with | [_, _, _], _ => rfl⟩
  refine F.ok sc_m_is_whole (fun vs H Q E h => h.1) (fun cdv A outer s H vs Q E hr h => body_ok (m := m_is_whole_s0) (by decide) ?_ h)
  exact (sss_one (ss_ret (se_and (se_isi rfl g.b_isinstance rfl g.b_int bt_int (sv 0)) (se_and (se_not (se_isi rfl g.b_isinstance rfl g.b_bool bt_bool (sv 0))) (se_one (se_chain (opM_int op_le) pu_cmpI (opM_int op_le) pu_cmpI (sv 1) (sv 0) (sv 2)))))))
def m_fresh_s0 : MS := (mRet (mTup (mCons (mVar 0) (mCons (mVar 1) (mCons (mOp mulM (mTup (mCons (mTup (mCons (mVar 1) (mCons (mVar 1) (mCons (mC (.bl false)) mNil)))) mNil)) (mVar 2)) mNil)))))
def m_fresh : MF := mFn 3 (m_fresh_s0)
theorem sc_m_fresh : FnScope ["person", "hour", "days"] ["person", "hour", "days"] (defScope s_fresh) := ⟨rfl, rfl, rfl, by decide +kernel, rfl, by decide +kernel, by decide +kernel⟩
theorem ok_fresh {P : Program} {w : PySem.World} {K : PySem.W.Frag} {mg : Str → Option Value} {base : Heap} {f : Addr} {fd : FuncData} (g : Gs K mg) (F : FunD K "fresh" "fresh" (defArgs s_fresh) (defBody s_fresh) (defScope s_fresh) [] [] f fd) (hg : mg "fresh" = some (.ref f)) : FN P w K mg base 1 3 "fresh" m_fresh := by
  refine ⟨f, fd, ["person", "hour", "days"], ?_, hg, F.kp, F.bindsN fun _ _ _ _ _ _ us hl => match us, hl with | [_, _, _], _ => rfl⟩
  refine F.ok sc_m_fresh (fun vs H Q E h => h.1) (fun cdv A outer s H vs Q E hr h => body_ok (m := m_fresh_s0) (by decide) ?_ h)
  exact (sss_one (ss_ret (se_tup (sa_cons (sv 0) (sa_cons (sv 1) (sa_cons (se_op opM_mul pu_mul (se_tup (sa_cons (se_tup (sa_cons (sv 1) (sa_cons (sv 1) (sa_cons se_bl sa_nil))) (lenCons (lenCons (lenCons lenNil))) (by decide)) sa_nil) (lenCons lenNil) (by decide)) (sv 2)) sa_nil))) (lenCons (lenCons (lenCons lenNil))) (by decide))))
def m_Calendar_count_s1 : MS := (mSub (mC (.bl true)) (mBM kDcT dsetdM (mVar 1) (mCons (mVar 2) (mCons (fun _ S => mkD false [] [] S) mNil))) (mVar 3))
def m_Calendar_count_s2 : MS := (mDrop (mBM kDct dpopM (mOp idxTM (mVar 1) (mVar 2)) (mCons (mVar 3) mNil)))
def m_Calendar_count_s0 : MS := (mIfS (mTest (mOp gtM (mVar 4) (mC (.int 0)))) m_Calendar_count_s1 m_Calendar_count_s2)
def m_Calendar_count : MF := mFn 5 (m_Calendar_count_s0)
theorem sc_m_Calendar_count : FnScope ["self", "table", "key", "series", "sign"] ["self", "table", "key", "series", "sign"] (defScope s_Calendar_count) := ⟨rfl, rfl, rfl, by decide +kernel, rfl, by decide +kernel, by decide +kernel⟩
theorem ok_Calendar_count {P : Program} {w : PySem.World} {K : PySem.W.Frag} {mg : Str → Option Value} {base : Heap} {fd : FuncData} (g : Gs K mg) (F : FunD K "count" "Calendar.count" (defArgs s_Calendar_count) (defBody s_Calendar_count) (defScope s_Calendar_count) [] [] (He.ma K (He.ga K "Calendar") "count") fd) : MN P w K mg base 1 5 "Calendar" "count" m_Calendar_count := by
  refine ⟨fd, ["self", "table", "key", "series", "sign"], ?_, F.bindsN fun _ _ _ _ _ _ us hl => match us, hl with | [_, _, _, _, _], _ => rfl⟩
  refine F.ok sc_m_Calendar_count (fun vs H Q E h => h.1) (fun cdv A outer s H vs Q E hr h => body_ok (m := m_Calendar_count_s0) (by decide) ?_ h)
  exact (sss_one (ss_if (st_cmp (opM_int op_gt) pu_cmpI (nomark _) (sv 4) se_int) (sss_one (ss_sub (Room.u1 hr) se_bl (se_bx PySem.F.plainAttrs_dict PySem.F.slot_dict_setdefault PySem.F.type_dict_setdefault (mt_dsetd (Room.u65 hr)) pu_dsetd kd_dcT (sv 1) (sa_cons (sv 2) (sa_cons (se_dnew (fr := false)) sa_nil)) ⟨rfl, rfl, rfl⟩) (sv 3))) (sss_one (ss_expr (se_bx PySem.F.plainAttrs_dict PySem.F.slot_dict_pop PySem.F.type_dict_pop mt_dpop pu_dpop kd_dct (se_ixT (Room.u65 hr) (fun _ _ => rfl) (sv 1) (sv 2) pu_ixT) (sa_cons (sv 3) sa_nil) ⟨rfl, rfl, rfl⟩)))))
def m_Calendar_mark_s0 : MS := (mAsg (mOp idxM (mFld "Calendar" "rows" (mVar 0)) (mVar 1)) (tgTup (tgCons (tgName 3) (tgCons (tgName 4) (tgCons (tgName 5) tgNil)))))
def m_Calendar_mark_s3 : MS := (mDrop (mMeth "Calendar" "count" m_Calendar_count (mVar 0) (mCons (mFld "Calendar" "rooms" (mVar 0)) (mCons (mTup (mCons (mVar 6) (mCons (mVar 7) mNil))) (mCons (mVar 1) (mCons (mVar 2) mNil))))))
def m_Calendar_mark_s4 : MS := (mDrop (mMeth "Calendar" "count" m_Calendar_count (mVar 0) (mCons (mFld "Calendar" "persons" (mVar 0)) (mCons (mTup (mCons (mVar 3) (mCons (mVar 6) (mCons (mVar 8) mNil)))) (mCons (mVar 1) (mCons (mVar 2) mNil))))))
def m_Calendar_mark_s2 : MS := (mIfS (mTest (mOp isnM (mVar 7) (mC .non))) (mSeq m_Calendar_mark_s3 m_Calendar_mark_s4) mNext)
def m_Calendar_mark_s1 : MS := (mFor (mEnum (mCons (mVar 5) mNil)) (tgTup (tgCons (tgName 6) (tgCons (tgTup (tgCons (tgName 7) (tgCons (tgName 8) (tgCons (tgName 9) tgNil)))) tgNil))) m_Calendar_mark_s2)
def m_Calendar_mark : MF := mFn 10 ((mSeq m_Calendar_mark_s0 m_Calendar_mark_s1))
theorem sc_m_Calendar_mark : FnScope ["self", "series", "sign", "person", "base", "days", "day", "room", "there", "single"] ["self", "series", "sign"] (defScope s_Calendar_mark) := ⟨rfl, rfl, rfl, by decide +kernel, rfl, by decide +kernel, by decide +kernel⟩
theorem ok_Calendar_mark {P : Program} {w : PySem.World} {K : PySem.W.Frag} {mg : Str → Option Value} {base : Heap} {fd : FuncData} (g : Gs K mg) (h_Calendar_count : MN P w K mg base 1 5 "Calendar" "count" m_Calendar_count) (F : FunD K "mark" "Calendar.mark" (defArgs s_Calendar_mark) (defBody s_Calendar_mark) (defScope s_Calendar_mark) [] [] (He.ma K (He.ga K "Calendar") "mark") fd) : MN P w K mg base 2 3 "Calendar" "mark" m_Calendar_mark := by
  refine ⟨fd, ["self", "series", "sign"], ?_, F.bindsN fun _ _ _ _ _ _ us hl => match us, hl with | [_, _, _], _ => rfl⟩
  refine F.ok sc_m_Calendar_mark (fun vs H Q E h => h.1) (fun cdv A outer s H vs Q E hr h => body_ok (m := (mSeq m_Calendar_mark_s0 m_Calendar_mark_s1)) (by decide) ?_ h)
  exact (sss_cons (ss_asg (se_ix (Room.u1 hr) (fun _ _ => rfl) (se_fld g.c_Calendar g.n_Calendar_rows (sv 0)) (sv 1) pu_ix) (sg_tup rfl (sgs_cons (sn 3 sc_m_Calendar_mark.nd) (sgs_cons (sn 4 sc_m_Calendar_mark.nd) (sgs_cons (sn 5 sc_m_Calendar_mark.nd) sgs_nil))))) (sss_one (ss_for pass_cx rfl (si_enum rfl g.b_enumerate (sa_cons (sv 5) sa_nil)) (sg_tup rfl (sgs_cons (sn 6 sc_m_Calendar_mark.nd) (sgs_cons (sg_tup rfl (sgs_cons (sn 7 sc_m_Calendar_mark.nd) (sgs_cons (sn 8 sc_m_Calendar_mark.nd) (sgs_cons (sn 9 sc_m_Calendar_mark.nd) sgs_nil)))) sgs_nil))) (sss_one (ss_if (st_cmp opM_isn pu_isn (nomark _) (sv 7) se_non) (sss_cons (ss_expr (se_methN h_Calendar_count g.c_Calendar g.m_Calendar_count hr (by decide) takes_cx (sv 0) (sa_cons (se_fld g.c_Calendar g.n_Calendar_rooms (sv 0)) (sa_cons (se_tup (sa_cons (sv 6) (sa_cons (sv 7) sa_nil)) (lenCons (lenCons lenNil)) (by decide)) (sa_cons (sv 1) (sa_cons (sv 2) sa_nil)))) (lenCons (lenCons (lenCons (lenCons lenNil)))))) (sss_one (ss_expr (se_methN h_Calendar_count g.c_Calendar g.m_Calendar_count hr (by decide) takes_cx (sv 0) (sa_cons (se_fld g.c_Calendar g.n_Calendar_persons (sv 0)) (sa_cons (se_tup (sa_cons (sv 3) (sa_cons (sv 6) (sa_cons (sv 8) sa_nil))) (lenCons (lenCons (lenCons lenNil))) (by decide)) (sa_cons (sv 1) (sa_cons (sv 2) sa_nil)))) (lenCons (lenCons (lenCons (lenCons lenNil)))))))) sss_nil)))))
def m_Calendar_add_s1 : MS := (mRaise0 "BadSeries")
def m_Calendar_add_s0 : MS := (mIfS (mOr (mNot (mTest (mCallF m_is_whole (mCons (mVar 1) (mCons (mC (.int 0)) (mCons (mVar 1) mNil)))))) (mNot (mTest (mCallF m_is_whole (mCons (mVar 2) (mCons (mC (.int 0)) (mCons (mOp subM (mFld "Calendar" "hours" (mVar 0)) (mC (.int 1))) mNil))))))) m_Calendar_add_s1 mNext)
def m_Calendar_add_s4 : MS := (mRaise "Refused" "deed" (mTup (mCons (mC (.str "add")) (mCons (mVar 1) (mCons (mVar 2) mNil)))))
def m_Calendar_add_s3 : MS := (mIfS (mOr (mTruth (mBM kDcT dgetM (mFld "Calendar" "rooms" (mVar 0)) (mCons (mTup (mCons (mVar 3) (mCons (mVar 2) mNil))) (mCons (fun _ S => mkD false [] [] S) mNil)))) (mTruth (mBM kDcT dgetM (mFld "Calendar" "persons" (mVar 0)) (mCons (mTup (mCons (mVar 1) (mCons (mVar 3) (mCons (mVar 2) mNil)))) (mCons (fun _ S => mkD false [] [] S) mNil))))) m_Calendar_add_s4 mNext)
def m_Calendar_add_s2 : MS := (mFor (mRng (mCons (mFld "Calendar" "days" (mVar 0)) mNil)) (tgName 3) m_Calendar_add_s3)
def m_Calendar_add_s5 : MS := (mDrop (mApp (mFld "Calendar" "rows" (mVar 0)) (mCallF m_fresh (mCons (mVar 1) (mCons (mVar 2) (mCons (mFld "Calendar" "days" (mVar 0)) mNil))))))
def m_Calendar_add_s6 : MS := (mDrop (mApp (mFld "Calendar" "before" (mVar 0)) (mC .non)))
def m_Calendar_add_s7 : MS := (mDrop (mApp (mFld "Calendar" "seen" (mVar 0)) (mC .non)))
def m_Calendar_add_s8 : MS := (mDrop (mMeth "Calendar" "mark" m_Calendar_mark (mVar 0) (mCons (mOp subM (mCallF lenM (mCons (mFld "Calendar" "rows" (mVar 0)) mNil)) (mC (.int 1))) (mCons (mC (.int 1)) mNil))))
def m_Calendar_add_s9 : MS := (mDrop (mApp (mFld "Calendar" "done" (mVar 0)) (mTup (mCons (mTup (mCons (mC (.str "add")) (mCons (mVar 1) (mCons (mVar 2) mNil)))) (mCons (mC .non) (mCons (mC .non) mNil))))))
def m_Calendar_add_s10 : MS := (mRet (mOp subM (mCallF lenM (mCons (mFld "Calendar" "rows" (mVar 0)) mNil)) (mC (.int 1))))
def m_Calendar_add : MF := mFn 4 ((mSeq m_Calendar_add_s0 (mSeq m_Calendar_add_s2 (mSeq m_Calendar_add_s5 (mSeq m_Calendar_add_s6 (mSeq m_Calendar_add_s7 (mSeq m_Calendar_add_s8 (mSeq m_Calendar_add_s9 m_Calendar_add_s10))))))))
theorem sc_m_Calendar_add : FnScope ["self", "person", "hour", "day"] ["self", "person", "hour"] (defScope s_Calendar_add) := ⟨rfl, rfl, rfl, by decide +kernel, rfl, by decide +kernel, by decide +kernel⟩
theorem ok_Calendar_add {P : Program} {w : PySem.World} {K : PySem.W.Frag} {mg : Str → Option Value} {base : Heap} {fd : FuncData} (g : Gs K mg) (h_is_whole : FN P w K mg base 1 3 "is_whole" m_is_whole) (h_fresh : FN P w K mg base 1 3 "fresh" m_fresh) (h_Calendar_mark : MN P w K mg base 2 3 "Calendar" "mark" m_Calendar_mark) (x_Refused : XN P w K mg base 1 "Refused" "deed") (F : FunD K "add" "Calendar.add" (defArgs s_Calendar_add) (defBody s_Calendar_add) (defScope s_Calendar_add) [] [] (He.ma K (He.ga K "Calendar") "add") fd) : MN P w K mg base 3 3 "Calendar" "add" m_Calendar_add := by
  refine ⟨fd, ["self", "person", "hour"], ?_, F.bindsN fun _ _ _ _ _ _ us hl => match us, hl with | [_, _, _], _ => rfl⟩
  refine F.ok sc_m_Calendar_add (fun vs H Q E h => h.1) (fun cdv A outer s H vs Q E hr h => body_ok (m := (mSeq m_Calendar_add_s0 (mSeq m_Calendar_add_s2 (mSeq m_Calendar_add_s5 (mSeq m_Calendar_add_s6 (mSeq m_Calendar_add_s7 (mSeq m_Calendar_add_s8 (mSeq m_Calendar_add_s9 m_Calendar_add_s10)))))))) (by decide) ?_ h)
  exact (sss_cons (ss_if (st_w (sw_or (st_not (st_val (se_callN h_is_whole hr (by decide) rfl takes_cx (sa_cons (sv 1) (sa_cons se_int (sa_cons (sv 1) sa_nil))) (lenCons (lenCons (lenCons lenNil)))))) (sw_or1 (st_not (st_val (se_callN h_is_whole hr (by decide) rfl takes_cx (sa_cons (sv 2) (sa_cons se_int (sa_cons (se_op opM_sub pu_sub (se_fld g.c_Calendar g.n_Calendar_hours (sv 0)) se_int) sa_nil))) (lenCons (lenCons (lenCons lenNil))))))))) (sss_one (ss_raise0 rfl takes_cx g.x0_BadSeries rfl g.gc_BadSeries)) sss_nil) (sss_cons (ss_for pass_cx rfl (si_rng rfl g.b_range (sa_cons (se_fld g.c_Calendar g.n_Calendar_days (sv 0)) sa_nil)) (sn 3 sc_m_Calendar_add.nd) (sss_one (ss_if (st_w (sw_or (st_truth (se_bx PySem.F.plainAttrs_dict PySem.F.slot_dict_get PySem.F.type_dict_get (mt_dget (Room.u65 hr)) pu_dget kd_dcT (se_fld g.c_Calendar g.n_Calendar_rooms (sv 0)) (sa_cons (se_tup (sa_cons (sv 3) (sa_cons (sv 2) sa_nil)) (lenCons (lenCons lenNil)) (by decide)) (sa_cons (se_dnew (fr := false)) sa_nil)) ⟨rfl, rfl, rfl⟩)) (sw_or1 (st_truth (se_bx PySem.F.plainAttrs_dict PySem.F.slot_dict_get PySem.F.type_dict_get (mt_dget (Room.u65 hr)) pu_dget kd_dcT (se_fld g.c_Calendar g.n_Calendar_persons (sv 0)) (sa_cons (se_tup (sa_cons (sv 1) (sa_cons (sv 3) (sa_cons (sv 2) sa_nil))) (lenCons (lenCons (lenCons lenNil))) (by decide)) (sa_cons (se_dnew (fr := false)) sa_nil)) ⟨rfl, rfl, rfl⟩))))) (sss_one (ss_raiseN x_Refused rfl takes_cx hr (by decide) rfl (se_tup (sa_cons se_str (sa_cons (sv 1) (sa_cons (sv 2) sa_nil))) (lenCons (lenCons (lenCons lenNil))) (by decide)))) sss_nil))) (sss_cons (ss_expr (se_app (se_fld g.c_Calendar g.n_Calendar_rows (sv 0)) (se_callN h_fresh hr (by decide) rfl takes_cx (sa_cons (sv 1) (sa_cons (sv 2) (sa_cons (se_fld g.c_Calendar g.n_Calendar_days (sv 0)) sa_nil))) (lenCons (lenCons (lenCons lenNil)))))) (sss_cons (ss_expr (se_app (se_fld g.c_Calendar g.n_Calendar_before (sv 0)) se_non)) (sss_cons (ss_expr (se_app (se_fld g.c_Calendar g.n_Calendar_seen (sv 0)) se_non)) (sss_cons (ss_expr (se_methN h_Calendar_mark g.c_Calendar g.m_Calendar_mark hr (by decide) takes_cx (sv 0) (sa_cons (se_op opM_sub pu_sub (se_callB crM_len pu_len rfl g.b_len bt_len (sa_cons (se_fld g.c_Calendar g.n_Calendar_rows (sv 0)) sa_nil)) se_int) (sa_cons se_int sa_nil)) (lenCons (lenCons lenNil)))) (sss_cons (ss_expr (se_app (se_fld g.c_Calendar g.n_Calendar_done (sv 0)) (se_tup (sa_cons (se_tup (sa_cons se_str (sa_cons (sv 1) (sa_cons (sv 2) sa_nil))) (lenCons (lenCons (lenCons lenNil))) (by decide)) (sa_cons se_non (sa_cons se_non sa_nil))) (lenCons (lenCons (lenCons lenNil))) (by decide)))) (sss_one (ss_ret (se_op opM_sub pu_sub (se_callB crM_len pu_len rfl g.b_len bt_len (sa_cons (se_fld g.c_Calendar g.n_Calendar_rows (sv 0)) sa_nil)) se_int))))))))))
def m_Calendar___len___s0 : MS := (mRet (mCallF lenM (mCons (mFld "Calendar" "done" (mVar 0)) mNil)))
def m_Calendar___len__ : MF := mFn 1 (m_Calendar___len___s0)
theorem sc_m_Calendar___len__ : FnScope ["self"] ["self"] (defScope s_Calendar___len__) := ⟨rfl, rfl, rfl, by decide +kernel, rfl, by decide +kernel, by decide +kernel⟩
theorem ok_Calendar___len__ {P : Program} {w : PySem.World} {K : PySem.W.Frag} {mg : Str → Option Value} {base : Heap} {fd : FuncData} (g : Gs K mg) (F : FunD K "__len__" "Calendar.__len__" (defArgs s_Calendar___len__) (defBody s_Calendar___len__) (defScope s_Calendar___len__) [] [] (He.ma K (He.ga K "Calendar") "__len__") fd) : MN P w K mg base 1 1 "Calendar" "__len__" m_Calendar___len__ := by
  refine ⟨fd, ["self"], ?_, F.bindsN fun _ _ _ _ _ _ us hl => match us, hl with | [_], _ => rfl⟩
  refine F.ok sc_m_Calendar___len__ (fun vs H Q E h => h.1) (fun cdv A outer s H vs Q E hr h => body_ok (m := m_Calendar___len___s0) (by decide) ?_ h)
  exact (sss_one (ss_ret (se_callB crM_len pu_len rfl g.b_len bt_len (sa_cons (se_fld g.c_Calendar g.n_Calendar_done (sv 0)) sa_nil))))
def m_Calendar_is_deed_s1 : MS := (mRet (mC (.bl false)))
def m_Calendar_is_deed_s0 : MS := (mIfS (mOr (mNot (mTest (mIsi "tuple" (mVar 1)))) (mOr (mNot (mTruth (mVar 1))) (mOr (mNot (mTest (mIsi "str" (mOp idxM (mVar 1) (mC (.int 0)))))) (mTest (inW true tab_SIZES (mOp idxM (mVar 1) (mC (.int 0)))))))) m_Calendar_is_deed_s1 mNext)
def m_Calendar_is_deed_s3 : MS := (mRet (mC (.bl false)))
def m_Calendar_is_deed_s2 : MS := (mIfS (mOr (mTest (mOp neM (mCallF lenM (mCons (mVar 1) mNil)) (ixW tab_SIZES (mOp idxM (mVar 1) (mC (.int 0)))))) (mNot (mTest (mCallF m_is_whole (mCons (mOp idxM (mVar 1) (mC (.int 1))) (mCons (mC (.int 0)) (mCons (mOp subM (mCallF lenM (mCons (mFld "Calendar" "rows" (mVar 0)) mNil)) (mC (.int 1))) mNil))))))) m_Calendar_is_deed_s3 mNext)
def m_Calendar_is_deed_s5 : MS := (mRet (mCallF m_is_whole (mCons (mOp idxM (mVar 1) (mC (.int 2))) (mCons (mC (.int 0)) (mCons (mOp subM (mFld "Calendar" "hours" (mVar 0)) (mC (.int 1))) mNil)))))
def m_Calendar_is_deed_s4 : MS := (mIfS (mTest (mOp eqM (mOp idxM (mVar 1) (mC (.int 0))) (mC (.str "room")))) m_Calendar_is_deed_s5 mNext)
def m_Calendar_is_deed_s7 : MS := (mRet (mC (.bl true)))
def m_Calendar_is_deed_s6 : MS := (mIfS (mTest (mOp eqM (mOp idxM (mVar 1) (mC (.int 0))) (mC (.str "person")))) m_Calendar_is_deed_s7 mNext)
def m_Calendar_is_deed_s9 : MS := (mRet (mC (.bl false)))
def m_Calendar_is_deed_s8 : MS := (mIfS (mNot (mTest (mCallF m_is_whole (mCons (mOp idxM (mVar 1) (mC (.int 2))) (mCons (mC (.int 0)) (mCons (mOp subM (mFld "Calendar" "days" (mVar 0)) (mC (.int 1))) mNil)))))) m_Calendar_is_deed_s9 mNext)
def m_Calendar_is_deed_s10 : MS := (mRet (mOrV (mOp eqM (mOp idxM (mVar 1) (mC (.int 0))) (mC (.str "off"))) (mCallF m_is_whole (mCons (mOp idxM (mVar 1) (mC (.int 3))) (mCons (mC (.int 0)) (mCons (mOp subM (mFld "Calendar" "hours" (mVar 0)) (mC (.int 1))) mNil))))))
def m_Calendar_is_deed : MF := viewF (mFn 2 ((mSeq m_Calendar_is_deed_s0 (mSeq m_Calendar_is_deed_s2 (mSeq m_Calendar_is_deed_s4 (mSeq m_Calendar_is_deed_s6 (mSeq m_Calendar_is_deed_s8 m_Calendar_is_deed_s10)))))))
theorem sc_m_Calendar_is_deed : FnScope ["self", "thing"] ["self", "thing"] (defScope s_Calendar_is_deed) := ⟨rfl, rfl, rfl, by decide +kernel, rfl, by decide +kernel, by decide +kernel⟩
theorem ok_Calendar_is_deed {P : Program} {w : PySem.World} {K : PySem.W.Frag} {mg : Str → Option Value} {base : Heap} {fd : FuncData} (g : Gs K mg) (h_is_whole : FN P w K mg base 1 3 "is_whole" m_is_whole) (t_SIZES : TabK w K mg "SIZES" tab_SIZES) (F : FunD K "is_deed" "Calendar.is_deed" (defArgs s_Calendar_is_deed) (defBody s_Calendar_is_deed) (defScope s_Calendar_is_deed) [] [] (He.ma K (He.ga K "Calendar") "is_deed") fd) : MN P w K mg base 2 2 "Calendar" "is_deed" m_Calendar_is_deed := by
  refine ⟨fd, ["self", "thing"], ?_, F.bindsN fun _ _ _ _ _ _ us hl => match us, hl with | [_, _], _ => rfl⟩
  refine view_ok (m := mFn _ _) (F.ok sc_m_Calendar_is_deed (fun vs H Q E h => h.1) (fun cdv A outer s H vs Q E hr h => body_ok (m := (mSeq m_Calendar_is_deed_s0 (mSeq m_Calendar_is_deed_s2 (mSeq m_Calendar_is_deed_s4 (mSeq m_Calendar_is_deed_s6 (mSeq m_Calendar_is_deed_s8 m_Calendar_is_deed_s10)))))) (by decide) ?_ h))
  exact (sss_cons (ss_if (st_w (sw_or (st_not (st_val (se_isi rfl g.b_isinstance rfl g.b_tuple bt_tuple (sv 1)))) (sw_or (st_not (st_truth (sv 1))) (sw_or (st_not (st_val (se_isi rfl g.b_isinstance rfl g.b_str bt_str (se_ix (Room.u1 hr) (fun _ _ => rfl) (sv 1) se_int pu_ix)))) (sw_or1 (st_ninW t_SIZES rfl (se_ix (Room.u1 hr) (fun _ _ => rfl) (sv 1) se_int pu_ix))))))) (sss_one (ss_ret se_bl)) sss_nil) (sss_cons (ss_if (st_w (sw_or (st_cmp (opM_ne (Room.u64 hr)) pu_ne (nomark _) (se_callB crM_len pu_len rfl g.b_len bt_len (sa_cons (sv 1) sa_nil)) (se_ixW t_SIZES rfl (fun _ _ => rfl) (se_ix (Room.u1 hr) (fun _ _ => rfl) (sv 1) se_int pu_ix))) (sw_or1 (st_not (st_val (se_callN h_is_whole hr (by decide) rfl takes_cx (sa_cons (se_ix (Room.u1 hr) (fun _ _ => rfl) (sv 1) se_int pu_ix) (sa_cons se_int (sa_cons (se_op opM_sub pu_sub (se_callB crM_len pu_len rfl g.b_len bt_len (sa_cons (se_fld g.c_Calendar g.n_Calendar_rows (sv 0)) sa_nil)) se_int) sa_nil))) (lenCons (lenCons (lenCons lenNil))))))))) (sss_one (ss_ret se_bl)) sss_nil) (sss_cons (ss_if (st_cmp (opM_eq (Room.u64 hr)) pu_eq (nomark _) (se_ix (Room.u1 hr) (fun _ _ => rfl) (sv 1) se_int pu_ix) se_str) (sss_one (ss_ret (se_callN h_is_whole hr (by decide) rfl takes_cx (sa_cons (se_ix (Room.u1 hr) (fun _ _ => rfl) (sv 1) se_int pu_ix) (sa_cons se_int (sa_cons (se_op opM_sub pu_sub (se_fld g.c_Calendar g.n_Calendar_hours (sv 0)) se_int) sa_nil))) (lenCons (lenCons (lenCons lenNil)))))) sss_nil) (sss_cons (ss_if (st_cmp (opM_eq (Room.u64 hr)) pu_eq (nomark _) (se_ix (Room.u1 hr) (fun _ _ => rfl) (sv 1) se_int pu_ix) se_str) (sss_one (ss_ret se_bl)) sss_nil) (sss_cons (ss_if (st_not (st_val (se_callN h_is_whole hr (by decide) rfl takes_cx (sa_cons (se_ix (Room.u1 hr) (fun _ _ => rfl) (sv 1) se_int pu_ix) (sa_cons se_int (sa_cons (se_op opM_sub pu_sub (se_fld g.c_Calendar g.n_Calendar_days (sv 0)) se_int) sa_nil))) (lenCons (lenCons (lenCons lenNil)))))) (sss_one (ss_ret se_bl)) sss_nil) (sss_one (ss_ret (se_or (se_cmp (opM_eq (Room.u64 hr)) pu_eq (nomark _) (se_ix (Room.u1 hr) (fun _ _ => rfl) (sv 1) se_int pu_ix) se_str) (se_one (se_callN h_is_whole hr (by decide) rfl takes_cx (sa_cons (se_ix (Room.u1 hr) (fun _ _ => rfl) (sv 1) se_int pu_ix) (sa_cons se_int (sa_cons (se_op opM_sub pu_sub (se_fld g.c_Calendar g.n_Calendar_hours (sv 0)) se_int) sa_nil))) (lenCons (lenCons (lenCons lenNil)))))))))))))
def m_room_day_s0 : MS := (mAsg (mVar 3) (tgTup (tgCons (tgName 5) (tgCons (tgName 6) (tgCons (tgName 7) tgNil)))))
def m_room_day_s2 : MS := (mRet (mVar 3))
def m_room_day_s1 : MS := (mIfS (mTest (mOp isM (mVar 5) (mC .non))) m_room_day_s2 mNext)
def m_room_day_s4 : MS := (mRet (mVar 3))
def m_room_day_s3 : MS := (mIfS (mAnd (mTest (mVar 7)) (mTest (mOp eqM (mFld "Rule" "singles" (mVar 0)) (mC (.str "keep"))))) m_room_day_s4 mNext)
def m_room_day_s6 : MS := (mRet (mTup (mCons (mOp modM (mOp subM (mOp addM (mVar 5) (mVar 4)) (mOp idxM (mVar 2) (mC (.int 1)))) (mVar 1)) (mCons (mVar 6) (mCons (mC (.bl true)) mNil)))))
def m_room_day_s5 : MS := (mIfS (mAnd (mTest (mVar 7)) (mTest (mOp eqM (mFld "Rule" "singles" (mVar 0)) (mC (.str "move"))))) m_room_day_s6 mNext)
def m_room_day_s7 : MS := (mRet (mTup (mCons (mVar 4) (mCons (mVar 6) (mCons (mC (.bl false)) mNil)))))
def m_room_day : MF := mFn 8 ((mSeq m_room_day_s0 (mSeq m_room_day_s1 (mSeq m_room_day_s3 (mSeq m_room_day_s5 m_room_day_s7)))))
theorem sc_m_room_day : FnScope ["rule", "hours", "row", "day", "hour", "room", "there", "single"] ["rule", "hours", "row", "day", "hour"] (defScope s_room_day) := ⟨rfl, rfl, rfl, by decide +kernel, rfl, by decide +kernel, by decide +kernel⟩
theorem ok_room_day {P : Program} {w : PySem.World} {K : PySem.W.Frag} {mg : Str → Option Value} {base : Heap} {f : Addr} {fd : FuncData} (g : Gs K mg) (F : FunD K "room_day" "room_day" (defArgs s_room_day) (defBody s_room_day) (defScope s_room_day) [] [] f fd) (hg : mg "room_day" = some (.ref f)) : FN P w K mg base 1 5 "room_day" m_room_day := by
  refine ⟨f, fd, ["rule", "hours", "row", "day", "hour"], ?_, hg, F.kp, F.bindsN fun _ _ _ _ _ _ us hl => match us, hl with | [_, _, _, _, _], _ => rfl⟩
  refine F.ok sc_m_room_day (fun vs H Q E h => h.1) (fun cdv A outer s H vs Q E hr h => body_ok (m := (mSeq m_room_day_s0 (mSeq m_room_day_s1 (mSeq m_room_day_s3 (mSeq m_room_day_s5 m_room_day_s7))))) (by decide) ?_ h)
  exact (sss_cons (ss_asg (sv 3) (sg_tup rfl (sgs_cons (sn 5 sc_m_room_day.nd) (sgs_cons (sn 6 sc_m_room_day.nd) (sgs_cons (sn 7 sc_m_room_day.nd) sgs_nil))))) (sss_cons (ss_if (st_cmp opM_is pu_is (nomark _) (sv 5) se_non) (sss_one (ss_ret (sv 3))) sss_nil) (sss_cons (ss_if (st_w (sw_and (st_val (sv 7)) (sw_and1 (st_cmp (opM_eq (Room.u64 hr)) pu_eq (nomark _) (se_fld g.c_Rule g.n_Rule_singles (sv 0)) se_str)))) (sss_one (ss_ret (sv 3))) sss_nil) (sss_cons (ss_if (st_w (sw_and (st_val (sv 7)) (sw_and1 (st_cmp (opM_eq (Room.u64 hr)) pu_eq (nomark _) (se_fld g.c_Rule g.n_Rule_singles (sv 0)) se_str)))) (sss_one (ss_ret (se_tup (sa_cons (se_op opM_mod pu_mod (se_op opM_sub pu_sub (se_op opM_add pu_add (sv 5) (sv 4)) (se_ix (Room.u1 hr) (fun _ _ => rfl) (sv 2) se_int pu_ix)) (sv 1)) (sa_cons (sv 6) (sa_cons se_bl sa_nil))) (lenCons (lenCons (lenCons lenNil))) (by decide)))) sss_nil) (sss_one (ss_ret (se_tup (sa_cons (sv 4) (sa_cons (sv 6) (sa_cons se_bl sa_nil))) (lenCons (lenCons (lenCons lenNil))) (by decide))))))))
def m_Calendar_is_room_s0 : MS := (mRet (mNotV (mCallF anyM (mCons (mLc true [4] (mKeys (mBM kDcT dgetM (mFld "Calendar" "rooms" (mVar 0)) (mCons (mTup (mCons (mVar 2) (mCons (mVar 3) mNil))) (mCons (fun _ S => mkD true [] [] S) mNil)))) (tgName 4) mTrue (mOp neM (mVar 4) (mVar 1))) mNil))))
def m_Calendar_is_room : MF := viewF (mFn 5 (m_Calendar_is_room_s0))
theorem sc_m_Calendar_is_room : FnScope ["self", "series", "day", "hour", "other"] ["self", "series", "day", "hour"] (defScope s_Calendar_is_room) := ⟨rfl, rfl, rfl, by decide +kernel, rfl, by decide +kernel, by decide +kernel⟩
theorem ok_Calendar_is_room {P : Program} {w : PySem.World} {K : PySem.W.Frag} {mg : Str → Option Value} {base : Heap} {fd : FuncData} (g : Gs K mg) (F : FunD K "is_room" "Calendar.is_room" (defArgs s_Calendar_is_room) (defBody s_Calendar_is_room) (defScope s_Calendar_is_room) [] [] (He.ma K (He.ga K "Calendar") "is_room") fd) : MN P w K mg base 1 4 "Calendar" "is_room" m_Calendar_is_room := by
  refine ⟨fd, ["self", "series", "day", "hour"], ?_, F.bindsN fun _ _ _ _ _ _ us hl => match us, hl with | [_, _, _, _], _ => rfl⟩
  refine view_ok (m := mFn _ _) (F.ok sc_m_Calendar_is_room (fun vs H Q E h => h.1) (fun cdv A outer s H vs Q E hr h => body_ok (m := m_Calendar_is_room_s0) (by decide) ?_ h))
  exact (sss_one (ss_ret (se_not (se_callB (crM_any rfl) pu_any rfl g.b_any bt_any (sa_cons (se_lc (fr := true) (own := [("other", 4)]) rfl sc_m_Calendar_is_room.nd (si_dks (se_bx PySem.F.plainAttrs_dict PySem.F.slot_dict_get PySem.F.type_dict_get (mt_dget (Room.u65 hr)) pu_dget kd_dcT (se_fld g.c_Calendar g.n_Calendar_rooms (sv 0)) (sa_cons (se_tup (sa_cons (sv 2) (sa_cons (sv 3) sa_nil)) (lenCons (lenCons lenNil)) (by decide)) (sa_cons (se_dnew (fr := true)) sa_nil)) ⟨rfl, rfl, rfl⟩)) (blkOk_by rfl) (fun _ _ _ _ _ => (sn 4 sc_m_Calendar_is_room.nd)) (fun _ _ _ _ _ => sts_nil) (fun _ _ _ _ _ => (se_cmp (opM_ne (Room.u64 hr)) pu_ne (nomark _) (sv 4) (sv 1))) (by decide)) sa_nil)))))
def m_Calendar_room_row_s0 : MS := (mAsg (mOp idxM (mFld "Calendar" "rows" (mVar 0)) (mVar 1)) (tgTup (tgCons (tgName 4) (tgCons (tgName 5) (tgCons (tgName 6) tgNil)))))
def m_Calendar_room_row_s1 : MS := (mAsg (mCallF tupM (mCons (mLc true [7] (mSrc (mVar 6)) (tgName 7) mTrue (mCallF m_room_day (mCons (mFld "Calendar" "rule" (mVar 0)) (mCons (mFld "Calendar" "hours" (mVar 0)) (mCons (mOp idxM (mFld "Calendar" "rows" (mVar 0)) (mVar 1)) (mCons (mVar 7) (mCons (mVar 2) mNil))))))) mNil)) (tgName 3))
def m_Calendar_room_row_s5 : MS := (mRet (mC .non))
def m_Calendar_room_row_s4 : MS := (mIfS (mAnd (mTest (mOp neM (mOp idxM (mVar 8) (mC (.int 0))) (mOp idxM (mVar 9) (mC (.int 0))))) (mNot (mTest (mMeth "Calendar" "is_room" m_Calendar_is_room (mVar 0) (mCons (mVar 1) (mCons (mVar 7) (mCons (mOp idxM (mVar 9) (mC (.int 0))) mNil))))))) m_Calendar_room_row_s5 mNext)
def m_Calendar_room_row_s3 : MS := (mFor (mEzip (mCons (mVar 6) (mCons (mVar 3) mNil))) (tgTup (tgCons (tgName 7) (tgCons (tgTup (tgCons (tgName 8) (tgCons (tgName 9) tgNil))) tgNil))) m_Calendar_room_row_s4)
def m_Calendar_room_row_s2 : MS := (mIfS (mTest (mOp neM (mFld "Rule" "checking" (mFld "Calendar" "rule" (mVar 0))) (mC (.str "none")))) m_Calendar_room_row_s3 mNext)
def m_Calendar_room_row_s6 : MS := (mRet (mTup (mCons (mVar 4) (mCons (mVar 2) (mCons (mVar 3) mNil)))))
def m_Calendar_room_row : MF := viewF (mFn 10 ((mSeq m_Calendar_room_row_s0 (mSeq m_Calendar_room_row_s1 (mSeq m_Calendar_room_row_s2 m_Calendar_room_row_s6)))))
theorem sc_m_Calendar_room_row : FnScope ["self", "series", "hour", "after", "person", "base", "days", "day", "old", "new"] ["self", "series", "hour"] (defScope s_Calendar_room_row) := ⟨rfl, rfl, rfl, by decide +kernel, rfl, by decide +kernel, by decide +kernel⟩
theorem ok_Calendar_room_row {P : Program} {w : PySem.World} {K : PySem.W.Frag} {mg : Str → Option Value} {base : Heap} {fd : FuncData} (g : Gs K mg) (h_room_day : FN P w K mg base 1 5 "room_day" m_room_day) (h_Calendar_is_room : MN P w K mg base 1 4 "Calendar" "is_room" m_Calendar_is_room) (F : FunD K "room_row" "Calendar.room_row" (defArgs s_Calendar_room_row) (defBody s_Calendar_room_row) (defScope s_Calendar_room_row) [] [] (He.ma K (He.ga K "Calendar") "room_row") fd) : MN P w K mg base 2 3 "Calendar" "room_row" m_Calendar_room_row := by
  refine ⟨fd, ["self", "series", "hour"], ?_, F.bindsN fun _ _ _ _ _ _ us hl => match us, hl with | [_, _, _], _ => rfl⟩
  refine view_ok (m := mFn _ _) (F.ok sc_m_Calendar_room_row (fun vs H Q E h => h.1) (fun cdv A outer s H vs Q E hr h => body_ok (m := (mSeq m_Calendar_room_row_s0 (mSeq m_Calendar_room_row_s1 (mSeq m_Calendar_room_row_s2 m_Calendar_room_row_s6)))) (by decide) ?_ h))
  exact (sss_cons (ss_asg (se_ix (Room.u1 hr) (fun _ _ => rfl) (se_fld g.c_Calendar g.n_Calendar_rows (sv 0)) (sv 1) pu_ix) (sg_tup rfl (sgs_cons (sn 4 sc_m_Calendar_room_row.nd) (sgs_cons (sn 5 sc_m_Calendar_room_row.nd) (sgs_cons (sn 6 sc_m_Calendar_room_row.nd) sgs_nil))))) (sss_cons (sset 3 sc_m_Calendar_room_row.nd (se_callTy crM_tuple pu_tuple rfl g.b_tuple bt_tuple (sa_cons (se_lc (fr := true) (own := [("day", 7)]) rfl sc_m_Calendar_room_row.nd (si_seq (sv 6)) (blkOk_by rfl) (fun _ _ _ _ _ => (sn 7 sc_m_Calendar_room_row.nd)) (fun _ _ _ _ _ => sts_nil) (fun _ _ _ _ _ => (se_callN h_room_day hr (by decide) rfl takesNo (sa_cons (se_fld g.c_Calendar g.n_Calendar_rule (sv 0)) (sa_cons (se_fld g.c_Calendar g.n_Calendar_hours (sv 0)) (sa_cons (se_ix (Room.u1 hr) (fun _ _ => rfl) (se_fld g.c_Calendar g.n_Calendar_rows (sv 0)) (sv 1) pu_ix) (sa_cons (sv 7) (sa_cons (sv 2) sa_nil))))) (lenCons (lenCons (lenCons (lenCons (lenCons lenNil))))))) (by decide)) sa_nil))) (sss_cons (ss_if (st_cmp (opM_ne (Room.u64 hr)) pu_ne (nomark _) (se_fld g.c_Rule g.n_Rule_checking (se_fld g.c_Calendar g.n_Calendar_rule (sv 0))) se_str) (sss_one (ss_for pass_cx rfl (si_ezip rfl g.b_enumerate rfl g.b_zip (sa_cons (sv 6) (sa_cons (sv 3) sa_nil))) (sg_tup rfl (sgs_cons (sn 7 sc_m_Calendar_room_row.nd) (sgs_cons (sg_tup rfl (sgs_cons (sn 8 sc_m_Calendar_room_row.nd) (sgs_cons (sn 9 sc_m_Calendar_room_row.nd) sgs_nil))) sgs_nil))) (sss_one (ss_if (st_w (sw_and (st_cmp (opM_ne (Room.u64 hr)) pu_ne (nomark _) (se_ix (Room.u1 hr) (fun _ _ => rfl) (sv 8) se_int pu_ix) (se_ix (Room.u1 hr) (fun _ _ => rfl) (sv 9) se_int pu_ix)) (sw_and1 (st_not (st_val (se_methN h_Calendar_is_room g.c_Calendar g.m_Calendar_is_room hr (by decide) takes_cx (sv 0) (sa_cons (sv 1) (sa_cons (sv 7) (sa_cons (se_ix (Room.u1 hr) (fun _ _ => rfl) (sv 9) se_int pu_ix) sa_nil))) (lenCons (lenCons (lenCons lenNil))))))))) (sss_one (ss_ret se_non)) sss_nil)))) sss_nil) (sss_one (ss_ret (se_tup (sa_cons (sv 4) (sa_cons (sv 2) (sa_cons (sv 3) sa_nil))) (lenCons (lenCons (lenCons lenNil))) (by decide)))))))
def m_Calendar_is_person_s0 : MS := (mAsg (mTup (mCons (mOp idxM (mOp idxM (mFld "Calendar" "rows" (mVar 0)) (mVar 1)) (mC (.int 0))) (mCons (mVar 2) (mCons (mVar 3) mNil)))) (tgName 4))
def m_Calendar_is_person_s1 : MS := (mRet (mNotV (mCallF anyM (mCons (mLc true [5] (mKeys (mBM kDcT dgetM (mFld "Calendar" "persons" (mVar 0)) (mCons (mVar 4) (mCons (fun _ S => mkD true [] [] S) mNil)))) (tgName 5) mTrue (mOp neM (mVar 5) (mVar 1))) mNil))))
def m_Calendar_is_person : MF := viewF (mFn 6 ((mSeq m_Calendar_is_person_s0 m_Calendar_is_person_s1)))
theorem sc_m_Calendar_is_person : FnScope ["self", "series", "day", "hour", "key", "other"] ["self", "series", "day", "hour"] (defScope s_Calendar_is_person) := ⟨rfl, rfl, rfl, by decide +kernel, rfl, by decide +kernel, by decide +kernel⟩
theorem ok_Calendar_is_person {P : Program} {w : PySem.World} {K : PySem.W.Frag} {mg : Str → Option Value} {base : Heap} {fd : FuncData} (g : Gs K mg) (F : FunD K "is_person" "Calendar.is_person" (defArgs s_Calendar_is_person) (defBody s_Calendar_is_person) (defScope s_Calendar_is_person) [] [] (He.ma K (He.ga K "Calendar") "is_person") fd) : MN P w K mg base 1 4 "Calendar" "is_person" m_Calendar_is_person := by
  refine ⟨fd, ["self", "series", "day", "hour"], ?_, F.bindsN fun _ _ _ _ _ _ us hl => match us, hl with | [_, _, _, _], _ => rfl⟩
  refine view_ok (m := mFn _ _) (F.ok sc_m_Calendar_is_person (fun vs H Q E h => h.1) (fun cdv A outer s H vs Q E hr h => body_ok (m := (mSeq m_Calendar_is_person_s0 m_Calendar_is_person_s1)) (by decide) ?_ h))
  exact (sss_cons (sset 4 sc_m_Calendar_is_person.nd (se_tup (sa_cons (se_ix (Room.u1 hr) (fun _ _ => rfl) (se_ix (Room.u1 hr) (fun _ _ => rfl) (se_fld g.c_Calendar g.n_Calendar_rows (sv 0)) (sv 1) pu_ix) se_int pu_ix) (sa_cons (sv 2) (sa_cons (sv 3) sa_nil))) (lenCons (lenCons (lenCons lenNil))) (by decide))) (sss_one (ss_ret (se_not (se_callB (crM_any rfl) pu_any rfl g.b_any bt_any (sa_cons (se_lc (fr := true) (own := [("other", 5)]) rfl sc_m_Calendar_is_person.nd (si_dks (se_bx PySem.F.plainAttrs_dict PySem.F.slot_dict_get PySem.F.type_dict_get (mt_dget (Room.u65 hr)) pu_dget kd_dcT (se_fld g.c_Calendar g.n_Calendar_persons (sv 0)) (sa_cons (sv 4) (sa_cons (se_dnew (fr := true)) sa_nil)) ⟨rfl, rfl, rfl⟩)) (blkOk_by rfl) (fun _ _ _ _ _ => (sn 5 sc_m_Calendar_is_person.nd)) (fun _ _ _ _ _ => sts_nil) (fun _ _ _ _ _ => (se_cmp (opM_ne (Room.u64 hr)) pu_ne (nomark _) (sv 5) (sv 1))) (by decide)) sa_nil))))))
def m_Calendar_person_row_s0 : MS := (mAsg (mOp idxM (mFld "Calendar" "rows" (mVar 0)) (mVar 1)) (tgTup (tgCons (tgName 3) (tgCons (tgName 4) (tgCons (tgName 5) tgNil)))))
def m_Calendar_person_row_s1 : MS := (mAsg (mCallF tupM (mCons (mLc true [9, 10, 11] (mSrc (mVar 5)) (tgTup (tgCons (tgName 9) (tgCons (tgName 10) (tgCons (tgName 11) tgNil)))) mTrue (mTup (mCons (mVar 9) (mCons (mVar 9) (mCons (mVar 11) mNil))))) mNil)) (tgName 2))
def m_Calendar_person_row_s5 : MS := (mRet (mC .non))
def m_Calendar_person_row_s4 : MS := (mIfS (mAnd (mTest (mOp neM (mOp idxM (mVar 7) (mC (.int 1))) (mOp idxM (mVar 8) (mC (.int 1))))) (mNot (mTest (mMeth "Calendar" "is_person" m_Calendar_is_person (mVar 0) (mCons (mVar 1) (mCons (mVar 6) (mCons (mOp idxM (mVar 8) (mC (.int 1))) mNil))))))) m_Calendar_person_row_s5 mNext)
def m_Calendar_person_row_s3 : MS := (mFor (mEzip (mCons (mVar 5) (mCons (mVar 2) mNil))) (tgTup (tgCons (tgName 6) (tgCons (tgTup (tgCons (tgName 7) (tgCons (tgName 8) tgNil))) tgNil))) m_Calendar_person_row_s4)
def m_Calendar_person_row_s2 : MS := (mIfS (mTest (mOp eqM (mFld "Rule" "checking" (mFld "Calendar" "rule" (mVar 0))) (mC (.str "both")))) m_Calendar_person_row_s3 mNext)
def m_Calendar_person_row_s6 : MS := (mRet (mTup (mCons (mVar 3) (mCons (mVar 4) (mCons (mVar 2) mNil)))))
def m_Calendar_person_row : MF := viewF (mFn 12 ((mSeq m_Calendar_person_row_s0 (mSeq m_Calendar_person_row_s1 (mSeq m_Calendar_person_row_s2 m_Calendar_person_row_s6)))))
theorem sc_m_Calendar_person_row : FnScope ["self", "series", "after", "person", "base", "days", "day", "old", "new", "room", "there", "single"] ["self", "series"] (defScope s_Calendar_person_row) := ⟨rfl, rfl, rfl, by decide +kernel, rfl, by decide +kernel, by decide +kernel⟩
theorem ok_Calendar_person_row {P : Program} {w : PySem.World} {K : PySem.W.Frag} {mg : Str → Option Value} {base : Heap} {fd : FuncData} (g : Gs K mg) (h_Calendar_is_person : MN P w K mg base 1 4 "Calendar" "is_person" m_Calendar_is_person) (F : FunD K "person_row" "Calendar.person_row" (defArgs s_Calendar_person_row) (defBody s_Calendar_person_row) (defScope s_Calendar_person_row) [] [] (He.ma K (He.ga K "Calendar") "person_row") fd) : MN P w K mg base 2 2 "Calendar" "person_row" m_Calendar_person_row := by
  refine ⟨fd, ["self", "series"], ?_, F.bindsN fun _ _ _ _ _ _ us hl => match us, hl with | [_, _], _ => rfl⟩
  refine view_ok (m := mFn _ _) (F.ok sc_m_Calendar_person_row (fun vs H Q E h => h.1) (fun cdv A outer s H vs Q E hr h => body_ok (m := (mSeq m_Calendar_person_row_s0 (mSeq m_Calendar_person_row_s1 (mSeq m_Calendar_person_row_s2 m_Calendar_person_row_s6)))) (by decide) ?_ h))
  exact (sss_cons (ss_asg (se_ix (Room.u1 hr) (fun _ _ => rfl) (se_fld g.c_Calendar g.n_Calendar_rows (sv 0)) (sv 1) pu_ix) (sg_tup rfl (sgs_cons (sn 3 sc_m_Calendar_person_row.nd) (sgs_cons (sn 4 sc_m_Calendar_person_row.nd) (sgs_cons (sn 5 sc_m_Calendar_person_row.nd) sgs_nil))))) (sss_cons (sset 2 sc_m_Calendar_person_row.nd (se_callTy crM_tuple pu_tuple rfl g.b_tuple bt_tuple (sa_cons (se_lc (fr := true) (own := [("room", 9), ("there", 10), ("single", 11)]) rfl sc_m_Calendar_person_row.nd (si_seq (sv 5)) (blkOk_by rfl) (fun _ _ _ _ _ => (sg_tup rfl (sgs_cons (sn 9 sc_m_Calendar_person_row.nd) (sgs_cons (sn 10 sc_m_Calendar_person_row.nd) (sgs_cons (sn 11 sc_m_Calendar_person_row.nd) sgs_nil))))) (fun _ _ _ _ _ => sts_nil) (fun _ _ _ _ _ => (se_tup (sa_cons (sv 9) (sa_cons (sv 9) (sa_cons (sv 11) sa_nil))) (lenCons (lenCons (lenCons lenNil))) (by decide))) (by decide)) sa_nil))) (sss_cons (ss_if (st_cmp (opM_eq (Room.u64 hr)) pu_eq (nomark _) (se_fld g.c_Rule g.n_Rule_checking (se_fld g.c_Calendar g.n_Calendar_rule (sv 0))) se_str) (sss_one (ss_for pass_cx rfl (si_ezip rfl g.b_enumerate rfl g.b_zip (sa_cons (sv 5) (sa_cons (sv 2) sa_nil))) (sg_tup rfl (sgs_cons (sn 6 sc_m_Calendar_person_row.nd) (sgs_cons (sg_tup rfl (sgs_cons (sn 7 sc_m_Calendar_person_row.nd) (sgs_cons (sn 8 sc_m_Calendar_person_row.nd) sgs_nil))) sgs_nil))) (sss_one (ss_if (st_w (sw_and (st_cmp (opM_ne (Room.u64 hr)) pu_ne (nomark _) (se_ix (Room.u1 hr) (fun _ _ => rfl) (sv 7) se_int pu_ix) (se_ix (Room.u1 hr) (fun _ _ => rfl) (sv 8) se_int pu_ix)) (sw_and1 (st_not (st_val (se_methN h_Calendar_is_person g.c_Calendar g.m_Calendar_is_person hr (by decide) takes_cx (sv 0) (sa_cons (sv 1) (sa_cons (sv 6) (sa_cons (se_ix (Room.u1 hr) (fun _ _ => rfl) (sv 8) se_int pu_ix) sa_nil))) (lenCons (lenCons (lenCons lenNil))))))))) (sss_one (ss_ret se_non)) sss_nil)))) sss_nil) (sss_one (ss_ret (se_tup (sa_cons (sv 3) (sa_cons (sv 4) (sa_cons (sv 2) sa_nil))) (lenCons (lenCons (lenCons lenNil))) (by decide)))))))
def m_Calendar_day_row_s0 : MS := (mAsg (mOp idxM (mFld "Calendar" "rows" (mVar 0)) (mVar 1)) (tgTup (tgCons (tgName 4) (tgCons (tgName 5) (tgCons (tgName 6) tgNil)))))
def m_Calendar_day_row_s2 : MS := (mRet (mC .non))
def m_Calendar_day_row_s1 : MS := (mIfS (mTest (mOp isM (mOp idxM (mOp idxM (mVar 6) (mVar 2)) (mC (.int 0))) (mC .non))) m_Calendar_day_row_s2 mNext)
def m_Calendar_day_row_s4 : MS := (mRet (mC .non))
def m_Calendar_day_row_s3 : MS := (mIfS (mAnd (mTest (mOp isnM (mVar 3) (mC .non))) (mAnd (mTest (mOp neM (mFld "Rule" "checking" (mFld "Calendar" "rule" (mVar 0))) (mC (.str "none")))) (mNot (mTest (mMeth "Calendar" "is_room" m_Calendar_is_room (mVar 0) (mCons (mVar 1) (mCons (mVar 2) (mCons (mVar 3) mNil)))))))) m_Calendar_day_row_s4 mNext)
def m_Calendar_day_row_s6 : MS := (mRet (mC .non))
def m_Calendar_day_row_s5 : MS := (mIfS (mAnd (mTest (mOp isnM (mVar 3) (mC .non))) (mAnd (mTest (mOp eqM (mFld "Rule" "checking" (mFld "Calendar" "rule" (mVar 0))) (mC (.str "both")))) (mNot (mTest (mMeth "Calendar" "is_person" m_Calendar_is_person (mVar 0) (mCons (mVar 1) (mCons (mVar 2) (mCons (mVar 3) mNil)))))))) m_Calendar_day_row_s6 mNext)
def m_Calendar_day_row_s7 : MS := (mRet (mTup (mCons (mVar 4) (mCons (mVar 5) (mCons (mOp addM (mOp addM (mSlice (mVar 6) moNone (moSome (mVar 2))) (mTup (mCons (mTup (mCons (mVar 3) (mCons (mVar 3) (mCons (mOp isnM (mVar 3) (mC .non)) mNil)))) mNil))) (mSlice (mVar 6) (moSome (mOp addM (mVar 2) (mC (.int 1)))) moNone)) mNil)))))
def m_Calendar_day_row : MF := viewF (mFn 7 ((mSeq m_Calendar_day_row_s0 (mSeq m_Calendar_day_row_s1 (mSeq m_Calendar_day_row_s3 (mSeq m_Calendar_day_row_s5 m_Calendar_day_row_s7))))))
theorem sc_m_Calendar_day_row : FnScope ["self", "series", "day", "hour", "person", "base", "days"] ["self", "series", "day", "hour"] (defScope s_Calendar_day_row) := ⟨rfl, rfl, rfl, by decide +kernel, rfl, by decide +kernel, by decide +kernel⟩
theorem ok_Calendar_day_row {P : Program} {w : PySem.World} {K : PySem.W.Frag} {mg : Str → Option Value} {base : Heap} {fd : FuncData} (g : Gs K mg) (h_Calendar_is_room : MN P w K mg base 1 4 "Calendar" "is_room" m_Calendar_is_room) (h_Calendar_is_person : MN P w K mg base 1 4 "Calendar" "is_person" m_Calendar_is_person) (F : FunD K "day_row" "Calendar.day_row" (defArgs s_Calendar_day_row) (defBody s_Calendar_day_row) (defScope s_Calendar_day_row) [] [] (He.ma K (He.ga K "Calendar") "day_row") fd) : MN P w K mg base 2 4 "Calendar" "day_row" m_Calendar_day_row := by
  refine ⟨fd, ["self", "series", "day", "hour"], ?_, F.bindsN fun _ _ _ _ _ _ us hl => match us, hl with | [_, _, _, _], _ => rfl⟩
  refine view_ok (m := mFn _ _) (F.ok sc_m_Calendar_day_row (fun vs H Q E h => h.1) (fun cdv A outer s H vs Q E hr h => body_ok (m := (mSeq m_Calendar_day_row_s0 (mSeq m_Calendar_day_row_s1 (mSeq m_Calendar_day_row_s3 (mSeq m_Calendar_day_row_s5 m_Calendar_day_row_s7))))) (by decide) ?_ h))
  exact (sss_cons (ss_asg (se_ix (Room.u1 hr) (fun _ _ => rfl) (se_fld g.c_Calendar g.n_Calendar_rows (sv 0)) (sv 1) pu_ix) (sg_tup rfl (sgs_cons (sn 4 sc_m_Calendar_day_row.nd) (sgs_cons (sn 5 sc_m_Calendar_day_row.nd) (sgs_cons (sn 6 sc_m_Calendar_day_row.nd) sgs_nil))))) (sss_cons (ss_if (st_cmp opM_is pu_is (nomark _) (se_ix (Room.u1 hr) (fun _ _ => rfl) (se_ix (Room.u1 hr) (fun _ _ => rfl) (sv 6) (sv 2) pu_ix) se_int pu_ix) se_non) (sss_one (ss_ret se_non)) sss_nil) (sss_cons (ss_if (st_w (sw_and (st_cmp opM_isn pu_isn (nomark _) (sv 3) se_non) (sw_and (st_cmp (opM_ne (Room.u64 hr)) pu_ne (nomark _) (se_fld g.c_Rule g.n_Rule_checking (se_fld g.c_Calendar g.n_Calendar_rule (sv 0))) se_str) (sw_and1 (st_not (st_val (se_methN h_Calendar_is_room g.c_Calendar g.m_Calendar_is_room hr (by decide) takes_cx (sv 0) (sa_cons (sv 1) (sa_cons (sv 2) (sa_cons (sv 3) sa_nil))) (lenCons (lenCons (lenCons lenNil)))))))))) (sss_one (ss_ret se_non)) sss_nil) (sss_cons (ss_if (st_w (sw_and (st_cmp opM_isn pu_isn (nomark _) (sv 3) se_non) (sw_and (st_cmp (opM_eq (Room.u64 hr)) pu_eq (nomark _) (se_fld g.c_Rule g.n_Rule_checking (se_fld g.c_Calendar g.n_Calendar_rule (sv 0))) se_str) (sw_and1 (st_not (st_val (se_methN h_Calendar_is_person g.c_Calendar g.m_Calendar_is_person hr (by decide) takes_cx (sv 0) (sa_cons (sv 1) (sa_cons (sv 2) (sa_cons (sv 3) sa_nil))) (lenCons (lenCons (lenCons lenNil)))))))))) (sss_one (ss_ret se_non)) sss_nil) (sss_one (ss_ret (se_tup (sa_cons (sv 4) (sa_cons (sv 5) (sa_cons (se_op opM_add pu_add (se_op opM_add pu_add (se_slice (sv 6) so_none (so_some (sv 2))) (se_tup (sa_cons (se_tup (sa_cons (sv 3) (sa_cons (sv 3) (sa_cons (se_cmp opM_isn pu_isn (nomark _) (sv 3) se_non) sa_nil))) (lenCons (lenCons (lenCons lenNil))) (by decide)) sa_nil) (lenCons lenNil) (by decide))) (se_slice (sv 6) (so_some (se_op opM_add pu_add (sv 2) se_int)) so_none)) sa_nil))) (lenCons (lenCons (lenCons lenNil))) (by decide))))))))
def m_Calendar_row_behind_s1 : MS := (mRet (mMeth "Calendar" "room_row" m_Calendar_room_row (mVar 0) (mCons (mOp idxM (mVar 1) (mC (.int 1))) (mCons (mOp idxM (mVar 1) (mC (.int 2))) mNil))))
def m_Calendar_row_behind_s0 : MS := (mIfS (mTest (mOp eqM (mOp idxM (mVar 1) (mC (.int 0))) (mC (.str "room")))) m_Calendar_row_behind_s1 mNext)
def m_Calendar_row_behind_s3 : MS := (mRet (mMeth "Calendar" "person_row" m_Calendar_person_row (mVar 0) (mCons (mOp idxM (mVar 1) (mC (.int 1))) mNil)))
def m_Calendar_row_behind_s2 : MS := (mIfS (mTest (mOp eqM (mOp idxM (mVar 1) (mC (.int 0))) (mC (.str "person")))) m_Calendar_row_behind_s3 mNext)
def m_Calendar_row_behind_s4 : MS := (mRet (mMeth "Calendar" "day_row" m_Calendar_day_row (mVar 0) (mCons (mOp idxM (mVar 1) (mC (.int 1))) (mCons (mOp idxM (mVar 1) (mC (.int 2))) (mCons (mIf (mTest (mOp eqM (mOp idxM (mVar 1) (mC (.int 0))) (mC (.str "one")))) (mOp idxM (mVar 1) (mC (.int 3))) (mC .non)) mNil)))))
def m_Calendar_row_behind : MF := viewF (mFn 2 ((mSeq m_Calendar_row_behind_s0 (mSeq m_Calendar_row_behind_s2 m_Calendar_row_behind_s4))))
theorem sc_m_Calendar_row_behind : FnScope ["self", "deed"] ["self", "deed"] (defScope s_Calendar_row_behind) := ⟨rfl, rfl, rfl, by decide +kernel, rfl, by decide +kernel, by decide +kernel⟩
theorem ok_Calendar_row_behind {P : Program} {w : PySem.World} {K : PySem.W.Frag} {mg : Str → Option Value} {base : Heap} {fd : FuncData} (g : Gs K mg) (h_Calendar_room_row : MN P w K mg base 2 3 "Calendar" "room_row" m_Calendar_room_row) (h_Calendar_person_row : MN P w K mg base 2 2 "Calendar" "person_row" m_Calendar_person_row) (h_Calendar_day_row : MN P w K mg base 2 4 "Calendar" "day_row" m_Calendar_day_row) (F : FunD K "row_behind" "Calendar.row_behind" (defArgs s_Calendar_row_behind) (defBody s_Calendar_row_behind) (defScope s_Calendar_row_behind) [] [] (He.ma K (He.ga K "Calendar") "row_behind") fd) : MN P w K mg base 3 2 "Calendar" "row_behind" m_Calendar_row_behind := by
  refine ⟨fd, ["self", "deed"], ?_, F.bindsN fun _ _ _ _ _ _ us hl => match us, hl with | [_, _], _ => rfl⟩
  refine view_ok (m := mFn _ _) (F.ok sc_m_Calendar_row_behind (fun vs H Q E h => h.1) (fun cdv A outer s H vs Q E hr h => body_ok (m := (mSeq m_Calendar_row_behind_s0 (mSeq m_Calendar_row_behind_s2 m_Calendar_row_behind_s4))) (by decide) ?_ h))
  exact (sss_cons (ss_if (st_cmp (opM_eq (Room.u64 hr)) pu_eq (nomark _) (se_ix (Room.u1 hr) (fun _ _ => rfl) (sv 1) se_int pu_ix) se_str) (sss_one (ss_ret (se_methN h_Calendar_room_row g.c_Calendar g.m_Calendar_room_row hr (by decide) takes_cx (sv 0) (sa_cons (se_ix (Room.u1 hr) (fun _ _ => rfl) (sv 1) se_int pu_ix) (sa_cons (se_ix (Room.u1 hr) (fun _ _ => rfl) (sv 1) se_int pu_ix) sa_nil)) (lenCons (lenCons lenNil))))) sss_nil) (sss_cons (ss_if (st_cmp (opM_eq (Room.u64 hr)) pu_eq (nomark _) (se_ix (Room.u1 hr) (fun _ _ => rfl) (sv 1) se_int pu_ix) se_str) (sss_one (ss_ret (se_methN h_Calendar_person_row g.c_Calendar g.m_Calendar_person_row hr (by decide) takes_cx (sv 0) (sa_cons (se_ix (Room.u1 hr) (fun _ _ => rfl) (sv 1) se_int pu_ix) sa_nil) (lenCons lenNil)))) sss_nil) (sss_one (ss_ret (se_methN h_Calendar_day_row g.c_Calendar g.m_Calendar_day_row hr (by decide) takes_cx (sv 0) (sa_cons (se_ix (Room.u1 hr) (fun _ _ => rfl) (sv 1) se_int pu_ix) (sa_cons (se_ix (Room.u1 hr) (fun _ _ => rfl) (sv 1) se_int pu_ix) (sa_cons (se_if (st_cmp (opM_eq (Room.u64 hr)) pu_eq (nomark _) (se_ix (Room.u1 hr) (fun _ _ => rfl) (sv 1) se_int pu_ix) se_str) (se_ix (Room.u1 hr) (fun _ _ => rfl) (sv 1) se_int pu_ix) se_non) sa_nil))) (lenCons (lenCons (lenCons lenNil))))))))
def m_Calendar_put_s0 : MS := (mDrop (mMeth "Calendar" "mark" m_Calendar_mark (mVar 0) (mCons (mVar 1) (mCons (mC (.int (-1))) mNil))))
def m_Calendar_put_s1 : MS := (mSub (mVar 2) (mFld "Calendar" "rows" (mVar 0)) (mVar 1))
def m_Calendar_put_s2 : MS := (mDrop (mMeth "Calendar" "mark" m_Calendar_mark (mVar 0) (mCons (mVar 1) (mCons (mC (.int 1)) mNil))))
def m_Calendar_put : MF := mFn 3 ((mSeq m_Calendar_put_s0 (mSeq m_Calendar_put_s1 m_Calendar_put_s2)))
theorem sc_m_Calendar_put : FnScope ["self", "series", "row"] ["self", "series", "row"] (defScope s_Calendar_put) := ⟨rfl, rfl, rfl, by decide +kernel, rfl, by decide +kernel, by decide +kernel⟩
theorem ok_Calendar_put {P : Program} {w : PySem.World} {K : PySem.W.Frag} {mg : Str → Option Value} {base : Heap} {fd : FuncData} (g : Gs K mg) (h_Calendar_mark : MN P w K mg base 2 3 "Calendar" "mark" m_Calendar_mark) (F : FunD K "put" "Calendar.put" (defArgs s_Calendar_put) (defBody s_Calendar_put) (defScope s_Calendar_put) [] [] (He.ma K (He.ga K "Calendar") "put") fd) : MN P w K mg base 3 3 "Calendar" "put" m_Calendar_put := by
  refine ⟨fd, ["self", "series", "row"], ?_, F.bindsN fun _ _ _ _ _ _ us hl => match us, hl with | [_, _, _], _ => rfl⟩
  refine F.ok sc_m_Calendar_put (fun vs H Q E h => h.1) (fun cdv A outer s H vs Q E hr h => body_ok (m := (mSeq m_Calendar_put_s0 (mSeq m_Calendar_put_s1 m_Calendar_put_s2))) (by decide) ?_ h)
  exact (sss_cons (ss_expr (se_methN h_Calendar_mark g.c_Calendar g.m_Calendar_mark hr (by decide) takes_cx (sv 0) (sa_cons (sv 1) (sa_cons (se_neg) sa_nil)) (lenCons (lenCons lenNil)))) (sss_cons (ss_sub (Room.u1 hr) (sv 2) (se_fld g.c_Calendar g.n_Calendar_rows (sv 0)) (sv 1)) (sss_one (ss_expr (se_methN h_Calendar_mark g.c_Calendar g.m_Calendar_mark hr (by decide) takes_cx (sv 0) (sa_cons (sv 1) (sa_cons se_int sa_nil)) (lenCons (lenCons lenNil)))))))
def m_Calendar_note_s0 : MS := (mAsg (mOp idxM (mVar 1) (mC (.int 1))) (tgName 4))
def m_Calendar_note_s1 : MS := (mDrop (mApp (mFld "Calendar" "done" (mVar 0)) (mTup (mCons (mVar 1) (mCons (mOp idxM (mFld "Calendar" "rows" (mVar 0)) (mVar 4)) (mCons (mOp idxM (mFld "Calendar" "before" (mVar 0)) (mVar 4)) mNil))))))
def m_Calendar_note_s2 : MS := (mDrop (mMeth "Calendar" "put" m_Calendar_put (mVar 0) (mCons (mVar 4) (mCons (mVar 2) mNil))))
def m_Calendar_note_s3 : MS := (mSub (mVar 3) (mFld "Calendar" "before" (mVar 0)) (mVar 4))
def m_Calendar_note : MF := mFn 5 ((mSeq m_Calendar_note_s0 (mSeq m_Calendar_note_s1 (mSeq m_Calendar_note_s2 m_Calendar_note_s3))))
theorem sc_m_Calendar_note : FnScope ["self", "deed", "row", "before", "series"] ["self", "deed", "row", "before"] (defScope s_Calendar_note) := ⟨rfl, rfl, rfl, by decide +kernel, rfl, by decide +kernel, by decide +kernel⟩
theorem ok_Calendar_note {P : Program} {w : PySem.World} {K : PySem.W.Frag} {mg : Str → Option Value} {base : Heap} {fd : FuncData} (g : Gs K mg) (h_Calendar_put : MN P w K mg base 3 3 "Calendar" "put" m_Calendar_put) (F : FunD K "note" "Calendar.note" (defArgs s_Calendar_note) (defBody s_Calendar_note) (defScope s_Calendar_note) [] [] (He.ma K (He.ga K "Calendar") "note") fd) : MN P w K mg base 4 4 "Calendar" "note" m_Calendar_note := by
  refine ⟨fd, ["self", "deed", "row", "before"], ?_, F.bindsN fun _ _ _ _ _ _ us hl => match us, hl with | [_, _, _, _], _ => rfl⟩
  refine F.ok sc_m_Calendar_note (fun vs H Q E h => h.1) (fun cdv A outer s H vs Q E hr h => body_ok (m := (mSeq m_Calendar_note_s0 (mSeq m_Calendar_note_s1 (mSeq m_Calendar_note_s2 m_Calendar_note_s3)))) (by decide) ?_ h)
  exact (sss_cons (sset 4 sc_m_Calendar_note.nd (se_ix (Room.u1 hr) (fun _ _ => rfl) (sv 1) se_int pu_ix)) (sss_cons (ss_expr (se_app (se_fld g.c_Calendar g.n_Calendar_done (sv 0)) (se_tup (sa_cons (sv 1) (sa_cons (se_ix (Room.u1 hr) (fun _ _ => rfl) (se_fld g.c_Calendar g.n_Calendar_rows (sv 0)) (sv 4) pu_ix) (sa_cons (se_ix (Room.u1 hr) (fun _ _ => rfl) (se_fld g.c_Calendar g.n_Calendar_before (sv 0)) (sv 4) pu_ix) sa_nil))) (lenCons (lenCons (lenCons lenNil))) (by decide)))) (sss_cons (ss_expr (se_methN h_Calendar_put g.c_Calendar g.m_Calendar_put hr (by decide) takes_cx (sv 0) (sa_cons (sv 4) (sa_cons (sv 2) sa_nil)) (lenCons (lenCons lenNil)))) (sss_one (ss_sub (Room.u1 hr) (sv 3) (se_fld g.c_Calendar g.n_Calendar_before (sv 0)) (sv 4))))))
def m_with_series_s0 : MS := (mRet (mOp addM (mOp addM (mSlice (mVar 0) moNone (moSome (mVar 1))) (mTup (mCons (mTup (mCons (mOp idxM (mOp idxM (mVar 0) (mVar 1)) (mC (.int 0))) (mCons (mVar 2) (mCons (mVar 3) mNil)))) mNil))) (mSlice (mVar 0) (moSome (mOp addM (mVar 1) (mC (.int 1)))) moNone)))
def m_with_series : MF := mFn 4 (m_with_series_s0)
theorem sc_m_with_series : FnScope ["standing", "series", "base", "days"] ["standing", "series", "base", "days"] (defScope s_with_series) := ⟨rfl, rfl, rfl, by decide +kernel, rfl, by decide +kernel, by decide +kernel⟩
theorem ok_with_series {P : Program} {w : PySem.World} {K : PySem.W.Frag} {mg : Str → Option Value} {base : Heap} {f : Addr} {fd : FuncData} (g : Gs K mg) (F : FunD K "with_series" "with_series" (defArgs s_with_series) (defBody s_with_series) (defScope s_with_series) [] [] f fd) (hg : mg "with_series" = some (.ref f)) : FN P w K mg base 1 4 "with_series" m_with_series := by
  refine ⟨f, fd, ["standing", "series", "base", "days"], ?_, hg, F.kp, F.bindsN fun _ _ _ _ _ _ us hl => match us, hl with | [_, _, _, _], _ => rfl⟩
  refine F.ok sc_m_with_series (fun vs H Q E h => h.1) (fun cdv A outer s H vs Q E hr h => body_ok (m := m_with_series_s0) (by decide) ?_ h)
  exact (sss_one (ss_ret (se_op opM_add pu_add (se_op opM_add pu_add (se_slice (sv 0) so_none (so_some (sv 1))) (se_tup (sa_cons (se_tup (sa_cons (se_ix (Room.u1 hr) (fun _ _ => rfl) (se_ix (Room.u1 hr) (fun _ _ => rfl) (sv 0) (sv 1) pu_ix) se_int pu_ix) (sa_cons (sv 2) (sa_cons (sv 3) sa_nil))) (lenCons (lenCons (lenCons lenNil))) (by decide)) sa_nil) (lenCons lenNil) (by decide))) (se_slice (sv 0) (so_some (se_op opM_add pu_add (sv 1) se_int)) so_none))))
def m_taken_back_s0 : MS := (mAsg (mCell mNil) (tgName 3))
def m_taken_back_s2 : MS := (mDrop (mApp (mVar 3) (mIf (mTest (mOp isM (mOp idxM (mVar 4) (mC (.int 0))) (mC .non))) (mVar 4) (mTup (mCons (mOp idxM (mVar 5) (mC (.int 0))) (mCons (mOp idxM (mVar 4) (mC (.int 1))) (mCons (mOp idxM (mVar 5) (mC (.int 2))) mNil)))))))
def m_taken_back_s1 : MS := (mFor (mZip2 (mCons (mOp idxM (mOp idxM (mVar 0) (mVar 1)) (mC (.int 2))) (mCons (mOp idxM (mVar 2) (mC (.int 2))) mNil))) (tgTup (tgCons (tgName 4) (tgCons (tgName 5) tgNil))) m_taken_back_s2)
def m_taken_back_s3 : MS := (mRet (mCallF m_with_series (mCons (mVar 0) (mCons (mVar 1) (mCons (mOp idxM (mVar 2) (mC (.int 1))) (mCons (mCallF tupM (mCons (mVar 3) mNil)) mNil))))))
def m_taken_back : MF := frzF (mFn 6 ((mSeq m_taken_back_s0 (mSeq m_taken_back_s1 m_taken_back_s3))))
theorem sc_m_taken_back : FnScope ["standing", "series", "before", "days", "now", "then"] ["standing", "series", "before"] (defScope s_taken_back) := ⟨rfl, rfl, rfl, by decide +kernel, rfl, by decide +kernel, by decide +kernel⟩
theorem ok_taken_back {P : Program} {w : PySem.World} {K : PySem.W.Frag} {mg : Str → Option Value} {base : Heap} {f : Addr} {fd : FuncData} (g : Gs K mg) (h_with_series : FN P w K mg base 1 4 "with_series" m_with_series) (F : FunD K "taken_back" "taken_back" (defArgs s_taken_back) (defBody s_taken_back) (defScope s_taken_back) [] [] f fd) (hg : mg "taken_back" = some (.ref f)) : FN P w K mg base 2 3 "taken_back" m_taken_back := by
  refine ⟨f, fd, ["standing", "series", "before"], ?_, hg, F.kp, F.bindsN fun _ _ _ _ _ _ us hl => match us, hl with | [_, _, _], _ => rfl⟩
  refine frz_ok (m := mFn _ _) (F.ok sc_m_taken_back (fun vs H Q E h => h.1) (fun cdv A outer s H vs Q E hr h => body_ok (m := (mSeq m_taken_back_s0 (mSeq m_taken_back_s1 m_taken_back_s3))) (by decide) ?_ h))
  exact (sss_cons (sset 3 sc_m_taken_back.nd (se_cell sa_nil lenNil (by decide))) (sss_cons (ss_for pass_cx rfl (si_zip2 rfl g.b_zip (sa_cons (se_ix (Room.u1 hr) (fun _ _ => rfl) (se_ix (Room.u1 hr) (fun _ _ => rfl) (sv 0) (sv 1) pu_ix) se_int pu_ix) (sa_cons (se_ix (Room.u1 hr) (fun _ _ => rfl) (sv 2) se_int pu_ix) sa_nil))) (sg_tup rfl (sgs_cons (sn 4 sc_m_taken_back.nd) (sgs_cons (sn 5 sc_m_taken_back.nd) sgs_nil))) (sss_one (ss_expr (se_app (sv 3) (se_if (st_cmp opM_is pu_is (nomark _) (se_ix (Room.u1 hr) (fun _ _ => rfl) (sv 4) se_int pu_ix) se_non) (sv 4) (se_tup (sa_cons (se_ix (Room.u1 hr) (fun _ _ => rfl) (sv 5) se_int pu_ix) (sa_cons (se_ix (Room.u1 hr) (fun _ _ => rfl) (sv 4) se_int pu_ix) (sa_cons (se_ix (Room.u1 hr) (fun _ _ => rfl) (sv 5) se_int pu_ix) sa_nil))) (lenCons (lenCons (lenCons lenNil))) (by decide))))))) (sss_one (ss_ret (se_callN h_with_series hr (by decide) rfl takes_cx (sa_cons (sv 0) (sa_cons (sv 1) (sa_cons (se_ix (Room.u1 hr) (fun _ _ => rfl) (sv 2) se_int pu_ix) (sa_cons (se_callTy crM_tuple pu_tuple rfl g.b_tuple bt_tuple (sa_cons (sv 3) sa_nil)) sa_nil)))) (lenCons (lenCons (lenCons (lenCons lenNil)))))))))
def m_Calendar_do_s1 : MS := (mRaise0 "BadDeed")
def m_Calendar_do_s0 : MS := (mIfS (mNot (mTest (mMeth "Calendar" "is_deed" m_Calendar_is_deed (mVar 0) (mCons (mVar 1) mNil)))) m_Calendar_do_s1 mNext)
def m_Calendar_do_s2 : MS := (mAsg (mOp idxM (mVar 1) (mC (.int 1))) (tgName 2))
def m_Calendar_do_s3 : MS := (mAsg (mMeth "Calendar" "row_behind" m_Calendar_row_behind (mVar 0) (mCons (mVar 1) mNil)) (tgName 3))
def m_Calendar_do_s5 : MS := (mDrop (mMeth "Calendar" "note" m_Calendar_note (mVar 0) (mCons (mVar 1) (mCons (mVar 3) (mCons (mIf (mTest (mOp eqM (mOp idxM (mVar 1) (mC (.int 0))) (mC (.str "room")))) (mOp idxM (mFld "Calendar" "rows" (mVar 0)) (mVar 2)) (mOp idxM (mFld "Calendar" "before" (mVar 0)) (mVar 2))) mNil)))))
def m_Calendar_do_s6 : MS := mRetN
def m_Calendar_do_s4 : MS := (mIfS (mTest (mOp isnM (mVar 3) (mC .non))) (mSeq m_Calendar_do_s5 m_Calendar_do_s6) mNext)
def m_Calendar_do_s8 : MS := (mAsg (mCallF m_taken_back (mCons (mTup (mCons (mOp idxM (mFld "Calendar" "rows" (mVar 0)) (mVar 2)) mNil)) (mCons (mC (.int 0)) (mCons (mOp idxM (mFld "Calendar" "before" (mVar 0)) (mVar 2)) mNil)))) (tgName 4))
def m_Calendar_do_s9 : MS := (mDrop (mMeth "Calendar" "note" m_Calendar_note (mVar 0) (mCons (mVar 1) (mCons (mOp idxM (mVar 4) (mC (.int 0))) (mCons (mC .non) mNil)))))
def m_Calendar_do_s7 : MS := (mIfS (mAnd (mTest (mOp eqM (mOp idxM (mVar 1) (mC (.int 0))) (mC (.str "person")))) (mAnd (mTest (mOp eqM (mFld "Rule" "halves" (mFld "Calendar" "rule" (mVar 0))) (mC (.str "undone")))) (mTest (mOp isnM (mOp idxM (mFld "Calendar" "before" (mVar 0)) (mVar 2)) (mC .non))))) (mSeq m_Calendar_do_s8 m_Calendar_do_s9) mNext)
def m_Calendar_do_s10 : MS := (mRaise "Refused" "deed" (mVar 1))
def m_Calendar_do : MF := mFn 5 ((mSeq m_Calendar_do_s0 (mSeq m_Calendar_do_s2 (mSeq m_Calendar_do_s3 (mSeq m_Calendar_do_s4 (mSeq m_Calendar_do_s7 m_Calendar_do_s10))))))
theorem sc_m_Calendar_do : FnScope ["self", "deed", "series", "row", "standing"] ["self", "deed"] (defScope s_Calendar_do) := ⟨rfl, rfl, rfl, by decide +kernel, rfl, by decide +kernel, by decide +kernel⟩
theorem ok_Calendar_do {P : Program} {w : PySem.World} {K : PySem.W.Frag} {mg : Str → Option Value} {base : Heap} {fd : FuncData} (g : Gs K mg) (h_Calendar_is_deed : MN P w K mg base 2 2 "Calendar" "is_deed" m_Calendar_is_deed) (h_Calendar_row_behind : MN P w K mg base 3 2 "Calendar" "row_behind" m_Calendar_row_behind) (h_Calendar_note : MN P w K mg base 4 4 "Calendar" "note" m_Calendar_note) (h_taken_back : FN P w K mg base 2 3 "taken_back" m_taken_back) (x_Refused : XN P w K mg base 1 "Refused" "deed") (F : FunD K "do" "Calendar.do" (defArgs s_Calendar_do) (defBody s_Calendar_do) (defScope s_Calendar_do) [] [] (He.ma K (He.ga K "Calendar") "do") fd) : MN P w K mg base 5 2 "Calendar" "do" m_Calendar_do := by
  refine ⟨fd, ["self", "deed"], ?_, F.bindsN fun _ _ _ _ _ _ us hl => match us, hl with | [_, _], _ => rfl⟩
  refine F.ok sc_m_Calendar_do (fun vs H Q E h => h.1) (fun cdv A outer s H vs Q E hr h => body_ok (m := (mSeq m_Calendar_do_s0 (mSeq m_Calendar_do_s2 (mSeq m_Calendar_do_s3 (mSeq m_Calendar_do_s4 (mSeq m_Calendar_do_s7 m_Calendar_do_s10)))))) (by decide) ?_ h)
  exact (sss_cons (ss_if (st_not (st_val (se_methN h_Calendar_is_deed g.c_Calendar g.m_Calendar_is_deed hr (by decide) takes_cx (sv 0) (sa_cons (sv 1) sa_nil) (lenCons lenNil)))) (sss_one (ss_raise0 rfl takes_cx g.x0_BadDeed rfl g.gc_BadDeed)) sss_nil) (sss_cons (sset 2 sc_m_Calendar_do.nd (se_ix (Room.u1 hr) (fun _ _ => rfl) (sv 1) se_int pu_ix)) (sss_cons (sset 3 sc_m_Calendar_do.nd (se_methN h_Calendar_row_behind g.c_Calendar g.m_Calendar_row_behind hr (by decide) takes_cx (sv 0) (sa_cons (sv 1) sa_nil) (lenCons lenNil))) (sss_cons (ss_if (st_cmp opM_isn pu_isn (nomark _) (sv 3) se_non) (sss_cons (ss_expr (se_methN h_Calendar_note g.c_Calendar g.m_Calendar_note hr (by decide) takes_cx (sv 0) (sa_cons (sv 1) (sa_cons (sv 3) (sa_cons (se_if (st_cmp (opM_eq (Room.u64 hr)) pu_eq (nomark _) (se_ix (Room.u1 hr) (fun _ _ => rfl) (sv 1) se_int pu_ix) se_str) (se_ix (Room.u1 hr) (fun _ _ => rfl) (se_fld g.c_Calendar g.n_Calendar_rows (sv 0)) (sv 2) pu_ix) (se_ix (Room.u1 hr) (fun _ _ => rfl) (se_fld g.c_Calendar g.n_Calendar_before (sv 0)) (sv 2) pu_ix)) sa_nil))) (lenCons (lenCons (lenCons lenNil))))) (sss_one ss_retN)) sss_nil) (sss_cons (ss_if (st_w (sw_and (st_cmp (opM_eq (Room.u64 hr)) pu_eq (nomark _) (se_ix (Room.u1 hr) (fun _ _ => rfl) (sv 1) se_int pu_ix) se_str) (sw_and (st_cmp (opM_eq (Room.u64 hr)) pu_eq (nomark _) (se_fld g.c_Rule g.n_Rule_halves (se_fld g.c_Calendar g.n_Calendar_rule (sv 0))) se_str) (sw_and1 (st_cmp opM_isn pu_isn (nomark _) (se_ix (Room.u1 hr) (fun _ _ => rfl) (se_fld g.c_Calendar g.n_Calendar_before (sv 0)) (sv 2) pu_ix) se_non))))) (sss_cons (sset 4 sc_m_Calendar_do.nd (se_callN h_taken_back hr (by decide) rfl takes_cx (sa_cons (se_tup (sa_cons (se_ix (Room.u1 hr) (fun _ _ => rfl) (se_fld g.c_Calendar g.n_Calendar_rows (sv 0)) (sv 2) pu_ix) sa_nil) (lenCons lenNil) (by decide)) (sa_cons se_int (sa_cons (se_ix (Room.u1 hr) (fun _ _ => rfl) (se_fld g.c_Calendar g.n_Calendar_before (sv 0)) (sv 2) pu_ix) sa_nil))) (lenCons (lenCons (lenCons lenNil))))) (sss_one (ss_expr (se_methN h_Calendar_note g.c_Calendar g.m_Calendar_note hr (by decide) takes_cx (sv 0) (sa_cons (sv 1) (sa_cons (se_ix (Room.u1 hr) (fun _ _ => rfl) (sv 4) se_int pu_ix) (sa_cons se_non sa_nil))) (lenCons (lenCons (lenCons lenNil))))))) sss_nil) (sss_one (ss_raiseN x_Refused rfl takes_cx hr (by decide) rfl (sv 1))))))))
def m_led_on_s1 : MS := (mDrop (mMeth "Calendar" "add" m_Calendar_add (mVar 0) (mCons (mOp idxM (mVar 1) (mC (.int 1))) (mCons (mOp idxM (mVar 1) (mC (.int 2))) mNil))))
def m_led_on_s2 : MS := mRetN
def m_led_on_s0 : MS := (mIfS (mTest (mOp eqM (mOp idxM (mVar 1) (mC (.int 0))) (mC (.str "add")))) (mSeq m_led_on_s1 m_led_on_s2) mNext)
def m_led_on_s3 : MS := (mAsg (mCallF (lenO "Calendar" m_Calendar___len__) (mCons (mVar 0) mNil)) (tgName 2))
def m_led_on_s4 : MS := (mAsg (mC .non) (tgName 3))
def m_led_on_s6 : MS := (mDrop (mMeth "Calendar" "do" m_Calendar_do (mVar 0) (mCons (mVar 1) mNil)))
def m_led_on_s5 : MS := (mTryF (manyC "Refused" ["BadDeed"]) "deed" 4 3 m_led_on_s6)
def m_led_on_s8 : MS := (mRaise "Refused" "deed" (mVar 3))
def m_led_on_s7 : MS := (mIfS (mAnd (mTest (mOp isnM (mVar 3) (mC .non))) (mTest (mOp eqM (mCallF (lenO "Calendar" m_Calendar___len__) (mCons (mVar 0) mNil)) (mVar 2)))) m_led_on_s8 mNext)
def m_led_on : MF := mFn 5 ((mSeq m_led_on_s0 (mSeq m_led_on_s3 (mSeq m_led_on_s4 (mSeq m_led_on_s5 m_led_on_s7)))))
theorem sc_m_led_on : FnScope ["calendar", "deed", "many", "told", "e"] ["calendar", "deed"] (defScope s_led_on) := ⟨rfl, rfl, rfl, by decide +kernel, rfl, by decide +kernel, by decide +kernel⟩
theorem ok_led_on {P : Program} {w : PySem.World} {K : PySem.W.Frag} {mg : Str → Option Value} {base : Heap} {f : Addr} {fd : FuncData} (g : Gs K mg) (h_Calendar_add : MN P w K mg base 3 3 "Calendar" "add" m_Calendar_add) (h_Calendar___len__ : MN P w K mg base 1 1 "Calendar" "__len__" m_Calendar___len__) (h_Calendar_do : MN P w K mg base 5 2 "Calendar" "do" m_Calendar_do) (x_Refused : XN P w K mg base 1 "Refused" "deed") (F : FunD K "led_on" "led_on" (defArgs s_led_on) (defBody s_led_on) (defScope s_led_on) [] [] f fd) (hg : mg "led_on" = some (.ref f)) : FN P w K mg base 6 2 "led_on" m_led_on := by
  refine ⟨f, fd, ["calendar", "deed"], ?_, hg, F.kp, F.bindsN fun _ _ _ _ _ _ us hl => match us, hl with | [_, _], _ => rfl⟩
  refine F.ok sc_m_led_on (fun vs H Q E h => h.1) (fun cdv A outer s H vs Q E hr h => body_ok (m := (mSeq m_led_on_s0 (mSeq m_led_on_s3 (mSeq m_led_on_s4 (mSeq m_led_on_s5 m_led_on_s7))))) (by decide) ?_ h)
  exact (sss_cons (ss_if (st_cmp (opM_eq (Room.u64 hr)) pu_eq (nomark _) (se_ix (Room.u1 hr) (fun _ _ => rfl) (sv 1) se_int pu_ix) se_str) (sss_cons (ss_expr (se_methN h_Calendar_add g.c_Calendar g.m_Calendar_add hr (by decide) takes_cx (sv 0) (sa_cons (se_ix (Room.u1 hr) (fun _ _ => rfl) (sv 1) se_int pu_ix) (sa_cons (se_ix (Room.u1 hr) (fun _ _ => rfl) (sv 1) se_int pu_ix) sa_nil)) (lenCons (lenCons lenNil)))) (sss_one ss_retN)) sss_nil) (sss_cons (sset 2 sc_m_led_on.nd (se_callB (crM_lenN h_Calendar___len__ g.m_Calendar___len__ hr (by decide)) pu_lenO rfl g.b_len bt_len (sa_cons (sv 0) sa_nil))) (sss_cons (sset 3 sc_m_led_on.nd se_non) (sss_cons (ss_tryF (i := 4) (j := 3) rfl rfl sc_m_led_on.nd rfl rfl ⟨rfl, by decide, .inl g.gc_Refused⟩ takes_cx (manyC_ok g.xm_Refused_Refused (by intro r hr; simp only [List.mem_cons, List.not_mem_nil, or_false] at hr; rcases hr with hr; all_goals subst hr; first | exact g.xn_BadDeed_Refused)) manyC_is g.xf_Refused g.n_Refused_deed rfl rfl (by decide) (by decide) (fun _ _ _ tk pp => (sss_one (ss_expr (se_methN h_Calendar_do g.c_Calendar g.m_Calendar_do hr (by decide) tk (sv 0) (sa_cons (sv 1) sa_nil) (lenCons lenNil)))))) (sss_one (ss_if (st_w (sw_and (st_cmp opM_isn pu_isn (nomark _) (sv 3) se_non) (sw_and1 (st_cmp (opM_eq (Room.u64 hr)) pu_eq (nomark _) (se_callB (crM_lenN h_Calendar___len__ g.m_Calendar___len__ hr (by decide)) pu_lenO rfl g.b_len bt_len (sa_cons (sv 0) sa_nil)) (sv 2))))) (sss_one (ss_raiseN x_Refused rfl takes_cx hr (by decide) rfl (sv 3))) sss_nil))))))
def m_is_done_s1 : MS := (mRet (mC (.bl false)))
def m_is_done_s0 : MS := (mIfS (mTest (mOp isM (mVar 1) (mC .non))) m_is_done_s1 mNext)
def m_is_done_s2 : MS := (mAsg (mC (.bl true)) (tgName 2))
def m_is_done_s4 : MS := (mDrop (mCallF m_led_on (mCons (mVar 0) (mCons (mVar 1) mNil))))
def m_is_done_s5 : MS := (mAsg (mC (.bl false)) (tgName 2))
def m_is_done_s6 : MS := (mAsg (mC (.bl false)) (tgName 2))
def m_is_done_s7 : MS := (mAsg (mC (.bl false)) (tgName 2))
def m_is_done_s3 : MS := (mTryN ((manyC "BadSeries" ["BadDeed", "Refused"], m_is_done_s7) :: ((manyC "BadDeed" ["Refused"], m_is_done_s6) :: ((manyC "Refused" [], m_is_done_s5) :: []))) m_is_done_s4)
def m_is_done_s8 : MS := (mRet (mVar 2))
def m_is_done : MF := mFn 3 ((mSeq m_is_done_s0 (mSeq m_is_done_s2 (mSeq m_is_done_s3 m_is_done_s8))))
theorem sc_m_is_done : FnScope ["calendar", "deed", "good"] ["calendar", "deed"] (defScope s_is_done) := ⟨rfl, rfl, rfl, by decide +kernel, rfl, by decide +kernel, by decide +kernel⟩
theorem ok_is_done {P : Program} {w : PySem.World} {K : PySem.W.Frag} {mg : Str → Option Value} {base : Heap} {f : Addr} {fd : FuncData} (g : Gs K mg) (h_led_on : FN P w K mg base 6 2 "led_on" m_led_on) (x_Refused : XN P w K mg base 1 "Refused" "deed") (F : FunD K "is_done" "is_done" (defArgs s_is_done) (defBody s_is_done) (defScope s_is_done) [] [] f fd) (hg : mg "is_done" = some (.ref f)) : FN P w K mg base 7 2 "is_done" m_is_done := by
  refine ⟨f, fd, ["calendar", "deed"], ?_, hg, F.kp, F.bindsN fun _ _ _ _ _ _ us hl => match us, hl with | [_, _], _ => rfl⟩
  refine F.ok sc_m_is_done (fun vs H Q E h => h.1) (fun cdv A outer s H vs Q E hr h => body_ok (m := (mSeq m_is_done_s0 (mSeq m_is_done_s2 (mSeq m_is_done_s3 m_is_done_s8)))) (by decide) ?_ h)
  exact (sss_cons (ss_if (st_cmp opM_is pu_is (nomark _) (sv 1) se_non) (sss_one (ss_ret se_bl)) sss_nil) (sss_cons (sset 2 sc_m_is_done.nd se_bl) (sss_cons (ss_tryN rfl rfl takes_cx (by exact (HdsM.cons ⟨rfl, by decide, .inl g.gc_BadSeries⟩ (manyC_ok g.xm_BadSeries_BadSeries (by intro r hr; simp only [List.mem_cons, List.not_mem_nil, or_false] at hr; rcases hr with hr | hr; all_goals subst hr; first | exact g.xn_BadDeed_BadSeries | exact g.xn_Refused_BadSeries)) (fun _ _ => (sss_one (sset 2 sc_m_is_done.nd se_bl))) (HdsM.cons ⟨rfl, by decide, .inl g.gc_BadDeed⟩ (manyC_ok g.xm_BadDeed_BadDeed (by intro r hr; simp only [List.mem_cons, List.not_mem_nil, or_false] at hr; rcases hr with hr; all_goals subst hr; first | exact g.xn_Refused_BadDeed)) (fun _ _ => (sss_one (sset 2 sc_m_is_done.nd se_bl))) (HdsM.cons ⟨rfl, by decide, .inl g.gc_Refused⟩ (manyC_ok g.xm_Refused_Refused (by intro r hr; simp at hr)) (fun _ _ => (sss_one (sset 2 sc_m_is_done.nd se_bl))) HdsM.nil)))) (fun _ _ _ tk pp => (sss_one (ss_expr (se_callN h_led_on hr (by decide) rfl tk (sa_cons (sv 0) (sa_cons (sv 1) sa_nil)) (lenCons (lenCons lenNil))))))) (sss_one (ss_ret (sv 2))))))
def m_deed_in_s0 : MS := (mAsg (mBM kStr splitM (mVar 0) (mCons (mC (.str " ")) mNil)) (tgName 1))
def m_deed_in_s1 : MS := (mAsg (mCallF tupM (mCons (mLc true [4] (mSrc (mSlice (mVar 1) (moSome (mC (.int 1))) moNone)) (tgName 4) mTrue (mCallF m_number_of (mCons (mVar 4) mNil))) mNil)) (tgName 2))
def m_deed_in_s2 : MS := (mAsg (mIf (mTest (mOp eqM (mOp idxM (mVar 1) (mC (.int 0))) (mC (.str "add")))) (mC (.int 3)) (getW tab_SIZES (mOp idxM (mVar 1) (mC (.int 0))))) (tgName 3))
def m_deed_in_s3 : MS := (mRet (mIf (mOr (mTest (mOp neM (mCallF lenM (mCons (mVar 1) mNil)) (mVar 3))) (mTest (mOp inM (mC .non) (mVar 2)))) (mC .non) (mOp addM (mTup (mCons (mOp idxM (mVar 1) (mC (.int 0))) mNil)) (mVar 2))))
def m_deed_in : MF := mFn 5 ((mSeq m_deed_in_s0 (mSeq m_deed_in_s1 (mSeq m_deed_in_s2 m_deed_in_s3))))
theorem sc_m_deed_in : FnScope ["line", "words", "numbers", "size", "word"] ["line"] (defScope s_deed_in) := ⟨rfl, rfl, rfl, by decide +kernel, rfl, by decide +kernel, by decide +kernel⟩
theorem ok_deed_in {P : Program} {w : PySem.World} {K : PySem.W.Frag} {mg : Str → Option Value} {base : Heap} {f : Addr} {fd : FuncData} (g : Gs K mg) (h_number_of : FN P w K mg base 1 1 "number_of" m_number_of) (t_SIZES : TabK w K mg "SIZES" tab_SIZES) (F : FunD K "deed_in" "deed_in" (defArgs s_deed_in) (defBody s_deed_in) (defScope s_deed_in) [] [] f fd) (hg : mg "deed_in" = some (.ref f)) : FN P w K mg base 2 1 "deed_in" m_deed_in := by
  refine ⟨f, fd, ["line"], ?_, hg, F.kp, F.bindsN fun _ _ _ _ _ _ us hl => match us, hl with | [_], _ => rfl⟩
  refine F.ok sc_m_deed_in (fun vs H Q E h => h.1) (fun cdv A outer s H vs Q E hr h => body_ok (m := (mSeq m_deed_in_s0 (mSeq m_deed_in_s1 (mSeq m_deed_in_s2 m_deed_in_s3)))) (by decide) ?_ h)
  exact (sss_cons (sset 1 sc_m_deed_in.nd (se_bx PySem.F.plainAttrs_str PySem.F.slot_str_split PySem.F.type_str_split mt_splitM pu_split kd_str (sv 0) (sa_cons se_str sa_nil) ⟨rfl, rfl, rfl⟩)) (sss_cons (sset 2 sc_m_deed_in.nd (se_callTy crM_tuple pu_tuple rfl g.b_tuple bt_tuple (sa_cons (se_lc (fr := true) (own := [("word", 4)]) rfl sc_m_deed_in.nd (si_seq (se_slice (sv 1) (so_some se_int) so_none)) (blkOk_by rfl) (fun _ _ _ _ _ => (sn 4 sc_m_deed_in.nd)) (fun _ _ _ _ _ => sts_nil) (fun _ _ _ _ _ => (se_callN h_number_of hr (by decide) rfl takesNo (sa_cons (sv 4) sa_nil) (lenCons lenNil))) (by decide)) sa_nil))) (sss_cons (sset 3 sc_m_deed_in.nd (se_if (st_cmp (opM_eq (Room.u64 hr)) pu_eq (nomark _) (se_ix (Room.u1 hr) (fun _ _ => rfl) (sv 1) se_int pu_ix) se_str) se_int (se_getW t_SIZES rfl (se_ix (Room.u1 hr) (fun _ _ => rfl) (sv 1) se_int pu_ix) ⟨rfl, rfl, rfl⟩))) (sss_one (ss_ret (se_if (st_w (sw_or (st_cmp (opM_ne (Room.u64 hr)) pu_ne (nomark _) (se_callB crM_len pu_len rfl g.b_len bt_len (sa_cons (sv 1) sa_nil)) (sv 3)) (sw_or1 (st_cmp (opM_in (Room.u65 hr)) pu_in (by with_unfolding_all rfl) se_non (sv 2))))) se_non (se_op opM_add pu_add (se_tup (sa_cons (se_ix (Room.u1 hr) (fun _ _ => rfl) (sv 1) se_int pu_ix) sa_nil) (lenCons lenNil) (by decide)) (sv 2))))))))
def m_read_s0 : MS := (mAsg (mBM kStr splitM (mVar 0) (mCons (mC (.str "\n")) mNil)) (tgName 1))
def m_read_s1 : MS := (mAsg (mCallF m_calendar_in (mCons (mOp idxM (mVar 1) (mC (.int 0))) mNil)) (tgName 2))
def m_read_s3 : MS := (mRaise "BadLine" "line" (mC (.int 1)))
def m_read_s2 : MS := (mIfS (mTest (mOp isM (mVar 2) (mC .non))) m_read_s3 mNext)
def m_read_s6 : MS := (mRaise "BadLine" "line" (mOp addM (mVar 3) (mC (.int 2))))
def m_read_s5 : MS := (mIfS (mNot (mTest (mCallF m_is_done (mCons (mVar 2) (mCons (mCallF m_deed_in (mCons (mVar 4) mNil)) mNil))))) m_read_s6 mNext)
def m_read_s4 : MS := (mFor (mEnum (mCons (mSlice (mVar 1) (moSome (mC (.int 1))) moNone) mNil)) (tgTup (tgCons (tgName 3) (tgCons (tgName 4) tgNil))) m_read_s5)
def m_read_s7 : MS := (mRet (mVar 2))
def m_read : MF := mFn 5 ((mSeq m_read_s0 (mSeq m_read_s1 (mSeq m_read_s2 (mSeq m_read_s4 m_read_s7)))))
theorem sc_m_read : FnScope ["text", "lines", "calendar", "at", "line"] ["text"] (defScope s_read) := ⟨rfl, rfl, rfl, by decide +kernel, rfl, by decide +kernel, by decide +kernel⟩
theorem ok_read {P : Program} {w : PySem.World} {K : PySem.W.Frag} {mg : Str → Option Value} {base : Heap} {f : Addr} {fd : FuncData} (g : Gs K mg) (h_calendar_in : FN P w K mg base 6 1 "calendar_in" m_calendar_in) (h_is_done : FN P w K mg base 7 2 "is_done" m_is_done) (h_deed_in : FN P w K mg base 2 1 "deed_in" m_deed_in) (x_BadLine : XN P w K mg base 1 "BadLine" "line") (F : FunD K "read" "read" (defArgs s_read) (defBody s_read) (defScope s_read) [] [] f fd) (hg : mg "read" = some (.ref f)) : FN P w K mg base 8 1 "read" m_read := by
  refine ⟨f, fd, ["text"], ?_, hg, F.kp, F.bindsN fun _ _ _ _ _ _ us hl => match us, hl with | [_], _ => rfl⟩
  refine F.ok sc_m_read (fun vs H Q E h => h.1) (fun cdv A outer s H vs Q E hr h => body_ok (m := (mSeq m_read_s0 (mSeq m_read_s1 (mSeq m_read_s2 (mSeq m_read_s4 m_read_s7))))) (by decide) ?_ h)
  exact (sss_cons (sset 1 sc_m_read.nd (se_bx PySem.F.plainAttrs_str PySem.F.slot_str_split PySem.F.type_str_split mt_splitM pu_split kd_str (sv 0) (sa_cons se_str sa_nil) ⟨rfl, rfl, rfl⟩)) (sss_cons (sset 2 sc_m_read.nd (se_callN h_calendar_in hr (by decide) rfl takes_cx (sa_cons (se_ix (Room.u1 hr) (fun _ _ => rfl) (sv 1) se_int pu_ix) sa_nil) (lenCons lenNil))) (sss_cons (ss_if (st_cmp opM_is pu_is (nomark _) (sv 2) se_non) (sss_one (ss_raiseN x_BadLine rfl takes_cx hr (by decide) rfl se_int)) sss_nil) (sss_cons (ss_for pass_cx rfl (si_enum rfl g.b_enumerate (sa_cons (se_slice (sv 1) (so_some se_int) so_none) sa_nil)) (sg_tup rfl (sgs_cons (sn 3 sc_m_read.nd) (sgs_cons (sn 4 sc_m_read.nd) sgs_nil))) (sss_one (ss_if (st_not (st_val (se_callN h_is_done hr (by decide) rfl takes_cx (sa_cons (sv 2) (sa_cons (se_callN h_deed_in hr (by decide) rfl takes_cx (sa_cons (sv 4) sa_nil) (lenCons lenNil)) sa_nil)) (lenCons (lenCons lenNil))))) (sss_one (ss_raiseN x_BadLine rfl takes_cx hr (by decide) rfl (se_op opM_add pu_add (sv 3) se_int))) sss_nil))) (sss_one (ss_ret (sv 2)))))))
def m_law_told_s0 : MS := (mAsg (mC .non) (tgName 1))
def m_law_told_s2 : MS := (mDrop (mCallF m_read (mCons (mVar 0) mNil)))
def m_law_told_s1 : MS := (mTryF (oneC "BadLine") "line" 2 1 m_law_told_s2)
def m_law_told_s3 : MS := (mRet (mVar 1))
def m_law_told : MF := pureF (mFn 3 ((mSeq m_law_told_s0 (mSeq m_law_told_s1 m_law_told_s3))))
theorem sc_m_law_told : FnScope ["_law_text", "_law_told_here", "e"] ["_law_text"] (defScope s_law_told) := ⟨rfl, rfl, rfl, by decide +kernel, rfl, by decide +kernel, by decide +kernel⟩
theorem ok_law_told {P : Program} {w : PySem.World} {K : PySem.W.Frag} {mg : Str → Option Value} {base : Heap} {f : Addr} {fd : FuncData} (g : Gs K mg) (h_read : FN P w K mg base 8 1 "read" m_read) (x_BadLine : XN P w K mg base 1 "BadLine" "line") (F : FunD K "_law_told" "_law_told" (defArgs s_law_told) (defBody s_law_told) (defScope s_law_told) [] [] f fd) (hg : mg "_law_told" = some (.ref f)) : FN P w K mg base 9 1 "_law_told" m_law_told := by
  refine ⟨f, fd, ["_law_text"], ?_, hg, F.kp, F.bindsN fun _ _ _ _ _ _ us hl => match us, hl with | [_], _ => rfl⟩
  refine pure_ok (m := mFn _ _) (F.ok sc_m_law_told (fun vs H Q E h => h.1) (fun cdv A outer s H vs Q E hr h => body_ok (m := (mSeq m_law_told_s0 (mSeq m_law_told_s1 m_law_told_s3))) (by decide) ?_ h))
  exact (sss_cons (sset 1 sc_m_law_told.nd se_non) (sss_cons (ss_tryF (i := 2) (j := 1) rfl rfl sc_m_law_told.nd rfl rfl ⟨rfl, by decide, .inl g.gc_BadLine⟩ takes_cx (oneC_ok g.xm_BadLine_BadLine) oneC_is g.xf_BadLine g.n_BadLine_line rfl rfl (by decide) (by decide) (fun _ _ _ tk pp => (sss_one (ss_expr (se_callN h_read hr (by decide) rfl tk (sa_cons (sv 0) sa_nil) (lenCons lenNil)))))) (sss_one (ss_ret (sv 1)))))
def m_law_s0 : MS := (mAsg (mCallF m_law_begin (mCons (mVar 0) mNil)) (tgName 1))
def m_law_s1 : MS := (mAsg (mCallF m_law_parts (mCons (mVar 1) mNil)) (tgName 2))
def m_law_s2 : MS := (mAsg (mOp addM (mC (.int 1)) (mCallF m_law_draw (mCons (mVar 1) (mCons (mC (.int 3)) mNil)))) (tgName 3))
def m_law_s3 : MS := (mAsg (mBM kStr joinM (mC (.str " ")) (mCons (mOp addM (mOp addM (mLst (mCons (mC (.str "rule")) mNil)) (mVar 2)) (mLst (mCons (mCallF strM (mCons (mVar 3) mNil)) (mCons (mC (.str "4")) mNil)))) mNil)) (tgName 4))
def m_law_s4 : MS := (mAsg (mLst (mCons (mVar 4) (mCons (mC (.str "add 0 0")) (mCons (mC (.str "add 1 1")) (mCons (mC (.str "room 0 3")) (mCons (mC (.str "person 0")) (mCons (mC (.str "one 1 0 2")) mNil))))))) (tgName 5))
def m_law_s5 : MS := (mAsg (mSlice (mVar 5) moNone (moSome (mOp addM (mC (.int 3)) (mCallF m_law_draw (mCons (mVar 1) (mCons (mC (.int 4)) mNil)))))) (tgName 5))
def m_law_s7 : MS := (mRet (mC (.bl false)))
def m_law_s6 : MS := (mIfS (mTest (mOp isnM (mCallF m_law_told (mCons (mBM kStr joinM (mC (.str "\n")) (mCons (mVar 5) mNil)) mNil)) (mC .non))) m_law_s7 mNext)
def m_law_s8 : MS := (mAsg (mLst (mCons (mC (.str "")) (mCons (mC (.str "add")) (mCons (mC (.str "add 0")) (mCons (mC (.str "add 2 4")) (mCons (mC (.str "add -1 2")) (mCons (mC (.str "add 0 02")) (mCons (mC (.str "add 1 1 1")) (mCons (mC (.str "room")) (mCons (mC (.str "room 0")) (mCons (mC (.str "room 5 1")) (mCons (mC (.str "room 0 4")) mNil)))))))))))) (tgName 6))
def m_law_s9 : MS := (mAsg (mOp addM (mVar 6) (mLst (mCons (mC (.str "room 0 1 1")) (mCons (mC (.str "person")) (mCons (mC (.str "person 0 0")) (mCons (mC (.str "person 9")) (mCons (mC (.str "one 0 0")) (mCons (mC (.str "one 0 9 1")) (mCons (mC (.str "one 0 0 4")) (mCons (mC (.str "off 0")) mNil)))))))))) (tgName 6))
def m_law_s10 : MS := (mAsg (mOp addM (mVar 6) (mLst (mCons (mC (.str "off 0 9")) (mCons (mC (.str "tell 0")) (mCons (mC (.str "find 0 1")) (mCons (mC (.str "undo")) (mCons (mC (.str " person 0")) (mCons (mC (.str "person 0 ")) (mCons (mC (.str "person  0")) (mCons (mC (.str "Person 0")) (mCons (mC (.str "rule")) mNil))))))))))) (tgName 6))
def m_law_s11 : MS := (mAsg (mOp addM (mC (.int 3)) (mCallF m_law_draw (mCons (mVar 1) (mCons (mOp subM (mCallF lenM (mCons (mVar 5) mNil)) (mC (.int 2))) mNil)))) (tgName 7))
def m_law_s12 : MS := (mAsg (mOp addM (mOp addM (mSlice (mVar 5) moNone (moSome (mVar 7))) (mLst (mCons (mOp idxM (mVar 6) (mCallF m_law_draw (mCons (mVar 1) (mCons (mCallF lenM (mCons (mVar 6) mNil)) mNil)))) mNil))) (mSlice (mVar 5) (moSome (mVar 7)) moNone)) (tgName 8))
def m_law_s14 : MS := (mRet (mC (.bl false)))
def m_law_s13 : MS := (mIfS (mTest (mOp neM (mCallF m_law_told (mCons (mBM kStr joinM (mC (.str "\n")) (mCons (mVar 8) mNil)) mNil)) (mOp addM (mVar 7) (mC (.int 1))))) m_law_s14 mNext)
def m_law_s15 : MS := (mAsg (mLst (mCons (mOp addM (mVar 4) (mC (.str " "))) (mCons (mSlice (mVar 4) (moSome (mC (.int 5))) moNone) (mCons (mC (.str "rule")) (mCons (mOp addM (mVar 4) (mC (.str " 1"))) (mCons (mRepl "rule" "Rule" (mVar 4)) (mCons (mC (.str "")) (mCons (mOp addM (mSlice (mVar 4) moNone (moSome (mC (.int (-1))))) (mC (.str "0"))) mNil)))))))) (tgName 9))
def m_law_s16 : MS := (mAsg (mOp addM (mVar 9) (mLst (mCons (mOp addM (mSlice (mVar 4) moNone (moSome (mC (.int (-1))))) (mC (.str "x"))) (mCons (mBM kStr joinM (mC (.str " ")) (mCons (mOp addM (mOp addM (mLst (mCons (mC (.str "rule")) mNil)) (mSlice (mVar 2) moNone (moSome (mC (.int 3))))) (mLst (mCons (mC (.str "then")) (mCons (mC (.str "1")) (mCons (mC (.str "4")) mNil))))) mNil)) mNil)))) (tgName 9))
def m_law_s18 : MS := (mRet (mC (.bl false)))
def m_law_s17 : MS := (mIfS (mTest (mOp neM (mCallF m_law_told (mCons (mBM kStr joinM (mC (.str "\n")) (mCons (mOp addM (mLst (mCons (mOp idxM (mVar 9) (mCallF m_law_draw (mCons (mVar 1) (mCons (mCallF lenM (mCons (mVar 9) mNil)) mNil)))) mNil)) (mSlice (mVar 5) (moSome (mC (.int 1))) moNone)) mNil)) mNil)) (mC (.int 1)))) m_law_s18 mNext)
def m_law_s19 : MS := (mRet (mOp eqM (mCallF m_law_told (mCons (mBM kStr joinM (mC (.str "\n")) (mCons (mOp addM (mSlice (mVar 5) moNone (moSome (mC (.int 3)))) (mLst (mCons (mC (.str "off 0 0")) (mCons (mC (.str "off 0 0")) mNil)))) mNil)) mNil)) (mC (.int 5))))
def m_law : MF := mFn 10 ((mSeq m_law_s0 (mSeq m_law_s1 (mSeq m_law_s2 (mSeq m_law_s3 (mSeq m_law_s4 (mSeq m_law_s5 (mSeq m_law_s6 (mSeq m_law_s8 (mSeq m_law_s9 (mSeq m_law_s10 (mSeq m_law_s11 (mSeq m_law_s12 (mSeq m_law_s13 (mSeq m_law_s15 (mSeq m_law_s16 (mSeq m_law_s17 m_law_s19)))))))))))))))))
theorem sc_m_law : FnScope ["_law_script", "_law_draws", "_law_parts_here", "_law_days", "_law_head", "_law_lines", "_law_odd", "_law_at", "_law_spoilt", "_law_heads"] ["_law_script"] (defScope s_law) := ⟨rfl, rfl, rfl, by decide +kernel, rfl, by decide +kernel, by decide +kernel⟩
theorem ok_law {P : Program} {w : PySem.World} {K : PySem.W.Frag} {mg : Str → Option Value} {base : Heap} {f : Addr} {fd : FuncData} (g : Gs K mg) (h_law_begin : FN P w K mg base 1 1 "_law_begin" m_law_begin) (h_law_parts : FN P w K mg base 2 1 "_law_parts" m_law_parts) (h_law_draw : FN P w K mg base 1 2 "_law_draw" m_law_draw) (h_law_told : FN P w K mg base 9 1 "_law_told" m_law_told) (F : FunD K "law" "law" (defArgs s_law) (defBody s_law) (defScope s_law) [] [] f fd) : FnOk P w K mg base (L2.CX P w) 10 f fd ["_law_script"] (spM w K 1 m_law) := by
  refine F.ok sc_m_law (fun vs H Q E h => h.1) (fun cdv A outer s H vs Q E hr h => body_ok (m := (mSeq m_law_s0 (mSeq m_law_s1 (mSeq m_law_s2 (mSeq m_law_s3 (mSeq m_law_s4 (mSeq m_law_s5 (mSeq m_law_s6 (mSeq m_law_s8 (mSeq m_law_s9 (mSeq m_law_s10 (mSeq m_law_s11 (mSeq m_law_s12 (mSeq m_law_s13 (mSeq m_law_s15 (mSeq m_law_s16 (mSeq m_law_s17 m_law_s19))))))))))))))))) (by decide) ?_ h)
  exact (sss_cons (sset 1 sc_m_law.nd (se_callN h_law_begin hr (by decide) rfl takes_cx (sa_cons (sv 0) sa_nil) (lenCons lenNil))) (sss_cons (sset 2 sc_m_law.nd (se_callN h_law_parts hr (by decide) rfl takes_cx (sa_cons (sv 1) sa_nil) (lenCons lenNil))) (sss_cons (sset 3 sc_m_law.nd (se_op opM_add pu_add se_int (se_callN h_law_draw hr (by decide) rfl takes_cx (sa_cons (sv 1) (sa_cons se_int sa_nil)) (lenCons (lenCons lenNil))))) (sss_cons (sset 4 sc_m_law.nd (se_bx PySem.F.plainAttrs_str PySem.F.slot_str_join PySem.F.type_str_join mt_joinM pu_join kd_str se_str (sa_cons (se_op opM_add pu_add (se_op opM_add pu_add (se_lst (sa_cons se_str sa_nil) (lenCons lenNil) (by decide)) (sv 2)) (se_lst (sa_cons (se_callTy crM_str pu_str rfl g.b_str bt_str (sa_cons (sv 3) sa_nil)) (sa_cons se_str sa_nil)) (lenCons (lenCons lenNil)) (by decide))) sa_nil) ⟨rfl, rfl, rfl⟩)) (sss_cons (sset 5 sc_m_law.nd (se_lst (sa_cons (sv 4) (sa_cons se_str (sa_cons se_str (sa_cons se_str (sa_cons se_str (sa_cons se_str sa_nil)))))) (lenCons (lenCons (lenCons (lenCons (lenCons (lenCons lenNil)))))) (by decide))) (sss_cons (sset 5 sc_m_law.nd (se_slice (sv 5) so_none (so_some (se_op opM_add pu_add se_int (se_callN h_law_draw hr (by decide) rfl takes_cx (sa_cons (sv 1) (sa_cons se_int sa_nil)) (lenCons (lenCons lenNil))))))) (sss_cons (ss_if (st_cmp opM_isn pu_isn (nomark _) (se_callN h_law_told hr (by decide) rfl takes_cx (sa_cons (se_bx PySem.F.plainAttrs_str PySem.F.slot_str_join PySem.F.type_str_join mt_joinM pu_join kd_str se_str (sa_cons (sv 5) sa_nil) ⟨rfl, rfl, rfl⟩) sa_nil) (lenCons lenNil)) se_non) (sss_one (ss_ret se_bl)) sss_nil) (sss_cons (sset 6 sc_m_law.nd (se_lst (sa_cons se_str (sa_cons se_str (sa_cons se_str (sa_cons se_str (sa_cons se_str (sa_cons se_str (sa_cons se_str (sa_cons se_str (sa_cons se_str (sa_cons se_str (sa_cons se_str sa_nil))))))))))) (lenCons (lenCons (lenCons (lenCons (lenCons (lenCons (lenCons (lenCons (lenCons (lenCons (lenCons lenNil))))))))))) (by decide))) (sss_cons (sset 6 sc_m_law.nd (se_op opM_add pu_add (sv 6) (se_lst (sa_cons se_str (sa_cons se_str (sa_cons se_str (sa_cons se_str (sa_cons se_str (sa_cons se_str (sa_cons se_str (sa_cons se_str sa_nil)))))))) (lenCons (lenCons (lenCons (lenCons (lenCons (lenCons (lenCons (lenCons lenNil)))))))) (by decide)))) (sss_cons (sset 6 sc_m_law.nd (se_op opM_add pu_add (sv 6) (se_lst (sa_cons se_str (sa_cons se_str (sa_cons se_str (sa_cons se_str (sa_cons se_str (sa_cons se_str (sa_cons se_str (sa_cons se_str (sa_cons se_str sa_nil))))))))) (lenCons (lenCons (lenCons (lenCons (lenCons (lenCons (lenCons (lenCons (lenCons lenNil))))))))) (by decide)))) (sss_cons (sset 7 sc_m_law.nd (se_op opM_add pu_add se_int (se_callN h_law_draw hr (by decide) rfl takes_cx (sa_cons (sv 1) (sa_cons (se_op opM_sub pu_sub (se_callB crM_len pu_len rfl g.b_len bt_len (sa_cons (sv 5) sa_nil)) se_int) sa_nil)) (lenCons (lenCons lenNil))))) (sss_cons (sset 8 sc_m_law.nd (se_op opM_add pu_add (se_op opM_add pu_add (se_slice (sv 5) so_none (so_some (sv 7))) (se_lst (sa_cons (se_ix (Room.u1 hr) (fun _ _ => rfl) (sv 6) (se_callN h_law_draw hr (by decide) rfl takes_cx (sa_cons (sv 1) (sa_cons (se_callB crM_len pu_len rfl g.b_len bt_len (sa_cons (sv 6) sa_nil)) sa_nil)) (lenCons (lenCons lenNil))) pu_ix) sa_nil) (lenCons lenNil) (by decide))) (se_slice (sv 5) (so_some (sv 7)) so_none))) (sss_cons (ss_if (st_cmp (opM_ne (Room.u64 hr)) pu_ne (nomark _) (se_callN h_law_told hr (by decide) rfl takes_cx (sa_cons (se_bx PySem.F.plainAttrs_str PySem.F.slot_str_join PySem.F.type_str_join mt_joinM pu_join kd_str se_str (sa_cons (sv 8) sa_nil) ⟨rfl, rfl, rfl⟩) sa_nil) (lenCons lenNil)) (se_op opM_add pu_add (sv 7) se_int)) (sss_one (ss_ret se_bl)) sss_nil) (sss_cons (sset 9 sc_m_law.nd (se_lst (sa_lit (sv 4) (sat_cons (set_of (se_slice (sv 4) (so_some se_int) so_none)) (sat_cons (set_of se_str) (sat_cons (set_of (se_op opM_add pu_add (sv 4) se_str)) (sat_cons (set_repl (y := "rule") (z := "Rule") (sv 4)) (sat_cons (set_of se_str) (sat_cons (set_of (se_op opM_add pu_add (se_slice (sv 4) so_none (so_some (se_neg))) se_str)) sat_nil))))))) (lenCons (lenCons (lenCons (lenCons (lenCons (lenCons (lenCons lenNil))))))) (by decide))) (sss_cons (sset 9 sc_m_law.nd (se_op opM_add pu_add (sv 9) (se_lst (sa_cons (se_op opM_add pu_add (se_slice (sv 4) so_none (so_some (se_neg))) se_str) (sa_cons (se_bx PySem.F.plainAttrs_str PySem.F.slot_str_join PySem.F.type_str_join mt_joinM pu_join kd_str se_str (sa_cons (se_op opM_add pu_add (se_op opM_add pu_add (se_lst (sa_cons se_str sa_nil) (lenCons lenNil) (by decide)) (se_slice (sv 2) so_none (so_some se_int))) (se_lst (sa_cons se_str (sa_cons se_str (sa_cons se_str sa_nil))) (lenCons (lenCons (lenCons lenNil))) (by decide))) sa_nil) ⟨rfl, rfl, rfl⟩) sa_nil)) (lenCons (lenCons lenNil)) (by decide)))) (sss_cons (ss_if (st_cmp (opM_ne (Room.u64 hr)) pu_ne (nomark _) (se_callN h_law_told hr (by decide) rfl takes_cx (sa_cons (se_bx PySem.F.plainAttrs_str PySem.F.slot_str_join PySem.F.type_str_join mt_joinM pu_join kd_str se_str (sa_cons (se_op opM_add pu_add (se_lst (sa_cons (se_ix (Room.u1 hr) (fun _ _ => rfl) (sv 9) (se_callN h_law_draw hr (by decide) rfl takes_cx (sa_cons (sv 1) (sa_cons (se_callB crM_len pu_len rfl g.b_len bt_len (sa_cons (sv 9) sa_nil)) sa_nil)) (lenCons (lenCons lenNil))) pu_ix) sa_nil) (lenCons lenNil) (by decide)) (se_slice (sv 5) (so_some se_int) so_none)) sa_nil) ⟨rfl, rfl, rfl⟩) sa_nil) (lenCons lenNil)) se_int) (sss_one (ss_ret se_bl)) sss_nil) (sss_one (ss_ret (se_cmp (opM_eq (Room.u64 hr)) pu_eq (nomark _) (se_callN h_law_told hr (by decide) rfl takes_cx (sa_cons (se_bx PySem.F.plainAttrs_str PySem.F.slot_str_join PySem.F.type_str_join mt_joinM pu_join kd_str se_str (sa_cons (se_op opM_add pu_add (se_slice (sv 5) so_none (so_some se_int)) (se_lst (sa_cons se_str (sa_cons se_str sa_nil)) (lenCons (lenCons lenNil)) (by decide))) sa_nil) ⟨rfl, rfl, rfl⟩) sa_nil) (lenCons lenNil)) se_int)))))))))))))))))))
end Lw
set_option Elab.async false
set_option linter.all false
set_option maxRecDepth 100000
set_option maxHeartbeats 4000000
namespace Mi
open PySem PySem.Spec PyProof.Rows L2
section
variable {ρ : Ev} {S : Sto} {a b c : ME} {m m' : MS} {ma : MA} {t u : MT} {d : MV} {i : Nat}
@[simp] theorem w_var' : mVar i ρ S = (match ρ[i]? with
  | some (some d) => .ok d S
  | _ => .stk) := rfl
@[simp] theorem w_c : mC d ρ S = .ok d S := rfl
@[simp] theorem w_op {f : MV → MV → Sto → R MV} : mOp f a b ρ S = (a ρ S).bind fun x S1 => (b ρ S1).bind fun y S2 => f x y S2 := rfl
@[simp] theorem w_test : mTest a ρ S = (a ρ S).bind toB := rfl
@[simp] theorem w_not : mNot t ρ S = (t ρ S).bind fun b S1 => .ok (!b) S1 := rfl
@[simp] theorem w_and : mAnd t u ρ S = (t ρ S).bind fun x S1 => if x then u ρ S1 else .ok false S1 := rfl
@[simp] theorem w_or : mOr t u ρ S = (t ρ S).bind fun x S1 => if x then .ok true S1 else u ρ S1 := rfl
@[simp] theorem w_andV : mAndV a b ρ S = (mTest a ρ S).bind fun x S1 => if x then b ρ S1 else .ok (.bl false) S1 := rfl
@[simp] theorem w_orV : mOrV a b ρ S = (mTest a ρ S).bind fun x S1 => if x then .ok (.bl true) S1 else b ρ S1 := rfl
@[simp] theorem w_notV : mNotV a ρ S = (mTest a ρ S).bind fun x S1 => .ok (.bl (!x)) S1 := rfl
@[simp] theorem w_if : mIf t a b ρ S = (t ρ S).bind fun x S1 => if x then a ρ S1 else b ρ S1 := rfl
@[simp] theorem w_nil : mNil ρ S = .ok [] S := rfl
@[simp] theorem w_cons : mCons a ma ρ S = (a ρ S).bind fun x S1 => (ma ρ S1).bind fun xs S2 => .ok (x :: xs) S2 := rfl
@[simp] theorem w_tup : mTup ma ρ S = (ma ρ S).bind fun xs S1 => .ok (.tup xs) S1 := rfl
@[simp] theorem w_lst : mLst ma ρ S = (ma ρ S).bind fun xs S1 => .ok (.lst xs) S1 := rfl
@[simp] theorem w_callF {f : List MV → Sto → R MV} : mCallF f ma ρ S = (ma ρ S).bind f := rfl
@[simp] theorem w_true : mTrue ρ S = .ok true S := rfl
@[simp] theorem w_toB {x : Bool} : toB (.bl x) S = .ok x S := rfl
@[simp] theorem w_next : mNext ρ S = .nx ρ S := rfl
@[simp] theorem w_ifS : mIfS t m m' ρ S = (t ρ S).thn ρ fun x S1 => if x then m ρ S1 else m' ρ S1 := rfl
@[simp] theorem w_ret : mRet a ρ S = (a ρ S).thn ρ fun d S1 => .rt d S1 := rfl
@[simp] theorem w_asg {g : Tg} : mAsg a g ρ S = (a ρ S).thn ρ fun d S1 => oS (g.f d ρ) S1 := rfl
@[simp] theorem w_name : (tgName i).f d ρ = some (ρ.set i (some d)) := rfl
@[simp] theorem w_oS {ρ' : Ev} : oS (some ρ') S = .nx ρ' S := rfl
@[simp] theorem w_toR {S1 : Sto} : toR (.rt d S1) = .ok d S1 := rfl
@[simp] theorem w_toRn : toR (.nx ρ S) = .ok .non S := rfl
end
theorem lcGo_ty {α : Type} {ok : Sto → Bool} {g : Tg} {tt : MT} {te : ME} {ρ : Ev} {S : Sto} (hok : ok S = true) (enc : α → MV) (p : α → Bool) (f : α → MV) :
    ∀ (xs : List α) (acc : List MV), (∀ x ∈ xs, ∃ ρ1, g.f (enc x) ρ = some ρ1 ∧ tt ρ1 S = .ok (p x) S ∧ (p x = true → te ρ1 S = .ok (f x) S)) → lcGo ok g tt te ρ (xs.map enc) acc S = .ok (acc ++ (xs.filter p).map f) S
  | [], acc, _ => by simp [lcGo, hok]
  | x :: xs, acc, h => by
    obtain ⟨ρ1, e1, e2, e3⟩ := h x List.mem_cons_self
    have ih := fun acc => lcGo_ty hok enc p f xs acc fun y hy => h y (List.mem_cons_of_mem _ hy)
    rw [List.map_cons, lcGo, if_pos hok, e1]
    dsimp only
    rw [e2]
    simp only [R.calm_ok, R.bind_ok]
    by_cases hp : p x = true
    · rw [if_pos hp, e3 hp]
      simp only [R.calm_ok, R.bind_ok]
      rw [ih, List.filter_cons_of_pos hp]
      simp
    · rw [if_neg hp, ih, List.filter_cons_of_neg hp]
theorem lcGo_tm {α : Type} {ok : Sto → Bool} {g : Tg} {te : ME} {ρ : Ev} {S : Sto} (hok : ok S = true) (enc : α → MV) (f : α → MV) (xs : List α) (h : ∀ x ∈ xs, ∃ ρ1, g.f (enc x) ρ = some ρ1 ∧ te ρ1 S = .ok (f x) S) : lcGo ok g mTrue te ρ (xs.map enc) [] S = .ok (xs.map f) S := by
  have := lcGo_ty (tt := mTrue) hok enc (fun _ => true) f xs [] fun x hx => let ⟨ρ1, a, b⟩ := h x hx; ⟨ρ1, a, rfl, fun _ => b⟩
  rw [this, List.filter_eq_self.mpr (fun _ _ => rfl)]
  simp
theorem enmI_ty {α : Type} (enc : α → MV) : ∀ (xs : List α) (k : Nat), enmI k (xs.map enc) = (xs.zipIdx k).map fun x => .tup [.int (x.2 : Nat), enc x.1]
  | [], k => rfl
  | x :: xs, k => by rw [List.map_cons, enmI, enmI_ty enc xs (k + 1)]; rfl
theorem zipI_ty {α β : Type} (f : α → MV) (g : β → MV) : ∀ (xs : List α) (ys : List β), zipI (xs.map f) (ys.map g) = (xs.zip ys).map fun x => .tup [f x.1, g x.2]
  | [], ys => by simp [zipI]
  | x :: xs, [] => by simp [zipI]
  | x :: xs, y :: ys => by rw [List.map_cons, List.map_cons, zipI, zipI_ty f g xs ys]; rfl
theorem mem_zi {α : Type} {xs : List α} {x : α × Nat} (h : x ∈ xs.zipIdx) : xs[x.2]? = some x.1 := by
  obtain ⟨a, i⟩ := x
  simpa using List.mem_zipIdx_iff_getElem?.mp h
def hv : Option Int → MV
  | none => .non
  | some i => .int i
@[simp] theorem eq_int {a b : Int} {S : Sto} : eqM (.int a) (.int b) S = .ok (.bl (decide (a = b))) S := by simp [eqM, eqB, scalM, seqM]
@[simp] theorem ne_int {a b : Int} {S : Sto} : neM (.int a) (.int b) S = .ok (.bl (!decide (a = b))) S := by simp [neM, eqB, scalM, seqM]
@[simp] theorem eq_str {a b : Str} {S : Sto} : eqM (.str a) (.str b) S = .ok (.bl (decide (a = b))) S := by simp [eqM, eqB, scalM, seqM]
@[simp] theorem ne_str {a b : Str} {S : Sto} : neM (.str a) (.str b) S = .ok (.bl (!decide (a = b))) S := by simp [neM, eqB, scalM, seqM]
@[simp] theorem eq_hv {a b : Option Int} {S : Sto} : eqM (hv a) (hv b) S = .ok (.bl (decide (a = b))) S := by
  cases a <;> cases b <;> simp [hv, eqM, eqB, scalM, seqM]
@[simp] theorem ne_hv {a b : Option Int} {S : Sto} : neM (hv a) (hv b) S = .ok (.bl (!decide (a = b))) S := by
  cases a <;> cases b <;> simp [hv, neM, eqB, scalM, seqM]
@[simp] theorem is_hv {a : Option Int} {S : Sto} : isM (hv a) .non S = .ok (.bl (decide (a = none))) S := by
  cases a <;> simp [hv, isM, isB]
@[simp] theorem isn_hv {a : Option Int} {S : Sto} : isnM (hv a) .non S = .ok (.bl (!decide (a = none))) S := by
  cases a <;> simp [hv, isnM, isB]
theorem atI_nat {xs : List MV} {d : Nat} {x : MV} (h : xs[d]? = some x) : atI xs (d : Int) = some x := by
  have hl := (List.getElem?_eq_some_iff.mp h).1
  have e : ixN xs.length (d : Int) = some d := by
    unfold ixN
    simp
    omega
  unfold atI
  rw [e]; exact h
theorem ix_tup {xs : List MV} {d : Nat} {x : MV} {S : Sto} (h : xs[d]? = some x) : idxM (.tup xs) (.int (d : Int)) S = .ok x S := by
  unfold idxM; simp only [seqOf]; rw [atI_nat h]
theorem ix_lst {xs : List MV} {d : Nat} {x : MV} {S : Sto} (h : xs[d]? = some x) : idxM (.lst xs) (.int (d : Int)) S = .ok x S := by
  unfold idxM; simp only [seqOf, lstOf]; rw [atI_nat h]
theorem ix_ref {xs : List MV} {d n : Nat} {x : MV} {S : Sto} (hS : S[n]? = some (.lst xs)) (h : xs[d]? = some x) : idxM (.ref n) (.int (d : Int)) S = .ok x S := by
  unfold idxM; simp only [seqOf, lstOf]; rw [hS]; dsimp only; rw [atI_nat h]
@[simp] theorem w_wipe0 {ρ : Ev} : wipeE ρ [] = ρ := rfl
@[simp] theorem w_wipe1 {ρ : Ev} {v : Nat} {vs : List Nat} : wipeE ρ (v :: vs) = (wipeE ρ vs).set v none := rfl
theorem anyM_bl {xs : List Bool} {S : Sto} : anyM [.lst (xs.map MV.bl)] S = .ok (.bl (xs.any id)) S := by
  have : ∀ xs : List Bool, allBl (xs.map MV.bl) = some xs := fun xs => by
    induction xs with
    | nil => rfl
    | cons x xs ih => simp [allBl, ih]
  simp [anyM, overBl, lstOf, this]
theorem allM_bl {xs : List Bool} {S : Sto} : allM [.lst (xs.map MV.bl)] S = .ok (.bl (xs.all id)) S := by
  have : ∀ xs : List Bool, allBl (xs.map MV.bl) = some xs := fun xs => by
    induction xs with
    | nil => rfl
    | cons x xs ih => simp [allBl, ih]
  simp [allM, overBl, lstOf, this]
end Mi
set_option Elab.async false
set_option linter.all false
set_option maxRecDepth 100000
set_option maxHeartbeats 1000000
namespace Mi
open PySem PySem.Spec PyProof.Rows L2
def RS.nxt (r : RS) (k : Ev → Sto → RS) : RS := match r with
  | .nx ρ S => k ρ S
  | r => r
section
variable {ρ : Ev} {S : Sto} {a b c : ME} {m m' : MS} {ma : MA} {t u : MT} {d : MV} {i : Nat} {cl : Str} {k : Ev → Sto → RS}
@[simp] theorem nxt_nx : (RS.nx ρ S).nxt k = k ρ S := rfl
@[simp] theorem nxt_rt : (RS.rt d S).nxt k = .rt d S := rfl
@[simp] theorem nxt_exc : (RS.exc cl d ρ S).nxt k = .exc cl d ρ S := rfl
@[simp] theorem nxt_stk : RS.stk.nxt k = .stk := rfl
@[simp] theorem w_seq' : mSeq m m' ρ S = (m ρ S).nxt m' := by unfold mSeq RS.nxt; cases m ρ S <;> rfl
@[simp] theorem w_retN : mRetN ρ S = .rt .non S := rfl
@[simp] theorem w_drop : mDrop a ρ S = (a ρ S).thn ρ fun _ S1 => .nx ρ S1 := rfl
@[simp] theorem toR_exc : toR (.exc cl d ρ S) = .exc cl d S := rfl
@[simp] theorem toR_stk : toR .stk = .stk := rfl
@[simp] theorem w_src : mSrc a ρ S = (a ρ S).bind srcOf := rfl
@[simp] theorem w_rng : mRng ma ρ S = (ma ρ S).bind rngOf := rfl
@[simp] theorem w_rng2 : mRng2 ma ρ S = (ma ρ S).bind rng2Of := rfl
@[simp] theorem w_enum : mEnum ma ρ S = (ma ρ S).bind enmOf := rfl
@[simp] theorem w_zip2 : mZip2 ma ρ S = (ma ρ S).bind zp2Of := rfl
@[simp] theorem w_zip3 : mZip3 ma ρ S = (ma ρ S).bind zp3Of := rfl
@[simp] theorem w_ezip : mEzip ma ρ S = (ma ρ S).bind ezOf := rfl
@[simp] theorem w_for' {mi : Ev → Sto → R Src} {g : Tg} {body : MS} : mFor mi g body ρ S = (mi ρ S).thn ρ fun src S1 => forGo (fun S => src.ok S) g body src.items ρ S1 := rfl
@[simp] theorem w_lc' {fr : Bool} {vs : List Nat} {mi : Ev → Sto → R Src} {g : Tg} {tt : MT} {te : ME} : mLc fr vs mi g tt te ρ S = (mi ρ S).bind fun src S1 =>
  if src.items.length ≤ sizeLine then (lcGo (fun S => src.ok S) g tt te (wipeE ρ vs) src.items [] S1).bind (mkL fr) else .stk := rfl
@[simp] theorem w_mkLt {xs : List MV} : mkL true xs S = .ok (.lst xs) S := rfl
@[simp] theorem w_mkLf {xs : List MV} : mkL false xs S = .ok (.ref S.length) (S ++ [.lst xs]) := rfl
@[simp] theorem w_fld {c f : Str} : mFld c f a ρ S = (a ρ S).bind fun d S1 => fldM c f d S1 := rfl
@[simp] theorem w_slice {lo hi : Ev → Sto → R (Option Int)} : mSlice a lo hi ρ S = (a ρ S).bind fun d S1 => (lo ρ S1).bind fun l S2 => (hi ρ S2).bind fun h S3 => slcM d l h S3 := rfl
@[simp] theorem w_oNone : moNone ρ S = .ok none S := rfl
@[simp] theorem w_oSome : moSome a ρ S = (a ρ S).bind fun d S1 => match d with
  | .int i => .ok (some i) S1
  | _ => .stk := rfl
@[simp] theorem w_cell : mCell ma ρ S = (ma ρ S).bind fun xs S1 => .ok (.ref S1.length) (S1 ++ [.lst xs]) := rfl
@[simp] theorem w_truth : mTruth a ρ S = (a ρ S).bind truW := rfl
@[simp] theorem w_isi {t : String} : mIsi t a ρ S = (a ρ S).bind fun d S1 => isiM t [d] S1 := rfl
@[simp] theorem w_dct {fr : Bool} {ks : List Key} : mDct fr ks ma ρ S = (ma ρ S).bind fun ds S1 => mkD fr ks ds S1 := rfl
@[simp] theorem w_mkDt {ks : List Key} {ds : List MV} : mkD true ks ds S = .ok (.dct ks ds) S := rfl
@[simp] theorem w_mkDf {ks : List Key} {ds : List MV} : mkD false ks ds S = .ok (.ref S.length) (S ++ [.dct ks ds]) := rfl
@[simp] theorem w_chain {f g : MV → MV → Sto → R MV} : mChain f g a b c ρ S = (a ρ S).bind fun x S1 => (b ρ S1).bind fun y S2 => (f x y S2).bind fun z S3 => (toB z S3).bind fun k S4 =>
  if k then (c ρ S4).bind fun w S5 => g y w S5 else .ok (.bl false) S4 := rfl
@[simp] theorem bind_ite {α β : Type} {p : Prop} [Decidable p] {x y : R α} {f : α → Sto → R β} : (if p then x else y).bind f = if p then x.bind f else y.bind f := by split <;> rfl
@[simp] theorem thn_ite {α : Type} {p : Prop} [Decidable p] {x y : R α} {f : α → Sto → RS} : (if p then x else y).thn ρ f = if p then x.thn ρ f else y.thn ρ f := by split <;> rfl
@[simp] theorem nxt_ite {p : Prop} [Decidable p] {x y : RS} : (if p then x else y).nxt k = if p then x.nxt k else y.nxt k := by split <;> rfl
@[simp] theorem toR_ite {p : Prop} [Decidable p] {x y : RS} : toR (if p then x else y) = if p then toR x else toR y := by split <;> rfl
@[simp] theorem toB_ite {p : Prop} [Decidable p] {x y : MV} : toB (if p then x else y) S = if p then toB x S else toB y S := by split <;> rfl
end
@[simp] theorem str_inj {a b : String} : (Str.ofString a = Str.ofString b) ↔ a = b := by
  constructor
  · intro h
    rw [Str.ofString_eq_toList, Str.ofString_eq_toList] at h
    have h := congrArg (fun s => s.cps.toList) h
    simp only [List.map_inj_right (f := Char.toNat) (fun a b e => Char.toNat_inj.mp e)] at h
    exact String.toList_inj.mp h
  · rintro rfl; rfl
def fillF (J : List Nat) (f : Nat → Option MV) : Nat → Ev → Ev
  | _, [] => []
  | i, x :: xs => (if i ∈ J then f i else x) :: fillF J f (i + 1) xs
def SameE (J : List Nat) : Nat → Ev → Ev → Prop
  | _, [], [] => True
  | i, x :: xs, y :: ys => (i ∈ J ∨ x = y) ∧ SameE J (i + 1) xs ys
  | _, _, _ => False
theorem SameE.fill {J : List Nat} : ∀ {i : Nat} {ρ0 ρ : Ev}, SameE J i ρ0 ρ → ∃ f, ρ = fillF J f i ρ0
  | i, [], [], _ => ⟨fun _ => none, rfl⟩
  | i, [], _ :: _, h => h.elim
  | i, _ :: _, [], h => h.elim
  | i, x :: xs, y :: ys, h => by
    obtain ⟨f, e⟩ := SameE.fill (i := i + 1) h.2
    refine ⟨fun j => if j = i then y else f j, ?_⟩
    rw [fillF]
    have e2 : ∀ (xs : Ev) (k : Nat), i < k → fillF J (fun j => if j = i then y else f j) k xs = fillF J f k xs := by
      intro xs
      induction xs with
      | nil => intro k _; rfl
      | cons x xs ih =>
        intro k hk
        rw [fillF, fillF, ih (k + 1) (by omega)]
        have : ¬ k = i := by omega
        simp [this]
    rw [e2 xs (i + 1) (by omega), ← e]
    rcases h.1 with h1 | h1
    · simp [h1]
    · subst h1; by_cases hi : i ∈ J <;> simp [hi]
theorem SameE.refl' {J : List Nat} : ∀ (i : Nat) (ρ : Ev), SameE J i ρ ρ
  | _, [] => trivial
  | i, x :: xs => ⟨.inr rfl, SameE.refl' (i + 1) xs⟩
@[simp] theorem same_nil {J : List Nat} {i : Nat} : SameE J i [] [] := trivial
@[simp] theorem same_cons {J : List Nat} {i : Nat} {x y : Option MV} {xs ys : Ev} : SameE J i (x :: xs) (y :: ys) ↔ (i ∈ J ∨ x = y) ∧ SameE J (i + 1) xs ys := Iff.rfl
@[simp] theorem fill_nil {J : List Nat} {f : Nat → Option MV} {i : Nat} : fillF J f i [] = [] := rfl
@[simp] theorem fill_cons {J : List Nat} {f : Nat → Option MV} {i : Nat} {x : Option MV} {xs : Ev} : fillF J f i (x :: xs) = (if i ∈ J then f i else x) :: fillF J f (i + 1) xs := rfl
@[simp] theorem enmI_ty' {α : Type} (enc : α → MV) (xs : List α) (k : Nat) : enmI k (xs.map enc) = (xs.zipIdx k).map fun x => .tup [.int (x.2 : Nat), enc x.1] := enmI_ty enc xs k
@[simp] theorem zipI_ty' {α β : Type} (f : α → MV) (g : β → MV) (xs : List α) (ys : List β) : zipI (xs.map f) (ys.map g) = (xs.zip ys).map fun x => .tup [f x.1, g x.2] := zipI_ty f g xs ys
@[simp] theorem int_eq {a b : Nat} : ((a : Int) = (b : Int)) ↔ a = b := by omega
@[simp] theorem ev0_eq {N : Nat} {ds : List MV} : ev0 N ds = ds.map some ++ List.replicate (N - ds.length) none := rfl
/-- a turn of the loop: it returns d where b, else goes on, the slots the same outside of J -/
def Out (J : List Nat) (ρ0 : Ev) (S : Sto) (d : MV) (r : RS) (b : Bool) : Prop := match r with
  | .rt d' S' => b = true ∧ d' = d ∧ S' = S
  | .nx ρ S' => b = false ∧ SameE J 0 ρ0 ρ ∧ S' = S
  | _ => False
section
variable {J : List Nat} {ρ0 ρ : Ev} {S S' : Sto} {d d' : MV} {b : Bool}
@[simp] theorem out_rt : Out J ρ0 S d (.rt d' S') b ↔ b = true ∧ d' = d ∧ S' = S := Iff.rfl
@[simp] theorem out_nx : Out J ρ0 S d (.nx ρ S') b ↔ b = false ∧ SameE J 0 ρ0 ρ ∧ S' = S := Iff.rfl
@[simp] theorem out_ite {p : Prop} [Decidable p] {x y : RS} : Out J ρ0 S d (if p then x else y) b ↔ if p then Out J ρ0 S d x b else Out J ρ0 S d y b := by split <;> rfl
end
/-- run a target and a body -/
def turn (g : Tg) (body : MS) (x : MV) (ρ : Ev) (S : Sto) : RS := match g.f x ρ with
  | some ρ1 => body ρ1 S
  | none => .stk
theorem forGo_out {α : Type} {ok : Sto → Bool} {g : Tg} {body : MS} {S : Sto} {ρ0 : Ev} (J : List Nat) (enc : α → MV) (p : α → Bool) (d : MV) (hok : ok S = true) :
    ∀ (xs : List α) (f : Nat → Option MV), (∀ x ∈ xs, ∀ f, Out J ρ0 S d (turn g body (enc x) (fillF J f 0 ρ0) S) (p x)) →
      ∃ f', forGo ok g body (xs.map enc) (fillF J f 0 ρ0) S = if xs.any p then .rt d S else .nx (fillF J f' 0 ρ0) S
  | [], f, _ => ⟨f, by simp [forGo, hok]⟩
  | x :: xs, f, h => by
    have h1 := h x List.mem_cons_self f
    unfold turn at h1
    cases e1 : g.f (enc x) (fillF J f 0 ρ0) with
    | none => rw [e1] at h1; exact h1.elim
    | some ρ1 =>
      rw [e1] at h1
      dsimp only at h1
      cases e2 : body ρ1 S with
      | rt d' S' =>
        rw [e2] at h1
        obtain ⟨a, rfl, rfl⟩ := h1
        exact ⟨f, by rw [List.map_cons, forGo, if_pos hok, e1]; dsimp only; rw [e2]; simp [a]⟩
      | nx ρ2 S' =>
        rw [e2] at h1
        obtain ⟨a, sm, rfl⟩ := h1
        obtain ⟨f2, rfl⟩ := sm.fill
        obtain ⟨f', e'⟩ := forGo_out J enc p d hok xs f2 fun y hy => h y (List.mem_cons_of_mem _ hy)
        exact ⟨f', by rw [List.map_cons, forGo, if_pos hok, e1]; dsimp only; rw [e2]; dsimp only; rw [e']; simp [a]⟩
      | exc _ _ _ _ => rw [e2] at h1; exact h1.elim
      | stk => rw [e2] at h1; exact h1.elim
/-- the same, in a goal -/
theorem for_out {α : Type} {ok : Sto → Bool} {g : Tg} {body : MS} {S : Sto} {ρ0 : Ev} {k : Ev → Sto → RS} {res : R MV} {items : List MV} (J : List Nat) (enc : α → MV) (p : α → Bool) (d : MV) (xs : List α) (hi : items = xs.map enc) (hok : ok S = true)
    (h : ∀ x ∈ xs, ∀ f, Out J ρ0 S d (turn g body (enc x) (fillF J f 0 ρ0) S) (p x))
    (h1 : xs.any p = true → R.ok d S = res) (h2 : xs.any p = false → ∀ f, toR (k (fillF J f 0 ρ0) S) = res) : toR ((forGo ok g body items ρ0 S).nxt k) = res := by
  subst hi
  have e0 : ∃ f, ρ0 = fillF J f 0 ρ0 := (SameE.refl' 0 ρ0).fill
  obtain ⟨f, e0⟩ := e0
  obtain ⟨f', e⟩ := forGo_out (ok := ok) (g := g) (body := body) (ρ0 := ρ0) J enc p d hok xs f h
  rw [← e0] at e
  rw [e]
  cases hp : xs.any p with
  | true => simpa using h1 hp
  | false => simpa using h2 hp f'
@[simp] theorem turn_name {i : Nat} {body : MS} {x : MV} {ρ : Ev} {S : Sto} : turn (tgName i) body x ρ S = body (ρ.set i (some x)) S := rfl
@[simp] theorem turn_2 {i j : Nat} {body : MS} {x y : MV} {ρ : Ev} {S : Sto} : turn (tgTup (tgCons (tgName i) (tgCons (tgName j) tgNil))) body (.tup [x, y]) ρ S = body ((ρ.set i (some x)).set j (some y)) S := rfl
@[simp] theorem turn_3 {i j l : Nat} {body : MS} {x y z : MV} {ρ : Ev} {S : Sto} : turn (tgTup (tgCons (tgName i) (tgCons (tgName j) (tgCons (tgName l) tgNil)))) body (.tup [x, y, z]) ρ S = body (((ρ.set i (some x)).set j (some y)).set l (some z)) S := rfl
@[simp] theorem turn_12 {i j l : Nat} {body : MS} {x y z : MV} {ρ : Ev} {S : Sto} : turn (tgTup (tgCons (tgName i) (tgCons (tgTup (tgCons (tgName j) (tgCons (tgName l) tgNil))) tgNil))) body (.tup [x, .tup [y, z]]) ρ S = body (((ρ.set i (some x)).set j (some y)).set l (some z)) S := rfl
@[simp] theorem turn_13 {i j l q : Nat} {body : MS} {x y z w : MV} {ρ : Ev} {S : Sto} : turn (tgTup (tgCons (tgName i) (tgCons (tgTup (tgCons (tgName j) (tgCons (tgName l) (tgCons (tgName q) tgNil)))) tgNil))) body (.tup [x, .tup [y, z, w]]) ρ S = body ((((ρ.set i (some x)).set j (some y)).set l (some z)).set q (some w)) S := rfl
@[simp] theorem asg_2 {i j : Nat} {x y : MV} {ρ : Ev} : (tgTup (tgCons (tgName i) (tgCons (tgName j) tgNil))).f (.tup [x, y]) ρ = some ((ρ.set i (some x)).set j (some y)) := rfl
@[simp] theorem asg_3 {i j l : Nat} {x y z : MV} {ρ : Ev} : (tgTup (tgCons (tgName i) (tgCons (tgName j) (tgCons (tgName l) tgNil)))).f (.tup [x, y, z]) ρ = some (((ρ.set i (some x)).set j (some y)).set l (some z)) := rfl
@[simp] theorem asg_4 {i j l q : Nat} {x y z w : MV} {ρ : Ev} : (tgTup (tgCons (tgName i) (tgCons (tgName j) (tgCons (tgName l) (tgCons (tgName q) tgNil))))).f (.tup [x, y, z, w]) ρ = some ((((ρ.set i (some x)).set j (some y)).set l (some z)).set q (some w)) := rfl
@[simp] theorem asg_12 {i j l : Nat} {x y z : MV} {ρ : Ev} : (tgTup (tgCons (tgName i) (tgCons (tgTup (tgCons (tgName j) (tgCons (tgName l) tgNil))) tgNil))).f (.tup [x, .tup [y, z]]) ρ = some (((ρ.set i (some x)).set j (some y)).set l (some z)) := rfl
@[simp] theorem asg_13 {i j l q : Nat} {x y z w : MV} {ρ : Ev} : (tgTup (tgCons (tgName i) (tgCons (tgTup (tgCons (tgName j) (tgCons (tgName l) (tgCons (tgName q) tgNil)))) tgNil))).f (.tup [x, .tup [y, z, w]]) ρ = some ((((ρ.set i (some x)).set j (some y)).set l (some z)).set q (some w)) := rfl
def turnE {α : Type} (g : Tg) (te : Ev → Sto → R α) (x : MV) (ρ : Ev) (S : Sto) : R α := match g.f x ρ with
  | some ρ1 => te ρ1 S
  | none => .stk
section
variable {α : Type} {te : Ev → Sto → R α} {ρ : Ev} {S : Sto} {x y z w : MV} {i j l q : Nat}
@[simp] theorem turnE_name : turnE (tgName i) te x ρ S = te (ρ.set i (some x)) S := rfl
@[simp] theorem turnE_2 : turnE (tgTup (tgCons (tgName i) (tgCons (tgName j) tgNil))) te (.tup [x, y]) ρ S = te ((ρ.set i (some x)).set j (some y)) S := rfl
@[simp] theorem turnE_3 : turnE (tgTup (tgCons (tgName i) (tgCons (tgName j) (tgCons (tgName l) tgNil)))) te (.tup [x, y, z]) ρ S = te (((ρ.set i (some x)).set j (some y)).set l (some z)) S := rfl
@[simp] theorem turnE_12 : turnE (tgTup (tgCons (tgName i) (tgCons (tgTup (tgCons (tgName j) (tgCons (tgName l) tgNil))) tgNil))) te (.tup [x, .tup [y, z]]) ρ S = te (((ρ.set i (some x)).set j (some y)).set l (some z)) S := rfl
@[simp] theorem turnE_13 : turnE (tgTup (tgCons (tgName i) (tgCons (tgTup (tgCons (tgName j) (tgCons (tgName l) (tgCons (tgName q) tgNil)))) tgNil))) te (.tup [x, .tup [y, z, w]]) ρ S = te ((((ρ.set i (some x)).set j (some y)).set l (some z)).set q (some w)) S := rfl
end
/-- over typed things -/
theorem lc_map {α : Type} {ok : Sto → Bool} {g : Tg} {te : ME} {ρ : Ev} {S : Sto} {items : List MV} (enc : α → MV) (f : α → MV) (xs : List α) (hi : items = xs.map enc) (hok : ok S = true) (h : ∀ x ∈ xs, turnE g te (enc x) ρ S = .ok (f x) S) : lcGo ok g mTrue te ρ items [] S = .ok (xs.map f) S := by
  subst hi
  refine lcGo_tm hok enc f xs fun x hx => ?_
  have := h x hx
  unfold turnE at this
  cases e : g.f (enc x) ρ with
  | none => rw [e] at this; cases this
  | some ρ1 => rw [e] at this; exact ⟨ρ1, rfl, this⟩
section
variable {a b c d : MV} {xs : List MV} {S : Sto}
@[simp] theorem ix_t0 : idxM (.tup (a :: xs)) (.int 0) S = .ok a S := by simpa using ix_tup (xs := a :: xs) (d := 0) rfl
@[simp] theorem ix_t1 : idxM (.tup (a :: b :: xs)) (.int 1) S = .ok b S := by simpa using ix_tup (xs := a :: b :: xs) (d := 1) rfl
@[simp] theorem ix_t2 : idxM (.tup (a :: b :: c :: xs)) (.int 2) S = .ok c S := by simpa using ix_tup (xs := a :: b :: c :: xs) (d := 2) rfl
@[simp] theorem ix_t3 : idxM (.tup (a :: b :: c :: d :: xs)) (.int 3) S = .ok d S := by simpa using ix_tup (xs := a :: b :: c :: d :: xs) (d := 3) rfl
@[simp] theorem ix_l0 : idxM (.lst (a :: xs)) (.int 0) S = .ok a S := by simpa using ix_lst (xs := a :: xs) (d := 0) rfl
@[simp] theorem ix_l1 : idxM (.lst (a :: b :: xs)) (.int 1) S = .ok b S := by simpa using ix_lst (xs := a :: b :: xs) (d := 1) rfl
@[simp] theorem ix_l2 : idxM (.lst (a :: b :: c :: xs)) (.int 2) S = .ok c S := by simpa using ix_lst (xs := a :: b :: c :: xs) (d := 2) rfl
@[simp] theorem ix_l3 : idxM (.lst (a :: b :: c :: d :: xs)) (.int 3) S = .ok d S := by simpa using ix_lst (xs := a :: b :: c :: d :: xs) (d := 3) rfl
end
section
variable {xs : List MV} {S : Sto} {i j : Int}
@[simp] theorem src_tup : srcOf (.tup xs) S = .ok (.seq (.tup xs) xs) S := rfl
@[simp] theorem src_lst : srcOf (.lst xs) S = .ok (.seq (.lst xs) xs) S := rfl
@[simp] theorem enm_tup : enmOf [.tup xs] S = .ok (.enm (.tup xs) xs) S := rfl
@[simp] theorem enm_lst : enmOf [.lst xs] S = .ok (.enm (.lst xs) xs) S := rfl
@[simp] theorem it_seq {d : MV} : (Src.seq d xs).items = xs := rfl
@[simp] theorem it_enm {d : MV} : (Src.enm d xs).items = enmI 0 xs := rfl
@[simp] theorem len_enmI : ∀ (k : Nat) (xs : List MV), (enmI k xs).length = xs.length
  | _, [] => rfl
  | k, _ :: xs => by rw [enmI, List.length_cons, len_enmI, List.length_cons]
@[simp] theorem it_ezp {d e : MV} {ys : List MV} : (Src.ezp d xs e ys).items = enmI 0 (zipI xs ys) := rfl
@[simp] theorem it_zp2 {d e : MV} {ys : List MV} : (Src.zp2 d xs e ys).items = zipI xs ys := rfl
@[simp] theorem ok_seqT : (Src.seq (.tup xs) xs).ok S = true := by simp [Src.ok, seqOf]
@[simp] theorem ok_seqL : (Src.seq (.lst xs) xs).ok S = true := by simp [Src.ok, seqOf, lstOf]
@[simp] theorem ok_enmT : (Src.enm (.tup xs) xs).ok S = true := by simp [Src.ok, seqOf]
@[simp] theorem ok_enmL : (Src.enm (.lst xs) xs).ok S = true := by simp [Src.ok, seqOf, lstOf]
@[simp] theorem ok_ezpT {ys : List MV} : (Src.ezp (.tup xs) xs (.tup ys) ys).ok S = true := by simp [Src.ok, seqOf]
@[simp] theorem ok_zp2T {ys : List MV} : (Src.zp2 (.tup xs) xs (.tup ys) ys).ok S = true := by simp [Src.ok, seqOf]
@[simp] theorem ok_rng {lo : Int} {n : Nat} : (Src.rng lo n).ok S = true := rfl
@[simp] theorem ez_tup {ys : List MV} : ezOf [.tup xs, .tup ys] S = .ok (.ezp (.tup xs) xs (.tup ys) ys) S := rfl
@[simp] theorem zp_tup {ys : List MV} : zp2Of [.tup xs, .tup ys] S = .ok (.zp2 (.tup xs) xs (.tup ys) ys) S := rfl
@[simp] theorem tup_lst : tupM [.lst xs] S = .ok (.tup xs) S := rfl
@[simp] theorem tup_tup : tupM [.tup xs] S = .ok (.tup xs) S := rfl
@[simp] theorem add_int : addM (.int i) (.int j) S = .ok (.int (i + j)) S := rfl
@[simp] theorem sub_int : subM (.int i) (.int j) S = .ok (.int (i - j)) S := rfl
@[simp] theorem lt_int : ltM (.int i) (.int j) S = .ok (.bl (decide (i < j))) S := rfl
@[simp] theorem le_int : leM (.int i) (.int j) S = .ok (.bl (decide (i ≤ j))) S := rfl
@[simp] theorem gt_int : gtM (.int i) (.int j) S = .ok (.bl (decide (j < i))) S := rfl
@[simp] theorem ge_int : geM (.int i) (.int j) S = .ok (.bl (decide (j ≤ i))) S := rfl
end
end Mi
set_option Elab.async false
set_option linter.all false
set_option maxRecDepth 100000
set_option maxHeartbeats 1000000
namespace Mi
open PySem PySem.Spec PyProof.Rows L2
section
variable {S : Sto} {o o' : MO} {d : MV} {xs : List MV}
@[simp] theorem set_last : (S ++ [o]).set S.length o' = S ++ [o'] := by simp
@[simp] theorem app_last (h : xs.length < sizeLine) : appM (.ref S.length) d (S ++ [.lst xs]) = .ok .non (S ++ [.lst (xs ++ [d])]) := by
  unfold appM
  simp [h]
@[simp] theorem isLst_last : isLst (S ++ [.lst xs]) (.ref S.length) = true := by simp [isLst, lstOf]
@[simp] theorem seq_last : seqOf (S ++ [.lst xs]) (.ref S.length) = some xs := by simp [seqOf, lstOf]
@[simp] theorem tup_last : tupM [.ref S.length] (S ++ [.lst xs]) = .ok (.tup xs) (S ++ [.lst xs]) := by simp [tupM, seqOf, lstOf]
@[simp] theorem w_app {a b : ME} {ρ : Ev} : mApp a b ρ S = (a ρ S).bind fun od S1 => if isLst S1 od then (b ρ S1).bind fun d S2 => appM od d S2 else .stk := rfl
end
def runL {α β γ : Type} (step : β → α → β ⊕ γ) : List α → β → β ⊕ γ
  | [], s => .inl s
  | x :: xs, s => match step s x with
    | .inl s' => runL step xs s'
    | .inr r => .inr r
/-- ended: nothing follows -/
def Ended (r : RS) (r' : R MV) : Prop := toR r = r' ∧ ∀ k, r.nxt k = r
def Gen {β : Type} (J : List Nat) (En : β → Ev) (St : β → Sto) (Inv : β → Prop) (r : RS) : β ⊕ R MV → Prop
  | .inl s => ∃ ρ, r = .nx ρ (St s) ∧ SameE J 0 (En s) ρ ∧ Inv s
  | .inr r' => Ended r r'
@[simp] theorem gen_l {β : Type} {J : List Nat} {En : β → Ev} {St : β → Sto} {Inv : β → Prop} {ρ : Ev} {S : Sto} {s : β} : Gen J En St Inv (.nx ρ S) (.inl s) ↔ S = St s ∧ SameE J 0 (En s) ρ ∧ Inv s := by
  constructor
  · rintro ⟨ρ', e, h⟩; cases e; exact ⟨rfl, h⟩
  · rintro ⟨rfl, h⟩; exact ⟨_, rfl, h⟩
@[simp] theorem ended_rt {d : MV} {S : Sto} {r : R MV} : Ended (.rt d S) r ↔ .ok d S = r := ⟨fun h => h.1, fun h => ⟨h, fun _ => rfl⟩⟩
@[simp] theorem ended_exc {c : Str} {d : MV} {S : Sto} {ρ : Ev} {r : R MV} : Ended (.exc c d ρ S) r ↔ .exc c d S = r := ⟨fun h => h.1, fun h => ⟨h, fun _ => rfl⟩⟩
@[simp] theorem gen_r {β : Type} {J : List Nat} {En : β → Ev} {St : β → Sto} {Inv : β → Prop} {r : RS} {r' : R MV} : Gen J En St Inv r (.inr r') ↔ Ended r r' := Iff.rfl
theorem forGo_cons {ok : Sto → Bool} {g : Tg} {body : MS} {x : MV} {xs : List MV} {ρ : Ev} {S : Sto} (h : ok S = true) : forGo ok g body (x :: xs) ρ S = (turn g body x ρ S).nxt (forGo ok g body xs) := by
  rw [forGo, if_pos h]
  unfold turn
  cases g.f x ρ with
  | none => rfl
  | some ρ1 =>
    dsimp only
    cases body ρ1 S <;> rfl
/-- a loop that only goes on, what stands told by what is done -/
theorem forGo_pre {α : Type} {ok : Sto → Bool} {g : Tg} {body : MS} (J : List Nat) (enc : α → MV) (En : List α → Ev) (St : List α → Sto) (xs : List α) (hok : ∀ done rest, xs = done ++ rest → ok (St done) = true)
    (h : ∀ done x rest, xs = done ++ x :: rest → ∀ f, Gen J En St (fun _ => True) (turn g body (enc x) (fillF J f 0 (En done)) (St done)) (.inl (done ++ [x]))) :
    ∀ (rest done : List α), xs = done ++ rest → ∀ f, ∃ f', forGo ok g body (rest.map enc) (fillF J f 0 (En done)) (St done) = .nx (fillF J f' 0 (En xs)) (St xs)
  | [], done, e, f => by
    have e' : xs = done := by simpa using e
    subst e'
    exact ⟨f, by simp [forGo, hok xs [] (by simp)]⟩
  | x :: rest, done, e, f => by
    obtain ⟨ρ, e1, sm, _⟩ := h done x rest e f
    obtain ⟨f2, rfl⟩ := sm.fill
    rw [List.map_cons, forGo_cons (hok done _ e), e1]
    exact forGo_pre J enc En St xs hok h rest (done ++ [x]) (by simp [e]) f2
theorem for_pre' {α : Type} {ok : Sto → Bool} {g : Tg} {body : MS} {ρ0 : Ev} {S : Sto} {items : List MV} (J : List Nat) (enc : α → MV) (En : List α → Ev) (St : List α → Sto) (xs : List α)
    (hi : items = xs.map enc) (h0 : ρ0 = En []) (hS : S = St []) (hok : ∀ done rest, xs = done ++ rest → ok (St done) = true)
    (h : ∀ done x rest, xs = done ++ x :: rest → ∀ f, Gen J En St (fun _ => True) (turn g body (enc x) (fillF J f 0 (En done)) (St done)) (.inl (done ++ [x]))) :
    ∃ f, forGo ok g body items ρ0 S = .nx (fillF J f 0 (En xs)) (St xs) := by
  subst hi; subst h0; subst hS
  obtain ⟨f, e0⟩ := (SameE.refl' (J := J) 0 (En [])).fill
  have := forGo_pre (g := g) (body := body) J enc En St xs hok h xs [] rfl f
  rw [← e0] at this
  exact this
theorem for_pre {α : Type} {ok : Sto → Bool} {g : Tg} {body : MS} {ρ0 : Ev} {S : Sto} {k : Ev → Sto → RS} {res : R MV} {items : List MV} (J : List Nat) (enc : α → MV) (En : List α → Ev) (St : List α → Sto) (xs : List α)
    (hi : items = xs.map enc) (h0 : ρ0 = En []) (hS : S = St []) (hok : ∀ done rest, xs = done ++ rest → ok (St done) = true)
    (h : ∀ done x rest, xs = done ++ x :: rest → ∀ f, Gen J En St (fun _ => True) (turn g body (enc x) (fillF J f 0 (En done)) (St done)) (.inl (done ++ [x])))
    (h2 : ∀ f, toR (k (fillF J f 0 (En xs)) (St xs)) = res) : toR ((forGo ok g body items ρ0 S).nxt k) = res := by
  obtain ⟨f, e⟩ := for_pre' J enc En St xs hi h0 hS hok h
  rw [e]
  exact h2 f
end Mi
set_option Elab.async false
set_option linter.all false
set_option maxRecDepth 100000
set_option maxHeartbeats 1000000
namespace Mi
open PySem PySem.Spec PyProof.Rows L2
theorem cut_to {xs : List MV} {k : Nat} (h : k ≤ xs.length) : cutM xs none (some (k : Int)) = xs.take k := by
  unfold cutM
  rw [HT.sIx_nat, HT.sIx_none, Nat.min_eq_left h]
  simp
theorem cut_from {xs : List MV} {k : Nat} (h : k ≤ xs.length) : cutM xs (some (k : Int)) none = xs.drop k := by
  unfold cutM
  rw [HT.sIx_nat, HT.sIx_none, Nat.min_eq_left h]
  exact List.take_of_length_le (by rw [List.length_drop]; exact Nat.le_refl _)
theorem slc_to {xs : List MV} {k : Nat} {S : Sto} (h : k ≤ xs.length) : slcM (.tup xs) none (some (k : Int)) S = .ok (.tup (xs.take k)) S := by
  rw [← cut_to h]; rfl
theorem slc_from {xs : List MV} {k : Nat} {S : Sto} (h : k ≤ xs.length) : slcM (.tup xs) (some (k : Int)) none S = .ok (.tup (xs.drop k)) S := by
  rw [← cut_from h]; rfl
theorem slc_from1 {xs : List MV} {k : Nat} {S : Sto} (h : k + 1 ≤ xs.length) : slcM (.tup xs) (some ((k : Int) + 1)) none S = .ok (.tup (xs.drop (k + 1))) S := slc_from (k := k + 1) h
theorem add_tup {xs ys : List MV} {S : Sto} (h : xs.length + ys.length ≤ sizeLine) : addM (.tup xs) (.tup ys) S = .ok (.tup (xs ++ ys)) S := by simp only [addM]; rw [if_pos h]
theorem set_mid {xs : List MV} {k : Nat} {x : MV} (h : k < xs.length) : xs.take k ++ [x] ++ xs.drop (k + 1) = xs.set k x := by
  rw [List.set_eq_take_append_cons_drop, if_pos h]
  simp
theorem set_tup4 {xs : List MV} {k : Nat} {x : MV} (h : k < xs.length) (hl : xs.length ≤ 1000) :
    (∀ S, slcM (.tup xs) none (some (k : Int)) S = .ok (.tup (xs.take k)) S) ∧ (∀ S, addM (.tup (xs.take k)) (.tup [x]) S = .ok (.tup (xs.take k ++ [x])) S) ∧ (∀ S, slcM (.tup xs) (some ((k : Int) + 1)) none S = .ok (.tup (xs.drop (k + 1))) S) ∧
    ∀ S, addM (.tup (xs.take k ++ [x])) (.tup (xs.drop (k + 1))) S = .ok (.tup (xs.set k x)) S := by
  have hz := sizeLine_eq
  refine ⟨fun S => slc_to (by omega), fun S => add_tup (by simp; omega), fun S => slc_from1 (by omega), fun S => ?_⟩
  rw [add_tup (by simp; omega), set_mid h]
mutual
theorem frz_nr (b : Nat) (S : Sto) : ∀ (n : Nat) (x : MV), refsB b x = true → refsB 0 x = true → frz b S n x = some x
  | 0, x, h, _ => by simp [frz, h]
  | n + 1, .non, h, _ => rfl
  | n + 1, .bl _, h, _ => rfl
  | n + 1, .int _, h, _ => rfl
  | n + 1, .str _, h, _ => rfl
  | n + 1, .tup xs, h, h0 => by rw [frz, frz_nrs b S n xs (by simpa [refsB] using h) (by simpa [refsB] using h0)]; rfl
  | n + 1, .lst xs, h, h0 => by rw [frz, frz_nrs b S n xs (by simpa [refsB] using h) (by simpa [refsB] using h0)]; rfl
  | n + 1, .dct ks vs, h, h0 => by rw [frz, frz_nrs b S n vs (by simpa [refsB] using h) (by simpa [refsB] using h0)]; rfl
  | n + 1, .dcT ks vs, h, h0 => by rw [frz, if_pos h]; all_goals (intros; contradiction)
  | n + 1, .obj c fs vs, h, h0 => by rw [frz, frz_nrs b S n vs (by simpa [refsB] using h) (by simpa [refsB] using h0)]; rfl
  | n + 1, .ref k, h, h0 => by simp [refsB] at h0
  | n + 1, .kls xs, h, h0 => by rw [frz, if_pos h]; all_goals (intros; contradiction)
theorem frz_nrs (b : Nat) (S : Sto) : ∀ (n : Nat) (xs : List MV), refsBs b xs = true → refsBs 0 xs = true → xs.mapM (frz b S n) = some xs
  | n, [], _, _ => rfl
  | n, x :: xs, h, h0 => by
    rw [refsBs, Bool.and_eq_true] at h h0
    rw [List.mapM_cons, frz_nr b S n x h.1 h0.1, frz_nrs b S n xs h.2 h0.2]; rfl
end
mutual
theorem refs_up (b : Nat) : ∀ (x : MV), refsB 0 x = true → refsB b x = true
  | .non, _ => rfl
  | .bl _, _ => rfl
  | .int _, _ => rfl
  | .str _, _ => rfl
  | .tup xs, h => by rw [refsB] at h ⊢; exact refs_ups b xs h
  | .lst xs, h => by rw [refsB] at h ⊢; exact refs_ups b xs h
  | .dct _ xs, h => by rw [refsB] at h ⊢; exact refs_ups b xs h
  | .dcT ks xs, h => by
    rw [refsB, Bool.and_eq_true] at h ⊢; exact ⟨refs_ups b ks h.1, refs_ups b xs h.2⟩
  | .obj _ _ xs, h => by rw [refsB] at h ⊢; exact refs_ups b xs h
  | .ref n, h => by simp [refsB] at h
  | .kls xs, h => by rw [refsB] at h ⊢; exact refs_ups b xs h
theorem refs_ups (b : Nat) : ∀ (xs : List MV), refsBs 0 xs = true → refsBs b xs = true
  | [], _ => rfl
  | x :: xs, h => by
    rw [refsBs, Bool.and_eq_true] at h ⊢; exact ⟨refs_up b x h.1, refs_ups b xs h.2⟩
end
theorem frz_0 {b : Nat} {S : Sto} {n : Nat} {x : MV} (h : refsB 0 x = true) : frz b S n x = some x := frz_nr b S n x (refs_up b x h) h
theorem refs_map {α : Type} {b : Nat} {f : α → MV} {xs : List α} (h : ∀ x ∈ xs, refsB b (f x) = true) : refsBs b (xs.map f) = true := by
  induction xs with
  | nil => rfl
  | cons x xs ih => rw [List.map_cons, refsBs, h x List.mem_cons_self, ih fun y hy => h y (List.mem_cons_of_mem _ hy)]; rfl
/-- a frozen def that tells plain data -/
theorem frzF_0 {m : MF} {ds : List MV} {S e : Sto} {d : MV} (h : m ds S = .ok d (S ++ e)) (h1 : refsB 0 d = true) : frzF m ds S = .ok d S := frzF_ok h (frz_0 h1) (by simp)
theorem strOk_lit (x : String) : PyData.strOk (Str.ofString x) = true := by
  rw [Str.ofString_eq_toList]
  unfold PyData.strOk
  simp only [List.all_toArray, List.all_map, List.all_eq_true, Function.comp_apply, decide_eq_true_eq]
  intro c _
  have := c.valid
  have h : c.toNat.isValidChar := this
  rcases h with h | h
  · exact Nat.lt_trans h (by decide)
  · exact h.2
@[simp] theorem sh_lit (x : String) : sh (.str (Str.ofString x)) = true := strOk_lit x
end Mi
set_option Elab.async false
set_option linter.all false
set_option maxRecDepth 100000
set_option maxHeartbeats 1000000
namespace Mi
open PySem PySem.Spec PyProof.Rows L2
section
variable {xs : List MV} {S : Sto} {i j : Int} {b : Bool}
@[simp] theorem len_tup : lenM [.tup xs] S = .ok (.int (xs.length : Nat)) S := rfl
@[simp] theorem len_lst : lenM [.lst xs] S = .ok (.int (xs.length : Nat)) S := rfl
@[simp] theorem len_dct {ks : List Key} : lenM [.dct ks xs] S = .ok (.int (ks.length : Nat)) S := rfl
@[simp] theorem any_ty {α : Type} {p : α → Bool} {xs : List α} : anyM [.lst (xs.map fun x => .bl (p x))] S = .ok (.bl (xs.any p)) S := by
  have e := anyM_bl (xs := xs.map p) (S := S)
  rw [List.map_map] at e
  rw [show (xs.map fun x => MV.bl (p x)) = xs.map (MV.bl ∘ p) from rfl, e, List.any_map]; rfl
@[simp] theorem all_ty {α : Type} {p : α → Bool} {xs : List α} : allM [.lst (xs.map fun x => .bl (p x))] S = .ok (.bl (xs.all p)) S := by
  have e := allM_bl (xs := xs.map p) (S := S)
  rw [List.map_map] at e
  rw [show (xs.map fun x => MV.bl (p x)) = xs.map (MV.bl ∘ p) from rfl, e, List.all_map]; rfl
theorem allIn_ty : ∀ ns : List Int, allIn (ns.map MV.int) = some ns
  | [] => rfl
  | n :: ns => by simp [allIn, allIn_ty ns]
@[simp] theorem sum_ty {α : Type} {f : α → Int} {xs : List α} : sumM [.lst (xs.map fun x => .int (f x))] S = .ok (.int (xs.map f).sum) S := by
  have := allIn_ty (xs.map f)
  rw [List.map_map] at this
  simp only [sumM, lstOf]
  rw [show (xs.map fun x => MV.int (f x)) = xs.map (MV.int ∘ f) from rfl, this]
@[simp] theorem int_int : intM [.int i] S = .ok (.int i) S := rfl
@[simp] theorem int_bl : intM [.bl b] S = .ok (.int (if b then 1 else 0)) S := rfl
@[simp] theorem lstT_tup : lstM true [.tup xs] S = .ok (.lst xs) S := rfl
@[simp] theorem lstT_lst : lstM true [.lst xs] S = .ok (.lst xs) S := rfl
@[simp] theorem lstF_tup : lstM false [.tup xs] S = .ok (.ref S.length) (S ++ [.lst xs]) := rfl
@[simp] theorem lstF_lst : lstM false [.lst xs] S = .ok (.ref S.length) (S ++ [.lst xs]) := rfl
@[simp] theorem isi_int_int : isiM "int" [.int i] S = .ok (.bl true) S := rfl
@[simp] theorem isi_int_bl : isiM "int" [.bl b] S = .ok (.bl true) S := rfl
@[simp] theorem isi_int_non : isiM "int" [.non] S = .ok (.bl false) S := rfl
@[simp] theorem isi_int_str {x : Str} : isiM "int" [.str x] S = .ok (.bl false) S := rfl
@[simp] theorem isi_int_tup : isiM "int" [.tup xs] S = .ok (.bl false) S := rfl
@[simp] theorem isi_int_lst : isiM "int" [.lst xs] S = .ok (.bl false) S := rfl
@[simp] theorem isi_bl_int : isiM "bool" [.int i] S = .ok (.bl false) S := rfl
@[simp] theorem isi_bl_bl : isiM "bool" [.bl b] S = .ok (.bl true) S := rfl
@[simp] theorem isi_bl_str {x : Str} : isiM "bool" [.str x] S = .ok (.bl false) S := rfl
@[simp] theorem isi_bl_tup : isiM "bool" [.tup xs] S = .ok (.bl false) S := rfl
@[simp] theorem isi_bl_lst : isiM "bool" [.lst xs] S = .ok (.bl false) S := rfl
@[simp] theorem isi_str_str {x : Str} : isiM "str" [.str x] S = .ok (.bl true) S := rfl
@[simp] theorem isi_str_tup : isiM "str" [.tup xs] S = .ok (.bl false) S := rfl
@[simp] theorem isi_str_lst : isiM "str" [.lst xs] S = .ok (.bl false) S := rfl
@[simp] theorem isi_str_int : isiM "str" [.int i] S = .ok (.bl false) S := rfl
@[simp] theorem isi_tup_tup : isiM "tuple" [.tup xs] S = .ok (.bl true) S := rfl
@[simp] theorem isi_tup_lst : isiM "tuple" [.lst xs] S = .ok (.bl false) S := rfl
@[simp] theorem isi_tup_str {x : Str} : isiM "tuple" [.str x] S = .ok (.bl false) S := rfl
@[simp] theorem isi_tup_int : isiM "tuple" [.int i] S = .ok (.bl false) S := rfl
@[simp] theorem isi_lst_lst : isiM "list" [.lst xs] S = .ok (.bl true) S := rfl
@[simp] theorem isi_lst_tup : isiM "list" [.tup xs] S = .ok (.bl false) S := rfl
@[simp] theorem tru_bl : truW (.bl b) S = .ok b S := rfl
@[simp] theorem tru_tup : truW (.tup xs) S = .ok (!xs.isEmpty) S := rfl
@[simp] theorem tru_lst : truW (.lst xs) S = .ok (!xs.isEmpty) S := rfl
end
@[simp] theorem w_lc2 {fr : Bool} {vs vs1 : List Nat} {mi mi1 : Ev → Sto → R Src} {g g1 : Tg} {tt tt1 : MT} {te : ME} {ρ : Ev} {S : Sto} : mLc2 fr vs vs1 mi g tt mi1 g1 tt1 te ρ S = (mi ρ S).bind fun src S1 =>
  (lc2Go (fun S => src.ok S) g tt mi1 vs1 g1 tt1 te (wipeE ρ vs) src.items [] S1).bind (mkL fr) := rfl
end Mi
set_option Elab.async false
set_option linter.all false
set_option maxRecDepth 10000
set_option maxHeartbeats 400000
namespace Lw
open PySem PySem.Spec PyProof.Rows L2 Mi
structure Day where
  a : Option Int
  b : Option Int
  s : Bool
  deriving DecidableEq
structure Row where
  who : Int
  base : Int
  days : List Day
  deriving DecidableEq
def Day.half (d : Day) : Bool → Option Int
  | false => d.a
  | true => d.b
def pDay (d : Day) : MV := .tup [hv d.a, hv d.b, .bl d.s]
def pRow (r : Row) : MV := .tup [.int r.who, .int r.base, .tup (r.days.map pDay)]
def pSt (rs : List Row) : MV := .tup (rs.map pRow)
def lDay (d : Day) : MV := .lst [hv d.a, hv d.b, .bl d.s]
def lRow (r : Row) : MV := .dct [.inr "who", .inr "base", .inr "days"] [.int r.who, .int r.base, .lst (r.days.map lDay)]
def dayAt (r : Row) (d : Nat) : Day := r.days.getD d ⟨none, none, false⟩
def rowAt (rs : List Row) (k : Nat) : Row := rs.getD k ⟨0, 0, []⟩
/-- no other series has the half at the hour of the day -/
def takes (rs : List Row) (k d : Nat) (h : Option Int) (half : Bool) (i : Nat) (r : Row) : Bool :=
  !decide (i = k) && ((!half || decide (r.who = (rowAt rs k).who)) && decide ((dayAt r d).half half = h))
def free (rs : List Row) (k d : Nat) (h : Option Int) (half : Bool) : Bool := !rs.zipIdx.any fun x => takes rs k d h half x.2 x.1
/-- all rows have as many days -/
def Wide (D : Nat) (rs : List Row) : Prop := ∀ r ∈ rs, r.days.length = D
theorem day_at {D d : Nat} {r : Row} {f : Day → MV} (hl : r.days.length = D) (hd : d < D) : (r.days.map f)[d]? = some (f (dayAt r d)) := by
  rw [List.getElem?_map]
  unfold dayAt
  rw [List.getElem?_eq_getElem (by omega), List.getD_eq_getElem?_getD, List.getElem?_eq_getElem (by omega)]
  rfl
theorem day_get {D d : Nat} {r : Row} (hl : r.days.length = D) (hd : d < D) : r.days[d]? = some (dayAt r d) := by
  unfold dayAt
  rw [List.getElem?_eq_getElem (by omega), List.getD_eq_getElem?_getD, List.getElem?_eq_getElem (by omega)]
  rfl
theorem row_at {rs : List Row} {k : Nat} (hk : k < rs.length) : rs[k]? = some (rowAt rs k) := by
  unfold rowAt
  rw [List.getD_eq_getElem?_getD, List.getElem?_eq_getElem hk]; rfl
theorem Wide.at {D : Nat} {rs : List Row} (W : Wide D rs) {k : Nat} (hk : k < rs.length) : (rowAt rs k).days.length = D := W _ (List.mem_of_getElem? (row_at hk))
theorem Wide.set {D : Nat} {rs : List Row} (W : Wide D rs) {k : Nat} {r : Row} (h : r.days.length = D) : Wide D (rs.set k r) := fun x hx => by
  rcases List.mem_or_eq_of_mem_set hx with h1 | h1
  · exact W x h1
  · rw [h1]; exact h
@[simp] theorem row0 {r : Row} {S : Sto} : idxM (pRow r) (.int 0) S = .ok (.int r.who) S := rfl
@[simp] theorem row1 {r : Row} {S : Sto} : idxM (pRow r) (.int 1) S = .ok (.int r.base) S := rfl
@[simp] theorem row2 {r : Row} {S : Sto} : idxM (pRow r) (.int 2) S = .ok (.tup (r.days.map pDay)) S := rfl
@[simp] theorem day0 {d : Day} {S : Sto} : idxM (pDay d) (.int 0) S = .ok (hv d.a) S := rfl
@[simp] theorem day1 {d : Day} {S : Sto} : idxM (pDay d) (.int 1) S = .ok (hv d.b) S := rfl
@[simp] theorem day2 {d : Day} {S : Sto} : idxM (pDay d) (.int 2) S = .ok (.bl d.s) S := rfl
@[simp] theorem lrow0 {r : Row} {S : Sto} : idxM (lRow r) (.str "who") S = .ok (.int r.who) S := rfl
@[simp] theorem lrow1 {r : Row} {S : Sto} : idxM (lRow r) (.str "base") S = .ok (.int r.base) S := rfl
@[simp] theorem lrow2 {r : Row} {S : Sto} : idxM (lRow r) (.str "days") S = .ok (.lst (r.days.map lDay)) S := rfl
@[simp] theorem lday0 {d : Day} {S : Sto} : idxM (lDay d) (.int 0) S = .ok (hv d.a) S := rfl
@[simp] theorem lday1 {d : Day} {S : Sto} : idxM (lDay d) (.int 1) S = .ok (hv d.b) S := rfl
@[simp] theorem lday2 {d : Day} {S : Sto} : idxM (lDay d) (.int 2) S = .ok (.bl d.s) S := rfl
theorem line_k {n : Nat} (h : n ≤ 1000) : n ≤ sizeLine := by rw [sizeLine_eq]; omega
def gap (rs : List Row) (k : Nat) (h : Int) : Bool := !(rowAt rs k).days.zipIdx.any fun x => !decide (x.1.a = none) && (!free rs k x.2 (some h) false || !free rs k x.2 (some h) true)
abbrev Hrs := List (Option Int)
def hrs (r : Row) : Hrs := r.days.map fun d => d.b
def pHrs (h : Hrs) : MV := .tup (h.map hv)
def pRule (c s h t : Str) : MV := .obj "Rule" ["checking", "singles", "halves", "telling"] [.str c, .str s, .str h, .str t]
@[simp] theorem fld_c {c s h t : Str} {S : Sto} : fldM "Rule" "checking" (pRule c s h t) S = .ok (.str c) S := rfl
@[simp] theorem fld_s {c s h t : Str} {S : Sto} : fldM "Rule" "singles" (pRule c s h t) S = .ok (.str s) S := rfl
@[simp] theorem fld_h {c s h t : Str} {S : Sto} : fldM "Rule" "halves" (pRule c s h t) S = .ok (.str h) S := rfl
@[simp] theorem fld_t {c s h t : Str} {S : Sto} : fldM "Rule" "telling" (pRule c s h t) S = .ok (.str t) S := rfl
def rday (s : Str) (hours base : Int) (d : Day) (h : Int) : Day := match d.a with
  | none => d
  | some a => if d.s = true ∧ s = "keep" then d else if d.s = true ∧ s = "move" then ⟨some ((a + h - base) % hours), d.b, true⟩ else ⟨some h, d.b, false⟩
def rdays (s : Str) (hours : Int) (r : Row) (h : Int) : List Day := r.days.map fun d => rday s hours r.base d h
def pdays (r : Row) : List Day := r.days.map fun d => ⟨d.a, d.a, d.s⟩
def clash (rs : List Row) (k : Nat) (old new : List Day) (half : Bool) : Bool := (old.zip new).zipIdx.any fun x => !decide (x.1.1.half half = x.1.2.half half) && !free rs k x.2 (x.1.2.half half) half
abbrev OSt := Option (List Row)
def roomSet (c s : Str) (hours : Int) (rs : List Row) (k : Nat) (h : Int) : OSt :=
  if c ≠ "none" ∧ clash rs k (rowAt rs k).days (rdays s hours (rowAt rs k) h) false = true then none else some (rs.set k ⟨(rowAt rs k).who, h, rdays s hours (rowAt rs k) h⟩)
def personSet (c : Str) (rs : List Row) (k : Nat) : OSt :=
  if c = "both" ∧ clash rs k (rowAt rs k).days (pdays (rowAt rs k)) true = true then none else some (rs.set k ⟨(rowAt rs k).who, (rowAt rs k).base, pdays (rowAt rs k)⟩)
def backDay (now old : Day) : Day := if now.a = none then now else ⟨old.a, now.b, old.s⟩
def backRow (r o : Row) : Row := ⟨r.who, o.base, List.zipWith backDay r.days o.days⟩
def takenBack (rs : List Row) (k : Nat) (o : Row) : List Row := rs.set k (backRow (rowAt rs k) o)
def oneSet (c : Str) (rs : List Row) (k d : Nat) (h : Int) : OSt :=
  if (dayAt (rowAt rs k) d).a = none ∨ (c ≠ "none" ∧ free rs k d (some h) false = false) ∨ (c = "both" ∧ free rs k d (some h) true = false) then none
  else some (rs.set k ⟨(rowAt rs k).who, (rowAt rs k).base, (rowAt rs k).days.set d ⟨some h, some h, true⟩⟩)
def offSet (rs : List Row) (k d : Nat) : OSt :=
  if (dayAt (rowAt rs k) d).a = none then none else some (rs.set k ⟨(rowAt rs k).who, (rowAt rs k).base, (rowAt rs k).days.set d ⟨none, none, false⟩⟩)
inductive Step where
  | find (h : Int) | room (h : Int) | person | one (d : Nat) (h : Int) | off (d : Nat) | tell
  deriving DecidableEq
def pStep : Step → MV
  | .find h => .tup [.str "find", .int h]
  | .room h => .tup [.str "room", .int h]
  | .person => .tup [.str "person"]
  | .one d h => .tup [.str "one", .int (d : Nat), .int h]
  | .off d => .tup [.str "off", .int (d : Nat)]
  | .tell => .tup [.str "tell"]
def Step.word : Step → Str
  | .find _ => "find"
  | .room _ => "room"
  | .person => "person"
  | .one _ _ => "one"
  | .off _ => "off"
  | .tell => "tell"
@[simp] theorem step_w {s : Step} {S : Sto} : idxM (pStep s) (.int 0) S = .ok (.str s.word) S := by cases s <;> rfl
/-- what a hand remembers -/
structure Mem where
  found : Option Bool
  seen : Option Hrs
  old : Option Row
  deriving DecidableEq
def oB : Option Bool → MV
  | none => .non
  | some b => .bl b
def oH : Option Hrs → MV
  | none => .non
  | some h => pHrs h
def oR : Option Row → MV
  | none => .non
  | some r => pRow r
def olR : Option Row → MV
  | none => .non
  | some r => lRow r
def oSt : OSt → MV
  | none => .non
  | some rs => pSt rs
def pMem (m : Mem) : MV := .tup [oB m.found, oH m.seen, oR m.old]
inductive Told where
  | b (b : Bool) | hrs (h : Hrs) | done | refused
  deriving DecidableEq
def pTold : Told → MV
  | .b b => .bl b
  | .hrs h => pHrs h
  | .done => .str "done"
  | .refused => .str "refused"
/-- a rule's parts -/
structure Par where
  c : Str
  s : Str
  h : Str
  t : Str
  deriving DecidableEq
def pPar (p : Par) : MV := pRule p.c p.s p.h p.t
def lPar (p : Par) : MV := .lst [.str p.c, .str p.s, .str p.h, .str p.t]
structure POk (p : Par) : Prop where
  c : p.c = "none" ∨ p.c = "room" ∨ p.c = "both"
  s : p.s = "keep" ∨ p.s = "move" ∨ p.s = "reset"
  h : p.h = "left" ∨ p.h = "undone"
  t : p.t = "now" ∨ p.t = "seen"
def fin (o : OSt) (m m' : Mem) (rs : List Row) : Told × Mem × List Row := match o with
  | none => (.refused, m, rs)
  | some rs' => (.done, m', rs')
/-- a step: what it tells, what is remembered, the standing -/
def stepT (p : Par) (H : Int) (rs : List Row) (k : Nat) (m : Mem) : Step → Told × Mem × List Row
  | .find h => (.b (gap rs k h), ⟨some (gap rs k h), some (hrs (rowAt rs k)), m.old⟩, rs)
  | .tell => (.hrs (if p.t = "seen" then m.seen.getD (hrs (rowAt rs k)) else hrs (rowAt rs k)), ⟨m.found, some (if p.t = "seen" then m.seen.getD (hrs (rowAt rs k)) else hrs (rowAt rs k)), m.old⟩, rs)
  | .room h => fin (if m.found = some false then none else roomSet p.c p.s H rs k h) m ⟨m.found, m.seen, some (rowAt rs k)⟩ rs
  | .person => match personSet p.c rs k with
    | some rs' => (.done, m, rs')
    | none => if p.h = "undone" then (match m.old with
      | some o => (.refused, ⟨m.found, m.seen, none⟩, takenBack rs k o)
      | none => (.refused, m, rs)) else (.refused, m, rs)
  | .one d h => fin (oneSet p.c rs k d h) m m rs
  | .off d => fin (offSet rs k d) m m rs
structure World where
  D : Nat
  H : Nat
  ser : List (Int × Int)
  hands : List (Nat × List Step)
  deriving DecidableEq
def pHand (h : Nat × List Step) : MV := .tup [.int (h.1 : Nat), .tup (h.2.map pStep)]
def pSer (s : Int × Int) : MV := .tup [.int s.1, .int s.2]
def pWorld (W : World) : MV := .tup [.int (W.D : Nat), .int (W.H : Nat), .tup (W.ser.map pSer), .tup (W.hands.map pHand)]
/-- a state: the next steps, what hands remember, the standing -/
structure WS where
  places : List Nat
  mems : List Mem
  rows : List Row
  deriving DecidableEq
def pNat (n : Nat) : MV := .int (n : Nat)
def pWS (s : WS) : MV := .tup [.tup (s.places.map pNat), .tup (s.mems.map pMem), pSt s.rows]
def placeAt (s : WS) (n : Nat) : Nat := s.places.getD n 0
def handAt (W : World) (n : Nat) : Nat × List Step := W.hands.getD n (0, [])
def stepAt (W : World) (s : WS) (n : Nat) : Step := (handAt W n).2.getD (placeAt s n) .tell
def memAt (s : WS) (n : Nat) : Mem := s.mems.getD n ⟨none, none, none⟩
def hasT (W : World) (s : WS) (n : Nat) : Bool := decide (placeAt s n < (handAt W n).2.length)
def nextT (p : Par) (W : World) (s : WS) (n : Nat) : Told × Mem × List Row := stepT p W.H s.rows (handAt W n).1 (memAt s n) (stepAt W s n)
def afterT (p : Par) (W : World) (s : WS) (n : Nat) : WS := ⟨s.places.set n (placeAt s n + 1), s.mems.set n (nextT p W s n).2.1, (nextT p W s n).2.2⟩
/-- a step of a world -/
def SOk (W : World) : Step → Prop
  | .find h => 0 ≤ h ∧ h < W.H
  | .room h => 0 ≤ h ∧ h < W.H
  | .person => True
  | .one d h => d < W.D ∧ 0 ≤ h ∧ h < W.H
  | .off d => d < W.D
  | .tell => True
structure WOk (W : World) : Prop where
  D1 : 1 ≤ W.D
  D2 : W.D ≤ 2
  H1 : 2 ≤ W.H
  H2 : W.H ≤ 3
  n1 : 1 ≤ W.ser.length
  n2 : W.ser.length ≤ 3
  ser : ∀ x ∈ W.ser, 0 ≤ x.1 ∧ x.1 ≤ 2 ∧ 0 ≤ x.2 ∧ x.2 < W.H
  nd : (W.ser.map (·.2)).Nodup
  h1 : 1 ≤ W.hands.length
  h2 : W.hands.length ≤ 3
  hand : ∀ h ∈ W.hands, h.1 < W.ser.length ∧ 1 ≤ h.2.length ∧ h.2.length ≤ 4 ∧ ∀ s ∈ h.2, SOk W s
  sum : (W.hands.map fun h => h.2.length).sum ≤ 8
/-- a state of a world -/
structure StOk (W : World) (s : WS) : Prop where
  pl : s.places.length = W.hands.length
  ml : s.mems.length = W.hands.length
  rl : s.rows.length = W.ser.length
  wide : Wide W.D s.rows
  olds : ∀ m ∈ s.mems, ∀ o, m.old = some o → o.days.length = W.D
  place : ∀ n, n < W.hands.length → placeAt s n ≤ (handAt W n).2.length
section
variable {b : Nat}
@[simp] theorem rf_hv {h : Option Int} : refsB b (hv h) = true := by cases h <;> rfl
@[simp] theorem rf_day {d : Day} : refsB b (pDay d) = true := by simp [pDay, refsB, refsBs]
@[simp] theorem rf_lday {d : Day} : refsB b (lDay d) = true := by simp [lDay, refsB, refsBs]
@[simp] theorem rf_row {r : Row} : refsB b (pRow r) = true := by
  have := refs_map (b := b) (f := pDay) (xs := r.days) fun _ _ => rf_day
  simp [pRow, refsB, refsBs, this]
@[simp] theorem rf_lrow {r : Row} : refsB b (lRow r) = true := by
  have := refs_map (b := b) (f := lDay) (xs := r.days) fun _ _ => rf_lday
  simp [lRow, refsB, refsBs, this]
@[simp] theorem rf_st {rs : List Row} : refsB b (pSt rs) = true := by
  have := refs_map (b := b) (f := pRow) (xs := rs) fun _ _ => rf_row
  simp [pSt, refsB, this]
@[simp] theorem rf_hrs {h : Hrs} : refsB b (pHrs h) = true := by
  have := refs_map (b := b) (f := hv) (xs := h) fun _ _ => rf_hv
  simp [pHrs, refsB, this]
@[simp] theorem rf_par {p : Par} : refsB b (pPar p) = true := by simp [pPar, pRule, refsB, refsBs]
@[simp] theorem rf_lpar {p : Par} : refsB b (lPar p) = true := by simp [lPar, refsB, refsBs]
@[simp] theorem rf_oB {o : Option Bool} : refsB b (oB o) = true := by cases o <;> rfl
@[simp] theorem rf_oH {o : Option Hrs} : refsB b (oH o) = true := by cases o <;> simp [oH, refsB]
@[simp] theorem rf_oR {o : Option Row} : refsB b (oR o) = true := by cases o <;> simp [oR, refsB]
@[simp] theorem rf_olR {o : Option Row} : refsB b (olR o) = true := by cases o <;> simp [olR, refsB]
@[simp] theorem rf_oSt {o : OSt} : refsB b (oSt o) = true := by cases o <;> simp [oSt, refsB]
@[simp] theorem rf_mem {m : Mem} : refsB b (pMem m) = true := by simp [pMem, refsB, refsBs]
@[simp] theorem rf_told {t : Told} : refsB b (pTold t) = true := by cases t <;> simp [pTold, refsB]
@[simp] theorem rf_step {s : Step} : refsB b (pStep s) = true := by cases s <;> simp [pStep, refsB, refsBs]
@[simp] theorem rf_hand {h : Nat × List Step} : refsB b (pHand h) = true := by
  have := refs_map (b := b) (f := pStep) (xs := h.2) fun _ _ => rf_step
  simp [pHand, refsB, refsBs, this]
@[simp] theorem rf_world {W : World} : refsB b (pWorld W) = true := by
  have h1 := refs_map (b := b) (f := pHand) (xs := W.hands) fun _ _ => rf_hand
  have h2 := refs_map (b := b) (f := pSer) (xs := W.ser) fun _ _ => by simp [pSer, refsB, refsBs]
  simp [pWorld, refsB, refsBs, h1, h2]
@[simp] theorem rf_ws {s : WS} : refsB b (pWS s) = true := by
  have h1 := refs_map (b := b) (f := pMem) (xs := s.mems) fun _ _ => rf_mem
  have h2 := refs_map (b := b) (f := pNat) (xs := s.places) fun _ _ => rfl
  simp [pWS, refsB, refsBs, h1, h2]
end
end Lw
set_option Elab.async false
set_option linter.all false
set_option maxRecDepth 10000
set_option maxHeartbeats 400000
namespace Lw
open PySem PySem.Spec PyProof.Rows L2 Mi
theorem ix_st {rs : List Row} {k : Nat} {S : Sto} (h : k < rs.length) : idxM (pSt rs) (.int (k : Int)) S = .ok (pRow (rowAt rs k)) S := ix_tup (by rw [List.getElem?_map, row_at h]; rfl)
theorem ix_pdays {r : Row} {d D : Nat} {S : Sto} (hl : r.days.length = D) (h : d < D) : idxM (.tup (r.days.map pDay)) (.int (d : Int)) S = .ok (pDay (dayAt r d)) S := ix_tup (day_at hl h)
@[simp] theorem enm_st {rs : List Row} {S : Sto} : enmOf [pSt rs] S = .ok (.enm (pSt rs) (rs.map pRow)) S := rfl
@[simp] theorem ok_enmS {rs : List Row} {S : Sto} : (Src.enm (pSt rs) (rs.map pRow)).ok S = true := by simp [pSt]
end Lw
set_option Elab.async false
set_option linter.all false
set_option maxRecDepth 10000
set_option maxHeartbeats 400000
namespace Lw
open PySem PySem.Spec PyProof.Rows L2 Mi
@[simp] theorem slc_st {rs : List Row} {lo hi : Option Int} {S : Sto} : slcM (pSt rs) lo hi S = slcM (.tup (rs.map pRow)) lo hi S := rfl
theorem room_day_eq {p : Par} {hours h : Int} {r : Row} {d : Day} {S : Sto} (h0 : 0 < hours) (h1 : hours < 1073741824) : m_room_day [pPar p, .int hours, pRow r, pDay d, .int h] S = .ok (pDay (rday p.s hours r.base d h)) S := by
  obtain ⟨a, b, x⟩ := d
  cases a with
  | none => rfl
  | some a =>
    cases x with
    | false => rfl
    | true =>
      simp [m_room_day, mFn, m_room_day_s0, m_room_day_s1, m_room_day_s2, m_room_day_s3, m_room_day_s4, m_room_day_s5, m_room_day_s6, m_room_day_s7, pDay, pPar, hv, isM, isB, modM, h0, h1, rday]
      split
      · simp_all
      · split <;> simp_all
theorem with_series_eq {rs : List Row} {k : Nat} {base : Int} {ds : List Day} {S : Sto} (hk : k < rs.length) (hl : rs.length ≤ 1000) :
    m_with_series [pSt rs, .int (k : Nat), .int base, .tup (ds.map pDay)] S = .ok (pSt (rs.set k ⟨(rowAt rs k).who, base, ds⟩)) S := by
  obtain ⟨e1, e2, e3, e4⟩ := set_tup4 (xs := rs.map pRow) (k := k) (x := pRow ⟨(rowAt rs k).who, base, ds⟩) (by simpa using hk) (by simpa using hl)
  simp only [pRow] at e2 e4
  simp [m_with_series, mFn, m_with_series_s0, ix_st hk, e1, e2, e3, e4]
  simp [pSt, List.map_set, pRow]
theorem clash_eq {rs : List Row} {k : Nat} {old new : List Day} {half : Bool} : ((old.zip new).zipIdx.any fun x => !decide (x.1.1.half half = x.1.2.half half) && !free rs k x.2 (x.1.2.half half) half) = clash rs k old new half := rfl
end Lw
set_option Elab.async false
set_option linter.all false
set_option maxRecDepth 10000
set_option maxHeartbeats 400000
namespace Lw
open PySem PySem.Spec PyProof.Rows L2 Mi
theorem taken_back_eq {rs : List Row} {k D : Nat} {o : Row} {S : Sto} (W : Wide D rs) (hk : k < rs.length) (hl : rs.length ≤ 1000) (hD : D ≤ 1000) (ho : o.days.length = D) :
    m_taken_back [pSt rs, .int (k : Nat), pRow o] S = .ok (pSt (takenBack rs k o)) S := by
  refine frzF_0 (e := [.lst ((List.zipWith backDay (rowAt rs k).days o.days).map pDay)]) ?_ (by simp)
  have hz := sizeLine_eq
  simp [mFn, m_taken_back_s0, m_taken_back_s1, ix_st hk]
  refine for_pre [4, 5] (fun x : Day × Day => .tup [pDay x.1, pDay x.2]) (fun _ => [some (pSt rs), some (.int (k : Nat)), some (pRow o), some (.ref S.length), none, none]) (fun done => S ++ [.lst ((done.map fun x => backDay x.1 x.2).map pDay)]) ((rowAt rs k).days.zip o.days) rfl rfl rfl (by simp) ?_ ?_
  · intro done x rest hx f
    have hn : done.length < sizeLine := by
      have := congrArg List.length hx
      simp [W.at hk, ho] at this
      omega
    simp [m_taken_back_s2, hn, backDay]
    split <;> simp_all [pDay]
  · intro f
    rw [show ((List.map (fun x : Day × Day => backDay x.1 x.2) ((rowAt rs k).days.zip o.days))) = List.zipWith backDay (rowAt rs k).days o.days by rw [List.zip, List.map_zipWith]]
    have w := with_series_eq (base := o.base) (ds := List.zipWith backDay (rowAt rs k).days o.days) (S := S ++ [.lst ((List.zipWith backDay (rowAt rs k).days o.days).map pDay)]) hk hl
    simp at w
    simp [m_taken_back_s3, w, takenBack, backRow]
@[simp] theorem mem0 {m : Mem} {S : Sto} : idxM (pMem m) (.int 0) S = .ok (oB m.found) S := rfl
@[simp] theorem mem1 {m : Mem} {S : Sto} : idxM (pMem m) (.int 1) S = .ok (oH m.seen) S := rfl
@[simp] theorem mem2 {m : Mem} {S : Sto} : idxM (pMem m) (.int 2) S = .ok (oR m.old) S := rfl
@[simp] theorem isn_hrs {h : Hrs} {S : Sto} : isnM (pHrs h) .non S = .ok (.bl true) S := rfl
@[simp] theorem is_st {rs : List Row} {S : Sto} : isM (pSt rs) .non S = .ok (.bl false) S := rfl
@[simp] theorem isn_st {rs : List Row} {S : Sto} : isnM (pSt rs) .non S = .ok (.bl true) S := rfl
@[simp] theorem isn_row {r : Row} {S : Sto} : isnM (pRow r) .non S = .ok (.bl true) S := rfl
@[simp] theorem is_nn {S : Sto} : isM .non .non S = .ok (.bl true) S := rfl
@[simp] theorem isn_nn {S : Sto} : isnM .non .non S = .ok (.bl false) S := rfl
@[simp] theorem is_false {o : Option Bool} {S : Sto} : isM (oB o) (.bl false) S = .ok (.bl (decide (o = some false))) S := by
  cases o with
  | none => rfl
  | some b => cases b <;> rfl
end Lw
set_option Elab.async false
set_option linter.all false
set_option maxRecDepth 10000
set_option maxHeartbeats 400000
namespace Lw
open PySem PySem.Spec PyProof.Rows L2 Mi
@[simp] theorem stp_find {h : Int} {S : Sto} : idxM (pStep (.find h)) (.int 1) S = .ok (.int h) S := rfl
@[simp] theorem stp_room {h : Int} {S : Sto} : idxM (pStep (.room h)) (.int 1) S = .ok (.int h) S := rfl
@[simp] theorem stp_one1 {d : Nat} {h : Int} {S : Sto} : idxM (pStep (.one d h)) (.int 1) S = .ok (.int (d : Nat)) S := rfl
@[simp] theorem stp_one2 {d : Nat} {h : Int} {S : Sto} : idxM (pStep (.one d h)) (.int 2) S = .ok (.int h) S := rfl
@[simp] theorem stp_off {d : Nat} {S : Sto} : idxM (pStep (.off d)) (.int 1) S = .ok (.int (d : Nat)) S := rfl
@[simp] theorem wld0 {W : World} {S : Sto} : idxM (pWorld W) (.int 0) S = .ok (.int (W.D : Nat)) S := rfl
@[simp] theorem wld1 {W : World} {S : Sto} : idxM (pWorld W) (.int 1) S = .ok (.int (W.H : Nat)) S := rfl
@[simp] theorem wld2 {W : World} {S : Sto} : idxM (pWorld W) (.int 2) S = .ok (.tup (W.ser.map pSer)) S := rfl
@[simp] theorem wld3 {W : World} {S : Sto} : idxM (pWorld W) (.int 3) S = .ok (.tup (W.hands.map pHand)) S := rfl
@[simp] theorem list_enm {xs : List MV} {S : Sto} (h : xs.length ≤ sizeLine) : lstE [.tup xs] S = .ok (.lst (enmI 0 xs)) S := by simp [lstE, seqOf, h]
theorem sh_hv {h : Option Int} : sh (hv h) = true := by cases h <;> rfl
theorem shs_map {α : Type} {f : α → MV} (hf : ∀ x, sh (f x) = true) : ∀ xs : List α, shs (xs.map f) = true
  | [] => rfl
  | x :: xs => by rw [List.map_cons, shs, hf, shs_map hf xs]; rfl
theorem dpts_map {α : Type} {f : α → MV} {n : Nat} : ∀ xs : List α, (∀ x ∈ xs, dpt (f x) ≤ n) → dpts (xs.map f) ≤ n
  | [], _ => by simp [dpts]
  | x :: xs, hf => by
    rw [List.map_cons, dpts]
    exact Nat.max_le.mpr ⟨hf x List.mem_cons_self, dpts_map xs fun y hy => hf y (List.mem_cons_of_mem _ hy)⟩
theorem sh_hrs {h : Hrs} : sh (pHrs h) = true := by rw [pHrs, sh]; exact shs_map (fun _ => sh_hv) h
theorem dpt_hv {h : Option Int} : dpt (hv h) = 0 := by cases h <;> rfl
theorem dpt_hrs {h : Hrs} : dpt (pHrs h) ≤ 1 := by
  rw [pHrs, dpt]
  have := dpts_map (f := hv) (n := 0) h fun _ _ => by rw [dpt_hv]; exact Nat.le_refl _
  omega
theorem sh_told {t : Told} : sh (pTold t) = true := by
  cases t with
  | b b => rfl
  | hrs h => exact sh_hrs
  | done => exact sh_lit _
  | refused => exact sh_lit _
theorem dpt_told {t : Told} : dpt (pTold t) ≤ 1 := by
  cases t with
  | hrs h => exact dpt_hrs
  | _ => exact Nat.zero_le _
theorem deref_told {S : Sto} {t : Told} : deref S (pTold t) = pTold t := by cases t <;> rfl
@[simp] theorem told_done {t : Told} {S : Sto} : eqM (pTold t) (.str "done") S = .ok (.bl (decide (t = .done))) S := by
  show eqM (pTold t) (pTold .done) S = _
  rw [eqM_sh (deref_told (t := t)) (deref_told (t := .done)) sh_told (sh_told (t := .done)) (Nat.le_trans dpt_told (by omega)) (by decide)]
  cases t with
  | b b => simp [pTold, cn]
  | hrs h => simp [pTold, cn, pHrs]
  | done => simp [pTold, cn]
  | refused => simp [pTold, cn]
def pStr (s : Str) : MV := .str s
@[simp] theorem app_lastS {S : Sto} {xs : List Str} {x : Str} (h : xs.length < sizeLine) : appM (.ref S.length) (.str x) (S ++ [.lst (xs.map pStr)]) = .ok .non (S ++ [.lst ((xs ++ [x]).map pStr)]) := by
  rw [app_last (by simpa using h)]; simp [pStr]
end Lw
set_option Elab.async false
set_option linter.all false
set_option maxRecDepth 10000
set_option maxHeartbeats 400000
namespace Lw
open PySem PySem.Spec PyProof.Rows L2 Mi
theorem hand_at {W : World} {n : Nat} (h : n < W.hands.length) : W.hands[n]? = some (handAt W n) := by
  unfold handAt
  rw [List.getElem?_eq_getElem h, List.getD_eq_getElem?_getD, List.getElem?_eq_getElem h]; rfl
theorem mem_at {s : WS} {n : Nat} (h : n < s.mems.length) : s.mems[n]? = some (memAt s n) := by
  unfold memAt
  rw [List.getElem?_eq_getElem h, List.getD_eq_getElem?_getD, List.getElem?_eq_getElem h]; rfl
theorem fin_len {o : OSt} {m m' : Mem} {rs : List Row} (h : ∀ rs', o = some rs' → rs'.length = rs.length) : (fin o m m' rs).2.2.length = rs.length := by
  cases o with
  | none => rfl
  | some rs' => exact h rs' rfl
theorem roomSet_len {c s : Str} {H h : Int} {rs rs' : List Row} {k : Nat} (e : roomSet c s H rs k h = some rs') : rs'.length = rs.length := by
  unfold roomSet at e; split at e
  · cases e
  · cases e; simp
theorem personSet_len {c : Str} {rs rs' : List Row} {k : Nat} (e : personSet c rs k = some rs') : rs'.length = rs.length := by
  unfold personSet at e; split at e
  · cases e
  · cases e; simp
theorem oneSet_len {c : Str} {h : Int} {rs rs' : List Row} {k d : Nat} (e : oneSet c rs k d h = some rs') : rs'.length = rs.length := by
  unfold oneSet at e; split at e
  · cases e
  · cases e; simp
theorem offSet_len {rs rs' : List Row} {k d : Nat} (e : offSet rs k d = some rs') : rs'.length = rs.length := by
  unfold offSet at e; split at e
  · cases e
  · cases e; simp
theorem stepT_len {p : Par} {H : Int} {rs : List Row} {k : Nat} {m : Mem} {s : Step} : (stepT p H rs k m s).2.2.length = rs.length := by
  cases s with
  | find h => rfl
  | tell => rfl
  | room h =>
    refine fin_len fun rs' e => ?_
    split at e
    · cases e
    · exact roomSet_len e
  | person =>
    rw [stepT]
    cases e : personSet p.c rs k with
    | some rs' => exact personSet_len e
    | none =>
      dsimp only
      split
      · cases m.old with
        | none => rfl
        | some o => simp [takenBack]
      · rfl
  | one d h => exact fin_len fun rs' e => oneSet_len e
  | off d => exact fin_len fun rs' e => offSet_len e
theorem fin_wide {D : Nat} {o : OSt} {m m' : Mem} {rs : List Row} (W : Wide D rs) (h : ∀ rs', o = some rs' → Wide D rs') : Wide D (fin o m m' rs).2.2 := by
  cases o with
  | none => exact W
  | some rs' => exact h rs' rfl
theorem stepT_wide {p : Par} {H : Int} {D : Nat} {rs : List Row} {k : Nat} {m : Mem} {s : Step} (W : Wide D rs) (hk : k < rs.length) (ho : ∀ o, m.old = some o → o.days.length = D) : Wide D (stepT p H rs k m s).2.2 := by
  have hd := W.at hk
  cases s with
  | find h => exact W
  | tell => exact W
  | room h =>
    refine fin_wide W fun rs' e => ?_
    split at e
    · cases e
    · unfold roomSet at e; split at e
      · cases e
      · cases e; exact W.set (by simp [rdays, hd])
  | person =>
    rw [stepT]
    cases e : personSet p.c rs k with
    | some rs' =>
      unfold personSet at e; split at e
      · cases e
      · cases e; exact W.set (by simp [pdays, hd])
    | none =>
      dsimp only
      split
      · cases eo : m.old with
        | none => exact W
        | some o => exact W.set (by simp [backRow, hd, ho o eo])
      · exact W
  | one d h =>
    refine fin_wide W fun rs' e => ?_
    unfold oneSet at e; split at e
    · cases e
    · cases e; exact W.set (by simp [hd])
  | off d =>
    refine fin_wide W fun rs' e => ?_
    unfold offSet at e; split at e
    · cases e
    · cases e; exact W.set (by simp [hd])
theorem fin_old {D : Nat} {o : OSt} {m m' : Mem} {rs : List Row} (h : ∀ r, m.old = some r → r.days.length = D) (h' : ∀ r, m'.old = some r → r.days.length = D) : ∀ r, (fin o m m' rs).2.1.old = some r → r.days.length = D := by
  cases o with
  | none => exact h
  | some rs' => exact h'
theorem stepT_old {p : Par} {H : Int} {D : Nat} {rs : List Row} {k : Nat} {m : Mem} {s : Step} (W : Wide D rs) (hk : k < rs.length) (ho : ∀ o, m.old = some o → o.days.length = D) : ∀ o, (stepT p H rs k m s).2.1.old = some o → o.days.length = D := by
  cases s with
  | find h => exact ho
  | tell => exact ho
  | room h => exact fin_old ho fun r e => by cases e; exact W.at hk
  | person =>
    rw [stepT]
    cases e : personSet p.c rs k with
    | some rs' => exact ho
    | none =>
      dsimp only
      split
      · cases eo : m.old with
        | none => dsimp only; intro o e; rw [eo] at e; cases e
        | some o => dsimp only; intro o e; cases e
      · exact ho
  | one d h => exact fin_old ho ho
  | off d => exact fin_old ho ho
/-- the state behind a step is one -/
theorem StOk.after {p : Par} {W : World} (w : WOk W) {s : WS} (h : StOk W s) {n : Nat} (hn : n < W.hands.length) (hs : hasT W s n = true) : StOk W (afterT p W s n) := by
  have hk : (handAt W n).1 < s.rows.length := by rw [h.rl]; exact (w.hand _ (List.mem_of_getElem? (hand_at hn))).1
  have ho : ∀ o, (memAt s n).old = some o → o.days.length = W.D := fun o e => h.olds (memAt s n) (List.mem_of_getElem? (mem_at (by rw [h.ml]; exact hn))) o e
  refine ⟨by simp [afterT, h.pl], by simp [afterT, h.ml], ?_, ?_, ?_, ?_⟩
  · show (stepT p W.H s.rows (handAt W n).1 (memAt s n) (stepAt W s n)).2.2.length = _
    rw [stepT_len, h.rl]
  · exact stepT_wide h.wide hk ho
  · intro m hm o eo
    rcases List.mem_or_eq_of_mem_set hm with hm | hm
    · exact h.olds m hm o eo
    · subst hm; exact stepT_old h.wide hk ho o eo
  · intro i hi
    show (s.places.set n (placeAt s n + 1)).getD i 0 ≤ _
    simp only [List.getD_eq_getElem?_getD]
    by_cases e : i = n
    · subst e
      rw [List.getElem?_set_self (by rw [h.pl]; exact hi)]
      have := of_decide_eq_true hs
      show placeAt s i + 1 ≤ _
      omega
    · rw [List.getElem?_set_ne (Ne.symm e)]
      have := h.place i hi
      unfold placeAt at this
      rwa [List.getD_eq_getElem?_getD] at this
theorem StOk.days {W : World} (w : WOk W) {s : WS} (h : StOk W s) : (s.rows.flatMap fun r => r.days).length ≤ 1000 := by
  have : ∀ rs : List Row, Wide W.D rs → (rs.flatMap fun r => r.days).length = rs.length * W.D := by
    intro rs hw
    induction rs with
    | nil => simp
    | cons r rs ih =>
      rw [List.flatMap_cons, List.length_append, hw r List.mem_cons_self, ih fun x hx => hw x (List.mem_cons_of_mem _ hx), List.length_cons, Nat.succ_mul]
      omega
  rw [this _ h.wide, h.rl]
  have h1 := w.n2
  have h2 := w.D2
  have : W.ser.length * W.D ≤ 3 * 2 := Nat.mul_le_mul h1 h2
  omega
end Lw
set_option Elab.async false
set_option linter.all false
set_option maxRecDepth 10000
set_option maxHeartbeats 400000
namespace Lw
open PySem PySem.Spec PyProof.Rows L2 Mi
theorem mul_one {x : MV} {k : Nat} {S : Sto} (h : 1 ≤ k) (h' : k ≤ 1000) : mulM (.tup [x]) (.int (k : Nat)) S = .ok (.tup (List.replicate k x)) S := by
  have e : ∀ k : Nat, (List.replicate k [x]).flatten = List.replicate k x := fun k => by
    induction k with
    | zero => rfl
    | succ n ih => rw [List.replicate_succ, List.flatten_cons, ih, List.replicate_succ]; rfl
  unfold mulM repM
  simp only [Int.toNat_natCast, e]
  rw [if_pos ⟨rfl, by omega, by omega, by simp⟩]
@[simp] theorem w_dc {fr : Bool} {vs : List Nat} {mi : Ev → Sto → R Src} {g : Tg} {tt : MT} {tk tv : ME} {ρ : Ev} {S : Sto} : mDc fr vs mi g tt tk tv ρ S = (mi ρ S).bind fun src S1 =>
  if src.items.length ≤ sizeLine then (dcGo (fun S => src.ok S) g tt tk tv (wipeE ρ vs) src.items [] [] S1).bind fun p S2 => mkD fr p.1 p.2 S2 else .stk := rfl
@[simp] theorem is_whole_eq {i a b : Int} {S : Sto} : m_is_whole [.int i, .int a, .int b] S = .ok (.bl (decide (a ≤ i ∧ i ≤ b))) S := by
  simp [m_is_whole, mFn, m_is_whole_s0]
  split <;> simp_all
  omega
theorem fresh_eq {w h : Int} {D : Nat} {S : Sto} (h1 : 1 ≤ D) (h2 : D ≤ 1000) : m_fresh [.int w, .int h, .int (D : Nat)] S = .ok (pRow ⟨w, h, List.replicate D ⟨some h, some h, false⟩⟩) S := by
  simp [m_fresh, mFn, m_fresh_s0, mul_one h1 h2]
  simp [pRow, pDay, hv]
end Lw
set_option Elab.async false
set_option linter.all false
set_option maxRecDepth 10000
set_option maxHeartbeats 400000
namespace Lw
open PySem PySem.Spec PyProof.Rows L2 Mi
def pTF (x : Told × List Str) : MV := .tup [pTold x.1, .lst (x.2.map pStr)]
@[simp] theorem rf_tf {b : Nat} {x : Told × List Str} : refsB b (pTF x) = true := by
  have := refs_map (b := b) (f := pStr) (xs := x.2) fun _ _ => rfl
  simp [pTF, refsB, refsBs, this]
end Lw
set_option Elab.async false
set_option linter.all false
set_option maxRecDepth 10000
set_option maxHeartbeats 400000
namespace Lw
open PySem PySem.Spec PyProof.Rows L2 Mi
def hb (half : Bool) : MV := .int (if half then 1 else 0)
@[simp] theorem rng_nat {n : Nat} {S : Sto} (h : n ≤ 1000) : rngOf [.int (n : Nat)] S = .ok (.rng 0 n) S := by
  have e : rngOf [.int (n : Nat)] S = if Nat.blt n 4611686018427387904 then .ok (.rng 0 (n : Int).toNat) S else .stk := rfl
  rw [e, if_pos (by simp [Nat.blt]; omega), Int.toNat_natCast]
@[simp] theorem it_rng {n : Nat} : (Src.rng 0 n).items = (List.range n).map pNat := by
  simp [Src.items, pNat]
@[simp] theorem ix_half {d : Day} {half : Bool} {S : Sto} : idxM (lDay d) (hb half) S = .ok (hv (d.half half)) S := by cases half <;> rfl
end Lw
set_option Elab.async false
set_option linter.all false
set_option maxRecDepth 10000
set_option maxHeartbeats 400000
namespace Lw
open PySem PySem.Spec PyProof.Rows L2 Mi
@[simp] theorem lpar0 {p : Par} {S : Sto} : idxM (lPar p) (.int 0) S = .ok (.str p.c) S := rfl
@[simp] theorem lpar1 {p : Par} {S : Sto} : idxM (lPar p) (.int 1) S = .ok (.str p.s) S := rfl
@[simp] theorem lpar2 {p : Par} {S : Sto} : idxM (lPar p) (.int 2) S = .ok (.str p.h) S := rfl
@[simp] theorem lpar3 {p : Par} {S : Sto} : idxM (lPar p) (.int 3) S = .ok (.str p.t) S := rfl
end Lw
set_option Elab.async false
set_option linter.all false
set_option maxRecDepth 10000
set_option maxHeartbeats 400000
namespace Lw
open PySem PySem.Spec PyProof.Rows L2 Mi
section
variable {S : Sto} {w b : Int} {ds A B : List Day} {x y : Day} {es : List MV} {n : Nat}
theorem setl {T : Sto} {m : Nat} {xs : List MV} {i : Nat} {v : MV} (h : T[m]? = some (.lst xs)) (hi : i < xs.length) : setM (.ref m) (.int (i : Int)) v T = some (T.set m (.lst (xs.set i v))) := by
  have e : ixN xs.length (i : Int) = some i := by unfold ixN; simp; omega
  unfold setM
  simp only [h, e]
end
@[simp] theorem w_sub {e o i : ME} {ρ : Ev} {S : Sto} : mSub e o i ρ S = (e ρ S).thn ρ fun d S1 => (o ρ S1).thn ρ fun od S2 => (i ρ S2).thn ρ fun id S3 => match setM od id d S3 with
  | some S4 => .nx ρ S4
  | none => .stk := rfl
end Lw
set_option Elab.async false
set_option linter.all false
set_option maxRecDepth 10000
set_option maxHeartbeats 400000
namespace Lw
open PySem PySem.Spec PyProof.Rows L2 Mi
@[simp] theorem isn_int {a : Int} {S : Sto} : isnM (.int a) .non S = .ok (.bl true) S := rfl
@[simp] theorem is_int {a : Int} {S : Sto} : isM (.int a) .non S = .ok (.bl false) S := rfl
end Lw
set_option Elab.async false
set_option linter.all false
set_option maxRecDepth 10000
set_option maxHeartbeats 400000
set_option Elab.async false
set_option linter.all false
set_option maxRecDepth 10000
set_option maxHeartbeats 400000
namespace Lw
open PySem PySem.Spec PyProof.Rows L2 Mi
@[simp] theorem isn_olR {o : Option Row} {S : Sto} : isnM (olR o) .non S = .ok (.bl (!decide (o = none))) S := by cases o <;> rfl
@[simp] theorem is_olR {o : Option Row} {S : Sto} : isM (olR o) .non S = .ok (.bl (decide (o = none))) S := by cases o <;> rfl
@[simp] theorem is_oH {o : Option Hrs} {S : Sto} : isM (oH o) .non S = .ok (.bl (decide (o = none))) S := by cases o <;> rfl
@[simp] theorem isn_lrow {r : Row} {S : Sto} : isnM (lRow r) .non S = .ok (.bl true) S := rfl
@[simp] theorem stp_last1 {d : Nat} {h : Int} {S : Sto} : idxM (pStep (.one d h)) (.int (-1)) S = .ok (.int h) S := rfl
@[simp] theorem stp_last2 {d : Nat} {S : Sto} : idxM (pStep (.off d)) (.int (-1)) S = .ok (.int (d : Nat)) S := rfl
abbrev handK : List Key := [.inr "next", .inr "found", .inr "seen", .inr "old"]
def lHand (n : Nat) (m : Mem) : MO := .dct handK [.int (n : Nat), oB m.found, oH m.seen, olR m.old]
def lv (r : Nat) (hs : List Nat) : MV := .dct [.inr "rows", .inr "hands"] [.ref r, .lst (hs.map .ref)]
@[simp] theorem lv_rows {r : Nat} {hs : List Nat} {S : Sto} : idxM (lv r hs) (.str "rows") S = .ok (.ref r) S := rfl
@[simp] theorem lv_hands {r : Nat} {hs : List Nat} {S : Sto} : idxM (lv r hs) (.str "hands") S = .ok (.lst (hs.map .ref)) S := rfl
/-- the cells of a law's state -/
structure LSt (S : Sto) (r : Nat) (hs : List Nat) (s : WS) : Prop where
  rows : S[r]? = some (.lst (s.rows.map lRow))
  len : hs.length = s.mems.length
  hand : ∀ (n h : Nat), hs[n]? = some h → S[h]? = some (lHand (placeAt s n) (memAt s n))
  ne : ∀ (n h : Nat), hs[n]? = some h → r ≠ h
  inj : hs.Nodup
theorem fin_keep {o : OSt} {m m' : Mem} {rs : List Row} (h : m'.found = m.found ∧ m'.seen = m.seen) : (fin o m m' rs).2.1.found = m.found ∧ (fin o m m' rs).2.1.seen = m.seen := by
  cases o with
  | none => exact ⟨rfl, rfl⟩
  | some x => exact h
theorem stepT_keep {p : Par} {H : Int} {rs : List Row} {k : Nat} {m : Mem} {s : Step} (hw : s.word ≠ "find" ∧ s.word ≠ "tell") : (stepT p H rs k m s).2.1.found = m.found ∧ (stepT p H rs k m s).2.1.seen = m.seen := by
  cases s with
  | find x => exact absurd rfl hw.1
  | tell => exact absurd rfl hw.2
  | room x => exact fin_keep ⟨rfl, rfl⟩
  | one d x => exact fin_keep ⟨rfl, rfl⟩
  | off d => exact fin_keep ⟨rfl, rfl⟩
  | person =>
    rw [stepT]
    cases personSet p.c rs k with
    | some x => exact ⟨rfl, rfl⟩
    | none =>
      dsimp only
      split
      · cases m.old with
        | none => exact ⟨rfl, rfl⟩
        | some o => exact ⟨rfl, rfl⟩
      · exact ⟨rfl, rfl⟩
end Lw
set_option Elab.async false
set_option linter.all false
set_option maxRecDepth 10000
set_option maxHeartbeats 400000
namespace Lw
open PySem PySem.Spec PyProof.Rows L2 Mi
def hsN (b n : Nat) : List Nat := (List.range n).map fun i => b + 1 + i
def cells (n : Nat) (s : WS) : Sto := .lst (s.rows.map lRow) :: (List.range n).map fun i => lHand (placeAt s i) (memAt s i)
theorem hsN_get {b n i : Nat} (h : i < n) : (hsN b n)[i]? = some (b + 1 + i) := by
  unfold hsN; rw [List.getElem?_map, List.getElem?_range h]; rfl
theorem LSt.of {S e : Sto} {n : Nat} {s : WS} (h : s.mems.length = n) : LSt (S ++ (cells n s ++ e)) S.length (hsN S.length n) s := by
  refine ⟨?_, by simp [hsN, h], ?_, ?_, ?_⟩
  · rw [List.getElem?_append_right (Nat.le_refl _)]; simp [cells]
  · intro i x hx
    by_cases hi : i < n
    · rw [hsN_get hi] at hx
      cases hx
      rw [List.getElem?_append_right (by omega)]
      have : S.length + 1 + i - S.length = i + 1 := by omega
      rw [this, cells, List.cons_append, List.getElem?_cons_succ, List.getElem?_append_left (by simpa using hi), List.getElem?_map, List.getElem?_range hi]; rfl
    · rw [List.getElem?_eq_none (by simp [hsN]; omega)] at hx; cases hx
  · intro i x hx
    unfold hsN at hx
    rw [List.getElem?_map] at hx
    cases e : (List.range n)[i]? with
    | none => rw [e] at hx; cases hx
    | some j => rw [e] at hx; cases hx; show S.length ≠ S.length + 1 + j; omega
  · unfold hsN
    exact List.Pairwise.map _ (fun a b hab hc => hab (by omega)) List.nodup_range
theorem LSt.app {S e : Sto} {r : Nat} {hs : List Nat} {s : WS} (L : LSt S r hs s) : LSt (S ++ e) r hs s := by
  have up : ∀ {n : Nat} {o : MO}, S[n]? = some o → (S ++ e)[n]? = some o := fun {n o} h => by rw [List.getElem?_append_left (List.getElem?_eq_some_iff.mp h).1]; exact h
  exact ⟨up L.rows, L.len, fun n h hn => up (L.hand n h hn), L.ne, L.inj⟩
end Lw
set_option Elab.async false
set_option linter.all false
set_option maxRecDepth 10000
set_option maxHeartbeats 400000
set_option Elab.async false
set_option linter.all false
set_option maxRecDepth 10000
set_option maxHeartbeats 400000
set_option linter.all false
set_option maxRecDepth 100000
set_option maxHeartbeats 4000000
namespace Lw
open PySem PySem.Spec PyProof.Rows L2 Mi
structure Dr where
  ns : List Int
  i : Nat
  b : Int
  s : Int
def dr (d : Dr) : MO := .lst [.lst (d.ns.map MV.int), .int d.i, .int d.b, .int d.s]
def drS (d : Dr) : Dr := if d.b = 0 then (match d.ns[d.i]? with
  | some c => if 10 ^ 18 ≤ c then ⟨d.ns, d.i + 1, c, d.s⟩ else ⟨d.ns, d.i + 1, d.b, (d.s * 48271 + c * 69621 + 11) % 2147483647⟩
  | none => ⟨d.ns, d.i, d.b, (d.s * 48271 + 7) % 2147483647⟩) else d
def drK (d : Dr) (n : Int) : Int := if 0 < (drS d).b then (drS d).b % n else (drS d).s * 16807 % 2147483629 % n
def drN (d : Dr) (n : Int) : Dr := if 0 < (drS d).b then ⟨(drS d).ns, (drS d).i, (drS d).b / n, (drS d).s⟩ else drS d
theorem m38 (d : Dr) (T : Sto) (n : Int) : ∃ y, m_law_draw_s0 [some (.ref 0), some (.int n), none, none] (dr d :: T) = .nx [some (.ref 0), some (.int n), none, y] (dr (drS d) :: T) := by
  by_cases hb : d.b = 0
  · by_cases hl : d.i < d.ns.length
    · have hc : d.ns[d.i]? = some d.ns[d.i] := List.getElem?_eq_getElem hl
      by_cases h18 : (10 : Int) ^ 18 ≤ d.ns[d.i]
      · refine ⟨some (.int d.ns[d.i]), ?_⟩
        have h18' : (1000000000000000000 : Int) ≤ d.ns[d.i] := by simpa using h18
        simp [m_law_draw_s0, m_law_draw_s1, m_law_draw_s2, m_law_draw_s3, m_law_draw_s4, m_law_draw_s5, m_law_draw_s6, m_law_draw_s7, mSeq, mIfS, mTest, mOp, mVar, mC, mCallF, mCons, mNil, mSub, mAsg, tgName, oS, toB, idxM, seqOf, lstOf, atI, ixN, eqM, eqB, scalM, seqM, cmpI, lenM, intM, addM, mulM, modM, powM, setM, dr, drS, hb, hl, hc, h18']
      · refine ⟨some (.int d.ns[d.i]), ?_⟩
        have h18' : ¬ (1000000000000000000 : Int) ≤ d.ns[d.i] := by simpa using h18
        simp [m_law_draw_s0, m_law_draw_s1, m_law_draw_s2, m_law_draw_s3, m_law_draw_s4, m_law_draw_s5, m_law_draw_s6, m_law_draw_s7, mSeq, mIfS, mTest, mOp, mVar, mC, mCallF, mCons, mNil, mSub, mAsg, tgName, oS, toB, idxM, seqOf, lstOf, atI, ixN, eqM, eqB, scalM, seqM, cmpI, lenM, intM, addM, mulM, modM, powM, setM, dr, drS, hb, hl, hc, h18']
    · have hc : d.ns[d.i]? = none := List.getElem?_eq_none (by omega)
      refine ⟨none, ?_⟩
      simp [m_law_draw_s0, m_law_draw_s1, m_law_draw_s2, m_law_draw_s3, m_law_draw_s4, m_law_draw_s5, m_law_draw_s6, m_law_draw_s7, mSeq, mIfS, mTest, mOp, mVar, mC, mCallF, mCons, mNil, mSub, mAsg, tgName, oS, toB, idxM, seqOf, lstOf, atI, ixN, eqM, eqB, scalM, seqM, cmpI, lenM, intM, addM, mulM, modM, powM, setM, dr, drS, hb, hl, hc]
  · refine ⟨none, ?_⟩
    simp [m_law_draw_s0, mNext, mIfS, mTest, mOp, mVar, mC, toB, idxM, seqOf, lstOf, atI, ixN, eqM, eqB, scalM, seqM, dr, drS, hb]
theorem draw_eq (d : Dr) (T : Sto) (n : Int) (h0 : 0 < n) (h1 : n < 1073741824) : m_law_draw [.ref 0, .int n] (dr d :: T) = .ok (.int (drK d n)) (dr (drN d n) :: T) := by
  obtain ⟨y, e⟩ := m38 d T n
  have e0 : ev0 4 [.ref 0, .int n] = [some (.ref 0), some (.int n), none, none] := rfl
  unfold m_law_draw mFn
  rw [e0]
  simp only [mSeq, e]
  by_cases hb : 0 < (drS d).b
  · simp [m_law_draw_s8, m_law_draw_s9, m_law_draw_s10, m_law_draw_s11, mNext, mSeq, mRet, mIfS, mTest, mOp, mVar, mC, mCallF, mCons, mNil, mSub, mAsg, tgName, oS, toB, toR, idxM, seqOf, lstOf, atI, ixN, cmpI, intM, modM, fdivM, setM, dr, drK, drN, hb, h0, h1]
  · simp [m_law_draw_s8, m_law_draw_s9, m_law_draw_s10, m_law_draw_s11, m_law_draw_s12, mNext, mSeq, mRet, mIfS, mTest, mOp, mVar, mC, mCallF, mCons, mNil, mSub, mAsg, tgName, oS, toB, toR, idxM, seqOf, lstOf, atI, ixN, cmpI, intM, mulM, modM, fdivM, setM, dr, drK, drN, hb, h0, h1]
theorem drK_lt (d : Dr) (n : Int) (h0 : 0 < n) : 0 ≤ drK d n ∧ drK d n < n := by
  unfold drK
  split
  · exact ⟨Int.emod_nonneg _ (by omega), Int.emod_lt_of_pos _ h0⟩
  · exact ⟨Int.emod_nonneg _ (by omega), Int.emod_lt_of_pos _ h0⟩
end Lw
set_option Elab.async false
set_option linter.all false
set_option maxRecDepth 10000
set_option maxHeartbeats 400000
namespace Lw
open PySem PySem.Spec PyProof.Rows L2 Mi
theorem draw {d : Dr} {T : Sto} {n : Nat} (h0 : 0 < n) (h1 : n ≤ 1000) : ∃ (k : Nat) (d' : Dr), k < n ∧ m_law_draw [.ref 0, .int (n : Nat)] (dr d :: T) = .ok (.int (k : Nat)) (dr d' :: T) := by
  have e := draw_eq d T (n : Int) (by omega) (by omega)
  obtain ⟨a, b⟩ := drK_lt d (n : Int) (by omega)
  refine ⟨(drK d n).toNat, drN d n, by omega, ?_⟩
  rw [e, Int.toNat_of_nonneg a]
theorem pick {xs : List MV} {k : Nat} {S : Sto} (h : k < xs.length) : ∃ x ∈ xs, idxM (.lst xs) (.int (k : Int)) S = .ok x S := ⟨xs[k], List.getElem_mem h, ix_lst (List.getElem?_eq_getElem h)⟩
def lits (ys : List String) : List MV := ys.map fun y : String => MV.str (Str.ofString y)
theorem in_strs {x : Str} {ys : List String} {S : Sto} (hx : sh (.str x) = true) : inM (.str x) (.tup (lits ys)) S = .ok (.bl (ys.any fun y : String => decide (x = Str.ofString y))) S := by
  have s1 : shs (lits ys) = true := shs_map (fun y => sh_lit y) ys
  have d1 : dpts (lits ys) ≤ 0 := dpts_map ys fun _ _ => Nat.le_refl _
  unfold inM
  rw [inB_sh (c := .tup (lits ys)) (ys := lits ys) (.inl rfl) hx s1 (by simp [dpt]) (by omega)]
  have : ∀ ys : List String, decide (cn (.str x) ∈ cns (lits ys)) = ys.any fun y : String => decide (x = Str.ofString y) := fun ys => by
    induction ys with
    | nil => rfl
    | cons y ys ih =>
      rw [lits, List.map_cons, ← lits, cns, List.any_cons, ← ih]
      simp [cn]
      congr
  simp only [this]
theorem fset_last {S : Sto} {c f : Str} {fs : List Str} {ds : List MV} {x : MV} (h : fs.length < 900) : fsetM c f (.ref S.length) x (S ++ [.obj c fs ds]) = some (S ++ [.obj c (fput fs ds f x).1 (fput fs ds f x).2]) := by
  unfold fsetM
  simp [h]
@[simp] theorem w_fset {c f : Str} {e o : ME} {ρ : Ev} {S : Sto} : mFset c f e o ρ S = (e ρ S).thn ρ fun d S1 => (o ρ S1).thn ρ fun od S2 => match fsetM c f od d S2 with
  | some S3 => .nx ρ S3
  | none => .stk := rfl
@[simp] theorem w_ninM {a b : MV} {S : Sto} {k : Bool} (h : inM a b S = .ok (.bl k) S) : ninM a b S = .ok (.bl (!k)) S := by
  unfold inM at h
  unfold ninM
  cases e : inB S a b with
  | none => simp [e] at h
  | some k' => rw [e] at h; cases h; rfl
theorem law_values_eq {S : Sto} : m_law_values [] S = .ok (.lst [.lst [.str "none", .str "room", .str "both"], .lst [.str "keep", .str "move", .str "reset"], .lst [.str "left", .str "undone"], .lst [.str "now", .str "seen"]]) S := by
  simp [m_law_values, mFn, m_law_values_s0]
theorem law_parts_eq {d : Dr} {T : Sto} : ∃ p d', POk p ∧ m_law_parts [.ref 0] (dr d :: T) = .ok (lPar p) (dr d' :: T) := by
  obtain ⟨k1, d1, h1, e1⟩ := draw (d := d) (T := T) (n := 3) (by decide) (by decide)
  obtain ⟨k2, d2, h2, e2⟩ := draw (d := d1) (T := T) (n := 3) (by decide) (by decide)
  obtain ⟨k3, d3, h3, e3⟩ := draw (d := d2) (T := T) (n := 2) (by decide) (by decide)
  obtain ⟨k4, d4, h4, e4⟩ := draw (d := d3) (T := T) (n := 2) (by decide) (by decide)
  obtain ⟨x1, m1, f1⟩ := pick (xs := [.str "none", .str "room", .str "both"]) (S := dr d1 :: T) h1
  obtain ⟨x2, m2, f2⟩ := pick (xs := [.str "keep", .str "move", .str "reset"]) (S := dr d2 :: T) h2
  obtain ⟨x3, m3, f3⟩ := pick (xs := [.str "left", .str "undone"]) (S := dr d3 :: T) h3
  obtain ⟨x4, m4, f4⟩ := pick (xs := [.str "now", .str "seen"]) (S := dr d4 :: T) h4
  have g1 : ∃ c : Str, x1 = .str c ∧ (c = "none" ∨ c = "room" ∨ c = "both") := by simp at m1; rcases m1 with h | h | h <;> exact ⟨_, h, by simp⟩
  have g2 : ∃ c : Str, x2 = .str c ∧ (c = "keep" ∨ c = "move" ∨ c = "reset") := by simp at m2; rcases m2 with h | h | h <;> exact ⟨_, h, by simp⟩
  have g3 : ∃ c : Str, x3 = .str c ∧ (c = "left" ∨ c = "undone") := by simp at m3; rcases m3 with h | h <;> exact ⟨_, h, by simp⟩
  have g4 : ∃ c : Str, x4 = .str c ∧ (c = "now" ∨ c = "seen") := by simp at m4; rcases m4 with h | h <;> exact ⟨_, h, by simp⟩
  obtain ⟨c1, rfl, q1⟩ := g1
  obtain ⟨c2, rfl, q2⟩ := g2
  obtain ⟨c3, rfl, q3⟩ := g3
  obtain ⟨c4, rfl, q4⟩ := g4
  refine ⟨⟨c1, c2, c3, c4⟩, d4, ⟨q1, q2, q3, q4⟩, ?_⟩
  have z4 : 4 ≤ sizeLine := by rw [sizeLine_eq]; omega
  simp at e1 e2 e3 e4 f1 f2 f3 f4
  simp [m_law_parts, mFn, m_law_parts_s0, law_values_eq, z4, lcGo, tgName, e1, e2, e3, e4, f1, f2, f3, f4, lPar]
end Lw
set_option Elab.async false
set_option linter.all false
set_option maxRecDepth 10000
set_option maxHeartbeats 400000
set_option Elab.async false
set_option linter.all false
set_option maxRecDepth 10000
set_option maxHeartbeats 400000
set_option Elab.async false
set_option linter.all false
set_option maxRecDepth 10000
set_option maxHeartbeats 400000
namespace Lw
open PySem PySem.Spec Mi
def SeenOk (D : Nat) (s : WS) : Prop := ∀ m ∈ s.mems, ∀ h, m.seen = some h → h.length = D
theorem nextT_seen {p : Par} {W : World} {s : WS} {n : Nat} (ok : StOk W s) (sk : SeenOk W.D s) (hk : (handAt W n).1 < s.rows.length) (hn : n < s.mems.length) :
    (∀ h, (nextT p W s n).2.1.seen = some h → h.length = W.D) ∧ ∀ h, (nextT p W s n).1 = .hrs h → h.length = W.D := by
  have hl : (hrs (rowAt s.rows (handAt W n).1)).length = W.D := by simp [hrs, ok.wide.at hk]
  have hm : ∀ h, (memAt s n).seen = some h → h.length = W.D := sk _ (List.mem_of_getElem? (mem_at hn))
  unfold nextT
  cases es : stepAt W s n with
  | find x => exact ⟨fun h e => by cases e; exact hl, fun h e => by cases e⟩
  | tell =>
    have : (if p.t = "seen" then (memAt s n).seen.getD (hrs (rowAt s.rows (handAt W n).1)) else hrs (rowAt s.rows (handAt W n).1)).length = W.D := by
      split
      · cases e : (memAt s n).seen with
        | none => exact hl
        | some h => exact hm h e
      · exact hl
    exact ⟨fun h e => by cases e; exact this, fun h e => by cases e; exact this⟩
  | _ =>
    have hw : (stepAt W s n).word ≠ "find" ∧ (stepAt W s n).word ≠ "tell" := by rw [es]; simp [Step.word]
    have kp := (stepT_keep (p := p) (H := W.H) (rs := s.rows) (k := (handAt W n).1) (m := memAt s n) hw).2
    rw [es] at kp
    refine ⟨fun h e => hm h (by rw [← kp, e]), fun h e => ?_⟩
    exfalso
    revert e
    first
      | (rw [stepT]; cases (if (memAt s n).found = some false then none else roomSet p.c p.s W.H s.rows (handAt W n).1 _) <;> simp [fin]; done)
      | (rw [stepT]
         cases personSet p.c s.rows (handAt W n).1 with
         | some x => simp
         | none =>
           dsimp only
           split
           · cases (memAt s n).old <;> simp
           · simp)
      | (rw [stepT]; cases oneSet p.c s.rows (handAt W n).1 _ _ <;> simp [fin]; done)
      | (rw [stepT]; cases offSet s.rows (handAt W n).1 _ <;> simp [fin]; done)
theorem SeenOk.after {p : Par} {W : World} (w : WOk W) {s : WS} {n : Nat} (ok : StOk W s) (sk : SeenOk W.D s) (hn : n < W.hands.length) : SeenOk W.D (afterT p W s n) := by
  have hk : (handAt W n).1 < s.rows.length := by rw [ok.rl]; exact (w.hand _ (List.mem_of_getElem? (hand_at hn))).1
  intro m hm h e
  rcases List.mem_or_eq_of_mem_set hm with hm | hm
  · exact sk m hm h e
  · subst hm; exact (nextT_seen ok sk hk (by rw [ok.ml]; exact hn)).1 h e
end Lw
set_option Elab.async false
set_option linter.all false
set_option maxRecDepth 10000
set_option maxHeartbeats 400000
set_option Elab.async false
set_option linter.all false
set_option maxRecDepth 10000
set_option maxHeartbeats 400000
namespace Mi
open PySem PySem.Spec PyProof.Rows L2
section
variable {ρ : Ev} {S : Sto} {mk mv me mo mi : ME} {c : MT} {b : MS} {fr : Bool} {ks ds : List MV}
@[simp] theorem w_dct1T : mDct1T fr mk mv ρ S = (mk ρ S).bind fun kd S1 => (mv ρ S1).bind fun d S2 => if keyT kd then mkDT fr [kd] [d] S2 else .stk := rfl
@[simp] theorem w_mkDTf : mkDT false ks ds S = .ok (.ref S.length) (S ++ [.dcT ks ds]) := rfl
@[simp] theorem w_subT : mSubT me mo mi ρ S = (me ρ S).thn ρ fun d S1 => (mo ρ S1).thn ρ fun od S2 => (mi ρ S2).thn ρ fun id S3 => match setTM od id d S3 with
  | some S4 => .nx ρ S4
  | none => .stk := rfl
end
/-- an encoding whose values are told apart as keys -/
structure KeyEnc {α : Type} (enc : α → MV) : Prop where
  inj : ∀ x y, canon (enc x) = canon (enc y) → x = y
  ok : ∀ x, keyT (enc x) = true
section
variable {α : Type} [DecidableEq α] {enc : α → MV} {S : Sto} {n : Nat} {ks : List α} {vs : List MV} {x : α}
theorem canons_enc : canons (ks.map enc) = ks.map fun x => canon (enc x) := by rw [canons_map, List.map_map]; rfl
theorem mem_enc (E : KeyEnc enc) : canon (enc x) ∈ canons (ks.map enc) ↔ x ∈ ks := by
  rw [canons_enc, List.mem_map]
  constructor
  · rintro ⟨y, hy, e⟩; rw [← E.inj _ _ e]; exact hy
  · exact fun h => ⟨x, h, rfl⟩
theorem dcT_ref (h : S[n]? = some (.dcT (ks.map enc) vs)) : dcTOf S (.ref n) = some (ks.map enc, vs) := by
  show (match S[n]? with
    | some (.dcT ks vs) => some (ks, vs)
    | _ => none) = _
  rw [h]
theorem look_is [Decidable (x ∈ ks)] (E : KeyEnc enc) (l : ks.length = vs.length) : (dlook (canons (ks.map enc)) vs (canon (enc x))).isSome = decide (x ∈ ks) := by
  have := dlook_mem (k := canon (enc x)) (canons (ks.map enc)) vs (by rw [canons_len, List.length_map]; exact l)
  rw [mem_enc E] at this
  by_cases h : x ∈ ks
  · simp [h, this.mpr h]
  · have h2 : ¬ (dlook (canons (ks.map enc)) vs (canon (enc x))).isSome = true := fun z => h (this.mp z)
    simp only [h, decide_false]
    simpa using h2
theorem look_at (E : KeyEnc enc) : ∀ (ks : List α) (vs : List MV) (i : Nat) (d : MV), ks.Nodup → ks[i]? = some x → vs[i]? = some d → dlook (canons (ks.map enc)) vs (canon (enc x)) = some d
  | [], _, _, _, _, e1, _ => by simp at e1
  | _ :: _, [], _, _, _, _, e2 => by simp at e2
  | k :: ks, v :: vs, 0, d, nd, h, h' => by
    simp at h h'; subst h; subst h'
    rw [List.map_cons, canons, dlook, if_pos rfl]
  | k :: ks, v :: vs, i + 1, d, nd, h, h' => by
    rw [List.nodup_cons] at nd
    have hx : x ∈ ks := List.mem_of_getElem? (by simpa using h)
    rw [List.map_cons, canons, dlook, if_neg (fun e => nd.1 (by rw [E.inj _ _ e]; exact hx))]
    exact look_at E ks vs i d nd.2 (by simpa using h) (by simpa using h')
end
end Mi
set_option Elab.async false
set_option linter.all false
set_option maxRecDepth 10000
set_option maxHeartbeats 400000
namespace Lw
open PySem PySem.Spec PyProof.Rows L2 Mi
def tru (n : Nat) : List MV := List.replicate n (.bl true)
def kInts (ns : List Nat) : List Key := ns.map fun (n : Nat) => (.inl (n : Int) : Key)
def dN (ns : List Nat) : MO := .dct (kInts ns) (tru ns.length)
def dV (ns : List Nat) : MV := .dct (kInts ns) (tru ns.length)
abbrev Tbl (κ : Type) := List (κ × List Nat)
section
variable {κ : Type} [eqK : DecidableEq κ]
def tget (T : Tbl κ) (k : κ) : List Nat := match T with
  | [] => []
  | x :: T => if x.1 = k then x.2 else tget T k
def addN (ns : List Nat) (n : Nat) : List Nat := if n ∈ ns then ns else ns ++ [n]
def tmod (f : List Nat → List Nat) (T : Tbl κ) (k : κ) : Tbl κ := match T with
  | [] => []
  | x :: T => if x.1 = k then (x.1, f x.2) :: T else x :: tmod f T k
def keysT (T : Tbl κ) : List κ := T.map (·.1)
def tadd (T : Tbl κ) (k : κ) (n : Nat) : Tbl κ := if k ∈ keysT T then tmod (fun ns => addN ns n) T k else T ++ [(k, [n])]
def delN (ns : List Nat) (n : Nat) : List Nat := ns.filter fun m => decide (m ≠ n)
def tdel (T : Tbl κ) (k : κ) (n : Nat) : Tbl κ := tmod (fun ns => delN ns n) T k
structure TOk (T : Tbl κ) : Prop where
  nd : (keysT T).Nodup
  nn : ∀ x ∈ T, x.2.Nodup
  lt : ∀ x ∈ T, ∀ m ∈ x.2, m < 900
theorem nodup_len : ∀ (n : Nat) (l : List Nat), l.Nodup → (∀ x ∈ l, x < n) → l.length ≤ n
  | 0, l, _, h => by
    cases l with
    | nil => exact Nat.le_refl _
    | cons x l => exact absurd (h x List.mem_cons_self) (Nat.not_lt_zero _)
  | n + 1, l, nd, h => by
    have h2 := nodup_len n (l.erase n) (nd.erase n) fun x hx => by
      have h3 := (nd.mem_erase_iff).mp hx
      have := h x h3.2
      have := h3.1
      omega
    have : l.length ≤ (l.erase n).length + 1 := by
      by_cases hm : n ∈ l
      · rw [List.length_erase_of_mem hm]; omega
      · rw [List.erase_of_not_mem hm]; omega
    omega
theorem TOk.small {T : Tbl κ} (h : TOk T) : ∀ y ∈ T, y.2.length < 1000 := fun y hy => by
  have := nodup_len 900 y.2 (h.nn y hy) (h.lt y hy)
  omega
theorem keys_mod {f : List Nat → List Nat} {k : κ} : ∀ T : Tbl κ, keysT (tmod f T k) = keysT T
  | [] => rfl
  | x :: T => by
    unfold tmod
    split
    · rfl
    · show x.1 :: keysT (tmod f T k) = x.1 :: keysT T
      rw [keys_mod T]
theorem len_mod {f : List Nat → List Nat} {k : κ} (T : Tbl κ) : (tmod f T k).length = T.length := by
  have := congrArg List.length (keys_mod (f := f) (k := k) T)
  simpa [keysT] using this
theorem mod_mem {f : List Nat → List Nat} {k : κ} : ∀ (T : Tbl κ) (x : κ × List Nat), x ∈ tmod f T k → x ∈ T ∨ ∃ y ∈ T, x = (y.1, f y.2)
  | [], x, h => by cases h
  | y :: T, x, h => by
    unfold tmod at h
    split at h
    · rcases List.mem_cons.mp h with e | e
      · exact .inr ⟨y, List.mem_cons_self, e⟩
      · exact .inl (List.mem_cons_of_mem _ e)
    · rcases List.mem_cons.mp h with e | e
      · exact .inl (by rw [e]; exact List.mem_cons_self)
      · rcases mod_mem T x e with z | ⟨z, hz, ez⟩
        · exact .inl (List.mem_cons_of_mem _ z)
        · exact .inr ⟨z, List.mem_cons_of_mem _ hz, ez⟩
theorem addN_nodup {ns : List Nat} {n : Nat} (h : ns.Nodup) : (addN ns n).Nodup := by
  unfold addN
  split
  · exact h
  · rename_i hn
    rw [List.nodup_append]
    exact ⟨h, by simp, fun a ha b hb e => hn (by have : b = n := by simpa using hb
                                                 rw [← this, ← e]; exact ha)⟩
theorem tadd_ok {T : Tbl κ} {k : κ} {n : Nat} (h : TOk T) (hn : n < 900) : TOk (tadd T k n) := by
  unfold tadd
  split
  · refine ⟨by rw [keys_mod]; exact h.nd, fun x hx => ?_, fun x hx m hm => ?_⟩
    · rcases mod_mem T x hx with z | ⟨y, hy, e⟩
      · exact h.nn x z
      · rw [e]; exact addN_nodup (h.nn y hy)
    · rcases mod_mem T x hx with z | ⟨y, hy, e⟩
      · exact h.lt x z m hm
      · rw [e] at hm
        have hm : m ∈ addN y.2 n := hm
        unfold addN at hm
        split at hm
        · exact h.lt y hy m hm
        · rcases List.mem_append.mp hm with z | z
          · exact h.lt y hy m z
          · have : m = n := by simpa using z
            omega
  · rename_i hk
    refine ⟨?_, fun x hx => ?_, fun x hx m hm => ?_⟩
    · unfold keysT
      rw [List.map_append]
      rw [List.nodup_append]
      exact ⟨h.nd, by simp, fun a ha b hb e => hk (by have : b = k := by simpa using hb
                                                      rw [← this, ← e]; exact ha)⟩
    · rcases List.mem_append.mp hx with z | z
      · exact h.nn x z
      · have : x = (k, [n]) := by simpa using z
        rw [this]; simp
    · rcases List.mem_append.mp hx with z | z
      · exact h.lt x z m hm
      · have : x = (k, [n]) := by simpa using z
        rw [this] at hm
        have : m = n := by simpa using hm
        omega
theorem tdel_ok {T : Tbl κ} {k : κ} {n : Nat} (h : TOk T) : TOk (tdel T k n) := by
  refine ⟨by unfold tdel; rw [keys_mod]; exact h.nd, fun x hx => ?_, fun x hx m hm => ?_⟩
  · rcases mod_mem T x hx with z | ⟨y, hy, e⟩
    · exact h.nn x z
    · rw [e]; exact (h.nn y hy).filter _
  · rcases mod_mem T x hx with z | ⟨y, hy, e⟩
    · exact h.lt x z m hm
    · rw [e] at hm
      exact h.lt y hy m (List.mem_filter.mp hm).1
theorem get_mod {f : List Nat → List Nat} {k k' : κ} : ∀ T : Tbl κ, tget (tmod f T k) k' = if k = k' ∧ k ∈ keysT T then f (tget T k') else tget T k'
  | [] => by simp [tmod, tget, keysT]
  | x :: T => by
    have ih := get_mod (f := f) (k := k) (k' := k') T
    unfold tmod
    by_cases h : x.1 = k
    · rw [if_pos h]
      by_cases h2 : x.1 = k'
      · have : k = k' := h.symm.trans h2
        simp [tget, h2, this, keysT]
      · have : ¬ k = k' := fun e => h2 (h.trans e)
        simp [tget, h2, this]
    · rw [if_neg h]
      by_cases h2 : x.1 = k'
      · have : ¬ k = k' := fun e => h (h2.trans e.symm)
        simp [tget, h2, this]
      · have hh : ¬ k = x.1 := fun e => h e.symm
        simp only [tget, h2, if_false, ih, keysT, List.map_cons, List.mem_cons, hh, false_or]
        congr
theorem get_none {k : κ} : ∀ T : Tbl κ, k ∉ keysT T → tget T k = []
  | [], _ => rfl
  | x :: T, h => by
    rw [keysT, List.map_cons, List.mem_cons, not_or] at h
    rw [tget, if_neg (fun e => h.1 e.symm)]
    exact get_none T h.2
theorem get_app {k k' : κ} {n : Nat} : ∀ T : Tbl κ, k ∉ keysT T → tget (T ++ [(k, [n])]) k' = if k = k' then [n] else tget T k'
  | [], _ => by simp [tget]
  | x :: T, h => by
    rw [keysT, List.map_cons, List.mem_cons, not_or] at h
    rw [List.cons_append, tget, get_app T h.2, tget]
    by_cases h2 : x.1 = k'
    · have : ¬ k = k' := fun e => h.1 (e.trans h2.symm)
      simp [h2, this]
    · simp [h2]
theorem mem_addN {ns : List Nat} {n m : Nat} : m ∈ addN ns n ↔ m ∈ ns ∨ m = n := by
  unfold addN
  split
  · rename_i h
    exact ⟨.inl, fun z => z.elim id fun e => by rw [e]; exact h⟩
  · simp
/-- what is in a table behind -/
theorem mem_tadd {T : Tbl κ} {k k' : κ} {n m : Nat} : m ∈ tget (tadd T k n) k' ↔ m ∈ tget T k' ∨ (k = k' ∧ m = n) := by
  unfold tadd
  split
  · rename_i hk
    rw [get_mod]
    by_cases e : k = k'
    · simp [e] at hk ⊢
      simp [hk, mem_addN]
    · simp [e]
  · rename_i hk
    rw [get_app T hk]
    by_cases e : k = k'
    · subst e
      simp [get_none T hk]
    · simp [e]
theorem mem_tdel {T : Tbl κ} {k k' : κ} {n m : Nat} : m ∈ tget (tdel T k n) k' ↔ m ∈ tget T k' ∧ ¬ (k = k' ∧ m = n) := by
  unfold tdel
  rw [get_mod]
  by_cases e : k = k'
  · subst e
    by_cases hk : k ∈ keysT T
    · simp [hk, delN]
    · simp [hk, get_none T hk]
  · simp [e]
theorem len_tadd {T : Tbl κ} {k : κ} {n : Nat} : (tadd T k n).length ≤ T.length + 1 := by
  unfold tadd
  split
  · rw [len_mod]; omega
  · simp
theorem len_tdel {T : Tbl κ} {k : κ} {n : Nat} : (tdel T k n).length = T.length := len_mod T
/-- where a key stands -/
theorem key_at {k : κ} : ∀ T : Tbl κ, k ∈ keysT T → ∃ i : Nat, (keysT T)[i]? = some k ∧ T[i]? = some (k, tget T k)
  | [], h => by cases h
  | x :: T, h => by
    by_cases e : x.1 = k
    · refine ⟨0, by simp [keysT, e], ?_⟩
      rw [tget, if_pos e, ← e]; rfl
    · have h2 : k ∈ keysT T := by
        rw [keysT, List.map_cons] at h
        exact (List.mem_cons.mp h).resolve_left fun z => e z.symm
      obtain ⟨i, a, b⟩ := key_at T h2
      exact ⟨i + 1, by simpa [keysT] using a, by rw [tget, if_neg e]; simpa using b⟩
theorem mod_at {f : List Nat → List Nat} {k : κ} : ∀ (T : Tbl κ) (i : Nat), (keysT T).Nodup → T[i]? = some (k, tget T k) → tmod f T k = T.set i (k, f (tget T k))
  | [], i, _, h => by simp at h
  | x :: T, 0, nd, h => by
    simp at h
    have e : x.1 = k := by rw [h]
    rw [tmod, if_pos e, tget, if_pos e]
    simp [← e]
  | x :: T, i + 1, nd, h => by
    rw [keysT, List.map_cons, List.nodup_cons] at nd
    have hx : ¬ x.1 = k := fun e => nd.1 (by
      have : (k, tget (x :: T) k) ∈ T := List.mem_of_getElem? (by simpa using h)
      rw [e]; exact List.mem_map_of_mem (f := (·.1)) this)
    rw [tget, if_neg hx] at h
    rw [tmod, if_neg hx, mod_at T i nd.2 (by simpa using h), tget, if_neg hx]; rfl
end
structure TabS {κ : Type} (S : Sto) (t : Nat) (enc : κ → MV) (T : Tbl κ) (rs : List Nat) : Prop where
  at_ : S[t]? = some (.dcT ((keysT T).map enc) (rs.map .ref))
  len : rs.length = T.length
  ce : ∀ (i : Nat) (x : κ × List Nat) (r : Nat), T[i]? = some x → rs[i]? = some r → S[r]? = some (dN x.2)
  nd : (t :: rs).Nodup
/-- from one store to a later one: fp is what was written -/
structure Chg (S S' : Sto) (fp fp' : List Nat) : Prop where
  le : S.length ≤ S'.length
  keep : ∀ n, n < S.length → n ∉ fp → S'[n]? = S[n]?
  new : ∀ n ∈ fp', n ∈ fp ∨ S.length ≤ n
theorem Chg.refl {S : Sto} {fp : List Nat} : Chg S S fp fp := ⟨Nat.le_refl _, fun _ _ _ => rfl, fun _ h => .inl h⟩
theorem Chg.trans {S S1 S2 : Sto} {fp fp1 fp2 : List Nat} (h : Chg S S1 fp fp1) (k : Chg S1 S2 fp1 fp2) : Chg S S2 fp fp2 := by
  refine ⟨Nat.le_trans h.le k.le, fun n hn hf => ?_, fun n hn => ?_⟩
  · have h1 := h.le
    rw [k.keep n (by omega) (fun z => (h.new n z).elim hf fun z => by omega)]
    exact h.keep n hn hf
  · rcases k.new n hn with z | z
    · exact h.new n z
    · have := h.le
      exact .inr (by omega)
theorem Chg.at {S S' : Sto} {fp fp' : List Nat} (h : Chg S S' fp fp') {n : Nat} {o : MO} (e : S[n]? = some o) (hn : n ∉ fp) : S'[n]? = some o := by
  rw [h.keep n (List.getElem?_eq_some_iff.mp e).1 hn]; exact e
theorem Chg.weak {S S' : Sto} {fp fp' gp gp' : List Nat} (h : Chg S S' fp fp') (k : ∀ n ∈ fp, n ∈ gp) (k' : ∀ n ∈ gp', n ∈ fp' ∨ n ∈ gp) : Chg S S' gp gp' := by
  refine ⟨h.le, fun n hn hf => h.keep n hn fun z => hf (k n z), fun n hn => ?_⟩
  rcases k' n hn with z | z
  · rcases h.new n z with y | y
    · exact .inl (k n y)
    · exact .inr y
  · exact .inl z
theorem TabS.chg {κ : Type} {S S' : Sto} {t : Nat} {enc : κ → MV} {T : Tbl κ} {rs fp fp' : List Nat} (h : TabS S t enc T rs) (c : Chg S S' fp fp') (d : ∀ n ∈ t :: rs, n ∉ fp) : TabS S' t enc T rs :=
  ⟨c.at h.at_ (d t List.mem_cons_self), h.len, fun i x r e1 e2 => c.at (h.ce i x r e1 e2) (d r (List.mem_cons_of_mem _ (List.mem_of_getElem? e2))), h.nd⟩
section
variable {κ : Type} [DecidableEq κ] {enc : κ → MV} {S : Sto} {t : Nat} {T : Tbl κ} {rs : List Nat} {k : κ}
theorem look_in (E : KeyEnc enc) (ok : TOk T) (h : TabS S t enc T rs) (hk : k ∈ keysT T) : ∃ (i r : Nat), T[i]? = some (k, tget T k) ∧ rs[i]? = some r ∧ dlook (canons ((keysT T).map enc)) (rs.map .ref) (canon (enc k)) = some (.ref r) := by
  obtain ⟨i, a, b⟩ := key_at T hk
  have hi : i < rs.length := by rw [h.len]; exact (List.getElem?_eq_some_iff.mp b).1
  refine ⟨i, rs[i], b, List.getElem?_eq_getElem hi, look_at E _ _ i _ ok.nd a ?_⟩
  rw [List.getElem?_map, List.getElem?_eq_getElem hi]; rfl
theorem look_out (E : KeyEnc enc) (h : TabS S t enc T rs) (hk : k ∉ keysT T) : dlook (canons ((keysT T).map enc)) (rs.map .ref) (canon (enc k)) = none := by
  have := look_is (vs := rs.map MV.ref) E (x := k) (ks := keysT T) (by rw [List.length_map, h.len]; simp [keysT])
  rw [decide_eq_false hk] at this
  cases e : dlook (canons ((keysT T).map enc)) (rs.map .ref) (canon (enc k)) with
  | none => rfl
  | some x => rw [e] at this; cases this
theorem lookK_at {ns : List Nat} {n : Nat} {vs : List MV} (hl : vs.length = ns.length) (hv : ∀ v ∈ vs, v = .bl true) : dlook (kInts ns) vs (.inl (n : Int)) = if n ∈ ns then some (.bl true) else none := by
  induction ns generalizing vs with
  | nil => simp [kInts, dlook]
  | cons m ns ih =>
    cases vs with
    | nil => simp at hl
    | cons v vs =>
      show (if (.inl (m : Int) : Key) = .inl (n : Int) then some v else dlook (kInts ns) vs (.inl (n : Int))) = _
      rw [ih (by simpa using hl) fun v hv' => hv v (List.mem_cons_of_mem _ hv')]
      by_cases e : m = n
      · subst e; simp [hv v List.mem_cons_self]
      · have e1 : ¬ (m : Int) = (n : Int) := by omega
        have e2 : ¬ n = m := fun z => e z.symm
        simp [e1, e2]
theorem mem_kInts {ns : List Nat} {n : Nat} : (.inl (n : Int) : Key) ∈ kInts ns ↔ n ∈ ns := by
  simp [kInts]
theorem put_dN {ns : List Nat} {n : Nat} : dput (kInts ns) (tru ns.length) (.inl (n : Int)) (.bl true) = (kInts (addN ns n), tru (addN ns n).length) := by
  unfold dput addN
  by_cases h : n ∈ ns
  · rw [if_pos (mem_kInts.mpr h), if_pos h]
    have : ∀ (ks : List Key) (m : Nat), ks.length = m → dsetV ks (tru m) (.inl (n : Int)) (.bl true) = tru m := by
      intro ks
      induction ks with
      | nil => intro m h; subst h; rfl
      | cons k ks ih =>
        intro m hm
        cases m with
        | zero => cases hm
        | succ m =>
          show (if k = .inl (n : Int) then MV.bl true else .bl true) :: dsetV ks (tru m) _ _ = _
          rw [ih m (by simpa using hm)]
          split <;> rfl
    rw [this _ _ (by simp [kInts])]
  · rw [if_neg (fun z => h (mem_kInts.mp z)), if_neg h]
    simp [kInts, tru, List.replicate_succ']
theorem del_dN {ns : List Nat} {n : Nat} : ddel (kInts ns) (tru ns.length) (.inl (n : Int)) = (kInts (delN ns n), tru (delN ns n).length) := by
  induction ns with
  | nil => rfl
  | cons m ns ih =>
    show (if (.inl (m : Int) : Key) = .inl (n : Int) then ddel (kInts ns) (tru ns.length) (.inl (n : Int)) else _) = _
    rw [ih]
    by_cases e : m = n
    · subst e
      simp [delN]
    · have e1 : ¬ (.inl (m : Int) : Key) = .inl (n : Int) := fun z => e (by injection z with z; omega)
      rw [if_neg e1]
      simp [delN, e, kInts, tru, List.replicate_succ]
      have i1 := congrArg Prod.fst ih
      have i2 := congrArg Prod.snd ih
      simp [kInts, tru, delN] at i1 i2
      exact ⟨i1, i2⟩
end
end Lw
set_option Elab.async false
set_option linter.all false
set_option maxRecDepth 10000
set_option maxHeartbeats 400000
namespace Lw
open PySem PySem.Spec PyProof.Rows L2 Mi
@[simp] theorem w_mBM {kind : Sto → MV → Bool} {f : MM} {o : ME} {m : MA} {ρ : Ev} {S : Sto} : mBM kind f o m ρ S = (o ρ S).bind fun d S1 => if kind S1 d then (m ρ S1).bind fun ds S2 => f d ds S2 else .stk := rfl
@[simp] theorem w_mkDf {ks : List Key} {ds : List MV} {S : Sto} : mkD false ks ds S = .ok (.ref S.length) (S ++ [.dct ks ds]) := rfl
@[simp] theorem w_mkDt {ks : List Key} {ds : List MV} {S : Sto} : mkD true ks ds S = .ok (.dct ks ds) S := rfl
section
variable {κ : Type} [DecidableEq κ] {enc : κ → MV} {S : Sto} {t : Nat} {T : Tbl κ} {rs : List Nat} {k : κ} {n : Nat} {x : MV}
theorem kDcT_ref (h : TabS S t enc T rs) : kDcT S (.ref t) = true := by
  unfold kDcT
  rw [dcT_ref (ks := keysT T) h.at_]; rfl
theorem count_add (E : KeyEnc enc) (ok : TOk T) (h : TabS S t enc T rs) (hz : T.length < 1000000) :
    ∃ S' rs', m_Calendar_count [x, .ref t, enc k, .int (n : Nat), .int 1] S = .ok .non S' ∧ TabS S' t enc (tadd T k n) rs' ∧ Chg S S' (t :: rs) (t :: rs') := by
  have hs := sizeLine_eq
  have tl := (List.getElem?_eq_some_iff.mp h.at_).1
  have up : ∀ (i : Nat) (o : MO), S[i]? = some o → (S ++ [MO.dct [] []])[i]? = some o := fun i o e => by
    rw [List.getElem?_append_left (List.getElem?_eq_some_iff.mp e).1]; exact e
  have at1 := up t _ h.at_
  have kd1 : kDcT S (.ref t) = true := kDcT_ref h
  have g0 : gtM (.int 1) (.int 0) S = .ok (.bl true) S := rfl
  by_cases hk : k ∈ keysT T
  · obtain ⟨i, r, e1, e2, e3⟩ := look_in E ok h hk
    have sd : dsetdM (.ref t) [enc k, .ref S.length] (S ++ [MO.dct [] []]) = .ok (.ref r) (S ++ [MO.dct [] []]) := by
      unfold dsetdM
      simp only [at1]
      rw [E.ok, e3]
      have : (keysT T).length < sizeLine := by simp [keysT]; omega
      simp [this]
    have cr := h.ce i _ r e1 e2
    have rl := (List.getElem?_eq_some_iff.mp cr).1
    have nl : (tget T k).length < 1000 := ok.small _ (List.mem_of_getElem? e1)
    have st : setM (.ref r) (.int (n : Nat)) (.bl true) (S ++ [MO.dct [] []]) = some ((S ++ [MO.dct [] []]).set r (dN (addN (tget T k) n))) := by
      unfold setM
      simp only [up r _ cr, dN, keyV]
      rw [put_dN]
      have : (kInts (tget T k)).length < 1000 := by simp [kInts]; omega
      simp [this]
    have rt : ¬ r = t := fun e => by
      have := List.nodup_cons.mp h.nd
      exact this.1 (by rw [← e]; exact List.mem_of_getElem? e2)
    have nr := (List.nodup_cons.mp h.nd).2
    refine ⟨(S ++ [MO.dct [] []]).set r (dN (addN (tget T k) n)), rs, ?_, ⟨?_, ?_, ?_, h.nd⟩, ⟨by simp, fun m hm hf => ?_, fun m hm => .inl hm⟩⟩
    · simp [m_Calendar_count, mFn, m_Calendar_count_s0, m_Calendar_count_s1, mSub, g0, kd1, sd, st]
    · rw [List.getElem?_set_ne rt, at1]
      unfold tadd
      rw [if_pos hk, keys_mod]
    · unfold tadd
      rw [if_pos hk, len_mod]; exact h.len
    · intro j y q f1 f2
      unfold tadd at f1
      rw [if_pos hk, mod_at T i ok.nd e1] at f1
      by_cases hj : j = i
      · subst hj
        have il := (List.getElem?_eq_some_iff.mp e1).1
        rw [List.getElem?_set_self il] at f1
        cases f1
        rw [e2] at f2; cases f2
        rw [List.getElem?_set_self (by simp; omega)]
      · rw [List.getElem?_set_ne (Ne.symm hj)] at f1
        have : ¬ r = q := fun e => hj (by
          subst e
          exact ((List.getElem_inj nr).mp ((List.getElem?_eq_some_iff.mp e2).2.trans (List.getElem?_eq_some_iff.mp f2).2.symm)).symm)
        rw [List.getElem?_set_ne this]
        exact up q _ (h.ce j y q f1 f2)
    · have : ¬ r = m := fun e => hf (by rw [← e]; exact List.mem_cons_of_mem _ (List.mem_of_getElem? e2))
      rw [List.getElem?_set_ne this, List.getElem?_append_left hm]
  · have e3 := look_out E h hk
    have sd : dsetdM (.ref t) [enc k, .ref S.length] (S ++ [MO.dct [] []]) = .ok (.ref S.length) ((S ++ [MO.dct [] []]).set t (.dcT ((keysT T ++ [k]).map enc) ((rs ++ [S.length]).map .ref))) := by
      unfold dsetdM
      simp only [at1]
      rw [E.ok, e3]
      have : (keysT T).length < sizeLine := by simp [keysT]; omega
      simp [this]
    have ne : ¬ t = S.length := by omega
    let S2 : Sto := (S ++ [MO.dct [] []]).set t (.dcT ((keysT T ++ [k]).map enc) ((rs ++ [S.length]).map .ref))
    have a2 : S2[S.length]? = some (.dct [] []) := by
      show ((S ++ [MO.dct [] []]).set t _)[S.length]? = _
      rw [List.getElem?_set_ne ne, List.getElem?_append_right (Nat.le_refl _)]; simp
    have st : setM (.ref S.length) (.int (n : Nat)) (.bl true) S2 = some (S2.set S.length (dN [n])) := by
      unfold setM
      simp only [a2, keyV]
      simp [dput, dN, kInts, tru]
    have keys : keysT (tadd T k n) = keysT T ++ [k] := by unfold tadd; rw [if_neg hk]; simp [keysT]
    have rlt : ∀ (j : Nat) (q : Nat), rs[j]? = some q → q < S.length := fun j q hq => by
      have : j < T.length := by rw [← h.len]; exact (List.getElem?_eq_some_iff.mp hq).1
      exact (List.getElem?_eq_some_iff.mp (h.ce j _ q (List.getElem?_eq_getElem this) hq)).1
    refine ⟨S2.set S.length (dN [n]), rs ++ [S.length], ?_, ⟨?_, ?_, ?_, ?_⟩, ⟨by simp [S2], fun m hm hf => ?_, fun m hm => ?_⟩⟩
    · simp [m_Calendar_count, mFn, m_Calendar_count_s0, m_Calendar_count_s1, mSub, g0, kd1]
      rw [sd]
      simp
      rw [show (S ++ [MO.dct [] []]).set t (.dcT ((keysT T).map enc ++ [enc k]) (rs.map .ref ++ [.ref S.length])) = S2 by simp [S2]]
      rw [st]; rfl
    · rw [List.getElem?_set_ne (Ne.symm ne), keys]
      show ((S ++ [MO.dct [] []]).set t _)[t]? = _
      rw [List.getElem?_set_self (by simp; omega)]
    · unfold tadd; rw [if_neg hk]; simp [h.len]
    · intro j y q f1 f2
      unfold tadd at f1
      rw [if_neg hk] at f1
      by_cases hj : j < T.length
      · rw [List.getElem?_append_left hj] at f1
        rw [List.getElem?_append_left (by rw [h.len]; exact hj)] at f2
        have q1 := rlt j q f2
        have : ¬ t = q := fun e => (List.nodup_cons.mp h.nd).1 (by rw [e]; exact List.mem_of_getElem? f2)
        rw [List.getElem?_set_ne (by omega)]
        show ((S ++ [MO.dct [] []]).set t _)[q]? = _
        rw [List.getElem?_set_ne this]
        exact up q _ (h.ce j y q f1 f2)
      · have j1 := (List.getElem?_eq_some_iff.mp f1).1
        have j0 : j = T.length := by simp at j1; omega
        subst j0
        simp at f1
        rw [← h.len] at f2
        simp at f2
        subst f1; subst f2
        rw [List.getElem?_set_self (by simp [S2])]
    · refine List.nodup_cons.mpr ⟨fun m => ?_, ?_⟩
      · rcases List.mem_append.mp m with z | z
        · exact (List.nodup_cons.mp h.nd).1 z
        · exact ne (by simpa using z)
      · rw [List.nodup_append]
        refine ⟨(List.nodup_cons.mp h.nd).2, by simp, fun a ha b hb e => ?_⟩
        have e1 : b = S.length := by simpa using hb
        obtain ⟨jq, hjq⟩ := List.mem_iff_getElem?.mp ha
        have := rlt jq a hjq
        omega
    · have : ¬ t = m := fun e => hf (by rw [← e]; exact List.mem_cons_self)
      rw [List.getElem?_set_ne (by omega)]
      show ((S ++ [MO.dct [] []]).set t _)[m]? = _
      rw [List.getElem?_set_ne this, List.getElem?_append_left hm]
    · rcases List.mem_cons.mp hm with z | z
      · exact .inl (by rw [z]; exact List.mem_cons_self)
      · rcases List.mem_append.mp z with z | z
        · exact .inl (List.mem_cons_of_mem _ z)
        · have : m = S.length := by simpa using z
          exact .inr (by omega)
theorem count_del (E : KeyEnc enc) (ok : TOk T) (h : TabS S t enc T rs) (hk : k ∈ keysT T) (hm : n ∈ tget T k) :
    ∃ S', m_Calendar_count [x, .ref t, enc k, .int (n : Nat), .int (-1)] S = .ok .non S' ∧ TabS S' t enc (tdel T k n) rs ∧ Chg S S' (t :: rs) (t :: rs) := by
  obtain ⟨i, r, e1, e2, e3⟩ := look_in E ok h hk
  have cr := h.ce i _ r e1 e2
  have rl := (List.getElem?_eq_some_iff.mp cr).1
  have g0 : gtM (.int (-1)) (.int 0) S = .ok (.bl false) S := rfl
  have ix : idxTM (.ref t) (enc k) S = .ok (.ref r) S := by
    unfold idxTM
    rw [dcT_ref (ks := keysT T) h.at_]
    simp only [E.ok, if_true, e3]
  have kd : kDct S (.ref r) = true := by
    unfold kDct dctOf
    simp only [cr, dN]; rfl
  have pp : dpopM (.ref r) [.int (n : Nat)] S = .ok (.bl true) (S.set r (dN (delN (tget T k) n))) := by
    unfold dpopM
    simp only [cr, dN, keyV]
    rw [lookK_at (by simp [tru]) (fun v hv => by simpa [tru] using (List.mem_replicate.mp hv).2), if_pos hm, del_dN]
  have rt : ¬ r = t := fun e => by
    have := List.nodup_cons.mp h.nd
    exact this.1 (by rw [← e]; exact List.mem_of_getElem? e2)
  have nr := (List.nodup_cons.mp h.nd).2
  refine ⟨S.set r (dN (delN (tget T k) n)), ?_, ⟨?_, ?_, ?_, h.nd⟩, ⟨by simp, fun m hm hf => ?_, fun m hm => .inl hm⟩⟩
  · simp [m_Calendar_count, mFn, m_Calendar_count_s0, m_Calendar_count_s2, g0, ix, kd, pp]
  · rw [List.getElem?_set_ne rt, h.at_]
    unfold tdel
    rw [keys_mod]
  · rw [len_tdel]; exact h.len
  · intro j y q f1 f2
    unfold tdel at f1
    rw [mod_at T i ok.nd e1] at f1
    by_cases hj : j = i
    · subst hj
      have il := (List.getElem?_eq_some_iff.mp e1).1
      rw [List.getElem?_set_self il] at f1
      cases f1
      rw [e2] at f2; cases f2
      rw [List.getElem?_set_self rl]
    · rw [List.getElem?_set_ne (Ne.symm hj)] at f1
      have : ¬ r = q := fun e => hj (by
        subst e
        exact ((List.getElem_inj nr).mp ((List.getElem?_eq_some_iff.mp e2).2.trans (List.getElem?_eq_some_iff.mp f2).2.symm)).symm)
      rw [List.getElem?_set_ne this]
      exact h.ce j y q f1 f2
  · have : ¬ r = m := fun e => hf (by rw [← e]; exact List.mem_cons_of_mem _ (List.mem_of_getElem? e2))
    rw [List.getElem?_set_ne this]
end
end Lw
set_option Elab.async false
set_option linter.all false
set_option maxRecDepth 10000
set_option maxHeartbeats 400000
namespace Lw
open PySem PySem.Spec PyProof.Rows L2 Mi
abbrev K2 := Int × Int
abbrev K3 := Int × Int × Option Int
def enc2 (k : K2) : MV := .tup [.int k.1, .int k.2]
def enc3 (k : K3) : MV := .tup [.int k.1, .int k.2.1, hv k.2.2]
theorem key2 : KeyEnc enc2 := by
  refine ⟨fun x y h => ?_, fun x => rfl⟩
  simp only [enc2, canon, canons, MV.tup.injEq, List.cons.injEq, MV.int.injEq] at h
  exact Prod.ext h.1 h.2.1
theorem key3 : KeyEnc enc3 := by
  refine ⟨fun x y h => ?_, fun x => ?_⟩
  · simp only [enc3, canon, canons, MV.tup.injEq, List.cons.injEq, MV.int.injEq] at h
    have e : x.2.2 = y.2.2 := by
      have h3 := h.2.2.1
      cases a : x.2.2 <;> cases b : y.2.2 <;> rw [a, b] at h3 <;> simp [hv, canon] at h3 ⊢
      exact h3
    exact Prod.ext h.1 (Prod.ext h.2.1 e)
  · obtain ⟨a, b, c⟩ := x
    cases c <;> rfl
def calFs : List Str := ["rule", "days", "hours", "rows", "before", "seen", "rooms", "persons", "done"]
/-- where its cells are -/
structure CAt where
  c : Nat
  r : Nat
  b : Nat
  s : Nat
  ro : Nat
  pe : Nat
  dn : Nat
  rs2 : List Nat
  rs3 : List Nat
def CAt.fp2 (a : CAt) : List Nat := a.ro :: a.rs2
def CAt.fp3 (a : CAt) : List Nat := a.pe :: a.rs3
def CAt.fpT (a : CAt) : List Nat := a.fp2 ++ a.fp3
def CAt.fp (a : CAt) : List Nat := [a.c, a.r, a.b, a.s, a.dn] ++ a.fpT
def calObj (p : Par) (D H : Nat) (a : CAt) : MO := .obj "Calendar" calFs [pPar p, .int (D : Nat), .int (H : Nat), .ref a.r, .ref a.b, .ref a.s, .ref a.ro, .ref a.pe, .ref a.dn]
section
variable {S : Sto} {p : Par} {D H : Nat} {a : CAt}
theorem obj_at (h : S[a.c]? = some (calObj p D H a)) : objOf S (.ref a.c) = some (("Calendar" : Str), calFs, [pPar p, .int (D : Nat), .int (H : Nat), .ref a.r, .ref a.b, .ref a.s, .ref a.ro, .ref a.pe, .ref a.dn]) := by
  unfold objOf
  simp only [h, calObj]
theorem f_rule (h : S[a.c]? = some (calObj p D H a)) : fldM "Calendar" "rule" (.ref a.c) S = .ok (pPar p) S := by
  unfold fldM; rw [obj_at h]; rfl
theorem f_days (h : S[a.c]? = some (calObj p D H a)) : fldM "Calendar" "days" (.ref a.c) S = .ok (.int (D : Nat)) S := by
  unfold fldM; rw [obj_at h]; rfl
theorem f_hours (h : S[a.c]? = some (calObj p D H a)) : fldM "Calendar" "hours" (.ref a.c) S = .ok (.int (H : Nat)) S := by
  unfold fldM; rw [obj_at h]; rfl
theorem f_rows (h : S[a.c]? = some (calObj p D H a)) : fldM "Calendar" "rows" (.ref a.c) S = .ok (.ref a.r) S := by
  unfold fldM; rw [obj_at h]; rfl
theorem f_before (h : S[a.c]? = some (calObj p D H a)) : fldM "Calendar" "before" (.ref a.c) S = .ok (.ref a.b) S := by
  unfold fldM; rw [obj_at h]; rfl
theorem f_seen (h : S[a.c]? = some (calObj p D H a)) : fldM "Calendar" "seen" (.ref a.c) S = .ok (.ref a.s) S := by
  unfold fldM; rw [obj_at h]; rfl
theorem f_rooms (h : S[a.c]? = some (calObj p D H a)) : fldM "Calendar" "rooms" (.ref a.c) S = .ok (.ref a.ro) S := by
  unfold fldM; rw [obj_at h]; rfl
theorem f_persons (h : S[a.c]? = some (calObj p D H a)) : fldM "Calendar" "persons" (.ref a.c) S = .ok (.ref a.pe) S := by
  unfold fldM; rw [obj_at h]; rfl
theorem f_done (h : S[a.c]? = some (calObj p D H a)) : fldM "Calendar" "done" (.ref a.c) S = .ok (.ref a.dn) S := by
  unfold fldM; rw [obj_at h]; rfl
theorem f_meth {mn : Str} {m : MF} (h : S[a.c]? = some (calObj p D H a)) (hm : mn ∉ calFs) : methM "Calendar" mn m (.ref a.c) S = true := by
  have fl : ∀ (fs : List Str) (ds : List MV), mn ∉ fs → flook fs ds mn = none := by
    intro fs
    induction fs with
    | nil => intro ds _; cases ds <;> rfl
    | cons f fs ih =>
      intro ds hn
      cases ds with
      | nil => rfl
      | cons d ds =>
        rw [List.mem_cons] at hn
        rw [not_or] at hn
        rw [flook, if_neg (by first | exact hn.1 | exact fun e => hn.1 e.symm)]
        exact ih ds hn.2
  unfold methM
  rw [obj_at h]
  simp [fl calFs _ hm]
end
/-- a day's marks -/
def markA (n : Nat) (who : Int) : Nat → List Day → Tbl K2 × Tbl K3 → Tbl K2 × Tbl K3
  | _, [], T => T
  | i, d :: ds, T => match d.a with
    | none => markA n who (i + 1) ds T
    | some h => markA n who (i + 1) ds (tadd T.1 ((i : Int), h) n, tadd T.2 (who, (i : Int), d.b) n)
def markD (n : Nat) (who : Int) : Nat → List Day → Tbl K2 × Tbl K3 → Tbl K2 × Tbl K3
  | _, [], T => T
  | i, d :: ds, T => match d.a with
    | none => markD n who (i + 1) ds T
    | some h => markD n who (i + 1) ds (tdel T.1 ((i : Int), h) n, tdel T.2 (who, (i : Int), d.b) n)
/-- both tables, apart -/
structure TT (S : Sto) (a : CAt) (T : Tbl K2 × Tbl K3) : Prop where
  t2 : TabS S a.ro enc2 T.1 a.rs2
  t3 : TabS S a.pe enc3 T.2 a.rs3
  ok2 : TOk T.1
  ok3 : TOk T.2
  nd : a.fpT.Nodup
theorem apart {xs ys : List Nat} (nd : (xs ++ ys).Nodup) : (∀ n ∈ xs, n ∉ ys) ∧ ∀ n ∈ ys, n ∉ xs := by
  rw [List.nodup_append] at nd
  exact ⟨fun n h h' => nd.2.2 n h n h' rfl, fun n h h' => nd.2.2 n h' n h rfl⟩
theorem nodup_chg {S S' : Sto} {xs xs' ys : List Nat} (c : Chg S S' xs xs') (nd : (xs ++ ys).Nodup) (nd' : xs'.Nodup) (hy : ∀ n ∈ ys, n < S.length) : (xs' ++ ys).Nodup := by
  have ap := apart nd
  rw [List.nodup_append] at nd ⊢
  refine ⟨nd', nd.2.1, fun n hn m hm e => ?_⟩
  subst e
  rcases c.new n hn with z | z
  · exact ap.1 n z hm
  · have := hy n hm; omega
theorem TabS.lt {κ : Type} {S : Sto} {t : Nat} {enc : κ → MV} {T : Tbl κ} {rs : List Nat} (h : TabS S t enc T rs) : ∀ n ∈ t :: rs, n < S.length := fun n hn => by
  rcases List.mem_cons.mp hn with e | e
  · rw [e]; exact (List.getElem?_eq_some_iff.mp h.at_).1
  · obtain ⟨j, hj⟩ := List.mem_iff_getElem?.mp e
    have : j < T.length := by rw [← h.len]; exact (List.getElem?_eq_some_iff.mp hj).1
    exact (List.getElem?_eq_some_iff.mp (h.ce j _ n (List.getElem?_eq_getElem this) hj)).1
theorem swap_nd {xs ys : List Nat} (nd : (xs ++ ys).Nodup) : (ys ++ xs).Nodup := by
  have ap := apart nd
  rw [List.nodup_append] at nd ⊢
  exact ⟨nd.2.1, nd.1, fun a ha b hb e => ap.2 a ha (by rw [e]; exact hb)⟩
/-- the tables' fields at an object -/
def mkEnv (c : Nat) (n : Nat) (sg : Int) (who base : MV) (ds : List Day) (f : Nat → Option MV) : Ev := [some (.ref c), some (.int (n : Nat)), some (.int sg), some who, some base, some (.tup (ds.map pDay)), f 6, f 7, f 8, f 9]
theorem isn_hv {o : Option Int} {S : Sto} : isnM (hv o) .non S = .ok (.bl (!decide (o = none))) S := by cases o <;> rfl
abbrev tgDay : Tg := tgTup (tgCons (tgName 6) (tgCons (tgTup (tgCons (tgName 7) (tgCons (tgName 8) (tgCons (tgName 9) tgNil)))) tgNil))
theorem mark_add {p : Par} {D H n : Nat} {who : Int} {base : MV} {ds0 : List Day} (hn9 : n < 900) : ∀ (ds : List Day) (i : Nat) (S : Sto) (a : CAt) (T : Tbl K2 × Tbl K3) (f : Nat → Option MV),
    S[a.c]? = some (calObj p D H a) → a.c ∉ a.fpT → TT S a T → T.1.length + ds.length < 1000000 → T.2.length + ds.length < 1000000 →
    ∃ f' S' rs2 rs3, forGo (fun _ => true) tgDay m_Calendar_mark_s2 (enmI i (ds.map pDay)) (mkEnv a.c n 1 (.int who) base ds0 f) S = .nx (mkEnv a.c n 1 (.int who) base ds0 f') S' ∧
      TT S' { a with rs2 := rs2, rs3 := rs3 } (markA n who i ds T) ∧ Chg S S' a.fpT (CAt.fpT { a with rs2 := rs2, rs3 := rs3 })
  | [], i, S, a, T, f, hc, hn, tt, _, _ => ⟨f, S, a.rs2, a.rs3, by simp [enmI, forGo], tt, .refl⟩
  | d :: ds, i, S, a, T, f, hc, hn, tt, l2, l3 => by
    let T1 : Tbl K2 × Tbl K3 := match d.a with | none => T | some h => (tadd T.1 ((i : Int), h) n, tadd T.2 (who, (i : Int), d.b) n)
    have step : ∃ (g : Nat → Option MV) (S1 : Sto) (rs2 rs3 : List Nat), turn tgDay m_Calendar_mark_s2 (.tup [.int (i : Nat), pDay d]) (mkEnv a.c n 1 (.int who) base ds0 f) S = .nx (mkEnv a.c n 1 (.int who) base ds0 g) S1 ∧
        TT S1 { a with rs2 := rs2, rs3 := rs3 } T1 ∧ Chg S S1 a.fpT (CAt.fpT { a with rs2 := rs2, rs3 := rs3 }) := by
      let g : Nat → Option MV := fun j => if j = 6 then some (.int (i : Nat)) else if j = 7 then some (hv d.a) else if j = 8 then some (hv d.b) else some (.bl d.s)
      cases ea : d.a with
      | none =>
        have eT : T1 = T := by show (match d.a with | none => T | some h => _) = T; rw [ea]
        rw [eT]
        refine ⟨g, S, a.rs2, a.rs3, ?_, tt, .refl⟩
        simp [pDay, mkEnv, m_Calendar_mark_s2, isn_hv, ea, g]
      | some h =>
        have eT : T1 = (tadd T.1 ((i : Int), h) n, tadd T.2 (who, (i : Int), d.b) n) := by show (match d.a with | none => T | some h => _) = _; rw [ea]
        rw [eT]
        have ap := apart tt.nd
        obtain ⟨S1, rs2, c1, t1, g1⟩ := count_add (x := .ref a.c) (k := ((i : Int), h)) (n := n) key2 tt.ok2 tt.t2 (by simp at l2; omega)
        have hc1 : S1[a.c]? = some (calObj p D H a) := g1.at hc fun m => hn (List.mem_append_left _ m)
        have t31 : TabS S1 a.pe enc3 T.2 a.rs3 := tt.t3.chg g1 ap.2
        obtain ⟨S2, rs3, c2, t2, g2⟩ := count_add (x := .ref a.c) (k := (who, (i : Int), d.b)) (n := n) key3 tt.ok3 t31 (by simp at l3; omega)
        have nd1 : ((a.ro :: rs2) ++ (a.pe :: a.rs3)).Nodup := nodup_chg g1 tt.nd t1.nd tt.t3.lt
        have ap1 := apart nd1
        have t22 : TabS S2 a.ro enc2 (tadd T.1 ((i : Int), h) n) rs2 := t1.chg g2 ap1.1
        have nd2 : ((a.ro :: rs2) ++ (a.pe :: rs3)).Nodup := swap_nd (nodup_chg g2 (swap_nd nd1) t2.nd t1.lt)
        refine ⟨g, S2, rs2, rs3, ?_, ⟨t22, t2, tadd_ok tt.ok2 hn9, tadd_ok tt.ok3 hn9, nd2⟩, ?_⟩
        · have k2 : MV.tup [.int (i : Nat), hv (some h)] = enc2 ((i : Int), h) := rfl
          have k3 : MV.tup [.int who, .int (i : Nat), hv d.b] = enc3 (who, (i : Int), d.b) := rfl
          have f1 := f_rooms hc
          have f2 := f_persons hc1
          have mm : ∀ {X : Sto}, X[a.c]? = some (calObj p D H a) → methM "Calendar" "count" m_Calendar_count (.ref a.c) X = true := fun e => f_meth e (by decide)
          simp [pDay, mkEnv, m_Calendar_mark_s2, isn_hv, ea, m_Calendar_mark_s3, m_Calendar_mark_s4, mMeth, mm hc, mm hc1, f1, f2, k2, k3, c1, c2, g]
        · refine (g1.weak (fun m hm => List.mem_append_left _ hm) (gp' := (a.ro :: rs2) ++ (a.pe :: a.rs3)) (fun m hm => ?_)).trans (g2.weak (fun m hm => List.mem_append_right _ hm) fun m hm => ?_)
          · rcases List.mem_append.mp hm with z | z
            · exact .inl z
            · exact .inr (List.mem_append_right _ z)
          · rcases List.mem_append.mp hm with z | z
            · exact .inr (List.mem_append_left _ z)
            · exact .inl z
    obtain ⟨g, S1, rs2, rs3, e1, t1, c1⟩ := step
    have hc1 : S1[a.c]? = some (calObj p D H a) := c1.at hc hn
    have hn1 : a.c ∉ CAt.fpT { a with rs2 := rs2, rs3 := rs3 } := fun m => by
      rcases c1.new _ m with z | z
      · exact hn z
      · have := (List.getElem?_eq_some_iff.mp hc).1; omega
    have len : T1.1.length ≤ T.1.length + 1 ∧ T1.2.length ≤ T.2.length + 1 := by
      show (match d.a with | none => T | some h => (tadd T.1 ((i : Int), h) n, tadd T.2 (who, (i : Int), d.b) n)).1.length ≤ _ ∧ (match d.a with | none => T | some h => (tadd T.1 ((i : Int), h) n, tadd T.2 (who, (i : Int), d.b) n)).2.length ≤ _
      cases d.a with
      | none => exact ⟨Nat.le_succ _, Nat.le_succ _⟩
      | some h => exact ⟨len_tadd, len_tadd⟩
    rw [List.length_cons] at l2 l3
    obtain ⟨f', S', qs2, qs3, e2, t2, c2⟩ := mark_add (p := p) (D := D) (H := H) (who := who) (base := base) (ds0 := ds0) hn9 ds (i + 1) S1 { a with rs2 := rs2, rs3 := rs3 } T1 g hc1 hn1 t1 (by omega) (by omega)
    refine ⟨f', S', qs2, qs3, ?_, ?_, c1.trans c2⟩
    · rw [List.map_cons, enmI, forGo_cons rfl, e1, nxt_nx]
      exact e2
    · have : markA n who i (d :: ds) T = markA n who (i + 1) ds T1 := by
        show (match d.a with | none => _ | some h => _) = markA n who (i + 1) ds (match d.a with | none => T | some h => _)
        cases d.a <;> rfl
      rw [this]; exact t2
end Lw
set_option Elab.async false
set_option linter.all false
set_option maxRecDepth 10000
set_option maxHeartbeats 400000
namespace Lw
open PySem PySem.Spec PyProof.Rows L2 Mi
def hasR (ds : List Day) (i : Nat) (k : K2) : Prop := ∃ (j : Nat) (d : Day) (h : Int), ds[j]? = some d ∧ d.a = some h ∧ k = (((i + j : Nat) : Int), h)
def hasP (who : Int) (ds : List Day) (i : Nat) (k : K3) : Prop := ∃ (j : Nat) (d : Day) (h : Int), ds[j]? = some d ∧ d.a = some h ∧ k = (who, ((i + j : Nat) : Int), d.b)
theorem hasR_cons {d : Day} {ds : List Day} {i : Nat} {k : K2} : hasR (d :: ds) i k ↔ (∃ h, d.a = some h ∧ k = ((i : Int), h)) ∨ hasR ds (i + 1) k := by
  constructor
  · rintro ⟨j, d', h, e1, e2, e3⟩
    cases j with
    | zero => simp at e1; subst e1; exact .inl ⟨h, e2, by simpa using e3⟩
    | succ j => exact .inr ⟨j, d', h, by simpa using e1, e2, by rw [e3]; congr 1; omega⟩
  · rintro (⟨h, e2, e3⟩ | ⟨j, d', h, e1, e2, e3⟩)
    · exact ⟨0, d, h, rfl, e2, by simpa using e3⟩
    · exact ⟨j + 1, d', h, by simpa using e1, e2, by rw [e3]; congr 1; omega⟩
theorem hasP_cons {who : Int} {d : Day} {ds : List Day} {i : Nat} {k : K3} : hasP who (d :: ds) i k ↔ (∃ h, d.a = some h ∧ k = (who, (i : Int), d.b)) ∨ hasP who ds (i + 1) k := by
  constructor
  · rintro ⟨j, d', h, e1, e2, e3⟩
    cases j with
    | zero => simp at e1; subst e1; exact .inl ⟨h, e2, by simpa using e3⟩
    | succ j => exact .inr ⟨j, d', h, by simpa using e1, e2, by rw [e3]; congr 2; omega⟩
  · rintro (⟨h, e2, e3⟩ | ⟨j, d', h, e1, e2, e3⟩)
    · exact ⟨0, d, h, rfl, e2, by simpa using e3⟩
    · exact ⟨j + 1, d', h, by simpa using e1, e2, by rw [e3]; congr 2; omega⟩
theorem markA_2 {n m : Nat} {who : Int} {k : K2} : ∀ (ds : List Day) (i : Nat) (T : Tbl K2 × Tbl K3), m ∈ tget (markA n who i ds T).1 k ↔ m ∈ tget T.1 k ∨ (m = n ∧ hasR ds i k)
  | [], i, T => ⟨.inl, fun h => h.elim id fun ⟨_, j, d, h, e, _⟩ => by cases e⟩
  | d :: ds, i, T => by
    rw [hasR_cons, markA]
    cases e : d.a with
    | none =>
      dsimp only
      rw [markA_2 ds (i + 1) T]
      simp
    | some h =>
      dsimp only
      rw [markA_2 ds (i + 1), mem_tadd]
      constructor
      · rintro ((z | ⟨z1, z2⟩) | ⟨z1, z2⟩)
        · exact .inl z
        · exact .inr ⟨z2, .inl ⟨h, rfl, z1.symm⟩⟩
        · exact .inr ⟨z1, .inr z2⟩
      · rintro (z | ⟨z1, ⟨h', z2, z3⟩ | z2⟩)
        · exact .inl (.inl z)
        · cases z2; exact .inl (.inr ⟨z3.symm, z1⟩)
        · exact .inr ⟨z1, z2⟩
theorem markA_3 {n m : Nat} {who : Int} {k : K3} : ∀ (ds : List Day) (i : Nat) (T : Tbl K2 × Tbl K3), m ∈ tget (markA n who i ds T).2 k ↔ m ∈ tget T.2 k ∨ (m = n ∧ hasP who ds i k)
  | [], i, T => ⟨.inl, fun h => h.elim id fun ⟨_, j, d, h, e, _⟩ => by cases e⟩
  | d :: ds, i, T => by
    rw [hasP_cons, markA]
    cases e : d.a with
    | none =>
      dsimp only
      rw [markA_3 ds (i + 1) T]
      simp
    | some h =>
      dsimp only
      rw [markA_3 ds (i + 1), mem_tadd]
      constructor
      · rintro ((z | ⟨z1, z2⟩) | ⟨z1, z2⟩)
        · exact .inl z
        · exact .inr ⟨z2, .inl ⟨h, rfl, z1.symm⟩⟩
        · exact .inr ⟨z1, .inr z2⟩
      · rintro (z | ⟨z1, ⟨h', z2, z3⟩ | z2⟩)
        · exact .inl (.inl z)
        · exact .inl (.inr ⟨z3.symm, z1⟩)
        · exact .inr ⟨z1, z2⟩
theorem markD_2 {n m : Nat} {who : Int} {k : K2} : ∀ (ds : List Day) (i : Nat) (T : Tbl K2 × Tbl K3), m ∈ tget (markD n who i ds T).1 k ↔ m ∈ tget T.1 k ∧ ¬ (m = n ∧ hasR ds i k)
  | [], i, T => ⟨fun h => ⟨h, fun ⟨_, j, d, h, e, _⟩ => by cases e⟩, fun h => h.1⟩
  | d :: ds, i, T => by
    rw [hasR_cons, markD]
    cases e : d.a with
    | none =>
      dsimp only
      rw [markD_2 ds (i + 1) T]
      simp
    | some h =>
      dsimp only
      rw [markD_2 ds (i + 1), mem_tdel]
      constructor
      · rintro ⟨⟨z1, z2⟩, z3⟩
        refine ⟨z1, fun ⟨y1, y2⟩ => ?_⟩
        rcases y2 with ⟨h', y2, y3⟩ | y2
        · cases y2; exact z2 ⟨y3.symm, y1⟩
        · exact z3 ⟨y1, y2⟩
      · rintro ⟨z1, z2⟩
        exact ⟨⟨z1, fun ⟨y1, y2⟩ => z2 ⟨y2, .inl ⟨h, rfl, y1.symm⟩⟩⟩, fun ⟨y1, y2⟩ => z2 ⟨y1, .inr y2⟩⟩
theorem markD_3 {n m : Nat} {who : Int} {k : K3} : ∀ (ds : List Day) (i : Nat) (T : Tbl K2 × Tbl K3), m ∈ tget (markD n who i ds T).2 k ↔ m ∈ tget T.2 k ∧ ¬ (m = n ∧ hasP who ds i k)
  | [], i, T => ⟨fun h => ⟨h, fun ⟨_, j, d, h, e, _⟩ => by cases e⟩, fun h => h.1⟩
  | d :: ds, i, T => by
    rw [hasP_cons, markD]
    cases e : d.a with
    | none =>
      dsimp only
      rw [markD_3 ds (i + 1) T]
      simp
    | some h =>
      dsimp only
      rw [markD_3 ds (i + 1), mem_tdel]
      constructor
      · rintro ⟨⟨z1, z2⟩, z3⟩
        refine ⟨z1, fun ⟨y1, y2⟩ => ?_⟩
        rcases y2 with ⟨h', y2, y3⟩ | y2
        · exact z2 ⟨y3.symm, y1⟩
        · exact z3 ⟨y1, y2⟩
      · rintro ⟨z1, z2⟩
        exact ⟨⟨z1, fun ⟨y1, y2⟩ => z2 ⟨y2, .inl ⟨h, rfl, y1.symm⟩⟩⟩, fun ⟨y1, y2⟩ => z2 ⟨y1, .inr y2⟩⟩
theorem markA_len {n : Nat} {who : Int} : ∀ (ds : List Day) (i : Nat) (T : Tbl K2 × Tbl K3), (markA n who i ds T).1.length ≤ T.1.length + ds.length ∧ (markA n who i ds T).2.length ≤ T.2.length + ds.length
  | [], i, T => ⟨Nat.le_refl _, Nat.le_refl _⟩
  | d :: ds, i, T => by
    rw [markA, List.length_cons]
    cases e : d.a with
    | none =>
      have := markA_len (n := n) (who := who) ds (i + 1) T
      dsimp only; omega
    | some h =>
      have := markA_len (n := n) (who := who) ds (i + 1) (tadd T.1 ((i : Int), h) n, tadd T.2 (who, (i : Int), d.b) n)
      have h1 := len_tadd (T := T.1) (k := ((i : Int), h)) (n := n)
      have h2 := len_tadd (T := T.2) (k := (who, (i : Int), d.b)) (n := n)
      dsimp only at this ⊢; omega
theorem markD_len {n : Nat} {who : Int} : ∀ (ds : List Day) (i : Nat) (T : Tbl K2 × Tbl K3), (markD n who i ds T).1.length = T.1.length ∧ (markD n who i ds T).2.length = T.2.length
  | [], i, T => ⟨rfl, rfl⟩
  | d :: ds, i, T => by
    rw [markD]
    cases e : d.a with
    | none => exact markD_len ds (i + 1) T
    | some h =>
      have := markD_len (n := n) (who := who) ds (i + 1) (tdel T.1 ((i : Int), h) n, tdel T.2 (who, (i : Int), d.b) n)
      rw [len_tdel, len_tdel] at this
      exact this
theorem tget_key {κ : Type} [DecidableEq κ] {T : Tbl κ} {k : κ} {m : Nat} (h : m ∈ tget T k) : k ∈ keysT T := by
  by_cases hk : k ∈ keysT T
  · exact hk
  · rw [get_none T hk] at h; cases h
theorem mark_del {p : Par} {D H n : Nat} {who : Int} {base : MV} {ds0 : List Day} : ∀ (ds : List Day) (i : Nat) (S : Sto) (a : CAt) (T : Tbl K2 × Tbl K3) (f : Nat → Option MV),
    S[a.c]? = some (calObj p D H a) → a.c ∉ a.fpT → TT S a T → (∀ k, hasR ds i k → n ∈ tget T.1 k) → (∀ k, hasP who ds i k → n ∈ tget T.2 k) →
    ∃ f' S', forGo (fun _ => true) tgDay m_Calendar_mark_s2 (enmI i (ds.map pDay)) (mkEnv a.c n (-1) (.int who) base ds0 f) S = .nx (mkEnv a.c n (-1) (.int who) base ds0 f') S' ∧
      TT S' a (markD n who i ds T) ∧ Chg S S' a.fpT a.fpT
  | [], i, S, a, T, f, hc, hn, tt, _, _ => ⟨f, S, by simp [enmI, forGo], tt, .refl⟩
  | d :: ds, i, S, a, T, f, hc, hn, tt, h2, h3 => by
    let T1 : Tbl K2 × Tbl K3 := match d.a with | none => T | some h => (tdel T.1 ((i : Int), h) n, tdel T.2 (who, (i : Int), d.b) n)
    have step : ∃ (g : Nat → Option MV) (S1 : Sto), turn tgDay m_Calendar_mark_s2 (.tup [.int (i : Nat), pDay d]) (mkEnv a.c n (-1) (.int who) base ds0 f) S = .nx (mkEnv a.c n (-1) (.int who) base ds0 g) S1 ∧ TT S1 a T1 ∧ Chg S S1 a.fpT a.fpT := by
      let g : Nat → Option MV := fun j => if j = 6 then some (.int (i : Nat)) else if j = 7 then some (hv d.a) else if j = 8 then some (hv d.b) else some (.bl d.s)
      cases ea : d.a with
      | none =>
        have eT : T1 = T := by show (match d.a with | none => T | some h => _) = T; rw [ea]
        rw [eT]
        refine ⟨g, S, ?_, tt, .refl⟩
        simp [pDay, mkEnv, m_Calendar_mark_s2, isn_hv, ea, g]
      | some h =>
        have eT : T1 = (tdel T.1 ((i : Int), h) n, tdel T.2 (who, (i : Int), d.b) n) := by show (match d.a with | none => T | some h => _) = _; rw [ea]
        rw [eT]
        have ap := apart tt.nd
        have i2 : n ∈ tget T.1 ((i : Int), h) := h2 _ (hasR_cons.mpr (.inl ⟨h, ea, rfl⟩))
        have i3 : n ∈ tget T.2 (who, (i : Int), d.b) := h3 _ (hasP_cons.mpr (.inl ⟨h, ea, rfl⟩))
        obtain ⟨S1, c1, t1, g1⟩ := count_del (x := .ref a.c) key2 tt.ok2 tt.t2 (tget_key i2) i2
        have hc1 : S1[a.c]? = some (calObj p D H a) := g1.at hc fun m => hn (List.mem_append_left _ m)
        have t31 : TabS S1 a.pe enc3 T.2 a.rs3 := tt.t3.chg g1 ap.2
        obtain ⟨S2, c2, t2, g2⟩ := count_del (x := .ref a.c) key3 tt.ok3 t31 (tget_key i3) i3
        have t22 : TabS S2 a.ro enc2 (tdel T.1 ((i : Int), h) n) a.rs2 := t1.chg g2 ap.1
        refine ⟨g, S2, ?_, ⟨t22, t2, tdel_ok tt.ok2, tdel_ok tt.ok3, tt.nd⟩, ?_⟩
        · have k2 : MV.tup [.int (i : Nat), hv (some h)] = enc2 ((i : Int), h) := rfl
          have k3 : MV.tup [.int who, .int (i : Nat), hv d.b] = enc3 (who, (i : Int), d.b) := rfl
          have f1 := f_rooms hc
          have f2 := f_persons hc1
          have mm : ∀ {X : Sto}, X[a.c]? = some (calObj p D H a) → methM "Calendar" "count" m_Calendar_count (.ref a.c) X = true := fun e => f_meth e (by decide)
          simp [pDay, mkEnv, m_Calendar_mark_s2, isn_hv, ea, m_Calendar_mark_s3, m_Calendar_mark_s4, mMeth, mm hc, mm hc1, f1, f2, k2, k3, c1, c2, g]
        · exact (g1.weak (fun m hm => List.mem_append_left _ hm) (gp' := a.fpT) (fun m hm => .inr hm)).trans (g2.weak (fun m hm => List.mem_append_right _ hm) fun m hm => .inr hm)
    obtain ⟨g, S1, e1, t1, c1⟩ := step
    have hc1 : S1[a.c]? = some (calObj p D H a) := c1.at hc hn
    have stay : (∀ k, hasR ds (i + 1) k → n ∈ tget T1.1 k) ∧ ∀ k, hasP who ds (i + 1) k → n ∈ tget T1.2 k := by
      show (∀ k, hasR ds (i + 1) k → n ∈ tget (match d.a with | none => T | some h => (tdel T.1 ((i : Int), h) n, tdel T.2 (who, (i : Int), d.b) n)).1 k) ∧ ∀ k, hasP who ds (i + 1) k → n ∈ tget (match d.a with | none => T | some h => (tdel T.1 ((i : Int), h) n, tdel T.2 (who, (i : Int), d.b) n)).2 k
      cases ea : d.a with
      | none => exact ⟨fun k hk => h2 k (hasR_cons.mpr (.inr hk)), fun k hk => h3 k (hasP_cons.mpr (.inr hk))⟩
      | some h =>
        refine ⟨fun k hk => ?_, fun k hk => ?_⟩
        · refine mem_tdel.mpr ⟨h2 k (hasR_cons.mpr (.inr hk)), fun ⟨z, _⟩ => ?_⟩
          obtain ⟨j, d', h', _, _, e⟩ := hk
          rw [e] at z
          have := congrArg Prod.fst z
          simp at this; omega
        · refine mem_tdel.mpr ⟨h3 k (hasP_cons.mpr (.inr hk)), fun ⟨z, _⟩ => ?_⟩
          obtain ⟨j, d', h', _, _, e⟩ := hk
          rw [e] at z
          have := congrArg (fun x : K3 => x.2.1) z
          simp at this; omega
    obtain ⟨f', S', e2, t2, c2⟩ := mark_del (p := p) (D := D) (H := H) (who := who) (base := base) (ds0 := ds0) ds (i + 1) S1 a T1 g hc1 hn t1 stay.1 stay.2
    refine ⟨f', S', ?_, ?_, c1.trans c2⟩
    · rw [List.map_cons, enmI, forGo_cons rfl, e1, nxt_nx]
      exact e2
    · have : markD n who i (d :: ds) T = markD n who (i + 1) ds T1 := by
        show (match d.a with | none => _ | some h => _) = markD n who (i + 1) ds (match d.a with | none => T | some h => _)
        cases d.a <;> rfl
      rw [this]; exact t2
end Lw
set_option Elab.async false
set_option linter.all false
set_option maxRecDepth 10000
set_option maxHeartbeats 400000
namespace Lw
open PySem PySem.Spec PyProof.Rows L2 Mi
inductive Deed where
  | add (w h : Int)
  | step (k : Nat) (s : Step)
  deriving DecidableEq
def pDeed : Deed → MV
  | .add w h => .tup [.str "add", .int w, .int h]
  | .step k (.find h) => .tup [.str "find", .int (k : Nat), .int h]
  | .step k (.room h) => .tup [.str "room", .int (k : Nat), .int h]
  | .step k .person => .tup [.str "person", .int (k : Nat)]
  | .step k (.one d h) => .tup [.str "one", .int (k : Nat), .int (d : Nat), .int h]
  | .step k (.off d) => .tup [.str "off", .int (k : Nat), .int (d : Nat)]
  | .step k .tell => .tup [.str "tell", .int (k : Nat)]
@[simp] theorem rf_deed {b : Nat} {d : Deed} : refsB b (pDeed d) = true := by
  cases d with
  | add w h => simp [pDeed, refsB, refsBs]
  | step k s => cases s <;> simp [pDeed, refsB, refsBs]
abbrev Done := Deed × Option Row × Option Row
def pDone (x : Done) : MV := .tup [pDeed x.1, oR x.2.1, oR x.2.2]
structure Cal where
  p : Par
  D : Nat
  H : Nat
  rows : List Row
  before : List (Option Row)
  seen : List (Option Hrs)
  T : Tbl K2 × Tbl K3
  done : List Done
structure CalS (S : Sto) (a : CAt) (x : Cal) : Prop where
  obj : S[a.c]? = some (calObj x.p x.D x.H a)
  rows : S[a.r]? = some (.lst (x.rows.map pRow))
  before : S[a.b]? = some (.lst (x.before.map oR))
  seen : S[a.s]? = some (.lst (x.seen.map oH))
  done : S[a.dn]? = some (.lst (x.done.map pDone))
  tt : TT S a x.T
  nd : a.fp.Nodup
/-- a calendar as plain data -/
def tV {κ : Type} (enc : κ → MV) (T : Tbl κ) : MV := .dcT ((keysT T).map enc) (T.map fun x => dV x.2)
def cv (x : Cal) : MV := .obj "Calendar" calFs [pPar x.p, .int (x.D : Nat), .int (x.H : Nat), .lst (x.rows.map pRow), .lst (x.before.map oR), .lst (x.seen.map oH), tV enc2 x.T.1, tV enc3 x.T.2, .lst (x.done.map pDone)]
theorem tru_map (n : Nat) : tru n = (List.range n).map fun _ => MV.bl true := by simp [tru, List.map_const']
theorem rf_done {b : Nat} {x : Done} : refsB b (pDone x) = true := by simp [pDone, refsB, refsBs, rf_oR]
theorem frz_map {α : Type} {S : Sto} {n : Nat} {f : α → MV} (h : ∀ x, refsB 0 (f x) = true) (xs : List α) : (xs.map f).mapM (frz 0 S n) = some (xs.map f) :=
  frz_nrs 0 S n _ (refs_map fun x _ => h x) (refs_map fun x _ => h x)
theorem rf_enc2 {b : Nat} {k : K2} : refsB b (enc2 k) = true := rfl
theorem rf_enc3 {b : Nat} {k : K3} : refsB b (enc3 k) = true := by simp [enc3, refsB, refsBs]
theorem frz_cells {S : Sto} {n : Nat} : ∀ {κ : Type} (T : Tbl κ) (rs : List Nat), rs.length = T.length → (∀ (i : Nat) (x : κ × List Nat) (r : Nat), T[i]? = some x → rs[i]? = some r → S[r]? = some (dN x.2)) →
    (rs.map MV.ref).mapM (frz 0 S (n + 1)) = some (T.map fun x => dV x.2)
  | _, [], [], _, _ => rfl
  | _, [], _ :: _, h, _ => by cases h
  | _, _ :: _, [], h, _ => by cases h
  | _, x :: T, r :: rs, h, hc => by
    have h0 := hc 0 x r rfl rfl
    have ih := frz_cells (n := n) T rs (by simpa using h) fun i y q e1 e2 => hc (i + 1) y q (by simpa using e1) (by simpa using e2)
    have f0 : frz 0 S (n + 1) (.ref r) = some (dV x.2) := by
      rw [frz, if_neg (Nat.not_lt_zero _), h0]
      have : (tru x.2.length).mapM (frz 0 S n) = some (tru x.2.length) := by
        rw [tru_map]
        exact frz_map (S := S) (n := n) (f := fun _ : Nat => MV.bl true) (fun _ => rfl) (List.range x.2.length)
      simp only [dN, this]; rfl
    rw [List.map_cons, List.mapM_cons, f0, ih]; rfl
theorem frz_tab {κ : Type} {S : Sto} {t : Nat} {enc : κ → MV} {T : Tbl κ} {rs : List Nat} {n : Nat} (h : TabS S t enc T rs) (he : ∀ k, refsB 0 (enc k) = true) : frz 0 S (n + 2) (.ref t) = some (tV enc T) := by
  rw [frz, if_neg (Nat.not_lt_zero _), h.at_]
  dsimp only
  rw [if_pos (refs_map fun k _ => he k), frz_cells T rs h.len h.ce]; rfl
theorem frz_list {α : Type} {S : Sto} {l n : Nat} {f : α → MV} {xs : List α} (h : S[l]? = some (.lst (xs.map f))) (hf : ∀ x, refsB 0 (f x) = true) : frz 0 S (n + 1) (.ref l) = some (.lst (xs.map f)) := by
  rw [frz, if_neg (Nat.not_lt_zero _), h]
  dsimp only
  rw [frz_map hf]; rfl
theorem view_cal {S : Sto} {a : CAt} {x : Cal} (h : CalS S a x) : frz 0 S 8 (.ref a.c) = some (cv x) := by
  rw [frz, if_neg (Nat.not_lt_zero _), h.obj]
  simp only [calObj, List.mapM_cons, List.mapM_nil]
  rw [frz_0 rf_par, frz_list h.rows (fun _ => rf_row), frz_list h.before (fun _ => rf_oR), frz_list h.seen (fun _ => rf_oH), frz_tab h.tt.t2 (fun _ => rf_enc2), frz_tab h.tt.t3 (fun _ => rf_enc3), frz_list h.done (fun _ => rf_done)]
  rfl
theorem rf_tV {κ : Type} {enc : κ → MV} {T : Tbl κ} (he : ∀ k, refsB 0 (enc k) = true) : refsB 0 (tV enc T) = true := by
  have h1 : refsBs 0 ((keysT T).map enc) = true := refs_map fun k _ => he k
  have h2 : refsBs 0 (T.map fun x => dV x.2) = true := refs_map fun x _ => by
    have : ∀ n, refsBs 0 (tru n) = true := fun n => by
      rw [tru_map]
      exact refs_map (b := 0) (f := fun _ : Nat => MV.bl true) (xs := List.range n) fun _ _ => rfl
    simp [dV, refsB, this]
  simp [tV, refsB, h1, h2]
theorem rf_cv {x : Cal} : refsB 0 (cv x) = true := by
  have h1 := refs_map (b := 0) (f := pRow) (xs := x.rows) fun _ _ => rf_row
  have h2 := refs_map (b := 0) (f := oR) (xs := x.before) fun _ _ => rf_oR
  have h3 := refs_map (b := 0) (f := oH) (xs := x.seen) fun _ _ => rf_oH
  have h4 := refs_map (b := 0) (f := pDone) (xs := x.done) fun _ _ => rf_done
  simp [cv, refsB, refsBs, h1, h2, h3, h4, rf_tV (enc := enc2) (fun _ => rf_enc2), rf_tV (enc := enc3) (fun _ => rf_enc3)]
/-- the receiver: the object, or its data -/
def IsCal (S : Sto) (v : MV) (x : Cal) : Prop := frz 0 S 8 v = some (cv x)
theorem is_cv {S : Sto} {x : Cal} : IsCal S (cv x) x := frz_0 rf_cv
theorem view_of {m : MF} {v : MV} {as : List MV} {x : Cal} {S S' : Sto} {d : MV} (hv : IsCal S v x) (ha : refsBs 0 as = true) (h : m (cv x :: as) [] = .ok d S') (hi : imm d = true) : viewF m (v :: as) S = .ok d S := by
  unfold viewF
  have e : (v :: as).mapM (frz 0 S 8) = some (cv x :: as) := by
    rw [List.mapM_cons, show frz 0 S 8 v = some (cv x) from hv, frz_nrs 0 S 8 as ha ha]; rfl
  rw [e]
  simp only [h, hi, if_true]
section
variable {x : Cal} {S : Sto}
@[simp] theorem v_rule : fldM "Calendar" "rule" (cv x) S = .ok (pPar x.p) S := rfl
@[simp] theorem v_days : fldM "Calendar" "days" (cv x) S = .ok (.int (x.D : Nat)) S := rfl
@[simp] theorem v_hours : fldM "Calendar" "hours" (cv x) S = .ok (.int (x.H : Nat)) S := rfl
@[simp] theorem v_rows : fldM "Calendar" "rows" (cv x) S = .ok (.lst (x.rows.map pRow)) S := rfl
@[simp] theorem v_rooms : fldM "Calendar" "rooms" (cv x) S = .ok (tV enc2 x.T.1) S := rfl
@[simp] theorem v_persons : fldM "Calendar" "persons" (cv x) S = .ok (tV enc3 x.T.2) S := rfl
theorem v_meth {mn : Str} {m : MF} (hm : flook calFs [pPar x.p, .int (x.D : Nat), .int (x.H : Nat), .lst (x.rows.map pRow), .lst (x.before.map oR), .lst (x.seen.map oH), tV enc2 x.T.1, tV enc3 x.T.2, .lst (x.done.map pDone)] mn = none) : methM "Calendar" mn m (cv x) S = true := by
  unfold methM objOf
  simp [cv, hm]
/-- what a table's data gives -/
theorem get_tV {κ : Type} [DecidableEq κ] {enc : κ → MV} {T : Tbl κ} {k : κ} (E : KeyEnc enc) (ok : TOk T) : dgetM (tV enc T) [enc k, .dct [] []] S = .ok (dV (tget T k)) S := by
  unfold dgetM
  have e0 : dcTOf S (tV enc T) = some ((keysT T).map enc, T.map fun x => dV x.2) := rfl
  simp only [e0, E.ok, if_true]
  by_cases hk : k ∈ keysT T
  · obtain ⟨i, a, b⟩ := key_at T hk
    have : dlook (canons ((keysT T).map enc)) (T.map fun x => dV x.2) (canon (enc k)) = some (dV (tget T k)) := look_at E _ _ i _ ok.nd a (by rw [List.getElem?_map, b]; rfl)
    rw [this]; rfl
  · have := look_is (vs := T.map fun x => dV x.2) E (x := k) (ks := keysT T) (by simp [keysT])
    rw [decide_eq_false hk] at this
    cases e : dlook (canons ((keysT T).map enc)) (T.map fun x => dV x.2) (canon (enc k)) with
    | none => rw [get_none T hk]; rfl
    | some d => rw [e] at this; cases this
theorem kd_tV {κ : Type} {enc : κ → MV} {T : Tbl κ} : kDcT S (tV enc T) = true := rfl
def onlyN (ns : List Nat) (k : Nat) : Bool := !ns.any fun m => !decide (m = k)
theorem others {ns : List Nat} {k : Nat} : anyM [.lst (ns.map fun m => MV.bl (!decide (m = k)))] S = .ok (.bl (ns.any fun m => !decide (m = k))) S := by
  have : ∀ ns : List Nat, allBl (ns.map fun m => MV.bl (!decide (m = k))) = some (ns.map fun m => !decide (m = k)) := fun ns => by
    induction ns with
    | nil => rfl
    | cons n ns ih => rw [List.map_cons, allBl, ih]; rfl
  unfold anyM
  simp [lstOf, this, seqOf]
end
end Lw
set_option Elab.async false
set_option linter.all false
set_option maxRecDepth 10000
set_option maxHeartbeats 400000
namespace Lw
open PySem PySem.Spec PyProof.Rows L2 Mi
structure CalOk (x : Cal) : Prop where
  D1 : 1 ≤ x.D
  D2 : x.D ≤ 1000
  H1 : 1 ≤ x.H
  H2 : x.H < 1000
  wide : Wide x.D x.rows
  rl : x.rows.length ≤ 800
  bl : x.before.length = x.rows.length
  sl : x.seen.length = x.rows.length
  R2 : ∀ k m, m ∈ tget x.T.1 k ↔ m < x.rows.length ∧ hasR (rowAt x.rows m).days 0 k
  R3 : ∀ k m, m ∈ tget x.T.2 k ↔ m < x.rows.length ∧ hasP (rowAt x.rows m).who (rowAt x.rows m).days 0 k
  ok2 : TOk x.T.1
  ok3 : TOk x.T.2
  nn : ∀ r ∈ x.rows, ∀ d ∈ r.days, d.a = none → d.b = none
  old : ∀ (k : Nat) (o : Row), x.before[k]? = some (some o) → o.days.length = x.D ∧ ∀ j, (dayAt o j).a = none → (dayAt (rowAt x.rows k) j).a = none
theorem only_iff {ns : List Nat} {k : Nat} : onlyN ns k = true ↔ ∀ m ∈ ns, m = k := by
  unfold onlyN
  simp
theorem zip_any {rs : List Row} {f : Row → Nat → Bool} : (rs.zipIdx.any fun x => f x.1 x.2) = true ↔ ∃ m, m < rs.length ∧ f (rowAt rs m) m = true := by
  rw [List.any_eq_true]
  constructor
  · rintro ⟨⟨r, m⟩, hm, h⟩
    have := List.mem_zipIdx hm
    simp at this
    obtain ⟨h1, h2⟩ := this
    refine ⟨m, h1, ?_⟩
    have e : rowAt rs m = r := by
      unfold rowAt
      rw [List.getD_eq_getElem?_getD, List.getElem?_eq_getElem h1, h2]; rfl
    rw [e]; exact h
  · rintro ⟨m, hm, h⟩
    refine ⟨(rowAt rs m, m), ?_, h⟩
    rw [List.mem_zipIdx_iff_getElem?]
    exact row_at hm
theorem free_iff {rs : List Row} {k d : Nat} {h : Option Int} {half : Bool} : free rs k d h half = true ↔ ∀ m, m < rs.length → (half = true → (rowAt rs m).who = (rowAt rs k).who) → (dayAt (rowAt rs m) d).half half = h → m = k := by
  have z := zip_any (rs := rs) (f := fun r i => takes rs k d h half i r)
  unfold free
  rw [Bool.not_eq_true', ← Bool.not_eq_true, z]
  constructor
  · intro hn m hm hw he
    by_cases e : m = k
    · exact e
    · refine absurd ⟨m, hm, ?_⟩ hn
      unfold takes
      cases half <;> simp [e, he] <;> exact hw rfl
  · rintro hall ⟨m, hm, ht⟩
    unfold takes at ht
    simp at ht
    refine ht.1 (hall m hm (fun e => ?_) ht.2.2)
    rcases ht.2.1 with z | z
    · rw [e] at z; cases z
    · exact z
theorem hasR_at {ds : List Day} {d D : Nat} {h : Int} {r : Row} (e : r.days = ds) (hl : ds.length = D) (hd : d < D) : hasR ds 0 ((d : Int), h) ↔ (dayAt r d).a = some h := by
  subst e
  constructor
  · rintro ⟨j, x, h', e1, e2, e3⟩
    have ej : j = d := by have := congrArg Prod.fst e3; simp at this; omega
    have eh : h' = h := by have := congrArg Prod.snd e3; simpa using this.symm
    subst ej; subst eh
    have := day_get hl hd
    rw [e1] at this; cases this; exact e2
  · intro e
    exact ⟨d, dayAt r d, h, day_get hl hd, e, by simp⟩
theorem hasP_at {who w : Int} {d D : Nat} {o : Option Int} {r : Row} (hl : r.days.length = D) (hd : d < D) : hasP who r.days 0 (w, (d : Int), o) ↔ w = who ∧ (∃ h, (dayAt r d).a = some h) ∧ (dayAt r d).b = o := by
  constructor
  · rintro ⟨j, x, h', e1, e2, e3⟩
    have ej : j = d := by have := congrArg (fun z : K3 => z.2.1) e3; simp at this; omega
    have eo : x.b = o := by have := congrArg (fun z : K3 => z.2.2) e3; simpa using this.symm
    have ew : w = who := congrArg Prod.fst e3
    subst ej; subst eo; subst ew
    have := day_get hl hd
    rw [e1] at this; cases this; exact ⟨rfl, ⟨h', e2⟩, rfl⟩
  · rintro ⟨rfl, ⟨h, e⟩, rfl⟩
    exact ⟨d, dayAt r d, h, day_get hl hd, e, by simp⟩
theorem CalOk.room {x : Cal} (ok : CalOk x) {k d : Nat} {h : Int} (hd : d < x.D) : onlyN (tget x.T.1 ((d : Int), h)) k = free x.rows k d (some h) false := by
  rw [Bool.eq_iff_iff, only_iff, free_iff]
  constructor
  · intro hall m hm _ he
    exact hall m ((ok.R2 _ m).mpr ⟨hm, (hasR_at rfl (ok.wide.at hm) hd).mpr he⟩)
  · intro hall m hm
    obtain ⟨h1, h2⟩ := (ok.R2 _ m).mp hm
    exact hall m h1 (fun z => by cases z) ((hasR_at rfl (ok.wide.at h1) hd).mp h2)
theorem day_mem {r : Row} {d D : Nat} (hl : r.days.length = D) (hd : d < D) : dayAt r d ∈ r.days := List.mem_of_getElem? (day_get hl hd)
theorem CalOk.person {x : Cal} (ok : CalOk x) {k d : Nat} {h : Int} (hk : k < x.rows.length) (hd : d < x.D) : onlyN (tget x.T.2 ((rowAt x.rows k).who, (d : Int), some h)) k = free x.rows k d (some h) true := by
  rw [Bool.eq_iff_iff, only_iff, free_iff]
  constructor
  · intro hall m hm hw he
    have he : (dayAt (rowAt x.rows m) d).b = some h := he
    refine hall m ((ok.R3 _ m).mpr ⟨hm, (hasP_at (ok.wide.at hm) hd).mpr ⟨(hw rfl).symm, ?_, he⟩⟩)
    cases ea : (dayAt (rowAt x.rows m) d).a with
    | some h' => exact ⟨h', rfl⟩
    | none =>
      have := ok.nn _ (List.mem_of_getElem? (row_at hm)) _ (day_mem (ok.wide.at hm) hd) ea
      rw [he] at this; cases this
  · intro hall m hm
    obtain ⟨h1, h2⟩ := (ok.R3 _ m).mp hm
    obtain ⟨e1, _, e3⟩ := (hasP_at (ok.wide.at h1) hd).mp h2
    exact hall m h1 (fun _ => e1.symm) e3
theorem ne_nat {m k : Nat} {S : Sto} : neM (.int (m : Nat)) (.int (k : Nat)) S = .ok (.bl (!decide (m = k))) S := by
  have : neM (.int (m : Nat)) (.int (k : Nat)) S = .ok (.bl (!decide ((m : Int) = (k : Int)))) S := by
    rw [neM_sh (x' := .int (m : Nat)) (y' := .int (k : Nat)) rfl rfl rfl rfl (by simp [dpt]) (by simp [dpt])]
    simp [cn]
  rw [this]
  congr 3
  simp
theorem keys_dV {ns : List Nat} {S : Sto} : dksOf (dV ns) S = .ok (.dks (kInts ns)) S := rfl
theorem its_dks {ns : List Nat} : (Src.dks (kInts ns)).items = ns.map pNat := by
  show (kInts ns).map keyMV = _
  simp [kInts, pNat, keyMV]
theorem looks_eq {k : Nat} {ns : List Nat} {ρ : Ev} {S : Sto} {v : Nat} (hl : ns.length < 1000) (h1 : ρ[1]? = some (some (.int (k : Nat)))) (h0 : v ≠ 1) (hv : v < ρ.length) (ok : Sto → Bool) (hok : ok S = true) :
    lcGo ok (tgName v) mTrue (mOp neM (mVar v) (mVar 1)) ρ (ns.map pNat) [] S = .ok (ns.map fun m => .bl (!decide (m = k))) S := by
  rw [lc_map pNat (fun m => .bl (!decide (m = k))) ns rfl hok]
  intro m hm
  rw [turnE_name]
  have g1 : (ρ.set v (some (pNat m)))[v]? = some (some (.int (m : Nat))) := List.getElem?_set_self hv
  have g2 : (ρ.set v (some (pNat m)))[1]? = some (some (.int (k : Nat))) := by rw [List.getElem?_set_ne h0]; exact h1
  simp [g1, g2, ne_nat]
theorem is_room_eq {x : Cal} (ok : CalOk x) {v : MV} {S : Sto} (hv : IsCal S v x) {k d : Nat} {h : Int} (hd : d < x.D) : m_Calendar_is_room [v, .int (k : Nat), .int (d : Nat), .int h] S = .ok (.bl (free x.rows k d (some h) false)) S := by
  refine view_of (S' := []) hv (by simp [refsBs, refsB]) ?_ rfl
  have e : MV.tup [.int (d : Nat), .int h] = enc2 ((d : Int), h) := rfl
  have g := fun S => get_tV (S := S) (k := ((d : Int), h)) key2 ok.ok2
  have z : (tget x.T.1 ((d : Int), h)).length < 1000 := by
    have := nodup_len 900 (tget x.T.1 ((d : Int), h))
    by_cases hk : ((d : Int), h) ∈ keysT x.T.1
    · obtain ⟨i, _, b⟩ := key_at _ hk
      have m := List.mem_of_getElem? b
      have := this (ok.ok2.nn _ m) (ok.ok2.lt _ m)
      omega
    · rw [get_none _ hk]; simp
  have hz := line_k (Nat.le_of_lt z)
  simp [mFn, m_Calendar_is_room_s0, mKeys, e, g, kd_tV, keys_dV, its_dks, hz]
  rw [looks_eq z rfl (by decide) (by simp) _ rfl]
  simp [mkL, others]
  have := ok.room (k := k) (h := h) hd
  unfold onlyN at this
  simp [← this]
theorem is_person_eq {x : Cal} (ok : CalOk x) {v : MV} {S : Sto} (hv : IsCal S v x) {k d : Nat} {h : Int} (hk : k < x.rows.length) (hd : d < x.D) : m_Calendar_is_person [v, .int (k : Nat), .int (d : Nat), .int h] S = .ok (.bl (free x.rows k d (some h) true)) S := by
  refine view_of (S' := []) hv (by simp [refsBs, refsB]) ?_ rfl
  have e : MV.tup [.int (rowAt x.rows k).who, .int (d : Nat), .int h] = enc3 ((rowAt x.rows k).who, (d : Int), some h) := rfl
  have g := fun S => get_tV (S := S) (k := ((rowAt x.rows k).who, (d : Int), some h)) key3 ok.ok3
  have z : (tget x.T.2 ((rowAt x.rows k).who, (d : Int), some h)).length < 1000 := by
    have := nodup_len 900 (tget x.T.2 ((rowAt x.rows k).who, (d : Int), some h))
    by_cases hk : ((rowAt x.rows k).who, (d : Int), some h) ∈ keysT x.T.2
    · obtain ⟨i, _, b⟩ := key_at _ hk
      have m := List.mem_of_getElem? b
      have := this (ok.ok3.nn _ m) (ok.ok3.lt _ m)
      omega
    · rw [get_none _ hk]; simp
  have hz := line_k (Nat.le_of_lt z)
  have ir : ∀ S, idxM (.lst (x.rows.map pRow)) (.int (k : Nat)) S = .ok (pRow (rowAt x.rows k)) S := fun S => ix_lst (by rw [List.getElem?_map, row_at hk]; rfl)
  simp [mFn, m_Calendar_is_person_s0, m_Calendar_is_person_s1, mKeys, ir, e, g, kd_tV, keys_dV, its_dks, hz]
  rw [looks_eq z rfl (by decide) (by simp) _ rfl]
  simp [mkL, others]
  have := ok.person (k := k) (h := h) hk hd
  unfold onlyN at this
  simp [← this]
end Lw
set_option Elab.async false
set_option linter.all false
set_option maxRecDepth 10000
set_option maxHeartbeats 400000
namespace Lw
open PySem PySem.Spec PyProof.Rows L2 Mi
def rowB (p : Par) (H : Int) (rs : List Row) (k : Nat) : Step → Option Row
  | .room h => if p.c ≠ "none" ∧ clash rs k (rowAt rs k).days (rdays p.s H (rowAt rs k) h) false = true then none else some ⟨(rowAt rs k).who, h, rdays p.s H (rowAt rs k) h⟩
  | .person => if p.c = "both" ∧ clash rs k (rowAt rs k).days (pdays (rowAt rs k)) true = true then none else some ⟨(rowAt rs k).who, (rowAt rs k).base, pdays (rowAt rs k)⟩
  | .one d h => if (dayAt (rowAt rs k) d).a = none ∨ (p.c ≠ "none" ∧ free rs k d (some h) false = false) ∨ (p.c = "both" ∧ free rs k d (some h) true = false) then none
    else some ⟨(rowAt rs k).who, (rowAt rs k).base, (rowAt rs k).days.set d ⟨some h, some h, true⟩⟩
  | .off d => if (dayAt (rowAt rs k) d).a = none then none else some ⟨(rowAt rs k).who, (rowAt rs k).base, (rowAt rs k).days.set d ⟨none, none, false⟩⟩
  | _ => none
section
variable {x : Cal} {v : MV} {S : Sto} {k : Nat}
theorem ix_prow (hk : k < x.rows.length) : idxM (.lst (x.rows.map pRow)) (.int (k : Nat)) S = .ok (pRow (rowAt x.rows k)) S := ix_lst (by rw [List.getElem?_map, row_at hk]; rfl)
theorem imm_oR {o : Option Row} : imm (oR o) = true := by
  have ms : ∀ {α : Type} (f : α → MV) (_ : ∀ x, imm (f x) = true) (xs : List α), imms (xs.map f) = true := by
    intro α f hf xs
    induction xs with
    | nil => rfl
    | cons y ys ih => rw [List.map_cons, imms, hf, ih]; rfl
  cases o with
  | none => rfl
  | some r =>
    have hd : ∀ d : Day, imm (pDay d) = true := fun d => by
      obtain ⟨a, b, s⟩ := d
      cases a <;> cases b <;> rfl
    have := ms pDay hd r.days
    simp [oR, pRow, imm, imms, this]
theorem v_isroom : methM "Calendar" "is_room" m_Calendar_is_room (cv x) S = true := v_meth rfl
theorem v_isperson : methM "Calendar" "is_person" m_Calendar_is_person (cv x) S = true := v_meth rfl
theorem zip_rdays {s : Str} {H : Int} {r : Row} {h : Int} {y : (Day × Day) × Nat} (hy : y ∈ (r.days.zip (rdays s H r h)).zipIdx) : y.1.2 = rday s H r.base y.1.1 h := by
  have e := mem_zi hy
  rw [List.getElem?_zip_eq_some] at e
  obtain ⟨e1, e2⟩ := e
  unfold rdays at e2
  rw [List.getElem?_map, e1] at e2
  exact (Option.some.inj e2).symm
theorem zip_pdays {r : Row} {y : (Day × Day) × Nat} (hy : y ∈ (r.days.zip (pdays r)).zipIdx) : y.1.1 ∈ r.days ∧ y.1.2 = ⟨y.1.1.a, y.1.1.a, y.1.1.s⟩ := by
  have e := mem_zi hy
  rw [List.getElem?_zip_eq_some] at e
  obtain ⟨e1, e2⟩ := e
  unfold pdays at e2
  rw [List.getElem?_map, e1] at e2
  exact ⟨List.mem_of_getElem? e1, (Option.some.inj e2).symm⟩
theorem room_row_eq (ok : CalOk x) (hv' : IsCal S v x) (hk : k < x.rows.length) {h : Int} : m_Calendar_room_row [v, .int (k : Nat), .int h] S = .ok (oR (rowB x.p x.H x.rows k (.room h))) S := by
  refine view_of (S' := []) hv' (by simp [refsBs, refsB]) ?_ imm_oR
  have W := ok.wide
  have hd : (rowAt x.rows k).days.length ≤ sizeLine := by rw [W.at hk]; exact line_k ok.D2
  have h0 : (0 : Int) < (x.H : Nat) := by have := ok.H1; omega
  have h1 : ((x.H : Nat) : Int) < 1073741824 := by have := ok.H2; omega
  have ir := fun S => ix_prow (S := S) hk
  have un : ∀ (ρ : Ev), (tgTup (tgCons (tgName 4) (tgCons (tgName 5) (tgCons (tgName 6) tgNil)))).f (pRow (rowAt x.rows k)) ρ = some (((ρ.set 4 (some (.int (rowAt x.rows k).who))).set 5 (some (.int (rowAt x.rows k).base))).set 6 (some (.tup ((rowAt x.rows k).days.map pDay)))) := fun _ => rfl
  simp [mFn, m_Calendar_room_row_s0, m_Calendar_room_row_s1, ir, un, hd]
  rw [lc_map pDay (fun d => pDay (rday x.p.s x.H (rowAt x.rows k).base d h)) (rowAt x.rows k).days rfl (by simp)]
  · rw [show ((rowAt x.rows k).days.map fun d => pDay (rday x.p.s x.H (rowAt x.rows k).base d h)) = (rdays x.p.s x.H (rowAt x.rows k) h).map pDay by simp [rdays]]
    by_cases hc : x.p.c = "none"
    · simp [m_Calendar_room_row_s2, pPar, hc, m_Calendar_room_row_s6, rowB, oR, pRow, mkL]
    · simp [m_Calendar_room_row_s2, m_Calendar_room_row_s3, pPar, hc, mkL]
      refine for_out [7, 8, 9] (fun y : (Day × Day) × Nat => .tup [.int (y.2 : Nat), .tup [pDay y.1.1, pDay y.1.2]]) (fun y => !decide (y.1.1.half false = y.1.2.half false) && !free x.rows k y.2 (y.1.2.half false) false) .non (((rowAt x.rows k).days.zip (rdays x.p.s x.H (rowAt x.rows k) h)).zipIdx) rfl (by simp) ?_ ?_ ?_
      · intro y hy f
        have hx2 : y.2 < x.D := by
          have := (List.getElem?_eq_some_iff.mp (mem_zi hy)).1
          rw [List.length_zip, W.at hk] at this
          omega
        have e2 := zip_rdays hy
        cases ea : y.1.2.a with
        | none =>
          have : y.1.1.a = none := by
            rw [e2] at ea
            unfold rday at ea
            cases ez : y.1.1.a with
            | none => rfl
            | some a0 =>
              rw [ez] at ea
              dsimp only at ea
              split at ea
              · rw [ez] at ea; cases ea
              · split at ea <;> cases ea
          simp [m_Calendar_room_row_s4, Day.half, ea, this]
        | some h' =>
          have f1 : ∀ S, m_Calendar_is_room [cv x, .int (k : Nat), .int (y.2 : Nat), hv y.1.2.a] S = .ok (.bl (free x.rows k y.2 y.1.2.a false)) S := fun S => by
            rw [ea]; exact is_room_eq ok is_cv hx2
          simp [m_Calendar_room_row_s4, m_Calendar_room_row_s5, mMeth, v_isroom, f1, Day.half]
          split <;> simp_all
      · intro h1
        rw [clash_eq] at h1
        simp [rowB, hc, h1, oR]
      · intro h1 f
        rw [clash_eq] at h1
        simp [m_Calendar_room_row_s6, rowB, hc, h1, oR, pRow]
  · intro d hd'
    simp [room_day_eq h0 h1, ir]
theorem person_row_eq (ok : CalOk x) (hv' : IsCal S v x) (hk : k < x.rows.length) : m_Calendar_person_row [v, .int (k : Nat)] S = .ok (oR (rowB x.p x.H x.rows k .person)) S := by
  refine view_of (S' := []) hv' (by simp [refsBs, refsB]) ?_ imm_oR
  have W := ok.wide
  have hd : (rowAt x.rows k).days.length ≤ sizeLine := by rw [W.at hk]; exact line_k ok.D2
  have ir := fun S => ix_prow (S := S) hk
  have un : ∀ (ρ : Ev), (tgTup (tgCons (tgName 3) (tgCons (tgName 4) (tgCons (tgName 5) tgNil)))).f (pRow (rowAt x.rows k)) ρ = some (((ρ.set 3 (some (.int (rowAt x.rows k).who))).set 4 (some (.int (rowAt x.rows k).base))).set 5 (some (.tup ((rowAt x.rows k).days.map pDay)))) := fun _ => rfl
  simp [mFn, m_Calendar_person_row_s0, m_Calendar_person_row_s1, ir, un, hd]
  rw [lc_map pDay (fun d => pDay ⟨d.a, d.a, d.s⟩) (rowAt x.rows k).days rfl (by simp)]
  · rw [show ((rowAt x.rows k).days.map fun d => pDay ⟨d.a, d.a, d.s⟩) = (pdays (rowAt x.rows k)).map pDay by simp [pdays]]
    by_cases hc : x.p.c = "both"
    · simp [m_Calendar_person_row_s2, m_Calendar_person_row_s3, pPar, hc, mkL]
      refine for_out [6, 7, 8] (fun y : (Day × Day) × Nat => .tup [.int (y.2 : Nat), .tup [pDay y.1.1, pDay y.1.2]]) (fun y => !decide (y.1.1.half true = y.1.2.half true) && !free x.rows k y.2 (y.1.2.half true) true) .non (((rowAt x.rows k).days.zip (pdays (rowAt x.rows k))).zipIdx) rfl (by simp) ?_ ?_ ?_
      · intro y hy f
        have hx2 : y.2 < x.D := by
          have := (List.getElem?_eq_some_iff.mp (mem_zi hy)).1
          rw [List.length_zip, W.at hk] at this
          omega
        obtain ⟨m1, e2⟩ := zip_pdays hy
        cases ea : y.1.2.b with
        | none =>
          have e3 : y.1.1.a = none := by rw [e2] at ea; exact ea
          have : y.1.1.b = none := ok.nn _ (List.mem_of_getElem? (row_at hk)) _ m1 e3
          simp [m_Calendar_person_row_s4, Day.half, ea, this]
        | some h' =>
          have f1 : ∀ S, m_Calendar_is_person [cv x, .int (k : Nat), .int (y.2 : Nat), hv y.1.2.b] S = .ok (.bl (free x.rows k y.2 y.1.2.b true)) S := fun S => by
            rw [ea]; exact is_person_eq ok is_cv hk hx2
          simp [m_Calendar_person_row_s4, m_Calendar_person_row_s5, mMeth, v_isperson, f1, Day.half]
          split <;> simp_all
      · intro h1
        rw [clash_eq] at h1
        simp [rowB, hc, h1, oR]
      · intro h1 f
        rw [clash_eq] at h1
        simp [m_Calendar_person_row_s6, rowB, hc, h1, oR, pRow]
    · simp [m_Calendar_person_row_s2, pPar, hc, m_Calendar_person_row_s6, rowB, oR, pRow, mkL]
  · intro d hd'
    simp [pDay]
theorem day_row_eq (ok : CalOk x) (hv' : IsCal S v x) (hk : k < x.rows.length) {d : Nat} (hd : d < x.D) {s : Step} {o : Option Int} (hs : (∃ h, s = .one d h ∧ o = some h) ∨ (s = .off d ∧ o = none)) :
    m_Calendar_day_row [v, .int (k : Nat), .int (d : Nat), hv o] S = .ok (oR (rowB x.p x.H x.rows k s)) S := by
  refine view_of (S' := []) hv' (by simp [refsBs, refsB]) ?_ imm_oR
  have W := ok.wide
  have ir := fun S => ix_prow (S := S) hk
  have un : ∀ (ρ : Ev), (tgTup (tgCons (tgName 4) (tgCons (tgName 5) (tgCons (tgName 6) tgNil)))).f (pRow (rowAt x.rows k)) ρ = some (((ρ.set 4 (some (.int (rowAt x.rows k).who))).set 5 (some (.int (rowAt x.rows k).base))).set 6 (some (.tup ((rowAt x.rows k).days.map pDay)))) := fun _ => rfl
  have i1 : ∀ S, idxM (.tup ((rowAt x.rows k).days.map pDay)) (.int (d : Int)) S = .ok (pDay (dayAt (rowAt x.rows k) d)) S := fun S => ix_pdays (W.at hk) hd
  have e := fun y => set_tup4 (xs := (rowAt x.rows k).days.map pDay) (k := d) (x := y) (by simpa [W.at hk] using hd) (by simpa [W.at hk] using ok.D2)
  rcases hs with ⟨h, rfl, rfl⟩ | ⟨rfl, rfl⟩
  · obtain ⟨e1, e2, e3, e4⟩ := e (pDay ⟨some h, some h, true⟩)
    have hp : pDay ⟨some h, some h, true⟩ = .tup [.int h, .int h, .bl true] := rfl
    rw [hp] at e2 e4
    have f1 := fun S => is_room_eq (S := S) (k := k) (h := h) ok is_cv hd
    have f2 := fun S => is_person_eq (S := S) (k := k) (h := h) ok is_cv hk hd
    have z : hv (some h) = .int h := rfl
    have q : ∀ S, isnM (.int h) .non S = .ok (.bl true) S := fun _ => rfl
    simp [mFn, m_Calendar_day_row_s0, m_Calendar_day_row_s1, m_Calendar_day_row_s2, m_Calendar_day_row_s3, m_Calendar_day_row_s4, m_Calendar_day_row_s5, m_Calendar_day_row_s6, m_Calendar_day_row_s7, ir, un, i1, z, q, e1, e2, e3, e4, pPar, mMeth, v_isroom, v_isperson, f1, f2, rowB]
    repeat' split
    all_goals simp_all [oR, pRow, List.map_set]
  · obtain ⟨e1, e2, e3, e4⟩ := e (pDay ⟨none, none, false⟩)
    have hp : pDay ⟨none, none, false⟩ = .tup [.non, .non, .bl false] := rfl
    rw [hp] at e2 e4
    have z : hv none = .non := rfl
    simp [mFn, m_Calendar_day_row_s0, m_Calendar_day_row_s1, m_Calendar_day_row_s2, m_Calendar_day_row_s3, m_Calendar_day_row_s4, m_Calendar_day_row_s5, m_Calendar_day_row_s6, m_Calendar_day_row_s7, ir, un, i1, z, e1, e2, e3, e4, pPar, rowB]
    repeat' split
    all_goals simp_all [oR, pRow, List.map_set]
end
end Lw
set_option Elab.async false
set_option linter.all false
set_option maxRecDepth 10000
set_option maxHeartbeats 400000
namespace Lw
open PySem PySem.Spec PyProof.Rows L2 Mi
def SeOk (x : Cal) : Step → Prop
  | .room h => 0 ≤ h ∧ h < x.H
  | .person => True
  | .one d h => d < x.D ∧ 0 ≤ h ∧ h < x.H
  | .off d => d < x.D
  | _ => False
section
variable {x : Cal} {v : MV} {S : Sto} {k : Nat}
theorem w_inW {neg : Bool} {kvs : List (Str × Int)} {m : ME} {ρ : Ev} : inW neg kvs m ρ S = (m ρ S).bind fun d S1 => match d with
  | .str z => .ok (.bl (xor neg (kvs.lookup z).isSome)) S1
  | _ => .stk := rfl
theorem w_ixW {kvs : List (Str × Int)} {m : ME} {ρ : Ev} : ixW kvs m ρ S = (m ρ S).bind fun d S1 => match d with
  | .str z => (match kvs.lookup z with
    | some i => .ok (.int i) S1
    | none => .stk)
  | _ => .stk := rfl
theorem is_deed_eq (ok : CalOk x) (hv' : IsCal S v x) (hk : k < x.rows.length) {s : Step} (hs : SeOk x s) : m_Calendar_is_deed [v, pDeed (.step k s)] S = .ok (.bl true) S := by
  refine view_of (S' := []) hv' (by simp [refsBs]) ?_ rfl
  have l := ok.rl
  have a0 : (0 : Int) ≤ k := by omega
  have a1 : (k : Int) ≤ (x.rows.length : Nat) - 1 := by omega
  have hz := line_k (n := x.rows.length) (by omega)
  have l1 : tab_SIZES.lookup ("room" : Str) = some 3 := by decide
  have l2 : tab_SIZES.lookup ("person" : Str) = some 2 := by decide
  have l3 : tab_SIZES.lookup ("one" : Str) = some 4 := by decide
  have l4 : tab_SIZES.lookup ("off" : Str) = some 3 := by decide
  cases s with
  | find h => exact hs.elim
  | tell => exact hs.elim
  | room h =>
    have b1 : h ≤ (x.H : Nat) - 1 := by have := hs.2; omega
    simp [mFn, pDeed, m_Calendar_is_deed_s0, m_Calendar_is_deed_s1, m_Calendar_is_deed_s2, m_Calendar_is_deed_s3, m_Calendar_is_deed_s4, m_Calendar_is_deed_s5, w_inW, w_ixW, l1, a1, hs.1, b1]
  | person =>
    simp [mFn, pDeed, m_Calendar_is_deed_s0, m_Calendar_is_deed_s1, m_Calendar_is_deed_s2, m_Calendar_is_deed_s3, m_Calendar_is_deed_s4, m_Calendar_is_deed_s5, m_Calendar_is_deed_s6, m_Calendar_is_deed_s7, w_inW, w_ixW, l2, a1]
  | one d h =>
    have b1 : h ≤ (x.H : Nat) - 1 := by have := hs.2.2; omega
    have b2 : (d : Int) ≤ (x.D : Nat) - 1 := by have := hs.1; omega
    simp [mFn, pDeed, m_Calendar_is_deed_s0, m_Calendar_is_deed_s1, m_Calendar_is_deed_s2, m_Calendar_is_deed_s3, m_Calendar_is_deed_s4, m_Calendar_is_deed_s5, m_Calendar_is_deed_s6, m_Calendar_is_deed_s7, m_Calendar_is_deed_s8, m_Calendar_is_deed_s9, m_Calendar_is_deed_s10, w_inW, w_ixW, l3, a1, hs.2.1, b1, b2]
  | off d =>
    have b2 : (d : Int) ≤ (x.D : Nat) - 1 := by have : d < x.D := hs; omega
    simp [mFn, pDeed, m_Calendar_is_deed_s0, m_Calendar_is_deed_s1, m_Calendar_is_deed_s2, m_Calendar_is_deed_s3, m_Calendar_is_deed_s4, m_Calendar_is_deed_s5, m_Calendar_is_deed_s6, m_Calendar_is_deed_s7, m_Calendar_is_deed_s8, m_Calendar_is_deed_s9, m_Calendar_is_deed_s10, w_inW, w_ixW, l4, a1, b2]
theorem row_behind_eq (ok : CalOk x) (hv' : IsCal S v x) (hk : k < x.rows.length) {s : Step} (hs : SeOk x s) : m_Calendar_row_behind [v, pDeed (.step k s)] S = .ok (oR (rowB x.p x.H x.rows k s)) S := by
  refine view_of (S' := []) hv' (by simp [refsBs]) ?_ imm_oR
  cases s with
  | find h => exact hs.elim
  | tell => exact hs.elim
  | room h =>
    have e := fun S => room_row_eq (S := S) (k := k) (h := h) ok is_cv hk
    have m1 : methM "Calendar" "room_row" m_Calendar_room_row (cv x) [] = true := v_meth rfl
    simp [mFn, pDeed, m_Calendar_row_behind_s0, m_Calendar_row_behind_s1, mMeth, m1, e]
  | person =>
    have e := fun S => person_row_eq (S := S) (k := k) ok is_cv hk
    have m1 : methM "Calendar" "person_row" m_Calendar_person_row (cv x) [] = true := v_meth rfl
    simp [mFn, pDeed, m_Calendar_row_behind_s0, m_Calendar_row_behind_s1, m_Calendar_row_behind_s2, m_Calendar_row_behind_s3, mMeth, m1, e]
  | one d h =>
    have e := fun S => day_row_eq (S := S) (k := k) ok is_cv hk hs.1 (s := .one d h) (o := some h) (.inl ⟨h, rfl, rfl⟩)
    have m1 : methM "Calendar" "day_row" m_Calendar_day_row (cv x) [] = true := v_meth rfl
    have z : hv (some h) = .int h := rfl
    rw [z] at e
    simp [mFn, pDeed, m_Calendar_row_behind_s0, m_Calendar_row_behind_s1, m_Calendar_row_behind_s2, m_Calendar_row_behind_s3, m_Calendar_row_behind_s4, mMeth, m1, e]
  | off d =>
    have e := fun S => day_row_eq (S := S) (k := k) ok is_cv hk (show d < x.D from hs) (s := .off d) (o := none) (.inr ⟨rfl, rfl⟩)
    have m1 : methM "Calendar" "day_row" m_Calendar_day_row (cv x) [] = true := v_meth rfl
    have z : hv none = .non := rfl
    rw [z] at e
    simp [mFn, pDeed, m_Calendar_row_behind_s0, m_Calendar_row_behind_s1, m_Calendar_row_behind_s2, m_Calendar_row_behind_s3, m_Calendar_row_behind_s4, mMeth, m1, e]
end
end Lw
set_option Elab.async false
set_option linter.all false
set_option maxRecDepth 10000
set_option maxHeartbeats 400000
namespace Lw
open PySem PySem.Spec PyProof.Rows L2 Mi
section
variable {S : Sto} {p : Par} {D H k : Nat} {a : CAt} {rows : List Row} {T : Tbl K2 × Tbl K3}
theorem ix_rrow (hr : S[a.r]? = some (.lst (rows.map pRow))) (hk : k < rows.length) : idxM (.ref a.r) (.int (k : Nat)) S = .ok (pRow (rowAt rows k)) S := ix_ref hr (by rw [List.getElem?_map, row_at hk]; rfl)
theorem mark_start {sg : Int} {rest : Ev → Sto → RS} (hc : S[a.c]? = some (calObj p D H a)) (hr : S[a.r]? = some (.lst (rows.map pRow))) (hk : k < rows.length) (hl : (rowAt rows k).days.length ≤ 1000) :
    m_Calendar_mark [.ref a.c, .int (k : Nat), .int sg] S = toR (forGo (fun _ => true) tgDay m_Calendar_mark_s2 (enmI 0 ((rowAt rows k).days.map pDay)) (mkEnv a.c k sg (.int (rowAt rows k).who) (.int (rowAt rows k).base) (rowAt rows k).days fun _ => none) S) := by
  have ir := ix_rrow hr hk
  have fr := f_rows hc
  have hz := line_k hl
  have un : ∀ (ρ : Ev), (tgTup (tgCons (tgName 3) (tgCons (tgName 4) (tgCons (tgName 5) tgNil)))).f (pRow (rowAt rows k)) ρ = some (((ρ.set 3 (some (.int (rowAt rows k).who))).set 4 (some (.int (rowAt rows k).base))).set 5 (some (.tup ((rowAt rows k).days.map pDay)))) := fun _ => rfl
  simp [m_Calendar_mark, mFn, m_Calendar_mark_s0, m_Calendar_mark_s1, fr, ir, un, hz]
  rfl
theorem cal_mark_add (hk9 : k < 900) (hc : S[a.c]? = some (calObj p D H a)) (hn : a.c ∉ a.fpT) (hr : S[a.r]? = some (.lst (rows.map pRow))) (hk : k < rows.length) (hl : (rowAt rows k).days.length ≤ 1000) (tt : TT S a T) (l2 : T.1.length < 900000) (l3 : T.2.length < 900000) :
    ∃ S' rs2 rs3, m_Calendar_mark [.ref a.c, .int (k : Nat), .int 1] S = .ok .non S' ∧ TT S' { a with rs2 := rs2, rs3 := rs3 } (markA k (rowAt rows k).who 0 (rowAt rows k).days T) ∧ Chg S S' a.fpT (CAt.fpT { a with rs2 := rs2, rs3 := rs3 }) := by
  obtain ⟨f', S', rs2, rs3, e, t, c⟩ := mark_add (p := p) (D := D) (H := H) (who := (rowAt rows k).who) (base := .int (rowAt rows k).base) (ds0 := (rowAt rows k).days) hk9 (rowAt rows k).days 0 S a T (fun _ => none) hc hn tt (by omega) (by omega)
  refine ⟨S', rs2, rs3, ?_, t, c⟩
  rw [mark_start (rest := fun ρ S => .nx ρ S) hc hr hk hl, e]; rfl
theorem cal_mark_del (hc : S[a.c]? = some (calObj p D H a)) (hn : a.c ∉ a.fpT) (hr : S[a.r]? = some (.lst (rows.map pRow))) (hk : k < rows.length) (hl : (rowAt rows k).days.length ≤ 1000) (tt : TT S a T)
    (h2 : ∀ q, hasR (rowAt rows k).days 0 q → k ∈ tget T.1 q) (h3 : ∀ q, hasP (rowAt rows k).who (rowAt rows k).days 0 q → k ∈ tget T.2 q) :
    ∃ S', m_Calendar_mark [.ref a.c, .int (k : Nat), .int (-1)] S = .ok .non S' ∧ TT S' a (markD k (rowAt rows k).who 0 (rowAt rows k).days T) ∧ Chg S S' a.fpT a.fpT := by
  obtain ⟨f', S', e, t, c⟩ := mark_del (p := p) (D := D) (H := H) (who := (rowAt rows k).who) (base := .int (rowAt rows k).base) (ds0 := (rowAt rows k).days) (rowAt rows k).days 0 S a T (fun _ => none) hc hn tt h2 h3
  refine ⟨S', ?_, t, c⟩
  rw [mark_start (rest := fun ρ S => .nx ρ S) hc hr hk hl, e]; rfl
end
/-- the calendar with another row of a series -/
def putT (T : Tbl K2 × Tbl K3) (rows : List Row) (k : Nat) (r : Row) : Tbl K2 × Tbl K3 := markA k r.who 0 r.days (markD k (rowAt rows k).who 0 (rowAt rows k).days T)
theorem rowAt_set {rs : List Row} {k m : Nat} {r : Row} (hk : k < rs.length) : rowAt (rs.set k r) m = if m = k then r else rowAt rs m := by
  unfold rowAt
  rw [List.getD_eq_getElem?_getD, List.getD_eq_getElem?_getD]
  by_cases e : m = k
  · subst e
    rw [if_pos rfl, List.getElem?_set_self hk]; rfl
  · rw [if_neg e, List.getElem?_set_ne (Ne.symm e)]
/-- the parts of the footprint, apart -/
structure Apart (a : CAt) : Prop where
  c : a.c ∉ a.fpT
  r : a.r ∉ a.fpT
  b : a.b ∉ a.fpT
  s : a.s ∉ a.fpT
  dn : a.dn ∉ a.fpT
  cr : a.c ≠ a.r
  cb : a.c ≠ a.b
  cs : a.c ≠ a.s
  cd : a.c ≠ a.dn
  rb : a.r ≠ a.b
  rs : a.r ≠ a.s
  rd : a.r ≠ a.dn
  bs : a.b ≠ a.s
  bd : a.b ≠ a.dn
  sd : a.s ≠ a.dn
theorem apart_of {a : CAt} (nd : a.fp.Nodup) : Apart a := by
  unfold CAt.fp at nd
  simp only [List.cons_append, List.nil_append, List.nodup_cons, List.mem_cons, not_or] at nd
  obtain ⟨⟨h1, h2, h3, h4, h5⟩, ⟨g1, g2, g3, g4⟩, ⟨k1, k2, k3⟩, ⟨l1, l2⟩, m1, _⟩ := nd
  exact ⟨h5, g4, k3, l2, m1, h1, h2, h3, h4, g1, g2, g3, k1, k2, l1⟩
theorem fp_of {a : CAt} (h : Apart a) (nd : a.fpT.Nodup) : a.fp.Nodup := by
  unfold CAt.fp
  simp only [List.cons_append, List.nil_append, List.nodup_cons, List.mem_cons, not_or]
  exact ⟨⟨h.cr, h.cb, h.cs, h.cd, h.c⟩, ⟨h.rb, h.rs, h.rd, h.r⟩, ⟨h.bs, h.bd, h.b⟩, ⟨h.sd, h.s⟩, h.dn, nd⟩
theorem Apart.chg {S S' : Sto} {a a' : CAt} (h : Apart a) (c : Chg S S' a.fpT a'.fpT) (e : a' = { a with rs2 := a'.rs2, rs3 := a'.rs3 }) (lc : a.c < S.length) (lr : a.r < S.length) (lb : a.b < S.length) (ls : a.s < S.length) (ld : a.dn < S.length) : Apart a' := by
  have go : ∀ n, n < S.length → n ∉ a.fpT → n ∉ a'.fpT := fun n hn h m => by
    rcases c.new n m with z | z
    · exact h z
    · omega
  have ec : a'.c = a.c := by rw [e]
  have er : a'.r = a.r := by rw [e]
  have eb : a'.b = a.b := by rw [e]
  have es : a'.s = a.s := by rw [e]
  have ed : a'.dn = a.dn := by rw [e]
  exact ⟨by rw [ec]; exact go _ lc h.c, by rw [er]; exact go _ lr h.r, by rw [eb]; exact go _ lb h.b, by rw [es]; exact go _ ls h.s, by rw [ed]; exact go _ ld h.dn,
    by rw [ec, er]; exact h.cr, by rw [ec, eb]; exact h.cb, by rw [ec, es]; exact h.cs, by rw [ec, ed]; exact h.cd, by rw [er, eb]; exact h.rb, by rw [er, es]; exact h.rs, by rw [er, ed]; exact h.rd, by rw [eb, es]; exact h.bs, by rw [eb, ed]; exact h.bd, by rw [es, ed]; exact h.sd⟩
theorem lt_of {S : Sto} {n : Nat} {o : MO} (h : S[n]? = some o) : n < S.length := (List.getElem?_eq_some_iff.mp h).1
theorem put_eq {S : Sto} {a : CAt} {x : Cal} (h : CalS S a x) (ok : CalOk x) {k : Nat} (hk : k < x.rows.length) {r : Row} (hw : r.days.length = x.D) (l2 : x.T.1.length < 800000) (l3 : x.T.2.length < 800000) :
    ∃ S' rs2 rs3, m_Calendar_put [.ref a.c, .int (k : Nat), pRow r] S = .ok .non S' ∧ CalS S' { a with rs2 := rs2, rs3 := rs3 } { x with rows := x.rows.set k r, T := putT x.T x.rows k r } ∧ Chg S S' a.fp (CAt.fp { a with rs2 := rs2, rs3 := rs3 }) := by
  have ap := apart_of h.nd
  have hl : (rowAt x.rows k).days.length ≤ 1000 := by rw [ok.wide.at hk]; exact ok.D2
  have k9 : k < 900 := by have := ok.rl; omega
  obtain ⟨S1, e1, t1, c1⟩ := cal_mark_del h.obj ap.c h.rows hk hl h.tt (fun q hq => (ok.R2 q k).mpr ⟨hk, hq⟩) (fun q hq => (ok.R3 q k).mpr ⟨hk, hq⟩)
  have o1 := c1.at h.obj ap.c
  have r1 := c1.at h.rows ap.r
  have st : setM (.ref a.r) (.int (k : Nat)) (pRow r) S1 = some (S1.set a.r (.lst ((x.rows.set k r).map pRow))) := by
    rw [setl r1 (by simpa using hk), List.map_set]
  let S2 : Sto := S1.set a.r (.lst ((x.rows.set k r).map pRow))
  have c2 : Chg S1 S2 [a.r] [a.r] := ⟨by simp [S2], fun n hn hf => by
    have : ¬ a.r = n := fun e => hf (by simp [e])
    exact List.getElem?_set_ne this, fun n hn => .inl hn⟩
  have nr : ∀ n, n ≠ a.r → n ∉ [a.r] := fun n hn m => hn (by simpa using m)
  have o2 := c2.at o1 (nr _ ap.cr)
  have r2 : S2[a.r]? = some (.lst ((x.rows.set k r).map pRow)) := List.getElem?_set_self (lt_of r1)
  have t2 : TT S2 a (markD k (rowAt x.rows k).who 0 (rowAt x.rows k).days x.T) := by
    have out : ∀ n ∈ a.fpT, n ∉ [a.r] := fun n hn m => ap.r (List.mem_singleton.mp m ▸ hn)
    exact ⟨t1.t2.chg c2 fun n hn => out n (List.mem_append_left _ hn), t1.t3.chg c2 fun n hn => out n (List.mem_append_right _ hn), t1.ok2, t1.ok3, t1.nd⟩
  have hk2 : k < (x.rows.set k r).length := by rw [List.length_set]; exact hk
  have er : rowAt (x.rows.set k r) k = r := by rw [rowAt_set hk, if_pos rfl]
  have lD := markD_len (n := k) (who := (rowAt x.rows k).who) (rowAt x.rows k).days 0 x.T
  obtain ⟨S3, rs2, rs3, e3, t3, c3⟩ := cal_mark_add k9 o2 ap.c r2 hk2 (by rw [er, hw]; exact ok.D2) t2 (by omega) (by omega)
  rw [er] at t3
  refine ⟨S3, rs2, rs3, ?_, ⟨c3.at o2 ap.c, c3.at r2 ap.r, ?_, ?_, ?_, t3, ?_⟩, ?_⟩
  · have m1 : ∀ {X : Sto}, X[a.c]? = some (calObj x.p x.D x.H a) → methM "Calendar" "mark" m_Calendar_mark (.ref a.c) X = true := fun e => f_meth e (by decide)
    have fr := f_rows o1
    have st : setM (.ref a.r) (.int (k : Nat)) (pRow r) S1 = some S2 := st
    have m2 := m1 o2
    clear_value S2
    simp [m_Calendar_put, mFn, m_Calendar_put_s0, m_Calendar_put_s1, m_Calendar_put_s2, mMeth, mSub, m1 h.obj, e1, fr, st, m2, e3]
  · exact c3.at (c2.at (c1.at h.before ap.b) (nr _ ap.rb.symm)) ap.b
  · exact c3.at (c2.at (c1.at h.seen ap.s) (nr _ ap.rs.symm)) ap.s
  · exact c3.at (c2.at (c1.at h.done ap.dn) (nr _ ap.rd.symm)) ap.dn
  · refine fp_of (ap.chg (a' := { a with rs2 := rs2, rs3 := rs3 }) (S := S2) (S' := S3) c3 rfl (lt_of o2) (lt_of r2) ?_ ?_ ?_) t3.nd
    · exact lt_of (c2.at (c1.at h.before ap.b) (nr _ ap.rb.symm))
    · exact lt_of (c2.at (c1.at h.seen ap.s) (nr _ ap.rs.symm))
    · exact lt_of (c2.at (c1.at h.done ap.dn) (nr _ ap.rd.symm))
  · have w1 : Chg S S1 a.fp a.fp := c1.weak (fun n hn => List.mem_append_right _ hn) fun n hn => .inr hn
    have w2 : Chg S1 S2 a.fp a.fp := c2.weak (fun n hn => by rw [List.mem_singleton.mp hn]; unfold CAt.fp; simp) fun n hn => .inr hn
    have w3 : Chg S2 S3 a.fp (CAt.fp { a with rs2 := rs2, rs3 := rs3 }) := c3.weak (fun n hn => List.mem_append_right _ hn) fun n hn => by
      unfold CAt.fp at hn ⊢
      rcases (List.mem_append.mp hn) with z | z
      · exact .inr (List.mem_append_left _ z)
      · exact .inl z
    exact (w1.trans w2).trans w3
end Lw
set_option Elab.async false
set_option linter.all false
set_option maxRecDepth 10000
set_option maxHeartbeats 400000
namespace Lw
open PySem PySem.Spec PyProof.Rows L2 Mi
theorem chg_set {S : Sto} {n : Nat} {o : MO} : Chg S (S.set n o) [n] [n] := ⟨by simp, fun m hm hf => List.getElem?_set_ne fun e => hf (by simp [e]), fun m hm => .inl hm⟩
theorem TT.at {S S' : Sto} {a : CAt} {T : Tbl K2 × Tbl K3} {n : Nat} (t : TT S a T) (c : Chg S S' [n] [n]) (h : n ∉ a.fpT) : TT S' a T :=
  ⟨t.t2.chg c fun m hm z => h (List.mem_singleton.mp z ▸ List.mem_append_left _ hm), t.t3.chg c fun m hm z => h (List.mem_singleton.mp z ▸ List.mem_append_right _ hm), t.ok2, t.ok3, t.nd⟩
theorem ne_in {n m : Nat} (h : n ≠ m) : n ∉ [m] := fun z => h (List.mem_singleton.mp z)
section
variable {S : Sto} {a : CAt} {x : Cal}
theorem set_dn (h : CalS S a x) (ds : List Done) : CalS (S.set a.dn (.lst (ds.map pDone))) a { x with done := ds } ∧ Chg S (S.set a.dn (.lst (ds.map pDone))) a.fp a.fp := by
  have ap := apart_of h.nd
  have c := chg_set (S := S) (n := a.dn) (o := .lst (ds.map pDone))
  exact ⟨⟨c.at h.obj (ne_in ap.cd), c.at h.rows (ne_in ap.rd), c.at h.before (ne_in ap.bd), c.at h.seen (ne_in ap.sd), List.getElem?_set_self (lt_of h.done), h.tt.at c ap.dn, h.nd⟩,
    c.weak (fun n hn => by rw [List.mem_singleton.mp hn]; unfold CAt.fp; simp) fun n hn => .inr hn⟩
theorem set_before (h : CalS S a x) (bs : List (Option Row)) : CalS (S.set a.b (.lst (bs.map oR))) a { x with before := bs } ∧ Chg S (S.set a.b (.lst (bs.map oR))) a.fp a.fp := by
  have ap := apart_of h.nd
  have c := chg_set (S := S) (n := a.b) (o := .lst (bs.map oR))
  exact ⟨⟨c.at h.obj (ne_in ap.cb), c.at h.rows (ne_in ap.rb), List.getElem?_set_self (lt_of h.before), c.at h.seen (ne_in ap.bs.symm), c.at h.done (ne_in ap.bd.symm), h.tt.at c ap.b, h.nd⟩,
    c.weak (fun n hn => by rw [List.mem_singleton.mp hn]; unfold CAt.fp; simp) fun n hn => .inr hn⟩
theorem set_seen (h : CalS S a x) (bs : List (Option Hrs)) : CalS (S.set a.s (.lst (bs.map oH))) a { x with seen := bs } ∧ Chg S (S.set a.s (.lst (bs.map oH))) a.fp a.fp := by
  have ap := apart_of h.nd
  have c := chg_set (S := S) (n := a.s) (o := .lst (bs.map oH))
  exact ⟨⟨c.at h.obj (ne_in ap.cs), c.at h.rows (ne_in ap.rs), c.at h.before (ne_in ap.bs), List.getElem?_set_self (lt_of h.seen), c.at h.done (ne_in ap.sd.symm), h.tt.at c ap.s, h.nd⟩,
    c.weak (fun n hn => by rw [List.mem_singleton.mp hn]; unfold CAt.fp; simp) fun n hn => .inr hn⟩
theorem set_rows (h : CalS S a x) (rs : List Row) : CalS (S.set a.r (.lst (rs.map pRow))) a { x with rows := rs } ∧ Chg S (S.set a.r (.lst (rs.map pRow))) a.fp a.fp := by
  have ap := apart_of h.nd
  have c := chg_set (S := S) (n := a.r) (o := .lst (rs.map pRow))
  exact ⟨⟨c.at h.obj (ne_in ap.cr), List.getElem?_set_self (lt_of h.rows), c.at h.before (ne_in ap.rb.symm), c.at h.seen (ne_in ap.rs.symm), c.at h.done (ne_in ap.rd.symm), h.tt.at c ap.r, h.nd⟩,
    c.weak (fun n hn => by rw [List.mem_singleton.mp hn]; unfold CAt.fp; simp) fun n hn => .inr hn⟩
end
structure RowOk (x : Cal) (k : Nat) (r : Row) (b : Option Row) : Prop where
  len : r.days.length = x.D
  nn : ∀ d ∈ r.days, d.a = none → d.b = none
  old : ∀ o, b = some o → o.days.length = x.D ∧ ∀ j, (dayAt o j).a = none → (dayAt r j).a = none
theorem note_ok {x : Cal} (ok : CalOk x) {k : Nat} (hk : k < x.rows.length) {r : Row} {b : Option Row} (hr : RowOk x k r b) {ds : List Done} : CalOk { x with rows := x.rows.set k r, T := putT x.T x.rows k r, before := x.before.set k b, done := ds } := by
  have k9 : k < 900 := by have := ok.rl; omega
  have okD : ∀ (ds : List Day) (i : Nat) (T : Tbl K2 × Tbl K3) (w : Int), TOk T.1 → TOk T.2 → TOk (markD k w i ds T).1 ∧ TOk (markD k w i ds T).2 := by
    intro ds
    induction ds with
    | nil => intro i T w h1 h2; exact ⟨h1, h2⟩
    | cons d ds ih =>
      intro i T w h1 h2
      rw [markD]
      cases d.a with
      | none => exact ih _ _ _ h1 h2
      | some h => exact ih _ _ _ (tdel_ok h1) (tdel_ok h2)
  have okA : ∀ (ds : List Day) (i : Nat) (T : Tbl K2 × Tbl K3) (w : Int), TOk T.1 → TOk T.2 → TOk (markA k w i ds T).1 ∧ TOk (markA k w i ds T).2 := by
    intro ds
    induction ds with
    | nil => intro i T w h1 h2; exact ⟨h1, h2⟩
    | cons d ds ih =>
      intro i T w h1 h2
      rw [markA]
      cases d.a with
      | none => exact ih _ _ _ h1 h2
      | some h => exact ih _ _ _ (tadd_ok h1 k9) (tadd_ok h2 k9)
  have d0 := okD (rowAt x.rows k).days 0 x.T (rowAt x.rows k).who ok.ok2 ok.ok3
  have a0 := okA r.days 0 _ r.who d0.1 d0.2
  refine ⟨ok.D1, ok.D2, ok.H1, ok.H2, ok.wide.set hr.len, by rw [List.length_set]; exact ok.rl, by rw [List.length_set, List.length_set]; exact ok.bl, by rw [List.length_set]; exact ok.sl, fun q m => ?_, fun q m => ?_, a0.1, a0.2, fun r' hr' => ?_, fun j o e => ?_⟩
  · show m ∈ tget (markA k r.who 0 r.days (markD k (rowAt x.rows k).who 0 (rowAt x.rows k).days x.T)).1 q ↔ m < (x.rows.set k r).length ∧ hasR (rowAt (x.rows.set k r) m).days 0 q
    rw [markA_2, markD_2, ok.R2, List.length_set, rowAt_set hk]
    by_cases e : m = k
    · subst e
      simp [hk]
    · simp [e]
  · show m ∈ tget (markA k r.who 0 r.days (markD k (rowAt x.rows k).who 0 (rowAt x.rows k).days x.T)).2 q ↔ m < (x.rows.set k r).length ∧ hasP (rowAt (x.rows.set k r) m).who (rowAt (x.rows.set k r) m).days 0 q
    rw [markA_3, markD_3, ok.R3, List.length_set, rowAt_set hk]
    by_cases e : m = k
    · subst e
      simp [hk]
    · simp [e]
  · rcases List.mem_or_eq_of_mem_set hr' with z | z
    · exact ok.nn r' z
    · rw [z]; exact hr.nn
  · have e : (x.before.set k b)[j]? = some (some o) := e
    show o.days.length = x.D ∧ ∀ i, (dayAt o i).a = none → (dayAt (rowAt (x.rows.set k r) j) i).a = none
    rw [rowAt_set hk]
    by_cases ej : j = k
    · subst ej
      rw [if_pos rfl]
      rw [List.getElem?_set_self (by rw [ok.bl]; exact hk)] at e
      cases e
      exact hr.old o rfl
    · rw [if_neg ej]
      rw [List.getElem?_set_ne (Ne.symm ej)] at e
      exact ok.old j o e
theorem putT_len {x : Cal} {k : Nat} {r : Row} : (putT x.T x.rows k r).1.length ≤ x.T.1.length + r.days.length ∧ (putT x.T x.rows k r).2.length ≤ x.T.2.length + r.days.length := by
  have h1 := markD_len (n := k) (who := (rowAt x.rows k).who) (rowAt x.rows k).days 0 x.T
  have h2 := markA_len (n := k) (who := r.who) r.days 0 (markD k (rowAt x.rows k).who 0 (rowAt x.rows k).days x.T)
  unfold putT
  omega
def noteC (x : Cal) (k : Nat) (d : Deed) (r : Row) (b : Option Row) : Cal :=
  { x with rows := x.rows.set k r, T := putT x.T x.rows k r, before := x.before.set k b, done := x.done ++ [(d, some (rowAt x.rows k), (x.before[k]?).getD none)] }
theorem ix_before {S : Sto} {a : CAt} {x : Cal} (h : CalS S a x) (ok : CalOk x) {k : Nat} (hk : k < x.rows.length) : idxM (.ref a.b) (.int (k : Nat)) S = .ok (oR ((x.before[k]?).getD none)) S := by
  have hb : k < x.before.length := by rw [ok.bl]; exact hk
  refine ix_ref h.before ?_
  rw [List.getElem?_map, List.getElem?_eq_getElem hb]; rfl
theorem note_eq {S : Sto} {a : CAt} {x : Cal} (h : CalS S a x) (ok : CalOk x) {k : Nat} (hk : k < x.rows.length) {s : Step} {r : Row} {b : Option Row} (hr : RowOk x k r b) (l2 : x.T.1.length < 800000) (l3 : x.T.2.length < 800000) (ld : x.done.length < 800000) :
    ∃ S' rs2 rs3, m_Calendar_note [.ref a.c, pDeed (.step k s), pRow r, oR b] S = .ok .non S' ∧ CalS S' { a with rs2 := rs2, rs3 := rs3 } (noteC x k (.step k s) r b) ∧ Chg S S' a.fp (CAt.fp { a with rs2 := rs2, rs3 := rs3 }) := by
  have hs := sizeLine_eq
  obtain ⟨h1, c1⟩ := set_dn h (x.done ++ [(.step k s, some (rowAt x.rows k), (x.before[k]?).getD none)])
  let S1 : Sto := S.set a.dn (.lst ((x.done ++ [(Deed.step k s, some (rowAt x.rows k), (x.before[k]?).getD none)]).map pDone))
  let x1 : Cal := { x with done := x.done ++ [(.step k s, some (rowAt x.rows k), (x.before[k]?).getD none)] }
  have h1 : CalS S1 a x1 := h1
  have ok1 : CalOk x1 := ⟨ok.D1, ok.D2, ok.H1, ok.H2, ok.wide, ok.rl, ok.bl, ok.sl, ok.R2, ok.R3, ok.ok2, ok.ok3, ok.nn, ok.old⟩
  obtain ⟨S2, rs2, rs3, e2, h2, c2⟩ := put_eq h1 ok1 (k := k) hk (r := r) hr.len l2 l3
  obtain ⟨h3, c3⟩ := set_before h2 (x.before.set k b)
  have id : idxM (pDeed (.step k s)) (.int 1) S = .ok (.int (k : Nat)) S := by cases s <;> rfl
  have ir := ix_rrow h.rows hk
  have ib := ix_before h ok hk
  have ap : appM (.ref a.dn) (.tup [pDeed (.step k s), pRow (rowAt x.rows k), oR ((x.before[k]?).getD none)]) S = .ok .non S1 := by
    unfold appM
    simp only [h.done]
    have : (x.done.map pDone).length < sizeLine := by simp; omega
    simp [this, S1, pDone, oR]
    omega
  have il : isLst S (.ref a.dn) = true := by unfold isLst lstOf; simp only [h.done]; rfl
  have st : setM (.ref a.b) (.int (k : Nat)) (oR b) S2 = some (S2.set a.b (.lst ((x.before.set k b).map oR))) := by
    have hb : k < (x.before.map oR).length := by rw [List.length_map, ok.bl]; exact hk
    have h2b : S2[a.b]? = some (.lst (x.before.map oR)) := h2.before
    rw [setl h2b hb, List.map_set]
  refine ⟨_, rs2, rs3, ?_, h3, (c1.trans c2).trans c3⟩
  have m1 : methM "Calendar" "put" m_Calendar_put (.ref a.c) S1 = true := f_meth h1.obj (by decide)
  have f1 := f_done h.obj
  have f2 := f_rows h.obj
  have f3 := f_before h.obj
  have f4 : fldM "Calendar" "before" (.ref a.c) S2 = .ok (.ref a.b) S2 := f_before (a := { a with rs2 := rs2, rs3 := rs3 }) h2.obj
  clear_value S1
  simp [m_Calendar_note, mFn, m_Calendar_note_s0, m_Calendar_note_s1, m_Calendar_note_s2, m_Calendar_note_s3, id, f1, f2, f3, ir, ib, il, ap, mMeth, m1, e2, mSub, f4, st]
end Lw
set_option Elab.async false
set_option linter.all false
set_option maxRecDepth 10000
set_option maxHeartbeats 400000
namespace Lw
open PySem PySem.Spec PyProof.Rows L2 Mi
theorem day_map {f : Day → Day} {w b w' b' : Int} {ds : List Day} {j : Nat} (hf : (f ⟨none, none, false⟩).a = none) : (dayAt ⟨w, b, ds.map f⟩ j).a = (f (dayAt ⟨w', b', ds⟩ j)).a := by
  unfold dayAt
  rw [List.getD_eq_getElem?_getD, List.getD_eq_getElem?_getD]
  rw [List.getElem?_map]
  cases e : ds[j]? with
  | none => simp [e, hf]
  | some d => simp [e]
theorem day_set {w b w' b' : Int} {ds : List Day} {d j : Nat} {y : Day} (hd : d < ds.length) : dayAt ⟨w, b, ds.set d y⟩ j = if j = d then y else dayAt ⟨w', b', ds⟩ j := by
  unfold dayAt
  rw [List.getD_eq_getElem?_getD, List.getD_eq_getElem?_getD]
  by_cases e : j = d
  · subst e; rw [if_pos rfl, List.getElem?_set_self hd]; rfl
  · rw [if_neg e, List.getElem?_set_ne (Ne.symm e)]
def bef (x : Cal) (k : Nat) : Option Row := (x.before[k]?).getD none
def isRoom : Step → Bool
  | .room _ => true
  | _ => false
section
variable {x : Cal} {k : Nat}
theorem bef_at (ok : CalOk x) (hk : k < x.rows.length) : x.before[k]? = some (bef x k) := by
  have hb : k < x.before.length := by rw [ok.bl]; exact hk
  unfold bef
  rw [List.getElem?_eq_getElem hb]; rfl
theorem rday_none {s : Str} {H base h : Int} {d : Day} : (rday s H base d h).a = none → d.a = none := by
  intro e
  cases ez : d.a with
  | none => rfl
  | some a0 =>
    unfold rday at e
    rw [ez] at e
    dsimp only at e
    split at e
    · rw [ez] at e; cases e
    · split at e <;> cases e
theorem rday_of_none {s : Str} {H base h : Int} {d : Day} (e : d.a = none) : rday s H base d h = d := by unfold rday; rw [e]
theorem row_ok (ok : CalOk x) (hk : k < x.rows.length) {s : Step} (hs : SeOk x s) {r : Row} (h : rowB x.p x.H x.rows k s = some r) : RowOk x k r (if isRoom s then some (rowAt x.rows k) else bef x k) := by
  have hl := ok.wide.at hk
  have hn := ok.nn _ (List.mem_of_getElem? (row_at hk))
  have ho : ∀ o, bef x k = some o → o.days.length = x.D ∧ ∀ j, (dayAt o j).a = none → (dayAt (rowAt x.rows k) j).a = none := fun o e => ok.old k o (by rw [bef_at ok hk, e])
  cases s with
  | find h => exact hs.elim
  | tell => exact hs.elim
  | room h' =>
    rw [rowB] at h
    split at h
    · cases h
    · cases h
      refine ⟨by simp [rdays, hl], fun d hd e => ?_, fun o eo => ?_⟩
      · obtain ⟨d0, hd0, rfl⟩ := List.mem_map.mp (show d ∈ (rowAt x.rows k).days.map _ from hd)
        have := rday_none e
        rw [rday_of_none this]; exact hn d0 hd0 this
      · have : o = rowAt x.rows k := by simpa [isRoom] using eo.symm
        subst this
        refine ⟨hl, fun j e => ?_⟩
        show (dayAt ⟨(rowAt x.rows k).who, h', (rowAt x.rows k).days.map fun d => rday x.p.s x.H (rowAt x.rows k).base d h'⟩ j).a = none
        rw [day_map (w' := (rowAt x.rows k).who) (b' := (rowAt x.rows k).base) rfl]
        have e : (dayAt ⟨(rowAt x.rows k).who, (rowAt x.rows k).base, (rowAt x.rows k).days⟩ j).a = none := e
        rw [rday_of_none e]; exact e
  | person =>
    rw [rowB] at h
    split at h
    · cases h
    · cases h
      refine ⟨by simp [pdays, hl], fun d hd e => ?_, fun o eo => ?_⟩
      · obtain ⟨d0, hd0, rfl⟩ := List.mem_map.mp (show d ∈ (rowAt x.rows k).days.map _ from hd)
        exact e
      · obtain ⟨h1, h2⟩ := ho o (by simpa [isRoom] using eo)
        refine ⟨h1, fun j e => ?_⟩
        show (dayAt ⟨(rowAt x.rows k).who, (rowAt x.rows k).base, (rowAt x.rows k).days.map fun d => ⟨d.a, d.a, d.s⟩⟩ j).a = none
        rw [day_map (w' := (rowAt x.rows k).who) (b' := (rowAt x.rows k).base) rfl]
        exact h2 j e
  | one d h' =>
    rw [rowB] at h
    split at h
    · cases h
    · rename_i hh
      cases h
      have hd : d < (rowAt x.rows k).days.length := by rw [hl]; exact hs.1
      refine ⟨by simp [hl], fun y hy e => ?_, fun o eo => ?_⟩
      · rcases List.mem_or_eq_of_mem_set (show y ∈ (rowAt x.rows k).days.set d _ from hy) with z | z
        · exact hn y z e
        · rw [z] at e; cases e
      · obtain ⟨h1, h2⟩ := ho o (by simpa [isRoom] using eo)
        refine ⟨h1, fun j e => ?_⟩
        rw [day_set (w' := (rowAt x.rows k).who) (b' := (rowAt x.rows k).base) hd]
        by_cases ej : j = d
        · subst ej
          exact absurd (h2 j e) fun z => hh (.inl z)
        · rw [if_neg ej]; exact h2 j e
  | off d =>
    rw [rowB] at h
    split at h
    · cases h
    · cases h
      have hd : d < (rowAt x.rows k).days.length := by rw [hl]; exact hs
      refine ⟨by simp [hl], fun y hy e => ?_, fun o eo => ?_⟩
      · rcases List.mem_or_eq_of_mem_set (show y ∈ (rowAt x.rows k).days.set d _ from hy) with z | z
        · exact hn y z e
        · rw [z]
      · obtain ⟨h1, h2⟩ := ho o (by simpa [isRoom] using eo)
        refine ⟨h1, fun j e => ?_⟩
        rw [day_set (w' := (rowAt x.rows k).who) (b' := (rowAt x.rows k).base) hd]
        by_cases ej : j = d
        · rw [if_pos ej]
        · rw [if_neg ej]; exact h2 j e
theorem back_ok (ok : CalOk x) (hk : k < x.rows.length) {o : Row} (ho : bef x k = some o) : RowOk x k (backRow (rowAt x.rows k) o) none := by
  have hl := ok.wide.at hk
  have hn := ok.nn _ (List.mem_of_getElem? (row_at hk))
  obtain ⟨h1, h2⟩ := ok.old k o (by rw [bef_at ok hk, ho])
  refine ⟨by simp [backRow, hl, h1], fun d hd e => ?_, fun o eo => by cases eo⟩
  obtain ⟨j, hj⟩ := List.mem_iff_getElem?.mp (show d ∈ List.zipWith backDay (rowAt x.rows k).days o.days from hd)
  rw [List.getElem?_zipWith] at hj
  cases e1 : (rowAt x.rows k).days[j]? with
  | none => rw [e1] at hj; cases hj
  | some d1 =>
    cases e2 : o.days[j]? with
    | none => rw [e1, e2] at hj; cases hj
    | some d2 =>
      rw [e1, e2] at hj
      cases hj
      have m1 := List.mem_of_getElem? e1
      unfold backDay at e ⊢
      split at e
      · rename_i z; rw [if_pos z]; exact hn d1 m1 z
      · rename_i z
        have a1 : dayAt o j = d2 := by unfold dayAt; rw [List.getD_eq_getElem?_getD, e2]; rfl
        have a2 : dayAt (rowAt x.rows k) j = d1 := by unfold dayAt; rw [List.getD_eq_getElem?_getD, e1]; rfl
        have := h2 j (by rw [a1]; exact e)
        rw [a2] at this
        exact absurd this z
/-- the calendar behind a deed -/
def doC (x : Cal) (k : Nat) (s : Step) : Cal := match rowB x.p x.H x.rows k s with
  | some r => noteC x k (.step k s) r (if isRoom s then some (rowAt x.rows k) else bef x k)
  | none => if s = .person ∧ x.p.h = "undone" then (match bef x k with
    | some o => noteC x k (.step k s) (backRow (rowAt x.rows k) o) none
    | none => x) else x
def doneB (x : Cal) (k : Nat) (s : Step) : Bool := (rowB x.p x.H x.rows k s).isSome
theorem noteC_ok (ok : CalOk x) (hk : k < x.rows.length) {d : Deed} {r : Row} {b : Option Row} (hr : RowOk x k r b) : CalOk (noteC x k d r b) := note_ok ok hk hr
theorem doC_ok (ok : CalOk x) (hk : k < x.rows.length) {s : Step} (hs : SeOk x s) : CalOk (doC x k s) := by
  unfold doC
  cases e : rowB x.p x.H x.rows k s with
  | some r => exact noteC_ok ok hk (row_ok ok hk hs e)
  | none =>
    dsimp only
    split
    · cases eb : bef x k with
      | none => exact ok
      | some o => exact noteC_ok ok hk (back_ok ok hk eb)
    · exact ok
theorem do_eq {S : Sto} {a : CAt} (h : CalS S a x) (ok : CalOk x) (hk : k < x.rows.length) {s : Step} (hs : SeOk x s) (l2 : x.T.1.length < 800000) (l3 : x.T.2.length < 800000) (ld : x.done.length < 800000) :
    ∃ S' rs2 rs3, m_Calendar_do [.ref a.c, pDeed (.step k s)] S = (if doneB x k s then .ok .non S' else .exc "Refused" (.obj "Refused" ["deed"] [pDeed (.step k s)]) S') ∧ CalS S' { a with rs2 := rs2, rs3 := rs3 } (doC x k s) ∧ Chg S S' a.fp (CAt.fp { a with rs2 := rs2, rs3 := rs3 }) := by
  have vw := view_cal h
  have m1 : methM "Calendar" "is_deed" m_Calendar_is_deed (.ref a.c) S = true := f_meth h.obj (by decide)
  have m2 : methM "Calendar" "row_behind" m_Calendar_row_behind (.ref a.c) S = true := f_meth h.obj (by decide)
  have m3 : methM "Calendar" "note" m_Calendar_note (.ref a.c) S = true := f_meth h.obj (by decide)
  have e1 := is_deed_eq ok (S := S) (v := .ref a.c) vw hk hs
  have e2 := row_behind_eq ok (S := S) (v := .ref a.c) vw hk hs
  have i1 : idxM (pDeed (.step k s)) (.int 1) S = .ok (.int (k : Nat)) S := by cases s <;> rfl
  have i0 : idxM (pDeed (.step k s)) (.int 0) S = .ok (.str s.word) S := by cases s <;> rfl
  have ir := ix_rrow h.rows hk
  have ib := ix_before h ok hk
  have f2 := f_rows h.obj
  have f3 := f_before h.obj
  have f4 := f_rule h.obj
  unfold doC doneB
  cases e : rowB x.p x.H x.rows k s with
  | some r =>
    obtain ⟨S', rs2, rs3, e3, h3, c3⟩ := note_eq h ok hk (s := s) (row_ok ok hk hs e) l2 l3 ld
    refine ⟨S', rs2, rs3, ?_, h3, c3⟩
    rw [e] at e2
    have ir2 : oR (some r) = pRow r := rfl
    rw [ir2] at e2
    cases s with
    | find h => exact hs.elim
    | tell => exact hs.elim
    | room h' =>
      simp [isRoom, oR] at e3
      simp [m_Calendar_do, mFn, m_Calendar_do_s0, m_Calendar_do_s2, m_Calendar_do_s3, m_Calendar_do_s4, m_Calendar_do_s5, m_Calendar_do_s6, mMeth, m1, m2, m3, e1, e2, i1, i0, Step.word, f2, ir, e3]
    | _ =>
      simp [isRoom, bef] at e3
      simp [m_Calendar_do, mFn, m_Calendar_do_s0, m_Calendar_do_s2, m_Calendar_do_s3, m_Calendar_do_s4, m_Calendar_do_s5, m_Calendar_do_s6, mMeth, m1, m2, m3, e1, e2, i1, i0, Step.word, f2, f3, ir, ib, e3]
  | none =>
    rw [e] at e2
    have en : oR none = .non := rfl
    rw [en] at e2
    by_cases hp : s = .person ∧ x.p.h = "undone"
    · obtain ⟨rfl, hh⟩ := hp
      dsimp only
      rw [if_pos ⟨rfl, hh⟩]
      cases eb : bef x k with
      | some o =>
        have hb := back_ok ok hk eb
        obtain ⟨S', rs2, rs3, e3, h3, c3⟩ := note_eq h ok hk (s := .person) hb l2 l3 ld
        refine ⟨S', rs2, rs3, ?_, h3, c3⟩
        have ib' : idxM (.ref a.b) (.int (k : Nat)) S = .ok (pRow o) S := by
          rw [ib]
          unfold bef at eb
          rw [eb]; rfl
        have ho := (ok.old k o (by rw [bef_at ok hk, eb])).1
        have W1 : Wide x.D [rowAt x.rows k] := fun r hr => by rw [List.mem_singleton.mp hr]; exact ok.wide.at hk
        have tb : ∀ S, m_taken_back [.tup [pRow (rowAt x.rows k)], .int 0, pRow o] S = .ok (.tup [pRow (backRow (rowAt x.rows k) o)]) S := fun S => by
          have := taken_back_eq (S := S) (k := 0) W1 (by simp) (by simp) ok.D2 ho
          exact this
        have er : oR none = MV.non := rfl
        rw [er] at e3
        simp [m_Calendar_do, mFn, m_Calendar_do_s0, m_Calendar_do_s2, m_Calendar_do_s3, m_Calendar_do_s4, m_Calendar_do_s7, m_Calendar_do_s8, m_Calendar_do_s9, m_Calendar_do_s10, mMeth, m1, m2, m3, e1, e2, i1, i0, Step.word, f2, f3, f4, ir, ib', hh, pPar, tb, e3, mRaise]
      | none =>
        refine ⟨S, a.rs2, a.rs3, ?_, h, .refl⟩
        have ib' : idxM (.ref a.b) (.int (k : Nat)) S = .ok .non S := by
          rw [ib]
          unfold bef at eb
          rw [eb]; rfl
        simp [m_Calendar_do, mFn, m_Calendar_do_s0, m_Calendar_do_s2, m_Calendar_do_s3, m_Calendar_do_s4, m_Calendar_do_s7, m_Calendar_do_s10, mMeth, m1, m2, m3, e1, e2, i1, i0, Step.word, f2, f3, f4, ir, ib', hh, pPar, mRaise]
    · dsimp only
      rw [if_neg hp]
      refine ⟨S, a.rs2, a.rs3, ?_, h, .refl⟩
      cases s with
      | find h => exact hs.elim
      | tell => exact hs.elim
      | person =>
        have hh : ¬ x.p.h = "undone" := fun z => hp ⟨rfl, z⟩
        simp [m_Calendar_do, mFn, m_Calendar_do_s0, m_Calendar_do_s2, m_Calendar_do_s3, m_Calendar_do_s4, m_Calendar_do_s7, m_Calendar_do_s10, mMeth, m1, m2, e1, e2, i1, i0, Step.word, f4, hh, pPar, mRaise]
      | _ => simp [m_Calendar_do, mFn, m_Calendar_do_s0, m_Calendar_do_s2, m_Calendar_do_s3, m_Calendar_do_s4, m_Calendar_do_s7, m_Calendar_do_s10, mMeth, m1, m2, e1, e2, i1, i0, Step.word, mRaise]
end
end Lw
set_option Elab.async false
set_option linter.all false
set_option maxRecDepth 10000
set_option maxHeartbeats 400000
namespace Lw
open PySem PySem.Spec PyProof.Rows L2 Mi
theorem chg_app {S g : Sto} {fp : List Nat} : Chg S (S ++ g) fp fp := ⟨by simp, fun n hn _ => List.getElem?_append_left hn, fun n hn => .inl hn⟩
theorem TabS.app {κ : Type} {S g : Sto} {t : Nat} {enc : κ → MV} {T : Tbl κ} {rs : List Nat} (h : TabS S t enc T rs) : TabS (S ++ g) t enc T rs := h.chg (chg_app (fp := [])) fun _ _ m => by cases m
theorem CalS.app {S g : Sto} {a : CAt} {x : Cal} (h : CalS S a x) : CalS (S ++ g) a x := by
  have c : Chg S (S ++ g) [] [] := chg_app
  have no : ∀ n : Nat, n ∉ ([] : List Nat) := fun n m => by cases m
  exact ⟨c.at h.obj (no _), c.at h.rows (no _), c.at h.before (no _), c.at h.seen (no _), c.at h.done (no _), ⟨h.tt.t2.app, h.tt.t3.app, h.tt.ok2, h.tt.ok3, h.tt.nd⟩, h.nd⟩
/-- d.get(k, {}) of a table in the store, the new {} laid behind it -/
theorem get_new {κ : Type} [DecidableEq κ] {S : Sto} {t : Nat} {enc : κ → MV} {T : Tbl κ} {rs : List Nat} {k : κ} (E : KeyEnc enc) (ok : TOk T) (h : TabS S t enc T rs) :
    ∃ r, dgetM (.ref t) [enc k, .ref S.length] (S ++ [.dct [] []]) = .ok (.ref r) (S ++ [.dct [] []]) ∧ truW (.ref r) (S ++ [.dct [] []]) = .ok (!(tget T k).isEmpty) (S ++ [.dct [] []]) := by
  have h1 : TabS (S ++ [.dct [] []]) t enc T rs := h.app
  have tru : ∀ (r : Nat) (ns : List Nat), (S ++ [MO.dct [] []])[r]? = some (dN ns) → truW (.ref r) (S ++ [.dct [] []]) = .ok (!ns.isEmpty) (S ++ [.dct [] []]) := fun r ns e => by
    unfold truW
    simp only [seqOf, lstOf, e, dN]
    congr 2
    cases ns <;> rfl
  unfold dgetM
  rw [dcT_ref (ks := keysT T) h1.at_]
  simp only [E.ok, if_true]
  by_cases hk : k ∈ keysT T
  · obtain ⟨i, r, e1, e2, e3⟩ := look_in E ok h hk
    refine ⟨r, by rw [e3]; rfl, tru r _ (h1.ce i _ r e1 e2)⟩
  · refine ⟨S.length, by rw [look_out E h hk]; rfl, ?_⟩
    rw [get_none T hk]
    refine tru _ [] ?_
    rw [List.getElem?_append_right (Nat.le_refl _)]; simp [dN, kInts, Lw.tru]
def dayFree (T : Tbl K2 × Tbl K3) (w h : Int) (d : Nat) : Bool := (tget T.1 ((d : Int), h)).isEmpty && (tget T.2 (w, (d : Int), some h)).isEmpty
def addEnv (c : Nat) (w h : Int) (f : Option MV) : Ev := [some (.ref c), some (.int w), some (.int h), f]
abbrev refAdd (w h : Int) : MV := .obj "Refused" ["deed"] [.tup [.str "add", .int w, .int h]]
theorem add_turn {S : Sto} {a : CAt} {x : Cal} (H : CalS S a x) {w h : Int} {d : Nat} {f : Option MV} : ∃ g,
    turn (tgName 3) m_Calendar_add_s3 (pNat d) (addEnv a.c w h f) S = (if dayFree x.T w h d then .nx (addEnv a.c w h (some (pNat d))) (S ++ g) else .exc "Refused" (refAdd w h) (addEnv a.c w h (some (pNat d))) (S ++ g)) := by
  obtain ⟨r1, e1, e2⟩ := get_new (k := ((d : Int), h)) key2 H.tt.ok2 H.tt.t2
  have H1 : CalS (S ++ [.dct [] []]) a x := H.app
  obtain ⟨r2, e3, e4⟩ := get_new (k := (w, (d : Int), some h)) key3 H1.tt.ok3 H1.tt.t3
  have f1 := f_rooms H.obj
  have f2 := f_persons H1.obj
  have k1 : kDcT S (.ref a.ro) = true := kDcT_ref H.tt.t2
  have k2 : kDcT (S ++ [.dct [] []]) (.ref a.pe) = true := kDcT_ref H1.tt.t3
  have n2 : MV.tup [.int (d : Nat), .int h] = enc2 ((d : Int), h) := rfl
  have n3 : MV.tup [.int w, .int (d : Nat), .int h] = enc3 (w, (d : Int), some h) := rfl
  have tr : ∀ {m : ME} {ρ : Ev} {S : Sto}, mTruth m ρ S = (m ρ S).bind truW := rfl
  unfold dayFree
  by_cases h1 : (tget x.T.1 ((d : Int), h)).isEmpty = true
  · rw [h1] at e2
    refine ⟨[.dct [] []] ++ [.dct [] []], ?_⟩
    by_cases h2 : (tget x.T.2 (w, (d : Int), some h)).isEmpty = true
    · rw [h2] at e4
      simp at e3 e4
      simp [addEnv, pNat, m_Calendar_add_s3, tr, f1, k1, n2, e1, e2, f2, k2, n3, h1, h2]
      rw [e3]
      simp [e4]
    · have h2 : (tget x.T.2 (w, (d : Int), some h)).isEmpty = false := by simpa using h2
      rw [h2] at e4
      simp at e3 e4
      simp [addEnv, pNat, m_Calendar_add_s3, m_Calendar_add_s4, tr, f1, k1, n2, e1, e2, f2, k2, n3, h1, h2]
      rw [e3]
      simp [e4, mRaise]
  · have h1 : (tget x.T.1 ((d : Int), h)).isEmpty = false := by simpa using h1
    rw [h1] at e2
    refine ⟨[.dct [] []], ?_⟩
    simp [addEnv, pNat, m_Calendar_add_s3, m_Calendar_add_s4, tr, f1, k1, n2, e1, e2, h1, mRaise]
theorem add_loop {a : CAt} {x : Cal} {w h : Int} : ∀ (ds : List Nat) (S : Sto) (f : Option MV), CalS S a x → ∃ g f', forGo (fun _ => true) (tgName 3) m_Calendar_add_s3 (ds.map pNat) (addEnv a.c w h f) S =
    (if ds.all (dayFree x.T w h) then .nx (addEnv a.c w h f') (S ++ g) else .exc "Refused" (refAdd w h) (addEnv a.c w h f') (S ++ g))
  | [], S, f, _ => ⟨[], f, by simp [forGo]⟩
  | d :: ds, S, f, H => by
    obtain ⟨g, e⟩ := add_turn H (w := w) (h := h) (d := d) (f := f)
    rw [List.map_cons, forGo_cons rfl, e, List.all_cons]
    by_cases hd : dayFree x.T w h d = true
    · rw [if_pos hd, nxt_nx, hd, Bool.true_and]
      obtain ⟨g', f', e'⟩ := add_loop ds (S ++ g) (some (pNat d)) H.app
      refine ⟨g ++ g', f', ?_⟩
      rw [e', List.append_assoc]
    · have hd : dayFree x.T w h d = false := by simpa using hd
      rw [hd, Bool.false_and]
      exact ⟨g, some (pNat d), rfl⟩
end Lw
set_option Elab.async false
set_option linter.all false
set_option maxRecDepth 10000
set_option maxHeartbeats 400000
namespace Lw
open PySem PySem.Spec PyProof.Rows L2 Mi
def newRow (w h : Int) (D : Nat) : Row := ⟨w, h, List.replicate D ⟨some h, some h, false⟩⟩
def addC (x : Cal) (w h : Int) : Cal :=
  { x with rows := x.rows ++ [newRow w h x.D], before := x.before ++ [none], seen := x.seen ++ [none], T := markA x.rows.length w 0 (newRow w h x.D).days x.T, done := x.done ++ [(.add w h, none, none)] }
theorem rowAt_app {rs : List Row} {r : Row} {m : Nat} : rowAt (rs ++ [r]) m = if m = rs.length then r else rowAt rs m := by
  unfold rowAt
  rw [List.getD_eq_getElem?_getD, List.getD_eq_getElem?_getD]
  by_cases e : m = rs.length
  · subst e; rw [if_pos rfl, List.getElem?_append_right (Nat.le_refl _)]; simp
  · rw [if_neg e]
    by_cases hl : m < rs.length
    · rw [List.getElem?_append_left hl]
    · rw [List.getElem?_eq_none (by simp; omega), List.getElem?_eq_none (by omega)]
theorem markA_ok {k : Nat} (k9 : k < 900) : ∀ (ds : List Day) (i : Nat) (T : Tbl K2 × Tbl K3) (w : Int), TOk T.1 → TOk T.2 → TOk (markA k w i ds T).1 ∧ TOk (markA k w i ds T).2 := by
  intro ds
  induction ds with
  | nil => intro i T w h1 h2; exact ⟨h1, h2⟩
  | cons d ds ih =>
    intro i T w h1 h2
    rw [markA]
    cases d.a with
    | none => exact ih _ _ _ h1 h2
    | some h => exact ih _ _ _ (tadd_ok h1 k9) (tadd_ok h2 k9)
theorem addC_ok {x : Cal} (ok : CalOk x) {w h : Int} (hl : x.rows.length < 800) : CalOk (addC x w h) := by
  have a0 := markA_ok (k := x.rows.length) (by omega) (newRow w h x.D).days 0 x.T w ok.ok2 ok.ok3
  refine ⟨ok.D1, ok.D2, ok.H1, ok.H2, fun r hr => ?_, by simp [addC]; omega, by simp [addC, ok.bl], by simp [addC, ok.sl], fun q m => ?_, fun q m => ?_, a0.1, a0.2, fun r hr => ?_, fun j o e => ?_⟩
  · rcases List.mem_append.mp (show r ∈ x.rows ++ [newRow w h x.D] from hr) with z | z
    · exact ok.wide r z
    · rw [(List.mem_singleton.mp z)]; simp [newRow, addC]
  · show m ∈ tget (markA x.rows.length w 0 (newRow w h x.D).days x.T).1 q ↔ m < (x.rows ++ [newRow w h x.D]).length ∧ hasR (rowAt (x.rows ++ [newRow w h x.D]) m).days 0 q
    rw [markA_2, ok.R2, rowAt_app, List.length_append]
    by_cases e : m = x.rows.length
    · subst e; simp
    · simp only [e, if_false, false_and, or_false, List.length_singleton]
      constructor
      · rintro ⟨z1, z2⟩; exact ⟨by omega, z2⟩
      · rintro ⟨z1, z2⟩; exact ⟨by omega, z2⟩
  · show m ∈ tget (markA x.rows.length w 0 (newRow w h x.D).days x.T).2 q ↔ m < (x.rows ++ [newRow w h x.D]).length ∧ hasP (rowAt (x.rows ++ [newRow w h x.D]) m).who (rowAt (x.rows ++ [newRow w h x.D]) m).days 0 q
    rw [markA_3, ok.R3, rowAt_app, List.length_append]
    by_cases e : m = x.rows.length
    · subst e; simp [newRow]
    · simp only [e, if_false, false_and, or_false, List.length_singleton]
      constructor
      · rintro ⟨z1, z2⟩; exact ⟨by omega, z2⟩
      · rintro ⟨z1, z2⟩; exact ⟨by omega, z2⟩
  · rcases List.mem_append.mp (show r ∈ x.rows ++ [newRow w h x.D] from hr) with z | z
    · exact ok.nn r z
    · rw [(List.mem_singleton.mp z)]
      intro d hd e
      have := (List.mem_replicate.mp (show d ∈ List.replicate x.D ⟨some h, some h, false⟩ from hd)).2
      rw [this] at e; cases e
  · have e : (x.before ++ [none])[j]? = some (some o) := e
    have hj : j < x.before.length := by
      by_cases z : j < x.before.length
      · exact z
      · rw [List.getElem?_append_right (by omega)] at e
        cases q : j - x.before.length with
        | zero => rw [q] at e; simp at e
        | succ i => rw [q] at e; simp at e
    rw [List.getElem?_append_left hj] at e
    show o.days.length = x.D ∧ ∀ i, (dayAt o i).a = none → (dayAt (rowAt (x.rows ++ [newRow w h x.D]) j) i).a = none
    rw [rowAt_app, if_neg (by rw [← ok.bl]; omega)]
    exact ok.old j o e
theorem addC_len {x : Cal} {w h : Int} : (addC x w h).T.1.length ≤ x.T.1.length + x.D ∧ (addC x w h).T.2.length ≤ x.T.2.length + x.D := by
  have h2 := markA_len (n := x.rows.length) (who := w) (newRow w h x.D).days 0 x.T
  have : (newRow w h x.D).days.length = x.D := by simp [newRow]
  rw [this] at h2
  exact h2
def canAdd (x : Cal) (w h : Int) : Bool := (List.range x.D).all (dayFree x.T w h)
theorem app_cell {S : Sto} {l : Nat} {xs : List MV} {d : MV} (h : S[l]? = some (.lst xs)) (hz : xs.length < 16000000) : isLst S (.ref l) = true ∧ appM (.ref l) d S = .ok .non (S.set l (.lst (xs ++ [d]))) := by
  have hs := sizeLine_eq
  refine ⟨by unfold isLst lstOf; simp only [h]; rfl, ?_⟩
  unfold appM
  simp only [h]
  simp
  omega
theorem len_cell {S : Sto} {l : Nat} {xs : List MV} (h : S[l]? = some (.lst xs)) (hz : xs.length < 16000000) : lenM [.ref l] S = .ok (.int (xs.length : Nat)) S := by
  have hs := sizeLine_eq
  simp [lenM, seqOf, lstOf, h]
theorem add_eq {S : Sto} {a : CAt} {x : Cal} (H : CalS S a x) (ok : CalOk x) {w h : Int} (hw : 0 ≤ w) (h0 : 0 ≤ h) (h1 : h < x.H) (hl : x.rows.length < 800) (l2 : x.T.1.length < 800000) (l3 : x.T.2.length < 800000) (ld : x.done.length < 800000) :
    ∃ S' rs2 rs3, m_Calendar_add [.ref a.c, .int w, .int h] S = (if canAdd x w h then .ok (.int (x.rows.length : Nat)) S' else .exc "Refused" (refAdd w h) S') ∧ CalS S' { a with rs2 := rs2, rs3 := rs3 } (if canAdd x w h then addC x w h else x) ∧ Chg S S' a.fp (CAt.fp { a with rs2 := rs2, rs3 := rs3 }) := by
  have hz := line_k ok.D2
  have fd := f_days H.obj
  have fh := f_hours H.obj
  have b1 : h ≤ (x.H : Nat) - 1 := by omega
  obtain ⟨g, f', eL⟩ := add_loop (w := w) (h := h) (List.range x.D) S none H
  have eL : forGo (fun _ => true) (tgName 3) m_Calendar_add_s3 ((List.range x.D).map pNat) [some (.ref a.c), some (.int w), some (.int h), none] S = _ := eL
  have pre : m_Calendar_add [.ref a.c, .int w, .int h] S = toR ((forGo (fun _ => true) (tgName 3) m_Calendar_add_s3 ((List.range x.D).map pNat) [some (.ref a.c), some (.int w), some (.int h), none] S).nxt (mSeq m_Calendar_add_s5 (mSeq m_Calendar_add_s6 (mSeq m_Calendar_add_s7 (mSeq m_Calendar_add_s8 (mSeq m_Calendar_add_s9 m_Calendar_add_s10)))))) := by
    simp [m_Calendar_add, mFn, m_Calendar_add_s0, m_Calendar_add_s2, fd, fh, hw, h0, b1, ok.D2]
  rw [pre, eL]
  cases hc : canAdd x w h with
  | false =>
    have hc : (List.range x.D).all (dayFree x.T w h) = false := hc
    rw [hc]
    exact ⟨S ++ g, a.rs2, a.rs3, rfl, H.app, chg_app⟩
  | true =>
    have hc : (List.range x.D).all (dayFree x.T w h) = true := hc
    rw [hc]
    simp only [if_true, nxt_nx]
    let S0 : Sto := S ++ g
    have H0 : CalS S0 a x := H.app
    obtain ⟨H1, c1⟩ := set_rows H0 (x.rows ++ [newRow w h x.D])
    let S1 : Sto := S0.set a.r (.lst ((x.rows ++ [newRow w h x.D]).map pRow))
    let x1 : Cal := { x with rows := x.rows ++ [newRow w h x.D] }
    have H1 : CalS S1 a x1 := H1
    obtain ⟨H2, c2⟩ := set_before H1 (x.before ++ [none])
    let S2 : Sto := S1.set a.b (.lst ((x.before ++ [none]).map oR))
    let x2 : Cal := { x1 with before := x.before ++ [none] }
    have H2 : CalS S2 a x2 := H2
    obtain ⟨H3, c3⟩ := set_seen H2 (x.seen ++ [none])
    let S3 : Sto := S2.set a.s (.lst ((x.seen ++ [none]).map oH))
    let x3 : Cal := { x2 with seen := x.seen ++ [none] }
    have H3 : CalS S3 a x3 := H3
    have ap3 := apart_of H3.nd
    have er : rowAt (x.rows ++ [newRow w h x.D]) x.rows.length = newRow w h x.D := by rw [rowAt_app, if_pos rfl]
    obtain ⟨S4, rs2, rs3, e4, t4, c4⟩ := cal_mark_add (k := x.rows.length) (rows := x.rows ++ [newRow w h x.D]) (by omega) H3.obj ap3.c H3.rows (by simp) (by rw [er]; simp [newRow]; exact ok.D2) H3.tt (by show x.T.1.length < 900000; omega) (by show x.T.2.length < 900000; omega)
    rw [er] at t4
    have ap4 : Apart { a with rs2 := rs2, rs3 := rs3 } := ap3.chg (S := S3) (S' := S4) (a' := { a with rs2 := rs2, rs3 := rs3 }) c4 rfl (lt_of H3.obj) (lt_of H3.rows) (lt_of H3.before) (lt_of H3.seen) (lt_of H3.done)
    have H4 : CalS S4 { a with rs2 := rs2, rs3 := rs3 } { x3 with T := markA x.rows.length w 0 (newRow w h x.D).days x.T } :=
      ⟨c4.at H3.obj ap3.c, c4.at H3.rows ap3.r, c4.at H3.before ap3.b, c4.at H3.seen ap3.s, c4.at H3.done ap3.dn, t4, fp_of ap4 t4.nd⟩
    obtain ⟨H5, c5⟩ := set_dn H4 (x.done ++ [(.add w h, none, none)])
    let S5 : Sto := S4.set a.dn (.lst ((x.done ++ [(Deed.add w h, none, none)]).map pDone))
    have c4' : Chg S3 S4 a.fp (CAt.fp { a with rs2 := rs2, rs3 := rs3 }) := c4.weak (fun n hn => List.mem_append_right _ hn) fun n hn => by
      unfold CAt.fp at hn ⊢
      rcases (List.mem_append.mp hn) with z | z
      · exact .inr (List.mem_append_left _ z)
      · exact .inl z
    refine ⟨S5, rs2, rs3, ?_, H5, (((((chg_app (fp := a.fp)).trans c1).trans c2).trans c3).trans c4').trans c5⟩
    have a1 := app_cell (d := pRow (newRow w h x.D)) H0.rows (by simp; omega)
    have a2 := app_cell (d := MV.non) H1.before (by rw [List.length_map]; show x.before.length < _; rw [ok.bl]; omega)
    have a3 := app_cell (d := MV.non) H2.seen (by rw [List.length_map]; show x.seen.length < _; rw [ok.sl]; omega)
    have a5 := app_cell (d := .tup [.tup [.str "add", .int w, .int h], .non, .non]) H4.done (by rw [List.length_map]; show x.done.length < _; omega)
    have q1 : S0.set a.r (.lst (x.rows.map pRow ++ [pRow (newRow w h x.D)])) = S1 := by simp [S1]
    have q2 : S1.set a.b (.lst (x1.before.map oR ++ [.non])) = S2 := by simp [S2, x1, oR]
    have q3 : S2.set a.s (.lst (x2.seen.map oH ++ [.non])) = S3 := by simp [S3, x2, x1, oH]
    have q5 : S4.set a.dn (.lst (x3.done.map pDone ++ [.tup [.tup [.str "add", .int w, .int h], .non, .non]])) = S5 := by simp [S5, x3, x2, x1, pDone, pDeed, oR]
    rw [q1] at a1
    rw [q2] at a2
    rw [q3] at a3
    have a5 : isLst S4 (.ref a.dn) = true ∧ appM (.ref a.dn) (.tup [.tup [.str "add", .int w, .int h], .non, .non]) S4 = .ok .non S5 := ⟨a5.1, a5.2.trans (by rw [← q5])⟩
    have n1 : lenM [.ref a.r] S3 = .ok (.int ((x.rows.length + 1 : Nat) : Int)) S3 := by
      have := len_cell H3.rows (by simp [x3, x2, x1]; omega)
      simpa [x3, x2, x1] using this
    have r5 : S5[a.r]? = some (.lst ((x.rows ++ [newRow w h x.D]).map pRow)) := H5.rows
    have n2 : lenM [.ref a.r] S5 = .ok (.int ((x.rows.length + 1 : Nat) : Int)) S5 := by
      have := len_cell r5 (by simp; omega)
      simpa using this
    have i1 : ((x.rows.length + 1 : Nat) : Int) - 1 = (x.rows.length : Nat) := by omega
    have fr := fun S => fresh_eq (w := w) (h := h) (S := S) ok.D1 ok.D2
    have m3 : methM "Calendar" "mark" m_Calendar_mark (.ref a.c) S3 = true := f_meth H3.obj (by decide)
    have g0 := f_rows H0.obj
    have gd := f_days H0.obj
    have g1 := f_before H1.obj
    have g2 := f_seen H2.obj
    have g3 := f_rows H3.obj
    have g4 : fldM "Calendar" "done" (.ref a.c) S4 = .ok (.ref a.dn) S4 := f_done (a := { a with rs2 := rs2, rs3 := rs3 }) H4.obj
    have g5 : fldM "Calendar" "rows" (.ref a.c) S5 = .ok (.ref a.r) S5 := f_rows (a := { a with rs2 := rs2, rs3 := rs3 }) H5.obj
    have nr : pRow ⟨w, h, List.replicate x.D ⟨some h, some h, false⟩⟩ = pRow (newRow w h x.D) := rfl
    clear_value S1 S2 S3 S5
    have hS0 : S ++ g = S0 := rfl
    rw [hS0]
    clear_value S0
    simp only [w_seq', m_Calendar_add_s5]
    simp [addEnv, g0, gd, fr, nr, a1, m_Calendar_add_s6, g1, a2, m_Calendar_add_s7, g2, a3, m_Calendar_add_s8, g3, n1, mMeth, m3]
    have i1' : ((x.rows.length : Nat) : Int) + 1 - 1 = (x.rows.length : Nat) := by omega
    simp [i1', e4, m_Calendar_add_s9, g4, a5, m_Calendar_add_s10, g5, n2]
end Lw
set_option Elab.async false
set_option linter.all false
set_option maxRecDepth 10000
set_option maxHeartbeats 400000
namespace Lw
open PySem PySem.Spec PyProof.Rows L2 Mi
theorem isE_nil {ns : List Nat} : ns.isEmpty = true ↔ ∀ m, m ∉ ns := by
  cases ns with
  | nil => simp
  | cons n ns => exact Iff.intro (fun h => by cases h) (fun h => absurd List.mem_cons_self (h n))
theorem canAdd_iff {x : Cal} (ok : CalOk x) {w h : Int} : canAdd x w h = true ↔ ∀ d, d < x.D → ∀ m, m < x.rows.length → (dayAt (rowAt x.rows m) d).a ≠ some h ∧ ¬ ((rowAt x.rows m).who = w ∧ (dayAt (rowAt x.rows m) d).b = some h) := by
  unfold canAdd dayFree
  rw [List.all_eq_true]
  constructor
  · intro hall d hd m hm
    have := hall d (List.mem_range.mpr hd)
    rw [Bool.and_eq_true, isE_nil, isE_nil] at this
    refine ⟨fun e => this.1 m ((ok.R2 _ m).mpr ⟨hm, (hasR_at rfl (ok.wide.at hm) hd).mpr e⟩), fun ⟨e1, e2⟩ => this.2 m ((ok.R3 _ m).mpr ⟨hm, (hasP_at (ok.wide.at hm) hd).mpr ⟨e1.symm, ?_, e2⟩⟩)⟩
    cases ea : (dayAt (rowAt x.rows m) d).a with
    | some h' => exact ⟨h', rfl⟩
    | none =>
      have := ok.nn _ (List.mem_of_getElem? (row_at hm)) _ (day_mem (ok.wide.at hm) hd) ea
      rw [e2] at this; cases this
  · intro hall d hd
    have hd := List.mem_range.mp hd
    rw [Bool.and_eq_true, isE_nil, isE_nil]
    refine ⟨fun m hm => ?_, fun m hm => ?_⟩
    · obtain ⟨h1, h2⟩ := (ok.R2 _ m).mp hm
      exact (hall d hd m h1).1 ((hasR_at rfl (ok.wide.at h1) hd).mp h2)
    · obtain ⟨h1, h2⟩ := (ok.R3 _ m).mp hm
      obtain ⟨e1, _, e3⟩ := (hasP_at (ok.wide.at h1) hd).mp h2
      exact (hall d hd m h1).2 ⟨e1.symm, e3⟩
end Lw
set_option Elab.async false
set_option linter.all false
set_option maxRecDepth 10000
set_option maxHeartbeats 400000
namespace Lw
open PySem PySem.Spec PyProof.Rows L2 Mi
theorem fset_mid {S T : Sto} {c f : Str} {fs : List Str} {ds : List MV} {x : MV} {n : Nat} (hn : n = S.length) (h : fs.length < 900) : fsetM c f (.ref n) x (S ++ .obj c fs ds :: T) = some (S ++ .obj c (fput fs ds f x).1 (fput fs ds f x).2 :: T) := by
  subst hn
  unfold fsetM
  have e : (S ++ MO.obj c fs ds :: T)[S.length]? = some (.obj c fs ds) := by
    rw [List.getElem?_append_right (Nat.le_refl _)]; simp
  simp only [e, h, and_self, if_true]
  congr 1
  rw [List.set_append_right _ _ (Nat.le_refl _)]; simp
def newAt (n : Nat) : CAt := ⟨n, n + 1, n + 2, n + 3, n + 4, n + 5, n + 6, [], []⟩
def newCal (p : Par) (D H : Nat) : Cal := ⟨p, D, H, [], [], [], ([], []), []⟩
def newSto (p : Par) (D H n : Nat) : Sto := [calObj p D H (newAt n), .lst [], .lst [], .lst [], .dcT [] [], .dcT [] [], .lst []]
theorem new_eq {p : Par} {D H : Nat} {S : Sto} : makM "Calendar" m_Calendar___init__ [pPar p, .int (D : Nat), .int (H : Nat)] S = .ok (.ref S.length) (S ++ newSto p D H S.length) := by
  have ev : ev0 4 [.ref S.length, pPar p, .int (D : Nat), .int (H : Nat)] = [some (.ref S.length), some (pPar p), some (.int (D : Nat)), some (.int (H : Nat))] := rfl
  have s0 : m_Calendar___init___s0 [some (.ref S.length), some (pPar p), some (.int (D : Nat)), some (.int (H : Nat))] (S ++ [.obj "Calendar" [] []]) = .nx [some (.ref S.length), some (pPar p), some (.int (D : Nat)), some (.int (H : Nat))] (S ++ [.obj "Calendar" ["rule"] [pPar p]]) := by
    simp [m_Calendar___init___s0, fset_mid (T := []) rfl, fput]
  have s1 : m_Calendar___init___s1 [some (.ref S.length), some (pPar p), some (.int (D : Nat)), some (.int (H : Nat))] (S ++ [.obj "Calendar" ["rule"] [pPar p]]) = .nx [some (.ref S.length), some (pPar p), some (.int (D : Nat)), some (.int (H : Nat))] (S ++ [.obj "Calendar" ["rule", "days"] [pPar p, .int (D : Nat)]]) := by
    simp [m_Calendar___init___s1, fset_mid (T := []) rfl, fput]
  have s2 : m_Calendar___init___s2 [some (.ref S.length), some (pPar p), some (.int (D : Nat)), some (.int (H : Nat))] (S ++ [.obj "Calendar" ["rule", "days"] [pPar p, .int (D : Nat)]]) = .nx [some (.ref S.length), some (pPar p), some (.int (D : Nat)), some (.int (H : Nat))] (S ++ [.obj "Calendar" ["rule", "days", "hours"] [pPar p, .int (D : Nat), .int (H : Nat)]]) := by
    simp [m_Calendar___init___s2, fset_mid (T := []) rfl, fput]
  have s3 : m_Calendar___init___s3 [some (.ref S.length), some (pPar p), some (.int (D : Nat)), some (.int (H : Nat))] (S ++ [.obj "Calendar" ["rule", "days", "hours"] [pPar p, .int (D : Nat), .int (H : Nat)]]) = .nx [some (.ref S.length), some (pPar p), some (.int (D : Nat)), some (.int (H : Nat))] (S ++ [.obj "Calendar" ["rule", "days", "hours", "rows"] [pPar p, .int (D : Nat), .int (H : Nat), .ref (S.length + 1)], .lst []]) := by
    simp [m_Calendar___init___s3, fset_mid rfl, fput]
  have s4 : m_Calendar___init___s4 [some (.ref S.length), some (pPar p), some (.int (D : Nat)), some (.int (H : Nat))] (S ++ [.obj "Calendar" ["rule", "days", "hours", "rows"] [pPar p, .int (D : Nat), .int (H : Nat), .ref (S.length + 1)], .lst []]) = .nx [some (.ref S.length), some (pPar p), some (.int (D : Nat)), some (.int (H : Nat))] (S ++ [.obj "Calendar" ["rule", "days", "hours", "rows", "before"] [pPar p, .int (D : Nat), .int (H : Nat), .ref (S.length + 1), .ref (S.length + 2)], .lst [], .lst []]) := by
    simp [m_Calendar___init___s4, fset_mid rfl, fput]
  have s5 : m_Calendar___init___s5 [some (.ref S.length), some (pPar p), some (.int (D : Nat)), some (.int (H : Nat))] (S ++ [.obj "Calendar" ["rule", "days", "hours", "rows", "before"] [pPar p, .int (D : Nat), .int (H : Nat), .ref (S.length + 1), .ref (S.length + 2)], .lst [], .lst []]) = .nx [some (.ref S.length), some (pPar p), some (.int (D : Nat)), some (.int (H : Nat))] (S ++ [.obj "Calendar" ["rule", "days", "hours", "rows", "before", "seen"] [pPar p, .int (D : Nat), .int (H : Nat), .ref (S.length + 1), .ref (S.length + 2), .ref (S.length + 3)], .lst [], .lst [], .lst []]) := by
    simp [m_Calendar___init___s5, fset_mid rfl, fput]
  have s6 : m_Calendar___init___s6 [some (.ref S.length), some (pPar p), some (.int (D : Nat)), some (.int (H : Nat))] (S ++ [.obj "Calendar" ["rule", "days", "hours", "rows", "before", "seen"] [pPar p, .int (D : Nat), .int (H : Nat), .ref (S.length + 1), .ref (S.length + 2), .ref (S.length + 3)], .lst [], .lst [], .lst []]) = .nx [some (.ref S.length), some (pPar p), some (.int (D : Nat)), some (.int (H : Nat))] (S ++ [.obj "Calendar" ["rule", "days", "hours", "rows", "before", "seen", "rooms"] [pPar p, .int (D : Nat), .int (H : Nat), .ref (S.length + 1), .ref (S.length + 2), .ref (S.length + 3), .ref (S.length + 4)], .lst [], .lst [], .lst [], .dcT [] []]) := by
    simp [m_Calendar___init___s6, fset_mid rfl, fput]
  have s7 : m_Calendar___init___s7 [some (.ref S.length), some (pPar p), some (.int (D : Nat)), some (.int (H : Nat))] (S ++ [.obj "Calendar" ["rule", "days", "hours", "rows", "before", "seen", "rooms"] [pPar p, .int (D : Nat), .int (H : Nat), .ref (S.length + 1), .ref (S.length + 2), .ref (S.length + 3), .ref (S.length + 4)], .lst [], .lst [], .lst [], .dcT [] []]) = .nx [some (.ref S.length), some (pPar p), some (.int (D : Nat)), some (.int (H : Nat))] (S ++ [.obj "Calendar" ["rule", "days", "hours", "rows", "before", "seen", "rooms", "persons"] [pPar p, .int (D : Nat), .int (H : Nat), .ref (S.length + 1), .ref (S.length + 2), .ref (S.length + 3), .ref (S.length + 4), .ref (S.length + 5)], .lst [], .lst [], .lst [], .dcT [] [], .dcT [] []]) := by
    simp [m_Calendar___init___s7, fset_mid rfl, fput]
  have s8 : m_Calendar___init___s8 [some (.ref S.length), some (pPar p), some (.int (D : Nat)), some (.int (H : Nat))] (S ++ [.obj "Calendar" ["rule", "days", "hours", "rows", "before", "seen", "rooms", "persons"] [pPar p, .int (D : Nat), .int (H : Nat), .ref (S.length + 1), .ref (S.length + 2), .ref (S.length + 3), .ref (S.length + 4), .ref (S.length + 5)], .lst [], .lst [], .lst [], .dcT [] [], .dcT [] []]) = .nx [some (.ref S.length), some (pPar p), some (.int (D : Nat)), some (.int (H : Nat))] (S ++ newSto p D H S.length) := by
    simp [m_Calendar___init___s8, fset_mid rfl, fput, newSto, calObj, calFs, newAt]
  have m : m_Calendar___init__ [.ref S.length, pPar p, .int (D : Nat), .int (H : Nat)] (S ++ [.obj "Calendar" [] []]) = .ok .non (S ++ newSto p D H S.length) := by
    simp only [m_Calendar___init__, mFn, ev]
    rw [w_seq', s0, nxt_nx, w_seq', s1, nxt_nx, w_seq', s2, nxt_nx, w_seq', s3, nxt_nx, w_seq', s4, nxt_nx, w_seq', s5, nxt_nx, w_seq', s6, nxt_nx, w_seq', s7, nxt_nx, s8]
    rfl
  simp only [makM, m, R.bind_ok]
theorem nil_tok {κ : Type} [DecidableEq κ] : TOk ([] : Tbl κ) := ⟨List.nodup_nil, (fun x h => nomatch h), (fun x h => nomatch h)⟩
theorem new_cal {p : Par} {D H : Nat} {S : Sto} : CalS (S ++ newSto p D H S.length) (newAt S.length) (newCal p D H) := by
  have at_ : ∀ i o, (newSto p D H S.length)[i]? = some o → (S ++ newSto p D H S.length)[S.length + i]? = some o := fun i o e => by
    rw [List.getElem?_append_right (by omega)]
    rw [Nat.add_sub_cancel_left]; exact e
  refine ⟨at_ 0 _ rfl, at_ 1 _ rfl, at_ 2 _ rfl, at_ 3 _ rfl, at_ 6 _ rfl, ⟨⟨at_ 4 _ rfl, rfl, (fun i x r e _ => nomatch e), by simp [newAt]⟩, ⟨at_ 5 _ rfl, rfl, (fun i x r e _ => nomatch e), by simp [newAt]⟩, nil_tok, nil_tok, by simp [newAt, CAt.fpT, CAt.fp2, CAt.fp3]⟩, ?_⟩
  simp [newAt, CAt.fp, CAt.fpT, CAt.fp2, CAt.fp3]
theorem new_ok {p : Par} {D H : Nat} (h1 : 1 ≤ D) (h2 : D ≤ 1000) (h3 : 1 ≤ H) (h4 : H < 1000) : CalOk (newCal p D H) := by
  refine ⟨h1, h2, h3, h4, (fun r h => nomatch h), by simp [newCal], rfl, rfl, (fun q m => ?_), (fun q m => ?_), nil_tok, nil_tok, (fun r h => nomatch h), (fun k o e => nomatch e)⟩
  · simp [newCal, tget]
  · simp [newCal, tget]
theorem doC_seen {x : Cal} {k : Nat} {s : Step} : (doC x k s).seen = x.seen ∧ (doC x k s).p = x.p ∧ (doC x k s).D = x.D ∧ (doC x k s).H = x.H := by
  unfold doC
  cases rowB x.p x.H x.rows k s with
  | some r => exact ⟨rfl, rfl, rfl, rfl⟩
  | none =>
    dsimp only
    split
    · cases bef x k <;> exact ⟨rfl, rfl, rfl, rfl⟩
    · exact ⟨rfl, rfl, rfl, rfl⟩
theorem doC_len {x : Cal} (ok : CalOk x) {k : Nat} (hk : k < x.rows.length) {s : Step} (hs : SeOk x s) : (doC x k s).T.1.length ≤ x.T.1.length + x.D ∧ (doC x k s).T.2.length ≤ x.T.2.length + x.D ∧ (doC x k s).done.length ≤ x.done.length + 1 ∧ (doC x k s).rows.length = x.rows.length := by
  have nt : ∀ d r b, RowOk x k r b → (noteC x k d r b).T.1.length ≤ x.T.1.length + x.D ∧ (noteC x k d r b).T.2.length ≤ x.T.2.length + x.D ∧ (noteC x k d r b).done.length ≤ x.done.length + 1 ∧ (noteC x k d r b).rows.length = x.rows.length := fun d r b hr => by
    have := putT_len (x := x) (k := k) (r := r)
    rw [hr.len] at this
    exact ⟨this.1, this.2, by simp [noteC], by simp [noteC]⟩
  unfold doC
  cases e : rowB x.p x.H x.rows k s with
  | some r => exact nt _ _ _ (row_ok ok hk hs e)
  | none =>
    dsimp only
    split
    · cases eb : bef x k with
      | none =>
        show x.T.1.length ≤ _ ∧ x.T.2.length ≤ _ ∧ x.done.length ≤ _ ∧ x.rows.length = _
        exact ⟨by omega, by omega, by omega, rfl⟩
      | some o => exact nt _ _ _ (back_ok ok hk eb)
    · exact ⟨by omega, by omega, by omega, rfl⟩
end Lw
set_option Elab.async false
set_option linter.all false
set_option maxRecDepth 10000
set_option maxHeartbeats 400000
namespace Lw
open PySem PySem.Spec PyProof.Rows L2 Mi
theorem CalS.chg {S S' : Sto} {a : CAt} {x : Cal} {gp gp' : List Nat} (h : CalS S a x) (c : Chg S S' gp gp') (d : ∀ n ∈ a.fp, n ∉ gp) : CalS S' a x := by
  have m : ∀ n, n ∈ [a.c, a.r, a.b, a.s, a.dn] → n ∉ gp := fun n hn => d n (List.mem_append_left _ hn)
  have t : ∀ n ∈ a.fpT, n ∉ gp := fun n hn => d n (List.mem_append_right _ hn)
  exact ⟨c.at h.obj (m _ (by simp)), c.at h.rows (m _ (by simp)), c.at h.before (m _ (by simp)), c.at h.seen (m _ (by simp)), c.at h.done (m _ (by simp)),
    ⟨h.tt.t2.chg c fun n hn => t n (List.mem_append_left _ hn), h.tt.t3.chg c fun n hn => t n (List.mem_append_right _ hn), h.tt.ok2, h.tt.ok3, h.tt.nd⟩, h.nd⟩
end Lw
set_option Elab.async false
set_option linter.all false
set_option maxRecDepth 10000
set_option maxHeartbeats 400000
namespace Lw
open PySem PySem.Spec PyProof.Rows L2 Mi
abbrev Sn := List Row × List (Option Row)
/-- what done keeps of a deed -/
def ent (f : Deed × Sn) : Done := match f.1 with
  | .add w h => (.add w h, none, none)
  | .step k s => (.step k s, some (rowAt f.2.1 k), (f.2.2[k]?).getD none)
end Lw
set_option Elab.async false
set_option linter.all false
set_option maxRecDepth 10000
set_option maxHeartbeats 400000
namespace Lw
open PySem PySem.Spec PyProof.Rows L2 Mi
def stepS (p : Par) (H : Nat) (s : Sn) (k : Nat) (t : Step) : Option Sn := match rowB p H s.1 k t with
  | some r => some (s.1.set k r, s.2.set k (if isRoom t then some (rowAt s.1 k) else (s.2[k]?).getD none))
  | none => if t = .person ∧ p.h = "undone" then (match (s.2[k]?).getD none with
    | some o => some (s.1.set k (backRow (rowAt s.1 k) o), s.2.set k none)
    | none => none) else none
def dayCan (rs : List Row) (w h : Int) (d : Nat) : Bool := (List.range rs.length).all fun m => !decide ((dayAt (rowAt rs m) d).a = some h) && !(decide ((rowAt rs m).who = w) && decide ((dayAt (rowAt rs m) d).b = some h))
def canS (D : Nat) (rs : List Row) (w h : Int) : Bool := (List.range D).all (dayCan rs w h)
def nextS (p : Par) (D H : Nat) (s : Sn) : Deed → Option Sn
  | .add w h => if canS D s.1 w h then some (s.1 ++ [newRow w h D], s.2 ++ [none]) else none
  | .step k t => stepS p H s k t
/-- the calendar behind a deed -/
def goC (x : Cal) : Deed → Cal
  | .add w h => if canAdd x w h then addC x w h else x
  | .step k s => doC x k s
/-- a deed that may be asked -/
def DeOk (x : Cal) : Deed → Prop
  | .add w h => 0 ≤ w ∧ 0 ≤ h ∧ h < x.H ∧ x.rows.length < 800
  | .step k s => k < x.rows.length ∧ SeOk x s
/-- what the deed tells: none, or the deed that was refused -/
def okC (x : Cal) : Deed → Bool
  | .add w h => canAdd x w h
  | .step k s => doneB x k s
theorem canS_iff {D : Nat} {rs : List Row} {w h : Int} : canS D rs w h = true ↔ ∀ d, d < D → ∀ m, m < rs.length → (dayAt (rowAt rs m) d).a ≠ some h ∧ ¬ ((rowAt rs m).who = w ∧ (dayAt (rowAt rs m) d).b = some h) := by
  unfold canS dayCan
  simp [List.all_eq_true, Classical.or_iff_not_imp_left]
theorem canAdd_S {x : Cal} (ok : CalOk x) {w h : Int} : canAdd x w h = canS x.D x.rows w h := by
  have := (canAdd_iff ok (w := w) (h := h)).trans canS_iff.symm
  cases a : canAdd x w h <;> cases b : canS x.D x.rows w h <;> simp_all
theorem go_next {x : Cal} (ok : CalOk x) {d : Deed} (hd : DeOk x d) : match nextS x.p x.D x.H (x.rows, x.before) d with
    | some q => ((goC x d).rows, (goC x d).before) = q ∧ (goC x d).done = x.done ++ [ent (d, (x.rows, x.before))]
    | none => goC x d = x ∧ okC x d = false := by
  cases d with
  | add w h =>
    simp only [nextS, goC, okC, canAdd_S ok]
    cases canS x.D x.rows w h with
    | true => exact ⟨rfl, rfl⟩
    | false => exact ⟨rfl, rfl⟩
  | step k s =>
    simp only [nextS, goC, okC, stepS, doC, doneB]
    cases e : rowB x.p x.H x.rows k s with
    | some r => exact ⟨rfl, rfl⟩
    | none =>
      dsimp only
      by_cases hc : s = .person ∧ x.p.h = "undone"
      · rw [if_pos hc, if_pos hc]
        have : bef x k = (x.before[k]?).getD none := rfl
        rw [this]
        cases eb : (x.before[k]?).getD none with
        | none => exact ⟨rfl, rfl⟩
        | some o => exact ⟨rfl, by simp [noteC, ent, eb]⟩
      · rw [if_neg hc, if_neg hc]
        exact ⟨rfl, rfl⟩
theorem go_ok {x : Cal} (ok : CalOk x) {d : Deed} (hd : DeOk x d) : CalOk (goC x d) := by
  cases d with
  | add w h =>
    simp only [goC]
    split
    · exact addC_ok ok hd.2.2.2
    · exact ok
  | step k s => exact doC_ok ok hd.1 hd.2
theorem go_same {x : Cal} {d : Deed} : (goC x d).p = x.p ∧ (goC x d).D = x.D ∧ (goC x d).H = x.H := by
  cases d with
  | add w h =>
    simp only [goC]
    split <;> exact ⟨rfl, rfl, rfl⟩
  | step k s => exact ⟨doC_seen.2.1, doC_seen.2.2.1, doC_seen.2.2.2⟩
theorem go_len {x : Cal} (ok : CalOk x) {d : Deed} (hd : DeOk x d) : (goC x d).T.1.length ≤ x.T.1.length + x.D ∧ (goC x d).T.2.length ≤ x.T.2.length + x.D ∧ (goC x d).done.length ≤ x.done.length + 1 ∧ (goC x d).rows.length ≤ x.rows.length + 1 := by
  cases d with
  | add w h =>
    simp only [goC]
    split
    · have := addC_len (x := x) (w := w) (h := h)
      exact ⟨this.1, this.2, by simp [addC], by simp [addC]⟩
    · exact ⟨by omega, by omega, by omega, by omega⟩
  | step k s =>
    have := doC_len ok hd.1 hd.2
    exact ⟨this.1, this.2.1, this.2.2.1, by show (doC x k s).rows.length ≤ _; omega⟩
theorem tryC_ok {ct : Str → Option Bool} {f : Str} {i j : Nat} {body : MS} {ρ ρ' : Ev} {S S' : Sto} (h : body ρ S = .nx ρ' S') : mTryF ct f i j body ρ S = .nx ρ' S' := by unfold mTryF; rw [h]
theorem oneC_it (c : Str) : oneC c c = some true := by simp [oneC]
theorem tryC_exc {ct : Str → Option Bool} {c c' f : Str} {i j : Nat} {body : MS} {ρ ρ' : Ev} {y : MV} {S S' : Sto} (h : body ρ S = .exc c (.obj c' [f] [y]) ρ' S') (hij : i ≠ j) (hi : i < ρ'.length) (hc : ct c = some true := by first | exact oneC_it _ | decide) : mTryF ct f i j body ρ S = .nx (((ρ'.set i none).set j (some y)).set i none) S' := by
  unfold mTryF; rw [h]; simp only [hc]; rw [if_pos ⟨trivial, hij, hi⟩]
section
variable {S : Sto} {a : CAt} {x : Cal}
theorem deed0 {k : Nat} {s : Step} : ∃ t, (∀ S, idxM (pDeed (.step k s)) (.int 0) S = .ok (.str t) S) ∧ t ≠ "add" := by
  cases s <;> exact ⟨_, fun _ => rfl, by decide⟩
theorem len9 (h : CalS S a x) (ld : x.done.length < 800000) : lenO "Calendar" m_Calendar___len__ [.ref a.c] S = .ok (.int (x.done.length : Nat)) S := by
  have f1 := f_done h.obj
  have ln : lenM [.ref a.dn] S = .ok (.int ((x.done.map pDone).length : Nat)) S := len_cell h.done (by simp; omega)
  have ln : lenM [.ref a.dn] S = .ok (.int (x.done.length : Nat)) S := by rw [ln, List.length_map]
  have e : m_Calendar___len__ [.ref a.c] S = .ok (.int (x.done.length : Nat)) S := by
    simp [m_Calendar___len__, mFn, m_Calendar___len___s0, f1, ln]
  unfold lenO
  dsimp only
  rw [obj_at h.obj]
  dsimp only
  rw [if_pos rfl, e, R.calm_ok, R.bind_ok]
  exact if_pos ⟨by omega, by omega⟩
theorem led_on9 (h : CalS S a x) (ok : CalOk x) {d : Deed} (hd : DeOk x d) {q : Sn} (hn : nextS x.p x.D x.H (x.rows, x.before) d = some q) (l2 : x.T.1.length < 800000) (l3 : x.T.2.length < 800000) (ld : x.done.length < 700000) :
    ∃ S' rs2 rs3, m_led_on [.ref a.c, pDeed d] S = .ok .non S' ∧ CalS S' { a with rs2 := rs2, rs3 := rs3 } (goC x d) ∧ Chg S S' a.fp (CAt.fp { a with rs2 := rs2, rs3 := rs3 }) := by
  have gn := go_next ok hd
  rw [hn] at gn
  obtain ⟨_, gd⟩ := gn
  cases d with
  | add w h0 =>
    obtain ⟨S', rs2, rs3, e, h', c⟩ := add_eq h ok hd.1 hd.2.1 hd.2.2.1 hd.2.2.2 l2 l3 (by omega)
    refine ⟨S', rs2, rs3, ?_, h', c⟩
    have m1 : methM "Calendar" "add" m_Calendar_add (.ref a.c) S = true := f_meth h.obj (by decide)
    have i0 : ∀ S, idxM (pDeed (.add w h0)) (.int 0) S = .ok (.str "add") S := fun _ => rfl
    have i1 : ∀ S, idxM (pDeed (.add w h0)) (.int 1) S = .ok (.int w) S := fun _ => rfl
    have i2 : ∀ S, idxM (pDeed (.add w h0)) (.int 2) S = .ok (.int h0) S := fun _ => rfl
    have z : canAdd x w h0 = true := by
      rw [canAdd_S ok]
      simp only [nextS] at hn
      split at hn
      · assumption
      · cases hn
    rw [z, if_pos rfl] at e
    simp [m_led_on, mFn, m_led_on_s0, m_led_on_s1, m_led_on_s2, i0, i1, i2, mMeth, m1, e]
  | step k s =>
    obtain ⟨S', rs2, rs3, e, h', c⟩ := do_eq h ok hd.1 hd.2 l2 l3 (by omega)
    refine ⟨S', rs2, rs3, ?_, h', c⟩
    have m1 : methM "Calendar" "do" m_Calendar_do (.ref a.c) S = true := f_meth h.obj (by decide)
    obtain ⟨t, i0, ht⟩ := deed0 (k := k) (s := s)
    have n1 := len9 h (by omega)
    have gl : (doC x k s).done.length = x.done.length + 1 := by
      show (goC x (.step k s)).done.length = _
      rw [gd]; simp
    have n2 : lenO "Calendar" m_Calendar___len__ [.ref a.c] S' = .ok (.int ((x.done.length + 1 : Nat) : Int)) S' := by
      have := len9 (a := { a with rs2 := rs2, rs3 := rs3 }) h' (by omega)
      rw [gl] at this; exact this
    have ne : ¬ (((x.done.length + 1 : Nat) : Int) = (x.done.length : Nat)) := by omega
    have s0 : m_led_on_s0 (ev0 5 [.ref a.c, pDeed (.step k s)]) S = .nx [some (.ref a.c), some (pDeed (.step k s)), none, none, none] S := by
      simp [m_led_on_s0, ev0, i0, ht]
    have s3 : m_led_on_s3 [some (.ref a.c), some (pDeed (.step k s)), none, none, none] S = .nx [some (.ref a.c), some (pDeed (.step k s)), some (.int (x.done.length : Nat)), none, none] S := by
      simp [m_led_on_s3, n1]
    have s4 : m_led_on_s4 [some (.ref a.c), some (pDeed (.step k s)), some (.int (x.done.length : Nat)), none, none] S = .nx [some (.ref a.c), some (pDeed (.step k s)), some (.int (x.done.length : Nat)), some .non, none] S := rfl
    cases z : doneB x k s with
    | true =>
      rw [z, if_pos rfl] at e
      have b : m_led_on_s6 [some (.ref a.c), some (pDeed (.step k s)), some (.int (x.done.length : Nat)), some .non, none] S = .nx [some (.ref a.c), some (pDeed (.step k s)), some (.int (x.done.length : Nat)), some .non, none] S' := by
        simp [m_led_on_s6, mMeth, m1, e]
      simp only [m_led_on, mFn]
      rw [w_seq', s0, nxt_nx, w_seq', s3, nxt_nx, w_seq', s4, nxt_nx, w_seq', m_led_on_s5, tryC_ok b, nxt_nx]
      have : isnM .non .non S' = .ok (.bl false) S' := rfl
      simp [m_led_on_s7, this]
    | false =>
      rw [z, if_neg (by simp)] at e
      have b : m_led_on_s6 [some (.ref a.c), some (pDeed (.step k s)), some (.int (x.done.length : Nat)), some .non, none] S = .exc "Refused" (.obj "Refused" ["deed"] [pDeed (.step k s)]) [some (.ref a.c), some (pDeed (.step k s)), some (.int (x.done.length : Nat)), some .non, none] S' := by
        simp [m_led_on_s6, mMeth, m1, e]
      simp only [m_led_on, mFn]
      rw [w_seq', s0, nxt_nx, w_seq', s3, nxt_nx, w_seq', s4, nxt_nx, w_seq', m_led_on_s5, tryC_exc b (by decide) (by simp), nxt_nx]
      have : isnM (pDeed (.step k s)) .non S' = .ok (.bl true) S' := by cases s <;> rfl
      simp [m_led_on_s7, this, n2]
      omega
end
end Lw
set_option Elab.async false
set_option linter.all false
set_option maxRecDepth 10000
set_option maxHeartbeats 400000
namespace Lw
open PySem PySem.Spec PyProof.Rows L2 Mi
def isFig (c : Nat) : Bool := Nat.ble 48 c && Nat.ble c 57
theorem fig_iff {c : Nat} : isFig c = true ↔ 48 ≤ c ∧ c ≤ 57 := by simp [isFig, Nat.ble_eq]
def strN (n : Nat) : Str := Str.ofString (toString (n : Int))
def numOf (w : Str) : Option Nat := if (Nat.ble 1 w.length && Nat.ble w.length 9) && w.cps.toList.all isFig then (if strN (NumText.digitsVal w.cps.toList) = w then some (NumText.digitsVal w.cps.toList) else none) else none
def oN : Option Nat → MV
  | none => .non
  | some n => .int (n : Nat)
theorem figs_mem (c : Nat) : decide (c ∈ (Str.ofString "0123456789").cps.toList) = isFig c := by
  have e : (Str.ofString "0123456789").cps.toList = [48, 49, 50, 51, 52, 53, 54, 55, 56, 57] := by decide +kernel
  rw [e]
  cases h : isFig c with
  | true =>
    have := fig_iff.mp h
    refine decide_eq_true ?_
    simp only [List.mem_cons, List.not_mem_nil, or_false]
    omega
  | false =>
    refine decide_eq_false fun m => ?_
    have : isFig c = true := fig_iff.mpr (by
      simp only [List.mem_cons, List.not_mem_nil, or_false] at m
      omega)
    rw [h] at this; cases this
theorem val_lt : ∀ (cs : List Nat), NumText.AllDigits cs → NumText.digitsVal cs < 10 ^ cs.length := by
  have go : ∀ (cs : List Nat) (a : Nat), NumText.AllDigits cs → cs.foldl (fun acc c => acc * 10 + (c - 48)) a < (a + 1) * 10 ^ cs.length := by
    intro cs
    induction cs with
    | nil => intro a _; simp
    | cons c cs ih =>
      intro a h
      have hc := h c List.mem_cons_self
      have := ih (a * 10 + (c - 48)) fun x hx => h x (List.mem_cons_of_mem _ hx)
      rw [List.length_cons, Nat.pow_succ, List.foldl_cons]
      refine Nat.lt_of_lt_of_le this ?_
      have h1 : a * 10 + (c - 48) + 1 ≤ (a + 1) * 10 := by omega
      have := Nat.mul_le_mul_right (10 ^ cs.length) h1
      rw [Nat.mul_comm (10 ^ cs.length) 10, ← Nat.mul_assoc]
      exact this
  intro cs h
  have := go cs 0 h
  simpa [NumText.digitsVal] using this
theorem number_eq {w : Str} {S : Sto} (hw : w.length ≤ 1000) : m_number_of [.str w] S = .ok (oN (numOf w)) S := by
  have hz := sizeLine_eq
  have l1 : ∀ S, lenM [.str w] S = .ok (.int (w.length : Nat)) S := fun S => by
    simp [lenM, lenD, dctOf, seqOf, lstOf]
    omega
  have sg : ∀ S, mSigns (mVar 0) [some (.str w), none] S = .ok (.dkt (Mi.signs w)) S := fun S => rfl
  have si : (Src.dkt (Mi.signs w)).items = Mi.signs w := rfl
  have sl : (Mi.signs w).length ≤ sizeLine := by
    rw [Mi.signs, List.length_map, Array.length_toList]
    show w.length ≤ _
    omega
  have its : ∀ S, lcGo (fun S => Src.ok S (.dkt (Mi.signs w))) (tgName 1) mTrue (mOp inSM (mVar 1) (mC d_FIGURES)) [some (.str w), none] (Mi.signs w) [] S = .ok (w.cps.toList.map fun c => .bl (isFig c)) S := fun S => by
    refine lc_map (fun c => MV.str ⟨#[c]⟩) (fun c => .bl (isFig c)) w.cps.toList rfl rfl fun c hc => ?_
    have fm := figs_mem c
    simp only [Array.mem_toList_iff] at fm
    simp [turnE, inSM, d_FIGURES, fm]
  have al : ∀ S, allM [.lst (w.cps.toList.map fun c => MV.bl (isFig c))] S = .ok (.bl (w.cps.toList.all isFig)) S := fun S => by
    have e := allM_bl (xs := w.cps.toList.map isFig) (S := S)
    rw [List.map_map] at e
    rw [show (w.cps.toList.map fun c => MV.bl (isFig c)) = List.map (MV.bl ∘ isFig) w.cps.toList from rfl, e, List.all_map]
    rfl
  unfold numOf
  by_cases h1 : 1 ≤ w.length
  · have h1i : (1 : Int) ≤ (w.length : Nat) := by omega
    by_cases h9 : w.length ≤ 9
    · have h9i : ((w.length : Nat) : Int) ≤ 9 := by omega
      by_cases hd : w.cps.toList.all isFig = true
      · have ad : NumText.AllDigits w.cps.toList := fun c hc => fig_iff.mp (List.all_eq_true.mp hd c hc)
        have ne : w.cps.toList ≠ [] := fun z => by
          have : w.cps.toList.length = w.length := Array.length_toList
          rw [z] at this
          have : 0 = w.length := this
          omega
        have it := PySem.intText_digits ad ne (by omega)
        have itm : ∀ S, intTM [.str w] S = .ok (.int (NumText.digitsVal w.cps.toList : Nat)) S := fun S => by
          have : Nat.ble w.length 640 = true := Nat.ble_eq.mpr (by omega)
          simp [intTM, it, this]
        have vl : NumText.digitsVal w.cps.toList < 1000000000 := by
          refine Nat.lt_of_lt_of_le (val_lt _ ad) ?_
          have : w.cps.toList.length = w.length := Array.length_toList
          rw [this]
          exact Nat.pow_le_pow_right (n := 10) (by decide) h9
        have sm : ∀ S, strM [.int (NumText.digitsVal w.cps.toList : Nat)] S = .ok (.str (strN (NumText.digitsVal w.cps.toList))) S := fun S => by
          simp [strM, vl, strN]
        by_cases hq : strN (NumText.digitsVal w.cps.toList) = w
        · simp [m_number_of, mFn, m_number_of_s0, m_number_of_s2, l1, h1, h9, h1i, h9i, hd, sg, si, sl, its, al, itm, sm, hq, oN, mkL]
        · simp [m_number_of, mFn, m_number_of_s0, m_number_of_s1, l1, h1, h9, h1i, h9i, hd, sg, si, sl, its, al, itm, sm, hq, oN, mkL]
      · simp [m_number_of, mFn, m_number_of_s0, m_number_of_s1, l1, h1, h9, h1i, h9i, hd, sg, si, sl, its, al, oN, mkL]
    · have h9i : ¬ ((w.length : Nat) : Int) ≤ 9 := by omega
      simp [m_number_of, mFn, m_number_of_s0, m_number_of_s1, l1, h1, h9, h1i, h9i, oN]
  · have h1i : ¬ (1 : Int) ≤ (w.length : Nat) := by omega
    simp [m_number_of, mFn, m_number_of_s0, m_number_of_s1, l1, h1, h1i, oN]
end Lw
set_option Elab.async false
set_option linter.all false
set_option maxRecDepth 10000
set_option maxHeartbeats 400000
namespace Lw
open PySem PySem.Spec PyProof.Rows L2 Mi
def numsOf : List Str → Option (List Nat)
  | [] => some []
  | w :: ws => match numOf w, numsOf ws with
    | some n, some ns => some (n :: ns)
    | _, _ => none
def deedOf (w : Str) (ns : List Nat) : Option Deed :=
  if w = "add" then (match ns with | [a, b] => some (.add (a : Nat) (b : Nat)) | _ => none)
  else if w = "room" then (match ns with | [k, h] => some (.step k (.room (h : Nat))) | _ => none)
  else if w = "person" then (match ns with | [k] => some (.step k .person) | _ => none)
  else if w = "one" then (match ns with | [k, d, h] => some (.step k (.one d (h : Nat))) | _ => none)
  else if w = "off" then (match ns with | [k, d] => some (.step k (.off d)) | _ => none)
  else none
def wordsOf (ws : List Str) : Option Deed := match ws with
  | [] => none
  | w :: rest => (match numsOf rest with
    | some ns => deedOf w ns
    | none => none)
def lineOf (line : Str) : Option Deed := wordsOf (Txt.split line " ")
def oD : Option Deed → MV
  | none => .non
  | some d => pDeed d
theorem nums_map : ∀ {ws : List Str} {ns : List Nat}, numsOf ws = some ns → ws.map numOf = ns.map some
  | [], ns, h => by cases h; rfl
  | w :: ws, ns, h => by
    rw [numsOf] at h
    cases e1 : numOf w with
    | none => simp [e1] at h
    | some n =>
      cases e2 : numsOf ws with
      | none => simp [e1, e2] at h
      | some ms =>
        rw [e1, e2] at h
        have h : some (n :: ms) = some ns := h
        cases h
        rw [List.map_cons, e1, nums_map e2]; rfl
theorem nums_none : ∀ {ws : List Str}, numsOf ws = none → none ∈ ws.map numOf
  | [], h => by cases h
  | w :: ws, h => by
    rw [numsOf] at h
    cases e1 : numOf w with
    | none => simp [e1]
    | some n =>
      cases e2 : numsOf ws with
      | none => rw [List.map_cons]; exact List.mem_cons_of_mem _ (nums_none e2)
      | some ms => simp [e1, e2] at h
theorem sh_oN {o : Option Nat} : sh (oN o) = true := by cases o <;> simp [oN, sh]
theorem dpt_oN {o : Option Nat} : dpt (oN o) = 0 := by cases o <;> simp [oN, dpt]
theorem in_nums {os : List (Option Nat)} {S : Sto} (hl : os.length ≤ 2000) : inM .non (.tup (os.map oN)) S = .ok (.bl (decide (none ∈ os))) S := by
  have s1 : shs (os.map oN) = true := shs_map (fun _ => sh_oN) os
  have d1 : dpts (os.map oN) ≤ 0 := dpts_map os fun _ _ => by rw [dpt_oN]; exact Nat.le_refl _
  unfold inM
  rw [inB_sh (c := .tup (os.map oN)) (ys := os.map oN) (.inl rfl) (by simp [sh]) s1 (by simp [dpt]) (by omega)]
  have : ∀ os : List (Option Nat), decide (cn .non ∈ cns (os.map oN)) = decide (none ∈ os) := fun os => by
    induction os with
    | nil => rfl
    | cons o os ih =>
      rw [List.map_cons, cns]
      have e : (cn .non ∈ cns (os.map oN)) ↔ none ∈ os := by
        constructor
        · intro h; exact of_decide_eq_true (ih.symm.trans (decide_eq_true h))
        · intro h; exact of_decide_eq_true (ih.trans (decide_eq_true h))
      refine decide_eq_decide.mpr ?_
      rw [List.mem_cons, List.mem_cons, e]
      cases o <;> simp [oN, cn]
  simp only [this]
def sizeW (w : Str) : Option Int := if w = "add" then some 3 else tab_SIZES.lookup w
end Lw
set_option Elab.async false
set_option linter.all false
set_option maxRecDepth 10000
set_option maxHeartbeats 400000
namespace Lw
open PySem PySem.Spec PyProof.Rows L2 Mi
theorem add_nums {w : Str} {ns : List Nat} {S : Sto} (h : ns.length ≤ 2000) : addM (.tup [.str w]) (.tup (ns.map fun n => .int (n : Nat))) S = .ok (.tup (.str w :: ns.map fun n => .int (n : Nat))) S := by
  have hz := sizeLine_eq
  simp [addM]
  try omega
theorem ix0 {x : MV} {xs : List MV} {S : Sto} : idxM (.lst (x :: xs)) (.int 0) S = .ok x S := by
  show idxM _ (.int ((0 : Nat) : Int)) S = _
  exact ix_lst rfl
theorem num_call {words : List Str} {S : Sto} {ρ : Ev} (hl : ∀ w ∈ words, w.length ≤ 1000) (hρ : ρ.length = 5) :
    lcGo (fun _ => true) (tgName 4) mTrue (mCallF m_number_of (mCons (mVar 4) mNil)) ρ (words.map .str) [] S = .ok (words.map (oN ∘ numOf)) S := by
  refine lc_map MV.str (oN ∘ numOf) words rfl rfl fun w hw => ?_
  have := number_eq (S := S) (hl w hw)
  simp [turnE, hρ, this]
theorem deed_s3 {x0 words sz : MV} {w : Str} {xs : List MV} {L : Int} {b1 b2 : Bool} {S : Sto} (ln : lenM [words] S = .ok (.int L) S) (ne : neM (.int L) sz S = .ok (.bl b1) S) (nn : inM .non (.tup xs) S = .ok (.bl b2) S) (i0 : idxM words (.int 0) S = .ok (.str w) S)
    {d : MV} (ad : b1 = false → b2 = false → addM (.tup [.str w]) (.tup xs) S = .ok d S) : toR (m_deed_in_s3 [some x0, some words, some (.tup xs), some sz, none] S) = .ok (if b1 || b2 then .non else d) S := by
  cases b1 <;> cases b2
  · have ad := ad rfl rfl
    simp [m_deed_in_s3, ln, ne, nn, i0, ad]
  · simp [m_deed_in_s3, ln, ne, nn]
  · simp [m_deed_in_s3, ln, ne]
  · simp [m_deed_in_s3, ln, ne]
theorem size_of {w : Str} {i : Int} (h : sizeW w = some i) : w = "add" ∧ i = 3 ∨ w = "room" ∧ i = 3 ∨ w = "person" ∧ i = 2 ∨ w = "one" ∧ i = 4 ∨ w = "off" ∧ i = 3 := by
  unfold sizeW at h
  by_cases h0 : w = "add"
  · rw [if_pos h0] at h; cases h; exact .inl ⟨h0, rfl⟩
  · rw [if_neg h0] at h
    unfold tab_SIZES at h; simp only [List.lookup_cons] at h
    by_cases h1 : w = "room"
    · subst h1; simp at h; simp [h]
    · rw [show (w == "room") = false from by simpa using h1] at h
      by_cases h2 : w = "person"
      · subst h2; simp at h; simp [h]
      · rw [show (w == "person") = false from by simpa using h2] at h
        by_cases h3 : w = "one"
        · subst h3; simp at h; simp [h]
        · rw [show (w == "one") = false from by simpa using h3] at h
          by_cases h4 : w = "off"
          · subst h4; simp at h; simp [h]
          · rw [show (w == "off") = false from by simpa using h4] at h
            cases h
theorem deed_sz {w : Str} {ns : List Nat} : match sizeW w with
    | some i => if i = ((ns.length + 1 : Nat) : Int) then ∃ d, deedOf w ns = some d ∧ pDeed d = .tup (.str w :: ns.map fun n => MV.int (n : Nat)) else deedOf w ns = none
    | none => deedOf w ns = none := by
  cases h : sizeW w with
  | none =>
    unfold sizeW at h
    by_cases h0 : w = "add"
    · rw [if_pos h0] at h; cases h
    · rw [if_neg h0] at h
      unfold tab_SIZES at h; simp only [List.lookup_cons] at h
      have bq : ∀ {a b : Str}, ¬ a = b → (a == b) = false := fun h => by simpa using h
      by_cases h1 : w = "room"
      · rw [h1] at h; simp at h
      · rw [bq h1] at h
        by_cases h2 : w = "person"
        · rw [h2] at h; simp at h
        · rw [bq h2] at h
          by_cases h3 : w = "one"
          · rw [h3] at h; simp at h
          · rw [bq h3] at h
            by_cases h4 : w = "off"
            · rw [h4] at h; simp at h
            · simp only [deedOf, if_neg h0, if_neg h1, if_neg h2, if_neg h3, if_neg h4]
  | some i =>
    rcases size_of h with ⟨rfl, rfl⟩ | ⟨rfl, rfl⟩ | ⟨rfl, rfl⟩ | ⟨rfl, rfl⟩ | ⟨rfl, rfl⟩
    all_goals
      simp only [deedOf]
      match ns with
      | [] => simp
      | [a] => simp [pDeed]
      | [a, b] => simp [pDeed]
      | [a, b, c] => simp [pDeed]
      | a :: b :: c :: d :: e => simp; try omega
theorem deed_in_eq {line w : Str} {rest : List Str} {S : Sto} (hs : Txt.split line " " = w :: rest) (hl : line.length ≤ 1000) : m_deed_in [.str line] S = .ok (oD (lineOf line)) S := by
  have hz := sizeLine_eq
  have ws : ∀ x ∈ w :: rest, x.length ≤ 1000 := fun x hx => Nat.le_trans (part_short (x := line) (y := " ") (by rw [hs]; exact hx)) hl
  have rl : rest.length ≤ 1001 := by have := split_le line " "; rw [hs, List.length_cons] at this; omega
  have sp : ∀ S, splitM (.str line) [.str " "] S = .ok (.lst (.str w :: rest.map .str)) S := fun S => by
    have : Nat.ble (line.length + 2) sizeLine = true := Nat.ble_eq.mpr (by omega)
    have h2 : ((Str.ofString " ").length == 0) = false := by decide +kernel
    simp [splitM, this, h2, hs]
  have s0 : m_deed_in_s0 (ev0 5 [.str line]) S = .nx [some (.str line), some (.lst (.str w :: rest.map .str)), none, none, none] S := by
    simp [m_deed_in_s0, mBM, kStr, sp, ev0]
  have s1 : m_deed_in_s1 [some (.str line), some (.lst (.str w :: rest.map .str)), none, none, none] S = .nx [some (.str line), some (.lst (.str w :: rest.map .str)), some (.tup ((rest.map numOf).map oN)), none, none] S := by
    have sl : slcM (.lst (.str w :: rest.map .str)) (some 1) none S = .ok (.lst (rest.map .str)) S := by
      have : cutM (MV.str w :: rest.map .str) (some 1) none = rest.map .str := by simp [cutM, HT.sIx, List.take_of_length_le]
      simp [slcM, lstOf, this]
    have nc := num_call (words := rest) (S := S) (ρ := [some (.str line), some (.lst (.str w :: rest.map .str)), none, none, none]) (fun x hx => ws x (List.mem_cons_of_mem _ hx)) rfl
    have sz : rest.length ≤ sizeLine := by omega
    have so : srcOf (.lst (rest.map .str)) S = .ok (.seq (.lst (rest.map .str)) (rest.map .str)) S := rfl
    have it : (Src.seq (.lst (rest.map .str)) (rest.map .str)).items = rest.map .str := rfl
    have tp : ∀ xs S, tupM [.lst xs] S = .ok (.tup xs) S := fun xs S => by simp [tupM, seqOf, lstOf]
    simp only [m_deed_in_s1]
    simp [sl, nc, sz, so, it, mkL, tp]
  have s2 : m_deed_in_s2 [some (.str line), some (.lst (.str w :: rest.map .str)), some (.tup ((rest.map numOf).map oN)), none, none] S =
      .nx [some (.str line), some (.lst (.str w :: rest.map .str)), some (.tup ((rest.map numOf).map oN)), some (match sizeW w with | some i => .int i | none => .non), none] S := by
    have i0 : idxM (.lst (.str w :: rest.map .str)) (.int 0) S = .ok (.str w) S := ix0
    by_cases ha : w = "add"
    · simp [m_deed_in_s2, i0, ha, sizeW]
    · cases hq : tab_SIZES.lookup w <;> simp [m_deed_in_s2, i0, ha, sizeW, getW, hq]
  have i0 : idxM (.lst (.str w :: rest.map .str)) (.int 0) S = .ok (.str w) S := ix0
  have ln : lenM [.lst (.str w :: rest.map .str)] S = .ok (.int ((rest.length + 1 : Nat) : Int)) S := by simp [lenM, seqOf, lstOf]
  have nn := in_nums (os := rest.map numOf) (S := S) (by rw [List.length_map]; omega)
  simp only [m_deed_in, mFn]
  rw [w_seq', s0, nxt_nx, w_seq', s1, nxt_nx, w_seq', s2, nxt_nx]
  have ne : neM (.int ((rest.length + 1 : Nat) : Int)) (match sizeW w with | some i => .int i | none => .non) S = .ok (.bl (!decide (sizeW w = some ((rest.length + 1 : Nat) : Int)))) S := by
    cases hq : sizeW w with
    | none => rfl
    | some i =>
      have : neM (.int ((rest.length + 1 : Nat) : Int)) (.int i) S = .ok (.bl (!decide (((rest.length + 1 : Nat) : Int) = i))) S := rfl
      simp only [this]
      have : (((rest.length + 1 : Nat) : Int) = i) ↔ (some i = some ((rest.length + 1 : Nat) : Int)) := ⟨fun h => by rw [h], fun h => by cases h; rfl⟩
      rw [decide_eq_decide.mpr this]
  rw [deed_s3 (d := oD (lineOf line)) ln ne nn i0 (fun hb1 hb2 => ?_)]
  · cases hn : numsOf rest with
    | none =>
      have e : lineOf line = none := by simp [lineOf, hs, wordsOf, hn]
      rw [e]
      simp [oD]
    | some ns =>
      have hl2 : ns.length = rest.length := by have := congrArg List.length (nums_map hn); simpa using this.symm
      have e : lineOf line = deedOf w ns := by simp [lineOf, hs, wordsOf, hn]
      rw [e]
      have hz3 := deed_sz (w := w) (ns := ns)
      have hm : decide (none ∈ rest.map numOf) = false := decide_eq_false fun m => by rw [nums_map hn] at m; simp at m
      rw [hm]
      cases hq : sizeW w with
      | none =>
        rw [hq] at hz3
        simp [hz3, oD]
      | some i =>
        rw [hq] at hz3
        dsimp only at hz3
        by_cases hi : i = ((ns.length + 1 : Nat) : Int)
        · rw [hl2] at hi
          simp [hi]
        · rw [if_neg hi] at hz3
          simp [hz3, oD]
  · have h1 : sizeW w = some ((rest.length + 1 : Nat) : Int) := by simpa using hb1
    have h2 : none ∉ rest.map numOf := by simpa using hb2
    cases hn : numsOf rest with
    | none => exact absurd (nums_none hn) h2
    | some ns =>
      have hnm := nums_map hn
      have hl2 : ns.length = rest.length := by have := congrArg List.length hnm; simpa using this.symm
      have ad := add_nums (w := w) (ns := ns) (S := S) (by omega)
      have em : (rest.map numOf).map oN = ns.map fun n => MV.int (n : Nat) := by rw [hnm, List.map_map]; rfl
      have e : lineOf line = deedOf w ns := by simp [lineOf, hs, wordsOf, hn]
      have hz3 := deed_sz (w := w) (ns := ns)
      rw [h1] at hz3
      dsimp only at hz3
      rw [if_pos (by rw [hl2])] at hz3
      obtain ⟨d, e1, e2⟩ := hz3
      rw [em, ad, e, e1, oD, e2]
end Lw
set_option Elab.async false
set_option linter.all false
set_option maxRecDepth 10000
set_option maxHeartbeats 400000
namespace Lw
open PySem PySem.Spec PyProof.Rows L2 Mi
/-- what a line may write -/
def PosD : Deed → Prop
  | .add w h => 0 ≤ w ∧ 0 ≤ h
  | .step _ (.room h) => 0 ≤ h
  | .step _ .person => True
  | .step _ (.one _ h) => 0 ≤ h
  | .step _ (.off _) => True
  | _ => False
def fits (D H n : Nat) : Deed → Bool
  | .add _ h => decide (h < H)
  | .step k (.room h) => decide (k < n) && decide (h < H)
  | .step k .person => decide (k < n)
  | .step k (.one d h) => decide (k < n) && (decide (d < D) && decide (h < H))
  | .step k (.off d) => decide (k < n) && decide (d < D)
  | _ => false
theorem fits_ok {x : Cal} {d : Deed} (hp : PosD d) (h : fits x.D x.H x.rows.length d = true) (hl : x.rows.length < 800) : DeOk x d := by
  cases d with
  | add w h0 => exact ⟨hp.1, hp.2, by simpa [fits] using h, hl⟩
  | step k s =>
    cases s with
    | find h => exact hp.elim
    | tell => exact hp.elim
    | room h0 => have h : k < x.rows.length ∧ h0 < x.H := by simpa [fits] using h
                 exact ⟨h.1, hp, h.2⟩
    | person => exact ⟨by simpa [fits] using h, trivial⟩
    | one d h0 => have h : k < x.rows.length ∧ d < x.D ∧ h0 < x.H := by simpa [fits] using h
                  exact ⟨h.1, h.2.1, hp, h.2.2⟩
    | off d => have h : k < x.rows.length ∧ d < x.D := by simpa [fits] using h
               exact ⟨h.1, h.2⟩
section
variable {x : Cal} {v : MV} {S : Sto} {k : Nat}
theorem deed_bad (ok : CalOk x) (hv' : IsCal S v x) {s : Step} (hp : PosD (.step k s)) (hb : fits x.D x.H x.rows.length (.step k s) = false) : m_Calendar_is_deed [v, pDeed (.step k s)] S = .ok (.bl false) S := by
  refine view_of (S' := []) hv' (by simp [refsBs]) ?_ rfl
  have l := ok.rl
  have a0 : (0 : Int) ≤ k := by omega
  have hz := line_k (n := x.rows.length) (by omega)
  have l1 : tab_SIZES.lookup ("room" : Str) = some 3 := by decide
  have l2 : tab_SIZES.lookup ("person" : Str) = some 2 := by decide
  have l3 : tab_SIZES.lookup ("one" : Str) = some 4 := by decide
  have l4 : tab_SIZES.lookup ("off" : Str) = some 3 := by decide
  by_cases hk : k < x.rows.length
  · have a1 : (k : Int) ≤ (x.rows.length : Nat) - 1 := by omega
    cases s with
    | find h => exact hp.elim
    | tell => exact hp.elim
    | room h =>
      have hp : 0 ≤ h := hp
      have b1 : ¬ h ≤ (x.H : Nat) - 1 := by simp [fits, hk] at hb; omega
      simp [mFn, pDeed, m_Calendar_is_deed_s0, m_Calendar_is_deed_s1, m_Calendar_is_deed_s2, m_Calendar_is_deed_s3, m_Calendar_is_deed_s4, m_Calendar_is_deed_s5, w_inW, w_ixW, l1, a1, hp, b1]
    | person => simp [fits, hk] at hb
    | one d h =>
      have hp : 0 ≤ h := hp
      by_cases hd : d < x.D
      · have b1 : ¬ h ≤ (x.H : Nat) - 1 := by simp [fits, hk, hd] at hb; omega
        have b2 : (d : Int) ≤ (x.D : Nat) - 1 := by omega
        simp [mFn, pDeed, m_Calendar_is_deed_s0, m_Calendar_is_deed_s1, m_Calendar_is_deed_s2, m_Calendar_is_deed_s3, m_Calendar_is_deed_s4, m_Calendar_is_deed_s5, m_Calendar_is_deed_s6, m_Calendar_is_deed_s7, m_Calendar_is_deed_s8, m_Calendar_is_deed_s9, m_Calendar_is_deed_s10, w_inW, w_ixW, l3, a1, hp, b1, b2]
      · have b2 : ¬ (d : Int) ≤ (x.D : Nat) - 1 := by omega
        simp [mFn, pDeed, m_Calendar_is_deed_s0, m_Calendar_is_deed_s1, m_Calendar_is_deed_s2, m_Calendar_is_deed_s3, m_Calendar_is_deed_s4, m_Calendar_is_deed_s5, m_Calendar_is_deed_s6, m_Calendar_is_deed_s7, m_Calendar_is_deed_s8, m_Calendar_is_deed_s9, m_Calendar_is_deed_s10, w_inW, w_ixW, l3, a1, b2]
    | off d =>
      have b2 : ¬ (d : Int) ≤ (x.D : Nat) - 1 := by simp [fits, hk] at hb; omega
      simp [mFn, pDeed, m_Calendar_is_deed_s0, m_Calendar_is_deed_s1, m_Calendar_is_deed_s2, m_Calendar_is_deed_s3, m_Calendar_is_deed_s4, m_Calendar_is_deed_s5, m_Calendar_is_deed_s6, m_Calendar_is_deed_s7, m_Calendar_is_deed_s8, m_Calendar_is_deed_s9, m_Calendar_is_deed_s10, w_inW, w_ixW, l4, a1, b2]
  · have a1 : ¬ (k : Int) ≤ (x.rows.length : Nat) - 1 := by omega
    cases s with
    | find h => exact hp.elim
    | tell => exact hp.elim
    | room h => simp [mFn, pDeed, m_Calendar_is_deed_s0, m_Calendar_is_deed_s1, m_Calendar_is_deed_s2, m_Calendar_is_deed_s3, w_inW, w_ixW, l1, a1]
    | person => simp [mFn, pDeed, m_Calendar_is_deed_s0, m_Calendar_is_deed_s1, m_Calendar_is_deed_s2, m_Calendar_is_deed_s3, w_inW, w_ixW, l2, a1]
    | one d h => simp [mFn, pDeed, m_Calendar_is_deed_s0, m_Calendar_is_deed_s1, m_Calendar_is_deed_s2, m_Calendar_is_deed_s3, w_inW, w_ixW, l3, a1]
    | off d => simp [mFn, pDeed, m_Calendar_is_deed_s0, m_Calendar_is_deed_s1, m_Calendar_is_deed_s2, m_Calendar_is_deed_s3, w_inW, w_ixW, l4, a1]
end
section
variable {S : Sto} {a : CAt} {x : Cal}
theorem do_bad (h : CalS S a x) (ok : CalOk x) {k : Nat} {s : Step} (hp : PosD (.step k s)) (hb : fits x.D x.H x.rows.length (.step k s) = false) : m_Calendar_do [.ref a.c, pDeed (.step k s)] S = .exc "BadDeed" .non S := by
  have vw := view_cal h
  have m1 : methM "Calendar" "is_deed" m_Calendar_is_deed (.ref a.c) S = true := f_meth h.obj (by decide)
  have e1 := deed_bad ok (S := S) (v := .ref a.c) vw hp hb
  simp [m_Calendar_do, mFn, m_Calendar_do_s0, m_Calendar_do_s1, mMeth, m1, e1, mRaise0]
theorem add_bad (h : CalS S a x) {w h0 : Int} (hw : 0 ≤ w) (hh : 0 ≤ h0) (hb : ¬ h0 < x.H) : m_Calendar_add [.ref a.c, .int w, .int h0] S = .exc "BadSeries" .non S := by
  have fh := f_hours h.obj
  have b1 : ¬ h0 ≤ (x.H : Nat) - 1 := by omega
  simp [m_Calendar_add, mFn, m_Calendar_add_s0, m_Calendar_add_s1, fh, hw, hh, b1, mRaise0]
end
end Lw
set_option Elab.async false
set_option linter.all false
set_option maxRecDepth 10000
set_option maxHeartbeats 400000
namespace Lw
open PySem PySem.Spec PyProof.Rows L2 Mi
def BadE (c : Str) : Prop := c = "BadSeries" ∨ c = "BadDeed" ∨ c = "Refused"
/-- the state behind a line's deed -/
def lineN (p : Par) (D H : Nat) (s : Sn) (d : Deed) : Option Sn := if fits D H s.1.length d then nextS p D H s d else none
section
variable {S : Sto} {a : CAt} {x : Cal}
theorem tryC_pass {ct : Str → Option Bool} {c f : Str} {i j : Nat} {body : MS} {ρ ρ' : Ev} {y : MV} {S S' : Sto} (h : body ρ S = .exc c y ρ' S') (hc : ct c = some false) : mTryF ct f i j body ρ S = .exc c y ρ' S' := by
  unfold mTryF; rw [h]; simp only [hc]
theorem led_off (h : CalS S a x) (ok : CalOk x) {d : Deed} (hp : PosD d) (hn : lineN x.p x.D x.H (x.rows, x.before) d = none) (hl : x.rows.length < 800) (l2 : x.T.1.length < 800000) (l3 : x.T.2.length < 800000) (ld : x.done.length < 700000) :
    ∃ c e S', m_led_on [.ref a.c, pDeed d] S = .exc c e S' ∧ BadE c := by
  unfold lineN at hn
  cases hf : fits x.D x.H x.rows.length d with
  | false =>
    cases d with
    | add w h0 =>
      have hb : ¬ h0 < x.H := by simpa [fits] using hf
      have e := add_bad h hp.1 hp.2 hb
      have m1 : methM "Calendar" "add" m_Calendar_add (.ref a.c) S = true := f_meth h.obj (by decide)
      have i0 : ∀ S, idxM (pDeed (.add w h0)) (.int 0) S = .ok (.str "add") S := fun _ => rfl
      have i1 : ∀ S, idxM (pDeed (.add w h0)) (.int 1) S = .ok (.int w) S := fun _ => rfl
      have i2 : ∀ S, idxM (pDeed (.add w h0)) (.int 2) S = .ok (.int h0) S := fun _ => rfl
      refine ⟨"BadSeries", .non, S, ?_, .inl rfl⟩
      simp [m_led_on, mFn, m_led_on_s0, m_led_on_s1, m_led_on_s2, i0, i1, i2, mMeth, m1, e]
    | step k s =>
      have e := do_bad h ok hp hf
      have m1 : methM "Calendar" "do" m_Calendar_do (.ref a.c) S = true := f_meth h.obj (by decide)
      obtain ⟨t, i0, ht⟩ := deed0 (k := k) (s := s)
      have n1 := len9 h (by omega)
      refine ⟨"BadDeed", .non, S, ?_, .inr (.inl rfl)⟩
      have s0 : m_led_on_s0 (ev0 5 [.ref a.c, pDeed (.step k s)]) S = .nx [some (.ref a.c), some (pDeed (.step k s)), none, none, none] S := by
        simp [m_led_on_s0, ev0, i0, ht]
      have s3 : m_led_on_s3 [some (.ref a.c), some (pDeed (.step k s)), none, none, none] S = .nx [some (.ref a.c), some (pDeed (.step k s)), some (.int (x.done.length : Nat)), none, none] S := by
        simp [m_led_on_s3, n1]
      have s4 : m_led_on_s4 [some (.ref a.c), some (pDeed (.step k s)), some (.int (x.done.length : Nat)), none, none] S = .nx [some (.ref a.c), some (pDeed (.step k s)), some (.int (x.done.length : Nat)), some .non, none] S := rfl
      have b : m_led_on_s6 [some (.ref a.c), some (pDeed (.step k s)), some (.int (x.done.length : Nat)), some .non, none] S = .exc "BadDeed" .non [some (.ref a.c), some (pDeed (.step k s)), some (.int (x.done.length : Nat)), some .non, none] S := by
        simp [m_led_on_s6, mMeth, m1, e]
      simp only [m_led_on, mFn]
      rw [w_seq', s0, nxt_nx, w_seq', s3, nxt_nx, w_seq', s4, nxt_nx, w_seq', m_led_on_s5, tryC_pass b (by decide)]
      rfl
  | true =>
    rw [hf, if_pos rfl] at hn
    have hd := fits_ok hp hf hl
    have gn := go_next ok hd
    rw [hn] at gn
    obtain ⟨g1, g2⟩ := gn
    cases d with
    | add w h0 =>
      obtain ⟨S', rs2, rs3, e, h', c⟩ := add_eq h ok hd.1 hd.2.1 hd.2.2.1 hd.2.2.2 l2 l3 (by omega)
      have m1 : methM "Calendar" "add" m_Calendar_add (.ref a.c) S = true := f_meth h.obj (by decide)
      have i0 : ∀ S, idxM (pDeed (.add w h0)) (.int 0) S = .ok (.str "add") S := fun _ => rfl
      have i1 : ∀ S, idxM (pDeed (.add w h0)) (.int 1) S = .ok (.int w) S := fun _ => rfl
      have i2 : ∀ S, idxM (pDeed (.add w h0)) (.int 2) S = .ok (.int h0) S := fun _ => rfl
      have z : canAdd x w h0 = false := g2
      rw [z, if_neg (by simp)] at e
      refine ⟨"Refused", refAdd w h0, S', ?_, .inr (.inr rfl)⟩
      simp [m_led_on, mFn, m_led_on_s0, m_led_on_s1, m_led_on_s2, i0, i1, i2, mMeth, m1, e]
    | step k s =>
      obtain ⟨S', rs2, rs3, e, h', c⟩ := do_eq h ok hd.1 hd.2 l2 l3 (by omega)
      have m1 : methM "Calendar" "do" m_Calendar_do (.ref a.c) S = true := f_meth h.obj (by decide)
      obtain ⟨t, i0, ht⟩ := deed0 (k := k) (s := s)
      have n1 := len9 h (by omega)
      have gl : (doC x k s).done.length = x.done.length := by
        show (goC x (.step k s)).done.length = _
        rw [g1]
      have n2 : lenO "Calendar" m_Calendar___len__ [.ref a.c] S' = .ok (.int (x.done.length : Nat)) S' := by
        have := len9 (a := { a with rs2 := rs2, rs3 := rs3 }) h' (by omega)
        rw [gl] at this; exact this
      have s0 : m_led_on_s0 (ev0 5 [.ref a.c, pDeed (.step k s)]) S = .nx [some (.ref a.c), some (pDeed (.step k s)), none, none, none] S := by
        simp [m_led_on_s0, ev0, i0, ht]
      have s3 : m_led_on_s3 [some (.ref a.c), some (pDeed (.step k s)), none, none, none] S = .nx [some (.ref a.c), some (pDeed (.step k s)), some (.int (x.done.length : Nat)), none, none] S := by
        simp [m_led_on_s3, n1]
      have s4 : m_led_on_s4 [some (.ref a.c), some (pDeed (.step k s)), some (.int (x.done.length : Nat)), none, none] S = .nx [some (.ref a.c), some (pDeed (.step k s)), some (.int (x.done.length : Nat)), some .non, none] S := rfl
      have z : doneB x k s = false := g2
      rw [z, if_neg (by simp)] at e
      have b : m_led_on_s6 [some (.ref a.c), some (pDeed (.step k s)), some (.int (x.done.length : Nat)), some .non, none] S = .exc "Refused" (.obj "Refused" ["deed"] [pDeed (.step k s)]) [some (.ref a.c), some (pDeed (.step k s)), some (.int (x.done.length : Nat)), some .non, none] S' := by
        simp [m_led_on_s6, mMeth, m1, e]
      refine ⟨"Refused", .obj "Refused" ["deed"] [pDeed (.step k s)], S', ?_, .inr (.inr rfl)⟩
      simp only [m_led_on, mFn]
      rw [w_seq', s0, nxt_nx, w_seq', s3, nxt_nx, w_seq', s4, nxt_nx, w_seq', m_led_on_s5, tryC_exc b (by decide) (by simp), nxt_nx]
      have : isnM (pDeed (.step k s)) .non S' = .ok (.bl true) S' := by cases s <;> rfl
      simp [m_led_on_s7, m_led_on_s8, this, n2, mRaise]
theorem done_bad (h : CalS S a x) (ok : CalOk x) {d : Deed} (hp : PosD d) (hn : lineN x.p x.D x.H (x.rows, x.before) d = none) (hl : x.rows.length < 800) (l2 : x.T.1.length < 800000) (l3 : x.T.2.length < 800000) (ld : x.done.length < 700000) :
    ∃ S', m_is_done [.ref a.c, pDeed d] S = .ok (.bl false) S' := by
  obtain ⟨c, e, S', he, hc⟩ := led_off h ok hp hn hl l2 l3 ld
  refine ⟨S', ?_⟩
  have i0 : isM (pDeed d) .non S = .ok (.bl false) S := by
    cases d with
    | add w h => rfl
    | step k s => cases s <;> rfl
  have b : m_is_done_s4 [some (.ref a.c), some (pDeed d), some (.bl true)] S = .exc c e [some (.ref a.c), some (pDeed d), some (.bl true)] S' := by
    simp [m_is_done_s4, he]
  have s3 : m_is_done_s3 [some (.ref a.c), some (pDeed d), some (.bl true)] S = .nx [some (.ref a.c), some (pDeed d), some (.bl false)] S' := by
    unfold m_is_done_s3 mTryN
    rw [b]
    rcases hc with rfl | rfl | rfl
    · rfl
    · rfl
    · rfl
  have s0 : m_is_done_s0 (ev0 3 [.ref a.c, pDeed d]) S = .nx [some (.ref a.c), some (pDeed d), none] S := by
    simp [m_is_done_s0, ev0, i0]
  have s2 : m_is_done_s2 [some (.ref a.c), some (pDeed d), none] S = .nx [some (.ref a.c), some (pDeed d), some (.bl true)] S := rfl
  simp only [m_is_done, mFn]
  rw [w_seq', s0, nxt_nx, w_seq', s2, nxt_nx, w_seq', s3, nxt_nx]
  rfl
theorem done_good (h : CalS S a x) (ok : CalOk x) {d : Deed} (hd : DeOk x d) {q : Sn} (hn : nextS x.p x.D x.H (x.rows, x.before) d = some q) (l2 : x.T.1.length < 800000) (l3 : x.T.2.length < 800000) (ld : x.done.length < 700000) :
    ∃ S' rs2 rs3, m_is_done [.ref a.c, pDeed d] S = .ok (.bl true) S' ∧ CalS S' { a with rs2 := rs2, rs3 := rs3 } (goC x d) ∧ Chg S S' a.fp (CAt.fp { a with rs2 := rs2, rs3 := rs3 }) := by
  obtain ⟨S', rs2, rs3, he, h', c⟩ := led_on9 h ok hd hn l2 l3 ld
  refine ⟨S', rs2, rs3, ?_, h', c⟩
  have i0 : isM (pDeed d) .non S = .ok (.bl false) S := by
    cases d with
    | add w h => rfl
    | step k s => cases s <;> rfl
  have b : m_is_done_s4 [some (.ref a.c), some (pDeed d), some (.bl true)] S = .nx [some (.ref a.c), some (pDeed d), some (.bl true)] S' := by
    simp [m_is_done_s4, he]
  have s3 : m_is_done_s3 [some (.ref a.c), some (pDeed d), some (.bl true)] S = .nx [some (.ref a.c), some (pDeed d), some (.bl true)] S' := by
    unfold m_is_done_s3 mTryN
    rw [b]
  have s0 : m_is_done_s0 (ev0 3 [.ref a.c, pDeed d]) S = .nx [some (.ref a.c), some (pDeed d), none] S := by
    simp [m_is_done_s0, ev0, i0]
  have s2 : m_is_done_s2 [some (.ref a.c), some (pDeed d), none] S = .nx [some (.ref a.c), some (pDeed d), some (.bl true)] S := rfl
  simp only [m_is_done, mFn]
  rw [w_seq', s0, nxt_nx, w_seq', s2, nxt_nx, w_seq', s3, nxt_nx]
  rfl
end
end Lw
set_option Elab.async false
set_option linter.all false
set_option maxRecDepth 10000
set_option maxHeartbeats 400000
namespace Lw
open PySem PySem.Spec PyProof.Rows L2 Mi
theorem sh_par {p : Par} (hp : POk p) : sh (.str p.c) = true ∧ sh (.str p.s) = true ∧ sh (.str p.h) = true ∧ sh (.str p.t) = true := by
  refine ⟨?_, ?_, ?_, ?_⟩
  · rcases hp.c with h | h | h <;> rw [h] <;> exact sh_lit _
  · rcases hp.s with h | h | h <;> rw [h] <;> exact sh_lit _
  · rcases hp.h with h | h <;> rw [h] <;> exact sh_lit _
  · rcases hp.t with h | h <;> rw [h] <;> exact sh_lit _
theorem nin_c {p : Par} (hp : POk p) (S : Sto) : ninM (.str p.c) (.tup [.str "none", .str "room", .str "both"]) S = .ok (.bl false) S := by
  show ninM (.str p.c) (.tup (lits ["none", "room", "both"])) S = _
  rw [w_ninM (in_strs (ys := ["none", "room", "both"]) (sh_par hp).1)]
  rcases hp.c with h | h | h <;> simp [h]
theorem nin_s {p : Par} (hp : POk p) (S : Sto) : ninM (.str p.s) (.tup [.str "keep", .str "move", .str "reset"]) S = .ok (.bl false) S := by
  show ninM (.str p.s) (.tup (lits ["keep", "move", "reset"])) S = _
  rw [w_ninM (in_strs (ys := ["keep", "move", "reset"]) (sh_par hp).2.1)]
  rcases hp.s with h | h | h <;> simp [h]
theorem nin_h {p : Par} (hp : POk p) (S : Sto) : ninM (.str p.h) (.tup [.str "left", .str "undone"]) S = .ok (.bl false) S := by
  show ninM (.str p.h) (.tup (lits ["left", "undone"])) S = _
  rw [w_ninM (in_strs (ys := ["left", "undone"]) (sh_par hp).2.2.1)]
  rcases hp.h with h | h <;> simp [h]
theorem nin_t {p : Par} (hp : POk p) (S : Sto) : ninM (.str p.t) (.tup [.str "now", .str "seen"]) S = .ok (.bl false) S := by
  show ninM (.str p.t) (.tup (lits ["now", "seen"])) S = _
  rw [w_ninM (in_strs (ys := ["now", "seen"]) (sh_par hp).2.2.2)]
  rcases hp.t with h | h <;> simp [h]
theorem nin_then (S : Sto) : ninM (.str "then") (.tup [.str "now", .str "seen"]) S = .ok (.bl true) S := by
  show ninM (.str "then") (.tup (lits ["now", "seen"])) S = _
  rw [w_ninM (in_strs (ys := ["now", "seen"]) (sh_lit _))]
  simp
theorem init_go {c s h t : Str} {b : Bool} {S : Sto} (i1 : ∀ S, ninM (.str c) (.tup [.str "none", .str "room", .str "both"]) S = .ok (.bl false) S) (i2 : ∀ S, ninM (.str s) (.tup [.str "keep", .str "move", .str "reset"]) S = .ok (.bl false) S)
    (i3 : ∀ S, ninM (.str h) (.tup [.str "left", .str "undone"]) S = .ok (.bl false) S) (i4 : ∀ S, ninM (.str t) (.tup [.str "now", .str "seen"]) S = .ok (.bl b) S) :
    m_Rule___init__ [.ref S.length, .str c, .str s, .str h, .str t] (S ++ [.obj "Rule" [] []]) = if b then .exc "BadRule" (.obj "BadRule" ["part"] [.str "telling"]) (S ++ [.obj "Rule" [] []]) else .ok .non (S ++ [.obj "Rule" ["checking", "singles", "halves", "telling"] [.str c, .str s, .str h, .str t]]) := by
  have z : ∀ S, zp3Of [d_PARTS, .tup [.str c, .str s, .str h, .str t], d_VALUES] S = .ok (.zp3 d_PARTS [.str "checking", .str "singles", .str "halves", .str "telling"] (.tup [.str c, .str s, .str h, .str t]) [.str c, .str s, .str h, .str t] d_VALUES [.tup [.str "none", .str "room", .str "both"], .tup [.str "keep", .str "move", .str "reset"], .tup [.str "left", .str "undone"], .tup [.str "now", .str "seen"]]) S := fun S => rfl
  have zo : ∀ S, Src.ok S (.zp3 d_PARTS [.str "checking", .str "singles", .str "halves", .str "telling"] (.tup [.str c, .str s, .str h, .str t]) [.str c, .str s, .str h, .str t] d_VALUES [.tup [.str "none", .str "room", .str "both"], .tup [.str "keep", .str "move", .str "reset"], .tup [.str "left", .str "undone"], .tup [.str "now", .str "seen"]]) = true := fun S => by simp [Src.ok, seqOf, d_PARTS, d_VALUES]
  simp only [m_Rule___init__, mFn, w_seq', m_Rule___init___s0, w_for', w_zip3, w_cons, w_nil, w_c, w_tup, w_var', ev0_eq, List.map_cons, List.map_nil, List.cons_append, List.nil_append, List.getElem?_cons_succ, List.getElem?_cons_zero, R.bind_ok, z, R.thn_ok]
  cases b
  · simp [Src.items, zipI3, forGo_cons, zo, forGo, m_Rule___init___s1, i1, i2, i3, i4, m_Rule___init___s3, m_Rule___init___s4, m_Rule___init___s5, m_Rule___init___s6, fset_last, fput]
  · simp [Src.items, zipI3, forGo_cons, zo, forGo, m_Rule___init___s1, m_Rule___init___s2, i1, i2, i3, i4, mRaise]
theorem ix4 {a b c d : MV} {S : Sto} : idxM (.lst [a, b, c, d]) (.int 0) S = .ok a S ∧ idxM (.lst [a, b, c, d]) (.int 1) S = .ok b S ∧ idxM (.lst [a, b, c, d]) (.int 2) S = .ok c S ∧ idxM (.lst [a, b, c, d]) (.int 3) S = .ok d S := ⟨rfl, rfl, rfl, rfl⟩
theorem rule_of_ok {p : Par} (hp : POk p) {S : Sto} : m_rule_of [.lst [.str p.c, .str p.s, .str p.h, .str p.t]] S = .ok (pPar p) S := by
  have init := init_go (S := S) (nin_c hp) (nin_s hp) (nin_h hp) (nin_t hp)
  rw [if_neg (by simp)] at init
  refine frzF_ok (S' := S ++ [.obj "Rule" ["checking", "singles", "halves", "telling"] [.str p.c, .str p.s, .str p.h, .str p.t]]) (d := .ref S.length) ?_ ?_ (by simp)
  · simp [mFn, m_rule_of_s0, makM, init, ix4]
  · simp [frz, pPar, pRule, refsB]
theorem rule_of_then {p : Par} (hp : POk p) {S : Sto} : m_rule_of [.lst [.str p.c, .str p.s, .str p.h, .str "then"]] S = .exc "BadRule" (.obj "BadRule" ["part"] [.str "telling"]) S := by
  have init := init_go (S := S) (nin_c hp) (nin_s hp) (nin_h hp) nin_then
  rw [if_pos rfl] at init
  have e : (mFn 1 m_rule_of_s0) [.lst [.str p.c, .str p.s, .str p.h, .str "then"]] S = .exc "BadRule" (.obj "BadRule" ["part"] [.str "telling"]) (S ++ [.obj "Rule" [] []]) := by
    simp [mFn, m_rule_of_s0, makM, init, ix4]
  unfold m_rule_of frzF
  rw [e]
  simp [Mi.cutS, refsB, refsBs]
end Lw
set_option Elab.async false
set_option linter.all false
set_option maxRecDepth 10000
set_option maxHeartbeats 400000
namespace Lw
open PySem PySem.Spec PyProof.Rows L2 Mi
def nzB : Option Nat → Bool
  | some (_ + 1) => true
  | _ => false
def headB : List Str → Bool
  | [r, _, _, _, _, a, b] => decide (r = "rule") && (nzB (numOf a) && nzB (numOf b))
  | _ => false
theorem tru_oN {o : Option Nat} {S : Sto} : truW (oN o) S = .ok (nzB o) S := by
  match o with
  | none => rfl
  | some 0 => rfl
  | some (n + 1) =>
    show R.ok (((n + 1 : Nat) : Int) != 0) S = _
    have : (((n + 1 : Nat) : Int) != 0) = true := by simp; omega
    rw [this]; rfl
theorem split_call {line : Str} {sep : Str} {S : Sto} (hl : line.length ≤ 100000) (hs : (sep.length == 0) = false) : splitM (.str line) [.str sep] S = .ok (.lst ((Txt.split line sep).map .str)) S := by
  have hz := sizeLine_eq
  have : Nat.ble (line.length + 2) sizeLine = true := Nat.ble_eq.mpr (by omega)
  simp [splitM, this, hs]
theorem sep_ok : ((Str.ofString " ").length == 0) = false := by decide +kernel
theorem nl_ok : ((Str.ofString "\n").length == 0) = false := by decide +kernel
theorem ix7 {a b c d e f g : MV} {S : Sto} : idxM (.lst [a, b, c, d, e, f, g]) (.int 0) S = .ok a S ∧ idxM (.lst [a, b, c, d, e, f, g]) (.int (-2)) S = .ok f S ∧ idxM (.lst [a, b, c, d, e, f, g]) (.int (-1)) S = .ok g S := ⟨rfl, rfl, rfl⟩
theorem sl7 {a b c d e f g : MV} {S : Sto} : slcM (.lst [a, b, c, d, e, f, g]) (some 1) (some 5) S = .ok (.lst [b, c, d, e]) S := rfl
theorem vals_len {S : Sto} : lenM [d_VALUES] S = .ok (.int 4) S := rfl
theorem head_s0 {line : Str} {S : Sto} (hl : line.length ≤ 1000) : m_calendar_in_s0 (ev0 3 [.str line]) S = .nx [some (.str line), some (.lst ((Txt.split line " ").map .str)), none] S := by
  have := split_call (line := line) (S := S) (by omega) sep_ok
  simp [m_calendar_in_s0, mBM, kStr, ev0, this]
theorem head_bad {line : Str} {S : Sto} (hl : line.length ≤ 1000) (hb : headB (Txt.split line " ") = false) : m_calendar_in [.str line] S = .ok .non S := by
  have hz := sizeLine_eq
  have wl : ∀ x ∈ Txt.split line " ", x.length ≤ 1000 := fun x hx => Nat.le_trans (part_short hx) hl
  have ll := split_le line " "
  simp only [m_calendar_in, mFn]
  rw [w_seq', head_s0 hl, nxt_nx]
  by_cases h7 : (Txt.split line " ").length = 7
  · match hw : Txt.split line " ", h7 with
    | [r, c, s, h, t, a, b], _ =>
      rw [hw] at hb wl
      have n1 : ∀ S, m_number_of [.str a] S = .ok (oN (numOf a)) S := fun S => number_eq (wl a (by simp))
      have n2 : ∀ S, m_number_of [.str b] S = .ok (oN (numOf b)) S := fun S => number_eq (wl b (by simp))
      have l7 : lenM [.lst [.str r, .str c, .str s, .str h, .str t, .str a, .str b]] S = .ok (.int 7) S := by simp [lenM, seqOf, lstOf]
      by_cases hr : r = "rule"
      · by_cases ha : nzB (numOf a) = true
        · have hbb : nzB (numOf b) = false := by simpa [headB, hr, ha] using hb
          simp [m_calendar_in_s1, m_calendar_in_s2, l7, vals_len, ix7, hr, n1, n2, tru_oN, ha, hbb]
        · simp [m_calendar_in_s1, m_calendar_in_s2, l7, vals_len, ix7, hr, n1, n2, tru_oN, ha]
      · simp [m_calendar_in_s1, m_calendar_in_s2, l7, vals_len, ix7, hr]
  · have ln : lenM [.lst ((Txt.split line " ").map .str)] S = .ok (.int ((Txt.split line " ").length : Nat)) S := by simp [lenM, seqOf, lstOf]
    have : ¬ (((Txt.split line " ").length : Nat) : Int) = 7 := by omega
    simp [m_calendar_in_s1, m_calendar_in_s2, ln, vals_len, this]
section
variable {line c s h t a b : Str} {S : Sto} {D H : Nat}
theorem head_pre (hl : line.length ≤ 1000) (hw : Txt.split line " " = [("rule" : Str), c, s, h, t, a, b]) (ha : numOf a = some D) (hb : numOf b = some H) (hD : 1 ≤ D) (hH : 1 ≤ H) :
    m_calendar_in [.str line] S = toR ((m_calendar_in_s4 [some (.str line), some (.lst [.str "rule", .str c, .str s, .str h, .str t, .str a, .str b]), some .non] S).nxt m_calendar_in_s7) ∧
    (∀ S, m_number_of [.str a] S = .ok (.int (D : Nat)) S) ∧ (∀ S, m_number_of [.str b] S = .ok (.int (H : Nat)) S) := by
  have wl : ∀ x ∈ Txt.split line " ", x.length ≤ 1000 := fun x hx => Nat.le_trans (part_short hx) hl
  rw [hw] at wl
  have n1 : ∀ S, m_number_of [.str a] S = .ok (.int (D : Nat)) S := fun S => by rw [number_eq (wl a (by simp)), ha]; rfl
  have n2 : ∀ S, m_number_of [.str b] S = .ok (.int (H : Nat)) S := fun S => by rw [number_eq (wl b (by simp)), hb]; rfl
  refine ⟨?_, n1, n2⟩
  have hz := sizeLine_eq
  simp only [m_calendar_in, mFn]
  rw [w_seq', head_s0 hl, nxt_nx, hw]
  have l7 : lenM [.lst [.str "rule", .str c, .str s, .str h, .str t, .str a, .str b]] S = .ok (.int 7) S := by simp [lenM, seqOf, lstOf]
  have t1 : truW (.int (D : Nat)) S = .ok true S := by
    have := tru_oN (o := some D) (S := S)
    cases D with
    | zero => omega
    | succ n => exact this
  have t2 : truW (.int (H : Nat)) S = .ok true S := by
    have := tru_oN (o := some H) (S := S)
    cases H with
    | zero => omega
    | succ n => exact this
  simp [m_calendar_in_s1, m_calendar_in_s3, l7, vals_len, ix7, n1, n2, t1, t2]
theorem head_good {p : Par} (hp : POk p) (hl : line.length ≤ 1000) (hw : Txt.split line " " = [("rule" : Str), p.c, p.s, p.h, p.t, a, b]) (ha : numOf a = some D) (hb : numOf b = some H) (hD : 1 ≤ D) (hH : 1 ≤ H) :
    m_calendar_in [.str line] S = .ok (.ref S.length) (S ++ newSto p D H S.length) := by
  obtain ⟨e, n1, n2⟩ := head_pre (S := S) hl hw ha hb hD hH
  rw [e]
  have b5 : m_calendar_in_s5 [some (.str line), some (.lst [.str "rule", .str p.c, .str p.s, .str p.h, .str p.t, .str a, .str b]), some .non] S = .nx [some (.str line), some (.lst [.str "rule", .str p.c, .str p.s, .str p.h, .str p.t, .str a, .str b]), some (.ref S.length)] (S ++ newSto p D H S.length) := by
    simp [m_calendar_in_s5, sl7, rule_of_ok hp, ix7, n1, n2, new_eq]
  unfold m_calendar_in_s4 mTry
  rw [b5]
  rfl
theorem head_then {p : Par} (hp : POk p) (hl : line.length ≤ 1000) (hw : Txt.split line " " = [("rule" : Str), p.c, p.s, p.h, ("then" : Str), a, b]) (ha : numOf a = some D) (hb : numOf b = some H) (hD : 1 ≤ D) (hH : 1 ≤ H) :
    m_calendar_in [.str line] S = .ok .non S := by
  obtain ⟨e, n1, n2⟩ := head_pre (S := S) hl hw ha hb hD hH
  rw [e]
  have b5 : m_calendar_in_s5 [some (.str line), some (.lst [.str "rule", .str p.c, .str p.s, .str p.h, .str "then", .str a, .str b]), some .non] S = .exc "BadRule" (.obj "BadRule" ["part"] [.str "telling"]) [some (.str line), some (.lst [.str "rule", .str p.c, .str p.s, .str p.h, .str "then", .str a, .str b]), some .non] S := by
    simp [m_calendar_in_s5, sl7, rule_of_then hp, ix7, n1, n2]
  unfold m_calendar_in_s4 mTry
  rw [b5]
  rfl
end
end Lw
set_option Elab.async false
set_option linter.all false
set_option maxRecDepth 10000
set_option maxHeartbeats 400000
namespace Lw
open PySem PySem.Spec PyProof.Rows L2 Mi
theorem deed_in_all {line : Str} {S : Sto} (hl : line.length ≤ 1000) : m_deed_in [.str line] S = .ok (oD (lineOf line)) S := by
  cases e : Txt.split line " " with
  | nil => have := split_pos line " "; rw [e] at this; simp at this
  | cons w rest => exact deed_in_eq e hl
theorem deed_pos {w : Str} {ns : List Nat} {d : Deed} (h : deedOf w ns = some d) : PosD d := by
  unfold deedOf at h
  repeat' split at h
  all_goals first
    | (cases h; done)
    | (cases h; simp [PosD]; try omega)
theorem line_pos {line : Str} {d : Deed} (h : lineOf line = some d) : PosD d := by
  unfold lineOf wordsOf at h
  repeat' split at h
  · cases h
  · exact deed_pos h
  · cases h
def runL (p : Par) (D H : Nat) : List (Option Deed) → Sn → Nat ⊕ Sn
  | [], s => .inr s
  | o :: os, s => match o.bind (lineN p D H s) with
    | none => .inl 0
    | some q => match runL p D H os q with
      | .inl j => .inl (j + 1)
      | .inr r => .inr r
structure RdI (p : Par) (D H c : Nat) (S0 : Sto) (b0 : CAt) (i : Nat) (S : Sto) (b : CAt) (y : Cal) : Prop where
  cal : CalS S b y
  ok : CalOk y
  py : y.p = p
  Dy : y.D = D
  Hy : y.H = H
  bc : b.c = c
  ch : Chg S0 S b0.fp b.fp
  n1 : y.rows.length ≤ i
  n2 : y.T.1.length ≤ D * i
  n3 : y.T.2.length ≤ D * i
  nd : y.done.length ≤ i
def rdE (x l : MV) (c : Nat) (f g : Option MV) : Ev := [some x, some l, some (.ref c), f, g]
abbrev rdT : Tg := tgTup (tgCons (tgName 3) (tgCons (tgName 4) tgNil))
abbrev badLine (n : Nat) : MV := .obj "BadLine" ["line"] [.int (n : Nat)]
def deedsOf (os : List (Option Deed)) : List Deed := os.filterMap id
theorem read_loop {p : Par} {D H c : Nat} {S0 : Sto} {b0 : CAt} {x l : MV} {ok : Sto → Bool} (D2 : D ≤ 100) (hok : ∀ S, ok S = true) : ∀ (ls : List Str) (i : Nat) (S : Sto) (b : CAt) (y : Cal) (f g : Option MV), (∀ z ∈ ls, z.length ≤ 1000) → i + ls.length ≤ 700 → RdI p D H c S0 b0 i S b y →
    match runL p D H (ls.map lineOf) (y.rows, y.before) with
    | .inl j => ∃ ρ' S', forGo ok rdT m_read_s5 (enmI i (ls.map .str)) (rdE x l c f g) S = .exc "BadLine" (badLine (i + j + 2)) ρ' S'
    | .inr q => ∃ f' g' S' b' y', forGo ok rdT m_read_s5 (enmI i (ls.map .str)) (rdE x l c f g) S = .nx (rdE x l c f' g') S' ∧ RdI p D H c S0 b0 (i + ls.length) S' b' y' ∧ (y'.rows, y'.before) = q ∧ y'.done.map (·.1) = y.done.map (·.1) ++ deedsOf (ls.map lineOf)
  | [], i, S, b, y, f, g, _, _, I => by
    refine ⟨f, g, S, b, y, ?_, I, rfl, ?_⟩
    · show forGo ok rdT m_read_s5 [] _ S = _
      rw [forGo, if_pos (hok S)]
    · simp [deedsOf]
  | z :: ls, i, S, b, y, f, g, hz, hi, I => by
    have zl := hz z List.mem_cons_self
    have big : D * i ≤ 100 * 1000 := Nat.mul_le_mul D2 (by simp at hi; omega)
    have l2 : y.T.1.length < 800000 := by have := I.n2; omega
    have l3 : y.T.2.length < 800000 := by have := I.n3; omega
    have ld : y.done.length < 700000 := by have := I.nd; simp at hi; omega
    have l1 : y.rows.length < 800 := by have := I.n1; simp at hi; omega
    have di := deed_in_all (S := S) zl
    have gt : rdT.f (.tup [.int (i : Nat), .str z]) (rdE x l c f g) = some (rdE x l c (some (.int (i : Nat))) (some (.str z))) := rfl
    have tr : turn rdT m_read_s5 (.tup [.int (i : Nat), .str z]) (rdE x l c f g) S = m_read_s5 (rdE x l c (some (.int (i : Nat))) (some (.str z))) S := by
      unfold turn; rw [gt]
    have step : forGo ok rdT m_read_s5 (enmI i ((z :: ls).map .str)) (rdE x l c f g) S = (m_read_s5 (rdE x l c (some (.int (i : Nat))) (some (.str z))) S).nxt (forGo ok rdT m_read_s5 (enmI (i + 1) (ls.map .str))) := by
      rw [List.map_cons, enmI, forGo_cons (hok S), tr]
    have c1 : (i : Int) + 2 = ((i + 0 + 2 : Nat) : Int) := by omega
    rw [List.map_cons, runL]
    cases ho : lineOf z with
    | none =>
      rw [ho] at di
      refine ⟨rdE x l c (some (.int (i : Nat))) (some (.str z)), S, ?_⟩
      have e1 : m_is_done [.ref c, .non] S = .ok (.bl false) S := rfl
      rw [step]
      simp [rdE, m_read_s5, m_read_s6, di, oD, e1, mRaise, badLine]
    | some d =>
      rw [ho] at di
      have hp := line_pos ho
      show match (match lineN p D H (y.rows, y.before) d with
        | none => Sum.inl 0
        | some q => match runL p D H (ls.map lineOf) q with
          | .inl j => .inl (j + 1)
          | .inr r => .inr r) with
        | .inl j => _
        | .inr q => _
      cases hn : lineN p D H (y.rows, y.before) d with
      | none =>
        have hn' : lineN y.p y.D y.H (y.rows, y.before) d = none := by rw [I.py, I.Dy, I.Hy]; exact hn
        obtain ⟨S', e1⟩ := done_bad I.cal I.ok hp hn' l1 l2 l3 ld
        rw [I.bc] at e1
        refine ⟨rdE x l c (some (.int (i : Nat))) (some (.str z)), S', ?_⟩
        rw [step]
        simp [rdE, m_read_s5, m_read_s6, di, oD, e1, mRaise, badLine]
      | some q =>
        have hn' : lineN y.p y.D y.H (y.rows, y.before) d = some q := by rw [I.py, I.Dy, I.Hy]; exact hn
        unfold lineN at hn'
        split at hn'
        · rename_i hf
          have dk := fits_ok hp hf l1
          obtain ⟨S2, rs2, rs3, e1, h2, c2⟩ := done_good I.cal I.ok dk hn' l2 l3 ld
          have gn := go_next I.ok dk
          rw [hn'] at gn
          have gl := go_len I.ok dk
          have gs := go_same (x := y) (d := d)
          rw [I.bc] at e1
          have I2 : RdI p D H c S0 b0 (i + 1) S2 { b with rs2 := rs2, rs3 := rs3 } (goC y d) := by
            refine ⟨h2, go_ok I.ok dk, gs.1.trans I.py, gs.2.1.trans I.Dy, gs.2.2.trans I.Hy, I.bc, I.ch.trans c2, ?_, ?_, ?_, ?_⟩
            · have := I.n1; have := gl.2.2.2; omega
            · have := I.n2; have := gl.1; rw [I.Dy] at this; rw [Nat.mul_succ]; omega
            · have := I.n3; have := gl.2.1; rw [I.Dy] at this; rw [Nat.mul_succ]; omega
            · have := I.nd; have := gl.2.2.1; omega
          have ih := read_loop (x := x) (l := l) (ok := ok) D2 hok ls (i + 1) S2 { b with rs2 := rs2, rs3 := rs3 } (goC y d) (some (.int (i : Nat))) (some (.str z)) (fun w hw => hz w (List.mem_cons_of_mem _ hw)) (by simp at hi; omega) I2
          rw [gn.1] at ih
          have st2 : m_read_s5 (rdE x l c (some (.int (i : Nat))) (some (.str z))) S = .nx (rdE x l c (some (.int (i : Nat))) (some (.str z))) S2 := by
            simp [rdE, m_read_s5, di, oD, e1]
          dsimp only
          cases hr : runL p D H (ls.map lineOf) q with
          | inl j =>
            rw [hr] at ih
            obtain ⟨ρ', S', e⟩ := ih
            refine ⟨ρ', S', ?_⟩
            rw [step, st2, nxt_nx, e]
            have : i + 1 + j + 2 = i + (j + 1) + 2 := by omega
            rw [this]
          | inr r =>
            rw [hr] at ih
            obtain ⟨f', g', S', b', y', e, I3, eq, ed⟩ := ih
            refine ⟨f', g', S', b', y', ?_, ?_, eq, ?_⟩
            · rw [step, st2, nxt_nx, e]
            · have : i + (z :: ls).length = i + 1 + ls.length := by simp; omega
              rw [this]; exact I3
            · rw [ed, gn.2]
              have e3 : (ent (d, (y.rows, y.before))).1 = d := by cases d <;> rfl
              simp [deedsOf, ho, e3]
        · cases hn'
end Lw
set_option Elab.async false
set_option linter.all false
set_option maxRecDepth 10000
set_option maxHeartbeats 400000
namespace Lw
open PySem PySem.Spec PyProof.Rows L2 Mi
theorem rd_s0 {x : Str} {S : Sto} (hl : x.length ≤ 100000) : m_read_s0 (ev0 5 [.str x]) S = .nx [some (.str x), some (.lst ((Txt.split x "\n").map .str)), none, none, none] S := by
  have := split_call (line := x) (S := S) hl nl_ok
  simp [m_read_s0, mBM, kStr, ev0, this]
theorem read_head {x hd : Str} {rest : List Str} {S S' : Sto} (hl : x.length ≤ 100000) (hs : Txt.split x "\n" = hd :: rest) (hh : m_calendar_in [.str hd] S = .ok .non S') : m_read [.str x] S = .exc "BadLine" (badLine 1) S' := by
  simp only [m_read, mFn]
  rw [w_seq', rd_s0 hl, nxt_nx, hs]
  have i0 : ∀ S, isM .non .non S = .ok (.bl true) S := fun _ => rfl
  simp [m_read_s1, m_read_s2, m_read_s3, ix0, hh, i0, mRaise, badLine]
theorem new_rdI {p : Par} {D H : Nat} {S : Sto} (D1 : 1 ≤ D) (D2 : D ≤ 100) (H1 : 1 ≤ H) (H2 : H < 1000) : RdI p D H S.length (S ++ newSto p D H S.length) (newAt S.length) 0 (S ++ newSto p D H S.length) (newAt S.length) (newCal p D H) :=
  ⟨new_cal, new_ok D1 (by omega) H1 H2, rfl, rfl, rfl, rfl, .refl, Nat.le_refl _, Nat.zero_le _, Nat.zero_le _, Nat.zero_le _⟩
theorem read_lines {x hd : Str} {rest : List Str} {S : Sto} {p : Par} {D H : Nat} (hl : x.length ≤ 100000) (hs : Txt.split x "\n" = hd :: rest) (hh : m_calendar_in [.str hd] S = .ok (.ref S.length) (S ++ newSto p D H S.length))
    (D1 : 1 ≤ D) (D2 : D ≤ 100) (H1 : 1 ≤ H) (H2 : H < 1000) (hz : ∀ z ∈ rest, z.length ≤ 1000) (hr : rest.length ≤ 700) :
    match runL p D H (rest.map lineOf) ([], []) with
    | .inl j => ∃ S', m_read [.str x] S = .exc "BadLine" (badLine (j + 2)) S'
    | .inr q => ∃ S' b y, m_read [.str x] S = .ok (.ref S.length) S' ∧ RdI p D H S.length (S ++ newSto p D H S.length) (newAt S.length) rest.length S' b y ∧ (y.rows, y.before) = q ∧ y.done.map (·.1) = deedsOf (rest.map lineOf) := by
  have hq := sizeLine_eq
  have lp := read_loop (x := .str x) (l := .lst (.str hd :: rest.map .str)) (ok := fun S => (Src.enm (.lst (rest.map .str)) (rest.map .str)).ok S) D2 (fun S => by simp [Src.ok, seqOf, lstOf]) rest 0 (S ++ newSto p D H S.length) (newAt S.length) (newCal p D H) none none hz (by omega) (new_rdI (p := p) D1 D2 H1 H2)
  have n0 : ((newCal p D H).rows, (newCal p D H).before) = (([], []) : Sn) := rfl
  rw [n0] at lp
  have pre : m_read [.str x] S = toR ((forGo (fun S => (Src.enm (.lst (rest.map .str)) (rest.map .str)).ok S) rdT m_read_s5 (enmI 0 (rest.map .str)) (rdE (.str x) (.lst (.str hd :: rest.map .str)) S.length none none) (S ++ newSto p D H S.length)).nxt m_read_s7) := by
    simp only [m_read, mFn]
    rw [w_seq', rd_s0 hl, nxt_nx, hs]
    have i0 : ∀ S n, isM (.ref n) .non S = .ok (.bl false) S := fun _ _ => rfl
    have sl : ∀ S, slcM (.lst (.str hd :: rest.map .str)) (some 1) none S = .ok (.lst (rest.map .str)) S := fun S => by
      have : cutM (MV.str hd :: rest.map .str) (some 1) none = rest.map .str := by simp [cutM, HT.sIx, List.take_of_length_le]
      simp [slcM, lstOf, this]
    have eo : ∀ S, enmOf [.lst (rest.map .str)] S = .ok (.enm (.lst (rest.map .str)) (rest.map .str)) S := fun S => by simp [enmOf, seqOf, lstOf]
    have s1 : m_read_s1 [some (.str x), some (.lst (.str hd :: rest.map .str)), none, none, none] S = .nx (rdE (.str x) (.lst (.str hd :: rest.map .str)) S.length none none) (S ++ newSto p D H S.length) := by
      simp [m_read_s1, ix0, hh, rdE]
    have s2 : m_read_s2 (rdE (.str x) (.lst (.str hd :: rest.map .str)) S.length none none) (S ++ newSto p D H S.length) = .nx (rdE (.str x) (.lst (.str hd :: rest.map .str)) S.length none none) (S ++ newSto p D H S.length) := by
      simp [m_read_s2, rdE, i0]
    have s4 : m_read_s4 (rdE (.str x) (.lst (.str hd :: rest.map .str)) S.length none none) (S ++ newSto p D H S.length) = forGo (fun S => (Src.enm (.lst (rest.map .str)) (rest.map .str)).ok S) rdT m_read_s5 (enmI 0 (rest.map .str)) (rdE (.str x) (.lst (.str hd :: rest.map .str)) S.length none none) (S ++ newSto p D H S.length) := by
      simp [m_read_s4, rdE, sl, eo, Src.items]
    rw [List.map_cons, w_seq', s1, nxt_nx, w_seq', s2, nxt_nx, w_seq', s4]
  cases hr2 : runL p D H (rest.map lineOf) ([], []) with
  | inl j =>
    rw [hr2] at lp
    obtain ⟨ρ', S', e⟩ := lp
    refine ⟨S', ?_⟩
    rw [pre, e, Nat.zero_add]
    rfl
  | inr q =>
    rw [hr2] at lp
    obtain ⟨f', g', S', b', y', e, I, eq, ed⟩ := lp
    refine ⟨S', b', y', ?_, ?_, eq, ?_⟩
    · rw [pre, e]; rfl
    · rw [Nat.zero_add] at I; exact I
    · rw [ed]; rfl
/-- lines free of line feeds, joined, are found again -/
theorem split_lines {ls : List Str} (hne : ls ≠ []) (h : ∀ l ∈ ls, 10 ∉ l.cps.toList) : Txt.split (Txt.join "\n" ls) "\n" = ls :=
  TL.split_join (y := "\n") (s := 10) (S := []) (by decide +kernel) (by decide +kernel) hne h
theorem split_words {ws : List Str} (hne : ws ≠ []) (h : ∀ w ∈ ws, 32 ∉ w.cps.toList) : Txt.split (Txt.join " " ws) " " = ws :=
  TL.split_join (y := " ") (s := 32) (S := []) (by decide +kernel) (by decide +kernel) hne h
end Lw
set_option Elab.async false
set_option linter.all false
set_option maxRecDepth 10000
set_option maxHeartbeats 400000
namespace Lw
open PySem PySem.Spec PyProof.Rows L2 Mi
theorem pure_of {m : MF} {ds : List MV} {d : MV} {S S' : Sto} (hr : refsBs 0 ds = true) (h : m ds [] = .ok d S') (hd : refsB 0 d = true) (hn : ∀ n, d ≠ .ref n) (hs : frz 0 S' 8 d = some d) : pureF m ds S = .ok d S := by
  unfold pureF
  rw [if_pos hr, h]
  simp only [hs]
theorem told_none {x : Str} {S S' : Sto} {c : MV} (h : m_read [.str x] [] = .ok c S') : m_law_told [.str x] S = .ok .non S := by
  have b : m_law_told_s2 [some (.str x), some .non, none] [] = .nx [some (.str x), some .non, none] S' := by
    simp [m_law_told_s2, h]
  refine pure_of (S' := S') (by simp [refsBs, refsB]) ?_ rfl (by intro n z; cases z) rfl
  have s0 : m_law_told_s0 (ev0 3 [.str x]) [] = .nx [some (.str x), some .non, none] [] := rfl
  simp only [mFn]
  rw [w_seq', s0, nxt_nx, w_seq', m_law_told_s1, tryC_ok b, nxt_nx]
  rfl
theorem told_line {x : Str} {S S' : Sto} {n : Nat} (h : m_read [.str x] [] = .exc "BadLine" (badLine n) S') : m_law_told [.str x] S = .ok (.int (n : Nat)) S := by
  have b : m_law_told_s2 [some (.str x), some .non, none] [] = .exc "BadLine" (badLine n) [some (.str x), some .non, none] S' := by
    simp [m_law_told_s2, h]
  refine pure_of (S' := S') (by simp [refsBs, refsB]) ?_ rfl (by intro n z; cases z) rfl
  have s0 : m_law_told_s0 (ev0 3 [.str x]) [] = .nx [some (.str x), some .non, none] [] := rfl
  simp only [mFn]
  rw [w_seq', s0, nxt_nx, w_seq', m_law_told_s1, tryC_exc b (by decide) (by simp), nxt_nx]
  rfl
/-- lines that are short and free of line feeds -/
def tame (l : Str) : Bool := Nat.ble l.length 200 && !(l.cps.toList.contains 10)
theorem tame_iff {l : Str} : tame l = true ↔ l.length ≤ 200 ∧ 10 ∉ l.cps.toList := by
  simp [tame, Nat.ble_eq]
theorem lsum_le {ys : List Str} {b : Nat} (h : ∀ y ∈ ys, y.length ≤ b) : (ys.map (·.length)).sum ≤ ys.length * b := by
  induction ys with
  | nil => simp
  | cons y ys ih =>
    have h1 := h y List.mem_cons_self
    have h2 := ih fun z hz => h z (List.mem_cons_of_mem _ hz)
    rw [List.length_cons, Nat.succ_mul, List.map_cons, List.sum_cons]
    omega
theorem join_fit {sep : Str} {ys : List Str} (hs : sep.length = 1) (h : ∀ y ∈ ys, y.length ≤ 200) (hl : ys.length ≤ 50) : joinFit sep ys = true := by
  have := lsum_le h
  unfold joinFit
  rw [hs]
  have : ys.length * 200 ≤ 50 * 200 := Nat.mul_le_mul_right _ hl
  exact Nat.ble_eq.mpr (by omega)
theorem join_len {sep : Str} {ys : List Str} (hs : sep.length = 1) (h : ∀ y ∈ ys, y.length ≤ 200) (hl : ys.length ≤ 50) : (Txt.join sep ys).length ≤ 100000 := by
  have := lsum_le h
  have : ys.length * 200 ≤ 50 * 200 := Nat.mul_le_mul_right _ hl
  have := PySem.StrLaws.join_length_le sep ys
  rw [TL.join_eq]
  rw [hs] at this
  omega
theorem nl_one : (Str.ofString "\n").length = 1 := by decide +kernel
theorem sp_one : (Str.ofString " ").length = 1 := by decide +kernel
theorem join_call {sep : Str} {ys : List Str} {S : Sto} (hs : sep.length = 1) (h : ∀ y ∈ ys, y.length ≤ 200) (hl : ys.length ≤ 50) : joinM (.str sep) [.lst (ys.map .str)] S = .ok (.str (Txt.join sep ys)) S := by
  simp [joinM, seqOf, lstOf, join_fit hs h hl]
theorem text_head {hd : Str} {rest : List Str} {S : Sto} (ht : ∀ l ∈ hd :: rest, tame l = true) (hl : rest.length ≤ 40) (hh : ∀ S, m_calendar_in [.str hd] S = .ok .non S) : m_law_told [.str (Txt.join "\n" (hd :: rest))] S = .ok (.int 1) S := by
  have t1 : ∀ y ∈ hd :: rest, y.length ≤ 200 := fun y hy => (tame_iff.mp (ht y hy)).1
  exact told_line (n := 1) (read_head (join_len nl_one t1 (by simp; omega)) (split_lines (by simp) fun l hl => (tame_iff.mp (ht l hl)).2) (hh []))
theorem text_run {hd : Str} {rest : List Str} {S : Sto} {p : Par} {D H : Nat} (ht : ∀ l ∈ hd :: rest, tame l = true) (hl : rest.length ≤ 40) (hh : ∀ S, m_calendar_in [.str hd] S = .ok (.ref S.length) (S ++ newSto p D H S.length))
    (D1 : 1 ≤ D) (D2 : D ≤ 100) (H1 : 1 ≤ H) (H2 : H < 1000) : m_law_told [.str (Txt.join "\n" (hd :: rest))] S = .ok (match runL p D H (rest.map lineOf) ([], []) with
      | .inl j => .int ((j + 2 : Nat) : Int)
      | .inr _ => .non) S := by
  have t1 : ∀ y ∈ hd :: rest, y.length ≤ 200 := fun y hy => (tame_iff.mp (ht y hy)).1
  have rl := read_lines (S := []) (join_len nl_one t1 (by simp; omega)) (split_lines (by simp) fun l hl => (tame_iff.mp (ht l hl)).2) (hh []) D1 D2 H1 H2 (fun z hz => by have := t1 z (List.mem_cons_of_mem _ hz); omega) (by omega)
  cases hr : runL p D H (rest.map lineOf) ([], []) with
  | inl j =>
    rw [hr] at rl
    obtain ⟨S', e⟩ := rl
    exact told_line e
  | inr q =>
    rw [hr] at rl
    obtain ⟨S', b, y, e, _⟩ := rl
    exact told_none e
end Lw
set_option Elab.async false
set_option linter.all false
set_option maxRecDepth 10000
set_option maxHeartbeats 400000
namespace Lw
open PySem PySem.Spec PyProof.Rows L2 Mi
def allP : List Par := ["none", "room", "both"].flatMap fun c : String => ["keep", "move", "reset"].flatMap fun s : String => ["left", "undone"].flatMap fun h : String => ["now", "seen"].map fun t : String => ⟨Str.ofString c, Str.ofString s, Str.ofString h, Str.ofString t⟩
theorem mem_allP {p : Par} (hp : POk p) : p ∈ allP := by
  obtain ⟨c, s, h, t⟩ := p
  obtain ⟨hc, hs, hh, ht⟩ := hp
  simp only at hc hs hh ht
  unfold allP
  simp only [List.mem_flatMap, List.mem_map]
  rcases hc with rfl | rfl | rfl <;> rcases hs with rfl | rfl | rfl <;> rcases hh with rfl | rfl <;> rcases ht with rfl | rfl <;> simp
def headS (p : Par) (D : Nat) : Str := Txt.join " " [("rule" : Str), p.c, p.s, p.h, p.t, strN D, ("4" : Str)]
def restL : List Str := ["add 0 0", "add 1 1", "room 0 3", "person 0", "one 1 0 2"]
def restD : List (Option Deed) := [some (.add 0 0), some (.add 1 1), some (.step 0 (.room 3)), some (.step 0 .person), some (.step 1 (.one 0 2))]
def oddL1 : List Str := ["", "add", "add 0", "add 2 4", "add -1 2", "add 0 02", "add 1 1 1", "room", "room 0", "room 5 1", "room 0 4"]
def oddL2 : List Str := ["room 0 1 1", "person", "person 0 0", "person 9", "one 0 0", "one 0 9 1", "one 0 0 4", "off 0"]
def oddL3 : List Str := ["off 0 9", "tell 0", "find 0 1", "undo", " person 0", "person 0 ", "person  0", "Person 0", "rule"]
def oddL : List Str := oddL1 ++ oddL2 ++ oddL3
def thenS (p : Par) : Str := Txt.join " " [("rule" : Str), p.c, p.s, p.h, ("then" : Str), ("1" : Str), ("4" : Str)]
theorem rest_line : restL.map lineOf = restD := by decide +kernel
theorem off_line : lineOf "off 0 0" = some (.step 0 (.off 0)) := by decide +kernel
theorem rest_tame : (restL ++ [("off 0 0" : Str)]).all tame = true := by decide +kernel
theorem odd_tame : oddL.all tame = true := by decide +kernel
def oddD : List (Option Deed) := [none, none, none, some (.add 2 4), none, none, none, none, none, some (.step 5 (.room 1)), some (.step 0 (.room 4)), none, none, none, some (.step 9 .person), none, some (.step 0 (.one 9 1)), some (.step 0 (.one 0 4)), none, some (.step 0 (.off 9)), none, none, none, none, none, none, none, none]
theorem odd_line : oddL.map lineOf = oddD := by decide +kernel
def isOut (k : Nat) : Nat ⊕ Sn → Bool
  | .inl j => j == k
  | .inr _ => false
def chk (p : Par) (D : Nat) : Bool := ((List.range 4).all fun n => match runL p D 4 (restD.take (2 + n)) ([], []) with
  | .inr s => oddD.all fun o => (o.bind (lineN p D 4 s)).isNone
  | .inl _ => false) && isOut 3 (runL p D 4 (restD.take 2 ++ [some (.step 0 (.off 0)), some (.step 0 (.off 0))]) ([], []))
theorem chk_all : (allP.all fun p => [1, 2, 3].all fun D => chk p D) = true := by decide +kernel
theorem num_1 : numOf "1" = some 1 := by decide +kernel
theorem num_4 : numOf "4" = some 4 := by decide +kernel
end Lw
set_option Elab.async false
set_option linter.all false
set_option maxRecDepth 10000
set_option maxHeartbeats 400000
namespace Lw
open PySem PySem.Spec PyProof.Rows L2 Mi
theorem str_ext {a b : Str} (h : a.cps.toList = b.cps.toList) : a = b := by
  cases a; cases b
  congr 1
  exact Array.toList_inj.mp h
theorem app_list {a b : Str} : (a ++ b).cps.toList = a.cps.toList ++ b.cps.toList := by
  show (a.cps ++ b.cps).toList = _
  simp
theorem app_assoc {a b c : Str} : a ++ b ++ c = a ++ (b ++ c) := str_ext (by simp [app_list])
theorem join_cons {sep w : Str} {ws : List Str} (h : ws ≠ []) : Txt.join sep (w :: ws) = w ++ sep ++ Txt.join sep ws := by
  rw [TL.join_eq, TL.join_eq]
  cases ws with
  | nil => exact absurd rfl h
  | cons x xs => rfl
theorem join_snoc {sep w : Str} : ∀ {ws : List Str}, ws ≠ [] → Txt.join sep (ws ++ [w]) = Txt.join sep ws ++ (sep ++ w)
  | [], h => absurd rfl h
  | [x], _ => by
    rw [List.cons_append, List.nil_append, join_cons (by simp), TL.join_eq, TL.join_eq]
    exact app_assoc
  | x :: y :: ws, _ => by
    rw [List.cons_append, join_cons (by simp), join_cons (by simp), join_snoc (by simp), app_assoc, app_assoc, app_assoc]
theorem cut_head {a r : Str} {n : Nat} (h : a.length = n) : L2.cutS (a ++ r) (some (n : Int)) none = r := by
  have l : (a ++ r).length = n + r.length := by
    show (a.cps ++ r.cps).size = _
    rw [Array.size_append, ← h]; rfl
  refine str_ext ?_
  have la : a.cps.toList.length = n := by rw [Array.length_toList]; exact h
  have lr : r.cps.toList.length = r.length := Array.length_toList
  simp only [L2.cutS, app_list, l, HT.sIx]
  rw [if_neg (by omega)]
  simp [la]
  exact List.take_of_length_le (by omega)
theorem cut_last {x y : Str} (h : y.length = 1) : L2.cutS (x ++ y) none (some (-1)) = x := by
  have l : (x ++ y).length = x.length + 1 := by
    show (x.cps ++ y.cps).size = _
    rw [Array.size_append]
    show _ + y.length = _
    rw [h]; rfl
  refine str_ext ?_
  have lx : x.cps.toList.length = x.length := Array.length_toList
  simp only [L2.cutS, app_list, l, HT.sIx]
  simp
  rw [show (-1 + ((x.length : Int) + 1)).toNat = x.cps.toList.length from by omega, List.take_append_of_le_length (Nat.le_refl _), List.take_of_length_le (Nat.le_refl _)]
theorem par_tame {p : Par} (hp : POk p) : ∀ w ∈ [("rule" : Str), p.c, p.s, p.h, p.t], 32 ∉ w.cps.toList ∧ 10 ∉ w.cps.toList ∧ w.length ≤ 10 := by
  intro w hw
  simp only [List.mem_cons, List.not_mem_nil, or_false] at hw
  rcases hw with rfl | rfl | rfl | rfl | rfl
  · decide +kernel
  · rcases hp.c with h | h | h <;> rw [h] <;> decide +kernel
  · rcases hp.s with h | h | h <;> rw [h] <;> decide +kernel
  · rcases hp.h with h | h <;> rw [h] <;> decide +kernel
  · rcases hp.t with h | h <;> rw [h] <;> decide +kernel
def wOk (w : Str) : Prop := 32 ∉ w.cps.toList ∧ 10 ∉ w.cps.toList ∧ w.length ≤ 10
theorem join_nolf {ws : List Str} (h : ∀ w ∈ ws, 10 ∉ w.cps.toList) : 10 ∉ (Txt.join " " ws).cps.toList := by
  have : ∀ ws : List Str, (∀ w ∈ ws, 10 ∉ w.cps.toList) → 10 ∉ (Str.join " " ws).cps.toList := by
    intro ws
    induction ws with
    | nil => intro _; decide
    | cons w ws ih =>
      intro h
      cases ws with
      | nil => exact h w List.mem_cons_self
      | cons x xs =>
        show 10 ∉ (w ++ " " ++ Str.join " " (x :: xs)).cps.toList
        rw [app_list, app_list]
        intro m
        rcases List.mem_append.mp m with m | m
        · rcases List.mem_append.mp m with m | m
          · exact h w List.mem_cons_self m
          · exact absurd m (by decide +kernel)
        · exact ih (fun z hz => h z (List.mem_cons_of_mem _ hz)) m
  rw [TL.join_eq]; exact this ws h
theorem join_tame {ws : List Str} (h : ∀ w ∈ ws, wOk w) (hl : ws.length ≤ 10) : tame (Txt.join " " ws) = true := by
  refine tame_iff.mpr ⟨?_, join_nolf fun w hw => (h w hw).2.1⟩
  have h1 := lsum_le (ys := ws) (b := 10) fun w hw => (h w hw).2.2
  have h2 := PySem.StrLaws.join_length_le " " ws
  rw [TL.join_eq]
  have h3 : (Str.ofString " ").length = 1 := sp_one
  rw [h3] at h2
  omega
/-- a head of words: split again -/
theorem words_head {ws : List Str} (hne : ws ≠ []) (h : ∀ w ∈ ws, wOk w) (hl : ws.length ≤ 10) (hb : headB ws = false) : tame (Txt.join " " ws) = true ∧ ∀ S, m_calendar_in [.str (Txt.join " " ws)] S = .ok .non S := by
  have t := join_tame h hl
  have l := (tame_iff.mp t).1
  refine ⟨t, fun S => head_bad (by omega) ?_⟩
  rw [split_words hne fun w hw => (h w hw).1]
  exact hb
end Lw
set_option Elab.async false
set_option linter.all false
set_option maxRecDepth 10000
set_option maxHeartbeats 400000
namespace Lw
open PySem PySem.Spec PyProof.Rows L2 Mi
theorem repl_all : (allP.all fun p => [1, 2, 3].all fun D => decide (Txt.replace (headS p D) "rule" "Rule" = Txt.join " " [("Rule" : Str), p.c, p.s, p.h, p.t, strN D, ("4" : Str)])) = true := by decide +kernel
def D3 (D : Nat) : Prop := D = 1 ∨ D = 2 ∨ D = 3
theorem d3_ok {D : Nat} (h : D3 D) : wOk (strN D) ∧ numOf (strN D) = some D ∧ 1 ≤ D ∧ D ≤ 100 := by
  rcases h with rfl | rfl | rfl
  · exact ⟨by unfold wOk; decide +kernel, by decide +kernel, by decide, by decide⟩
  · exact ⟨by unfold wOk; decide +kernel, by decide +kernel, by decide, by decide⟩
  · exact ⟨by unfold wOk; decide +kernel, by decide +kernel, by decide, by decide⟩
theorem all_at {p : Par} {D : Nat} {f : Par → Nat → Bool} (h : (allP.all fun p => [1, 2, 3].all fun D => f p D) = true) (hp : POk p) (hD : D3 D) : f p D = true := by
  have h1 := List.all_eq_true.mp h p (mem_allP hp)
  exact List.all_eq_true.mp h1 D (by rcases hD with rfl | rfl | rfl <;> simp)
theorem lit_ok : wOk "" ∧ wOk "0" ∧ wOk "x" ∧ wOk "1" ∧ wOk "4" ∧ wOk "then" ∧ wOk "Rule" := by unfold wOk; decide +kernel
section
variable {p : Par} {D : Nat}
def hws (p : Par) (D : Nat) : List Str := [("rule" : Str), p.c, p.s, p.h, p.t, strN D]
theorem hws_ok (hp : POk p) (hD : D3 D) : ∀ w ∈ hws p D, wOk w := fun w hw => by
  have h := par_tame hp
  have hw : w ∈ [("rule" : Str), p.c, p.s, p.h, p.t] ++ [strN D] := hw
  rcases List.mem_append.mp hw with m | m
  · exact h w m
  · rw [List.mem_singleton.mp m]; exact (d3_ok hD).1
theorem snoc_ok {ws : List Str} {w : Str} (h : ∀ x ∈ ws, wOk x) (hw : wOk w) : ∀ x ∈ ws ++ [w], wOk x := fun x hx => by
  rcases List.mem_append.mp hx with m | m
  · exact h x m
  · rw [List.mem_singleton.mp m]; exact hw
theorem head_eq : headS p D = Txt.join " " (hws p D ++ [("4" : Str)]) := rfl
theorem head_x : headS p D = (Txt.join " " (hws p D) ++ " ") ++ "4" := by
  rw [head_eq, join_snoc (by simp [hws]), app_assoc]
theorem head_app {t : Str} : (Txt.join " " (hws p D) ++ " ") ++ t = Txt.join " " (hws p D ++ [t]) := by
  rw [join_snoc (by simp [hws]), app_assoc]
theorem four_one : (Str.ofString "4").length = 1 := by decide +kernel
def IsBad (x : Str) : Prop := tame x = true ∧ ∀ S, m_calendar_in [.str x] S = .ok .non S
theorem bad_1 (hp : POk p) (hD : D3 D) : IsBad (headS p D ++ " ") := by
  have e : headS p D ++ " " = Txt.join " " ((hws p D ++ [("4" : Str)]) ++ [("" : Str)]) := by
    rw [join_snoc (by simp [hws]), ← head_eq]
    have : (Str.ofString " " ++ Str.ofString "" : Str) = Str.ofString " " := by decide +kernel
    rw [this]
  rw [e]
  exact words_head (by simp) (snoc_ok (snoc_ok (hws_ok hp hD) lit_ok.2.2.2.2.1) lit_ok.1) (by simp [hws]) rfl
theorem bad_2 (hp : POk p) (hD : D3 D) : IsBad (L2.cutS (headS p D) (some 5) none) := by
  have e : headS p D = (("rule" : Str) ++ " ") ++ Txt.join " " [p.c, p.s, p.h, p.t, strN D, ("4" : Str)] := by
    show Txt.join " " (("rule" : Str) :: [p.c, p.s, p.h, p.t, strN D, ("4" : Str)]) = _
    rw [join_cons (by simp)]
  have c := cut_head (a := ("rule" : Str) ++ " ") (r := Txt.join " " [p.c, p.s, p.h, p.t, strN D, ("4" : Str)]) (n := 5) (by decide +kernel)
  rw [← e] at c
  rw [show (some (5 : Int)) = some ((5 : Nat) : Int) from rfl, c]
  have h := snoc_ok (hws_ok hp hD) lit_ok.2.2.2.2.1
  exact words_head (by simp) (fun w hw => h w (List.mem_cons_of_mem _ hw)) (by simp) rfl
theorem bad_3 : IsBad "rule" := ⟨by decide +kernel, fun S => head_bad (by decide +kernel) (by decide +kernel)⟩
theorem bad_6 : IsBad "" := ⟨by decide +kernel, fun S => head_bad (by decide +kernel) (by decide +kernel)⟩
theorem bad_4 (hp : POk p) (hD : D3 D) : IsBad (headS p D ++ " 1") := by
  have e : headS p D ++ " 1" = Txt.join " " ((hws p D ++ [("4" : Str)]) ++ [("1" : Str)]) := by
    rw [join_snoc (by simp [hws]), ← head_eq]
    have : (Str.ofString " " ++ Str.ofString "1" : Str) = Str.ofString " 1" := by decide +kernel
    rw [this]
  rw [e]
  exact words_head (by simp) (snoc_ok (snoc_ok (hws_ok hp hD) lit_ok.2.2.2.2.1) lit_ok.2.2.2.1) (by simp [hws]) rfl
theorem bad_5 (hp : POk p) (hD : D3 D) : IsBad (Txt.replace (headS p D) "rule" "Rule") := by
  rw [of_decide_eq_true (all_at repl_all hp hD)]
  have h := snoc_ok (hws_ok hp hD) lit_ok.2.2.2.2.1
  refine words_head (by simp) (fun w hw => ?_) (by simp) (by
    have : (decide (Str.ofString "Rule" = Str.ofString "rule")) = false := by decide +kernel
    simp [headB])
  rcases List.mem_cons.mp hw with m | m
  · rw [m]; exact lit_ok.2.2.2.2.2.2
  · exact h w (List.mem_cons_of_mem _ m)
theorem bad_7 (hp : POk p) (hD : D3 D) : IsBad (L2.cutS (headS p D) none (some (-1)) ++ "0") := by
  rw [head_x, cut_last four_one, head_app]
  refine words_head (by simp) (snoc_ok (hws_ok hp hD) lit_ok.2.1) (by simp [hws]) ?_
  have n0 : nzB (numOf "0") = false := by decide +kernel
  show (decide (("rule" : Str) = "rule") && (nzB (numOf (strN D)) && nzB (numOf "0"))) = false
  rw [n0]; simp
theorem bad_8 (hp : POk p) (hD : D3 D) : IsBad (L2.cutS (headS p D) none (some (-1)) ++ "x") := by
  rw [head_x, cut_last four_one, head_app]
  refine words_head (by simp) (snoc_ok (hws_ok hp hD) lit_ok.2.2.1) (by simp [hws]) ?_
  have n0 : nzB (numOf "x") = false := by decide +kernel
  show (decide (("rule" : Str) = "rule") && (nzB (numOf (strN D)) && nzB (numOf "x"))) = false
  rw [n0]; simp
theorem then_ws (hp : POk p) : ∀ w ∈ [("rule" : Str), p.c, p.s, p.h, ("then" : Str), ("1" : Str), ("4" : Str)], wOk w := fun w hw => by
  have h := par_tame hp
  simp only [List.mem_cons, List.not_mem_nil, or_false] at hw
  rcases hw with rfl | rfl | rfl | rfl | rfl | rfl | rfl
  · exact h _ (by simp)
  · exact h _ (by simp)
  · exact h _ (by simp)
  · exact h _ (by simp)
  · exact lit_ok.2.2.2.2.2.1
  · exact lit_ok.2.2.2.1
  · exact lit_ok.2.2.2.2.1
theorem bad_9 (hp : POk p) : IsBad (thenS p) := by
  have t : tame (thenS p) = true := join_tame (then_ws hp) (by simp)
  refine ⟨t, fun S => head_then hp (by have := (tame_iff.mp t).1; omega) (split_words (by simp) fun w hw => (then_ws hp w hw).1) num_1 num_4 (by decide) (by decide)⟩
theorem good_head (hp : POk p) (hD : D3 D) : tame (headS p D) = true ∧ ∀ S, m_calendar_in [.str (headS p D)] S = .ok (.ref S.length) (S ++ newSto p D 4 S.length) := by
  have h := snoc_ok (hws_ok hp hD) lit_ok.2.2.2.2.1
  have t : tame (headS p D) = true := join_tame h (by simp [hws])
  exact ⟨t, fun S => head_good hp (by have := (tame_iff.mp t).1; omega) (split_words (by simp) fun w hw => (h w hw).1) (d3_ok hD).2.1 num_4 (d3_ok hD).2.2.1 (by decide)⟩
end
end Lw
set_option Elab.async false
set_option linter.all false
set_option maxRecDepth 10000
set_option maxHeartbeats 400000
namespace Lw
open PySem PySem.Spec PyProof.Rows L2 Mi
theorem runL_app {p : Par} {D H : Nat} {o : Option Deed} {os2 : List (Option Deed)} : ∀ (os1 : List (Option Deed)) (s q : Sn), runL p D H os1 s = .inr q → o.bind (lineN p D H q) = none → runL p D H (os1 ++ o :: os2) s = .inl os1.length
  | [], s, q, h, ho => by
    cases h
    rw [List.nil_append, runL, ho]; rfl
  | x :: os1, s, q, h, ho => by
    rw [runL] at h
    rw [List.cons_append, runL]
    cases e : x.bind (lineN p D H s) with
    | none => simp [e] at h
    | some r =>
      rw [e] at h
      dsimp only at h ⊢
      cases e2 : runL p D H os1 r with
      | inl j => rw [e2] at h; cases h
      | inr r2 =>
        rw [e2] at h
        have h : (Sum.inr r2 : Nat ⊕ Sn) = .inr q := h
        cases h
        rw [runL_app os1 r q e2 ho]; rfl
section
variable {p : Par} {D : Nat}
theorem run_at (hp : POk p) (hD : D3 D) {n : Nat} (hn : n < 4) : ∃ s, runL p D 4 (restD.take (2 + n)) ([], []) = .inr s ∧ ∀ o ∈ oddD, o.bind (lineN p D 4 s) = none := by
  have c := all_at chk_all hp hD
  unfold chk at c
  rw [Bool.and_eq_true] at c
  have c1 := List.all_eq_true.mp c.1 n (List.mem_range.mpr hn)
  cases e : runL p D 4 (restD.take (2 + n)) ([], []) with
  | inl j => rw [e] at c1; cases c1
  | inr s =>
    rw [e] at c1
    refine ⟨s, rfl, fun o ho => ?_⟩
    have := List.all_eq_true.mp c1 o ho
    cases h : o.bind (lineN p D 4 s) with
    | none => rfl
    | some q => rw [h] at this; cases this
theorem run_off (hp : POk p) (hD : D3 D) : runL p D 4 (restD.take 2 ++ [some (.step 0 (.off 0)), some (.step 0 (.off 0))]) ([], []) = .inl 3 := by
  have c := all_at chk_all hp hD
  unfold chk at c
  rw [Bool.and_eq_true] at c
  have c2 := c.2
  cases e : runL p D 4 (restD.take 2 ++ [some (.step 0 (.off 0)), some (.step 0 (.off 0))]) ([], []) with
  | inr s => rw [e] at c2; cases c2
  | inl j => rw [e] at c2; rw [of_decide_eq_true (by simpa [isOut] using c2 : decide (j = 3) = true)]
def linesL (p : Par) (D n : Nat) : List Str := headS p D :: restL.take (2 + n)
theorem restT : ∀ l ∈ restL ++ [("off 0 0" : Str)], tame l = true := List.all_eq_true.mp rest_tame
theorem oddT : ∀ l ∈ oddL, tame l = true := List.all_eq_true.mp odd_tame
theorem take_line {n : Nat} : (restL.take n).map lineOf = restD.take n := by rw [List.map_take, rest_line]
theorem told_A (hp : POk p) (hD : D3 D) {n : Nat} (hn : n < 4) {S : Sto} : m_law_told [.str (Txt.join "\n" (linesL p D n))] S = .ok .non S := by
  obtain ⟨t, hh⟩ := good_head hp hD
  obtain ⟨s, e, _⟩ := run_at hp hD hn
  have r := text_run (S := S) (hd := headS p D) (rest := restL.take (2 + n)) (fun l hl => by
    rcases List.mem_cons.mp hl with m | m
    · rw [m]; exact t
    · exact restT l (List.mem_append_left _ (List.mem_of_mem_take m))) (by simp [restL]; omega) hh (d3_ok hD).2.2.1 (d3_ok hD).2.2.2 (by decide) (by decide)
  rw [take_line, e] at r
  exact r
theorem told_B (hp : POk p) (hD : D3 D) {n a : Nat} {o : Str} (hn : n < 4) (ha : a ≤ n) (ho : o ∈ oddL) {S : Sto} : m_law_told [.str (Txt.join "\n" ((linesL p D n).take (3 + a) ++ [o] ++ (linesL p D n).drop (3 + a)))] S = .ok (.int ((a + 4 : Nat) : Int)) S := by
  obtain ⟨t, hh⟩ := good_head hp hD
  obtain ⟨s, e, hodd⟩ := run_at hp hD (n := a) (by omega)
  have el : (linesL p D n).take (3 + a) ++ [o] ++ (linesL p D n).drop (3 + a) = headS p D :: ((restL.take (2 + a)) ++ o :: (restL.take (2 + n)).drop (2 + a)) := by
    have h3 : 3 + a = (2 + a) + 1 := by omega
    have : (restL.take (2 + n)).take (2 + a) = restL.take (2 + a) := by rw [List.take_take, Nat.min_eq_left (by omega)]
    rw [linesL, h3, List.take_succ_cons, List.drop_succ_cons, this]
    simp
  have r := text_run (S := S) (hd := headS p D) (rest := (restL.take (2 + a)) ++ o :: (restL.take (2 + n)).drop (2 + a)) (fun l hl => by
    rcases List.mem_cons.mp hl with m | m
    · rw [m]; exact t
    · rcases List.mem_append.mp m with m | m
      · exact restT l (List.mem_append_left _ (List.mem_of_mem_take m))
      · rcases List.mem_cons.mp m with m | m
        · rw [m]; exact oddT o ho
        · exact restT l (List.mem_append_left _ (List.mem_of_mem_take (List.mem_of_mem_drop m)))) (by simp [restL]; omega) hh (d3_ok hD).2.2.1 (d3_ok hD).2.2.2 (by decide) (by decide)
  have om : lineOf o ∈ oddD := by rw [← odd_line]; exact List.mem_map_of_mem ho
  rw [List.map_append, List.map_cons, take_line, runL_app _ _ _ e (hodd _ om)] at r
  rw [el, r]
  have : (restD.take (2 + a)).length = 2 + a := by rw [List.length_take]; simp [restD]; omega
  simp only [this]
  rw [show 2 + a + 2 = a + 4 from by omega]
theorem told_C {x : Str} (hb : IsBad x) {n : Nat} {S : Sto} : m_law_told [.str (Txt.join "\n" (x :: restL.take (2 + n)))] S = .ok (.int 1) S :=
  text_head (fun l hl => by
    rcases List.mem_cons.mp hl with m | m
    · rw [m]; exact hb.1
    · exact restT l (List.mem_append_left _ (List.mem_of_mem_take m))) (by simp [restL]; omega) hb.2
theorem told_D (hp : POk p) (hD : D3 D) {S : Sto} : m_law_told [.str (Txt.join "\n" (headS p D :: (restL.take 2 ++ [("off 0 0" : Str), ("off 0 0" : Str)])))] S = .ok (.int 5) S := by
  obtain ⟨t, hh⟩ := good_head hp hD
  have r := text_run (S := S) (hd := headS p D) (rest := restL.take 2 ++ [("off 0 0" : Str), ("off 0 0" : Str)]) (fun l hl => by
    rcases List.mem_cons.mp hl with m | m
    · rw [m]; exact t
    · rcases List.mem_append.mp m with m | m
      · exact restT l (List.mem_append_left _ (List.mem_of_mem_take m))
      · have : l = ("off 0 0" : Str) := by simpa using m
        exact restT l (by rw [this]; simp)) (by simp [restL]) hh (d3_ok hD).2.2.1 (d3_ok hD).2.2.2 (by decide) (by decide)
  rw [List.map_append, take_line] at r
  simp only [List.map_cons, List.map_nil, off_line] at r
  rw [run_off hp hD] at r
  exact r
end
end Lw
set_option Elab.async false
set_option linter.all false
set_option maxRecDepth 10000
set_option maxHeartbeats 1000000
namespace Lw
open PySem PySem.Spec PyProof.Rows L2 Mi
def heads9 (p : Par) (D : Nat) : List Str := [headS p D ++ " ", L2.cutS (headS p D) (some 5) none, "rule", headS p D ++ " 1", Txt.replace (headS p D) "rule" "Rule", "", L2.cutS (headS p D) none (some (-1)) ++ "0", L2.cutS (headS p D) none (some (-1)) ++ "x", thenS p]
theorem heads_bad {p : Par} {D : Nat} (hp : POk p) (hD : D3 D) : ∀ x ∈ heads9 p D, IsBad x := fun x hx => by
  simp only [heads9, List.mem_cons, List.not_mem_nil, or_false] at hx
  rcases hx with rfl | rfl | rfl | rfl | rfl | rfl | rfl | rfl | rfl
  · exact bad_1 hp hD
  · exact bad_2 hp hD
  · exact bad_3
  · exact bad_4 hp hD
  · exact bad_5 hp hD
  · exact bad_6
  · exact bad_7 hp hD
  · exact bad_8 hp hD
  · exact bad_9 hp
theorem slc_to {ys : List Str} {k : Nat} {S : Sto} : slcM (.lst (ys.map .str)) none (some (k : Int)) S = .ok (.lst ((ys.take k).map .str)) S := by
  have : cutM (ys.map MV.str) none (some (k : Int)) = (ys.take k).map .str := by
    simp only [cutM, HT.sIx]
    rw [if_neg (by omega), List.map_take, List.length_map]
    simp only [List.drop_zero, Nat.sub_zero, Int.toNat_natCast]
    by_cases h : k ≤ ys.length
    · rw [Nat.min_eq_left h]
    · rw [Nat.min_eq_right (by omega), List.take_of_length_le (by simp), List.take_of_length_le (by simp; omega)]
  simp [slcM, lstOf, this]
theorem slc_from {ys : List Str} {k : Nat} {S : Sto} : slcM (.lst (ys.map .str)) (some (k : Int)) none S = .ok (.lst ((ys.drop k).map .str)) S := by
  have : cutM (ys.map MV.str) (some (k : Int)) none = (ys.drop k).map .str := by
    simp only [cutM, HT.sIx]
    rw [if_neg (by omega), List.map_drop, List.length_map]
    simp only [Int.toNat_natCast]
    by_cases h : k ≤ ys.length
    · simp only [Nat.min_eq_left h]; rw [List.take_of_length_le (by simp)]
    · rw [Nat.min_eq_right (by omega)]
      rw [List.drop_of_length_le (i := k) (by simp; omega)]
      simp
  simp [slcM, lstOf, this]
theorem add_strs {xs ys : List Str} {S : Sto} (h : xs.length + ys.length ≤ 1000) : addM (.lst (xs.map .str)) (.lst (ys.map .str)) S = .ok (.lst ((xs ++ ys).map .str)) S := by
  have hz := sizeLine_eq
  have : (xs.map MV.str).length + (ys.map MV.str).length ≤ sizeLine := by simp; omega
  simp [addM, addL, lstOf] at this ⊢
  exact this
theorem len_strs {ys : List Str} {S : Sto} : lenM [.lst (ys.map .str)] S = .ok (.int (ys.length : Nat)) S := by simp [lenM, seqOf, lstOf]
theorem ix_strs {ys : List Str} {k : Nat} {S : Sto} (h : k < ys.length) : ∃ x ∈ ys, idxM (.lst (ys.map .str)) (.int (k : Nat)) S = .ok (.str x) S :=
  ⟨ys[k], List.getElem_mem h, ix_lst (by rw [List.getElem?_map, List.getElem?_eq_getElem h]; rfl)⟩
theorem str_int {n : Nat} {S : Sto} (h : n < 1000000000) : strM [.int (n : Nat)] S = .ok (.str (strN n)) S := by simp [strM, strN, h]
theorem add_str {x y : Str} {S : Sto} (h : x.length + y.length ≤ 1000) : addM (.str x) (.str y) S = .ok (.str (x ++ y)) S := by
  have hz := sizeLine_eq
  have : x.length + y.length ≤ sizeLine := by omega
  simp [addM, this]
theorem slc_str {x : Str} {lo hi : Option Int} {S : Sto} (h : x.length ≤ 1000) : slcM (.str x) lo hi S = .ok (.str (L2.cutS x lo hi)) S := by
  have hz := sizeLine_eq
  have : x.length ≤ sizeLine := by omega
  simp [slcM, this]
theorem repl_str {x y z : Str} {S : Sto} (h : x.length ≤ 1000) (hz : z.length ≤ 10) : replM y z (.str x) S = .ok (.str (Txt.replace x y z)) S := by
  have : (x.length + 1) * z.length ≤ 1001 * 10 := Nat.mul_le_mul (by omega) hz
  have : Nat.ble (x.length + (x.length + 1) * z.length) 16777216 = true := Nat.ble_eq.mpr (by omega)
  simp [replM, this]
theorem lines_tame {p : Par} {D n : Nat} (hp : POk p) (hD : D3 D) : ∀ l ∈ linesL p D n, tame l = true := fun l hl => by
  rcases List.mem_cons.mp hl with m | m
  · rw [m]; exact (good_head hp hD).1
  · exact restT l (List.mem_append_left _ (List.mem_of_mem_take m))
theorem law_true : ∀ ns : List Int, ns.length ≤ 63 → ∃ S', m_law [.kls (ns.map .int)] [] = .ok (.bl true) S' := by
  intro ns _
  obtain ⟨p, d1, hp, e1⟩ := law_parts_eq (d := ⟨ns, 0, 0, 7⟩) (T := [])
  obtain ⟨k, d2, hk, e2⟩ := draw (d := d1) (T := []) (n := 3) (by decide) (by decide)
  obtain ⟨n, d3, hn, e3⟩ := draw (d := d2) (T := []) (n := 4) (by decide) (by decide)
  obtain ⟨a, d4, ha, e4⟩ := draw (d := d3) (T := []) (n := n + 1) (by omega) (by omega)
  obtain ⟨oi, d5, ho, e5⟩ := draw (d := d4) (T := []) (n := 28) (by decide) (by decide)
  obtain ⟨hi, d6, hh, e6⟩ := draw (d := d5) (T := []) (n := 9) (by decide) (by decide)
  have hD : D3 (k + 1) := by unfold D3; omega
  generalize hDD : k + 1 = D at hD
  have iD : (1 : Int) + (k : Int) = (D : Nat) := by omega
  obtain ⟨o, mo, io⟩ := ix_strs (ys := oddL) (S := [dr d5]) (k := oi) (by simpa [oddL, oddL1, oddL2, oddL3] using ho)
  obtain ⟨x, mx, ix⟩ := ix_strs (ys := heads9 p D) (S := [dr d6]) (k := hi) (by simpa [heads9] using hh)
  refine ⟨[dr d6], ?_⟩
  have hw := snoc_ok (hws_ok hp hD) lit_ok.2.2.2.2.1
  have hl10 : ∀ y ∈ hws p D ++ [("4" : Str)], y.length ≤ 200 := fun y hy => by have := (hw y hy).2.2; omega
  -- the head
  have s0 : m_law_s0 (ev0 10 [.kls (ns.map .int)]) [] = .nx [some (.kls (ns.map .int)), some (.ref 0), none, none, none, none, none, none, none, none] [dr ⟨ns, 0, 0, 7⟩] := rfl
  have s1 : m_law_s1 [some (.kls (ns.map .int)), some (.ref 0), none, none, none, none, none, none, none, none] [dr ⟨ns, 0, 0, 7⟩] = .nx [some (.kls (ns.map .int)), some (.ref 0), some (lPar p), none, none, none, none, none, none, none] [dr d1] := by
    simp [m_law_s1, e1]
  have e2 : m_law_draw [.ref 0, .int 3] [dr d1] = .ok (.int (k : Nat)) [dr d2] := e2
  have s2 : m_law_s2 [some (.kls (ns.map .int)), some (.ref 0), some (lPar p), none, none, none, none, none, none, none] [dr d1] = .nx [some (.kls (ns.map .int)), some (.ref 0), some (lPar p), some (.int (D : Nat)), none, none, none, none, none, none] [dr d2] := by
    simp [m_law_s2, e2, iD]
  have e3 : m_law_draw [.ref 0, .int 4] [dr d2] = .ok (.int (n : Nat)) [dr d3] := e3
  have e4 : m_law_draw [.ref 0, .int ((n + 1 : Nat) : Int)] [dr d3] = .ok (.int (a : Nat)) [dr d4] := e4
  have e5 : m_law_draw [.ref 0, .int 28] [dr d4] = .ok (.int (oi : Nat)) [dr d5] := e5
  have e6 : m_law_draw [.ref 0, .int 9] [dr d5] = .ok (.int (hi : Nat)) [dr d6] := e6
  have D100 := (d3_ok hD).2.2.2
  have s3 : m_law_s3 [some (.kls (ns.map .int)), some (.ref 0), some (lPar p), some (.int (D : Nat)), none, none, none, none, none, none] [dr d2] = .nx [some (.kls (ns.map .int)), some (.ref 0), some (lPar p), some (.int (D : Nat)), some (.str (headS p D)), none, none, none, none, none] [dr d2] := by
    have a1 : addM (.lst [.str "rule"]) (.lst [.str p.c, .str p.s, .str p.h, .str p.t]) [dr d2] = .ok (.lst [.str "rule", .str p.c, .str p.s, .str p.h, .str p.t]) [dr d2] := add_strs (xs := [("rule" : Str)]) (ys := [p.c, p.s, p.h, p.t]) (by simp)
    have a2 : addM (.lst [.str "rule", .str p.c, .str p.s, .str p.h, .str p.t]) (.lst [.str (strN D), .str "4"]) [dr d2] = .ok (.lst [.str "rule", .str p.c, .str p.s, .str p.h, .str p.t, .str (strN D), .str "4"]) [dr d2] := add_strs (xs := [("rule" : Str), p.c, p.s, p.h, p.t]) (ys := [strN D, ("4" : Str)]) (by simp)
    have a3 : joinM (.str " ") [.lst [.str "rule", .str p.c, .str p.s, .str p.h, .str p.t, .str (strN D), .str "4"]] [dr d2] = .ok (.str (headS p D)) [dr d2] := join_call (ys := [("rule" : Str), p.c, p.s, p.h, p.t, strN D, ("4" : Str)]) sp_one hl10 (by simp)
    have a4 := str_int (n := D) (S := [dr d2]) (by omega)
    simp [m_law_s3, mBM, kStr, lPar, a1, a2, a3, a4]
  have s4 : m_law_s4 [some (.kls (ns.map .int)), some (.ref 0), some (lPar p), some (.int (D : Nat)), some (.str (headS p D)), none, none, none, none, none] [dr d2] = .nx [some (.kls (ns.map .int)), some (.ref 0), some (lPar p), some (.int (D : Nat)), some (.str (headS p D)), some (.lst ((headS p D :: restL).map .str)), none, none, none, none] [dr d2] := rfl
  have s5 : m_law_s5 [some (.kls (ns.map .int)), some (.ref 0), some (lPar p), some (.int (D : Nat)), some (.str (headS p D)), some (.lst ((headS p D :: restL).map .str)), none, none, none, none] [dr d2] = .nx [some (.kls (ns.map .int)), some (.ref 0), some (lPar p), some (.int (D : Nat)), some (.str (headS p D)), some (.lst ((linesL p D n).map .str)), none, none, none, none] [dr d3] := by
    have sl := slc_to (ys := headS p D :: restL) (k := 3 + n) (S := [dr d3])
    rw [show (headS p D :: restL).take (3 + n) = linesL p D n from by rw [show 3 + n = (2 + n) + 1 from by omega, List.take_succ_cons]; rfl, show ((3 + n : Nat) : Int) = 3 + (n : Int) from by omega] at sl
    generalize (headS p D :: restL).map MV.str = ys at sl
    simp [m_law_s5, e3, sl]
  have LT := lines_tame (n := n) hp hD
  have L200 : ∀ y ∈ linesL p D n, y.length ≤ 200 := fun y hy => (tame_iff.mp (LT y hy)).1
  have Ln : (linesL p D n).length = 3 + n := by simp [linesL, restL]; omega
  have hS := (tame_iff.mp (good_head hp hD).1).1
  generalize hLL : (linesL p D n).map MV.str = LL at s5
  have s6 : m_law_s6 [some (.kls (ns.map .int)), some (.ref 0), some (lPar p), some (.int (D : Nat)), some (.str (headS p D)), some (.lst LL), none, none, none, none] [dr d3] = .nx [some (.kls (ns.map .int)), some (.ref 0), some (lPar p), some (.int (D : Nat)), some (.str (headS p D)), some (.lst LL), none, none, none, none] [dr d3] := by
    have j1 := join_call (S := [dr d3]) nl_one L200 (by omega)
    rw [hLL] at j1
    have t1 := told_A hp hD hn (S := [dr d3])
    have i1 : isnM .non .non [dr d3] = .ok (.bl false) [dr d3] := rfl
    simp [m_law_s6, mBM, kStr, j1, t1, i1]
  generalize hOO : oddL.map MV.str = OO at io
  have s8 : m_law_s8 [some (.kls (ns.map .int)), some (.ref 0), some (lPar p), some (.int (D : Nat)), some (.str (headS p D)), some (.lst LL), none, none, none, none] [dr d3] = .nx [some (.kls (ns.map .int)), some (.ref 0), some (lPar p), some (.int (D : Nat)), some (.str (headS p D)), some (.lst LL), some (.lst (oddL1.map .str)), none, none, none] [dr d3] := rfl
  have s9 : m_law_s9 [some (.kls (ns.map .int)), some (.ref 0), some (lPar p), some (.int (D : Nat)), some (.str (headS p D)), some (.lst LL), some (.lst (oddL1.map .str)), none, none, none] [dr d3] = .nx [some (.kls (ns.map .int)), some (.ref 0), some (lPar p), some (.int (D : Nat)), some (.str (headS p D)), some (.lst LL), some (.lst ((oddL1 ++ oddL2).map .str)), none, none, none] [dr d3] := rfl
  have s10 : m_law_s10 [some (.kls (ns.map .int)), some (.ref 0), some (lPar p), some (.int (D : Nat)), some (.str (headS p D)), some (.lst LL), some (.lst ((oddL1 ++ oddL2).map .str)), none, none, none] [dr d3] = .nx [some (.kls (ns.map .int)), some (.ref 0), some (lPar p), some (.int (D : Nat)), some (.str (headS p D)), some (.lst LL), some (.lst OO), none, none, none] [dr d3] := by
    rw [← hOO]; rfl
  have lnL : ∀ S, lenM [.lst LL] S = .ok (.int ((3 + n : Nat) : Int)) S := fun S => by rw [← hLL, len_strs, Ln]
  have lnO : ∀ S, lenM [.lst OO] S = .ok (.int 28) S := fun S => by rw [← hOO, len_strs]; rfl
  have s11 : m_law_s11 [some (.kls (ns.map .int)), some (.ref 0), some (lPar p), some (.int (D : Nat)), some (.str (headS p D)), some (.lst LL), some (.lst OO), none, none, none] [dr d3] = .nx [some (.kls (ns.map .int)), some (.ref 0), some (lPar p), some (.int (D : Nat)), some (.str (headS p D)), some (.lst LL), some (.lst OO), some (.int ((3 + a : Nat) : Int)), none, none] [dr d4] := by
    have c1 : ((3 + n : Nat) : Int) - 2 = ((n + 1 : Nat) : Int) := by omega
    have c2 : (3 : Int) + (a : Int) = ((3 + a : Nat) : Int) := by omega
    have lI : ((LL.length : Nat) : Int) - 2 = ((n + 1 : Nat) : Int) := by rw [← hLL, List.length_map, Ln]; exact c1
    generalize ((n + 1 : Nat) : Int) = v at lI e4
    generalize ((3 + a : Nat) : Int) = z at c2
    simp [m_law_s11, lI, e4, c2]
  let sp : List Str := (linesL p D n).take (3 + a) ++ [o] ++ (linesL p D n).drop (3 + a)
  have s12 : m_law_s12 [some (.kls (ns.map .int)), some (.ref 0), some (lPar p), some (.int (D : Nat)), some (.str (headS p D)), some (.lst LL), some (.lst OO), some (.int ((3 + a : Nat) : Int)), none, none] [dr d4] = .nx [some (.kls (ns.map .int)), some (.ref 0), some (lPar p), some (.int (D : Nat)), some (.str (headS p D)), some (.lst LL), some (.lst OO), some (.int ((3 + a : Nat) : Int)), some (.lst (sp.map .str)), none] [dr d5] := by
    have c1 := slc_to (ys := linesL p D n) (k := 3 + a) (S := [dr d4])
    have c2 := slc_from (ys := linesL p D n) (k := 3 + a) (S := [dr d5])
    rw [hLL] at c1 c2
    have a1 : addM (.lst (((linesL p D n).take (3 + a)).map .str)) (.lst [.str o]) [dr d5] = .ok (.lst (((linesL p D n).take (3 + a) ++ [o]).map .str)) [dr d5] := add_strs (ys := [o]) (by simp; omega)
    have a2 : addM (.lst (((linesL p D n).take (3 + a) ++ [o]).map .str)) (.lst (((linesL p D n).drop (3 + a)).map .str)) [dr d5] = .ok (.lst (sp.map .str)) [dr d5] := add_strs (by simp; omega)
    generalize ((linesL p D n).take (3 + a)).map MV.str = y1 at c1 a1
    generalize ((linesL p D n).take (3 + a) ++ [o]).map MV.str = y2 at a1 a2
    generalize ((linesL p D n).drop (3 + a)).map MV.str = y3 at c2 a2
    generalize sp.map MV.str = y4 at a2
    generalize ((3 + a : Nat) : Int) = z at c1 c2
    have lI : ((OO.length : Nat) : Int) = 28 := by rw [← hOO, List.length_map]; rfl
    simp [m_law_s12, c1, lI, e5, io, a1, c2, a2]
  have spT : ∀ l ∈ sp, tame l = true := fun l hl => by
    rcases List.mem_append.mp hl with m | m
    · rcases List.mem_append.mp m with m | m
      · exact LT l (List.mem_of_mem_take m)
      · rw [List.mem_singleton.mp m]; exact oddT o mo
    · exact LT l (List.mem_of_mem_drop m)
  have spl : sp.length ≤ 40 := by simp [sp, Ln]; omega
  have s13 : m_law_s13 [some (.kls (ns.map .int)), some (.ref 0), some (lPar p), some (.int (D : Nat)), some (.str (headS p D)), some (.lst LL), some (.lst OO), some (.int ((3 + a : Nat) : Int)), some (.lst (sp.map .str)), none] [dr d5] = .nx [some (.kls (ns.map .int)), some (.ref 0), some (lPar p), some (.int (D : Nat)), some (.str (headS p D)), some (.lst LL), some (.lst OO), some (.int ((3 + a : Nat) : Int)), some (.lst (sp.map .str)), none] [dr d5] := by
    have j1 := join_call (S := [dr d5]) nl_one (fun y hy => (tame_iff.mp (spT y hy)).1) (show sp.length ≤ 50 by omega)
    have t1 : m_law_told [.str (Txt.join "\n" sp)] [dr d5] = .ok (.int ((a + 4 : Nat) : Int)) [dr d5] := told_B hp hD hn (by omega) mo
    have c1 : ((3 + a : Nat) : Int) + 1 = ((a + 4 : Nat) : Int) := by omega
    have n1 : neM (.int ((a + 4 : Nat) : Int)) (.int ((a + 4 : Nat) : Int)) [dr d5] = .ok (.bl false) [dr d5] := by
      have : neM (.int ((a + 4 : Nat) : Int)) (.int ((a + 4 : Nat) : Int)) [dr d5] = .ok (.bl (!decide (((a + 4 : Nat) : Int) = ((a + 4 : Nat) : Int)))) [dr d5] := rfl
      rw [this]; simp
    generalize sp.map MV.str = y4 at j1
    generalize ((3 + a : Nat) : Int) = z at c1
    generalize ((a + 4 : Nat) : Int) = z2 at c1 t1 n1
    simp [m_law_s13, mBM, kStr, j1, t1, c1, n1]
  generalize hSP : sp.map MV.str = SP at s12 s13
  have h1 : (headS p D ++ " ").length ≤ 200 := (tame_iff.mp (bad_1 hp hD).1).1
  have h7 : (L2.cutS (headS p D) none (some (-1)) ++ "0").length ≤ 200 := (tame_iff.mp (bad_7 hp hD).1).1
  have hc : (L2.cutS (headS p D) none (some (-1))).length ≤ 200 := Nat.le_trans (L2.cutS_length _ _ _) hS
  generalize hHS : headS p D = HS at *
  have s15 : m_law_s15 [some (.kls (ns.map .int)), some (.ref 0), some (lPar p), some (.int (D : Nat)), some (.str HS), some (.lst LL), some (.lst OO), some (.int ((3 + a : Nat) : Int)), some (.lst SP), none] [dr d5] = .nx [some (.kls (ns.map .int)), some (.ref 0), some (lPar p), some (.int (D : Nat)), some (.str HS), some (.lst LL), some (.lst OO), some (.int ((3 + a : Nat) : Int)), some (.lst SP), some (.lst ([HS ++ " ", L2.cutS HS (some 5) none, "rule", HS ++ " 1", Txt.replace HS "rule" "Rule", "", L2.cutS HS none (some (-1)) ++ "0"].map .str))] [dr d5] := by
    have q1 : (Str.ofString " ").length = 1 := by decide +kernel
    have q2 : (Str.ofString " 1").length = 2 := by decide +kernel
    have q3 : (Str.ofString "0").length = 1 := by decide +kernel
    have q4 : (Str.ofString "Rule").length = 4 := by decide +kernel
    have a1 := add_str (x := HS) (y := " ") (S := [dr d5]) (by rw [q1]; omega)
    have a2 := slc_str (x := HS) (lo := some 5) (hi := none) (S := [dr d5]) (by omega)
    have a3 := add_str (x := HS) (y := " 1") (S := [dr d5]) (by rw [q2]; omega)
    have a4 := repl_str (x := HS) (y := "rule") (z := "Rule") (S := [dr d5]) (by omega) (by rw [q4]; decide)
    have a5 := slc_str (x := HS) (lo := none) (hi := some (-1)) (S := [dr d5]) (by omega)
    have a6 := add_str (x := L2.cutS HS none (some (-1))) (y := "0") (S := [dr d5]) (by rw [q3]; omega)
    generalize ((3 + a : Nat) : Int) = z
    simp [m_law_s15, mRepl, a1, a2, a3, a4, a5, a6]
  have eh : heads9 p D = [HS ++ " ", L2.cutS HS (some 5) none, ("rule" : Str), HS ++ " 1", Txt.replace HS "rule" "Rule", ("" : Str), L2.cutS HS none (some (-1)) ++ "0"] ++ [L2.cutS HS none (some (-1)) ++ "x", thenS p] := by rw [← hHS]; rfl
  have s16 : m_law_s16 [some (.kls (ns.map .int)), some (.ref 0), some (lPar p), some (.int (D : Nat)), some (.str HS), some (.lst LL), some (.lst OO), some (.int ((3 + a : Nat) : Int)), some (.lst SP), some (.lst ([HS ++ " ", L2.cutS HS (some 5) none, "rule", HS ++ " 1", Txt.replace HS "rule" "Rule", "", L2.cutS HS none (some (-1)) ++ "0"].map .str))] [dr d5] = .nx [some (.kls (ns.map .int)), some (.ref 0), some (lPar p), some (.int (D : Nat)), some (.str HS), some (.lst LL), some (.lst OO), some (.int ((3 + a : Nat) : Int)), some (.lst SP), some (.lst ((heads9 p D).map .str))] [dr d5] := by
    have q3 : (Str.ofString "x").length = 1 := by decide +kernel
    have a5 := slc_str (x := HS) (lo := none) (hi := some (-1)) (S := [dr d5]) (by omega)
    have a6 := add_str (x := L2.cutS HS none (some (-1))) (y := "x") (S := [dr d5]) (by rw [q3]; omega)
    have b1 : slcM (.lst [.str p.c, .str p.s, .str p.h, .str p.t]) none (some 3) [dr d5] = .ok (.lst [.str p.c, .str p.s, .str p.h]) [dr d5] := rfl
    have b2 : addM (.lst [.str "rule"]) (.lst [.str p.c, .str p.s, .str p.h]) [dr d5] = .ok (.lst [.str "rule", .str p.c, .str p.s, .str p.h]) [dr d5] := add_strs (xs := [("rule" : Str)]) (ys := [p.c, p.s, p.h]) (by simp)
    have b3 : addM (.lst [.str "rule", .str p.c, .str p.s, .str p.h]) (.lst [.str "then", .str "1", .str "4"]) [dr d5] = .ok (.lst [.str "rule", .str p.c, .str p.s, .str p.h, .str "then", .str "1", .str "4"]) [dr d5] := add_strs (xs := [("rule" : Str), p.c, p.s, p.h]) (ys := [("then" : Str), ("1" : Str), ("4" : Str)]) (by simp)
    have b4 : joinM (.str " ") [.lst [.str "rule", .str p.c, .str p.s, .str p.h, .str "then", .str "1", .str "4"]] [dr d5] = .ok (.str (thenS p)) [dr d5] := join_call (ys := [("rule" : Str), p.c, p.s, p.h, ("then" : Str), ("1" : Str), ("4" : Str)]) sp_one (fun y hy => by have := (then_ws hp y hy).2.2; omega) (by simp)
    have b5 : addM (.lst ([HS ++ " ", L2.cutS HS (some 5) none, "rule", HS ++ " 1", Txt.replace HS "rule" "Rule", "", L2.cutS HS none (some (-1)) ++ "0"].map .str)) (.lst [.str (L2.cutS HS none (some (-1)) ++ "x"), .str (thenS p)]) [dr d5] = .ok (.lst ((heads9 p D).map .str)) [dr d5] := by
      rw [eh]
      exact add_strs (ys := [L2.cutS HS none (some (-1)) ++ "x", thenS p]) (by simp)
    generalize ((3 + a : Nat) : Int) = z
    generalize List.map MV.str [HS ++ " ", L2.cutS HS (some 5) none, ("rule" : Str), HS ++ " 1", Txt.replace HS "rule" "Rule", ("" : Str), L2.cutS HS none (some (-1)) ++ "0"] = y7 at b5
    generalize (heads9 p D).map MV.str = y9 at b5
    simp [m_law_s16, mBM, kStr, lPar, a5, a6, b1, b2, b3, b4, b5]
  generalize hH9 : (heads9 p D).map MV.str = H9 at s16 ix
  have s17 : m_law_s17 [some (.kls (ns.map .int)), some (.ref 0), some (lPar p), some (.int (D : Nat)), some (.str HS), some (.lst LL), some (.lst OO), some (.int ((3 + a : Nat) : Int)), some (.lst SP), some (.lst H9)] [dr d5] = .nx [some (.kls (ns.map .int)), some (.ref 0), some (lPar p), some (.int (D : Nat)), some (.str HS), some (.lst LL), some (.lst OO), some (.int ((3 + a : Nat) : Int)), some (.lst SP), some (.lst H9)] [dr d6] := by
    have lI : ((H9.length : Nat) : Int) = 9 := by rw [← hH9, List.length_map]; rfl
    have c1 : slcM (.lst LL) (some 1) none [dr d6] = .ok (.lst ((restL.take (2 + n)).map .str)) [dr d6] := by
      have := slc_from (ys := linesL p D n) (k := 1) (S := [dr d6])
      rw [hLL] at this
      exact this
    have c2 : addM (.lst [.str x]) (.lst ((restL.take (2 + n)).map .str)) [dr d6] = .ok (.lst ((x :: restL.take (2 + n)).map .str)) [dr d6] := add_strs (xs := [x]) (by simp [restL]; omega)
    have bx := heads_bad hp hD x mx
    have c3 := join_call (S := [dr d6]) (sep := "\n") (ys := x :: restL.take (2 + n)) nl_one (fun y hy => by
      rcases List.mem_cons.mp hy with m | m
      · rw [m]; exact (tame_iff.mp bx.1).1
      · exact (tame_iff.mp (restT y (List.mem_append_left _ (List.mem_of_mem_take m)))).1) (by simp [restL]; omega)
    have c4 := told_C (n := n) (S := [dr d6]) bx
    generalize ((3 + a : Nat) : Int) = z
    generalize (restL.take (2 + n)).map MV.str = y1 at c1 c2
    generalize (x :: restL.take (2 + n)).map MV.str = y2 at c2 c3
    have n1 : neM (.int 1) (.int 1) [dr d6] = .ok (.bl false) [dr d6] := rfl
    simp [m_law_s17, mBM, kStr, lI, e6, ix, c1, c2, c3, c4, n1]
  have s19 : m_law_s19 [some (.kls (ns.map .int)), some (.ref 0), some (lPar p), some (.int (D : Nat)), some (.str HS), some (.lst LL), some (.lst OO), some (.int ((3 + a : Nat) : Int)), some (.lst SP), some (.lst H9)] [dr d6] = .rt (.bl true) [dr d6] := by
    have c1 : slcM (.lst LL) none (some 3) [dr d6] = .ok (.lst ((headS p D :: restL.take 2).map .str)) [dr d6] := by
      have := slc_to (ys := linesL p D n) (k := 3) (S := [dr d6])
      rw [hLL, show (linesL p D n).take 3 = headS p D :: restL.take 2 from by
        rw [linesL, List.take_succ_cons, List.take_take, Nat.min_eq_left (by omega)]] at this
      exact this
    have c2 : addM (.lst ((headS p D :: restL.take 2).map .str)) (.lst [.str "off 0 0", .str "off 0 0"]) [dr d6] = .ok (.lst ((headS p D :: (restL.take 2 ++ [("off 0 0" : Str), ("off 0 0" : Str)])).map .str)) [dr d6] := add_strs (xs := headS p D :: restL.take 2) (ys := [("off 0 0" : Str), ("off 0 0" : Str)]) (by simp [restL])
    have c3 := join_call (S := [dr d6]) (sep := "\n") (ys := headS p D :: (restL.take 2 ++ [("off 0 0" : Str), ("off 0 0" : Str)])) nl_one (fun y hy => by
      rcases List.mem_cons.mp hy with m | m
      · rw [m, hHS]; omega
      · rcases List.mem_append.mp m with m | m
        · exact (tame_iff.mp (restT y (List.mem_append_left _ (List.mem_of_mem_take m)))).1
        · have : y = ("off 0 0" : Str) := by simpa using m
          exact (tame_iff.mp (restT y (by rw [this]; simp))).1) (by simp [restL])
    have c4 := told_D hp hD (S := [dr d6])
    generalize ((3 + a : Nat) : Int) = z
    generalize (headS p D :: restL.take 2).map MV.str = y1 at c1 c2
    generalize (headS p D :: (restL.take 2 ++ [("off 0 0" : Str), ("off 0 0" : Str)])).map MV.str = y2 at c2 c3
    have n1 : eqM (.int 5) (.int 5) [dr d6] = .ok (.bl true) [dr d6] := rfl
    simp [m_law_s19, mBM, kStr, c1, c2, c3, c4, n1]
  simp only [m_law, mFn]
  rw [w_seq', s0, nxt_nx, w_seq', s1, nxt_nx, w_seq', s2, nxt_nx, w_seq', s3, nxt_nx, w_seq', s4, nxt_nx, w_seq', s5, nxt_nx, w_seq', s6, nxt_nx, w_seq', s8, nxt_nx, w_seq', s9, nxt_nx, w_seq', s10, nxt_nx, w_seq', s11, nxt_nx, w_seq', s12, nxt_nx, w_seq', s13, nxt_nx, w_seq', s15, nxt_nx, w_seq', s16, nxt_nx, w_seq', s17, nxt_nx, s19]
  rfl
end Lw
set_option Elab.async false
set_option linter.all false
set_option maxRecDepth 100000
set_option maxHeartbeats 0
namespace Lw
open PySem PySem.Spec PyProof.Rows L2 Mi
theorem fn_nox {P : Program} {w : PySem.World} {K : PySem.W.Frag} {mg : Str → Option Value} {base : Heap} {k : Nat} {f : Addr} {fd : FuncData} {ps : List Str} {sp : Sp} (F : FnOk P w K mg base (L2.CX P w) k f fd ps sp) :
    FnOk P w K mg base CX0 k f fd ps (fun vs H Q _ => sp vs H Q (fun _ _ _ => False)) :=
  ⟨fun vs H Q E h => F.len _ _ _ _ h, fun A outer s H args us vs Q E hr he hb hv hs => codeAny_mono (F.run A outer s H args us vs Q (fun _ _ _ => False) hr he hb hv hs) fun r s' q => by
    cases r with
    | error e =>
      obtain ⟨_, _, _, _, _, _, _, _, _, _, _, _, z⟩ := q
      exact z
    | ok fl =>
      cases fl with
      | ret u => exact q
      | next => exact q
      | brk => exact q
      | cont => exact q⟩
theorem gs_of {K : PySem.W.Frag} {h : Heap} {mg : Str → Option Value} (X : K.In h) (G : h.Ns mainGlobals mg) (c : He.SaysD fa fn K) (e : ex K = true) : Gs K mg where
  b_all := He.free_ok X G (c.fact 18)
  b_any := He.free_ok X G (c.fact 19)
  b_bool := He.free_ok X G (c.fact 20)
  b_enumerate := He.free_ok X G (c.fact 21)
  b_int := He.free_ok X G (c.fact 22)
  b_isinstance := He.free_ok X G (c.fact 23)
  b_len := He.free_ok X G (c.fact 24)
  b_list := He.free_ok X G (c.fact 25)
  b_range := He.free_ok X G (c.fact 26)
  b_str := He.free_ok X G (c.fact 27)
  b_tuple := He.free_ok X G (c.fact 28)
  b_zip := He.free_ok X G (c.fact 29)
  k_FIGURES := kc_str (He.str_ok X G (c.fact 30))
  k_PARTS := kc_of (He.glo_ok X G (c.fact 31)) (ex_at e 0)
  k_VALUES := kc_of (He.glo_ok X G (c.fact 32)) (ex_at e 1)
  gc_BadDeed := He.glo_ok X G (c.fact 34)
  gc_BadLine := He.glo_ok X G (c.fact 35)
  gc_BadRule := He.glo_ok X G (c.fact 36)
  gc_BadSeries := He.glo_ok X G (c.fact 37)
  gc_Calendar := He.glo_ok X G (c.fact 38)
  gc_Refused := He.glo_ok X G (c.fact 39)
  gc_Rule := He.glo_ok X G (c.fact 40)
  c_Calendar := He.cls_ok (c.fact 41)
  c_Rule := He.cls_ok (c.fact 42)
  n_Calendar_before := He.noat_ok (c.fact 43)
  n_Calendar_days := He.noat_ok (c.fact 44)
  n_Calendar_done := He.noat_ok (c.fact 45)
  n_Calendar_hours := He.noat_ok (c.fact 46)
  n_Calendar_persons := He.noat_ok (c.fact 47)
  n_Calendar_rooms := He.noat_ok (c.fact 48)
  n_Calendar_rows := He.noat_ok (c.fact 49)
  n_Calendar_rule := He.noat_ok (c.fact 50)
  n_Calendar_seen := He.noat_ok (c.fact 51)
  n_Rule_checking := He.noat_ok (c.fact 52)
  n_Rule_halves := He.noat_ok (c.fact 53)
  n_Rule_singles := He.noat_ok (c.fact 54)
  n_Rule_telling := He.noat_ok (c.fact 55)
  n_BadLine_line := He.noat_ok (c.fact 56)
  xf_BadLine := xfB_ok (ex_at e 3)
  xo_BadLine := oexB_ok (ex_at e 2)
  xi_BadLine := He.eqO_ok (ex_at e 4)
  xt_BadLine := of_decide_eq_true (ex_at e 5)
  n_BadRule_part := He.noat_ok (c.fact 57)
  xf_BadRule := xfB_ok (ex_at e 7)
  xo_BadRule := oexB_ok (ex_at e 6)
  xi_BadRule := He.eqO_ok (ex_at e 8)
  xt_BadRule := of_decide_eq_true (ex_at e 9)
  n_Refused_deed := He.noat_ok (c.fact 58)
  xf_Refused := xfB_ok (ex_at e 11)
  xo_Refused := oexB_ok (ex_at e 10)
  xi_Refused := He.eqO_ok (ex_at e 12)
  xt_Refused := of_decide_eq_true (ex_at e 13)
  x0_BadDeed := x0_of (c.fact 68)
  x0_BadSeries := x0_of (c.fact 69)
  xm_BadDeed_BadDeed := He.exm_ok (c.fact 59)
  xm_BadLine_BadLine := He.exm_ok (c.fact 60)
  xm_BadRule_BadRule := He.exm_ok (c.fact 61)
  xm_BadSeries_BadSeries := He.exm_ok (c.fact 62)
  xm_Refused_Refused := He.exm_ok (c.fact 63)
  xn_BadDeed_BadSeries := He.exm_ok (c.fact 64)
  xn_BadDeed_Refused := He.exm_ok (c.fact 65)
  xn_Refused_BadDeed := He.exm_ok (c.fact 66)
  xn_Refused_BadSeries := He.exm_ok (c.fact 67)
  m_Calendar___len__ := He.meth_ok (c.fact 70)
  m_Calendar_add := He.meth_ok (c.fact 71)
  m_Calendar_count := He.meth_ok (c.fact 72)
  m_Calendar_day_row := He.meth_ok (c.fact 73)
  m_Calendar_do := He.meth_ok (c.fact 74)
  m_Calendar_is_deed := He.meth_ok (c.fact 75)
  m_Calendar_is_person := He.meth_ok (c.fact 76)
  m_Calendar_is_room := He.meth_ok (c.fact 77)
  m_Calendar_mark := He.meth_ok (c.fact 78)
  m_Calendar_note := He.meth_ok (c.fact 79)
  m_Calendar_person_row := He.meth_ok (c.fact 80)
  m_Calendar_put := He.meth_ok (c.fact 81)
  m_Calendar_room_row := He.meth_ok (c.fact 82)
  m_Calendar_row_behind := He.meth_ok (c.fact 83)
  mk_Calendar := He.mkr_ok (c.fact 84)
  mk_Rule := He.mkr_ok (c.fact 85)
theorem facts {P : Program} {w : PySem.World} {K : PySem.W.Frag} {h : Heap} {mg : Str → Option Value} {f : Addr} (X : K.In h) (G : h.Ns mainGlobals mg) (hfa : mg ("law" : Str) = some (.ref f)) (c : He.SaysD fa fn K) (e : ex K = true) (tb0 : ∃ es n, KDict K w (He.ga K "SIZES") es n) :
    ∃ fd : FuncData, (∀ (s : Shared) (v : Value), BindsTo s fd ⟨[v], []⟩ [("_law_script", v)]) ∧ ∀ base : Heap, K.In base → base.Ns mainGlobals mg → FnOk P w K mg base (L2.CX P w) 10 f fd ["_law_script"] (spM w K 1 m_law) := by
  have g : Gs K mg := gs_of X G c e
  obtain ⟨fd0, F0⟩ := c.def_ 0 (d := D_law_begin) rfl
  obtain ⟨fd1, F1⟩ := c.def_ 1 (d := D_law_values) rfl
  obtain ⟨fd2, F2⟩ := c.def_ 2 (d := D_law_draw) rfl
  obtain ⟨fd3, F3⟩ := c.def_ 3 (d := D_law_parts) rfl
  obtain ⟨fd4, F4⟩ := c.def_ 4 (d := D_number_of) rfl
  obtain ⟨fd5, F5⟩ := c.def_ 5 (d := D_Calendar___init__) rfl
  obtain ⟨fd6, F6⟩ := c.def_ 6 (d := D_Rule___init__) rfl
  obtain ⟨fd7, F7⟩ := c.def_ 7 (d := D_rule_of) rfl
  obtain ⟨fd8, F8⟩ := c.def_ 8 (d := D_calendar_in) rfl
  obtain ⟨fd9, F9⟩ := c.def_ 9 (d := D_is_whole) rfl
  obtain ⟨fd10, F10⟩ := c.def_ 10 (d := D_fresh) rfl
  obtain ⟨fd11, F11⟩ := c.def_ 11 (d := D_Calendar_count) rfl
  obtain ⟨fd12, F12⟩ := c.def_ 12 (d := D_Calendar_mark) rfl
  obtain ⟨fd13, F13⟩ := c.def_ 13 (d := D_Calendar_add) rfl
  obtain ⟨fd14, F14⟩ := c.def_ 14 (d := D_Calendar___len__) rfl
  obtain ⟨fd15, F15⟩ := c.def_ 15 (d := D_Calendar_is_deed) rfl
  obtain ⟨fd16, F16⟩ := c.def_ 16 (d := D_room_day) rfl
  obtain ⟨fd17, F17⟩ := c.def_ 17 (d := D_Calendar_is_room) rfl
  obtain ⟨fd18, F18⟩ := c.def_ 18 (d := D_Calendar_room_row) rfl
  obtain ⟨fd19, F19⟩ := c.def_ 19 (d := D_Calendar_is_person) rfl
  obtain ⟨fd20, F20⟩ := c.def_ 20 (d := D_Calendar_person_row) rfl
  obtain ⟨fd21, F21⟩ := c.def_ 21 (d := D_Calendar_day_row) rfl
  obtain ⟨fd22, F22⟩ := c.def_ 22 (d := D_Calendar_row_behind) rfl
  obtain ⟨fd23, F23⟩ := c.def_ 23 (d := D_Calendar_put) rfl
  obtain ⟨fd24, F24⟩ := c.def_ 24 (d := D_Calendar_note) rfl
  obtain ⟨fd25, F25⟩ := c.def_ 25 (d := D_with_series) rfl
  obtain ⟨fd26, F26⟩ := c.def_ 26 (d := D_taken_back) rfl
  obtain ⟨fd27, F27⟩ := c.def_ 27 (d := D_Calendar_do) rfl
  obtain ⟨fd28, F28⟩ := c.def_ 28 (d := D_led_on) rfl
  obtain ⟨fd29, F29⟩ := c.def_ 29 (d := D_is_done) rfl
  obtain ⟨fd30, F30⟩ := c.def_ 30 (d := D_deed_in) rfl
  obtain ⟨fd31, F31⟩ := c.def_ 31 (d := D_read) rfl
  obtain ⟨fd32, F32⟩ := c.def_ 32 (d := D_law_told) rfl
  obtain ⟨fd33, F33⟩ := c.def_ 33 (d := D_law) rfl
  obtain ⟨fd34, F34⟩ := c.def_ 34 (d := D_XBadLine) rfl
  obtain ⟨fd35, F35⟩ := c.def_ 35 (d := D_XBadRule) rfl
  obtain ⟨fd36, F36⟩ := c.def_ 36 (d := D_XRefused) rfl
  have e0 := hfa.symm.trans (He.glo_ok X G (c.fact 17))
  cases e0
  have b := FunD.bindsA (ps := ["_law_script"]) F33 fun _ _ _ _ _ _ us hl => match us, hl with | [_], _ => rfl
  refine ⟨fd33, fun s v => b s [v] rfl, fun base _ _ => ?_⟩
  have t_SIZES : TabK w K mg "SIZES" tab_SIZES := tab_ok (ex_at e 14) (He.glo_ok X G (c.fact 33)) tb0
  have x_BadLine : XN P w K mg base 1 "BadLine" "line" := ⟨g.gc_BadLine, g.xo_BadLine, g.xi_BadLine, g.xt_BadLine, fd34, _, xn_init (st := s_XBadLine) F34 ⟨rfl, rfl, rfl, by decide +kernel, rfl, by decide +kernel, by decide +kernel⟩ g.xo_BadLine g.n_BadLine_line rfl (.inl rfl) (.inl rfl) (by decide) (by decide) (by decide) (by decide) (fun _ _ => rfl), F34.bindsN fun _ _ _ _ _ _ us hl => match us, hl with | [_, _], _ => rfl⟩
  have x_BadRule : XN P w K mg base 1 "BadRule" "part" := ⟨g.gc_BadRule, g.xo_BadRule, g.xi_BadRule, g.xt_BadRule, fd35, _, xn_init (st := s_XBadRule) F35 ⟨rfl, rfl, rfl, by decide +kernel, rfl, by decide +kernel, by decide +kernel⟩ g.xo_BadRule g.n_BadRule_part rfl (.inl rfl) (.inl rfl) (by decide) (by decide) (by decide) (by decide) (fun _ _ => rfl), F35.bindsN fun _ _ _ _ _ _ us hl => match us, hl with | [_, _], _ => rfl⟩
  have x_Refused : XN P w K mg base 1 "Refused" "deed" := ⟨g.gc_Refused, g.xo_Refused, g.xi_Refused, g.xt_Refused, fd36, _, xn_init (st := s_XRefused) F36 ⟨rfl, rfl, rfl, by decide +kernel, rfl, by decide +kernel, by decide +kernel⟩ g.xo_Refused g.n_Refused_deed rfl (.inl rfl) (.inl rfl) (by decide) (by decide) (by decide) (by decide) (fun _ _ => rfl), F36.bindsN fun _ _ _ _ _ _ us hl => match us, hl with | [_, _], _ => rfl⟩
  have h_law_begin := ok_law_begin (P := P) (w := w) (base := base) g    F0 (He.glo_ok X G (c.fact 0))
  have h_law_values := ok_law_values (P := P) (w := w) (base := base) g    F1 (He.glo_ok X G (c.fact 1))
  have h_law_draw := ok_law_draw (P := P) (w := w) (base := base) g    F2 (He.glo_ok X G (c.fact 2))
  have h_law_parts := ok_law_parts (P := P) (w := w) (base := base) g h_law_values h_law_draw   F3 (He.glo_ok X G (c.fact 3))
  have h_number_of := ok_number_of (P := P) (w := w) (base := base) g    F4 (He.glo_ok X G (c.fact 4))
  have h_Calendar___init__ := ok_Calendar___init__ (P := P) (w := w) (base := base) g    F5
  have h_Rule___init__ := ok_Rule___init__ (P := P) (w := w) (base := base) g   x_BadRule F6
  have h_rule_of := ok_rule_of (P := P) (w := w) (base := base) g h_Rule___init__   F7 (He.glo_ok X G (c.fact 5))
  have h_calendar_in := ok_calendar_in (P := P) (w := w) (base := base) g h_number_of h_Calendar___init__ h_rule_of  x_BadRule F8 (He.glo_ok X G (c.fact 6))
  have h_is_whole := ok_is_whole (P := P) (w := w) (base := base) g    F9 (He.glo_ok X G (c.fact 7))
  have h_fresh := ok_fresh (P := P) (w := w) (base := base) g    F10 (He.glo_ok X G (c.fact 8))
  have h_Calendar_count := ok_Calendar_count (P := P) (w := w) (base := base) g    F11
  have h_Calendar_mark := ok_Calendar_mark (P := P) (w := w) (base := base) g h_Calendar_count   F12
  have h_Calendar_add := ok_Calendar_add (P := P) (w := w) (base := base) g h_is_whole h_fresh h_Calendar_mark  x_Refused F13
  have h_Calendar___len__ := ok_Calendar___len__ (P := P) (w := w) (base := base) g    F14
  have h_Calendar_is_deed := ok_Calendar_is_deed (P := P) (w := w) (base := base) g h_is_whole t_SIZES  F15
  have h_room_day := ok_room_day (P := P) (w := w) (base := base) g    F16 (He.glo_ok X G (c.fact 9))
  have h_Calendar_is_room := ok_Calendar_is_room (P := P) (w := w) (base := base) g    F17
  have h_Calendar_room_row := ok_Calendar_room_row (P := P) (w := w) (base := base) g h_room_day h_Calendar_is_room   F18
  have h_Calendar_is_person := ok_Calendar_is_person (P := P) (w := w) (base := base) g    F19
  have h_Calendar_person_row := ok_Calendar_person_row (P := P) (w := w) (base := base) g h_Calendar_is_person   F20
  have h_Calendar_day_row := ok_Calendar_day_row (P := P) (w := w) (base := base) g h_Calendar_is_room h_Calendar_is_person   F21
  have h_Calendar_row_behind := ok_Calendar_row_behind (P := P) (w := w) (base := base) g h_Calendar_room_row h_Calendar_person_row h_Calendar_day_row   F22
  have h_Calendar_put := ok_Calendar_put (P := P) (w := w) (base := base) g h_Calendar_mark   F23
  have h_Calendar_note := ok_Calendar_note (P := P) (w := w) (base := base) g h_Calendar_put   F24
  have h_with_series := ok_with_series (P := P) (w := w) (base := base) g    F25 (He.glo_ok X G (c.fact 10))
  have h_taken_back := ok_taken_back (P := P) (w := w) (base := base) g h_with_series   F26 (He.glo_ok X G (c.fact 11))
  have h_Calendar_do := ok_Calendar_do (P := P) (w := w) (base := base) g h_Calendar_is_deed h_Calendar_row_behind h_Calendar_note h_taken_back  x_Refused F27
  have h_led_on := ok_led_on (P := P) (w := w) (base := base) g h_Calendar_add h_Calendar___len__ h_Calendar_do  x_Refused F28 (He.glo_ok X G (c.fact 12))
  have h_is_done := ok_is_done (P := P) (w := w) (base := base) g h_led_on  x_Refused F29 (He.glo_ok X G (c.fact 13))
  have h_deed_in := ok_deed_in (P := P) (w := w) (base := base) g h_number_of t_SIZES  F30 (He.glo_ok X G (c.fact 14))
  have h_read := ok_read (P := P) (w := w) (base := base) g h_calendar_in h_is_done h_deed_in  x_BadLine F31 (He.glo_ok X G (c.fact 15))
  have h_law_told := ok_law_told (P := P) (w := w) (base := base) g h_read  x_BadLine F32 (He.glo_ok X G (c.fact 16))
  exact ok_law g h_law_begin h_law_parts h_law_draw h_law_told   F33
theorem law_sp {w : PySem.World} {K : PySem.W.Frag} (H : Hp) (a : Addr) (ns : List Int) (hl : ns.length ≤ 63) (hO : Only H) (hS : SqL K H a (ns.map V.int)) : spM w K 1 m_law [.ref a] H (fun v _ => v = .bl true) (fun _ _ _ => False) := by
  refine ⟨rfl, ⟨w, K, H, [], []⟩, [], [.kls (ns.map MV.int)], rfl, rfl, rfl, ⟨rfl, List.nodup_nil, (fun a m => nomatch m), fun n o a e _ => by simp at e⟩, ?_, ?_⟩
  · refine .cons ?_ .nil
    rw [RepV]
    have t : RepVs ⟨w, K, H, [], []⟩ (ns.map MV.int) (ns.map V.int) := by
      induction ns with
      | nil => exact .nil
      | cons n ns ih =>
        refine .cons (repI n) ?_
        have z : ∀ ns : List Int, RepVs ⟨w, K, H, [], []⟩ (ns.map MV.int) (ns.map V.int) := fun ns => by
          induction ns with
          | nil => exact .nil
          | cons n ns ih => exact .cons (repI n) ih
        exact z ns
    refine ⟨a, ns.map V.int, rfl, ?_, t⟩
    rcases hS with (h | ⟨o, h⟩) | h
    · rcases hO a with z | ⟨o, xs, z⟩ <;> rw [z] at h <;> cases h
    · exact .inl ⟨o, h⟩
    · exact .inr (.inr h)
  · obtain ⟨S', e⟩ := law_true ns hl
    rw [e]
    exact fun C' g r v rv => vBl rv
end Lw
open PySem PySem.W PySem.Calls PyProof.Rows
theorem PySem.Challenge.cw_seriesbooked_k12_texts_refused_holds : PySem.Challenge.rw_seriesbooked_k12_texts_refused.Holds := by
  w_on; o_law
  refine HandSHeadRun.head_any (r := OpenLaw.row PySem.Challenge.rw_seriesbooked_k12_texts_refused) (q := view (OpenLaw.row PySem.Challenge.rw_seriesbooked_k12_texts_refused).prog [41]) (H := Lw.hk) (ob := Lw.ob) (M := 6000) (loose := Lw.nms) (d := HandSHeadRun.topDef (OpenLaw.row PySem.Challenge.rw_seriesbooked_k12_texts_refused).prog 41) (kwd := []) Lw.ob_eq
    (by kernel_rfl) (fun s => by kernel_rfl) Lw.run0 (by kernel_rfl) (by kernel_rfl) (by kernel_rfl) (by rfl) (by first | assumption | decide +kernel) (by decide +kernel) ⟨rfl, rfl, rfl, rfl, rfl, by decide +kernel⟩ ?hw ?hc
  case hw => w_witness2
  case hc =>
    refine L2.walk_ofE (l := PySem.Challenge.rw_seriesbooked_k12_texts_refused) (n := 63) (k := 10) (x := "_law_script") (CX := L2.CX0) rfl (by decide) (by kernel_rfl) ⟨rfl, by decide, by decide⟩ ?F (fun _ _ _ _ z => z)
    intro w mg fa h Y G hmg0
    obtain ⟨K, KX, c⟩ := Y
    have glaw : mg ("law" : PySem.Str) = some (.ref fa) := by
      have e : (HandSHeadRun.topDef (OpenLaw.row PySem.Challenge.rw_seriesbooked_k12_texts_refused).prog 41).name = ("law" : PySem.Str) := by kernel_rfl
      rw [← e]
      exact hmg0
    obtain ⟨fd, hb, hF⟩ := Lw.facts (P := (PySem.Challenge.rw_seriesbooked_k12_texts_refused).prog) (w := w) KX G glaw c.t.d c.more (c.t.tab 0)
    exact ⟨K, fd, (fun vs H Q _ => Mi.spM w K 1 Lw.m_law vs H Q (fun _ _ _ => False)), KX, hb, fun H a ns hl hO hS => Lw.law_sp H a ns hl hO hS, fun base k1 k2 => Lw.fn_nox (hF base k1 k2)⟩
