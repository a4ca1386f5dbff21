import PyProof.Rows.All
import Wide.All
import OpenK.AllK
import Wide.FinOn
import HandS.ForMost
import KE.KDictKeyed
import KE.KDictWalk
import PyProof.NeKinds
import HandS.TupAny
import HandS.Strs
import HandS.IsInst
import HandS.Style
import HandS.Zip
import KE.KDictDisplayH
import KE.GoesEnum
import HandS.More
import HandS.Defaults
import HandS.WordsExc
import KE.KStateDown
import HandS.Head0
import HandS.Head1
import HandS.Head2
import HandS.HeadEnd
import HandS.HeadHook1
import HandS.HeadHook2
import HandS.HeadHook3
import PySem.Challenge.RW_nameswait_k11_whole_least_waits_marks_an
/-! #### RA -/
section
set_option Elab.async false
set_option linter.all false
set_option maxRecDepth 100000
set_option maxHeartbeats 4000000
/-! A reflective layer over HandS, part A: data, the store, how they lie in the abstract heap. -/
namespace RI
open PySem PySem.Spec PyProof.Rows L2

/-- data as the programs hand it round: None, bools, ints, texts (by code points), tuples, a read-only list, an object of the store -/
inductive D where
  | non | bl (b : Bool) | int (i : Int) | str (x : List Nat) | tup (xs : List D) | rol (xs : List D) | ref (i : Nat)
  deriving Inhabited

namespace D
mutual
def beq : D → D → Bool
  | .non, .non => true
  | .bl a, .bl b => a == b
  | .int a, .int b => decide (a = b)
  | .str a, .str b => decide (a = b)
  | .tup a, .tup b => beqs a b
  | .rol a, .rol b => beqs a b
  | .ref a, .ref b => a == b
  | _, _ => false
def beqs : List D → List D → Bool
  | [], [] => true
  | a :: as, b :: bs => beq a b && beqs as bs
  | _, _ => false
end
mutual
theorem beq_self : ∀ a : D, beq a a = true
  | .non => rfl
  | .bl a => by simp [beq]
  | .int a => by simp [beq]
  | .str a => by simp [beq]
  | .tup a => by rw [beq]; exact beqs_self a
  | .rol a => by rw [beq]; exact beqs_self a
  | .ref a => by simp [beq]
theorem beqs_self : ∀ a : List D, beqs a a = true
  | [] => rfl
  | a :: as => by rw [beqs, beq_self a, beqs_self as]; rfl
end
mutual
theorem eq_of_beq : ∀ a b : D, beq a b = true → a = b
  | .non, b, h => by cases b <;> first | rfl | (simp [beq] at h)
  | .bl a, b, h => by cases b <;> first | (simp [beq] at h; rw [h]) | (simp [beq] at h)
  | .int a, b, h => by cases b <;> first | (simp [beq] at h; rw [h]) | (simp [beq] at h)
  | .str a, b, h => by cases b <;> first | (simp [beq] at h; rw [h]) | (simp [beq] at h)
  | .tup a, b, h => by cases b with
    | tup c => rw [beq] at h; rw [eq_of_beqs a c h]
    | _ => simp [beq] at h
  | .rol a, b, h => by cases b with
    | rol c => rw [beq] at h; rw [eq_of_beqs a c h]
    | _ => simp [beq] at h
  | .ref a, b, h => by cases b <;> first | (simp [beq] at h; rw [h]) | (simp [beq] at h)
theorem eq_of_beqs : ∀ a b : List D, beqs a b = true → a = b
  | [], b, h => by cases b <;> first | rfl | (simp [beqs] at h)
  | a :: as, b, h => by cases b with
    | nil => simp [beqs] at h
    | cons b bs =>
      rw [beqs, Bool.and_eq_true] at h
      rw [eq_of_beq a b h.1, eq_of_beqs as bs h.2]
end
instance : DecidableEq D := fun a b => if h : beq a b = true then .isTrue (eq_of_beq a b h) else .isFalse fun e => h (e ▸ beq_self a)
end D

/-- what stands in the store: a list; a dict with text keys; a dict with tuple keys (locked while it is walked) -/
inductive MO where
  | lst (xs : List D)
  | dcs (lk : Bool) (kvs : List (List Nat × D))
  | dct (lk : Bool) (kvs : List (D × D))
  deriving Inhabited, DecidableEq
abbrev Sto := List MO
abbrev S (l : List Nat) : Str := ⟨l.toArray⟩
theorem S_inj {a b : List Nat} (h : S a = S b) : a = b := by
  have := congrArg (fun z : Str => z.cps.toList) h
  simpa using this

/-- a dict's key: no bool, no object -/
def keyOf : D → Option NestedKey
  | .non => some .none
  | .int i => some (.num i)
  | .str x => some (.text (S x))
  | .tup xs => (keysOf xs).map .tup
  | _ => none
where keysOf : List D → Option (List NestedKey)
  | [] => some []
  | x :: xs => match keyOf x, keysOf xs with
    | some k, some ks => some (k :: ks)
    | _, _ => none
mutual
theorem keyOf_inj : ∀ {a b : D} {k : NestedKey}, keyOf a = some k → keyOf b = some k → a = b
  | .non, b, k, h1, h2 => by
    simp only [keyOf, Option.some.injEq] at h1; subst h1
    cases b <;> simp [keyOf] at h2; rfl
  | .int i, b, k, h1, h2 => by
    simp only [keyOf, Option.some.injEq] at h1; subst h1
    cases b <;> simp [keyOf] at h2; rw [h2]
  | .str x, b, k, h1, h2 => by
    simp only [keyOf, Option.some.injEq] at h1; subst h1
    cases b <;> simp [keyOf] at h2; rw [h2]
  | .tup xs, b, k, h1, h2 => by
    rw [keyOf, Option.map_eq_some_iff] at h1
    obtain ⟨ks, e1, rfl⟩ := h1
    cases b with
    | tup ys =>
      rw [keyOf, Option.map_eq_some_iff] at h2
      obtain ⟨ks', e2, e⟩ := h2
      cases e
      rw [keysOf_inj e1 e2]
    | _ => simp [keyOf] at h2
  | .bl _, b, k, h1, h2 => by simp [keyOf] at h1
  | .rol _, b, k, h1, h2 => by simp [keyOf] at h1
  | .ref _, b, k, h1, h2 => by simp [keyOf] at h1
theorem keysOf_inj : ∀ {a b : List D} {k : List NestedKey}, keyOf.keysOf a = some k → keyOf.keysOf b = some k → a = b
  | [], b, k, h1, h2 => by
    simp only [keyOf.keysOf, Option.some.injEq] at h1; subst h1
    cases b with
    | nil => rfl
    | cons y ys => rw [keyOf.keysOf] at h2; split at h2 <;> simp at h2
  | x :: xs, b, k, h1, h2 => by
    rw [keyOf.keysOf] at h1
    split at h1
    · rename_i k1 ks1 e1 e2
      simp only [Option.some.injEq] at h1; subst h1
      cases b with
      | nil => simp [keyOf.keysOf] at h2
      | cons y ys =>
        rw [keyOf.keysOf] at h2
        split at h2
        · rename_i k2 ks2 f1 f2
          simp only [Option.some.injEq, List.cons.injEq] at h2
          obtain ⟨rfl, rfl⟩ := h2
          rw [keyOf_inj e1 f1, keysOf_inj e2 f2]
        · simp at h2
    · simp at h1
end

section
variable (K : PySem.W.Frag)
/-- a read-only list at a -/
def RoL (H : Hp) (a : Addr) (xs : List V) : Prop := (∃ o, H a = some (.frz o (.lst xs))) ∨
  ∃ (o : Obj) (its : Array Value) (n : Nat), K.lookup a = some o ∧ o.cls = .type "list" ∧ o.dict = none ∧ o.data = .seq its n ∧ its.size ≤ sizeLine ∧ Vals xs its.toList
variable (ad : List Addr) (H : Hp)
mutual
def RV : D → V → Prop
  | .non, v => v = .non
  | .bl b, v => v = .bl b
  | .int i, v => v = .int i
  | .str x, v => v = .str (S x)
  | .tup ds, v => ∃ a xs, v = .ref a ∧ SqT K H a xs ∧ RVs ds xs
  | .rol ds, v => ∃ a xs, v = .ref a ∧ RoL K H a xs ∧ RVs ds xs
  | .ref i, v => ∃ a, v = .ref a ∧ ad[i]? = some a
def RVs : List D → List V → Prop
  | [], vs => vs = []
  | d :: ds, vs => ∃ v r, vs = v :: r ∧ RV d v ∧ RVs ds r
end
end

def isSeq : HO → Bool
  | .lst _ => true
  | .tup _ => true
  | _ => false
/-- what the rules keep: tuples, locked lists -/
structure Ext (H H' : Hp) : Prop where
  tups : ∀ b xs, H b = some (.tup xs) → H' b = some (.tup xs)
  frzs : ∀ b o u, isSeq u = true → H b = some (.frz o u) → H' b = some (.frz o u)
theorem Ext.refl (H : Hp) : Ext H H := ⟨fun _ _ e => e, fun _ _ _ _ e => e⟩
theorem Ext.trans {H H1 H2 : Hp} (a : Ext H H1) (b : Ext H1 H2) : Ext H H2 := ⟨fun c xs e => b.tups c xs (a.tups c xs e), fun c o u z e => b.frzs c o u z (a.frzs c o u z e)⟩
theorem Ext.sqT {K : PySem.W.Frag} {H H' : Hp} (x : Ext H H') {a : Addr} {xs : List V} (h : SqT K H a xs) : SqT K H' a xs := by
  rcases h with (h | ⟨o, h⟩) | h
  · exact .inl (.inl (x.tups _ _ h))
  · exact .inl (.inr ⟨o, x.frzs _ _ _ rfl h⟩)
  · exact .inr h
theorem Ext.roL {K : PySem.W.Frag} {H H' : Hp} (x : Ext H H') {a : Addr} {xs : List V} (h : RoL K H a xs) : RoL K H' a xs := by
  rcases h with ⟨o, h⟩ | h
  · exact .inl ⟨o, x.frzs _ _ _ rfl h⟩
  · exact .inr h
theorem RoL.sq {K : PySem.W.Frag} {H : Hp} {a : Addr} {xs : List V} (h : RoL K H a xs) : SqL K H a xs := by
  rcases h with ⟨o, h⟩ | h
  · exact .inl (.inr ⟨o, h⟩)
  · exact .inr h
abbrev Pre (ad ad' : List Addr) : Prop := ∀ (i : Nat) (a : Addr), ad[i]? = some a → ad'[i]? = some a
mutual
theorem RV.mono {K : PySem.W.Frag} {ad ad' : List Addr} {H H' : Hp} (p : Pre ad ad') (x : Ext H H') : ∀ {d : D} {v : V}, RV K ad H d v → RV K ad' H' d v
  | .non, _, h => h
  | .bl _, _, h => h
  | .int _, _, h => h
  | .str _, _, h => h
  | .tup ds, _, h => by
    rw [RV] at h ⊢
    obtain ⟨a, xs, e, t, r⟩ := h
    exact ⟨a, xs, e, x.sqT t, RVs.mono p x r⟩
  | .rol ds, _, h => by
    rw [RV] at h ⊢
    obtain ⟨a, xs, e, t, r⟩ := h
    exact ⟨a, xs, e, x.roL t, RVs.mono p x r⟩
  | .ref i, _, h => by
    rw [RV] at h ⊢
    obtain ⟨a, e, t⟩ := h
    exact ⟨a, e, p _ _ t⟩
theorem RVs.mono {K : PySem.W.Frag} {ad ad' : List Addr} {H H' : Hp} (p : Pre ad ad') (x : Ext H H') : ∀ {d : List D} {v : List V}, RVs K ad H d v → RVs K ad' H' d v
  | [], _, h => h
  | d :: ds, _, h => by
    rw [RVs] at h ⊢
    obtain ⟨v, r, e, h1, h2⟩ := h
    exact ⟨v, r, e, RV.mono p x h1, RVs.mono p x h2⟩
end

section lists
variable {K : PySem.W.Frag} {ad : List Addr} {H : Hp}
theorem RVs.nil : RVs K ad H [] [] := by rw [RVs]
theorem RVs.cons {d : D} {v : V} {ds : List D} {vs : List V} (h : RV K ad H d v) (t : RVs K ad H ds vs) : RVs K ad H (d :: ds) (v :: vs) := by
  rw [RVs]; exact ⟨v, vs, rfl, h, t⟩
theorem RVs.nil_inv {vs : List V} (h : RVs K ad H [] vs) : vs = [] := by rw [RVs] at h; exact h
theorem RVs.cons_inv {d : D} {ds : List D} {vs : List V} (h : RVs K ad H (d :: ds) vs) : ∃ v r, vs = v :: r ∧ RV K ad H d v ∧ RVs K ad H ds r := by rw [RVs] at h; exact h
theorem RVs.length : ∀ {ds : List D} {vs : List V}, RVs K ad H ds vs → ds.length = vs.length
  | [], _, h => by rw [h.nil_inv] <;> rfl
  | d :: ds, _, h => by obtain ⟨v, r, rfl, _, t⟩ := h.cons_inv; simp [RVs.length t]
theorem RVs.append : ∀ {ds es : List D} {vs us : List V}, RVs K ad H ds vs → RVs K ad H es us → RVs K ad H (ds ++ es) (vs ++ us)
  | [], _, _, _, h, t => by rw [h.nil_inv]; exact t
  | d :: ds, _, _, _, h, t => by obtain ⟨v, r, rfl, h1, h2⟩ := h.cons_inv; exact .cons h1 (RVs.append h2 t)
theorem RVs.get : ∀ {ds : List D} {vs : List V} {i : Nat} {d : D}, RVs K ad H ds vs → ds[i]? = some d → ∃ v, vs[i]? = some v ∧ RV K ad H d v
  | [], _, _, _, _, e => by simp at e
  | x :: ds, _, 0, d, h, e => by obtain ⟨v, r, rfl, h1, _⟩ := h.cons_inv; simp at e; subst e; exact ⟨v, rfl, h1⟩
  | x :: ds, _, i + 1, d, h, e => by
    obtain ⟨v, r, rfl, _, h2⟩ := h.cons_inv
    obtain ⟨u, e1, e2⟩ := RVs.get (i := i) h2 (by simpa using e)
    exact ⟨u, by simpa using e1, e2⟩
theorem RVs.get' : ∀ {ds : List D} {vs : List V} {i : Nat} {v : V}, RVs K ad H ds vs → vs[i]? = some v → ∃ d, ds[i]? = some d ∧ RV K ad H d v
  | [], _, _, _, h, e => by rw [h.nil_inv] at e; simp at e
  | x :: ds, _, 0, d, h, e => by obtain ⟨v, r, rfl, h1, _⟩ := h.cons_inv; simp at e; subst e; exact ⟨x, rfl, h1⟩
  | x :: ds, _, i + 1, d, h, e => by
    obtain ⟨v, r, rfl, _, h2⟩ := h.cons_inv
    obtain ⟨u, e1, e2⟩ := RVs.get' (i := i) h2 (by simpa using e)
    exact ⟨u, by simpa using e1, e2⟩
theorem RVs.set : ∀ {ds : List D} {vs : List V} (i : Nat) {d : D} {v : V}, RVs K ad H ds vs → RV K ad H d v → RVs K ad H (ds.set i d) (vs.set i v)
  | [], _, _, _, _, h, _ => by rw [h.nil_inv]; exact .nil
  | x :: ds, _, 0, d, v, h, q => by obtain ⟨_, r, rfl, _, h2⟩ := h.cons_inv; exact .cons q h2
  | x :: ds, _, i + 1, d, v, h, q => by obtain ⟨_, r, rfl, h1, h2⟩ := h.cons_inv; exact .cons h1 (RVs.set i h2 q)
theorem RVs.take : ∀ {ds : List D} {vs : List V} (n : Nat), RVs K ad H ds vs → RVs K ad H (ds.take n) (vs.take n)
  | _, _, 0, h => by simp only [List.take_zero]; exact .nil
  | [], _, n + 1, h => by rw [h.nil_inv]; exact .nil
  | d :: ds, _, n + 1, h => by obtain ⟨_, r, rfl, h1, h2⟩ := h.cons_inv; exact .cons h1 (RVs.take n h2)
theorem RVs.drop : ∀ {ds : List D} {vs : List V} (n : Nat), RVs K ad H ds vs → RVs K ad H (ds.drop n) (vs.drop n)
  | _, _, 0, h => by simpa using h
  | [], _, n + 1, h => by rw [h.nil_inv]; exact .nil
  | d :: ds, _, n + 1, h => by obtain ⟨_, r, rfl, h1, h2⟩ := h.cons_inv; exact RVs.drop n h2
theorem RVs.reverse {ds : List D} {vs : List V} (h : RVs K ad H ds vs) : RVs K ad H ds.reverse vs.reverse := by
  induction ds generalizing vs with
  | nil => rw [h.nil_inv]; exact .nil
  | cons d ds ih =>
    obtain ⟨_, r, rfl, h1, h2⟩ := h.cons_inv
    rw [List.reverse_cons, List.reverse_cons]
    exact (ih h2).append (.cons h1 .nil)
theorem RVs.of_get : ∀ {ds : List D} {vs : List V}, ds.length = vs.length → (∀ (i : Nat) (d : D) (v : V), ds[i]? = some d → vs[i]? = some v → RV K ad H d v) → RVs K ad H ds vs
  | [], [], _, _ => .nil
  | [], _ :: _, e, _ => by simp at e
  | _ :: _, [], e, _ => by simp at e
  | d :: ds, v :: vs, e, h => .cons (h 0 d v rfl rfl) (RVs.of_get (by simpa using e) fun i d' v' e1 e2 => h (i + 1) d' v' (by simpa using e1) (by simpa using e2))
end lists

/-! ### the store -/
section
variable (P : Program) (w : World) (K : PySem.W.Frag) (ad : List Addr) (H : Hp)
/-- the entries of a dict with tuple keys -/
inductive REs : List (D × D) → List (NestedKey × Addr × Value) → Prop where
  | nil : REs [] []
  | cons {kd vd : D} {nk : NestedKey} {ka : Addr} {u : Value} {v : V} {kvs : List (D × D)} {xs : List (NestedKey × Addr × Value)} (k : keyOf kd = some nk) (dp : nk.depth ≤ 8) (rk : RV K ad H kd (.ref ka)) (ru : RelV v u) (rv : RV K ad H vd v)
      (t : REs kvs xs) : REs ((kd, vd) :: kvs) ((nk, ka, u) :: xs)
/-- the entries of a dict with text keys -/
inductive RSs : List (List Nat × D) → List (Key × V) → Prop where
  | nil : RSs [] []
  | cons {x : List Nat} {vd : D} {v : V} {kvs : List (List Nat × D)} {xs : List (Key × V)} (rv : RV K ad H vd v) (t : RSs kvs xs) : RSs ((x, vd) :: kvs) ((Sum.inr (S x), v) :: xs)
def dFi (a : Addr) (xs : List (NestedKey × Addr × Value)) : Heap → Prop := fun h => ∃ o ep, h.get? a = some o ∧ o.ExactDict ∧ o.data = .dict (xs.map (entryOfKey (nestedKind P w))).toArray ep
def lkd (lk : Bool) (a : Addr) (u : HO) : Prop := if lk = true then ∃ o, H a = some (.frz o u) else H a = some u
def RO : MO → Addr → Prop
  | .lst ds, a => ∃ xs, H a = some (.lst xs) ∧ RVs K ad H ds xs
  | .dcs lk kvs, a => ∃ ks, lkd H lk a (.dK ks) ∧ RSs K ad H kvs ks
  | .dct lk kvs, a => ∃ xs, lkd H lk a (.ext (dFi P w a xs)) ∧ REs K ad H kvs xs ∧ (xs.map (·.1)).Nodup ∧ xs.length ≤ sizeLine ∧ (a == sysModules) = false
structure RS (M : Sto) : Prop where
  len : ad.length = M.length
  nd : ad.Nodup
  at_ : ∀ (i : Nat) (o : MO) (a : Addr), M[i]? = some o → ad[i]? = some a → RO P w K ad H o a
end
section
variable {P : Program} {w : World} {K : PySem.W.Frag} {ad ad' : List Addr} {H H' : Hp}
theorem REs.mono (p : Pre ad ad') (x : Ext H H') {kvs xs} (h : REs K ad H kvs xs) : REs K ad' H' kvs xs := by
  induction h with
  | nil => exact .nil
  | cons k dp rk ru rv _ ih => exact .cons k dp (rk.mono p x) ru (rv.mono p x) ih
theorem RSs.mono (p : Pre ad ad') (x : Ext H H') {kvs xs} (h : RSs K ad H kvs xs) : RSs K ad' H' kvs xs := by
  induction h with
  | nil => exact .nil
  | cons rv _ ih => exact .cons (rv.mono p x) ih
theorem lkd.mono {lk : Bool} {a : Addr} {u : HO} (e : H' a = H a) (h : lkd H lk a u) : lkd H' lk a u := by
  unfold lkd at h ⊢
  rw [e]; exact h
theorem RO.mono (p : Pre ad ad') (x : Ext H H') {o : MO} {a : Addr} (e : H' a = H a) (h : RO P w K ad H o a) : RO P w K ad' H' o a := by
  cases o with
  | lst ds => obtain ⟨xs, h1, h2⟩ := h; exact ⟨xs, e.trans h1, h2.mono p x⟩
  | dcs lk kvs => obtain ⟨xs, h1, h2⟩ := h; exact ⟨xs, h1.mono e, h2.mono p x⟩
  | dct lk kvs => obtain ⟨xs, h1, h2, h3⟩ := h; exact ⟨xs, h1.mono e, h2.mono p x, h3⟩
theorem lkd.live {lk : Bool} {a : Addr} {u : HO} (h : lkd H lk a u) : H a ≠ none := by
  unfold lkd at h
  split at h
  · obtain ⟨o, h⟩ := h; rw [h]; simp
  · rw [h]; simp
theorem RO.live {o : MO} {a : Addr} (h : RO P w K ad H o a) : H a ≠ none := by
  cases o with
  | lst ds => obtain ⟨xs, h1, h2⟩ := h; rw [h1]; simp
  | dcs lk kvs => obtain ⟨xs, h1, h2⟩ := h; exact h1.live
  | dct lk kvs => obtain ⟨xs, h1, h2, h3⟩ := h; exact h1.live
theorem RO.notup {o : MO} {a : Addr} (h : RO P w K ad H o a) (xs : List V) : H a ≠ some (.tup xs) := by
  cases o with
  | lst ds => obtain ⟨xs, h1, h2⟩ := h; rw [h1]; simp
  | dcs lk kvs =>
    obtain ⟨xs, h1, h2⟩ := h; unfold lkd at h1; split at h1
    · obtain ⟨o, h1⟩ := h1; rw [h1]; simp
    · rw [h1]; simp
  | dct lk kvs =>
    obtain ⟨xs, h1, h2, h3⟩ := h; unfold lkd at h1; split at h1
    · obtain ⟨o, h1⟩ := h1; rw [h1]; simp
    · rw [h1]; simp
theorem RS.get {M : Sto} (r : RS P w K ad H M) {i : Nat} {o : MO} (h : M[i]? = some o) : ∃ a, ad[i]? = some a ∧ RO P w K ad H o a := by
  have hi : i < ad.length := by rw [r.len]; exact (List.getElem?_eq_some_iff.mp h).1
  exact ⟨ad[i], List.getElem?_eq_getElem hi, r.at_ i o _ h (List.getElem?_eq_getElem hi)⟩
theorem RS.live {M : Sto} (r : RS P w K ad H M) {a : Addr} (h : a ∈ ad) : H a ≠ none := by
  obtain ⟨i, hi, e⟩ := List.mem_iff_getElem.mp h
  have hM : i < M.length := by rw [← r.len]; exact hi
  exact (r.at_ i M[i] a (List.getElem?_eq_getElem hM) (by rw [List.getElem?_eq_getElem hi, e])).live
theorem RS.notup {M : Sto} (r : RS P w K ad H M) {a : Addr} (h : a ∈ ad) (xs : List V) : H a ≠ some (.tup xs) := by
  obtain ⟨i, hi, e⟩ := List.mem_iff_getElem.mp h
  have hM : i < M.length := by rw [← r.len]; exact hi
  exact (r.at_ i M[i] a (List.getElem?_eq_getElem hM) (by rw [List.getElem?_eq_getElem hi, e])).notup xs

/-- from a state to a later one: what was there stays, but the store's own objects; these are the old ones and new ones -/
structure Nxt (ad : List Addr) (H : Hp) (ad' : List Addr) (H' : Hp) : Prop where
  ext : Ext H H'
  pre : Pre ad ad'
  fr : ∀ a, H a ≠ none → a ∉ ad → H' a = H a
  live : ∀ a, H a ≠ none → H' a ≠ none
  new : ∀ a, a ∈ ad' → a ∉ ad → H a = none
  lk : ∀ b o u, H b = some (.frz o u) → H' b = some (.frz o u)
theorem Nxt.refl (ad : List Addr) (H : Hp) : Nxt ad H ad H := ⟨.refl H, fun _ _ e => e, fun _ _ _ => rfl, fun _ e => e, fun a h1 h2 => absurd h1 h2, fun _ _ _ e => e⟩
theorem Nxt.trans {ad0 ad1 ad2 : List Addr} {H0 H1 H2 : Hp} (a : Nxt ad0 H0 ad1 H1) (b : Nxt ad1 H1 ad2 H2) : Nxt ad0 H0 ad2 H2 := by
  refine ⟨a.ext.trans b.ext, fun i c e => b.pre i c (a.pre i c e), fun c h1 h2 => ?_, fun c h => b.live c (a.live c h), fun c h1 h2 => ?_, fun c o u e => b.lk c o u (a.lk c o u e)⟩
  · have n1 : c ∉ ad1 := fun q => h1 (a.new c q h2)
    rw [b.fr c (a.live c h1) n1, a.fr c h1 h2]
  · by_cases q : c ∈ ad1
    · exact a.new c q h2
    · have := b.new c h1 q
      by_cases z : H0 c = none
      · exact z
      · exact absurd this (a.live c z)
theorem RV.nxt {ad ad' : List Addr} {H H' : Hp} (n : Nxt ad H ad' H') {d : D} {v : V} (h : RV K ad H d v) : RV K ad' H' d v := h.mono n.pre n.ext
theorem RVs.nxt {ad ad' : List Addr} {H H' : Hp} (n : Nxt ad H ad' H') {d : List D} {v : List V} (h : RVs K ad H d v) : RVs K ad' H' d v := h.mono n.pre n.ext
/-- a new object that is not the store's (a tuple) -/
theorem Ext.new {p : Addr} {u : HO} (hp : H p = none) : Ext H (upd H p u) :=
  ⟨fun b xs e => by rw [upd_ne (ne_of_none e hp)]; exact e, fun b o xs _ e => by rw [upd_ne (ne_of_none e hp)]; exact e⟩
theorem Nxt.tup {p : Addr} {u : HO} (hp : H p = none) : Nxt ad H ad (upd H p u) := by
  refine ⟨.new hp, fun _ _ e => e, fun a h _ => upd_ne fun z => h (z ▸ hp), fun a h => ?_, fun a h1 h2 => absurd h1 h2, fun b o u e => by rw [upd_ne (ne_of_none e hp)]; exact e⟩
  rw [upd_ne (show a ≠ p from fun z => h (z ▸ hp))]; exact h
theorem RS.tup {M : Sto} (r : RS P w K ad H M) {p : Addr} {u : HO} (hp : H p = none) : RS P w K ad (upd H p u) M :=
  ⟨r.len, r.nd, fun i o a h1 h2 => (r.at_ i o a h1 h2).mono (fun _ _ e => e) (.new hp) (upd_ne fun z => (r.at_ i o a h1 h2).live (z ▸ hp))⟩
/-- a new object of the store -/
theorem Nxt.alloc {p : Addr} {u : HO} (hp : H p = none) : Nxt ad H (ad ++ [p]) (upd H p u) := by
  refine ⟨.new hp, fun i a e => ?_, fun a h _ => upd_ne fun z => h (z ▸ hp), fun a h => ?_, fun a h1 h2 => ?_, fun b o u e => by rw [upd_ne (ne_of_none e hp)]; exact e⟩
  · rw [List.getElem?_append_left (List.getElem?_eq_some_iff.mp e).1]; exact e
  · rw [upd_ne (show a ≠ p from fun z => h (z ▸ hp))]; exact h
  · rcases List.mem_append.mp h1 with z | z
    · exact absurd z h2
    · rw [List.mem_singleton.mp z]; exact hp
theorem RS.alloc {M : Sto} (r : RS P w K ad H M) {p : Addr} {u : HO} {o : MO} (hp : H p = none) (ho : RO P w K (ad ++ [p]) (upd H p u) o p) : RS P w K (ad ++ [p]) (upd H p u) (M ++ [o]) := by
  have np : p ∉ ad := fun z => r.live z hp
  refine ⟨by simp [r.len], ?_, fun i o' a h1 h2 => ?_⟩
  · rw [List.nodup_append]
    exact ⟨r.nd, by simp, fun a ha b hb => by rw [List.mem_singleton.mp hb]; exact fun z => np (z ▸ ha)⟩
  · by_cases hi : i < M.length
    · rw [List.getElem?_append_left hi] at h1
      rw [List.getElem?_append_left (by rw [r.len]; exact hi)] at h2
      have q := r.at_ i o' a h1 h2
      exact q.mono (Nxt.alloc (u := u) hp).pre (.new hp) (upd_ne fun z => q.live (z ▸ hp))
    · have hl := (List.getElem?_eq_some_iff.mp h1).1
      have hi2 : i = M.length := by simp at hl; omega
      subst hi2
      simp only [List.getElem?_concat_length, Option.some.injEq] at h1
      rw [← r.len, List.getElem?_concat_length] at h2
      cases h2; subst h1
      exact ho
theorem at_new {p : Addr} {n : Nat} (h : ad.length = n) : (ad ++ [p])[n]? = some p := by rw [← h, List.getElem?_concat_length]
/-- the store's object at i changes -/
theorem Ext.write {a : Addr} {u u' : HO} (h : H a = some u) (nt : ∀ xs, u ≠ .tup xs) (nf : ∀ o x, u ≠ .frz o x) : Ext H (upd H a u') :=
  ⟨fun b xs e => by rw [upd_ne (ne_of e h (nt xs).symm)]; exact e, fun b o xs _ e => by rw [upd_ne (ne_of e h (nf o xs).symm)]; exact e⟩
theorem Ext.unlock {a : Addr} {o : Obj} {u u' : HO} (h : H a = some (.frz o u)) (ns : isSeq u = false) : Ext H (upd H a u') :=
  ⟨fun b xs e => by rw [upd_ne (ne_of e h fun z => by cases z)]; exact e, fun b o' x z e => by rw [upd_ne (ne_of e h fun y => by cases y; rw [ns] at z; cases z)]; exact e⟩
theorem Nxt.write {a : Addr} {u u' : HO} (ha : a ∈ ad) (h : H a = some u) (nt : ∀ xs, u ≠ .tup xs) (nf : ∀ o x, u ≠ .frz o x) : Nxt ad H ad (upd H a u') := by
  refine ⟨.write h nt nf, fun _ _ e => e, fun b h1 h2 => upd_ne fun z => h2 (z ▸ ha), fun b hb => ?_, fun a h1 h2 => absurd h1 h2, fun b o x e => by rw [upd_ne (ne_of e h (nf o x).symm)]; exact e⟩
  by_cases z : b = a
  · rw [z, upd_same]; simp
  · rw [upd_ne z]; exact hb
theorem RS.write {M : Sto} (r : RS P w K ad H M) {i : Nat} {a : Addr} {u' : HO} {o' : MO} (hi : ad[i]? = some a) (x : Ext H (upd H a u')) (ho : RO P w K ad (upd H a u') o' a) : RS P w K ad (upd H a u') (M.set i o') := by
  refine ⟨by simp [r.len], r.nd, fun j o b h1 h2 => ?_⟩
  by_cases hj : i = j
  · subst hj
    rw [hi] at h2; cases h2
    have hl : i < M.length := by rw [← r.len]; exact (List.getElem?_eq_some_iff.mp hi).1
    rw [List.getElem?_set_self hl] at h1
    cases h1; exact ho
  · rw [List.getElem?_set_ne hj] at h1
    have hb : b ≠ a := fun z => by
      subst z
      obtain ⟨l1, e1⟩ := List.getElem?_eq_some_iff.mp hi
      obtain ⟨l2, e2⟩ := List.getElem?_eq_some_iff.mp h2
      exact hj ((List.getElem_inj r.nd).mp (e1.trans e2.symm))
    exact (r.at_ j o b h1 h2).mono (fun _ _ e => e) x (upd_ne hb)
end
end RI
end
/-! #### RB -/
section
set_option Elab.async false
set_option linter.all false
set_option maxRecDepth 100000
set_option maxHeartbeats 4000000
/-! Part B: equality by data. -/
namespace RI
open PySem PySem.Spec PyProof.Rows L2 SeqAt

/-- a value up to ==: bools are numbers, no objects -/
def keyB : D → Option NestedKey
  | .non => some .none
  | .bl b => some (.num (if b = true then 1 else 0))
  | .int i => some (.num i)
  | .str x => some (.text (S x))
  | .tup xs => (keysB xs).map .tup
  | _ => none
where keysB : List D → Option (List NestedKey)
  | [] => some []
  | x :: xs => match keyB x, keysB xs with
    | some k, some ks => some (k :: ks)
    | _, _ => none
mutual
theorem keyB_of : ∀ {d : D} {k : NestedKey}, keyOf d = some k → keyB d = some k
  | .non, k, h => by simpa [keyOf, keyB] using h
  | .int i, k, h => by simpa [keyOf, keyB] using h
  | .str x, k, h => by simpa [keyOf, keyB] using h
  | .tup xs, k, h => by
    rw [keyOf, Option.map_eq_some_iff] at h
    obtain ⟨ks, e, rfl⟩ := h
    rw [keyB, keysB_of e]; rfl
  | .bl _, k, h => by simp [keyOf] at h
  | .rol _, k, h => by simp [keyOf] at h
  | .ref _, k, h => by simp [keyOf] at h
theorem keysB_of : ∀ {d : List D} {k : List NestedKey}, keyOf.keysOf d = some k → keyB.keysB d = some k
  | [], k, h => by simpa [keyOf.keysOf, keyB.keysB] using h
  | x :: xs, k, h => by
    rw [keyOf.keysOf] at h
    split at h
    · rename_i k1 ks1 e1 e2
      rw [keyB.keysB, keyB_of e1, keysB_of e2]; exact h
    · simp at h
end

/-! ### lookups in a state -/
section
variable {X : Cx} {pins : List (Addr × Obj)} {σ : L2.St} {H : Hp} {s : Shared} {ad : List Addr}
mutual
theorem RV.nested (I : Inv X pins σ H s) : ∀ {d : D} {v : V} {u : Value} {k : NestedKey}, RV X.K ad H d v → keyB d = some k → RelV v u → NestedIs s.heap k u
  | .non, _, _, k, h, e, r => by
    rw [RV] at h; subst h; cases r
    simp only [keyB, Option.some.injEq] at e; subst e; exact .none
  | .bl b, _, _, k, h, e, r => by
    rw [RV] at h; subst h; cases r
    simp only [keyB, Option.some.injEq] at e; subst e; exact .bool rfl
  | .int i, _, _, k, h, e, r => by
    rw [RV] at h; subst h; obtain ⟨t, rfl⟩ := r
    simp only [keyB, Option.some.injEq] at e; subst e; exact .int _ _
  | .str x, _, _, k, h, e, r => by
    rw [RV] at h; subst h; obtain ⟨t, rfl⟩ := r
    simp only [keyB, Option.some.injEq] at e; subst e; exact .text _ _
  | .tup xs, _, _, k, h, e, r => by
    rw [RV] at h
    obtain ⟨a, vs, rfl, hq, hr⟩ := h
    cases r
    rw [keyB, Option.map_eq_some_iff] at e
    obtain ⟨ks, e, rfl⟩ := e
    obtain ⟨its, rv, ⟨o, ho, hc, n, hd⟩, _⟩ := I.tuple hq
    exact .tup ho hc hd (by simpa using RVs.nested I hr e rv)
  | .rol _, _, _, k, h, e, r => by simp [keyB] at e
  | .ref _, _, _, k, h, e, r => by simp [keyB] at e
theorem RVs.nested (I : Inv X pins σ H s) : ∀ {d : List D} {v : List V} {u : List Value} {k : List NestedKey}, RVs X.K ad H d v → keyB.keysB d = some k → Vals v u → NestedAll s.heap k u
  | [], _, _, k, h, e, r => by
    rw [h.nil_inv] at r; cases r
    simp only [keyB.keysB, Option.some.injEq] at e; subst e; exact .nil
  | x :: xs, _, _, k, h, e, r => by
    obtain ⟨v, vs, rfl, h1, h2⟩ := h.cons_inv
    rw [keyB.keysB] at e
    split at e
    · rename_i k1 ks1 e1 e2
      simp only [Option.some.injEq] at e; subst e
      cases r with
      | cons r1 r2 => exact .cons (RV.nested I h1 e1 r1) (RVs.nested I h2 e2 r2)
    · simp at e
end
end

/-! ### == of keys, compared richly -/
theorem room1 {A : Around} {n : Nat} (h : A.units + n < cLine) : A.units < cLine := by omega
theorem _root_.PySem.SeqAt.RcAt.cast {A : Around} {s : Shared} {u v : Value} {b b' : Bool} (h : RcAt A s u v b) (e : b = b') : RcAt A s u v b' := e ▸ h
theorem _root_.PySem.SeqAt.RcNeAt.cast {A : Around} {s : Shared} {u v : Value} {b b' : Bool} (h : RcNeAt A s u v b) (e : b = b') : RcNeAt A s u v b' := e ▸ h
theorem tup_sizes {h : Heap} {xs : List NestedKey} {vs : Array Value} (n : NestedAll h xs vs.toList) : vs.size = xs.length := by simpa using NestedAll.length _ _ n
theorem rc_key {A : Around} {s : Shared} {a b : Value} {x y : NestedKey} (ra : NestedIs s.heap x a) (rb : NestedIs s.heap y b) (hu : A.units + (min x.depth y.depth + 1) < cLine) : RcAt A s a b (NestedKey.beq x y) := by
  have hu0 : A.units < cLine := room1 hu
  cases ra with
  | none => cases rb with
    | none => exact RcAt.none_none
    | bool e => exact RcAt.none_bool _
    | int y u => exact RcAt.none_int y u
    | text y u => exact RcAt.none_str y u
    | tup k1 k2 k3 k4 => exact RcAt.none_tuple ⟨_, k1, k2, _, k3⟩ hu0
  | int _ t => cases rb with
    | none => exact RcAt.int_none _ t
    | bool e => exact (RcAt.int_bool _ t _).cast (by subst e; rfl)
    | int y u => exact (RcAt.int_int _ t y u).cast rfl
    | text y u => exact RcAt.int_str _ t y u
    | tup k1 k2 k3 k4 => exact RcAt.int_tuple _ t ⟨_, k1, k2, _, k3⟩ hu0
  | @bool c _ e => cases rb with
    | none => exact RcAt.bool_none c
    | @bool d _ e' => exact (RcAt.bool_bool c d).cast (by subst e e'; cases c <;> cases d <;> rfl)
    | int y u => exact (RcAt.bool_int c y u).cast (by subst e; rfl)
    | text y u => exact RcAt.bool_str c y u
    | tup k1 k2 k3 k4 => exact RcAt.bool_tuple c ⟨_, k1, k2, _, k3⟩ hu0
  | text x t => cases rb with
    | none => exact RcAt.str_none _ t
    | bool e => exact RcAt.str_bool _ t _
    | int y u => exact RcAt.str_int _ t y u
    | text y u => exact (RcAt.str_str _ t y u).cast rfl
    | tup k1 k2 k3 k4 => exact RcAt.str_tuple _ t ⟨_, k1, k2, _, k3⟩ hu0
  | @tup l o vs n xs h1 h2 h3 h4 =>
    have hl : s.heap.IsTuple l vs := ⟨_, h1, h2, _, h3⟩
    cases rb with
    | none => exact RcAt.tuple_none hl hu0
    | bool e => exact RcAt.tuple_bool _ hl hu0
    | int y u => exact RcAt.tuple_int y u hl hu0
    | text y u => exact RcAt.tuple_str y u hl hu0
    | @tup l' o' vs' n' ys k1 k2 k3 k4 =>
      have hl' : s.heap.IsTuple l' vs' := ⟨_, k1, k2, _, k3⟩
      have n1 := tup_sizes h4
      have n2 := tup_sizes k4
      show RcAt A s (.ref l) (.ref l') (NestedKey.beqAll xs ys)
      rw [← beqAll_eq xs ys, ← n1, ← n2]
      simp only [NestedKey.depth] at hu
      refine RcAt.tuples hl hl' hu0 fun j j1 j2 => ?_
      have := eqAt_keys xs ys A.in1 s vs.toList vs'.toList h4 k4 (by show A.units + 1 + _ < cLine; omega) j (by simpa using j1) (by simpa using j2)
      simpa using this
theorem rcne_key {A : Around} {s : Shared} {a b : Value} {x y : NestedKey} (ra : NestedIs s.heap x a) (rb : NestedIs s.heap y b) (hu : A.units + (min x.depth y.depth + 1) < cLine) : RcNeAt A s a b (!NestedKey.beq x y) := by
  have hu0 : A.units < cLine := room1 hu
  cases ra with
  | none => cases rb with
    | none => exact RcNeAt.none_none
    | bool e => exact RcNeAt.none_bool _
    | int y u => exact RcNeAt.none_int y u
    | text y u => exact RcNeAt.none_str y u
    | tup k1 k2 k3 k4 => exact RcNeAt.none_tuple ⟨_, k1, k2, _, k3⟩ hu0
  | int _ t => cases rb with
    | none => exact RcNeAt.int_none _ t
    | bool e => exact (RcNeAt.int_bool _ t _).cast (by subst e; rfl)
    | int y u => exact (RcNeAt.int_int _ t y u).cast rfl
    | text y u => exact RcNeAt.int_str _ t y u
    | tup k1 k2 k3 k4 => exact RcNeAt.int_tuple _ t ⟨_, k1, k2, _, k3⟩ hu0
  | @bool c _ e => cases rb with
    | none => exact RcNeAt.bool_none c
    | @bool d _ e' => exact (RcNeAt.bool_bool c d).cast (by subst e e'; cases c <;> cases d <;> rfl)
    | int y u => exact (RcNeAt.bool_int c y u).cast (by subst e; rfl)
    | text y u => exact RcNeAt.bool_str c y u
    | tup k1 k2 k3 k4 => exact RcNeAt.bool_tuple c ⟨_, k1, k2, _, k3⟩ hu0
  | text x t => cases rb with
    | none => exact RcNeAt.str_none _ t
    | bool e => exact RcNeAt.str_bool _ t _
    | int y u => exact RcNeAt.str_int _ t y u
    | text y u => exact (RcNeAt.str_str _ t y u).cast rfl
    | tup k1 k2 k3 k4 => exact RcNeAt.str_tuple _ t ⟨_, k1, k2, _, k3⟩ hu0
  | @tup l o vs n xs h1 h2 h3 h4 =>
    have hl : s.heap.IsTuple l vs := ⟨_, h1, h2, _, h3⟩
    cases rb with
    | none => exact RcNeAt.tuple_none hl hu0
    | bool e => exact RcNeAt.tuple_bool _ hl hu0
    | int y u => exact RcNeAt.tuple_int y u hl hu0
    | text y u => exact RcNeAt.tuple_str y u hl hu0
    | @tup l' o' vs' n' ys k1 k2 k3 k4 =>
      have hl' : s.heap.IsTuple l' vs' := ⟨_, k1, k2, _, k3⟩
      have n1 := tup_sizes h4
      have n2 := tup_sizes k4
      show RcNeAt A s (.ref l) (.ref l') (!NestedKey.beqAll xs ys)
      rw [← beqAll_eq xs ys, ← n1, ← n2]
      simp only [NestedKey.depth] at hu
      refine RcNeAt.tuples hl hl' hu0 fun j j1 j2 => ?_
      have := eqAt_keys xs ys A.in1 s vs.toList vs'.toList h4 k4 (by show A.units + 1 + _ < cLine; omega) j (by simpa using j1) (by simpa using j2)
      simpa using this

/-! ### == of data -/
/-- a list's items, where d is a list -/
def lstOf (M : Sto) : D → Option (List D)
  | .rol xs => some xs
  | .ref i => match M[i]? with
    | some (.lst xs) => some xs
    | _ => none
  | _ => none
def eqD0 (x y : D) : Option Bool := match keyB x, keyB y with
  | some a, some b => if min a.depth b.depth ≤ 50 then some (NestedKey.beq a b) else none
  | _, _ => none
def eqsW (f : D → D → Option Bool) : List D → List D → Option Bool
  | [], [] => some true
  | a :: as, b :: bs => match f a b, eqsW f as bs with
    | some p, some q => some (p && q)
    | _, _ => none
  | _, _ => some false
/-- a list of the store -/
def refL (M : Sto) : D → Option (Nat × List D)
  | .ref i => match M[i]? with
    | some (.lst xs) => some (i, xs)
    | _ => none
  | _ => none
def eqF (M : Sto) : Nat → D → D → Option Bool
  | n, d, e => match refL M d, refL M e with
    | some (i, xs), some (j, ys) => if i = j then some true else match n with
      | 0 => none
      | n + 1 => if xs.length = ys.length then eqsW (eqF M n) xs ys else some false
    | some _, none => if (keyB e).isSome = true then some false else none
    | none, some _ => if (keyB d).isSome = true then some false else none
    | none, none => eqD0 d e
def eqD (x y : D) (M : Sto) : Option Bool := eqF M 3 x y
section
variable {X : Cx} {pins : List (Addr × Obj)} {σ : L2.St} {H : Hp} {s : Shared} {ad : List Addr} {M : Sto}
theorem lst_is (I : Inv X pins σ H s) (R : RS X.prog X.w X.K ad H M) {d : D} {v : V} {u : Value} {xs : List D} (h : RV X.K ad H d v) (r : RelV v u) (e : lstOf M d = some xs) :
    ∃ (a : Addr) (ys : List V) (its : List Value), v = .ref a ∧ u = .ref a ∧ SqL X.K H a ys ∧ RVs X.K ad H xs ys ∧ Vals ys its ∧ PlainL s.heap a its.toArray := by
  cases d with
  | rol ds =>
    simp only [lstOf, Option.some.injEq] at e; subst e
    rw [RV] at h
    obtain ⟨a, ys, rfl, hq, hr⟩ := h
    cases r
    obtain ⟨its, rv, p, _⟩ := I.list hq.sq
    exact ⟨a, ys, its, rfl, rfl, hq.sq, hr, rv, p⟩
  | ref i =>
    rw [RV] at h
    obtain ⟨a, rfl, ha⟩ := h
    cases r
    simp only [lstOf] at e
    split at e
    · rename_i z zs q
      cases e
      obtain ⟨ys, h1, h2⟩ := R.at_ i _ a q ha
      obtain ⟨its, rv, p, _⟩ := I.list (SqL.of h1)
      exact ⟨a, ys, its, rfl, rfl, SqL.of h1, h2, rv, p⟩
    · cases e
  | _ => simp [lstOf] at e
theorem eqsW_all {f : D → D → Option Bool} : ∀ {xs ys : List D} {b : Bool}, xs.length = ys.length → eqsW f xs ys = some b → ∃ e : Nat → Bool, b = (List.range xs.length).all e ∧ ∀ (j : Nat) (x y : D), xs[j]? = some x → ys[j]? = some y → f x y = some (e j)
  | [], [], b, _, h => ⟨fun _ => true, by simp only [eqsW, Option.some.injEq] at h; subst h; rfl, fun j x y h1 => by simp at h1⟩
  | [], _ :: _, b, hl, h => by simp at hl
  | _ :: _, [], b, hl, h => by simp at hl
  | x :: xs, y :: ys, b, hl, h => by
    rw [eqsW] at h
    split at h
    · rename_i p q e1 e2
      simp only [Option.some.injEq] at h
      obtain ⟨e, eb, he⟩ := eqsW_all (by simpa using hl) e2
      refine ⟨fun j => match j with | 0 => p | j + 1 => e j, ?_, fun j x' y' h1 h2 => ?_⟩
      · subst h
        rw [eb, List.length_cons, List.range_succ_eq_map, List.all_cons, List.all_map]
        rfl
      · cases j with
        | zero => simp at h1 h2; subst h1 h2; exact e1
        | succ j => exact he j x' y' (by simpa using h1) (by simpa using h2)
    · simp at h
theorem ref_is (I : Inv X pins σ H s) (R : RS X.prog X.w X.K ad H M) {d : D} {v : V} {u : Value} {i : Nat} {xs : List D} (h : RV X.K ad H d v) (r : RelV v u) (e : refL M d = some (i, xs)) :
    ∃ (a : Addr) (ys : List V) (its : List Value), v = .ref a ∧ u = .ref a ∧ ad[i]? = some a ∧ H a = some (.lst ys) ∧ RVs X.K ad H xs ys ∧ Vals ys its ∧ PlainL s.heap a its.toArray := by
  cases d with
  | ref i' =>
    rw [RV] at h
    obtain ⟨a, rfl, ha⟩ := h
    cases r
    simp only [refL] at e
    split at e
    · rename_i z zs q
      cases e
      obtain ⟨ys, h1, h2⟩ := R.at_ _ _ a q ha
      obtain ⟨its, rv, p, _⟩ := I.list (SqL.of h1)
      exact ⟨a, ys, its, rfl, rfl, ha, h1, h2, rv, p⟩
    · cases e
  | _ => simp [refL] at e
theorem rc_lst_key {A : Around} {a : Addr} {its : Array Value} {b : Value} {k : NestedKey} (p : s.heap.IsList a its) (rb : NestedIs s.heap k b) (hu : A.units < cLine) : RcAt A s (.ref a) b false ∧ RcAt A s b (.ref a) false ∧ RcNeAt A s (.ref a) b true ∧ RcNeAt A s b (.ref a) true := by
  cases rb with
  | none => exact ⟨RcAt.list_none p hu, RcAt.none_list p hu, RcNeAt.list_none p hu, RcNeAt.none_list p hu⟩
  | bool e => exact ⟨RcAt.list_bool _ p hu, RcAt.bool_list _ p hu, RcNeAt.list_bool _ p hu, RcNeAt.bool_list _ p hu⟩
  | int y u => exact ⟨RcAt.list_int y u p hu, RcAt.int_list y u p hu, RcNeAt.list_int y u p hu, RcNeAt.int_list y u p hu⟩
  | text y u => exact ⟨RcAt.list_str y u p hu, RcAt.str_list y u p hu, RcNeAt.list_str y u p hu, RcNeAt.str_list y u p hu⟩
  | tup k1 k2 k3 k4 => exact ⟨RcAt.list_tuple p ⟨_, k1, k2, _, k3⟩ hu, RcAt.tuple_list ⟨_, k1, k2, _, k3⟩ p hu, RcNeAt.list_tuple p ⟨_, k1, k2, _, k3⟩ hu, RcNeAt.tuple_list ⟨_, k1, k2, _, k3⟩ p hu⟩
theorem eq_lst_key {A : Around} {a : Addr} {its : Array Value} {b : Value} {k : NestedKey} (p : s.heap.IsList a its) (rb : NestedIs s.heap k b) (hu : A.units < cLine) : EqAt A s (.ref a) b false ∧ EqAt A s b (.ref a) false := by
  cases rb with
  | none => exact ⟨EqAt.list_none p hu, EqAt.none_list p hu⟩
  | bool e => exact ⟨EqAt.list_bool _ p hu, EqAt.bool_list _ p hu⟩
  | int y u => exact ⟨EqAt.list_int y u p hu, EqAt.int_list y u p hu⟩
  | text y u => exact ⟨EqAt.list_str y u p hu, EqAt.str_list y u p hu⟩
  | tup k1 k2 k3 k4 => exact ⟨EqAt.list_tuple p ⟨_, k1, k2, _, k3⟩ hu, EqAt.tuple_list ⟨_, k1, k2, _, k3⟩ p hu⟩
theorem eqF_sound (I : Inv X pins σ H s) (R : RS X.prog X.w X.K ad H M) : ∀ (n : Nat) (A : Around) (d e : D) (v v' : V) (u u' : Value) (b : Bool), A.units + n + 52 < cLine → RV X.K ad H d v → RV X.K ad H e v' → RelV v u → RelV v' u' → eqF M n d e = some b →
    RcAt A s u u' b ∧ RcNeAt A s u u' (!b) ∧ EqAt A s u u' b := by
  -- all but two lists
  have other : ∀ (A : Around) (d e : D) (v v' : V) (u u' : Value) (b : Bool), A.units + 52 < cLine → RV X.K ad H d v → RV X.K ad H e v' → RelV v u → RelV v' u' → (match refL M d, refL M e with
    | some _, some _ => none
    | some _, none => if (keyB e).isSome = true then some false else none
    | none, some _ => if (keyB d).isSome = true then some false else none
    | none, none => eqD0 d e) = some b → RcAt A s u u' b ∧ RcNeAt A s u u' (!b) ∧ EqAt A s u u' b := by
    intro A d e v v' u u' b hu h1 h2 r1 r2 h
    cases e1 : refL M d with
    | some p1 =>
      obtain ⟨i, xs⟩ := p1
      obtain ⟨a, ys, its, rfl, rfl, ha, hH, hr, rv, p⟩ := ref_is I R h1 r1 e1
      cases e2 : refL M e with
      | some zs => simp only [e1, e2] at h; cases h
      | none =>
        simp only [e1, e2] at h
        split at h
        · rename_i hk
          cases h
          obtain ⟨k, hk⟩ := Option.isSome_iff_exists.mp hk
          have nb := h2.nested I hk r2
          obtain ⟨c1, c2, c3, c4⟩ := rc_lst_key (A := A) p.isList nb (by omega)
          exact ⟨c1, c3, (eq_lst_key p.isList nb (by omega)).1⟩
        · cases h
    | none =>
      cases e2 : refL M e with
      | some p2 =>
        obtain ⟨j, zs⟩ := p2
        obtain ⟨a, ys, its, rfl, rfl, ha, hH, hr, rv, p⟩ := ref_is I R h2 r2 e2
        simp only [e1, e2] at h
        split at h
        · rename_i hk
          cases h
          obtain ⟨k, hk⟩ := Option.isSome_iff_exists.mp hk
          have nb := h1.nested I hk r1
          obtain ⟨c1, c2, c3, c4⟩ := rc_lst_key (A := A) p.isList nb (by omega)
          exact ⟨c2, c4, (eq_lst_key p.isList nb (by omega)).2⟩
        · cases h
      | none =>
        simp only [e1, e2] at h
        unfold eqD0 at h
        split at h
        · rename_i k k' q q'
          split at h
          · cases h
            have na := h1.nested I q r1
            have nb := h2.nested I q' r2
            exact ⟨rc_key na nb (by omega), rcne_key na nb (by omega), eqAt_key k k' A s u u' na nb (by omega)⟩
          · cases h
        · cases h
  -- the same list
  have same : ∀ (A : Around) {a : Addr} {its : Array Value}, A.units < cLine → s.heap.IsList a its → RcAt A s (.ref a) (.ref a) true ∧ RcNeAt A s (.ref a) (.ref a) (!true) ∧ EqAt A s (.ref a) (.ref a) true := by
    intro A a its hu p
    have z : (List.range its.size).all (fun _ => true) = true := by simp
    exact ⟨(RcAt.lists (e := fun _ => true) p p rfl hu fun j j1 j2 => EqAt.same _).cast z, (RcNeAt.lists (e := fun _ => true) p p rfl hu fun j j1 j2 => EqAt.same _).cast (by rw [z]), EqAt.same _⟩
  intro n
  induction n with
  | zero =>
    intro A d e v v' u u' b hu h1 h2 r1 r2 h
    unfold eqF at h
    cases e1 : refL M d with
    | some p1 =>
      cases e2 : refL M e with
      | some p2 =>
        obtain ⟨i, xs⟩ := p1
        obtain ⟨j, zs⟩ := p2
        simp only [e1, e2] at h
        split at h
        · rename_i hij
          subst hij
          cases h
          obtain ⟨a, ys, its, rfl, rfl, ha, hH, hr, rv, p⟩ := ref_is I R h1 r1 e1
          obtain ⟨a', ys', its', rfl, rfl, ha', hH', hr', rv', p'⟩ := ref_is I R h2 r2 e2
          rw [ha] at ha'; cases ha'
          exact same A (by omega) p.isList
        · cases h
      | none => exact other A d e v v' u u' b (by omega) h1 h2 r1 r2 (by simp only [e1, e2] at h ⊢; exact h)
    | none => exact other A d e v v' u u' b (by omega) h1 h2 r1 r2 (by cases e2 : refL M e <;> simp only [e1, e2] at h ⊢ <;> exact h)
  | succ n ih =>
    intro A d e v v' u u' b hu h1 h2 r1 r2 h
    unfold eqF at h
    cases e1 : refL M d with
    | some p1 =>
      cases e2 : refL M e with
      | some p2 =>
        obtain ⟨i, xs⟩ := p1
        obtain ⟨j, zs⟩ := p2
        simp only [e1, e2] at h
        obtain ⟨a, ys, its, rfl, rfl, ha, hH, hr, rv, p⟩ := ref_is I R h1 r1 e1
        obtain ⟨a', ys', its', rfl, rfl, ha', hH', hr', rv', p'⟩ := ref_is I R h2 r2 e2
        split at h
        · rename_i hij
          subst hij
          cases h
          rw [ha] at ha'; cases ha'
          exact same A (by omega) p.isList
        · rename_i hij
          have hne : a ≠ a' := fun z => by
            subst z
            obtain ⟨l1, g1⟩ := List.getElem?_eq_some_iff.mp ha
            obtain ⟨l2, g2⟩ := List.getElem?_eq_some_iff.mp ha'
            exact hij ((List.getElem_inj R.nd).mp (g1.trans g2.symm))
          have l1 : its.length = xs.length := by rw [hr.length, rv.length]
          have l2 : its'.length = zs.length := by rw [hr'.length, rv'.length]
          split at h
          · rename_i hl
            obtain ⟨f, eb, hf⟩ := eqsW_all hl h
            have hs : its.toArray.size = its'.toArray.size := by simp [l1, l2, hl]
            have el : ∀ j (j1 : j < its.toArray.size) (j2 : j < its'.toArray.size), EqAt A.in1 s its.toArray[j] its'.toArray[j] (f j) := fun j j1 j2 => by
              have j1' : j < its.length := by simpa using j1
              have j2' : j < its'.length := by simpa using j2
              have k1 : j < ys.length := by rw [rv.length]; exact j1'
              have k2 : j < ys'.length := by rw [rv'.length]; exact j2'
              obtain ⟨d1, x1, y1⟩ := hr.get' (List.getElem?_eq_getElem k1)
              obtain ⟨d2, x2, y2⟩ := hr'.get' (List.getElem?_eq_getElem k2)
              obtain ⟨u1, g1, t1⟩ := rv.get (List.getElem?_eq_getElem k1)
              obtain ⟨u2, g2, t2⟩ := rv'.get (List.getElem?_eq_getElem k2)
              rw [List.getElem?_eq_getElem j1'] at g1
              rw [List.getElem?_eq_getElem j2'] at g2
              cases g1; cases g2
              have := (ih A.in1 d1 d2 _ _ _ _ _ (by show A.units + 1 + n + 52 < cLine; omega) y1 y2 t1 t2 (hf j d1 d2 x1 x2)).2.2
              simpa using this
            have eb' : b = (List.range its.toArray.size).all f := by rw [eb]; simp [l1]
            have c1 : RcAt A s (.ref a) (.ref a') b := by rw [eb']; exact RcAt.lists p.isList p'.isList hs (by omega) el
            have c2 : RcNeAt A s (.ref a) (.ref a') (!b) := by rw [eb']; exact RcNeAt.lists p.isList p'.isList hs (by omega) el
            exact ⟨c1, c2, EqAt.of_refs hne c1⟩
          · rename_i hl
            cases h
            have hs : (its.toArray.size != its'.toArray.size) = true := by simp [l1, l2, hl]
            have c1 : RcAt A s (.ref a) (.ref a') false := RcAt.lists_lengths p.isList p'.isList hs (by omega)
            have c2 : RcNeAt A s (.ref a) (.ref a') (!false) := RcNeAt.lists_lengths p.isList p'.isList hs (by omega)
            exact ⟨c1, c2, EqAt.of_refs hne c1⟩
      | none => exact other A d e v v' u u' b (by omega) h1 h2 r1 r2 (by simp only [e1, e2] at h ⊢; exact h)
    | none => exact other A d e v v' u u' b (by omega) h1 h2 r1 r2 (by cases e2 : refL M e <;> simp only [e1, e2] at h ⊢ <;> exact h)
end
end RI
end
/-! #### RC -/
section
set_option Elab.async false
set_option linter.all false
set_option maxRecDepth 100000
set_option maxHeartbeats 4000000
/-! Part C: operations by data. -/
namespace RI
open PySem PySem.Spec PyProof.Rows L2 SeqAt

def SL : Nat := 16777216
theorem SL_eq : sizeLine = SL := sizeLine_eq

/-! ### dicts -/
section
variable {κ : Type} [DecidableEq κ]
def dget (kvs : List (κ × D)) (k : κ) : Option D := (kvs.find? fun p => decide (p.1 = k)).map (·.2)
def dput (kvs : List (κ × D)) (k : κ) (v : D) : List (κ × D) :=
  if (dget kvs k).isSome = true then kvs.map (fun p => if p.1 = k then (p.1, v) else p) else kvs ++ [(k, v)]
theorem dget_nil (k : κ) : dget [] k = none := rfl
theorem dget_cons (p : κ × D) (r : List (κ × D)) (k : κ) : dget (p :: r) k = if p.1 = k then some p.2 else dget r k := by
  unfold dget
  rw [List.find?_cons]
  by_cases h : p.1 = k <;> simp [h]
theorem dput_length (kvs : List (κ × D)) (k : κ) (v : D) : (dput kvs k v).length ≤ kvs.length + 1 := by
  unfold dput; split <;> simp
end

section
variable {P : Program} {w : World} {K : PySem.W.Frag} {ad : List Addr} {H : Hp}
theorem atKey_nil (k : NestedKey) : atKey ([] : List (NestedKey × Addr × Value)) k = none := rfl
theorem atKey_cons (p : NestedKey × Addr × Value) (r : List (NestedKey × Addr × Value)) (k : NestedKey) : atKey (p :: r) k = if p.1 = k then some p.2 else atKey r k := by
  unfold atKey
  rw [List.find?_cons]
  by_cases h : p.1 = k <;> simp [h]
theorem REs.at {kvs : List (D × D)} {xs : List (NestedKey × Addr × Value)} (r : REs K ad H kvs xs) {k : D} {nk : NestedKey} (hk : keyOf k = some nk) :
    (dget kvs k = none ∧ atKey xs nk = none) ∨ ∃ d ka u v, dget kvs k = some d ∧ atKey xs nk = some (ka, u) ∧ RelV v u ∧ RV K ad H d v := by
  induction r with
  | nil => exact .inl ⟨rfl, rfl⟩
  | @cons kd vd nk' ka u v kvs xs k1 dp rk ru rv t ih =>
    rw [dget_cons, atKey_cons]
    by_cases h : kd = k
    · subst h
      rw [hk] at k1; cases k1
      rw [if_pos rfl, if_pos rfl]
      exact .inr ⟨_, _, _, _, rfl, rfl, ru, rv⟩
    · have h' : ¬ nk' = nk := fun z => h (keyOf_inj k1 (by rw [z]; exact hk))
      rw [if_neg h, if_neg h']
      exact ih
theorem REs.some {kvs : List (D × D)} {xs : List (NestedKey × Addr × Value)} (r : REs K ad H kvs xs) {k : D} {nk : NestedKey} (hk : keyOf k = some nk) : (atKey xs nk).isSome = (dget kvs k).isSome := by
  rcases r.at hk with ⟨h1, h2⟩ | ⟨d, ka, u, v, h1, h2, _⟩ <;> rw [h1, h2] <;> rfl
theorem REs.put {kvs : List (D × D)} {xs : List (NestedKey × Addr × Value)} (r : REs K ad H kvs xs) {k d : D} {nk : NestedKey} {ka : Addr} {u : Value} {v : V} (hk : keyOf k = .some nk) (dp : nk.depth ≤ 8) (rk : RV K ad H k (.ref ka)) (ru : RelV v u) (rv : RV K ad H d v) :
    REs K ad H (dput kvs k d) (storedH xs nk ka u) := by
  unfold dput storedH
  rw [r.some hk]
  split
  · have go : ∀ {kvs : List (D × D)} {xs : List (NestedKey × Addr × Value)}, REs K ad H kvs xs → REs K ad H (kvs.map fun p => if p.1 = k then (p.1, d) else p) (xs.map (putAt nk u)) := by
      intro kvs xs r
      induction r with
      | nil => exact .nil
      | @cons kd vd nk' ka' u' v' kvs xs k1 dp1 rk1 ru1 rv1 t ih =>
        rw [List.map_cons, List.map_cons]
        unfold putAt
        by_cases h : kd = k
        · subst h
          have e := k1; rw [hk] at e; cases e
          simp only [if_true]
          exact .cons k1 dp1 rk1 ru rv ih
        · have h' : ¬ nk' = nk := fun z => h (keyOf_inj k1 (by rw [z]; exact hk))
          simp only [if_neg h, if_neg h']
          exact .cons k1 dp1 rk1 ru1 rv1 ih
    exact go r
  · have go : ∀ {kvs : List (D × D)} {xs : List (NestedKey × Addr × Value)}, REs K ad H kvs xs → REs K ad H (kvs ++ [(k, d)]) (xs ++ [(nk, ka, u)]) := by
      intro kvs xs r
      induction r with
      | nil => exact .cons hk dp rk ru rv .nil
      | cons k1 dp1 rk1 ru1 rv1 t ih => exact .cons k1 dp1 rk1 ru1 rv1 ih
    exact go r
theorem REs.length {kvs : List (D × D)} {xs : List (NestedKey × Addr × Value)} (r : REs K ad H kvs xs) : kvs.length = xs.length := by
  induction r with
  | nil => rfl
  | cons _ _ _ _ _ _ ih => simp [ih]
theorem RSs.length {kvs : List (List Nat × D)} {xs : List (Key × V)} (r : RSs K ad H kvs xs) : kvs.length = xs.length := by
  induction r with
  | nil => rfl
  | cons _ _ ih => simp [ih]
theorem RSs.at {kvs : List (List Nat × D)} {xs : List (Key × V)} (r : RSs K ad H kvs xs) (k : List Nat) :
    (dget kvs k = none ∧ valV xs (.inr (S k)) = none) ∨ ∃ d v, dget kvs k = some d ∧ valV xs (.inr (S k)) = some v ∧ RV K ad H d v := by
  induction r with
  | nil => exact .inl ⟨rfl, rfl⟩
  | @cons x vd v kvs xs rv t ih =>
    rw [dget_cons]
    by_cases h : x = k
    · subst h
      rw [if_pos rfl, valV_pos rfl]
      exact .inr ⟨_, _, rfl, rfl, rv⟩
    · have h' : ¬ (Sum.inr (S x) : Key) = Sum.inr (S k) := fun z => h (S_inj (Sum.inr.inj z))
      rw [if_neg h, valV_neg h']
      exact ih
theorem RSs.put {kvs : List (List Nat × D)} {xs : List (Key × V)} (r : RSs K ad H kvs xs) (k : List Nat) {d : D} {v : V} (rv : RV K ad H d v) : RSs K ad H (dput kvs k d) (putK xs (.inr (S k)) v) := by
  have hs : (xs.any fun kv => decide (kv.1 = (Sum.inr (S k) : Key))) = (dget kvs k).isSome := by
    rw [valV_any]
    rcases r.at k with ⟨h1, h2⟩ | ⟨d, v, h1, h2, _⟩ <;> rw [h1, h2] <;> rfl
  unfold dput putK
  rw [hs]
  split
  · have go : ∀ {kvs : List (List Nat × D)} {xs : List (Key × V)}, RSs K ad H kvs xs → RSs K ad H (kvs.map fun p => if p.1 = k then (p.1, d) else p) (xs.map fun kv => if kv.1 = (Sum.inr (S k) : Key) then (kv.1, v) else kv) := by
      intro kvs xs r
      induction r with
      | nil => exact .nil
      | @cons x vd v' kvs xs rv1 t ih =>
        rw [List.map_cons, List.map_cons]
        by_cases h : x = k
        · subst h
          simp only [if_true]
          exact .cons rv ih
        · have h' : ¬ (Sum.inr (S x) : Key) = Sum.inr (S k) := fun z => h (S_inj (Sum.inr.inj z))
          simp only [if_neg h, if_neg h']
          exact .cons rv1 ih
    exact go r
  · have go : ∀ {kvs : List (List Nat × D)} {xs : List (Key × V)}, RSs K ad H kvs xs → RSs K ad H (kvs ++ [(k, d)]) (xs ++ [(.inr (S k), v)]) := by
      intro kvs xs r
      induction r with
      | nil => exact .cons rv .nil
      | cons rv1 t ih => exact .cons rv1 ih
    exact go r
end

section
variable {X : Cx} {pins : List (Addr × Obj)} {σ : L2.St} {H : Hp} {s : Shared} {ad : List Addr} {M : Sto} {a : Addr}
theorem keyOf_nested (I : Inv X pins σ H s) {k : D} {nk : NestedKey} {ka : Addr} (rk : RV X.K ad H k (.ref ka)) (hk : keyOf k = some nk) : NestedIs s.heap nk (.ref ka) := rk.nested I (keyB_of hk) rfl
theorem lkd.rd {lk : Bool} {u : HO} (h : lkd H lk a u) : Rd H a u := by
  unfold lkd at h
  split at h
  · exact .inr h
  · exact .inl h
/-- a dict with tuple keys, as the library's rules want it -/
theorem dct_at (I : Inv X pins σ H s) {lk : Bool} {kvs : List (D × D)} (h : RO X.prog X.w X.K ad H (.dct lk kvs) a) :
    ∃ xs, s.heap.DictOfH (nestedKind X.prog X.w) a xs ∧ REs X.K ad H kvs xs ∧ (xs.map (·.1)).Nodup ∧ xs.length ≤ sizeLine ∧ (a == sysModules) = false ∧ lkd H lk a (.ext (dFi X.prog X.w a xs)) := by
  obtain ⟨xs, hl, r, nd, hz, hs⟩ := h
  refine ⟨xs, ?_, r, nd, hz, hs, hl⟩
  have ok : ObjOk X.prog X.w H s.heap a (.ext (dFi X.prog X.w a xs)) := hl.rd.ok I.hok
  obtain ⟨⟨o, ep, ho, ex, hd⟩, _, _⟩ := ok
  refine ⟨o, _, ep, ho, ex, hd, by simp, ?_, nd⟩
  have go : ∀ {kvs : List (D × D)} {xs : List (NestedKey × Addr × Value)}, REs X.K ad H kvs xs → ∀ x ∈ xs, (nestedKind X.prog X.w).is s.heap x.1 x.2.1 := by
    intro kvs xs r
    induction r with
    | nil => intro x hx; simp at hx
    | cons k1 dp rk ru rv t ih =>
      intro x hx
      rcases List.mem_cons.mp hx with rfl | hx
      · exact ⟨keyOf_nested I rk k1, dp⟩
      · exact ih x hx
  exact go r
theorem nroom {A : Around} (hu : A.units + 64 < cLine) : (nestedKind X.prog X.w).room A.in1 := by show A.units + 1 + 8 < cLine; omega
/-- the object of such a dict, in an abstract heap -/
theorem dct_obj {P : Program} {w : World} {H : Hp} {h : Heap} {xs : List (NestedKey × Addr × Value)} (hd : h.DictOfH (nestedKind P w) a xs) : ObjOk P w H h a (.ext (dFi P w a xs)) := by
  obtain ⟨o, es, ep, ho, ex, hd, he, _, _⟩ := hd
  refine ⟨⟨o, ep, ho, ex, ?_⟩, ⟨o, ho⟩, fun h1 h2 ⟨o1, ep1, h3, h4, h5⟩ st => ⟨o1, ep1, st _ h3, h4, h5⟩⟩
  rw [hd, ← he]
theorem dct_set (hu : X.A.units + 64 < cLine) (I : Inv X pins σ H s) (R : RS X.prog X.w X.K ad H M) {i : Nat} {kvs : List (D × D)} {k d : D} {nk : NestedKey} {ka : Addr} {v : V} {u : Value} {Q : Unit → Shared → Prop} {E : Value → Shared → Prop} (hM : M[i]? = some (.dct false kvs)) (ha : ad[i]? = some a)
    (hk : keyOf k = some nk) (dp : nk.depth ≤ 8) (rk : RV X.K ad H k (.ref ka)) (ru : RelV v u) (rv : RV X.K ad H d v) (hz : kvs.length < SL)
    (h : ∀ (H' : Hp) (s' : Shared), Inv X pins σ H' s' → Nxt ad H ad H' → RS X.prog X.w X.K ad H' (M.set i (.dct false (dput kvs k d))) → Q () s') : wpAny (model X.prog X.w) X.A (setItem (.ref a) (.ref ka) u) Q E s := by
  obtain ⟨xs, hD, r, nd, hz', hs, hl⟩ := dct_at I (R.at_ i _ a hM ha)
  have hH : H a = some (.ext (dFi X.prog X.w a xs)) := by unfold lkd at hl; simpa using hl
  refine wpAny_setItem_heap (hsz := hz') (nroom hu) ⟨keyOf_nested I rk hk, dp⟩ hD fun h' hD' hs' => ?_
  have x : Ext H (upd H a (.ext (dFi X.prog X.w a (storedH xs nk ka u)))) := .write hH (fun _ z => by cases z) fun _ _ z => by cases z
  refine h (upd H a (.ext (dFi X.prog X.w a (storedH xs nk ka u)))) _ ?_ (.write (List.mem_of_getElem? ha) hH (fun _ z => by cases z) fun _ _ z => by cases z) ?_
  · exact d_write I (by rw [hH]; exact True.intro) hs' (let ⟨o, _, _, ho, _⟩ := hD'; ⟨o, ho⟩) (dct_obj hD')
  · have r' : REs X.K ad H (dput kvs k d) (storedH xs nk ka u) := r.put hk dp rk ru rv
    have hl' : (dput kvs k d).length ≤ sizeLine := by have := dput_length kvs k d; rw [SL_eq]; omega
    obtain ⟨_, _, _, _, _, _, _, _, nd'⟩ := hD'
    exact R.write ha x ⟨_, by unfold lkd; simp [upd_same], r'.mono (fun _ _ e => e) x, nd', by rw [← r'.length]; exact hl', hs⟩
end
end RI
end
/-! #### RD -/
section
set_option Elab.async false
set_option linter.all false
set_option maxRecDepth 100000
set_option maxHeartbeats 4000000
/-! Part D: operators, comparisons by data. -/
namespace RI
open PySem PySem.Spec PyProof.Rows L2 SeqAt

abbrev F1 := D → Sto → Option (D × Sto)
abbrev F2 := D → D → Sto → Option (D × Sto)
abbrev FN := List D → Sto → Option (D × Sto)
/-- what follows: the value d in a later state -/
def Fin (X : Cx) (ad : List Addr) (H : Hp) (r : D) (M' : Sto) (Q : VK) : Prop := ∀ (v : V) (H' : Hp) (ad' : List Addr), Nxt ad H ad' H' → RS X.prog X.w X.K ad' H' M' → RV X.K ad' H' r v → Q v H'
def r2D (X : Cx) (fn : F2) : R2 := fun x y H Q => ∃ (ad : List Addr) (M M' : Sto) (d e r : D), RS X.prog X.w X.K ad H M ∧ RV X.K ad H d x ∧ RV X.K ad H e y ∧ fn d e M = some (r, M') ∧ Fin X ad H r M' Q
def rND (X : Cx) (fn : FN) : List V → Hp → VK → Prop := fun vs H Q => ∃ (ad : List Addr) (M M' : Sto) (ds : List D) (r : D), RS X.prog X.w X.K ad H M ∧ RVs X.K ad H ds vs ∧ fn ds M = some (r, M') ∧ Fin X ad H r M' Q
def rMD (X : Cx) (fn : D → FN) : V → List V → Hp → VK → Prop := fun x vs H Q => ∃ (ad : List Addr) (M M' : Sto) (d : D) (ds : List D) (r : D), RS X.prog X.w X.K ad H M ∧ RV X.K ad H d x ∧ RVs X.K ad H ds vs ∧ fn d ds M = some (r, M') ∧ Fin X ad H r M' Q

section
variable {X : Cx} {H : Hp} {ad : List Addr} {M M' : Sto} {Q : VK} {r : D}
/-- nothing has changed -/
theorem Fin.same (q : Fin X ad H r M Q) (R : RS X.prog X.w X.K ad H M) {v : V} (h : RV X.K ad H r v) : Q v H := q v H ad (.refl ad H) R h
/-- a new tuple -/
theorem Fin.tup {ds : List D} (q : Fin X ad H (.tup ds) M Q) (R : RS X.prog X.w X.K ad H M) {xs : List V} (h : RVs X.K ad H ds xs) {p : Addr} (hp : H p = none) : Q (.ref p) (upd H p (.tup xs)) :=
  q _ _ ad (.tup hp) (R.tup hp) (by rw [RV]; exact ⟨p, xs, rfl, .inl (.inl upd_same), h.mono (fun _ _ e => e) (.new hp)⟩)
/-- a new list -/
theorem Fin.lst {ds : List D} (q : Fin X ad H (.ref M.length) (M ++ [.lst ds]) Q) (R : RS X.prog X.w X.K ad H M) {xs : List V} (h : RVs X.K ad H ds xs) {p : Addr} (hp : H p = none) : Q (.ref p) (upd H p (.lst xs)) :=
  q _ _ (ad ++ [p]) (.alloc hp) (R.alloc hp ⟨xs, upd_same, h.mono (Nxt.alloc (u := .lst xs) hp).pre (.new hp)⟩) (by rw [RV]; exact ⟨p, rfl, at_new R.len⟩)
/-- a list of the store changes -/
theorem Fin.write {i : Nat} {a : Addr} {ys xs : List V} {ds : List D} {v : V} (q : Fin X ad H r (M.set i (.lst ds)) Q) (R : RS X.prog X.w X.K ad H M) (ha : ad[i]? = some a) (hH : H a = some (.lst ys)) (h : RVs X.K ad H ds xs) (hv : RV X.K ad H r v) : Q v (upd H a (.lst xs)) := by
  have x : Ext H (upd H a (.lst xs)) := .write hH (fun _ z => by cases z) fun _ _ z => by cases z
  exact q v _ ad (.write (List.mem_of_getElem? ha) hH (fun _ z => by cases z) fun _ _ z => by cases z) (R.write ha x ⟨xs, upd_same, h.mono (fun _ _ e => e) x⟩) (hv.mono (fun _ _ e => e) x)
theorem rv_tup {ds : List D} {v : V} (h : RV X.K ad H (.tup ds) v) : ∃ a xs, v = .ref a ∧ SqT X.K H a xs ∧ RVs X.K ad H ds xs := by rw [RV] at h; exact h
theorem rv_rol {ds : List D} {v : V} (h : RV X.K ad H (.rol ds) v) : ∃ a xs, v = .ref a ∧ RoL X.K H a xs ∧ RVs X.K ad H ds xs := by rw [RV] at h; exact h
theorem rv_ref {i : Nat} {v : V} (h : RV X.K ad H (.ref i) v) : ∃ a, v = .ref a ∧ ad[i]? = some a := by rw [RV] at h; exact h
theorem rv_int {i : Int} {v : V} (h : RV X.K ad H (.int i) v) : v = .int i := by rw [RV] at h; exact h
theorem rv_bl {b : Bool} {v : V} (h : RV X.K ad H (.bl b) v) : v = .bl b := by rw [RV] at h; exact h
theorem rv_str {x : List Nat} {v : V} (h : RV X.K ad H (.str x) v) : v = .str (S x) := by rw [RV] at h; exact h
theorem rv_non {v : V} (h : RV X.K ad H .non v) : v = .non := by rw [RV] at h; exact h
theorem RV.intI (i : Int) : RV X.K ad H (.int i) (.int i) := by rw [RV]
theorem RV.blI (b : Bool) : RV X.K ad H (.bl b) (.bl b) := by rw [RV]
theorem RV.nonI : RV X.K ad H .non .non := by rw [RV]
theorem RV.strI (x : List Nat) : RV X.K ad H (.str x) (.str (S x)) := by rw [RV]
/-- a list of the store, for the rules -/
theorem lst_of (R : RS X.prog X.w X.K ad H M) {i : Nat} {ds : List D} {v : V} (hM : M[i]? = some (.lst ds)) (h : RV X.K ad H (.ref i) v) : ∃ a ys, v = .ref a ∧ ad[i]? = some a ∧ H a = some (.lst ys) ∧ RVs X.K ad H ds ys := by
  obtain ⟨a, rfl, ha⟩ := rv_ref h
  obtain ⟨ys, h1, h2⟩ := R.at_ _ _ a hM ha
  exact ⟨a, ys, rfl, ha, h1, h2⟩
theorem S_append (a b : List Nat) : S a ++ S b = S (a ++ b) := by
  show (⟨a.toArray ++ b.toArray⟩ : Str) = ⟨(a ++ b).toArray⟩
  simp
theorem S_length (a : List Nat) : (S a).length = a.length := by show a.toArray.size = a.length; simp
end

/-! ### arithmetic -/
def addD : F2
  | .int i, .int j, M => some (.int (i + j), M)
  | .str a, .str b, M => if a.length + b.length ≤ SL then some (.str (a ++ b), M) else none
  | .tup a, .tup b, M => if a.length + b.length ≤ SL then some (.tup (a ++ b), M) else none
  | .ref i, .ref j, M => match M[i]?, M[j]? with
    | some (.lst a), some (.lst b) => if a.length + b.length ≤ SL then some (.ref M.length, M ++ [.lst (a ++ b)]) else none
    | _, _ => none
  | _, _, _ => none
def subD : F2
  | .int i, .int j, M => some (.int (i - j), M)
  | _, _, _ => none
def mulD : F2
  | .int i, .int j, M => if (-(2 ^ 64) < i ∧ i < 2 ^ 64) ∨ (-(2 ^ 64) < j ∧ j < 2 ^ 64) then some (.int (i * j), M) else none
  | .ref i, .int k, M => match M[i]? with
    | some (.lst a) => if -(2 ^ 63) ≤ k ∧ k < 2 ^ 63 ∧ a.length * k.toNat ≤ SL then some (.ref M.length, M ++ [.lst (List.replicate k.toNat a).flatten]) else none
    | _ => none
  | _, _, _ => none
def modD : F2
  | .int i, .int j, M => if 0 < j then some (.int (i % j), M) else none
  | _, _, _ => none
def fdivD : F2
  | .int i, .int j, M => if 0 < j ∧ j < 1073741824 then some (.int (i / j), M) else none
  | _, _, _ => none
def powD : F2
  | .int i, .int j, M => if 0 ≤ j ∧ j ≤ 1000000 ∧ i.natAbs < 2 ^ 64 then some (.int (i ^ j.toNat), M) else none
  | _, _, _ => none
def binD : Operator → F2
  | .Add => addD
  | .Sub => subD
  | .Mult => mulD
  | .Mod => modD
  | .FloorDiv => fdivD
  | .Pow => powD
  | _ => fun _ _ _ => none
section
variable {X : Cx}
theorem sqT_nil_inj {K : PySem.W.Frag} {ad : List Addr} {H : Hp} {ds : List D} {xs : List V} (h : RVs K ad H ds xs) : xs = [] ↔ ds = [] := by
  have := h.length
  cases ds <;> cases xs <;> simp at this ⊢
theorem RVs.flatRep {K : PySem.W.Frag} {ad : List Addr} {H : Hp} {ds : List D} {xs : List V} (h : RVs K ad H ds xs) : ∀ n : Nat, RVs K ad H (List.replicate n ds).flatten (List.replicate n xs).flatten
  | 0 => by simp only [List.replicate_zero, List.flatten_nil]; exact .nil
  | n + 1 => by rw [List.replicate_succ, List.replicate_succ, List.flatten_cons, List.flatten_cons]; exact h.append (RVs.flatRep h n)
theorem op_addD : OpR X (binaryOp .Add) (r2D X addD) := by
  intro pins s σ H x y v u Q I rx ry h
  obtain ⟨ad, M, M', d, e, r, R, hd, he, hf, q⟩ := h
  unfold addD at hf
  split at hf
  · cases hf
    exact op_add pins s σ H x y v u Q I rx ry ⟨_, _, rv_int hd, rv_int he, q.same R (.intI _)⟩
  · split at hf
    · rename_i hz
      cases hf
      refine op_add_str pins s σ H x y v u Q I rx ry ⟨_, _, rv_str hd, rv_str he, by rw [S_length, S_length, SL_eq]; exact hz, ?_⟩
      rw [S_append]
      exact q.same R (.strI _)
    · cases hf
  · split at hf
    · rename_i a b M hz
      cases hf
      obtain ⟨a1, xs, rfl, t1, r1⟩ := rv_tup hd
      obtain ⟨a2, ys, rfl, t2, r2⟩ := rv_tup he
      refine op_catA pins s σ H _ _ v u Q I rx ry ⟨a1, a2, xs, ys, rfl, rfl, t1, t2, by rw [← r1.length, ← r2.length, SL_eq]; exact hz, fun e => ?_, fun _ e => ?_, fun _ _ p hp => q.tup R (r1.append r2) hp⟩
      · have := (sqT_nil_inj r1).mp e
        subst this
        exact q.same R (by simpa using he)
      · have := (sqT_nil_inj r2).mp e
        subst this
        exact q.same R (by simpa using hd)
    · cases hf
  · split at hf
    · rename_i a b e1 e2
      split at hf
      · rename_i hz
        cases hf
        obtain ⟨a1, xs, rfl, g1, h1, r1⟩ := lst_of R e1 hd
        obtain ⟨a2, ys, rfl, g2, h2, r2⟩ := lst_of R e2 he
        exact op_cat pins s σ H _ _ v u Q I rx ry ⟨a1, a2, xs, ys, rfl, rfl, h1, h2, by rw [← r1.length, ← r2.length, SL_eq]; exact hz, fun p hp => q.lst R (r1.append r2) hp⟩
      · cases hf
    · cases hf
  · cases hf
theorem op_mulD : OpR X (binaryOp .Mult) (r2D X mulD) := by
  intro pins s σ H x y v u Q I rx ry h
  obtain ⟨ad, M, M', d, e, r, R, hd, he, hf, q⟩ := h
  unfold mulD at hf
  split at hf
  · split at hf
    · rename_i hc
      cases hf
      exact op_mul pins s σ H x y v u Q I rx ry ⟨_, _, rv_int hd, rv_int he, hc, q.same R (.intI _)⟩
    · cases hf
  · split at hf
    · rename_i a e1
      split at hf
      · rename_i hz
        cases hf
        obtain ⟨a1, xs, rfl, g1, h1, r1⟩ := lst_of R e1 hd
        exact op_rep pins s σ H _ _ v u Q I rx ry ⟨a1, _, xs, rfl, rv_int he, h1, hz.1, hz.2.1, by rw [← r1.length, SL_eq]; exact hz.2.2, fun p hp => q.lst R (r1.flatRep _) hp⟩
      · cases hf
    · cases hf
  · cases hf
theorem op_binD (o : Operator) : OpR X (binaryOp o) (r2D X (binD o)) := by
  cases o with
  | Add => exact op_addD
  | Mult => exact op_mulD
  | Sub =>
    intro pins s σ H x y v u Q I rx ry h
    obtain ⟨ad, M, M', d, e, r, R, hd, he, hf, q⟩ := h
    simp only [binD] at hf
    unfold subD at hf
    split at hf
    · cases hf
      exact op_sub pins s σ H x y v u Q I rx ry ⟨_, _, rv_int hd, rv_int he, q.same R (.intI _)⟩
    · cases hf
  | Mod =>
    intro pins s σ H x y v u Q I rx ry h
    obtain ⟨ad, M, M', d, e, r, R, hd, he, hf, q⟩ := h
    simp only [binD] at hf
    unfold modD at hf
    split at hf
    · split at hf
      · rename_i hc
        cases hf
        exact op_mod pins s σ H x y v u Q I rx ry ⟨_, _, rv_int hd, rv_int he, hc, q.same R (.intI _)⟩
      · cases hf
    · cases hf
  | FloorDiv =>
    intro pins s σ H x y v u Q I rx ry h
    obtain ⟨ad, M, M', d, e, r, R, hd, he, hf, q⟩ := h
    simp only [binD] at hf
    unfold fdivD at hf
    split at hf
    · split at hf
      · rename_i hc
        cases hf
        exact op_fdiv pins s σ H x y v u Q I rx ry ⟨_, _, rv_int hd, rv_int he, hc, q.same R (.intI _)⟩
      · cases hf
    · cases hf
  | Pow =>
    intro pins s σ H x y v u Q I rx ry h
    obtain ⟨ad, M, M', d, e, r, R, hd, he, hf, q⟩ := h
    simp only [binD] at hf
    unfold powD at hf
    split at hf
    · split at hf
      · rename_i hc
        cases hf
        exact op_pow pins s σ H x y v u Q I rx ry ⟨_, _, rv_int hd, rv_int he, hc, q.same R (.intI _)⟩
      · cases hf
    · cases hf
  | _ =>
    intro pins s σ H x y v u Q I rx ry h
    obtain ⟨ad, M, M', d, e, r, R, hd, he, hf, q⟩ := h
    cases hf
end

/-! ### comparisons -/
/-- the items of a tuple or list -/
def seqOf (M : Sto) : D → Option (List D)
  | .tup xs => some xs
  | d => lstOf M d
/-- x in items, by keys -/
def inItems (k : NestedKey) : List D → Option Bool
  | [] => some false
  | y :: ys => match keyB y, inItems k ys with
    | some k', some b => if min k'.depth k.depth ≤ 50 then some (NestedKey.beq k' k || b) else none
    | _, _ => none
def inD (x c : D) (M : Sto) : Option Bool := match seqOf M c with
  | some ys => match keyB x with
    | some k => inItems k ys
    | none => none
  | none => match c with
    | .ref i => match M[i]? with
      | some (.dct _ kvs) => match x, keyOf x with
        | .tup _, some k => if k.depth ≤ 8 then some (dget kvs x).isSome else none
        | _, _ => none
      | some (.dcs _ kvs) => match x with
        | .str z => some (dget kvs z).isSome
        | _ => none
      | _ => none
    | _ => none
def ordD (f : Int → Int → Bool) (x y : D) : Option Bool := match x, y with
  | .int i, .int j => some (f i j)
  | _, _ => none
def isNon : D → Bool
  | .non => true
  | _ => false
def cmpD : CmpOp → D → D → Sto → Option Bool
  | .Eq => eqD
  | .NotEq => fun x y M => (eqD x y M).map not
  | .Lt => fun x y _ => ordD (fun i j => decide (i < j)) x y
  | .LtE => fun x y _ => ordD (fun i j => decide (i ≤ j)) x y
  | .Gt => fun x y _ => ordD (fun i j => decide (j < i)) x y
  | .GtE => fun x y _ => ordD (fun i j => decide (j ≤ i)) x y
  | .Is => fun x y _ => match y with | .non => some (isNon x) | _ => none
  | .IsNot => fun x y _ => match y with | .non => some (!isNon x) | _ => none
  | .In => inD
  | .NotIn => fun x y M => (inD x y M).map not
def cmpF (o : CmpOp) : F2 := fun x y M => (cmpD o x y M).map fun b => (.bl b, M)
section
variable {X : Cx} {pins : List (Addr × Obj)} {σ : L2.St} {H : Hp} {s : Shared} {ad : List Addr} {M : Sto}
theorem seq_is (I : Inv X pins σ H s) (R : RS X.prog X.w X.K ad H M) {c : D} {v : V} {u : Value} {xs : List D} (h : RV X.K ad H c v) (r : RelV v u) (e : seqOf M c = some xs) :
    ∃ (a : Addr) (ys : List V) (its : List Value), u = .ref a ∧ RVs X.K ad H xs ys ∧ Vals ys its ∧ (s.heap.IsList a its.toArray ∨ s.heap.IsTuple a its.toArray) := by
  by_cases ht : ∃ zs, c = .tup zs
  · obtain ⟨zs, rfl⟩ := ht
    simp only [seqOf, Option.some.injEq] at e; subst e
    obtain ⟨a, ys, rfl, t, hr⟩ := rv_tup h
    cases r
    obtain ⟨its, rv, p, _⟩ := I.tuple t
    exact ⟨a, ys, its, rfl, hr, rv, .inr p⟩
  · have e' : lstOf M c = some xs := by cases c <;> simp [seqOf] at e ht ⊢ <;> exact e
    obtain ⟨a, ys, its, rfl, rfl, hq, hr, rv, p⟩ := lst_is I R h r e'
    exact ⟨a, ys, its, rfl, hr, rv, .inl p.isList⟩
open Classical in
/-- == with a key, on values -/
noncomputable def eK (h : Heap) (k : NestedKey) (u : Value) : Bool := if z : ∃ k', NestedIs h k' u then NestedKey.beq (choose z) k else false
theorem eK_eq {h : Heap} {k k' : NestedKey} {u : Value} (n : NestedIs h k' u) : eK h k u = NestedKey.beq k' k := by
  unfold eK
  have z : ∃ k', NestedIs h k' u := ⟨k', n⟩
  rw [dif_pos z, NestedIs.inj _ _ _ (Classical.choose_spec z) n]
theorem inItems_sound (I : Inv X pins σ H s) {k : NestedKey} {x : Value} (nx : NestedIs s.heap k x) {A : Around} (hu : A.units + 52 < cLine) : ∀ {ds : List D} {vs : List V} {us : List Value} {b : Bool}, RVs X.K ad H ds vs → Vals vs us → inItems k ds = some b →
    us.any (eK s.heap k) = b ∧ ∀ y ∈ us, EqAt A s y x (eK s.heap k y)
  | [], _, _, b, h, r, e => by
    rw [h.nil_inv] at r; cases r
    simp only [inItems, Option.some.injEq] at e; subst e
    exact ⟨rfl, fun y hy => by simp at hy⟩
  | d :: ds, _, _, b, h, r, e => by
    obtain ⟨v, vs, rfl, h1, h2⟩ := h.cons_inv
    cases r with
    | cons r1 r2 =>
      rw [inItems] at e
      split at e
      · rename_i k' b' e1 e2
        split at e
        · rename_i hd
          cases e
          obtain ⟨i1, i2⟩ := inItems_sound I nx hu h2 r2 e2
          have n1 := h1.nested I e1 r1
          refine ⟨by rw [List.any_cons, i1, eK_eq n1], fun y hy => ?_⟩
          rcases List.mem_cons.mp hy with rfl | hy
          · rw [eK_eq n1]; exact eqAt_key k' k A s _ _ n1 nx (by omega)
          · exact i2 y hy
        · cases e
      · cases e
theorem op_inD (hu : X.A.units + 64 < cLine) {neg : Bool} {x c : D} {b : Bool} {vx vc : V} {ux uc : Value} {Q : Value → Shared → Prop} {E : Value → Shared → Prop} (I : Inv X pins σ H s) (R : RS X.prog X.w X.K ad H M) (hx : RV X.K ad H x vx) (hc : RV X.K ad H c vc) (rx : RelV vx ux) (rc : RelV vc uc)
    (h : inD x c M = some b) (q : ∀ s', Inv X pins σ H s' → Q (.bool (if neg then !b else b)) s') : wpAny (model X.prog X.w) X.A (compareOp (if neg then .NotIn else .In) ux uc) Q E s := by
  unfold inD at h
  split at h
  · rename_i ys e
    split at h
    · rename_i k hk
      obtain ⟨a, vs, its, rfl, hr, rv, p⟩ := seq_is I R hc rc e
      have nx := hx.nested I hk rx
      obtain ⟨i1, i2⟩ := inItems_sound I nx (A := X.A.in1) (by show X.A.units + 1 + 52 < cLine; omega) hr rv h
      have he : ∀ y, y ∈ its.toArray → EqAt X.A.in1 s y ux (eK s.heap k y) := fun y hy => i2 y (by simpa using hy)
      have ha : its.toArray.any (eK s.heap k) = b := by rw [← i1]; simp
      cases neg with
      | false =>
        simp only [Bool.false_eq_true, if_false] at q ⊢
        rcases p with p | p
        · exact in_listAt _ p he (by rw [ha]; exact q s I)
        · exact in_tupleAt _ p he (by rw [ha]; exact q s I)
      | true =>
        simp only [if_true] at q ⊢
        rcases p with p | p
        · exact notIn_listAt _ p he (by rw [ha]; exact q s I)
        · exact notIn_tupleAt _ p he (by rw [ha]; exact q s I)
    · cases h
  · split at h
    · rename_i i
      split at h
      · rename_i lk kvs hM
        split at h
        · rename_i zs k hk
          split at h
          · rename_i hd
            cases h
            obtain ⟨a, rfl, ha⟩ := rv_ref hc
            cases rc
            obtain ⟨ka, ks, rfl, _⟩ := rv_tup hx
            cases rx
            obtain ⟨xs, hD, r, nd, hz', hs, hl⟩ := dct_at I (R.at_ _ _ a hM ha)
            have es := r.some hk
            cases neg with
            | false =>
              simp only [Bool.false_eq_true, if_false] at q ⊢
              exact wpAny_in_heap (nroom hu) ⟨keyOf_nested I hx hk, hd⟩ hs hD (by rw [es]; exact q _ (I.tok _))
            | true =>
              simp only [if_true] at q ⊢
              exact wpAny_notIn_heap (nroom hu) ⟨keyOf_nested I hx hk, hd⟩ hs hD (by rw [es]; exact q _ (I.tok _))
          · cases h
        · cases h
      · rename_i lk kvs hM
        split at h
        · rename_i z
          cases h
          obtain ⟨a, rfl, ha⟩ := rv_ref hc
          cases rc
          have ex := rv_str hx
          subst ex
          obtain ⟨ks, hl, r⟩ := R.at_ _ _ a hM ha
          have g : DGet H a (kV (.inr (S z))) (valV ks (.inr (S z))) := .inl ⟨ks, _, hl.rd, rfl, rfl⟩
          have es : (valV ks (Sum.inr (S z))).isSome = (dget kvs z).isSome := by
            rcases r.at z with ⟨h1, h2⟩ | ⟨d, v, h1, h2, _⟩ <;> rw [h1, h2] <;> rfl
          cases neg with
          | false =>
            simp only [Bool.false_eq_true, if_false] at q ⊢
            exact d_in (by omega) I g rx fun s' I' => by rw [es]; exact q s' I'
          | true =>
            simp only [if_true] at q ⊢
            exact d_notIn (by omega) I g rx fun s' I' => by rw [es]; exact q s' I'
        · cases h
      · cases h
    · cases h
theorem isNon_eq {d : D} {v : V} (h : RV X.K ad H d v) : decide (v = V.non) = isNon d := by
  cases d with
  | non => rw [rv_non h]; rfl
  | bl b => rw [rv_bl h]; rfl
  | int i => rw [rv_int h]; rfl
  | str x => rw [rv_str h]; rfl
  | tup ds => obtain ⟨a, xs, rfl, _⟩ := rv_tup h; rfl
  | rol ds => obtain ⟨a, xs, rfl, _⟩ := rv_rol h; rfl
  | ref i => obtain ⟨a, rfl, _⟩ := rv_ref h; rfl
end
section
variable {X : Cx}
theorem ord_ok {o : CmpOp} {f : Int → Int → Bool} (h : OpR X (compareOp o) (rI0 fun i j => .bl (f i j))) (he : ∀ x y M, cmpD o x y M = ordD f x y) : OpR X (compareOp o) (r2D X (cmpF o)) := by
  intro pins s σ H x y v u Q I rx ry hq
  obtain ⟨ad, M, M', d, e, r, R, hd, hee, hf, q⟩ := hq
  unfold cmpF at hf
  rw [he] at hf
  unfold ordD at hf
  split at hf
  · cases hf
    exact h pins s σ H x y v u Q I rx ry ⟨_, _, rv_int hd, rv_int hee, q.same R (.blI _)⟩
  · cases hf
theorem op_cmpD (hu : X.A.units + 64 < cLine) (o : CmpOp) : OpR X (compareOp o) (r2D X (cmpF o)) := by
  cases o with
  | Lt => exact ord_ok op_lt fun _ _ _ => rfl
  | LtE => exact ord_ok op_le fun _ _ _ => rfl
  | Gt => exact ord_ok op_gt fun _ _ _ => rfl
  | GtE => exact ord_ok op_ge fun _ _ _ => rfl
  | Eq =>
    intro pins s σ H x y v u Q I rx ry h
    obtain ⟨ad, M, M', d, e, r, R, hd, he, hf, q⟩ := h
    simp only [cmpF, cmpD, Option.map_eq_some_iff] at hf
    obtain ⟨b, hb, e'⟩ := hf
    cases e'
    exact (eqF_sound I R 3 X.A d e x y v u b (by omega) hd he rx ry hb).1 _ _ _ _ ⟨.bl b, H, I, rfl, q.same R (.blI _)⟩
  | NotEq =>
    intro pins s σ H x y v u Q I rx ry h
    obtain ⟨ad, M, M', d, e, r, R, hd, he, hf, q⟩ := h
    simp only [cmpF, cmpD, Option.map_eq_some_iff] at hf
    obtain ⟨b, ⟨b', hb, eb⟩, e'⟩ := hf
    cases e'
    subst eb
    exact (eqF_sound I R 3 X.A d e x y v u b' (by omega) hd he rx ry hb).2.1 _ _ _ _ ⟨.bl _, H, I, rfl, q.same R (.blI _)⟩
  | Is =>
    intro pins s σ H x y v u Q I rx ry h
    obtain ⟨ad, M, M', d, e, r, R, hd, he, hf, q⟩ := h
    simp only [cmpF, cmpD, Option.map_eq_some_iff] at hf
    obtain ⟨b, hb, e'⟩ := hf
    cases e'
    split at hb
    · cases hb
      exact op_isN pins s σ H x y v u Q I rx ry ⟨rv_non he, by rw [isNon_eq hd]; exact q.same R (.blI _)⟩
    · cases hb
  | IsNot =>
    intro pins s σ H x y v u Q I rx ry h
    obtain ⟨ad, M, M', d, e, r, R, hd, he, hf, q⟩ := h
    simp only [cmpF, cmpD, Option.map_eq_some_iff] at hf
    obtain ⟨b, hb, e'⟩ := hf
    cases e'
    split at hb
    · cases hb
      exact op_notN pins s σ H x y v u Q I rx ry ⟨rv_non he, by rw [isNon_eq hd]; exact q.same R (.blI _)⟩
    · cases hb
  | In =>
    intro pins s σ H x y v u Q I rx ry h
    obtain ⟨ad, M, M', d, e, r, R, hd, he, hf, q⟩ := h
    simp only [cmpF, cmpD, Option.map_eq_some_iff] at hf
    obtain ⟨b, hb, e'⟩ := hf
    cases e'
    exact op_inD (neg := false) hu I R hd he rx ry hb fun s' I' => ⟨.bl b, H, I', rfl, q.same R (.blI _)⟩
  | NotIn =>
    intro pins s σ H x y v u Q I rx ry h
    obtain ⟨ad, M, M', d, e, r, R, hd, he, hf, q⟩ := h
    simp only [cmpF, cmpD, Option.map_eq_some_iff] at hf
    obtain ⟨b, ⟨b', hb, eb⟩, e'⟩ := hf
    cases e'
    subst eb
    exact op_inD (neg := true) hu I R hd he rx ry hb fun s' I' => ⟨.bl (!b'), H, I', rfl, q.same R (.blI _)⟩
end
end RI
end
/-! #### RE -/
section
set_option Elab.async false
set_option linter.all false
set_option maxRecDepth 100000
set_option maxHeartbeats 4000000
/-! Part E: subscripts, stores, built-ins, methods by data. -/
namespace HT
open PySem PySem.Spec PyProof.Rows L2
section
variable {prog : Program} {w : World} {A : Around} {E : Value → Shared → Prop} {s : Shared}
theorem fm_congr {α β : Type} {f g : α → Option β} : ∀ {l : List α}, (∀ m ∈ l, f m = g m) → l.filterMap f = l.filterMap g
  | [], _ => rfl
  | a :: l, h => by
    rw [List.filterMap_cons, List.filterMap_cons, h a List.mem_cons_self, fm_congr fun m hm => h m (List.mem_cons_of_mem _ hm)]
theorem rev_pick (xs : Array Value) : ((List.range xs.size).filterMap fun (m : Nat) => xs[(((xs.size : Int) - 1) + (m : Int) * (-1)).toNat]?).toArray = xs.toList.reverse.toArray := by
  congr 1
  apply List.ext_getElem?
  intro i
  have e : (List.range xs.size).filterMap (fun (m : Nat) => xs[(((xs.size : Int) - 1) + (m : Int) * (-1)).toNat]?) = (List.range xs.size).map fun m => xs.toList.getD (xs.size - 1 - m) default := by
    rw [← List.filterMap_eq_map]
    refine fm_congr fun m hm => ?_
    have hm' : m < xs.size := by simpa using hm
    have : (((xs.size : Int) - 1) + (m : Int) * (-1)).toNat = xs.size - 1 - m := by omega
    show _ = some (xs.toList.getD (xs.size - 1 - m) default)
    rw [this, ← Array.getElem?_toList, List.getD_eq_getElem?_getD, List.getElem?_eq_getElem (by simp; omega)]
    rfl
  rw [e]
  by_cases hi : i < xs.size
  · rw [List.getElem?_map, List.getElem?_range hi, List.getElem?_reverse (by simpa using hi), Option.map_some, List.getD_eq_getElem?_getD, List.getElem?_eq_getElem (by simp; omega)]
    simp
  · rw [List.getElem?_eq_none (by simp; omega), List.getElem?_eq_none (by simp; omega)]
theorem sliceApplied_rev {sl : Addr} {vs : Value} {n : Nat} {Q : Int × Int × Nat → Shared → Prop} (hs : s.heap.IsSliceOf sl .none .none vs) (ps : IsPart vs (some (-1)))
    (h : Q (((n : Int) - 1), (-1), n) s) : wpAny (model prog w) A (Builtin.Slice.sliceApplied (.ref sl) (pure (n : Int))) Q E s := by
  obtain ⟨os, hos, hcs, hds⟩ := id hs
  cases ps with
  | int i t =>
    unfold Builtin.Slice.sliceApplied Builtin.Slice.sliceFields
    refine wpAny_bind (wpAny_bind (wpAny_field hos hds (x := .none) rfl (wpAny_bind (wpAny_field hos hds (x := .none) rfl (wpAny_bind (wpAny_field hos hds (x := .int (-1) t) rfl (wpAny_pure ?_)))))))
    refine wpAny_bind (slicePart_int ?_)
    show wpAny _ _ (if ((-1 : Int) == 0) = true then _ else _) _ _ s
    rw [if_neg (by decide)]
    refine wpAny_bind (slicePart_none (wpAny_bind (slicePart_none (wpAny_bind (wpAny_pure ?_)))))
    have e1 : Builtin.Slice.sliceAdjust none none (-1) (n : Int) = (((n : Int) - 1), (-1)) := by
      unfold Builtin.Slice.sliceAdjust
      simp
    have e2 : Builtin.Slice.slicePlaces ((n : Int) - 1) (-1) (-1) = n := by
      unfold Builtin.Slice.slicePlaces
      simp only [show ¬ ((-1 : Int) > 0) from by omega, if_false]
      by_cases hn : n = 0
      · subst hn; rfl
      · rw [if_pos (by omega)]
        simp
    show wpAny _ _ (match Builtin.Slice.sliceAdjust none none (-1) (n : Int) with | (lo, hi) => pure (lo, (-1 : Int), Builtin.Slice.slicePlaces lo hi (-1))) _ _ s
    rw [e1]
    show wpAny _ _ (pure (((n : Int) - 1), (-1 : Int), Builtin.Slice.slicePlaces ((n : Int) - 1) (-1) (-1))) _ _ s
    rw [e2]
    exact wpAny_pure h
theorem getItem_tuple_rev {t sl : Addr} {items : Array Value} {vs : Value} {Q : Value → Shared → Prop} (ht : IsTup s.heap t items) (hs : s.heap.IsSliceOf sl .none .none vs) (ps : IsPart vs (some (-1)))
    (h : Q (.ref s.heap.objs.size) { s with heap := s.heap.push { cls := .type "tuple", data := .seq items.toList.reverse.toArray } })
    (hsz : items.size ≤ sizeLine) : wpAny (model prog w) A (getItem (.ref t) (.ref sl)) Q E s := by
  have htake : sizeOk (.seq items.toList.reverse.toArray) := by
    show items.toList.reverse.toArray.size ≤ sizeLine
    simpa using hsz
  obtain ⟨os, hos, hcs, hds⟩ := id hs
  have hTs : s.TypeIs (.ref sl) "slice" := ⟨os, hos, hcs⟩
  unfold getItem
  try with_reducible refine wpAny_holding ?_
  first | refine wpAny_bind (wpAny_pure ?_) | skip
  refine wpAny_bind (wpAny_sequenceKey ht.typeIs (by decide) ?_)
  refine wpAny_bind (wpAny_callSpecial?_slot (name := Str.ofString "__getitem__") ht.typeIs PyProof.Rows.slot_tuple_getitem
    (wpAny_call_entry PyProof.Rows.slot_tuple_getitem ht.typeIs entry_tuple_getitem ?_ (args_tuple_getitem _ _)))
  show wpAny _ _ (Builtin.Tuple.tupleItemsOf (.ref t) >>= _) _ _ s
  refine wpAny_bind (tupleItemsOf_ ht ?_)
  refine wpAny_bind (wpAny_typeOf hTs ?_)
  rw [if_pos (by decide)]
  refine wpAny_bind (sliceApplied_rev hs ps ?_)
  have hno : ¬ ((((items.size : Int) - 1) == 0 && (-1 : Int) == 1 && items.size == items.size) = true) := by
    intro q
    rw [Bool.and_eq_true, Bool.and_eq_true] at q
    exact absurd q.1.2 (by decide)
  show wpAny _ _ (if (((items.size : Int) - 1) == 0 && (-1 : Int) == 1 && items.size == items.size) = true then _ else _) _ _ s
  rw [if_neg hno, rev_pick]
  first
    | exact wpAny_bind (m := Builtin.Tuple.tupleExact _) (wpAny_newObj_type (wpAny_pure ⟨_, rfl, wpAny_pure h⟩) htake)
    | exact wpAny_bind (m := Builtin.Tuple.tupleExact _) (wpAny_newObj_type (wpAny_bind (wpAny_pure (wpAny_pure ⟨_, rfl, wpAny_pure h⟩))) htake)
    | exact wpAny_bind (wpAny_bind (m := Builtin.Tuple.tupleExact _) (wpAny_newObj_type (wpAny_pure (wpAny_pure ⟨_, rfl, wpAny_pure h⟩)) htake))
    | exact wpAny_bind (wpAny_bind (m := Builtin.Tuple.tupleExact _) (wpAny_newObj_type (wpAny_pure ⟨_, rfl, wpAny_pure h⟩) htake))
end
end HT

namespace RI
open PySem PySem.Spec PyProof.Rows L2 SeqAt
/-! ### subscripts -/
def ixD : F2 := fun c i M => match seqOf M c, i with
  | some xs, .int k => (atI xs k).map (·, M)
  | some _, _ => none
  | none, i => match c with
    | .ref r => match M[r]? with
      | some (.dct _ kvs) => match i, keyOf i with
        | .tup _, some k => if k.depth ≤ 8 then (dget kvs i).map (·, M) else none
        | _, _ => none
      | some (.dcs _ kvs) => match i with
        | .str z => (dget kvs z).map (·, M)
        | _ => none
      | _ => none
    | _ => none
section
variable {X : Cx} {pins : List (Addr × Obj)} {σ : L2.St} {H : Hp} {s : Shared} {ad : List Addr} {M : Sto}
theorem RVs.atI {K : PySem.W.Frag} {ds : List D} {vs : List V} {i : Int} {d : D} (h : RVs K ad H ds vs) (e : L2.atI ds i = some d) : ∃ v, L2.atI vs i = some v ∧ RV K ad H d v := by
  unfold L2.atI at e ⊢
  rw [← h.length]
  obtain ⟨j, h1, h2⟩ := Option.bind_eq_some_iff.mp e
  obtain ⟨v, h3, h4⟩ := h.get h2
  exact ⟨v, by rw [h1]; exact h3, h4⟩
/-- a sequence, for the rules -/
theorem seq_of (R : RS X.prog X.w X.K ad H M) {c : D} {v : V} {xs : List D} (h : RV X.K ad H c v) (e : seqOf M c = some xs) : ∃ a ys, v = .ref a ∧ RVs X.K ad H xs ys ∧ (SqL X.K H a ys ∨ SqT X.K H a ys) := by
  cases c with
  | tup zs =>
    simp only [seqOf, Option.some.injEq] at e; subst e
    obtain ⟨a, ys, rfl, t, hr⟩ := rv_tup h
    exact ⟨a, ys, rfl, hr, .inr t⟩
  | rol zs =>
    simp only [seqOf, lstOf, Option.some.injEq] at e; subst e
    obtain ⟨a, ys, rfl, t, hr⟩ := rv_rol h
    exact ⟨a, ys, rfl, hr, .inl t.sq⟩
  | ref i =>
    simp only [seqOf, lstOf] at e
    split at e
    · rename_i zs z
      cases e
      obtain ⟨a, ys, rfl, ha, h1, h2⟩ := lst_of R z h
      exact ⟨a, ys, rfl, h2, .inl (SqL.of h1)⟩
    · cases e
  | _ => simp [seqOf, lstOf] at e
theorem ix_D (hu : X.A.units + 64 < cLine) : IxR X (r2D X ixD) := by
  intro value slice pins s σ H x y v u Q I rx ry h hs
  obtain ⟨ad, M, M', c, i, r, R, hc, hi, hf, q⟩ := h
  unfold ixD at hf
  split at hf
  · rename_i xs k e
    obtain ⟨d, ed, e2⟩ := Option.map_eq_some_iff.mp hf
    cases e2
    obtain ⟨a, ys, rfl, hr, t⟩ := seq_of R hc e
    obtain ⟨z, ez, hz⟩ := hr.atI ed
    have ei := rv_int hi
    subst ei
    rcases t with t | t
    · exact ix_list value slice pins s σ H _ _ v u Q I rx ry ⟨a, ys, _, z, rfl, rfl, t, ez, q.same R hz⟩ hs
    · exact ix_tup value slice pins s σ H _ _ v u Q I rx ry ⟨a, ys, _, z, rfl, rfl, t, ez, q.same R hz⟩ hs
  · cases hf
  · split at hf
    · rename_i ii
      split at hf
      · rename_i lk kvs hM
        split at hf
        · rename_i zs k hk
          split at hf
          · rename_i hd
            obtain ⟨d, ed, e2⟩ := Option.map_eq_some_iff.mp hf
            cases e2
            obtain ⟨a, rfl, ha⟩ := rv_ref hc
            cases rx
            obtain ⟨ka, ks, rfl, _⟩ := rv_tup hi
            cases ry
            obtain ⟨xs, hD, r', nd, hz', hs', hl⟩ := dct_at I (R.at_ _ _ a hM ha)
            rcases r'.at hk with ⟨h1, h2⟩ | ⟨d', ka', u', v', h1, h2, ru, rv⟩
            · rw [h1] at ed; cases ed
            · rw [h1] at ed; cases ed
              exact tail_any hD.typeIs PySem.F.slot_dict_getitem.lookup (wpAny_getItem_heap (nroom hu) ⟨keyOf_nested I hi hk, hd⟩ hD h2 ⟨v', H, I.tok _, ru, q.same R rv⟩) hs
          · cases hf
        · cases hf
      · rename_i lk kvs hM
        split at hf
        · rename_i z
          obtain ⟨d, ed, e2⟩ := Option.map_eq_some_iff.mp hf
          cases e2
          obtain ⟨a, rfl, ha⟩ := rv_ref hc
          cases rx
          have ey := rv_str hi
          subst ey
          obtain ⟨ks, hl, r'⟩ := R.at_ _ _ a hM ha
          rcases r'.at z with ⟨h1, h2⟩ | ⟨d', v', h1, h2, rv⟩
          · rw [h1] at ed; cases ed
          · rw [h1] at ed; cases ed
            have g : DGet H a (kV (.inr (S z))) (some v') := .inl ⟨ks, _, hl.rd, rfl, h2.symm⟩
            exact tail_any (dict_typeIs I g) PySem.F.slot_dict_getitem.lookup (d_getItem (by omega) I g ry fun w' s' I' rw' => ⟨v', H, I', rw', q.same R rv⟩) hs
        · cases hf
      · cases hf
    · cases hf
/-! ### slices -/
def cutD (xs : List D) (lo hi : Option Int) : List D := (xs.drop (HT.sIx xs.length 0 lo)).take (HT.sIx xs.length xs.length hi - HT.sIx xs.length 0 lo)
def slD (c : D) (lo hi : Option Int) (M : Sto) : Option (D × Sto) := match c with
  | .tup xs => some (.tup (cutD xs lo hi), M)
  | .rol xs => some (.ref M.length, M ++ [.lst (cutD xs lo hi)])
  | .ref r => match M[r]? with
    | some (.lst xs) => some (.ref M.length, M ++ [.lst (cutD xs lo hi)])
    | _ => none
  | _ => none
theorem RVs.cut {K : PySem.W.Frag} {ds : List D} {vs : List V} (h : RVs K ad H ds vs) (lo hi : Option Int) : RVs K ad H (cutD ds lo hi) (cutV vs lo hi) := by
  unfold cutD cutV
  rw [h.length]
  exact (h.drop _).take _
theorem sl_D : SlR X (fun x lo hi H Q => ∃ (ad : List Addr) (M M' : Sto) (d r : D), RS X.prog X.w X.K ad H M ∧ RV X.K ad H d x ∧ slD d lo hi M = some (r, M') ∧ Fin X ad H r M' Q) := by
  intro pins s σ H x v vl vu lo hi sl Q I rx hs pl pu h
  obtain ⟨ad, M, M', d, r, R, hd, hf, q⟩ := h
  unfold slD at hf
  split at hf
  · rename_i xs
    cases hf
    obtain ⟨a, ys, rfl, t, hr⟩ := rv_tup hd
    refine sl_tupA pins s σ H _ v vl vu lo hi sl Q I rx hs pl pu ⟨a, ys, rfl, t, fun z => ?_, fun _ p hp => q.tup R (hr.cut lo hi) hp⟩
    have e : cutD xs lo hi = xs := by
      unfold cutD
      rw [hr.length, z.1, z.2, List.drop_zero, Nat.sub_zero, ← hr.length, List.take_length]
    rw [e] at q
    exact q.same R hd
  · cases hf
    obtain ⟨a, ys, rfl, t, hr⟩ := rv_rol hd
    exact sl_list pins s σ H _ v vl vu lo hi sl Q I rx hs pl pu ⟨a, ys, rfl, t.sq, fun p hp => q.lst R (hr.cut lo hi) hp⟩
  · split at hf
    · rename_i xs hM
      cases hf
      obtain ⟨a, ys, rfl, ha, h1, hr⟩ := lst_of R hM hd
      exact sl_list pins s σ H _ v vl vu lo hi sl Q I rx hs pl pu ⟨a, ys, rfl, SqL.of h1, fun p hp => q.lst R (hr.cut lo hi) hp⟩
    · cases hf
  · cases hf
/-- t[::-1] -/
def revD : F1 := fun d M => match d with
  | .tup xs => some (.tup xs.reverse, M)
  | _ => none
theorem pe_revT {e : Expr} {te : TE} {k : Nat} {p1 p2 p3 pos : Pos} (he : PE X e te) : PE X (.Subscript e (.Slice none none (some (.UnaryOp .USub (.Constant (.int 1) k p1) p2)) p3) pos)
    (fun σ H Q => te σ H fun x H1 => ∃ a xs, x = .ref a ∧ SqT X.K H1 a xs ∧ ∀ p, H1 p = none → Q (.ref p) (upd H1 p (.tup xs.reverse))) := by
  refine ⟨fun pins s σ H Q I h => ?_⟩
  refine Subscript_ (thn (he.run pins s σ H _ I h) fun v s1 ⟨x, H1, I1, r1, q1⟩ => ?_)
  obtain ⟨a, xs, ex, hx, q⟩ := q1
  subst ex
  cases r1
  have hst : PO X (some (.UnaryOp .USub (.Constant (.int 1) k p1) p2)) (tPart (tUn (rU fun i => .int (-i)) (tC (.int 1)))) := po_some (pe_un un_neg pe_int)
  refine wpAny_Slice (thn (po_none.run pins s1 σ H1 (fun o H2 => o = none ∧ H2 = H1) I1 ⟨rfl, rfl⟩) fun vl s2 ⟨l, H2, I2, pl, el, e2⟩ => ?_)
  subst el e2
  refine thn (po_none.run pins s2 σ H2 (fun o H3 => o = none ∧ H3 = H2) I2 ⟨rfl, rfl⟩) fun vu s3 ⟨u, H3, I3, pu, eu, e3⟩ => ?_
  subst eu e3
  refine thn (hst.run pins s3 σ H3 (fun o H4 => o = some (-1) ∧ H4 = H3) I3 ⟨1, rfl, -1, rfl, rfl, rfl⟩) fun vs s4 ⟨o, H4, I4, ps, eo, e4⟩ => ?_
  subst eo e4
  have I5 : Inv X pins σ H4 { s4 with heap := s4.heap.push { cls := .type "slice", data := .fields #[vl, vu, vs] } } := I4.kept (t' := s4.toks) fun b ob q => Heap.get?_push_of_some _ q
  obtain ⟨its, r, ht, hz⟩ := I5.tuple hx
  have hlen := r.length
  cases pl
  cases pu
  show wpAny (model X.prog X.w) X.A (subscriptTail e (.Slice none none (some (.UnaryOp .USub (.Constant (.int 1) k p1) p2)) p3) (.ref a) (.ref s4.heap.objs.size)) (EP X pins σ Q) X.xe { s4 with heap := s4.heap.push { cls := .type "slice", data := .fields #[.none, .none, vs] } }
  refine tail_any (ops := [.ref a, .ref s4.heap.objs.size]) ht.typeIs (PyProof.Rows.slot_tuple_getitem.lookup) ?_ (by with_unfolding_all rfl)
  refine HT.getItem_tuple_rev ht (Heap.IsSliceOf.new _ .none .none vs) ps ?_ (by rw [List.size_toArray]; omega)
  refine ⟨.ref _, _, I5.laid (t' := s4.toks) (o := .tup xs.reverse) (fun b ob q => Heap.get?_push_of_some _ q) (Nat.le_refl _) ?_, rfl, q _ (I5.hok.fresh (Nat.le_refl _))⟩
  exact ⟨by rw [List.length_reverse]; exact hz, _, r.reverse, ⟨_, Heap.get?_push_size _ rfl, rfl, 0, rfl⟩⟩
end

/-! ### stores -/
def setD (o i v : D) (M : Sto) : Option Sto := match o with
  | .ref r => match M[r]? with
    | some (.lst xs) => match i with
      | .int k => (ixN xs.length k).map fun j => M.set r (.lst (xs.set j v))
      | _ => none
    | some (.dct false kvs) => match i, keyOf i with
      | .tup _, some k => if k.depth ≤ 8 ∧ kvs.length < SL then some (M.set r (.dct false (dput kvs i v))) else none
      | _, _ => none
    | some (.dcs false kvs) => match i with
      | .str z => if kvs.length < SL then some (M.set r (.dcs false (dput kvs z v))) else none
      | _ => none
    | _ => none
  | _ => none
section
variable {X : Cx}
theorem set_D (hu : X.A.units + 64 < cLine) : PSet X (fun o i v H Q => ∃ (ad : List Addr) (M M' : Sto) (d e f : D), RS X.prog X.w X.K ad H M ∧ RV X.K ad H d o ∧ RV X.K ad H e i ∧ RV X.K ad H f v ∧ setD d e f M = some M' ∧
    ∀ (H' : Hp), Nxt ad H ad H' → RS X.prog X.w X.K ad H' M' → Q H') := by
  intro pins s σ H o i v ov iv u Q I ro ri rv h
  obtain ⟨ad, M, M', d, e, f, R, hd, he, hv, hf, q⟩ := h
  unfold setD at hf
  split at hf
  · rename_i r
    split at hf
    · rename_i xs hM
      split at hf
      · rename_i k
        obtain ⟨j, hj, e2⟩ := Option.map_eq_some_iff.mp hf
        subst e2
        obtain ⟨a, ys, rfl, ha, h1, hr⟩ := lst_of R hM hd
        have ei := rv_int he
        subst ei
        refine set_list pins s σ H _ _ v ov iv u Q I ro ri rv ⟨a, ys, k, j, rfl, rfl, h1, by rw [← hr.length]; exact hj, ?_⟩
        have x : Ext H (upd H a (.lst (ys.set j v))) := .write h1 (fun _ z => by cases z) fun _ _ z => by cases z
        exact q _ (.write (List.mem_of_getElem? ha) h1 (fun _ z => by cases z) fun _ _ z => by cases z) (R.write ha x ⟨_, upd_same, (hr.set j hv).mono (fun _ _ e => e) x⟩)
      · cases hf
    · rename_i kvs hM
      split at hf
      · rename_i zs k hk
        split at hf
        · rename_i hg
          cases hf
          obtain ⟨a, rfl, ha⟩ := rv_ref hd
          cases ro
          obtain ⟨ka, ks, rfl, _⟩ := rv_tup he
          cases ri
          exact dct_set hu I R hM ha hk hg.1 he rv hv hg.2 fun H' s' I' n R' => ⟨H', I', q H' n R'⟩
        · cases hf
      · cases hf
    · rename_i kvs hM
      split at hf
      · rename_i z
        split at hf
        · rename_i hg
          cases hf
          obtain ⟨a, rfl, ha⟩ := rv_ref hd
          cases ro
          have ei := rv_str he
          subst ei
          obtain ⟨ks, hl, r'⟩ := R.at_ _ _ a hM ha
          have hH : H a = some (.dK ks) := by unfold lkd at hl; simpa using hl
          have x : Ext H (upd H a (.dK (putK ks (.inr (S z)) v))) := .write hH (fun _ z => by cases z) fun _ _ z => by cases z
          refine d_setItem (by omega) I (y := kV (.inr (S z))) (H' := upd H a (.dK (putK ks (.inr (S z)) v))) (DPut.k hH (by rw [← r'.length, SL_eq]; exact hg)) ri rv fun s' I' => ⟨_, I', ?_⟩
          exact q _ (.write (List.mem_of_getElem? ha) hH (fun _ z => by cases z) fun _ _ z => by cases z) (R.write ha x ⟨_, by unfold lkd; simp [upd_same], (r'.put z hv).mono (fun _ _ e => e) x⟩)
        · cases hf
      · cases hf
    · cases hf
  · cases hf
end

/-! ### built-ins -/
inductive BI where
  | len | abs | int | max | min | all | any | tuple | list | sum
  deriving DecidableEq
def intsOf : List D → Option (List Int)
  | [] => some []
  | .int i :: r => (intsOf r).map (i :: ·)
  | _ :: _ => none
def blsOf : List D → Option (List Bool)
  | [] => some []
  | .bl i :: r => (blsOf r).map (i :: ·)
  | _ :: _ => none
def maxL : List Int → Int
  | [] => 0
  | [x] => x
  | x :: y :: r => if maxL (y :: r) > x then maxL (y :: r) else x
theorem maxL_spec : ∀ {ns : List Int}, ns ≠ [] → maxL ns ∈ ns ∧ ∀ y ∈ ns, y ≤ maxL ns
  | [], h => absurd rfl h
  | [x], _ => by simp [maxL]
  | x :: y :: r, _ => by
    obtain ⟨h1, h2⟩ := maxL_spec (ns := y :: r) (by simp)
    unfold maxL
    split
    · exact ⟨List.mem_cons_of_mem _ h1, fun z hz => by
        rcases List.mem_cons.mp hz with rfl | hz
        · omega
        · exact h2 z hz⟩
    · exact ⟨List.mem_cons_self, fun z hz => by
        rcases List.mem_cons.mp hz with rfl | hz
        · omega
        · have := h2 z hz; omega⟩
def biD : BI → FN
  | .len, [d], M => match seqOf M d with
    | some xs => some (.int (xs.length : Int), M)
    | none => match d with
      | .str x => if x.length ≤ SL then some (.int (x.length : Int), M) else none
      | .ref r => match M[r]? with
        | some (.dcs _ kvs) => some (.int (kvs.length : Int), M)
        | _ => none
      | _ => none
  | .abs, [.int i], M => some (.int (if i < 0 then -i else i), M)
  | .int, [.int i], M => some (.int i, M)
  | .int, [.bl b], M => some (.int (if b = true then 1 else 0), M)
  | .max, [.int i, .int j], M => some (.int (if j > i then j else i), M)
  | .max, [d], M => match lstOf M d with
    | some xs => match intsOf xs with
      | some ns => if ns = [] then none else some (.int (maxL ns), M)
      | none => none
    | none => none
  | .min, [.int i, .int j], M => some (.int (if j < i then j else i), M)
  | .all, [d], M => match lstOf M d with
    | some xs => (blsOf xs).map fun bs => (.bl (bs.all id), M)
    | none => none
  | .any, [d], M => match lstOf M d with
    | some xs => (blsOf xs).map fun bs => (.bl (bs.any id), M)
    | none => none
  | .sum, [d], M => match lstOf M d with
    | some xs => (intsOf xs).map fun ns => (.int ns.sum, M)
    | none => none
  | .tuple, [.tup xs], M => some (.tup xs, M)
  | .tuple, [d], M => match lstOf M d with
    | some xs => some (.tup xs, M)
    | none => none
  | .list, [d], M => match seqOf M d with
    | some xs => some (.ref M.length, M ++ [.lst xs])
    | none => none
  | _, _, _ => none
/-- the value that the built-in's name holds -/
def BI.val : BI → Value
  | .len => .builtin "len"
  | .abs => .builtin "abs"
  | .int => .type "int"
  | .max => .builtin "max"
  | .min => .builtin "min"
  | .all => .builtin "all"
  | .any => .builtin "any"
  | .sum => .builtin "sum"
  | .tuple => .type "tuple"
  | .list => .type "list"
section
variable {X : Cx} {ad : List Addr} {H : Hp} {M : Sto}
theorem intsOf_rv : ∀ {ds : List D} {vs : List V} {ns : List Int}, RVs X.K ad H ds vs → intsOf ds = some ns → vs = ns.map V.int ∧ ns.length = ds.length
  | [], _, _, h, e => by simp only [intsOf, Option.some.injEq] at e; subst e; exact ⟨h.nil_inv, rfl⟩
  | d :: ds, _, ns, h, e => by
    obtain ⟨v, vs, rfl, h1, h2⟩ := h.cons_inv
    cases d with
    | int i =>
      obtain ⟨ms, e1, rfl⟩ := Option.map_eq_some_iff.mp (show (intsOf ds).map (i :: ·) = some ns from e)
      obtain ⟨e2, e3⟩ := intsOf_rv h2 e1
      exact ⟨by rw [rv_int h1, e2]; rfl, by simp [e3]⟩
    | _ => simp [intsOf] at e
theorem blsOf_rv : ∀ {ds : List D} {vs : List V} {ns : List Bool}, RVs X.K ad H ds vs → blsOf ds = some ns → vs = ns.map V.bl
  | [], _, _, h, e => by simp only [blsOf, Option.some.injEq] at e; subst e; exact h.nil_inv
  | d :: ds, _, ns, h, e => by
    obtain ⟨v, vs, rfl, h1, h2⟩ := h.cons_inv
    cases d with
    | bl i =>
      obtain ⟨ms, e1, rfl⟩ := Option.map_eq_some_iff.mp (show (blsOf ds).map (i :: ·) = some ns from e)
      rw [rv_bl h1, blsOf_rv h2 e1]; rfl
    | _ => simp [blsOf] at e
theorem rvs1 {d : D} {vs : List V} (h : RVs X.K ad H [d] vs) : ∃ v, vs = [v] ∧ RV X.K ad H d v := by
  obtain ⟨v, r, rfl, h1, h2⟩ := h.cons_inv
  rw [h2.nil_inv]; exact ⟨v, rfl, h1⟩
theorem rvs2 {d e : D} {vs : List V} (h : RVs X.K ad H [d, e] vs) : ∃ v u, vs = [v, u] ∧ RV X.K ad H d v ∧ RV X.K ad H e u := by
  obtain ⟨v, r, rfl, h1, h2⟩ := h.cons_inv
  obtain ⟨u, rfl, h3⟩ := rvs1 h2
  exact ⟨v, u, rfl, h1, h3⟩
theorem lst_sq (R : RS X.prog X.w X.K ad H M) {c : D} {v : V} {xs : List D} (h : RV X.K ad H c v) (e : lstOf M c = some xs) : ∃ a ys, v = .ref a ∧ RVs X.K ad H xs ys ∧ SqL X.K H a ys := by
  cases c with
  | rol zs =>
    simp only [lstOf, Option.some.injEq] at e; subst e
    obtain ⟨a, ys, rfl, t, hr⟩ := rv_rol h
    exact ⟨a, ys, rfl, hr, t.sq⟩
  | ref i =>
    simp only [lstOf] at e
    split at e
    · rename_i zs z
      cases e
      obtain ⟨a, ys, rfl, ha, h1, h2⟩ := lst_of R z h
      exact ⟨a, ys, rfl, h2, SqL.of h1⟩
    · cases e
  | _ => simp [lstOf] at e
theorem call_biD (hc : X.calm = true) (b : BI) : CallR X b.val (rND X (biD b)) := by
  intro pins s σ H xs us Q I r h
  obtain ⟨ad, M, M', ds, rr, R, hd, hf, q⟩ := h
  unfold biD at hf
  split at hf
  · rename_i d M0
    obtain ⟨v, rfl, hv⟩ := rvs1 hd
    split at hf
    · rename_i xs e
      cases hf
      obtain ⟨a, ys, rfl, hr, t⟩ := seq_of R hv e
      exact call_len_seq pins s σ H _ us Q I r ⟨a, ys, rfl, t, by rw [← hr.length]; exact q.same R (.intI _)⟩
    · split at hf
      · split at hf
        · rename_i hz
          cases hf
          have ev := rv_str hv
          subst ev
          exact call_len pins s σ H _ us Q I r ⟨_, _, rfl, ⟨by rw [S_length, SL_eq]; exact hz, rfl⟩, by rw [S_length]; exact q.same R (.intI _)⟩
        · cases hf
      · split at hf
        · rename_i kvs hM
          cases hf
          obtain ⟨a, rfl, ha⟩ := rv_ref hv
          obtain ⟨ks, hl, r'⟩ := R.at_ _ _ a hM ha
          obtain ⟨u, rfl, ru⟩ := vals1 r
          cases ru
          exact d_len I hl.rd fun t s' I' => ⟨.int ks.length, H, I', ⟨_, rfl⟩, by rw [← r'.length]; exact q.same R (.intI _)⟩
        · cases hf
      · cases hf
  · cases hf
    obtain ⟨v, rfl, hv⟩ := rvs1 hd
    rw [rv_int hv] at r
    exact call_abs pins s σ H _ us Q I r ⟨_, rfl, q.same R (.intI _)⟩
  · cases hf
    obtain ⟨v, rfl, hv⟩ := rvs1 hd
    rw [rv_int hv] at r
    exact call_int1 pins s σ H _ us Q I r (.inl ⟨_, rfl, q.same R (.intI _)⟩)
  · cases hf
    obtain ⟨v, rfl, hv⟩ := rvs1 hd
    rw [rv_bl hv] at r
    exact call_int1 pins s σ H _ us Q I r (.inr ⟨_, rfl, q.same R (.intI _)⟩)
  · cases hf
    obtain ⟨v, u, rfl, hv, hu⟩ := rvs2 hd
    rw [rv_int hv, rv_int hu] at r
    exact call_max2 hc pins s σ H _ us Q I r ⟨_, _, rfl, q.same R (.intI _)⟩
  · rename_i d M0 hn
    obtain ⟨v, rfl, hv⟩ := rvs1 hd
    split at hf
    · rename_i xs e
      split at hf
      · rename_i ns en
        split at hf
        · cases hf
        · rename_i hne
          cases hf
          obtain ⟨a, ys, rfl, hr, t⟩ := lst_sq R hv e
          obtain ⟨e1, e2⟩ := intsOf_rv hr en
          rw [e1] at t
          refine cr_max hc pins s σ H _ us Q I r ⟨a, ns, rfl, t, List.length_pos_iff.mpr hne, fun m h1 h2 => ?_⟩
          obtain ⟨g1, g2⟩ := maxL_spec hne
          have : m = maxL ns := Int.le_antisymm (g2 m h1) (h2 _ g1)
          rw [this]
          exact q.same R (.intI _)
      · cases hf
    · cases hf
  · cases hf
    obtain ⟨v, u, rfl, hv, hu⟩ := rvs2 hd
    rw [rv_int hv, rv_int hu] at r
    exact call_min2 hc pins s σ H _ us Q I r ⟨_, _, rfl, q.same R (.intI _)⟩
  · obtain ⟨v, rfl, hv⟩ := rvs1 hd
    split at hf
    · rename_i xs e
      obtain ⟨bs, eb, e2⟩ := Option.map_eq_some_iff.mp hf
      cases e2
      obtain ⟨a, ys, rfl, hr, t⟩ := lst_sq R hv e
      rw [blsOf_rv hr eb] at t
      exact cr_all hc pins s σ H _ us Q I r ⟨a, bs, rfl, t, q.same R (.blI _)⟩
    · cases hf
  · obtain ⟨v, rfl, hv⟩ := rvs1 hd
    split at hf
    · rename_i xs e
      obtain ⟨bs, eb, e2⟩ := Option.map_eq_some_iff.mp hf
      cases e2
      obtain ⟨a, ys, rfl, hr, t⟩ := lst_sq R hv e
      rw [blsOf_rv hr eb] at t
      exact cr_any hc pins s σ H _ us Q I r ⟨a, bs, rfl, t, q.same R (.blI _)⟩
    · cases hf
  · obtain ⟨v, rfl, hv⟩ := rvs1 hd
    split at hf
    · rename_i xs e
      obtain ⟨bs, eb, e2⟩ := Option.map_eq_some_iff.mp hf
      cases e2
      obtain ⟨a, ys, rfl, hr, t⟩ := lst_sq R hv e
      rw [(intsOf_rv hr eb).1] at t
      exact cr_sum hc pins s σ H _ us Q I r ⟨a, bs, rfl, t, q.same R (.intI _)⟩
    · cases hf
  · cases hf
    obtain ⟨v, rfl, hv⟩ := rvs1 hd
    obtain ⟨a, ys, rfl, t, hr⟩ := rv_tup hv
    exact call_tuple_of pins s σ H _ us Q I r ⟨a, ys, rfl, .inr ⟨t, q.same R hv⟩⟩
  · obtain ⟨v, rfl, hv⟩ := rvs1 hd
    split at hf
    · rename_i xs e
      cases hf
      obtain ⟨a, ys, rfl, hr, t⟩ := lst_sq R hv e
      exact call_tuple_of pins s σ H _ us Q I r ⟨a, ys, rfl, .inl ⟨t, fun l hl => q.tup R hr hl⟩⟩
    · cases hf
  · obtain ⟨v, rfl, hv⟩ := rvs1 hd
    split at hf
    · rename_i xs e
      cases hf
      obtain ⟨a, ys, rfl, hr, t⟩ := seq_of R hv e
      exact call_list_of pins s σ H _ us Q I r ⟨a, ys, rfl, t, fun l hl => q.lst R hr hl⟩
    · cases hf
  · cases hf
end

/-! ### isinstance -/
inductive Ty where
  | tuple | str | int | bool | list
  deriving DecidableEq
def Ty.nm : Ty → String
  | .tuple => "tuple"
  | .str => "str"
  | .int => "int"
  | .bool => "bool"
  | .list => "list"
/-- what a value is: None, a bool .. -/
inductive Kn where
  | non | bl | int | str | tup | lst
def kindOf (M : Sto) : D → Option Kn
  | .non => some .non
  | .bl _ => some .bl
  | .int _ => some .int
  | .str _ => some .str
  | .tup _ => some .tup
  | .rol _ => some .lst
  | .ref r => match M[r]? with
    | some (.lst _) => some .lst
    | _ => none
def isTy : Ty → Kn → Bool
  | .tuple, .tup => true
  | .str, .str => true
  | .int, .int => true
  | .int, .bl => true
  | .bool, .bl => true
  | .list, .lst => true
  | _, _ => false
def isinD (t : Ty) : F1 := fun d M => (kindOf M d).map fun k => (.bl (isTy t k), M)
def Kn.nm : Kn → String
  | .non => "NoneType"
  | .bl => "bool"
  | .int => "int"
  | .str => "str"
  | .tup => "tuple"
  | .lst => "list"
theorem kit_all (t : Ty) (k : Kn) : kitB k.nm t.nm = some (isTy t k) := by cases t <;> cases k <;> decide +kernel
section
variable {X : Cx} {ad : List Addr} {H : Hp} {M : Sto}
theorem tyx_of (R : RS X.prog X.w X.K ad H M) {d : D} {v : V} {k : Kn} (h : RV X.K ad H d v) (e : kindOf M d = some k) : TyX X.K H v (.type k.nm) := by
  cases d with
  | non => cases e; rw [rv_non h]; exact .base .non
  | bl b => cases e; rw [rv_bl h]; exact .base (.bl b)
  | int i => cases e; rw [rv_int h]; exact .base (.int i)
  | str x => cases e; rw [rv_str h]; exact .base (.str _)
  | tup ds =>
    cases e
    obtain ⟨a, xs, rfl, t, _⟩ := rv_tup h
    rcases t with (t | ⟨o, t⟩) | ⟨o, its, n, t, hc, _⟩
    · exact .base (.tup t)
    · exact .fTuple t
    · exact .kTuple t hc
  | rol ds =>
    cases e
    obtain ⟨a, xs, rfl, t, _⟩ := rv_rol h
    rcases t with ⟨o, t⟩ | ⟨o, its, n, t, hc, _⟩
    · exact .base (.frz t)
    · exact .kList t hc
  | ref r =>
    simp only [kindOf] at e
    split at e
    · rename_i xs hM
      cases e
      obtain ⟨a, ys, rfl, ha, h1, _⟩ := lst_of R hM h
      exact .base (.lst h1)
    · cases e
theorem call_isinD (t : Ty) : CallR X (.builtin "isinstance") (fun xs H Q => ∃ x, xs = [x, .ty t.nm] ∧ ∃ (ad : List Addr) (M M' : Sto) (d r : D), RS X.prog X.w X.K ad H M ∧ RV X.K ad H d x ∧ isinD t d M = some (r, M') ∧ Fin X ad H r M' Q) := by
  intro pins s σ H xs us Q I r h
  obtain ⟨x, rfl, ad, M, M', d, rr, R, hd, hf, q⟩ := h
  obtain ⟨k, ek, e2⟩ := Option.map_eq_some_iff.mp hf
  cases e2
  exact call_isi pins s σ H _ us Q I r ⟨x, _, _, _, _, rfl, .ty _, tyx_of R hd ek, kit_ty (kit_all t k), q.same R (.blI _)⟩
end

/-! ### methods -/
def TyS (X : Cx) (T : String) (x : V) (H : Hp) : Prop := ∀ (pins : List (Addr × Obj)) (σ : L2.St) (s : Shared) (v : Value), Inv X pins σ H s → RelV x v → s.TypeIs v T ∧ ∀ a, v = .ref a → ∃ o, s.heap.get? a = some o ∧ o.dict = none
section
variable {X : Cx} {o e : Expr} {es : List Expr} {to : TE} {t : TA} {name : Str} {apos cpos : Pos} {T id : String} {r : V → List V → Hp → VK → Prop}
theorem pe_bmS0 (pa : PlainAttrs T) (slot : Slot T name id) (hty : typeOf (.builtin id) = pure (.type "method_descriptor")) (hm : MtR X id r) (ho : PE X o to)
    (hbase : attributeBase o name X.env (eval o X.env) = eval o X.env) (hline : (apos.endLine == cpos.line) = true) : PE X (.Call (.Attribute o name apos) [] [] cpos) (fun σ H Q => to σ H fun x H1 => TyS X T x H1 ∧ r x [] H1 Q) := by
  refine ⟨fun pins s σ H Q I h => ?_⟩
  refine wpAny_Call_method0_late hbase hline (thn (ho.run pins s σ H _ I h) fun v s1 ⟨x, H1, I1, r1, ty, q1⟩ => ?_)
  obtain ⟨h1, h2⟩ := ty pins σ s1 v I1 r1
  exact ⟨T, id, pa, slot, hty, h1, h2, Calls.callWith_builtin rfl (PySem.evalArgs_none (hm pins s1 σ H1 x [] v [] Q I1 r1 .nil q1))⟩
theorem pe_bmS (pa : PlainAttrs T) (slot : Slot T name id) (hty : typeOf (.builtin id) = pure (.type "method_descriptor")) (hm : MtR X id r) (ho : PE X o to) (ha : PA X (e :: es) t)
    (hbase : attributeBase o name X.env (eval o X.env) = eval o X.env)
    (hfew : ((backTo cpos (starEach (e :: es) X.env)).all (fun x => !x.1) && (backToKw cpos (keywordEach [] X.env)).all (fun x => x.1.isSome)
      && decide ((e :: es).length + ([] : List Keyword).length + (if ([] : List Keyword).isEmpty then 0 else 1) < 30)) = true)
    (hline : (apos.endLine == cpos.line) = true) (hs : starEach (e :: es) X.env = (false, eval e X.env) :: starEach es X.env) (hplain : (backTo cpos (starEach es X.env)).any (·.1) = false) :
    PE X (.Call (.Attribute o name apos) (e :: es) [] cpos) (fun σ H Q => to σ H fun x H1 => TyS X T x H1 ∧ t σ H1 fun xs H2 => r x xs H2 Q) := by
  refine ⟨fun pins s σ H Q I h => ?_⟩
  refine wpAny_Call_method_late hbase hfew hline rfl (thn (ho.run pins s σ H _ I h) fun v s1 ⟨x, H1, I1, r1, ty, q1⟩ => ?_)
  obtain ⟨h1, h2⟩ := ty pins σ s1 v I1 r1
  refine ⟨T, id, pa, slot, hty, h1, h2, ?_⟩
  have hA := ha.run cpos pins s1 σ H1 _ I1 q1
  rw [hs] at hA ⊢
  refine Calls.callWith_builtin (by show (false || (backTo cpos (starEach es X.env)).any (·.1)) = false; rw [hplain] <;> rfl) (Calls.evalArgs_plain ?_)
  exact thn hA fun us s2 ⟨vs, H2, I2, r2, q2⟩ => hm pins s2 σ H2 x vs v us Q I2 r1 r2 q2
end
inductive ME where
  | append | pop | get
  deriving DecidableEq
def ME.ty : ME → String
  | .append => "list"
  | .pop => "list"
  | .get => "dict"
/-- what the receiver must be -/
def meT (m : ME) (M : Sto) : D → Bool
  | .ref r => match m, M[r]? with
    | .append, some (.lst _) => true
    | .pop, some (.lst _) => true
    | .get, some (.dct _ _) => true
    | .get, some (.dcs _ _) => true
    | _, _ => false
  | _ => false
def getD (r : Nat) (k x : D) (M : Sto) : Option (D × Sto) := match M[r]? with
  | some (.dct _ kvs) => match k, keyOf k with
    | .tup _, some nk => if nk.depth ≤ 8 then some ((dget kvs k).getD x, M) else none
    | _, _ => none
  | some (.dcs _ kvs) => match k with
    | .str z => some ((dget kvs z).getD x, M)
    | _ => none
  | _ => none
def meD : ME → D → FN
  | .append, .ref r, [x], M => match M[r]? with
    | some (.lst xs) => if xs.length < SL then some (.non, M.set r (.lst (xs ++ [x]))) else none
    | _ => none
  | .pop, .ref r, [], M => match M[r]? with
    | some (.lst xs) => match xs[xs.length - 1]? with
      | some y => some (y, M.set r (.lst xs.dropLast))
      | none => none
    | _ => none
  | .get, .ref r, [k, x], M => getD r k x M
  | .get, .ref r, [k], M => getD r k .non M
  | _, _, _, _ => none
section
variable {X : Cx} {ad : List Addr} {H : Hp} {M : Sto}
theorem meT_ok (R : RS X.prog X.w X.K ad H M) {m : ME} {d : D} {x : V} (h : RV X.K ad H d x) (e : meT m M d = true) : TyS X m.ty x H := by
  intro pins σ s v I r
  cases d with
  | ref i =>
    obtain ⟨a, rfl, ha⟩ := rv_ref h
    cases r
    have lcase : ∀ xs, M[i]? = some (.lst xs) → s.TypeIs (.ref a) "list" ∧ ∀ b, Value.ref a = .ref b → ∃ o, s.heap.get? b = some o ∧ o.dict = none := by
      intro xs hM
      obtain ⟨ys, h1, _⟩ := R.at_ _ _ a hM ha
      obtain ⟨its, _, pl, _⟩ := I.list (SqL.of h1)
      refine ⟨pl.isList.typeIs, fun b z => ?_⟩
      cases z
      obtain ⟨o, n, e, c, hd, _⟩ := pl
      exact ⟨o, e, hd⟩
    have dcase : ∀ lk kvs, M[i]? = some (.dct lk kvs) → s.TypeIs (.ref a) "dict" ∧ ∀ b, Value.ref a = .ref b → ∃ o, s.heap.get? b = some o ∧ o.dict = none := by
      intro lk kvs hM
      obtain ⟨xs, ⟨o, es, ep, ho, ex, _⟩, _⟩ := dct_at I (R.at_ _ _ a hM ha)
      refine ⟨⟨o, ho, ex.1⟩, fun b z => ?_⟩
      cases z
      exact ⟨o, ho, ex.2.1⟩
    have scase : ∀ lk kvs, M[i]? = some (.dcs lk kvs) → s.TypeIs (.ref a) "dict" ∧ ∀ b, Value.ref a = .ref b → ∃ o, s.heap.get? b = some o ∧ o.dict = none := by
      intro lk kvs hM
      obtain ⟨ks, hl, _⟩ := R.at_ _ _ a hM ha
      obtain ⟨_, _, vs, _, ⟨o, es, ep, ho, ex, _⟩⟩ := dk_rd I.hok hl.rd
      refine ⟨⟨o, ho, ex.1⟩, fun b z => ?_⟩
      cases z
      exact ⟨o, ho, ex.2.1⟩
    simp only [meT] at e
    split at e
    · exact lcase _ (by assumption)
    · exact lcase _ (by assumption)
    · exact dcase _ _ (by assumption)
    · exact scase _ _ (by assumption)
    · cases e
  | _ => simp [meT] at e
theorem get_D (hu : X.A.units + 64 < cLine) {pins : List (Addr × Obj)} {σ : L2.St} {s : Shared} (I : Inv X pins σ H s) (R : RS X.prog X.w X.K ad H M) {r : Nat} {a : Addr} {k x rr : D} {M' : Sto} {vk vx : V} {uk ux : Value} {Q : VK} (ha : ad[r]? = some a) (hk : RV X.K ad H k vk) (hx : RV X.K ad H x vx) (rk : RelV vk uk) (rx : RelV vx ux)
    (e : getD r k x M = some (rr, M')) (q : Fin X ad H rr M' Q) : wpAny (model X.prog X.w) X.A (call (.builtin "dict.get") [.ref a, uk, ux]) (EP X pins σ Q) X.xe s := by
  unfold getD at e
  split at e
  · rename_i lk kvs hM
    split at e
    · rename_i zs nk ek
      split at e
      · rename_i hd
        cases e
        obtain ⟨ka, ks, rfl, _⟩ := rv_tup hk
        cases rk
        obtain ⟨xs, hD, r', nd, hz', hs', hl⟩ := dct_at I (R.at_ _ _ a hM ha)
        refine call_meetsIn PySem.F.slot_dict_get hD.typeIs PySem.F.entry_dict_get (PySem.F.args_dict_get_3 _ _ _) (meetsH_dict_get_default (nestedKind X.prog X.w) a ka hs' ux) ⟨nroom hu, nk, xs, ⟨keyOf_nested I hk ek, hd⟩, hD, ?_⟩
        rcases r'.at ek with ⟨h1, h2⟩ | ⟨d', ka', u', v', h1, h2, ru, rv⟩
        · rw [h2]
          rw [h1] at q
          exact ⟨vx, H, I.tok _, rx, q.same R hx⟩
        · rw [h2]
          rw [h1] at q
          exact ⟨v', H, I.tok _, ru, q.same R rv⟩
      · cases e
    · cases e
  · rename_i lk kvs hM
    split at e
    · rename_i z
      cases e
      have ek := rv_str hk
      subst ek
      obtain ⟨ks, hl, r'⟩ := R.at_ _ _ a hM ha
      rcases r'.at z with ⟨h1, h2⟩ | ⟨d', v', h1, h2, rv⟩
      · have g : DGet H a (kV (.inr (S z))) none := .inl ⟨ks, _, hl.rd, rfl, h2.symm⟩
        rw [h1] at q
        exact d_get2 (by omega) I g rk rx fun w' s' I' rw' => ⟨vx, H, I', rw', q.same R hx⟩
      · have g : DGet H a (kV (.inr (S z))) (some v') := .inl ⟨ks, _, hl.rd, rfl, h2.symm⟩
        rw [h1] at q
        exact d_get2 (by omega) I g rk rx fun w' s' I' rw' => ⟨v', H, I', rw', q.same R rv⟩
    · cases e
  · cases e
theorem get_D1 (hu : X.A.units + 64 < cLine) {pins : List (Addr × Obj)} {σ : L2.St} {s : Shared} (I : Inv X pins σ H s) (R : RS X.prog X.w X.K ad H M) {r : Nat} {a : Addr} {k rr : D} {M' : Sto} {vk : V} {uk : Value} {Q : VK} (ha : ad[r]? = some a) (hk : RV X.K ad H k vk) (rk : RelV vk uk)
    (e : getD r k .non M = some (rr, M')) (q : Fin X ad H rr M' Q) : wpAny (model X.prog X.w) X.A (call (.builtin "dict.get") [.ref a, uk]) (EP X pins σ Q) X.xe s := by
  unfold getD at e
  split at e
  · rename_i lk kvs hM
    split at e
    · rename_i zs nk ek
      split at e
      · rename_i hd
        cases e
        obtain ⟨ka, ks, rfl, _⟩ := rv_tup hk
        cases rk
        obtain ⟨xs, hD, r', nd, hz', hs', hl⟩ := dct_at I (R.at_ _ _ a hM ha)
        refine call_meetsIn PySem.F.slot_dict_get hD.typeIs PySem.F.entry_dict_get (PySem.F.args_dict_get_2 _ _) (meetsH_dict_get (nestedKind X.prog X.w) a ka hs') ⟨nroom hu, nk, xs, ⟨keyOf_nested I hk ek, hd⟩, hD, ?_⟩
        rcases r'.at ek with ⟨h1, h2⟩ | ⟨d', ka', u', v', h1, h2, ru, rv⟩
        · rw [h2]
          rw [h1] at q
          exact ⟨.non, H, I.tok _, rfl, q.same R .nonI⟩
        · rw [h2]
          rw [h1] at q
          exact ⟨v', H, I.tok _, ru, q.same R rv⟩
      · cases e
    · cases e
  · rename_i lk kvs hM
    split at e
    · rename_i z
      cases e
      have ek := rv_str hk
      subst ek
      obtain ⟨ks, hl, r'⟩ := R.at_ _ _ a hM ha
      rcases r'.at z with ⟨h1, h2⟩ | ⟨d', v', h1, h2, rv⟩
      · have g : DGet H a (kV (.inr (S z))) none := .inl ⟨ks, _, hl.rd, rfl, h2.symm⟩
        rw [h1] at q
        exact d_get1 (by omega) I g rk fun w' s' I' rw' => ⟨.non, H, I', rw', q.same R .nonI⟩
      · have g : DGet H a (kV (.inr (S z))) (some v') := .inl ⟨ks, _, hl.rd, rfl, h2.symm⟩
        rw [h1] at q
        exact d_get1 (by omega) I g rk fun w' s' I' rw' => ⟨v', H, I', rw', q.same R rv⟩
    · cases e
  · cases e
def ME.id : ME → String
  | .append => "list.append"
  | .pop => "list.pop"
  | .get => "dict.get"
theorem mt_D (hu : X.A.units + 64 < cLine) (m : ME) : MtR X m.id (rMD X (meD m)) := by
  intro pins s σ H x xs v us Q I rx rxs h
  obtain ⟨ad, M, M', d, ds, rr, R, hd, hds, hf, q⟩ := h
  unfold meD at hf
  split at hf
  · split at hf
    · rename_i zs hM
      split at hf
      · rename_i hz
        cases hf
        obtain ⟨a, ys, rfl, ha, h1, hr⟩ := lst_of R hM hd
        obtain ⟨y, rfl, hy⟩ := rvs1 hds
        exact mt_append pins s σ H _ _ v us Q I rx rxs ⟨a, ys, y, rfl, rfl, h1, by rw [← hr.length, SL_eq]; exact hz, q.write R ha h1 (hr.append (.cons hy .nil)) .nonI⟩
      · cases hf
    · cases hf
  · split at hf
    · rename_i zs hM
      split at hf
      · rename_i y ey
        cases hf
        obtain ⟨a, ys, rfl, ha, h1, hr⟩ := lst_of R hM hd
        obtain ⟨vy, g1, g2⟩ := hr.get ey
        have hl : RVs X.K ad H zs.dropLast ys.dropLast := by
          rw [List.dropLast_eq_take, List.dropLast_eq_take, hr.length]
          exact hr.take _
        exact mt_pop pins s σ H _ _ v us Q I rx rxs ⟨a, ys, vy, rfl, hds.nil_inv, h1, by rw [← hr.length]; exact g1, q.write R ha h1 hl g2⟩
      · cases hf
    · cases hf
  · obtain ⟨a, rfl, ha⟩ := rv_ref hd
    cases rx
    obtain ⟨vk, vx, rfl, hk, hx⟩ := rvs2 hds
    obtain ⟨uk, ux, rfl, rk, rx'⟩ := vals2 rxs
    exact get_D hu I R ha hk hx rk rx' hf q
  · obtain ⟨a, rfl, ha⟩ := rv_ref hd
    cases rx
    obtain ⟨vk, rfl, hk⟩ := rvs1 hds
    obtain ⟨uk, rfl, rk⟩ := vals1 rxs
    exact get_D1 hu I R ha hk rk hf q
  · cases hf
end
end RI
end
/-! #### RF -/
section
set_option Elab.async false
set_option linter.all false
set_option maxRecDepth 100000
set_option maxHeartbeats 4000000
/-! Part F: iterators by data. -/
namespace RI
open PySem PySem.Spec PyProof.Rows L2 SeqAt

/-! ### enumerate of a tuple -/
/-- the tuple at a, each item in a new pair -/
def Itet (K : PySem.W.Frag) (a : Addr) : It :=
  ⟨fun i H => ∃ (xs : List V) (x : V), SqT K H a xs ∧ xs[i]? = some x, fun i H v H' => ∃ T x, v = .ref T ∧ H T = none ∧ H' = upd H T (.tup [.int (i : Nat), x]) ∧ ∀ xs, SqT K H a xs → xs[i]? = some x, fun i H => ∃ xs : List V, SqT K H a xs ∧ xs.length ≤ i⟩
theorem tup_ne_iter {h : Heap} {a it : Addr} {items : Array Value} {i : Nat} (p : h.IsTuple a items) (q : h.IsTupleIter it a i) : a ≠ it := by
  intro e; subst e
  obtain ⟨o, h1, h2, _⟩ := p
  obtain ⟨o', h3, h4, _⟩ := q
  rw [h1] at h3; cases h3
  rw [h2] at h4
  exact absurd (Value.type.inj h4) (by decide)
theorem tup_ne_enum {h : Heap} {a e it : Addr} {items : Array Value} {i : Int} {old : Value} (p : h.IsTuple a items) (q : IsEnum h e it i old) : e ≠ a := by
  intro z; subst z
  obtain ⟨o, h1, h2, _⟩ := p
  have h3 : h.get? e = some _ := q
  rw [h1] at h3; cases h3
  exact absurd (Value.type.inj h2) (by decide)
theorem turn_enumT {P : Program} {w : World} {K : PySem.W.Frag} {elts : List Expr} {kk : Nat} {tpos : Pos} (a e it : Addr) :
    Turn P w K (.Tuple elts kk tpos) (Itet K a) [e, it] e (fun i h => (∃ old, IsEnum h e it ((i : Nat) : Int) old) ∧ h.IsTupleIter it a i ∧ e ≠ it) where
  mem := by simp
  obj := fun i h st b hb => by
    obtain ⟨⟨old, he⟩, ⟨o, ho, hc, hd⟩, _⟩ := st
    have e' : b = e ∨ b = it := by simpa using hb
    rcases e' with z | z
    · rw [z]; exact ⟨_, he, fun v q => nomatch q⟩
    · rw [z]; exact ⟨o, ho, fun v q => by rw [hd] at q; cases q⟩
  keep := fun i h h' st k => let ⟨⟨old, he⟩, hi, hne⟩ := st; ⟨⟨old, k e (by simp) _ he⟩, hi.at fun o q => k it (by simp) o q, hne⟩
  item := by
    intro X hP hw hK hc i pins s σ H E I hf st hg
    subst hP hw hK
    obtain ⟨⟨old, he⟩, hit, hne⟩ := st
    obtain ⟨xs, x, hq, hx⟩ := hg
    obtain ⟨its, rv, p, hz⟩ := I.tuple hq
    have pt : s.heap.IsTuple a its.toArray := p
    obtain ⟨u, hu, ru⟩ := rv.get hx
    have hel : e < s.heap.objs.size := Heap.lt_size he
    have hil : it < s.heap.objs.size := by obtain ⟨_, q, _⟩ := hit; exact Heap.lt_size q
    have hh : X.A.in1.handled = none := I.ok.hd hc
    have hlt : i < its.toArray.size := by
      have := (List.getElem?_eq_some_iff.mp hu).1
      simpa using this
    refine wpAny_pyNext_enum_itemD (Draws.tuple (prog := X.prog) (w := X.w) hh it a (tup_ne_iter pt hit) its.toArray) he ⟨hit, pt⟩ hlt hne (by
      simp only [List.mem_cons, List.mem_singleton, List.not_mem_nil, or_false, not_or]
      exact ⟨hne, tup_ne_enum pt he⟩) fun u' h' tk hP ho hit' hT hsz hk => ?_
    have hu' : u' = u := by
      have hP' : its.toArray[i]? = some u' := hP
      have : its.toArray[i]? = some u := by simpa using hu
      rw [hP'] at this; exact Option.some.inj this
    subst hu'
    refine ⟨_, rfl, wpAny_letOwnedTupleGo_enum (s := { s with heap := h', toks := tk + 1 }) ho fun h'' he' sb => ?_⟩
    have hT2 : h''.get? s.heap.objs.size = some { cls := .type "tuple", data := .seq #[.int i tk, u'] } := (sb.2 _ (Nat.ne_of_gt hel)).trans hT
    have new : ObjOk X.prog X.w (upd H s.heap.objs.size (.tup [.int (i : Nat), x])) h'' s.heap.objs.size (.tup [.int (i : Nat), x]) :=
      ⟨by show 2 ≤ sizeLine; decide, [.int i tk, u'], .cons ⟨_, rfl⟩ (.cons ru .nil), ⟨_, hT2, rfl, _, rfl⟩⟩
    have I1 : Inv X pins σ (upd H s.heap.objs.size (.tup [.int (i : Nat), x])) { s with heap := h'', toks := tk + 1 } :=
      I.turnedNew (ch := [e, it]) (fun b ob hb q => (sb.2 b (fun z => hb (by simp [z]))).trans (hk b ob (fun z => hb (by simp [z])) (fun z => hb (by simp [z])) q)) hf (Nat.le_refl _) new
    refine ⟨.ref s.heap.objs.size, _, I1, rfl, ⟨_, x, rfl, I.hok.fresh (Nat.le_refl _), rfl, fun ys hy => by rw [I.tuple_inj hy hq]; exact hx⟩, ⟨⟨u', ?_⟩, hit'.1.at fun o q => (sb.2 it (Ne.symm hne)).trans q, hne⟩, fun b hb => ?_⟩
    · have e1 : ((i + 1 : Nat) : Int) = (i : Int) + 1 := by omega
      rw [e1]; exact he'
    · have hb' : b < s.heap.objs.size := by
        have e' : b = e ∨ b = it := by simpa using hb
        rcases e' with z | z
        · rw [z]; exact hel
        · rw [z]; exact hil
      rw [upd_ne (Nat.ne_of_lt hb')]
      exact (hf b hb).1
  done := by
    intro X hP hw hK hc i pins s σ H E I hf st hg
    subst hP hw hK
    obtain ⟨⟨old, he⟩, hit, hne⟩ := st
    obtain ⟨xs, hq, hx⟩ := hg
    obtain ⟨its, rv, p, hz⟩ := I.tuple hq
    have pt : s.heap.IsTuple a its.toArray := p
    obtain ⟨f0, f1, f2, f3, f4, f5⟩ := hf it (by simp)
    have hl := rv.length
    have hT : s.TypeIs (.ref e) "enumerate" := ⟨_, he, rfl⟩
    unfold pyNext
    refine wpAny_bind (wpAny_attempt (wpAny_callSpecial?_slot (name := Str.ofString "__next__") hT F.slot_enumerate_next
      (wpAny_call_entry F.slot_enumerate_next hT F.entry_enumerate_next ?_ (F.args_enumerate_next_1 _))))
    show wpAny _ _ (field (.ref e) 2 >>= _) _ _ _
    refine wpAny_bind (wpAny_field he rfl (x := .ref it) rfl ?_)
    refine wpAny_bind (wpAny_nextOf_tuple_end (I.ok.hd hc) hit pt (by simp; omega) fun h' x he' hx' => ?_)
    obtain ⟨o, ho, hc⟩ := hx'
    refine wpAny_bind (wpAny_isInstance (T := "StopIteration") (b := true) ⟨o, ho, hc⟩ isSubtype_stop ?_)
    exact wpAny_pure ⟨rfl, I.turned (t' := s.toks) (fun b o hb q => he' b o hb q) f0 f1 f3 f4 f5⟩
  self := fun A i s Q E st h => let ⟨⟨_, he⟩, _⟩ := st; wpAny_pyIter_enum he h
set_option maxHeartbeats 1000000 in
theorem meets_enumerate_newB1 {v : Value} {o : Obj} {H : Heap → Prop} (B : Begins v o H) :
    Meets (Builtin.«enumerate.__new__» ⟨[.type "enumerate", v], []⟩) (fun _ R s => H s.heap ∧
      R (.ok (.ret (.ref (s.heap.push o).objs.size))) { s with heap := (s.heap.push o).push { cls := .type "enumerate", data := .fields #[.none, .bool false, .ref s.heap.objs.size, rawInt 0, .none, .none] } }) :=
  .of_wp fun prog w A R s h => by
    obtain ⟨hp, g, d, tk, os⟩ := s; obtain ⟨h1, h⟩ := h
    have hsub := sub_enumerate
    have q1 : ∀ {A' : Around} {E : Value → Shared → Prop} {Q : Value → Shared → Prop}, Q (.ref hp.objs.size) ⟨hp.push o, g, d, tk, os⟩ → wpAny (model prog w) A' (pyIter v) Q E ⟨hp, g, d, tk, os⟩ :=
      fun q => B.iter prog w _ _ ⟨hp, g, d, tk, os⟩ _ h1 q
    wp_walk using q1
    refine wpAny_stack_any fun st => wpAny_pure ?_
    split
    · rename_i c _ _ _ _ _
      cases (c == Value.type "enumerate")
      · wp_walk using q1
        exact ⟨_, rfl, h⟩
      · wp_walk using q1
        exact ⟨_, rfl, h⟩
    · wp_walk using q1
      exact ⟨_, rfl, h⟩
theorem enum_begins1 {prog : Program} {w : World} {A : Around} {E : Value → Shared → Prop} {s : Shared} {v : Value} {o : Obj} {H : Heap → Prop} {Q : Value → Shared → Prop} (B : Begins v o H) (h1 : H s.heap)
    (h : ∀ h', IsEnum h' (s.heap.objs.size + 1) s.heap.objs.size 0 .none → h'.get? s.heap.objs.size = some o → h'.objs.size = s.heap.objs.size + 2 →
      (∀ b o, s.heap.get? b = some o → h'.get? b = some o) → Q (.ref (s.heap.objs.size + 1)) { s with heap := h' }) :
    wpAny (model prog w) A (call (.type "enumerate") [v]) Q E s := by
  refine callType_new F.called_enumerate (by decide) (F.typeCall_enumerate_1 _) (F.newCall_enumerate_1 _) (fun obj => F.args_object_init_2 obj _) F.entry_enumerate_new
    (meets_enumerate_newB1 B) ⟨h1, ?_⟩
  have hz : (s.heap.push o).objs.size = s.heap.objs.size + 1 := Heap.size_push ..
  show _ ∧ _
  rw [hz]
  have he : IsEnum ((s.heap.push o).push { cls := .type "enumerate", data := .fields #[.none, .bool false, .ref s.heap.objs.size, rawInt 0, .none, .none] }) (s.heap.objs.size + 1) s.heap.objs.size 0 .none := by
    have := Heap.get?_push_size (s.heap.push o) (o := { cls := .type "enumerate", data := .fields #[.none, .bool false, .ref s.heap.objs.size, rawInt 0, .none, .none] }) rfl
    rw [hz] at this; exact this
  refine ⟨⟨_, he, rfl⟩, h _ he (Heap.get?_push_of_some _ (Heap.get?_push_size _ B.free)) (by rw [Heap.size_push, hz]) fun b o x => Heap.get?_push_of_some _ (Heap.get?_push_of_some _ x)⟩
/-- enumerate of a list or a tuple -/
def iEnumA (K : PySem.W.Frag) (ta : TA) : TI := fun σ H R => ta σ H fun vs H1 => ∃ a xs, vs = [.ref a] ∧ ((SqL K H1 a xs ∧ R (Ite K a) H1) ∨ (SqT K H1 a xs ∧ R (Itet K a) H1))
theorem pi_enumA {X : Cx} {e : Expr} {ta : TA} {p pos tpos : Pos} {elts : List Expr} {kk : Nat} (hg : Gl X "enumerate") (hm : X.mg "enumerate" = none) (ha : PA X [e] ta) (hs : starEach [e] X.env = [(false, eval e X.env)]) :
    PI X (.Tuple elts kk tpos) (.Call (.Name "enumerate" p) [e] [] pos) (iEnumA X.K ta) := by
  refine ⟨fun pins s σ H R I h => ?_⟩
  refine Call_ (ld_blt I hg hm boot_enumerate (PyProof.Rows.callWith_type1 (thn (ha.run pos pins s σ H _ I h) fun us s1 ⟨vs, H1, I1, r1, q1⟩ => ?_) hs rfl))
  obtain ⟨a, xs, ex, q⟩ := q1
  subst ex
  cases r1 with
  | cons r rr =>
    cases rr
    cases r
    rcases q with ⟨hq, q⟩ | ⟨hq, q⟩
    · obtain ⟨its, rv, p', hz⟩ := I1.list hq
      refine call_enumerate_list p'.isList fun h' he hit hsz hk => wpAny_pyIter_enum he ?_
      have I2 : Inv X pins σ H1 { s1 with heap := h' } := I1.kept (t' := s1.toks) hk
      refine ⟨s1.heap.objs.size + 1, [s1.heap.objs.size + 1, s1.heap.objs.size], _, _, H1, rfl, I2, turn_enum a (s1.heap.objs.size + 1) s1.heap.objs.size, ⟨⟨.none, he⟩, hit, Nat.succ_ne_self _⟩, fun b hb => ?_, q⟩
      have e' : b = s1.heap.objs.size + 1 ∨ b = s1.heap.objs.size := by simpa using hb
      have hle : s1.heap.objs.size ≤ b := by
        rcases e' with z | z
        · rw [z]; exact Nat.le_add_right _ _
        · rw [z]; exact Nat.le_refl _
      exact I1.fpOk hle (I1.hok.fresh hle)
    · obtain ⟨its, rv, p', hz⟩ := I1.tuple hq
      refine enum_begins1 (begins_tuple a its.toArray) p' fun h' he hit hsz hk => wpAny_pyIter_enum he ?_
      have I2 : Inv X pins σ H1 { s1 with heap := h' } := I1.kept (t' := s1.toks) hk
      refine ⟨s1.heap.objs.size + 1, [s1.heap.objs.size + 1, s1.heap.objs.size], _, _, H1, rfl, I2, turn_enumT a (s1.heap.objs.size + 1) s1.heap.objs.size, ⟨⟨.none, he⟩, ⟨_, hit, rfl, rfl⟩, Nat.succ_ne_self _⟩, fun b hb => ?_, q⟩
      have e' : b = s1.heap.objs.size + 1 ∨ b = s1.heap.objs.size := by simpa using hb
      have hle : s1.heap.objs.size ≤ b := by
        rcases e' with z | z
        · rw [z]; exact Nat.le_add_right _ _
        · rw [z]; exact Nat.le_refl _
      exact I1.fpOk hle (I1.hok.fresh hle)
/-- a list or a tuple, by its value -/
def iSeq (K : PySem.W.Frag) (tl : TE) : TI := fun σ H R => tl σ H fun x H1 => ∃ a xs, x = .ref a ∧ ((SqL K H1 a xs ∧ R (Itl K a) H1) ∨ (SqT K H1 a xs ∧ R (Itt K a) H1))
theorem pi_seq {X : Cx} {tg l : Expr} {tl : TE} (hl : PE X l tl) : PI X tg l (iSeq X.K tl) := by
  refine ⟨fun pins s σ H R I h => ?_⟩
  refine thn (hl.run pins s σ H _ I h) fun v s1 ⟨x, H1, I1, r1, a, xs, ex, q⟩ => ?_
  have I1' := I1
  rcases q with ⟨hq, q⟩ | ⟨hq, q⟩
  · subst ex
    obtain rfl : v = Value.ref a := r1
    obtain ⟨its, rv, p', hz⟩ := I1.list hq
    refine wpAny_pyIter_list p'.isList ?_
    exact pi_one (tk := s1.toks) I1 _ (turn_list a _) ⟨_, Heap.get?_push_size _ rfl, rfl, rfl⟩ q
  · subst ex
    obtain rfl : v = Value.ref a := r1
    obtain ⟨its, rv, p', hz⟩ := I1.tuple hq
    refine wpAny_pyIter_tuple p' ?_
    exact pi_one (tk := s1.toks) I1 _ (turn_tuple a _) ⟨_, Heap.get?_push_size _ rfl, rfl, rfl⟩ q
/-! ### the keys of a locked dict with tuple keys -/
section
variable {X : Cx} {pins : List (Addr × Obj)} {σ : L2.St} {H : Hp} {s : Shared} {d : Addr} {o : Obj} {xs : List (NestedKey × Addr × Value)}
theorem frzX (I : Inv X pins σ H s) (h : H d = some (.frz o (.ext (dFi X.prog X.w d xs)))) :
    s.heap.get? d = some o ∧ o.ExactDict ∧ ∃ ep, o.data = .dict (xs.map (entryOfKey (nestedKind X.prog X.w))).toArray ep := by
  obtain ⟨hd, ⟨o', ep, ho, hx, hdt⟩, _⟩ := I.hok d _ h
  rw [hd] at ho
  cases ho
  exact ⟨hd, hx, ep, hdt⟩
end
def Itkx (P : Program) (w : World) (d : Addr) (o : Obj) (xs : List (NestedKey × Addr × Value)) : It :=
  ⟨fun i H => H d = some (.frz o (.ext (dFi P w d xs))) ∧ i < xs.length, fun i H x H' => H' = H ∧ ∃ p, xs[i]? = some p ∧ x = .ref p.2.1, fun i H => H d = some (.frz o (.ext (dFi P w d xs))) ∧ xs.length ≤ i⟩
theorem turn_keysX {P : Program} {w : World} {K : PySem.W.Frag} {tg : Expr} {d : Addr} {o : Obj} {ep : Nat} {xs : List (NestedKey × Addr × Value)} (it : Addr) (hod : o.data = .dict (xs.map (entryOfKey (nestedKind P w))).toArray ep) : Turn P w K tg (Itkx P w d o xs) [it] it (fun i h => h.IsKeyIter it d i xs.length ep) where
  mem := by simp
  obj := fun i h st b hb => by
    have e : b = it := by simpa using hb
    subst e
    obtain ⟨oi, e, c, dd⟩ := st
    exact ⟨oi, e, fun v z => by rw [dd] at z; cases z⟩
  keep := fun i h h' st k => st.at fun oi e => k it (by simp) oi e
  item := by
    intro X hP hw hK hc i pins s σ H E I hf st hg
    subst hP hw hK
    obtain ⟨hd, hi⟩ := hg
    obtain ⟨f0, f1, f2, f3, f4, f5⟩ := hf it (by simp)
    obtain ⟨hgd, hx, ep', hdt⟩ := frzX I hd
    refine next_key_item (en := entryOfKey (nestedKind X.prog X.w) xs[i]) st hgd hod (by simp) (by simp [hi]) fun h' st' sb => ?_
    have I1 : Inv X pins σ H { s with heap := h' } := I.turned (t' := s.toks) (fun b ob hb e => (sb.2 b hb).trans e) f0 f1 f3 f4 f5
    obtain ⟨oi, e, c, dd⟩ := id st'
    exact ⟨_, rfl, go_of (s := { s with heap := h' }) e c dd (by decide) ⟨.ref xs[i].2.1, H, I1, rfl, ⟨rfl, xs[i], List.getElem?_eq_getElem hi, rfl⟩, st', fun b hb => (hf b hb).1⟩⟩
  done := by
    intro X hP hw hK hc i pins s σ H E I hf st hg
    subst hP hw hK
    obtain ⟨hd, hi⟩ := hg
    obtain ⟨f0, f1, f2, f3, f4, f5⟩ := hf it (by simp)
    obtain ⟨hgd, hx, ep', hdt⟩ := frzX I hd
    exact next_key_end (I.ok.hd hc) st hgd hod (by simp) hi fun h' eb => ⟨rfl, I.turned (t' := s.toks) (fun b ob hb e => eb b ob hb e) f0 f1 f3 f4 f5⟩
  self := fun A i s Q E st h => by
    refine wpAny_pyIter_slot st.typeIs F.slot_dict_keyiterator_iter (wpAny_call_entry F.slot_dict_keyiterator_iter st.typeIs F.entry_dict_keyiterator_iter ?_ (F.args_dict_keyiterator_iter_1 _))
    show wpAny _ _ (ret (.ref it)) _ _ s
    exact wpAny_pure ⟨_, rfl, "dict_keyiterator", _, st.typeIs, F.slot_dict_keyiterator_next.lookup, h⟩
def iKeysX (P : Program) (w : World) (td : TE) : TI := fun σ H R => td σ H fun x H1 => ∃ d o xs, x = .ref d ∧ (d == sysModules) = false ∧ H1 d = some (.frz o (.ext (dFi P w d xs))) ∧ R (Itkx P w d o xs) H1
theorem pi_keysX {X : Cx} {tg e : Expr} {td : TE} (he : PE X e td) : PI X tg e (iKeysX X.prog X.w td) := by
  refine ⟨fun pins s σ H R I h => ?_⟩
  refine thn (he.run pins s σ H _ I h) fun u s1 ⟨x, H1, I1, rx, d, o, xs, ex, hs, hd, q⟩ => ?_
  subst ex
  obtain rfl : u = Value.ref d := rx
  obtain ⟨hgd, hx, ep, hdt⟩ := frzX I1 hd
  refine iter_keys hs hgd hx hdt (pi_one (tk := s1.toks) I1 _ (turn_keysX _ hdt) ⟨_, Heap.get?_push_size _ rfl, rfl, ?_⟩ q)
  simp

/-! ### the readings of an expression, a test, arguments by data -/
abbrev En := List (Option D)
/-- the slots known hold their data -/
def RE (X : Cx) (ad : List Addr) (H : Hp) (env : En) (σ : L2.St) : Prop := env.length = σ.length ∧ ∀ (i : Nat) (d : D), env[i]? = some (some d) → ∃ v, σ[i]? = some (some v) ∧ RV X.K ad H d v
theorem RE.mono {X : Cx} {ad ad' : List Addr} {H H' : Hp} {env : En} {σ : L2.St} (p : Pre ad ad') (x : Ext H H') (r : RE X ad H env σ) : RE X ad' H' env σ :=
  ⟨r.1, fun i d e => let ⟨v, h1, h2⟩ := r.2 i d e; ⟨v, h1, h2.mono p x⟩⟩
theorem RE.nxt {X : Cx} {ad ad' : List Addr} {H H' : Hp} {env : En} {σ : L2.St} (n : Nxt ad H ad' H') (r : RE X ad H env σ) : RE X ad' H' env σ := r.mono n.pre n.ext
theorem RE.set {X : Cx} {ad : List Addr} {H : Hp} {env : En} {σ : L2.St} {d : D} {v : V} (r : RE X ad H env σ) (i : Nat) (h : RV X.K ad H d v) : RE X ad H (env.set i (some d)) (σ.set i (some v)) := by
  refine ⟨by simp [r.1], fun j e he => ?_⟩
  by_cases hj : i = j
  · subst hj
    have hl : i < env.length := by simpa using (List.getElem?_eq_some_iff.mp he).1
    rw [List.getElem?_set_self hl] at he
    cases he
    exact ⟨v, List.getElem?_set_self (by rw [← r.1]; exact hl), h⟩
  · rw [List.getElem?_set_ne hj] at he ⊢
    exact r.2 j e he
theorem RE.wipe1 {X : Cx} {ad : List Addr} {H : Hp} {env : En} {σ : L2.St} (r : RE X ad H env σ) (i : Nat) : RE X ad H (env.set i none) (σ.set i none) := by
  refine ⟨by simp [r.1], fun j e he => ?_⟩
  by_cases hj : i = j
  · subst hj
    have hl : i < env.length := by simpa using (List.getElem?_eq_some_iff.mp he).1
    rw [List.getElem?_set_self hl] at he
    cases he
  · rw [List.getElem?_set_ne hj] at he ⊢
    exact r.2 j e he
def wipeE (env : En) : List Nat → En
  | [] => env
  | v :: vs => (wipeE env vs).set v none
theorem RE.wipe {X : Cx} {ad : List Addr} {H : Hp} {env : En} {σ : L2.St} (r : RE X ad H env σ) : ∀ vs : List Nat, RE X ad H (wipeE env vs) (L2.wipe σ vs)
  | [] => r
  | v :: vs => by unfold wipeE L2.wipe; exact (RE.wipe r vs).wipe1 v

abbrev EF := En → Sto → Option (D × Sto)
abbrev AF := En → Sto → Option (List D × Sto)
def TEf (X : Cx) (f : EF) : TE := fun σ H Q => ∃ (env : En) (ad : List Addr) (M M' : Sto) (r : D), RE X ad H env σ ∧ RS X.prog X.w X.K ad H M ∧ f env M = some (r, M') ∧ Fin X ad H r M' Q
def FinA (X : Cx) (ad : List Addr) (H : Hp) (rs : List D) (M' : Sto) (Q : List V → Hp → Prop) : Prop := ∀ (vs : List V) (H' : Hp) (ad' : List Addr), Nxt ad H ad' H' → RS X.prog X.w X.K ad' H' M' → RVs X.K ad' H' rs vs → Q vs H'
def TAf (X : Cx) (f : AF) : TA := fun σ H Q => ∃ (env : En) (ad : List Addr) (M M' : Sto) (rs : List D), RE X ad H env σ ∧ RS X.prog X.w X.K ad H M ∧ f env M = some (rs, M') ∧ FinA X ad H rs M' Q
def FinB (X : Cx) (ad : List Addr) (H : Hp) (b : Bool) (M' : Sto) (Q : Bool → Hp → Prop) : Prop := ∀ (H' : Hp) (ad' : List Addr), Nxt ad H ad' H' → RS X.prog X.w X.K ad' H' M' → Q b H'
abbrev BF := En → Sto → Option (Bool × Sto)
def TTf (X : Cx) (f : BF) : TT := fun σ H Q => ∃ (env : En) (ad : List Addr) (M M' : Sto) (b : Bool), RE X ad H env σ ∧ RS X.prog X.w X.K ad H M ∧ f env M = some (b, M') ∧ FinB X ad H b M' Q
theorem Fin.trans {X : Cx} {ad ad' : List Addr} {H H' : Hp} {r : D} {M : Sto} {Q : VK} (n : Nxt ad H ad' H') (q : Fin X ad H r M Q) : Fin X ad' H' r M Q := fun v H2 ad2 n2 R2 h2 => q v H2 ad2 (n.trans n2) R2 h2
theorem FinA.trans {X : Cx} {ad ad' : List Addr} {H H' : Hp} {r : List D} {M : Sto} {Q : List V → Hp → Prop} (n : Nxt ad H ad' H') (q : FinA X ad H r M Q) : FinA X ad' H' r M Q := fun v H2 ad2 n2 R2 h2 => q v H2 ad2 (n.trans n2) R2 h2
theorem FinB.trans {X : Cx} {ad ad' : List Addr} {H H' : Hp} {r : Bool} {M : Sto} {Q : Bool → Hp → Prop} (n : Nxt ad H ad' H') (q : FinB X ad H r M Q) : FinB X ad' H' r M Q := fun H2 ad2 n2 R2 => q H2 ad2 (n.trans n2) R2
section
variable {X : Cx} {e : Expr}
theorem imp_PE {t t' : TE} (h : PE X e t) (k : ∀ σ H Q, t' σ H Q → t σ H Q) : PE X e t' := ⟨fun pins s σ H Q I hw => h.run pins s σ H Q I (k σ H Q hw)⟩
theorem imp_PT {t t' : TT} (h : PT X e t) (k : ∀ σ H Q, t' σ H Q → t σ H Q) : PT X e t' := ⟨fun pins s σ H Q I hw => h.run pins s σ H Q I (k σ H Q hw)⟩
theorem imp_PW {t t' : TT} (h : PW X e t) (k : ∀ σ H Q, t' σ H Q → t σ H Q) : PW X e t' := ⟨fun whole pins s σ H Q I hw => h.run whole pins s σ H Q I (k σ H Q hw)⟩
theorem imp_PA {es : List Expr} {t t' : TA} (h : PA X es t) (k : ∀ σ H Q, t' σ H Q → t σ H Q) : PA X es t' := ⟨fun pos pins s σ H Q I hw => h.run pos pins s σ H Q I (k σ H Q hw)⟩
theorem imp_PS {st : Stmt} {t t' : TS} (h : PS X st t) (k : ∀ D σ H, t' D σ H → t D σ H) : PS X st t' := ⟨fun pins s σ H D I hw => h.run pins s σ H D I (k D σ H hw)⟩
theorem imp_PSs {st : List Stmt} {t t' : TS} (h : PSs X st t) (k : ∀ D σ H, t' D σ H → t D σ H) : PSs X st t' := ⟨fun pins s σ H D I hw => h.run pins s σ H D I (k D σ H hw)⟩
theorem imp_PI {tg : Expr} {t t' : TI} (h : PI X tg e t) (k : ∀ σ H R, t' σ H R → t σ H R) : PI X tg e t' := ⟨fun pins s σ H R I hw => h.run pins s σ H R I (k σ H R hw)⟩
end
/-! ### iterators by data -/
abbrev Gd := List (Nat × MO)
def gdB (gs : Gd) (M : Sto) : Bool := gs.all fun p => decide (M[p.1]? = some p.2)
structure ItOk (X : Cx) (J : It) (ad0 : List Addr) (H0 : Hp) (gs : Gd) (items : List D) : Prop where
  go : ∀ (ad : List Addr) (H : Hp) (M : Sto) (i : Nat) (d : D), Nxt ad0 H0 ad H → RS X.prog X.w X.K ad H M → gdB gs M = true → items[i]? = some d → J.go i H ∧ ∀ x H', J.yld i H x H' → Nxt ad H ad H' ∧ RS X.prog X.w X.K ad H' M ∧ RV X.K ad H' d x
  stop : ∀ (ad : List Addr) (H : Hp) (M : Sto) (i : Nat), Nxt ad0 H0 ad H → RS X.prog X.w X.K ad H M → gdB gs M = true → items.length ≤ i → J.stop i H
abbrev IF := En → Sto → Option ((Gd × List D) × Sto)
def TIf (X : Cx) (f : IF) : TI := fun σ H R => ∃ (env : En) (ad : List Addr) (M M' : Sto) (gs : Gd) (items : List D), RE X ad H env σ ∧ RS X.prog X.w X.K ad H M ∧ f env M = some ((gs, items), M') ∧ 
  ∀ (J : It) (H' : Hp) (ad' : List Addr), Nxt ad H ad' H' → RS X.prog X.w X.K ad' H' M' → ItOk X J ad' H' gs items → R J H'
/-- what a for runs over: a list of the store (it must stay), a tuple, a read-only list -/
def srcOf (M : Sto) (d : D) : Option (Gd × List D) := match d with
  | .tup xs => some ([], xs)
  | .rol xs => some ([], xs)
  | .ref r => match M[r]? with
    | some (.lst xs) => some ([(r, .lst xs)], xs)
    | _ => none
  | _ => none
theorem gd_one {r : Nat} {o : MO} {M : Sto} (h : gdB [(r, o)] M = true) : M[r]? = some o := by simpa [gdB] using h
/-- its kinds: a sequence at an address -/
theorem src_ok {X : Cx} {ad : List Addr} {H : Hp} {M : Sto} (R : RS X.prog X.w X.K ad H M) {d : D} {v : V} {gs : Gd} {items : List D} (h : RV X.K ad H d v) (e : srcOf M d = some (gs, items)) :
    ∃ a xs, v = .ref a ∧ ((SqL X.K H a xs ∧ ∀ (ad' : List Addr) (H' : Hp) (M' : Sto), Nxt ad H ad' H' → RS X.prog X.w X.K ad' H' M' → gdB gs M' = true → ∃ ys, SqL X.K H' a ys ∧ RVs X.K ad' H' items ys) ∨
      (gs = [] ∧ SqT X.K H a xs ∧ RVs X.K ad H items xs)) := by
  unfold srcOf at e
  split at e
  · cases e
    obtain ⟨a, xs, rfl, t, r⟩ := rv_tup h
    exact ⟨a, xs, rfl, .inr ⟨rfl, t, r⟩⟩
  · cases e
    obtain ⟨a, xs, rfl, t, r⟩ := rv_rol h
    exact ⟨a, xs, rfl, .inl ⟨t.sq, fun ad' H' M' n _ _ => ⟨xs, (n.ext.roL t).sq, r.nxt n⟩⟩⟩
  · rename_i r
    split at e
    · rename_i xs hM
      cases e
      obtain ⟨a, ys, rfl, ha, hH, hr⟩ := lst_of R hM h
      refine ⟨a, ys, rfl, .inl ⟨.of hH, fun ad' H' M' n R' g => ?_⟩⟩
      obtain ⟨zs, h1, h2⟩ := R'.at_ _ _ a (gd_one g) (n.pre _ _ ha)
      exact ⟨zs, .of h1, h2⟩
    · cases e
  · cases e
theorem seq_itOk {X : Cx} {ad : List Addr} {H : Hp} {gs : Gd} {items : List D} {a : Addr} (k : ∀ (ad' : List Addr) (H' : Hp) (M' : Sto), Nxt ad H ad' H' → RS X.prog X.w X.K ad' H' M' → gdB gs M' = true → ∃ ys, SqL X.K H' a ys ∧ RVs X.K ad' H' items ys) :
    ItOk X (Itl X.K a) ad H gs items where
  go := fun ad' H' M i d n R g e => by
    obtain ⟨ys, h1, h2⟩ := k ad' H' M n R g
    obtain ⟨v, h3, h4⟩ := h2.get e
    refine ⟨⟨ys, v, h1, h3⟩, fun x H2 y => ?_⟩
    obtain ⟨rfl, y⟩ := y
    have := y ys h1
    rw [h3] at this; cases this
    exact ⟨.refl _ _, R, h4⟩
  stop := fun ad' H' M i n R g e => by
    obtain ⟨ys, h1, h2⟩ := k ad' H' M n R g
    exact ⟨ys, h1, by rw [← h2.length]; exact e⟩
theorem tup_itOk {X : Cx} {ad : List Addr} {H : Hp} {gs : Gd} {items : List D} {a : Addr} {xs : List V} (t : SqT X.K H a xs) (r : RVs X.K ad H items xs) : ItOk X (Itt X.K a) ad H gs items where
  go := fun ad' H' M i d n R g e => by
    obtain ⟨v, h3, h4⟩ := r.get e
    refine ⟨⟨xs, v, n.ext.sqT t, h3⟩, fun x H2 y => ?_⟩
    obtain ⟨rfl, y⟩ := y
    have := y xs (n.ext.sqT t)
    rw [h3] at this; cases this
    exact ⟨.refl _ _, R, h4.nxt n⟩
  stop := fun ad' H' M i n R g e => ⟨xs, n.ext.sqT t, by rw [← r.length]; exact e⟩
end RI
end
/-! #### RG -/
section
set_option Elab.async false
set_option linter.all false
set_option maxRecDepth 100000
set_option maxHeartbeats 4000000
/-! Part G: iterators and expressions, one lemma each. -/
namespace RI
open PySem PySem.Spec PyProof.Rows L2 SeqAt

section
variable {X : Cx} {ad : List Addr} {H : Hp}
/-- (0, d0), (1, d1), .. -/
def enuD : Nat → List D → List D
  | _, [] => []
  | n, d :: ds => .tup [.int (n : Nat), d] :: enuD (n + 1) ds
theorem enuD_get : ∀ {n i : Nat} {ds : List D} {d : D}, (enuD n ds)[i]? = some d → ∃ e, ds[i]? = some e ∧ d = .tup [.int ((n + i : Nat) : Int), e]
  | n, i, [], d, h => by simp [enuD] at h
  | n, 0, x :: ds, d, h => by simp [enuD] at h; exact ⟨x, rfl, by rw [← h]; simp⟩
  | n, i + 1, x :: ds, d, h => by
    rw [enuD, List.getElem?_cons_succ] at h
    obtain ⟨e, h1, h2⟩ := enuD_get h
    refine ⟨e, by simpa using h1, ?_⟩
    rw [h2]
    have : n + 1 + i = n + (i + 1) := by omega
    rw [this]
theorem enuD_len : ∀ (n : Nat) (ds : List D), (enuD n ds).length = ds.length
  | _, [] => rfl
  | n, _ :: ds => by simp [enuD, enuD_len (n + 1) ds]
def zipD : List D → List D → List D
  | a :: as, b :: bs => .tup [a, b] :: zipD as bs
  | _, _ => []
theorem zipD_get : ∀ {i : Nat} {as bs : List D} {d : D}, (zipD as bs)[i]? = some d → ∃ a b, as[i]? = some a ∧ bs[i]? = some b ∧ d = .tup [a, b]
  | i, [], _, d, h => by simp [zipD] at h
  | i, _ :: _, [], d, h => by simp [zipD] at h
  | 0, a :: as, b :: bs, d, h => by simp [zipD] at h; exact ⟨a, b, rfl, rfl, h.symm⟩
  | i + 1, a :: as, b :: bs, d, h => by
    rw [zipD, List.getElem?_cons_succ] at h
    obtain ⟨x, y, h1, h2, h3⟩ := zipD_get h
    exact ⟨x, y, by simpa using h1, by simpa using h2, h3⟩
theorem zipD_len : ∀ (as bs : List D), (zipD as bs).length = min as.length bs.length
  | [], _ => by simp [zipD]
  | _ :: _, [] => by simp [zipD]
  | _ :: as, _ :: bs => by simp [zipD, zipD_len as bs]
theorem pair_nxt {M : Sto} {p : Addr} {d e : D} {x y : V} (R : RS X.prog X.w X.K ad H M) (hp : H p = none) (hx : RV X.K ad H d x) (hy : RV X.K ad H e y) :
    Nxt ad H ad (upd H p (.tup [x, y])) ∧ RS X.prog X.w X.K ad (upd H p (.tup [x, y])) M ∧ RV X.K ad (upd H p (.tup [x, y])) (.tup [d, e]) (.ref p) :=
  ⟨.tup hp, R.tup hp, by rw [RV]; exact ⟨p, _, rfl, .inl (.inl upd_same), .cons (hx.mono (fun _ _ e => e) (.new hp)) (.cons (hy.mono (fun _ _ e => e) (.new hp)) .nil)⟩⟩
theorem enu_itOk {gs : Gd} {items : List D} {a : Addr} (k : ∀ (ad' : List Addr) (H' : Hp) (M' : Sto), Nxt ad H ad' H' → RS X.prog X.w X.K ad' H' M' → gdB gs M' = true → ∃ ys, SqL X.K H' a ys ∧ RVs X.K ad' H' items ys) :
    ItOk X (Ite X.K a) ad H gs (enuD 0 items) where
  go := fun ad' H' M i d n R g e => by
    obtain ⟨d', e', rfl⟩ := enuD_get e
    obtain ⟨ys, h1, h2⟩ := k ad' H' M n R g
    obtain ⟨v, h3, h4⟩ := h2.get e'
    refine ⟨⟨ys, v, h1, h3⟩, fun x H2 y => ?_⟩
    obtain ⟨T, u, rfl, hT, rfl, hu⟩ := y
    have := hu ys h1
    rw [h3] at this; cases this
    rw [Nat.zero_add]
    exact pair_nxt R hT (.intI _) h4
  stop := fun ad' H' M i n R g e => by
    obtain ⟨ys, h1, h2⟩ := k ad' H' M n R g
    exact ⟨ys, h1, by rw [← h2.length, ← enuD_len 0]; exact e⟩
theorem enuT_itOk {gs : Gd} {items : List D} {a : Addr} {xs : List V} (t : SqT X.K H a xs) (r : RVs X.K ad H items xs) : ItOk X (Itet X.K a) ad H gs (enuD 0 items) where
  go := fun ad' H' M i d n R g e => by
    obtain ⟨d', e', rfl⟩ := enuD_get e
    obtain ⟨v, h3, h4⟩ := r.get e'
    refine ⟨⟨xs, v, n.ext.sqT t, h3⟩, fun x H2 y => ?_⟩
    obtain ⟨T, u, rfl, hT, rfl, hu⟩ := y
    have := hu xs (n.ext.sqT t)
    rw [h3] at this; cases this
    rw [Nat.zero_add]
    exact pair_nxt R hT (.intI _) (h4.nxt n)
  stop := fun ad' H' M i n R g e => ⟨xs, n.ext.sqT t, by rw [← r.length, ← enuD_len 0]; exact e⟩
theorem zip_itOk {gs gs' : Gd} {it1 it2 : List D} {a b : Addr} (k : ∀ (ad' : List Addr) (H' : Hp) (M' : Sto), Nxt ad H ad' H' → RS X.prog X.w X.K ad' H' M' → gdB gs M' = true → ∃ ys, SqL X.K H' a ys ∧ RVs X.K ad' H' it1 ys)
    (k' : ∀ (ad' : List Addr) (H' : Hp) (M' : Sto), Nxt ad H ad' H' → RS X.prog X.w X.K ad' H' M' → gdB gs' M' = true → ∃ ys, SqL X.K H' b ys ∧ RVs X.K ad' H' it2 ys) :
    ItOk X (Itz X.K a b) ad H (gs ++ gs') (zipD it1 it2) where
  go := fun ad' H' M i d n R g e => by
    have g2 : gdB gs M = true ∧ gdB gs' M = true := by simpa [gdB, List.all_append] using g
    obtain ⟨d1, d2, e1, e2, rfl⟩ := zipD_get e
    obtain ⟨ys, h1, h2⟩ := k ad' H' M n R g2.1
    obtain ⟨zs, h1', h2'⟩ := k' ad' H' M n R g2.2
    obtain ⟨v, h3, h4⟩ := h2.get e1
    obtain ⟨v', h3', h4'⟩ := h2'.get e2
    refine ⟨⟨ys, zs, v, v', h1, h1', h3, h3'⟩, fun x H2 y => ?_⟩
    obtain ⟨T, u, u', rfl, hT, rfl, hu, hu'⟩ := y
    have := hu ys h1
    rw [h3] at this; cases this
    have := hu' zs h1'
    rw [h3'] at this; cases this
    exact pair_nxt R hT h4 h4'
  stop := fun ad' H' M i n R g e => by
    have g2 : gdB gs M = true ∧ gdB gs' M = true := by simpa [gdB, List.all_append] using g
    obtain ⟨ys, h1, h2⟩ := k ad' H' M n R g2.1
    obtain ⟨zs, h1', h2'⟩ := k' ad' H' M n R g2.2
    rw [zipD_len] at e
    exact ⟨ys, zs, h1, h1', by rw [← h2.length, ← h2'.length]; omega⟩
theorem zipT_itOk {gs : Gd} {it1 it2 : List D} {a b : Addr} {xs ys : List V} (t : SqT X.K H a xs) (r : RVs X.K ad H it1 xs) (t' : SqT X.K H b ys) (r' : RVs X.K ad H it2 ys) : ItOk X (RZ.ItzT X.K a b) ad H gs (zipD it1 it2) where
  go := fun ad' H' M i d n R g e => by
    obtain ⟨d1, d2, e1, e2, rfl⟩ := zipD_get e
    obtain ⟨v, h3, h4⟩ := r.get e1
    obtain ⟨v', h3', h4'⟩ := r'.get e2
    refine ⟨⟨xs, ys, v, v', n.ext.sqT t, n.ext.sqT t', h3, h3'⟩, fun x H2 y => ?_⟩
    obtain ⟨T, u, u', rfl, hT, rfl, hu, hu'⟩ := y
    have := hu xs (n.ext.sqT t)
    rw [h3] at this; cases this
    have := hu' ys (n.ext.sqT t')
    rw [h3'] at this; cases this
    exact pair_nxt R hT (h4.nxt n) (h4'.nxt n)
  stop := fun ad' H' M i n R g e => by
    rw [zipD_len] at e
    exact ⟨xs, ys, n.ext.sqT t, n.ext.sqT t', by rw [← r.length, ← r'.length]; omega⟩
def rngD (lo : Int) (n : Nat) : List D := (List.range n).map fun i => .int (lo + (i : Nat))
theorem rng_itOk {gs : Gd} {lo : Int} {n : Nat} : ItOk X (Itr lo n) ad H gs (rngD lo n) where
  go := fun ad' H' M i d nx R g e => by
    unfold rngD at e
    rw [List.getElem?_map, Option.map_eq_some_iff] at e
    obtain ⟨j, h1, rfl⟩ := e
    obtain ⟨hl, rfl⟩ := List.getElem?_eq_some_iff.mp h1
    rw [List.length_range] at hl
    rw [List.getElem_range] at *
    refine ⟨hl, fun x H2 y => ?_⟩
    obtain ⟨rfl, rfl⟩ := y
    exact ⟨.refl _ _, R, .intI _⟩
  stop := fun ad' H' M i nx R g e => by
    have e' : n ≤ i := by simpa [rngD] using e
    exact e'
end

/-! ### iterators of the program's text -/
def iSrcF (f : EF) : IF := fun env M => match f env M with
  | some (d, M') => (srcOf M' d).map fun p => (p, M')
  | none => none
def iEnuF (f : AF) : IF := fun env M => match f env M with
  | some ([d], M') => (srcOf M' d).map fun p => ((p.1, enuD 0 p.2), M')
  | _ => none
/-- both lists, or both tuples -/
def isTupD : D → Bool
  | .tup _ => true
  | _ => false
def iZipF (f : AF) : IF := fun env M => match f env M with
  | some ([d, e], M') => if isTupD d == isTupD e then match srcOf M' d, srcOf M' e with
    | some p, some q => some ((p.1 ++ q.1, zipD p.2 q.2), M')
    | _, _ => none
    else none
  | _ => none
def iRngF (f : AF) : IF := fun env M => match f env M with
  | some ([.int j], M') => if -(2 ^ 62) ≤ j ∧ j < 2 ^ 62 then some (([], rngD 0 j.toNat), M') else none
  | _ => none
def iRng2F (f : AF) : IF := fun env M => match f env M with
  | some ([.int i, .int j], M') => if -(2 ^ 62) ≤ i ∧ i < 2 ^ 62 ∧ -(2 ^ 62) ≤ j ∧ j < 2 ^ 62 then some (([], rngD i (j - i).toNat), M') else none
  | _ => none
section
variable {X : Cx} {tg e e2 : Expr}
theorem pi_srcF {f : EF} (h : PE X e (TEf X f)) : PI X tg e (TIf X (iSrcF f)) := imp_PI (pi_seq h) fun σ H R ⟨env, ad, M, M', gs, items, E, S, hf, q⟩ => by
  unfold iSrcF at hf
  split at hf
  · rename_i d M1 hd
    rw [Option.map_eq_some_iff] at hf
    obtain ⟨p, hs, hf⟩ := hf
    cases hf
    refine ⟨env, ad, M, _, d, E, S, hd, fun v H' ad' n S' hv => ?_⟩
    obtain ⟨a, xs, rfl, h1⟩ := src_ok S' hv hs
    refine ⟨a, xs, rfl, ?_⟩
    rcases h1 with ⟨h1, h2⟩ | ⟨h1, h2, h3⟩
    · exact .inl ⟨h1, q _ _ _ n S' (seq_itOk h2)⟩
    · exact .inr ⟨h2, q _ _ _ n S' (tup_itOk h2 h3)⟩
  · cases hf
theorem pi_enuF {f : AF} {p pos tpos : Pos} {elts : List Expr} {kk : Nat} (hg : Gl X "enumerate") (hm : X.mg "enumerate" = none) (h : PA X [e] (TAf X f)) (hs : starEach [e] X.env = [(false, eval e X.env)]) : PI X (.Tuple elts kk tpos) (.Call (.Name "enumerate" p) [e] [] pos) (TIf X (iEnuF f)) :=
  imp_PI (pi_enumA hg hm h hs) fun σ H R ⟨env, ad, M, M', gs, items, E, S, hf, q⟩ => by
  unfold iEnuF at hf
  split at hf
  · rename_i d M1 hd
    rw [Option.map_eq_some_iff] at hf
    obtain ⟨p, hs, hf⟩ := hf
    cases hf
    refine ⟨env, ad, M, _, [d], E, S, hd, fun vs H' ad' n S' hv => ?_⟩
    obtain ⟨v, rfl, hv1⟩ := rvs1 hv
    obtain ⟨a, xs, rfl, h1⟩ := src_ok S' hv1 hs
    refine ⟨a, xs, rfl, ?_⟩
    rcases h1 with ⟨h1, h2⟩ | ⟨h1, h2, h3⟩
    · exact .inl ⟨h1, q _ _ _ n S' (enu_itOk h2)⟩
    · exact .inr ⟨h2, q _ _ _ n S' (enuT_itOk h2 h3)⟩
  · cases hf
theorem src_tup {X : Cx} {ad : List Addr} {H : Hp} {M : Sto} (R : RS X.prog X.w X.K ad H M) {d : D} {v : V} {gs : Gd} {items : List D} (h : RV X.K ad H d v) (e : srcOf M d = some (gs, items)) :
    ∃ a xs, v = .ref a ∧ if isTupD d = true then (SqT X.K H a xs ∧ RVs X.K ad H items xs) else (SqL X.K H a xs ∧ ∀ (ad' : List Addr) (H' : Hp) (M' : Sto), Nxt ad H ad' H' → RS X.prog X.w X.K ad' H' M' → gdB gs M' = true → ∃ ys, SqL X.K H' a ys ∧ RVs X.K ad' H' items ys) := by
  cases d with
  | tup ds =>
    cases e
    obtain ⟨a, xs, rfl, t, r⟩ := rv_tup h
    exact ⟨a, xs, rfl, by rw [if_pos (by simp [isTupD])]; exact ⟨t, r⟩⟩
  | rol ds =>
    cases e
    obtain ⟨a, xs, rfl, t, r⟩ := rv_rol h
    exact ⟨a, xs, rfl, by rw [if_neg (by simp [isTupD])]; exact ⟨t.sq, fun ad' H' M' n _ _ => ⟨xs, (n.ext.roL t).sq, r.nxt n⟩⟩⟩
  | ref r =>
    simp only [srcOf] at e
    split at e
    · rename_i xs hM
      cases e
      obtain ⟨a, ys, rfl, ha, hH, hr⟩ := lst_of R hM h
      refine ⟨a, ys, rfl, ?_⟩
      rw [if_neg (by simp [isTupD])]
      refine ⟨.of hH, fun ad' H' M' n R' g => ?_⟩
      obtain ⟨zs, h1, h2⟩ := R'.at_ _ _ a (gd_one g) (n.pre _ _ ha)
      exact ⟨zs, .of h1, h2⟩
    · cases e
  | _ => cases e
theorem pi_zipF {f : AF} {p pos tpos : Pos} {elts : List Expr} {kk : Nat} (hg : Gl X "zip") (hm : X.mg "zip" = none) (h : PA X [e, e2] (TAf X f)) (hs : starEach [e, e2] X.env = (false, eval e X.env) :: starEach [e2] X.env) (hs2 : (((backTo pos (starEach [e2] X.env)).any fun x => x.fst) = false)) :
    PI X (.Tuple elts kk tpos) (.Call (.Name "zip" p) [e, e2] [] pos) (TIf X (iZipF f)) :=
  imp_PI (RZ.pi_zipA hg hm h hs hs2) fun σ H R ⟨env, ad, M, M', gs, items, E, S, hf, q⟩ => by
  unfold iZipF at hf
  split at hf
  · rename_i d1 d2 M1 hd
    split at hf
    · rename_i ht
      split at hf
      · rename_i p1 p2 e1 e2
        cases hf
        refine ⟨env, ad, M, _, [d1, d2], E, S, hd, fun vs H' ad' n S' hv => ?_⟩
        obtain ⟨v, u, rfl, hv1, hu⟩ := rvs2 hv
        obtain ⟨a, xs, rfl, h1⟩ := src_tup S' hv1 e1
        obtain ⟨b, ys, rfl, h2⟩ := src_tup S' hu e2
        refine ⟨a, b, xs, ys, rfl, ?_⟩
        have ht' : isTupD d1 = isTupD d2 := by simpa using ht
        rw [← ht'] at h2
        by_cases c : isTupD d1 = true
        · rw [if_pos c] at h1 h2
          exact .inr ⟨h1.1, h2.1, q _ _ _ n S' (zipT_itOk h1.1 h1.2 h2.1 h2.2)⟩
        · rw [if_neg c] at h1 h2
          exact .inl ⟨h1.1, h2.1, q _ _ _ n S' (zip_itOk h1.2 h2.2)⟩
      · cases hf
    · cases hf
  · cases hf
theorem pi_rngF {f : AF} {p pos : Pos} (hg : Gl X "range") (hm : X.mg "range" = none) (h : PA X [e] (TAf X f)) (hs : starEach [e] X.env = [(false, eval e X.env)]) : PI X tg (.Call (.Name "range" p) [e] [] pos) (TIf X (iRngF f)) :=
  imp_PI (pi_range1 hg hm h hs) fun σ H R ⟨env, ad, M, M', gs, items, E, S, hf, q⟩ => by
  unfold iRngF at hf
  split at hf
  · rename_i j M1 hd
    split at hf
    · rename_i hj
      cases hf
      refine ⟨env, ad, M, _, [.int j], E, S, hd, fun vs H' ad' n S' hv => ?_⟩
      obtain ⟨v, rfl, hv1⟩ := rvs1 hv
      exact ⟨j, by rw [rv_int hv1], hj.1, hj.2, q _ _ _ n S' rng_itOk⟩
    · cases hf
  · cases hf
theorem pi_rng2F {f : AF} {p pos : Pos} (hg : Gl X "range") (hm : X.mg "range" = none) (h : PA X [e, e2] (TAf X f)) (hs : starEach [e, e2] X.env = [(false, eval e X.env), (false, eval e2 X.env)]) (hs2 : starEach [e2] X.env = [(false, eval e2 X.env)]) : PI X tg (.Call (.Name "range" p) [e, e2] [] pos) (TIf X (iRng2F f)) :=
  imp_PI (pi_range2 hg hm h hs hs2) fun σ H R ⟨env, ad, M, M', gs, items, E, S, hf, q⟩ => by
  unfold iRng2F at hf
  split at hf
  · rename_i i j M1 hd
    split at hf
    · rename_i hj
      cases hf
      refine ⟨env, ad, M, _, [.int i, .int j], E, S, hd, fun vs H' ad' n S' hv => ?_⟩
      obtain ⟨v, u, rfl, hv1, hu⟩ := rvs2 hv
      exact ⟨i, j, by rw [rv_int hv1, rv_int hu], hj, q _ _ _ n S' rng_itOk⟩
    · cases hf
  · cases hf
end
end RI
end
/-! #### RH -/
section
set_option Elab.async false
set_option linter.all false
set_option maxRecDepth 100000
set_option maxHeartbeats 4000000
/-! Part H: expressions by data, one lemma for each form. -/
namespace RI
open PySem PySem.Spec PyProof.Rows L2 SeqAt

def bnd {α β : Type} (o : Option (α × Sto)) (k : α → Sto → Option β) : Option β := match o with
  | some (a, M) => k a M
  | none => none
theorem bnd_some {α β : Type} {o : Option (α × Sto)} {k : α → Sto → Option β} {b : β} (h : bnd o k = some b) : ∃ a M, o = some (a, M) ∧ k a M = some b := by
  unfold bnd at h
  split at h
  · exact ⟨_, _, rfl, h⟩
  · cases h
section
variable {X : Cx} {env : En} {ad : List Addr} {M M1 : Sto} {σ : L2.St} {H : Hp}
theorem stepE {f : EF} {d : D} {Q : VK} (E : RE X ad H env σ) (S : RS X.prog X.w X.K ad H M) (hf : f env M = some (d, M1))
    (k : ∀ (v : V) (H' : Hp) (ad' : List Addr), Nxt ad H ad' H' → RS X.prog X.w X.K ad' H' M1 → RE X ad' H' env σ → RV X.K ad' H' d v → Q v H') : TEf X f σ H Q :=
  ⟨env, ad, M, M1, d, E, S, hf, fun v H' ad' n S' hv => k v H' ad' n S' (E.nxt n) hv⟩
theorem stepA {f : AF} {ds : List D} {Q : List V → Hp → Prop} (E : RE X ad H env σ) (S : RS X.prog X.w X.K ad H M) (hf : f env M = some (ds, M1))
    (k : ∀ (v : List V) (H' : Hp) (ad' : List Addr), Nxt ad H ad' H' → RS X.prog X.w X.K ad' H' M1 → RE X ad' H' env σ → RVs X.K ad' H' ds v → Q v H') : TAf X f σ H Q :=
  ⟨env, ad, M, M1, ds, E, S, hf, fun v H' ad' n S' hv => k v H' ad' n S' (E.nxt n) hv⟩
theorem stepB {f : BF} {b : Bool} {Q : Bool → Hp → Prop} (E : RE X ad H env σ) (S : RS X.prog X.w X.K ad H M) (hf : f env M = some (b, M1))
    (k : ∀ (H' : Hp) (ad' : List Addr), Nxt ad H ad' H' → RS X.prog X.w X.K ad' H' M1 → RE X ad' H' env σ → Q b H') : TTf X f σ H Q :=
  ⟨env, ad, M, M1, b, E, S, hf, fun H' ad' n S' => k H' ad' n S' (E.nxt n)⟩
end

/-! ### the forms -/
def eVar (i : Nat) : EF := fun env M => match env[i]? with
  | some (some d) => some (d, M)
  | _ => none
def eCst (d : D) : EF := fun _ M => some (d, M)
def eOp (r : F2) (f g : EF) : EF := fun env M => bnd (f env M) fun x M1 => bnd (g env M1) fun y M2 => r x y M2
def eChn (r r' : F2) (f g h : EF) : EF := fun env M => bnd (f env M) fun x M1 => bnd (g env M1) fun y M2 => bnd (r x y M2) fun z M3 => match z with
  | .bl true => bnd (h env M3) fun w M4 => r' y w M4
  | .bl false => some (.bl false, M3)
  | _ => none
def eAnd (f g : EF) : EF := fun env M => bnd (f env M) fun x M1 => match x with
  | .bl true => g env M1
  | .bl false => some (.bl false, M1)
  | _ => none
def eOr (f g : EF) : EF := fun env M => bnd (f env M) fun x M1 => match x with
  | .bl false => g env M1
  | .bl true => some (.bl true, M1)
  | _ => none
def eNot (f : EF) : EF := fun env M => bnd (f env M) fun x M1 => match x with
  | .bl b => some (.bl (!b), M1)
  | _ => none
/-- what a value says as a test -/
def truD (M : Sto) : D → Option Bool
  | .non => some false
  | .bl b => some b
  | .int i => some (i != 0)
  | .tup xs => some (!xs.isEmpty)
  | .rol xs => some (!xs.isEmpty)
  | .ref r => match M[r]? with
    | some (.lst xs) => some (!xs.isEmpty)
    | _ => none
  | .str _ => none
def bOf (f : EF) : BF := fun env M => bnd (f env M) fun x M1 => (truD M1 x).map fun b => (b, M1)
def eIte (c f g : EF) : EF := fun env M => bnd (bOf c env M) fun b M1 => if b = true then f env M1 else g env M1
def aNil : AF := fun _ M => some ([], M)
def aCons (f : EF) (g : AF) : AF := fun env M => bnd (f env M) fun x M1 => bnd (g env M1) fun xs M2 => some (x :: xs, M2)
def eTup (f : AF) : EF := fun env M => bnd (f env M) fun xs M1 => if xs.length ≤ SL then some (.tup xs, M1) else none
def eLst (f : AF) : EF := fun env M => bnd (f env M) fun xs M1 => if xs.length ≤ SL then some (.ref M1.length, M1 ++ [.lst xs]) else none
def eDne : EF := fun _ M => some (.ref M.length, M ++ [.dct false []])
def eDns : EF := fun _ M => some (.ref M.length, M ++ [.dcs false []])
def eDt1 (f g : EF) : EF := fun env M => bnd (f env (M ++ [.dct false []])) fun k M1 => bnd (g env M1) fun v M2 => (setD (.ref M.length) k v M2).map fun M3 => (.ref M.length, M3)
def optF (f : Option EF) : En → Sto → Option (Option Int × Sto) := fun env M => match f with
  | none => some (none, M)
  | some f => bnd (f env M) fun x M1 => match x with
    | .int i => some (some i, M1)
    | _ => none
def eSlc (f : EF) (lo hi : Option EF) : EF := fun env M => bnd (f env M) fun x M1 => bnd (optF lo env M1) fun l M2 => bnd (optF hi env M2) fun u M3 => slD x l u M3
def eRev (f : EF) : EF := fun env M => bnd (f env M) fun x M1 => revD x M1
def eCall (c : FN) (f : AF) : EF := fun env M => bnd (f env M) fun xs M1 => c xs M1
def eIsi (t : Ty) (f : EF) : EF := fun env M => bnd (f env M) fun x M1 => isinD t x M1
def eMe (m : ME) (f : EF) (g : AF) : EF := fun env M => bnd (f env M) fun x M1 => if meT m M1 x = true then bnd (g env M1) fun xs M2 => meD m x xs M2 else none
/-- a text's value in a table -/
def tabD : List (List Nat × D) → List Nat → Option D
  | [], _ => none
  | (x, d) :: r, y => if x = y then some d else tabD r y
def eTab (kvs : List (List Nat × D)) (f : EF) : EF := fun env M => bnd (f env M) fun x M1 => match x with
  | .str y => (tabD kvs y).map fun d => (d, M1)
  | _ => none
/-- a text's first place among texts -/
def tixD : List D → List Nat → Option Nat
  | .str x :: r, y => if x = y then some 0 else (tixD r y).map (· + 1)
  | _, _ => none
def eTix (f g : EF) : EF := fun env M => bnd (f env M) fun x M1 => bnd (g env M1) fun y M2 => match x, y with
  | .tup xs, .str y => (tixD xs y).map fun i => (.int (i : Nat), M2)
  | _, _ => none

section
variable {X : Cx} {e a b c : Expr} {pos : Pos} {f g h : EF}
theorem pe_varF {i : Nat} {x : Str} (hN : X.N[i]? = some x) (hv : Vis X.env.scope x) (hd : (x == ("__debug__" : Str)) = false) (hcd : (x == ("__classdict__" : Str)) = false) : PE X (.Name x pos) (TEf X (eVar i)) :=
  imp_PE (pe_var hN hv hd hcd) fun σ H Q ⟨env, ad, M, M', r, E, S, hf, q⟩ => by
  unfold eVar at hf
  split at hf
  · rename_i d hd
    cases hf
    obtain ⟨v, h1, h2⟩ := E.2 i _ hd
    exact ⟨v, h1, q.same S h2⟩
  · cases hf
theorem pe_cst {v : V} {d : D} (h : PE X e (tC v)) (k : ∀ ad H, RV X.K ad H d v) : PE X e (TEf X (eCst d)) :=
  imp_PE h fun σ H Q ⟨env, ad, M, M', r, E, S, hf, q⟩ => by
  cases hf
  exact q.same S (k _ _)
theorem pe_opF {r : F2} {t : Expr} (h : ∀ {ta tb : TE}, PE X a ta → PE X b tb → PE X t (tOp (r2D X r) ta tb)) (ha : PE X a (TEf X f)) (hb : PE X b (TEf X g)) : PE X t (TEf X (eOp r f g)) :=
  imp_PE (h ha hb) fun σ H Q ⟨env, ad, M, M', rr, E, S, hf, q⟩ => by
  obtain ⟨x, M1, h1, hf⟩ := bnd_some hf
  obtain ⟨y, M2, h2, hf⟩ := bnd_some hf
  exact stepE E S h1 fun v1 H1 ad1 n1 S1 E1 r1 => stepE E1 S1 h2 fun v2 H2 ad2 n2 S2 E2 r2 => ⟨ad2, M2, M', x, y, rr, S2, r1.nxt n2, r2, hf, q.trans (n1.trans n2)⟩
theorem pe_binF (o : Operator) (ha : PE X a (TEf X f)) (hb : PE X b (TEf X g)) : PE X (.BinOp a o b pos) (TEf X (eOp (binD o) f g)) := pe_opF (pe_op (op_binD o)) ha hb
theorem pe_cmpF (hu : X.A.units + 64 < cLine) (o : CmpOp) (ha : PE X a (TEf X f)) (hb : PE X b (TEf X g)) (hm : behindInMarks o b = false) : PE X (.Compare a [o] [b] pos) (TEf X (eOp (cmpF o) f g)) :=
  pe_opF (fun h1 h2 => pe_cmpR (op_cmpD hu o) h1 h2 hm) ha hb
theorem pe_ixF (hu : X.A.units + 64 < cLine) (ha : PE X a (TEf X f)) (hb : PE X b (TEf X g)) (hs : PlainIx b) : PE X (.Subscript a b pos) (TEf X (eOp ixD f g)) :=
  pe_opF (fun h1 h2 => pe_ix (ix_D hu) h1 h2 hs) ha hb
theorem pe_chnF (hu : X.A.units + 64 < cLine) (o o' : CmpOp) (ha : PE X a (TEf X f)) (hb : PE X b (TEf X g)) (hc : PE X c (TEf X h)) (hm : lastMarks [o, o'] [b, c] = false) : PE X (.Compare a [o, o'] [b, c] pos) (TEf X (eChn (cmpF o) (cmpF o') f g h)) :=
  imp_PE (pe_chain (op_cmpD hu o) (op_cmpD hu o') ha hb hc hm) fun σ H Q ⟨env, ad, M, M', rr, E, S, hf, q⟩ => by
  obtain ⟨x, M1, h1, hf⟩ := bnd_some hf
  obtain ⟨y, M2, h2, hf⟩ := bnd_some hf
  obtain ⟨z, M3, h3, hf⟩ := bnd_some hf
  refine stepE E S h1 fun v1 H1 ad1 n1 S1 E1 r1 => stepE E1 S1 h2 fun v2 H2 ad2 n2 S2 E2 r2 => ⟨ad2, M2, M3, x, y, z, S2, r1.nxt n2, r2, h3, fun v3 H3 ad3 n3 S3 r3 => ?_⟩
  have n := (n1.trans n2).trans n3
  split at hf
  · refine ⟨true, rv_bl r3, ?_⟩
    rw [if_pos rfl]
    obtain ⟨w, M4, h4, hf⟩ := bnd_some hf
    exact stepE (E2.nxt n3) S3 h4 fun v4 H4 ad4 n4 S4 E4 r4 => ⟨ad4, M4, M', y, w, rr, S4, (r2.nxt n3).nxt n4, r4, hf, q.trans (n.trans n4)⟩
  · cases hf
    refine ⟨false, rv_bl r3, ?_⟩
    rw [if_neg (by simp)]
    exact (q.trans n).same S3 (.blI false)
  · cases hf
theorem pe_andF {rest : List Expr} (ha : PE X a (TEf X f)) (hb : PE X (.BoolOp .And (b :: rest) pos) (TEf X g)) : PE X (.BoolOp .And (a :: b :: rest) pos) (TEf X (eAnd f g)) :=
  imp_PE (pe_and ha hb) fun σ H Q ⟨env, ad, M, M', rr, E, S, hf, q⟩ => by
  obtain ⟨x, M1, h1, hf⟩ := bnd_some hf
  refine stepE E S h1 fun v1 H1 ad1 n1 S1 E1 r1 => ?_
  split at hf
  · refine ⟨true, rv_bl r1, ?_⟩
    rw [if_pos rfl]
    exact ⟨env, ad1, M1, M', rr, E1, S1, hf, q.trans n1⟩
  · cases hf
    refine ⟨false, rv_bl r1, ?_⟩
    rw [if_neg (by simp)]
    exact (q.trans n1).same S1 (.blI false)
  · cases hf
theorem pe_orF {rest : List Expr} (ha : PE X a (TEf X f)) (hb : PE X (.BoolOp .Or (b :: rest) pos) (TEf X g)) : PE X (.BoolOp .Or (a :: b :: rest) pos) (TEf X (eOr f g)) :=
  imp_PE (pe_or ha hb) fun σ H Q ⟨env, ad, M, M', rr, E, S, hf, q⟩ => by
  obtain ⟨x, M1, h1, hf⟩ := bnd_some hf
  refine stepE E S h1 fun v1 H1 ad1 n1 S1 E1 r1 => ?_
  split at hf
  · refine ⟨false, rv_bl r1, ?_⟩
    rw [if_neg (by simp)]
    exact ⟨env, ad1, M1, M', rr, E1, S1, hf, q.trans n1⟩
  · cases hf
    refine ⟨true, rv_bl r1, ?_⟩
    rw [if_pos rfl]
    exact (q.trans n1).same S1 (.blI true)
  · cases hf
theorem pe_notF (ha : PE X a (TEf X f)) : PE X (.UnaryOp .Not a pos) (TEf X (eNot f)) :=
  imp_PE (pe_not ha) fun σ H Q ⟨env, ad, M, M', rr, E, S, hf, q⟩ => by
  obtain ⟨x, M1, h1, hf⟩ := bnd_some hf
  refine stepE E S h1 fun v1 H1 ad1 n1 S1 E1 r1 => ?_
  split at hf
  · cases hf
    exact ⟨_, rv_bl r1, (q.trans n1).same S1 (.blI _)⟩
  · cases hf
/-- truth by data -/
theorem tru_D {ad : List Addr} {H : Hp} {M : Sto} (S : RS X.prog X.w X.K ad H M) {d : D} {v : V} {k : Bool} (h : RV X.K ad H d v) (e : truD M d = some k) : TruV X.K v H k := by
  unfold truD at e
  split at e
  · cases e; rw [rv_non h]; rfl
  · cases e; rw [rv_bl h]; rfl
  · cases e; rw [rv_int h]; rfl
  · cases e
    obtain ⟨a, xs, rfl, t, r⟩ := rv_tup h
    exact .inr (.inl ⟨xs, t, by have := r.length; rename_i ds; cases ds <;> cases xs <;> simp at this ⊢⟩)
  · cases e
    obtain ⟨a, xs, rfl, t, r⟩ := rv_rol h
    exact .inl ⟨xs, t.sq, by have := r.length; rename_i ds; cases ds <;> cases xs <;> simp at this ⊢⟩
  · split at e
    · rename_i xs hM
      cases e
      obtain ⟨a, ys, rfl, ha, hH, r⟩ := lst_of S hM h
      exact .inl ⟨ys, .of hH, by have := r.length; cases xs <;> cases ys <;> simp at this ⊢⟩
    · cases e
  · cases e
theorem pt_plain (he : PE X e (TEf X f)) (k : ∀ whole, isTrue e X.env whole = (do let v ← whole; standAt e.pos; holding [v] (truthy v))) : PT X e (TTf X (bOf f)) :=
  imp_PT (pt_truth he k) fun σ H Q ⟨env, ad, M, M', b, E, S, hf, q⟩ => by
  obtain ⟨x, M1, h1, hf⟩ := bnd_some hf
  rw [Option.map_eq_some_iff] at hf
  obtain ⟨b', h2, hf⟩ := hf
  cases hf
  exact stepE E S h1 fun v1 H1 ad1 n1 S1 E1 r1 => ⟨b, tru_D S1 r1 h2, q _ _ n1 S1⟩
theorem pt_cmpF (hu : X.A.units + 64 < cLine) (o : CmpOp) (ha : PE X a (TEf X f)) (hb : PE X b (TEf X g)) (hm : behindInMarks o b = false) : PT X (.Compare a [o] [b] pos) (TTf X (bOf (eOp (cmpF o) f g))) :=
  imp_PT (pt_cmpR (op_cmpD hu o) ha hb hm) fun σ H Q ⟨env, ad, M, M', bb, E, S, hf, q⟩ => by
  obtain ⟨z, M3, h3, hf⟩ := bnd_some hf
  obtain ⟨x, M1, h1, h3⟩ := bnd_some h3
  obtain ⟨y, M2, h2, h3⟩ := bnd_some h3
  rw [Option.map_eq_some_iff] at hf
  obtain ⟨b', h4, hf⟩ := hf
  cases hf
  refine stepE E S h1 fun v1 H1 ad1 n1 S1 E1 r1 => stepE E1 S1 h2 fun v2 H2 ad2 n2 S2 E2 r2 => ⟨ad2, M2, M', x, y, z, S2, r1.nxt n2, r2, h3, fun v3 H3 ad3 n3 S3 r3 => ?_⟩
  unfold cmpF at h3
  rw [Option.map_eq_some_iff] at h3
  obtain ⟨b2, h5, h3⟩ := h3
  cases h3
  cases h4
  exact ⟨_, rv_bl r3, q _ _ ((n1.trans n2).trans n3) S3⟩
theorem pt_chnF (hu : X.A.units + 64 < cLine) (o o' : CmpOp) (ha : PE X a (TEf X f)) (hb : PE X b (TEf X g)) (hc : PE X c (TEf X h)) (hm : lastMarks [o, o'] [b, c] = false) : PT X (.Compare a [o, o'] [b, c] pos) (TTf X (bOf (eChn (cmpF o) (cmpF o') f g h))) :=
  imp_PT (pt_chain (op_cmpD hu o) (op_cmpD hu o') ha hb hc hm) fun σ H Q ⟨env, ad, M, M', bb, E, S, hf, q⟩ => by
  obtain ⟨d, M5, h5, hf⟩ := bnd_some hf
  rw [Option.map_eq_some_iff] at hf
  obtain ⟨b', h6, hf⟩ := hf
  cases hf
  obtain ⟨x, M1, h1, h5⟩ := bnd_some h5
  obtain ⟨y, M2, h2, h5⟩ := bnd_some h5
  obtain ⟨z, M3, h3, h5⟩ := bnd_some h5
  refine stepE E S h1 fun v1 H1 ad1 n1 S1 E1 r1 => stepE E1 S1 h2 fun v2 H2 ad2 n2 S2 E2 r2 => ⟨ad2, M2, M3, x, y, z, S2, r1.nxt n2, r2, h3, fun v3 H3 ad3 n3 S3 r3 => ?_⟩
  have n := (n1.trans n2).trans n3
  split at h5
  · refine ⟨true, rv_bl r3, ?_⟩
    rw [if_pos rfl]
    obtain ⟨w, M4, h4, h5⟩ := bnd_some h5
    refine stepE (E2.nxt n3) S3 h4 fun v4 H4 ad4 n4 S4 E4 r4 => ⟨ad4, M4, M', y, w, d, S4, (r2.nxt n3).nxt n4, r4, h5, fun v5 H5 ad5 n5 S5 r5 => ?_⟩
    unfold cmpF at h5
    rw [Option.map_eq_some_iff] at h5
    obtain ⟨b2, h7, h5⟩ := h5
    cases h5
    cases h6
    exact ⟨_, rv_bl r5, q _ _ ((n.trans n4).trans n5) S5⟩
  · cases h5
    cases h6
    refine ⟨false, rv_bl r3, ?_⟩
    rw [if_neg (by simp)]
    exact ⟨false, rfl, q _ _ n S3⟩
  · cases h5
theorem pw_one {op : BoolOp} (ha : PT X a (TTf X (bOf f))) : PW X (.BoolOp op [a] pos) (TTf X (bOf f)) := by
  cases op
  · exact pw_and1 ha
  · exact pw_or1 ha
theorem pw_andF {rest : List Expr} (ha : PT X a (TTf X (bOf f))) (hb : PW X (.BoolOp .And (b :: rest) pos) (TTf X (bOf g))) : PW X (.BoolOp .And (a :: b :: rest) pos) (TTf X (bOf (eAnd f g))) :=
  imp_PW (pw_and ha hb) fun σ H Q ⟨env, ad, M, M', bb, E, S, hf, q⟩ => by
  obtain ⟨d, M5, h5, hf⟩ := bnd_some hf
  rw [Option.map_eq_some_iff] at hf
  obtain ⟨b', h6, hf⟩ := hf
  cases hf
  obtain ⟨x, M1, h1, h5⟩ := bnd_some h5
  split at h5
  · refine stepB (b := true) E S (M1 := M1) (by unfold bOf; rw [h1]; rfl) fun H1 ad1 n1 S1 E1 => ?_
    rw [if_pos rfl]
    exact ⟨env, ad1, M1, M', bb, E1, S1, by unfold bOf; rw [h5]; show (truD M' d).map _ = _; rw [h6]; rfl, q.trans n1⟩
  · cases h5
    cases h6
    refine stepB (b := false) E S (M1 := M') (by unfold bOf; rw [h1]; rfl) fun H1 ad1 n1 S1 E1 => ?_
    rw [if_neg (by simp)]
    exact q _ _ n1 S1
  · cases h5
theorem pw_orF {rest : List Expr} (ha : PT X a (TTf X (bOf f))) (hb : PW X (.BoolOp .Or (b :: rest) pos) (TTf X (bOf g))) : PW X (.BoolOp .Or (a :: b :: rest) pos) (TTf X (bOf (eOr f g))) :=
  imp_PW (pw_or ha hb) fun σ H Q ⟨env, ad, M, M', bb, E, S, hf, q⟩ => by
  obtain ⟨d, M5, h5, hf⟩ := bnd_some hf
  rw [Option.map_eq_some_iff] at hf
  obtain ⟨b', h6, hf⟩ := hf
  cases hf
  obtain ⟨x, M1, h1, h5⟩ := bnd_some h5
  split at h5
  · refine stepB (b := false) E S (M1 := M1) (by unfold bOf; rw [h1]; rfl) fun H1 ad1 n1 S1 E1 => ?_
    rw [if_neg (by simp)]
    exact ⟨env, ad1, M1, M', bb, E1, S1, by unfold bOf; rw [h5]; show (truD M' d).map _ = _; rw [h6]; rfl, q.trans n1⟩
  · cases h5
    cases h6
    refine stepB (b := true) E S (M1 := M') (by unfold bOf; rw [h1]; rfl) fun H1 ad1 n1 S1 E1 => ?_
    rw [if_pos rfl]
    exact q _ _ n1 S1
  · cases h5
theorem pt_notF (ha : PT X a (TTf X (bOf f))) : PT X (.UnaryOp .Not a pos) (TTf X (bOf (eNot f))) :=
  imp_PT (pt_not ha) fun σ H Q ⟨env, ad, M, M', bb, E, S, hf, q⟩ => by
  obtain ⟨d, M5, h5, hf⟩ := bnd_some hf
  rw [Option.map_eq_some_iff] at hf
  obtain ⟨b', h6, hf⟩ := hf
  cases hf
  obtain ⟨x, M1, h1, h5⟩ := bnd_some h5
  split at h5
  · rename_i b0
    cases h5
    cases h6
    exact stepB (b := b0) E S (M1 := M') (by unfold bOf; rw [h1]; rfl) fun H1 ad1 n1 S1 E1 => q _ _ n1 S1
  · cases h5
theorem pe_iteF (hc : PT X c (TTf X (bOf h))) (ha : PE X a (TEf X f)) (hb : PE X b (TEf X g)) : PE X (.IfExp c a b pos) (TEf X (eIte h f g)) :=
  imp_PE (pe_ifExp hc ha hb) fun σ H Q ⟨env, ad, M, M', rr, E, S, hf, q⟩ => by
  obtain ⟨k, M1, h1, hf⟩ := bnd_some hf
  refine stepB E S h1 fun H1 ad1 n1 S1 E1 => ?_
  cases k with
  | true => 
    rw [if_pos rfl] at hf ⊢
    exact ⟨env, ad1, M1, M', rr, E1, S1, hf, q.trans n1⟩
  | false => 
    rw [if_neg (by simp)] at hf ⊢
    exact ⟨env, ad1, M1, M', rr, E1, S1, hf, q.trans n1⟩
/-! ### argument lists -/
theorem star_cons {e : Expr} {es : List Expr} {env : Env} (h : (match e with | .Starred _ _ => false | _ => true) = true) : starEach (e :: es) env = (false, eval e env) :: starEach es env := by
  cases e <;> first | rfl | cases h
def nst : Expr → Bool
  | .Starred _ _ => false
  | _ => true
theorem star_nst {e : Expr} {es : List Expr} {env : Env} (h : nst e = true) : starEach (e :: es) env = (false, eval e env) :: starEach es env := by
  cases e <;> first | rfl | cases h
theorem back_nst {pos : Pos} {env : Env} : ∀ {es : List Expr}, es.all nst = true → (backTo pos (starEach es env)).any (·.1) = false
  | [], _ => rfl
  | e :: es, h => by
    rw [List.all_cons, Bool.and_eq_true] at h
    rw [star_nst h.1]
    show (false || (backTo pos (starEach es env)).any (·.1)) = false
    rw [back_nst h.2]; rfl
theorem pa_nilF : PA X [] (TAf X aNil) := imp_PA pa_nil fun σ H Q ⟨env, ad, M, M', rr, E, S, hf, q⟩ => by
  cases hf
  exact q [] H ad (.refl _ _) S .nil
theorem pa_consF {es : List Expr} {g : AF} (he : PE X e (TEf X f)) (hr : PA X es (TAf X g)) (hs : nst e = true) : PA X (e :: es) (TAf X (aCons f g)) :=
  imp_PA (pa_cons he hr (star_nst hs)) fun σ H Q ⟨env, ad, M, M', rr, E, S, hf, q⟩ => by
  obtain ⟨x, M1, h1, hf⟩ := bnd_some hf
  obtain ⟨xs, M2, h2, hf⟩ := bnd_some hf
  cases hf
  exact stepE E S h1 fun v1 H1 ad1 n1 S1 E1 r1 => stepA E1 S1 h2 fun v2 H2 ad2 n2 S2 E2 r2 => q _ _ _ (n1.trans n2) S2 (.cons (r1.nxt n2) r2)
theorem pe_tupF {es : List Expr} {x1 : Nat} {f : AF} (h : PA X es (TAf X f)) : PE X (.Tuple es x1 pos) (TEf X (eTup f)) :=
  imp_PE (pe_tup h) fun σ H Q ⟨env, ad, M, M', rr, E, S, hf, q⟩ => by
  obtain ⟨x, M1, h1, hf⟩ := bnd_some hf
  split at hf
  · rename_i hz
    cases hf
    exact stepA E S h1 fun v1 H1 ad1 n1 S1 E1 r1 => ⟨by rw [← r1.length, SL_eq]; exact hz, fun p hp => (q.trans n1).tup S1 r1 hp⟩
  · cases hf
theorem pe_lstF {es : List Expr} {f : AF} (h : PA X es (TAf X f)) : PE X (.List es pos) (TEf X (eLst f)) :=
  imp_PE (pe_lst h) fun σ H Q ⟨env, ad, M, M', rr, E, S, hf, q⟩ => by
  obtain ⟨x, M1, h1, hf⟩ := bnd_some hf
  split at hf
  · rename_i hz
    cases hf
    exact stepA E S h1 fun v1 H1 ad1 n1 S1 E1 r1 => ⟨by rw [← r1.length, SL_eq]; exact hz, fun p hp => (q.trans n1).lst S1 r1 hp⟩
  · cases hf
end
end RI
end
/-! #### RJ -/
section
set_option Elab.async false
set_option linter.all false
set_option maxRecDepth 100000
set_option maxHeartbeats 4000000
/-! Part J: slices, calls, methods, tables, dict displays. -/
namespace RI
open PySem PySem.Spec PyProof.Rows L2 SeqAt

section
variable {X : Cx} {e a b c : Expr} {pos p1 p2 : Pos} {f g h : EF}
def TOf (X : Cx) (f : Option EF) : TO := fun σ H Q => ∃ (env : En) (ad : List Addr) (M M' : Sto) (r : Option Int), RE X ad H env σ ∧ RS X.prog X.w X.K ad H M ∧ optF f env M = some (r, M') ∧ ∀ (H' : Hp) (ad' : List Addr), Nxt ad H ad' H' → RS X.prog X.w X.K ad' H' M' → Q r H'
theorem imp_PO {e : Option Expr} {t t' : TO} (h : PO X e t) (k : ∀ σ H Q, t' σ H Q → t σ H Q) : PO X e t' := ⟨fun pins s σ H Q I hw => h.run pins s σ H Q I (k σ H Q hw)⟩
theorem po_noneF : PO X none (TOf X none) := imp_PO po_none fun σ H Q ⟨env, ad, M, M', r, E, S, hf, q⟩ => by
  cases hf
  exact q H ad (.refl _ _) S
theorem po_someF (h : PE X e (TEf X f)) : PO X (some e) (TOf X (some f)) := imp_PO (po_some h) fun σ H Q ⟨env, ad, M, M', r, E, S, hf, q⟩ => by
  obtain ⟨x, M1, h1, hf⟩ := bnd_some hf
  split at hf
  · cases hf
    exact stepE E S h1 fun v1 H1 ad1 n1 S1 E1 r1 => ⟨_, rv_int r1, q _ _ n1 S1⟩
  · cases hf
theorem pe_slcF {lo hi : Option Expr} {fl fh : Option EF} (he : PE X e (TEf X f)) (hl : PO X lo (TOf X fl)) (hh : PO X hi (TOf X fh)) : PE X (.Subscript e (.Slice lo hi none p2) pos) (TEf X (eSlc f fl fh)) :=
  imp_PE (pe_slice sl_D he hl hh) fun σ H Q ⟨env, ad, M, M', r, E, S, hf, q⟩ => by
  obtain ⟨x, M1, h1, hf⟩ := bnd_some hf
  obtain ⟨l, M2, h2, hf⟩ := bnd_some hf
  obtain ⟨u, M3, h3, hf⟩ := bnd_some hf
  exact stepE E S h1 fun v1 H1 ad1 n1 S1 E1 r1 => ⟨env, ad1, M1, M2, l, E1, S1, h2, fun H2 ad2 n2 S2 => ⟨env, ad2, M2, M3, u, E1.nxt n2, S2, h3, fun H3 ad3 n3 S3 =>
    ⟨ad3, M3, M', x, r, S3, (r1.nxt n2).nxt n3, hf, q.trans ((n1.trans n2).trans n3)⟩⟩⟩
theorem pe_revF {k : Nat} {p1 p2 p3 : Pos} (he : PE X e (TEf X f)) : PE X (.Subscript e (.Slice none none (some (.UnaryOp .USub (.Constant (.int 1) k p1) p2)) p3) pos) (TEf X (eRev f)) :=
  imp_PE (pe_revT he) fun σ H Q ⟨env, ad, M, M', r, E, S, hf, q⟩ => by
  obtain ⟨x, M1, h1, hf⟩ := bnd_some hf
  unfold revD at hf
  refine stepE E S h1 fun v1 H1 ad1 n1 S1 E1 r1 => ?_
  split at hf
  · cases hf
    obtain ⟨a, xs, rfl, t, r⟩ := rv_tup r1
    exact ⟨a, xs, rfl, t, fun p hp => (q.trans n1).tup S1 r.reverse hp⟩
  · cases hf
/-! ### calls -/
def spD (X : Cx) (fn : FN) : Sp := fun vs H Q _ => rND X fn vs H Q
theorem pe_callF {CXX : Unit} {x : Str} {k : Nat} {fa : Addr} {fd : FuncData} {ps : List Str} {fn : FN} {e : Expr} {es : List Expr} {p : Pos} {fa' : AF} (F : FnOk X.prog X.w X.K X.mg X.base CX0 k fa fd ps (spD X fn)) (hr : Room k X.A) (hg : Gl X x) (hm : X.mg x = some (.ref fa)) (hk : PySem.W.keepIn X.K (.ref fa) = true) (hb : Binds X.K fd ps [])
    (ha : PA X (e :: es) (TAf X fa')) (hdb : (x == ("__debug__" : Str)) = false) (hs : (e :: es).all nst = true) : PE X (.Call (.Name x p) (e :: es) [] pos) (TEf X (eCall fn fa')) := by
  rw [List.all_cons, Bool.and_eq_true] at hs
  refine imp_PE (pe_call (dvs := []) (E := fun _ _ _ => False) F hr hg hm hk hb .nil pass0 ha hdb (star_nst hs.1) (back_nst hs.2)) fun σ H Q ⟨env, ad, M, M', r, E, S, hf, q⟩ => ?_
  obtain ⟨xs, M1, h1, hf⟩ := bnd_some hf
  exact stepA E S h1 fun v1 H1 ad1 n1 S1 E1 r1 => ⟨ad1, M1, M', xs, r, S1, by simpa using r1, hf, q.trans n1⟩
theorem pe_call0F {x : Str} {k : Nat} {fa : Addr} {fd : FuncData} {ps : List Str} {fn : FN} {p : Pos} (F : FnOk X.prog X.w X.K X.mg X.base CX0 k fa fd ps (spD X fn)) (hr : Room k X.A) (hg : Gl X x) (hm : X.mg x = some (.ref fa)) (hk : PySem.W.keepIn X.K (.ref fa) = true) (hb : Binds X.K fd ps [])
    (hdb : (x == ("__debug__" : Str)) = false) : PE X (.Call (.Name x p) [] [] pos) (TEf X (eCall fn aNil)) := by
  refine imp_PE (pe_call0 (dvs := []) (E := fun _ _ _ => False) F hr hg hm hk hb .nil pass0 hdb) fun σ H Q ⟨env, ad, M, M', r, E, S, hf, q⟩ => ?_
  exact ⟨ad, M, M', [], r, S, by simpa using RVs.nil, hf, q⟩
def BI.isTy : BI → Bool
  | .int => true
  | .tuple => true
  | .list => true
  | _ => false
def BI.nm : BI → String
  | .len => "len"
  | .abs => "abs"
  | .int => "int"
  | .max => "max"
  | .min => "min"
  | .all => "all"
  | .any => "any"
  | .sum => "sum"
  | .tuple => "tuple"
  | .list => "list"
theorem BI.boot (b : BI) : bootBuiltins (Str.ofString b.nm) = some b.val := by cases b <;> decide +kernel
theorem BI.ne (b : BI) : Str.ofString b.nm ≠ "__name__" := by cases b <;> decide +kernel
theorem BI.nd (b : BI) : (Str.ofString b.nm == ("__debug__" : Str)) = false := by cases b <;> decide +kernel
theorem pe_biF {e : Expr} {es : List Expr} {p : Pos} {fa : AF} (hc : X.calm = true) (bi : BI) (hg : Gl X (Str.ofString bi.nm)) (hm : X.mg (Str.ofString bi.nm) = none) (ha : PA X (e :: es) (TAf X fa)) (hs : (e :: es).all nst = true) : PE X (.Call (.Name (Str.ofString bi.nm) p) (e :: es) [] pos) (TEf X (eCall (biD bi) fa)) := by
  rw [List.all_cons, Bool.and_eq_true] at hs
  have k : ∀ σ H Q, TEf X (eCall (biD bi) fa) σ H Q → tCB (rND X (biD bi)) (TAf X fa) σ H Q := fun σ H Q ⟨env, ad, M, M', r, E, S, hf, q⟩ => by
    obtain ⟨xs, M1, h1, hf⟩ := bnd_some hf
    exact stepA E S h1 fun v1 H1 ad1 n1 S1 E1 r1 => ⟨ad1, M1, M', xs, r, S1, r1, hf, q.trans n1⟩
  have hcall := call_biD (X := X) hc bi
  by_cases ht : bi.isTy = true
  · obtain ⟨T, hT⟩ : ∃ T, bi.val = .type T := by cases bi <;> first | exact ⟨_, rfl⟩ | cases ht
    rw [hT] at hcall
    exact imp_PE (pe_callTy hcall hg hm (by rw [BI.boot, hT]) ha bi.ne bi.nd (star_nst hs.1) (back_nst hs.2)) k
  · obtain ⟨T, hT⟩ : ∃ T, bi.val = .builtin T := by cases bi <;> first | exact ⟨_, rfl⟩ | exact absurd rfl ht
    rw [hT] at hcall
    exact imp_PE (pe_callB hcall hg hm (by rw [BI.boot, hT]) ha bi.ne bi.nd (star_nst hs.1) (back_nst hs.2)) k
theorem Ty.boot (t : Ty) : bootBuiltins (Str.ofString t.nm) = some (.type t.nm) := by cases t <;> decide +kernel
theorem Ty.ne (b : Ty) : Str.ofString b.nm ≠ "__name__" := by cases b <;> decide +kernel
theorem Ty.nd (b : Ty) : (Str.ofString b.nm == ("__debug__" : Str)) = false := by cases b <;> decide +kernel
theorem pe_isiF {e : Expr} {p q1 : Pos} (t : Ty) (hg : Gl X "isinstance") (hm : X.mg "isinstance" = none) (hg2 : Gl X (Str.ofString t.nm)) (hm2 : X.mg (Str.ofString t.nm) = none) (he : PE X e (TEf X f)) (hs : nst e = true) :
    PE X (.Call (.Name "isinstance" p) [e, .Name (Str.ofString t.nm) q1] [] pos) (TEf X (eIsi t f)) := by
  have hT : PE X (.Name (Str.ofString t.nm) q1) (tC (.ty t.nm)) := pe_bltn hg2 hm2 t.boot rfl t.ne t.nd
  have ha : PA X [e, .Name (Str.ofString t.nm) q1] (tCons (TEf X f) (tCons (tC (.ty t.nm)) tNil)) := pa_cons he (pa_cons hT pa_nil) (star_nst hs)
  refine imp_PE (pe_callB (call_isinD t) hg hm (by decide +kernel) ha (by decide +kernel) (by decide +kernel) (star_nst hs) rfl) fun σ H Q ⟨env, ad, M, M', r, E, S, hf, q⟩ => ?_
  obtain ⟨x, M1, h1, hf⟩ := bnd_some hf
  exact stepE E S h1 fun v1 H1 ad1 n1 S1 E1 r1 => ⟨v1, rfl, ad1, M1, M', x, r, S1, r1, hf, q.trans n1⟩
/-! ### methods -/
def ME.nm : ME → String
  | .append => "append"
  | .pop => "pop"
  | .get => "get"
theorem ME.pa (m : ME) : PlainAttrs m.ty := by cases m <;> first | exact PySem.F.plainAttrs_list | exact PySem.F.plainAttrs_dict
theorem ME.slot (m : ME) : Slot m.ty (Str.ofString m.nm) m.id := by
  cases m
  · exact PySem.F.slot_list_append
  · exact PySem.F.slot_list_pop
  · exact PySem.F.slot_dict_get
theorem ME.tyOf (m : ME) : typeOf (.builtin m.id) = pure (.type "method_descriptor") := by
  cases m
  · exact PySem.F.type_list_append
  · exact PySem.F.type_list_pop
  · exact PySem.F.type_dict_get
/-- a receiver that is no super() -/
def nsup : Expr → Bool
  | .Call (.Name x _) [] [] _ => x != "super"
  | _ => true
theorem base_nsup {o : Expr} {m : Str} {env : Env} (h : nsup o = true) : attributeBase o m env (eval o env) = eval o env := by
  unfold attributeBase
  split
  · rename_i x p pos
    have hx : (x != "super") = true := h
    rw [if_pos (by rw [hx]; simp)]
  · rfl
theorem few_nst {pos : Pos} {env : Env} {es : List Expr} (h : es.all nst = true) (hl : es.length < 29) : ((backTo pos (starEach es env)).all (fun x => !x.1) && (backToKw pos (keywordEach [] env)).all (fun x => x.1.isSome)
      && decide (es.length + ([] : List Keyword).length + (if ([] : List Keyword).isEmpty then 0 else 1) < 30)) = true := by
  have e1 : (backTo pos (starEach es env)).all (fun x => !x.1) = true := by
    have := back_nst (pos := pos) (env := env) h
    rw [List.all_eq_true]
    rw [List.any_eq_false] at this
    intro x hx
    have := this x hx
    simpa using this
  rw [e1]
  have e2 : decide (es.length + ([] : List Keyword).length + (if ([] : List Keyword).isEmpty = true then 0 else 1) < 30) = true := by
    simp; omega
  show (true && (true && _)) = true
  rw [Bool.true_and]
  exact e2
theorem pe_meF {o e : Expr} {es : List Expr} {apos : Pos} {fa : AF} (hu : X.A.units + 64 < cLine) (m : ME) (ho : PE X o (TEf X f)) (ha : PA X (e :: es) (TAf X fa)) (hb : nsup o = true) (hs : (e :: es).all nst = true) (hl : (e :: es).length < 29) (hline : (apos.endLine == pos.line) = true) :
    PE X (.Call (.Attribute o (Str.ofString m.nm) apos) (e :: es) [] pos) (TEf X (eMe m f fa)) := by
  have hs2 := hs
  rw [List.all_cons, Bool.and_eq_true] at hs2
  refine imp_PE (pe_bmS m.pa m.slot m.tyOf (mt_D hu m) ho ha (base_nsup hb) (few_nst hs hl) hline (star_nst hs2.1) (back_nst hs2.2)) fun σ H Q ⟨env, ad, M, M', r, E, S, hf, q⟩ => ?_
  obtain ⟨x, M1, h1, hf⟩ := bnd_some hf
  refine stepE E S h1 fun v1 H1 ad1 n1 S1 E1 r1 => ?_
  split at hf
  · rename_i ht
    obtain ⟨xs, M2, h2, hf⟩ := bnd_some hf
    exact ⟨meT_ok S1 r1 ht, stepA E1 S1 h2 fun v2 H2 ad2 n2 S2 E2 r2 => ⟨ad2, M2, M', x, xs, r, S2, r1.nxt n2, r2, hf, q.trans (n1.trans n2)⟩⟩
  · cases hf
theorem pe_me0F {o : Expr} {apos : Pos} (hu : X.A.units + 64 < cLine) (m : ME) (ho : PE X o (TEf X f)) (hb : nsup o = true) (hline : (apos.endLine == pos.line) = true) :
    PE X (.Call (.Attribute o (Str.ofString m.nm) apos) [] [] pos) (TEf X (eMe m f aNil)) := by
  refine imp_PE (pe_bmS0 m.pa m.slot m.tyOf (mt_D hu m) ho (base_nsup hb) hline) fun σ H Q ⟨env, ad, M, M', r, E, S, hf, q⟩ => ?_
  obtain ⟨x, M1, h1, hf⟩ := bnd_some hf
  refine stepE E S h1 fun v1 H1 ad1 n1 S1 E1 r1 => ?_
  split at hf
  · rename_i ht
    exact ⟨meT_ok S1 r1 ht, ad1, M1, M', x, [], r, S1, r1, .nil, hf, q.trans n1⟩
  · cases hf
/-! ### a table of the module, a place in a tuple of texts -/
def Tab (X : Cx) (x : Str) (kvs : List (List Nat × D)) : Prop := ∃ a, X.mg x = some (.ref a) ∧ ∀ y d, tabD kvs y = some d → ∃ v, KDct X.K X.w a (S y) v ∧ ∀ ad H, RV X.K ad H d v
theorem pe_tabF {x : Str} {p : Pos} {kvs : List (List Nat × D)} (ht : Tab X x kvs) (hg : Gl X x) (hd : (x == ("__debug__" : Str)) = false) (hb : PE X b (TEf X g)) (hs : PlainIx b) : PE X (.Subscript (.Name x p) b pos) (TEf X (eTab kvs g)) := by
  obtain ⟨a, hm, hk⟩ := ht
  refine imp_PE (pe_ix ix_kdict (pe_glob hg hm (v := .ref a) rfl hd) hb hs) fun σ H Q ⟨env, ad, M, M', r, E, S, hf, q⟩ => ?_
  obtain ⟨x, M1, h1, hf⟩ := bnd_some hf
  refine stepE E S h1 fun v1 H1 ad1 n1 S1 E1 r1 => ?_
  split at hf
  · rename_i y
    rw [Option.map_eq_some_iff] at hf
    obtain ⟨d, h2, hf⟩ := hf
    cases hf
    obtain ⟨v, h3, h4⟩ := hk y _ h2
    exact ⟨a, RI.S y, v, rfl, rv_str r1, h3, (q.trans n1).same S1 (h4 _ _)⟩
  · cases hf
theorem tix_strs {K : PySem.W.Frag} {ad : List Addr} {H : Hp} {y : List Nat} : ∀ {xs : List D} {vs : List V} {i : Nat}, RVs K ad H xs vs → tixD xs y = some i → vs[i]? = some (.str (S y)) ∧ ∀ m, m < i → vs[m]? ≠ some (.str (S y))
  | [], _, _, _, e => by simp [tixD] at e
  | d :: r, vs, i, h, e => by
    obtain ⟨v, vs', rfl, h1, h2⟩ := h.cons_inv
    cases d with
    | str x =>
      rw [tixD] at e
      rw [RV] at h1
      split at e
      · rename_i hx
        cases e
        subst hx
        exact ⟨by rw [h1]; rfl, fun m hm => absurd hm (Nat.not_lt_zero _)⟩
      · rename_i hx
        rw [Option.map_eq_some_iff] at e
        obtain ⟨j, e1, rfl⟩ := e
        obtain ⟨q1, q2⟩ := tix_strs h2 e1
        refine ⟨by simpa using q1, fun m hm => ?_⟩
        cases m with
        | zero => rw [h1]; intro z; simp at z; exact hx (S_inj (by simpa using z))
        | succ m => simpa using q2 m (by omega)
    | _ => simp [tixD] at e
end
/-! ### displays of dicts -/
section
variable {X : Cx} {pos : Pos} {f g : EF}
theorem dct_new {P : Program} {w : World} {H : Hp} (h : Heap) : ObjOk P w H (h.push { cls := .type "dict", data := .dict #[] }) h.objs.size (.ext (dFi P w h.objs.size [])) := dct_obj (Heap.DictOfH.new h)
theorem pe_dnew (φ : MO) (u : Addr → HO) (ok : ∀ {P : Program} {w : World} {H : Hp} (h : Heap), sysModules < h.objs.size → ObjOk P w H (h.push { cls := .type "dict", data := .dict #[] }) h.objs.size (u h.objs.size))
    (ro : ∀ {P : Program} {w : World} {K : PySem.W.Frag} {ad : List Addr} {H : Hp} (p : Addr), (p == sysModules) = false → H p = some (u p) → RO P w K ad H φ p) (lv : ∀ p xs, u p ≠ .tup xs) : PE X (.Dict [] [] pos) (TEf X fun _ M => some (.ref M.length, M ++ [φ])) :=
  ⟨fun pins s σ H Q I ⟨env, ad, M, M', r, E, S, hf, q⟩ => by
    cases hf
    have hp := I.hok.fresh (Nat.le_refl s.heap.objs.size)
    refine wpAny_Dict_empty ⟨.ref s.heap.objs.size, _, I.laid (a := s.heap.objs.size) (o := u s.heap.objs.size) (t' := s.toks) (fun _ _ q => Heap.get?_push_of_some _ q) (Nat.le_refl _) (ok s.heap I.big), rfl, ?_⟩
    refine q _ _ (ad ++ [s.heap.objs.size]) (.alloc hp) (S.alloc hp (ro _ (beq_eq_false_iff_ne.mpr (Ne.symm (Nat.ne_of_lt I.big))) upd_same)) ?_
    rw [RV]; exact ⟨_, rfl, at_new S.len⟩⟩
theorem pe_dneF : PE X (.Dict [] [] pos) (TEf X eDne) :=
  pe_dnew (.dct false []) (fun a => .ext (fun h => ∃ o ep, h.get? a = some o ∧ o.ExactDict ∧ o.data = .dict #[] ep)) (fun h _ => by
    have := dct_new (P := X.prog) (w := X.w) (H := fun _ => none) h
    refine ⟨?_, this.2.1, fun h1 h2 ⟨o, ep, a, b, c⟩ st => ⟨o, ep, st _ a, b, c⟩⟩
    obtain ⟨o, ep, a, b, c⟩ := this.1
    exact ⟨o, ep, a, b, by simpa using c⟩)
    (fun {P w K ad H} p hs hH => ⟨[], by
      unfold lkd
      rw [if_neg (by simp), hH]
      unfold dFi
      simp, .nil, by simp, by simp, hs⟩) (fun p xs z => by cases z)
theorem pe_dnsF : PE X (.Dict [] [] pos) (TEf X eDns) :=
  pe_dnew (.dcs false []) (fun _ => .dK []) (fun h b => dk_empty h b) (fun p hs hH => ⟨[], by unfold lkd; rw [if_neg (by simp)]; exact hH, .nil⟩) (fun p xs z => by cases z)
end
end RI
end
/-! #### RK -/
section
set_option Elab.async false
set_option linter.all false
set_option maxRecDepth 100000
set_option maxHeartbeats 4000000
/-! Part K: tuple.index, displays of dicts with pairs. -/
namespace RI
open PySem PySem.Spec PyProof.Rows L2 SeqAt

def ixOf : List (List Nat) → List Nat → Option Nat
  | [], _ => none
  | x :: r, y => if x = y then some 0 else (ixOf r y).map (· + 1)
/-- T.index(x), T a tuple of texts of the module -/
def eTxi (ws : List (List Nat)) (g : EF) : EF := fun env M => bnd (g env M) fun y M2 => match y with
  | .str y => (ixOf ws y).map fun i => (.int (i : Nat), M2)
  | _ => none
theorem ix_at : ∀ {ws : List (List Nat)} {y : List Nat} {i : Nat}, ixOf ws y = some i → (ws.map S)[i]? = some (S y) ∧ ∀ m, m < i → (ws.map S)[m]? ≠ some (S y)
  | [], _, _, e => by simp [ixOf] at e
  | x :: r, y, i, e => by
    rw [ixOf] at e
    split at e
    · rename_i hx
      cases e; subst hx
      exact ⟨rfl, fun m hm => absurd hm (Nat.not_lt_zero _)⟩
    · rename_i hx
      rw [Option.map_eq_some_iff] at e
      obtain ⟨j, e1, rfl⟩ := e
      obtain ⟨q1, q2⟩ := ix_at e1
      refine ⟨by simpa using q1, fun m hm => ?_⟩
      cases m with
      | zero => intro z; simp only [List.map_cons, List.getElem?_cons_zero, Option.some.injEq] at z; exact hx (S_inj z)
      | succ m => simpa using q2 m (by omega)
/-- a tuple of texts of the module -/
def TupK (X : Cx) (x : Str) (ws : List (List Nat)) : Prop := ∃ (a : Addr) (o : Obj) (its : Array Value) (n : Nat), X.mg x = some (.ref a) ∧ X.K.lookup a = some o ∧ o.cls = .type "tuple" ∧ o.dict = none ∧ o.data = .seq its n ∧ its.size ≤ sizeLine ∧ Vals ((ws.map S).map V.str) its.toList
section
variable {X : Cx} {e : Expr} {pos apos p : Pos} {g : EF}
theorem pe_txiF {x : Str} {ws : List (List Nat)} (ht : TupK X x ws) (hg : Gl X x) (hd : (x == ("__debug__" : Str)) = false) (ha : PE X e (TEf X g)) (hs : nst e = true) (hline : (apos.endLine == pos.line) = true) :
    PE X (.Call (.Attribute (.Name x p) "index" apos) [e] [] pos) (TEf X (eTxi ws g)) := by
  obtain ⟨a, o, its, n, hm, hk, hc, hdd, hdt, hz, hv⟩ := ht
  refine imp_PE (pe_bmS PySem.F.plainAttrs_tuple PySem.F.slot_tuple_index PySem.F.type_tuple_index mt_tup_index (pe_glob hg hm (v := .ref a) rfl hd) (pa_cons ha pa_nil (star_nst hs)) (base_nsup rfl) (few_nst (by simpa using hs) (by simp)) hline (star_nst hs) rfl) fun σ H Q ⟨env, ad, M, M', r, E, S, hf, q⟩ => ?_
  obtain ⟨y, M2, h2, hf⟩ := bnd_some hf
  refine ⟨fun pins σ' s v I rv => ?_, ?_⟩
  · cases rv
    have := I.kIn a o hk
    exact ⟨⟨o, this, hc⟩, fun b eb => by cases eb; exact ⟨o, this, hdd⟩⟩
  · split at hf
    · rw [Option.map_eq_some_iff] at hf
      obtain ⟨i, h3, hf⟩ := hf
      cases hf
      refine stepE E S h2 fun v2 H2 ad2 n2 S2 E2 r2 => ?_
      have q3 := ix_at h3
      exact ⟨a, ws.map RI.S, _, i, rfl, by rw [rv_str r2], .inr ⟨o, its, n, hk, hc, hdt, hz, hv⟩, q3.1, q3.2, (q.trans n2).same S2 (.intI _)⟩
    · cases hf
end
/-! ### {k: v}, k a tuple -/
def putT (r : Nat) (k v : D) (M : Sto) : Option (D × Sto) := match M[r]? with
  | some (.dct false kvs) => match k, keyOf k with
    | .tup _, some nk => if nk.depth ≤ 8 ∧ kvs.length < SL then some (.ref r, M.set r (.dct false (dput kvs k v))) else none
    | _, _ => none
  | _ => none
def eDp1 (f g : EF) : EF := fun env M => bnd (f env (M ++ [.dct false []])) fun k M1 => bnd (g env M1) fun v M2 => putT M.length k v M2
section
variable {X : Cx} {pins : List (Addr × Obj)} {σ : L2.St} {H : Hp} {s : Shared} {ad : List Addr} {M : Sto} {a : Addr}
theorem dct_setR (hu : X.A.units + 64 < cLine) (I : Inv X pins σ H s) (R : RS X.prog X.w X.K ad H M) {i : Nat} {kvs : List (D × D)} {k d : D} {nk : NestedKey} {ka : Addr} {v : V} {u : Value} {Q : Unit → Shared → Prop} {E : Value → Shared → Prop} (hM : M[i]? = some (.dct false kvs)) (ha : ad[i]? = some a)
    (hk : keyOf k = some nk) (dp : nk.depth ≤ 8) (rk : RV X.K ad H k (.ref ka)) (ru : RelV v u) (rv : RV X.K ad H d v) (hz : kvs.length < SL)
    (h : ∀ (H' : Hp) (s' : Shared), Inv X pins σ H' s' → Nxt ad H ad H' → RS X.prog X.w X.K ad H' (M.set i (.dct false (dput kvs k d))) → Q () s') : wpAny (model X.prog X.w) X.A (dictSet a (.ref ka) u) Q E s := by
  obtain ⟨xs, hD, r, nd, hz', hs, hl⟩ := dct_at I (R.at_ i _ a hM ha)
  have hH : H a = some (.ext (dFi X.prog X.w a xs)) := by unfold lkd at hl; simpa using hl
  refine wpAny_dictSet_heap (knd := nestedKind X.prog X.w) (hsz := hz') (show X.A.units + 8 < cLine by omega) ⟨keyOf_nested I rk hk, dp⟩ hD fun h' hD' hs' => ?_
  have x : Ext H (upd H a (.ext (dFi X.prog X.w a (storedH xs nk ka u)))) := .write hH (fun _ z => by cases z) fun _ _ z => by cases z
  refine h (upd H a (.ext (dFi X.prog X.w a (storedH xs nk ka u)))) _ ?_ (.write (List.mem_of_getElem? ha) hH (fun _ z => by cases z) fun _ _ z => by cases z) ?_
  · exact d_write I (by rw [hH]; exact True.intro) hs' (let ⟨o, _, _, ho, _⟩ := hD'; ⟨o, ho⟩) (dct_obj hD')
  · have r' : REs X.K ad H (dput kvs k d) (storedH xs nk ka u) := r.put hk dp rk ru rv
    have hl' : (dput kvs k d).length ≤ sizeLine := by have := dput_length kvs k d; rw [SL_eq]; omega
    obtain ⟨_, _, _, _, _, _, _, _, nd'⟩ := hD'
    exact R.write ha x ⟨_, by unfold lkd; simp [upd_same], r'.mono (fun _ _ e => e) x, nd', by rw [← r'.length]; exact hl', hs⟩
end
section
variable {X : Cx} {k v : Expr} {pos : Pos} {f g : EF}
theorem pe_dt1F (hu : X.A.units + 64 < cLine) (hk : PE X k (TEf X f)) (hv : PE X v (TEf X g)) : PE X (.Dict [some k] [v] pos) (TEf X (eDp1 f g)) :=
  ⟨fun pins s σ H Q I ⟨env, ad, M, M', r, E, S, hf, q⟩ => by
    obtain ⟨dk, M1, h1, hf⟩ := bnd_some hf
    obtain ⟨dv, M2, h2, hf⟩ := bnd_some hf
    have hp := I.hok.fresh (Nat.le_refl s.heap.objs.size)
    have hs : (s.heap.objs.size == sysModules) = false := beq_eq_false_iff_ne.mpr (Ne.symm (Nat.ne_of_lt I.big))
    have I1 := I.laid (a := s.heap.objs.size) (o := .ext (dFi X.prog X.w s.heap.objs.size [])) (h' := s.heap.push { cls := .type "dict", data := .dict #[] }) (t' := s.toks) (fun _ _ q => Heap.get?_push_of_some _ q) (Nat.le_refl _) (dct_new s.heap)
    have S1 : RS X.prog X.w X.K (ad ++ [s.heap.objs.size]) (upd H s.heap.objs.size (.ext (dFi X.prog X.w s.heap.objs.size []))) (M ++ [.dct false []]) :=
      S.alloc hp ⟨[], by unfold lkd; rw [if_neg (by simp)]; exact upd_same, .nil, by simp, by simp, hs⟩
    have n1 : Nxt ad H (ad ++ [s.heap.objs.size]) (upd H s.heap.objs.size (.ext (dFi X.prog X.w s.heap.objs.size []))) := .alloc hp
    have hq : TEf X f σ (upd H s.heap.objs.size (.ext (dFi X.prog X.w s.heap.objs.size []))) fun x H1 => TEf X g σ H1 fun y H2 => ∃ ad2, Nxt ad H ad2 H2 ∧ RS X.prog X.w X.K ad2 H2 M2 ∧ RV X.K ad2 H2 dk x ∧ RV X.K ad2 H2 dv y ∧ ad2[M.length]? = some s.heap.objs.size :=
      stepE (E.nxt n1) S1 h1 fun v1 H1 ad1 n2 S2 E2 r1 => stepE E2 S2 h2 fun v2 H2 ad2 n3 S3 E3 r2 => ⟨ad2, (n1.trans n2).trans n3, S3, r1.nxt n3, r2, n3.pre _ _ (n2.pre _ _ (at_new S.len))⟩
    refine wpAny_Dict_any rfl rfl (by simp) (by simp) (pairTrees_cons_walk (thn (hk.run pins _ σ _ _ I1 hq) fun kv s1 ⟨x, H1, I2, rx, hq2⟩ => thn (hv.run pins s1 σ H1 _ I2 hq2) fun vv s2 ⟨y, H2, I3, ry, ad2, n, S2, rk, rv, ha⟩ => pairTrees_nil_walk ?_))
    unfold putT at hf
    split at hf
    · rename_i kvs hM
      split at hf
      · rename_i nk hk'
        split at hf
        · rename_i hz
          cases hf
          obtain ⟨ka, xs, rfl, _, _⟩ := rv_tup rk
          cases rx
          show wpAny _ _ (forIn [_] _ _) _ _ _
          rw [List.forIn_cons]
          refine wpAny_bind (wpAny_bind (dct_setR hu I3 S2 hM ha hk' hz.1 rk ry rv hz.2 fun H3 s3 I4 n4 S4 => wpAny_pure ?_))
          refine wpAny_pure ⟨.ref s.heap.objs.size, H3, I4, rfl, ?_⟩
          exact q _ _ ad2 (n.trans n4) S4 (by rw [RV]; exact ⟨_, rfl, ha⟩)
        · cases hf
      · cases hf
    · cases hf⟩
end

/-! ### {'a': x, ..} -/
def mrgD (kvs : List (List Nat × D)) : List (List Nat) → List D → List (List Nat × D)
  | k :: ks, d :: ds => mrgD (dput kvs k d) ks ds
  | _, _ => kvs
def eDss (ks : List (List Nat)) (f : AF) : EF := fun env M => bnd (f env (M ++ [.dcs false []])) fun ds M1 => match M1[M.length]? with
  | some (.dcs false []) => if ds.length = ks.length ∧ ks.length ≤ 15 then some (.ref M.length, M1.set M.length (.dcs false (mrgD [] ks ds))) else none
  | _ => none
theorem S_back (x : Str) : S x.cps.toList = x := by
  cases x; simp [S]
structure PPA (X : Cx) (pos : Pos) (keys : List (Option Expr)) (values : List Expr) (ks : List (List Nat)) (t : TA) : Prop where
  run : ∀ (pins : List (Addr × Obj)) (s : Shared) (σ : L2.St) (H : Hp) (Q : List V → Hp → Prop), Inv X pins σ H s → t σ H Q →
    wpAny (model X.prog X.w) X.A (evalPairs (pairTrees keys values X.env pos)) (fun ws s' => ∃ us H', Inv X pins σ H' s' ∧ VV ((ks.map fun k => V.str (S k)).zip us) ws ∧ us.length = ks.length ∧ Q us H') X.xe s
section
variable {X : Cx} {pos p : Pos} {v : Expr} {f : EF} {g : AF}
theorem ppa_nil : PPA X pos [] [] [] (TAf X aNil) := ⟨fun pins s σ H Q I ⟨env, ad, M, M', rr, E, S, hf, q⟩ => by
  cases hf
  exact pairTrees_nil_walk ⟨[], H, I, .nil, rfl, q [] H ad (.refl _ _) S .nil⟩⟩
theorem ppa_cons {x : Str} {j : Nat} {ks : List (Option Expr)} {vs : List Expr} {kk : List (List Nat)} (hv : PE X v (TEf X f)) (hr : PPA X pos ks vs kk (TAf X g)) : PPA X pos (some (.Constant (.str x) j p) :: ks) (v :: vs) (x.cps.toList :: kk) (TAf X (aCons f g)) :=
  ⟨fun pins s σ H Q I ⟨env, ad, M, M', rr, E, S, hf, q⟩ => by
    obtain ⟨y, M1, h1, hf⟩ := bnd_some hf
    obtain ⟨ys, M2, h2, hf⟩ := bnd_some hf
    cases hf
    have hc : tC (.str x) σ H fun z H0 => z = .str x ∧ TEf X f σ H0 fun v1 H1 => TAf X g σ H1 fun us H2 => Q (v1 :: us) H2 :=
      ⟨rfl, stepE E S h1 fun v1 H1 ad1 n1 S1 E1 r1 => stepA E1 S1 h2 fun v2 H2 ad2 n2 S2 E2 r2 => q _ _ _ (n1.trans n2) S2 (.cons (r1.nxt n2) r2)⟩
    refine pairTrees_cons_walk (thn ((pe_str (X := X)).run pins s σ H _ I hc) fun u s1 ⟨z, H1, I1, rz, ez, q1⟩ => thn (hv.run pins s1 σ H1 _ I1 q1) fun w2 s2 ⟨y1, H2, I2, ry, q2⟩ =>
      thn (hr.run pins s2 σ H2 _ I2 q2) fun ws s3 ⟨us, H3, I3, rel, hl, q3⟩ => ⟨y1 :: us, H3, I3, ?_, by simp [hl], q3⟩)
    rw [List.map_cons, List.zip_cons_cons]
    exact .cons ⟨by rw [S_back, ← ez]; exact rz, ry⟩ rel⟩
theorem mrg_len : ∀ (ks : List (List Nat)) (ds : List D) (kvs : List (List Nat × D)), (mrgD kvs ks ds).length ≤ kvs.length + ks.length
  | [], _, kvs => by simp [mrgD]
  | _ :: _, [], kvs => by simp [mrgD]
  | k :: ks, d :: ds, kvs => by
    have h1 := mrg_len ks ds (dput kvs k d)
    have h2 := dput_length kvs k d
    rw [mrgD, List.length_cons]; omega
theorem mrg_rs {K : PySem.W.Frag} {ad : List Addr} {H : Hp} : ∀ {ks : List (List Nat)} {ds : List D} {us : List V} {kvs : List (List Nat × D)} {xs : List (Key × V)}, ds.length = ks.length → RVs K ad H ds us → RSs K ad H kvs xs →
    RSs K ad H (mrgD kvs ks ds) (mergeK xs ((ks.map fun k => (Sum.inr (RI.S k) : Key)).zip us))
  | [], [], us, kvs, xs, hl, h, r => by rw [h.nil_inv]; exact r
  | [], _ :: _, us, kvs, xs, hl, h, r => by simp at hl
  | _ :: _, [], us, kvs, xs, hl, h, r => by simp at hl
  | k :: ks, d :: ds, us, kvs, xs, hl, h, r => by
    obtain ⟨v, us', rfl, h1, h2⟩ := h.cons_inv
    rw [mrgD, List.map_cons, List.zip_cons_cons]
    exact mrg_rs (by simpa using hl) h2 (r.put k h1)
theorem zip_kv : ∀ (ks : List (List Nat)) (us : List V), ((ks.map fun k => V.str (S k)).zip us) = ((ks.map fun k => (Sum.inr (S k) : Key)).zip us).map fun kv => (kV kv.1, kv.2)
  | [], _ => rfl
  | _ :: _, [] => rfl
  | k :: ks, u :: us => by
    rw [List.map_cons, List.map_cons, List.zip_cons_cons, List.zip_cons_cons, List.map_cons, zip_kv ks us]; rfl
theorem pe_dssF {keys : List (Option Expr)} {values : List Expr} {ks : List (List Nat)} (h : PPA X pos keys values ks (TAf X g)) (hall : keys.all (·.isSome) = true) (hl : keys.length = values.length) (h0 : keys ≠ []) (h15 : keys.length ≤ 15) : PE X (.Dict keys values pos) (TEf X (eDss ks g)) := by
  refine ⟨fun pins s σ H Q I ⟨env, ad, M, M', r, E, S, hf, q⟩ => ?_⟩
  obtain ⟨ds, M1, h1, hf⟩ := bnd_some hf
  have hp := I.hok.fresh (Nat.le_refl s.heap.objs.size)
  have I1 := I.laid (a := s.heap.objs.size) (o := .dK []) (h' := s.heap.push { cls := .type "dict", data := .dict #[] }) (t' := s.toks) (fun _ _ q => Heap.get?_push_of_some _ q) (Nat.le_refl _) (dk_empty s.heap I.big)
  have S1 : RS X.prog X.w X.K (ad ++ [s.heap.objs.size]) (upd H s.heap.objs.size (.dK [])) (M ++ [.dcs false []]) := S.alloc hp ⟨[], by unfold lkd; rw [if_neg (by simp)]; exact upd_same, .nil⟩
  have n1 : Nxt ad H (ad ++ [s.heap.objs.size]) (upd H s.heap.objs.size (.dK [])) := .alloc hp
  have hq : TAf X g σ (upd H s.heap.objs.size (.dK [])) fun us H2 => ∃ ad2, Nxt ad H ad2 H2 ∧ RS X.prog X.w X.K ad2 H2 M1 ∧ RVs X.K ad2 H2 ds us ∧ ad2[M.length]? = some s.heap.objs.size :=
    stepA (E.nxt n1) S1 h1 fun v1 H1 ad1 n2 S2 E2 r1 => ⟨ad1, n1.trans n2, S2, r1, n2.pre _ _ (at_new S.len)⟩
  refine wpAny_Dict_walk (knd := mixKind X.prog X.w) hall hl h0 h15 (thn (h.run pins _ σ _ _ I1 hq) fun ws s2 ⟨us, H2, I2, rel, hlen, ad2, n, S2, rd, ha⟩ => ?_)
  split at hf
  · rename_i hM
    split at hf
    · rename_i hz
      cases hf
      rw [zip_kv] at rel
      obtain ⟨rs, c, rk⟩ := carries_of (P := X.prog) (w := X.w) rel
      obtain ⟨ks0, hl0, r0⟩ := S2.at_ _ _ _ hM ha
      cases r0
      have e : H2 s.heap.objs.size = some (.dK []) := by unfold lkd at hl0; simpa using hl0
      obtain ⟨z, hd, vs0, r0, dd⟩ := dk_of I2.hok e
      cases r0
      refine ⟨rs, c, dd, fun h' dd' hs => ?_⟩
      have hz' : (mergeK [] ((ks.map fun k => (Sum.inr (RI.S k) : Key)).zip us)).length ≤ sizeLine := by
        have h1 := length_mergeK ((ks.map fun k => (Sum.inr (RI.S k) : Key)).zip us) []
        rw [List.length_nil] at h1
        have h2 : ((ks.map fun k => (Sum.inr (RI.S k) : Key)).zip us).length ≤ 15 := by rw [List.length_zip, List.length_map]; omega
        rw [sizeLine_eq]; omega
      have he : ∃ q, h'.get? s.heap.objs.size = some q := let ⟨q, _, _, hq, _⟩ := dd'; ⟨q, hq⟩
      have x : Ext H2 (upd H2 s.heap.objs.size (.dK (mergeK [] ((ks.map fun k => (Sum.inr (RI.S k) : Key)).zip us)))) := .write e (fun _ z => by cases z) fun _ _ z => by cases z
      refine ⟨.ref s.heap.objs.size, _, d_write I2 (by rw [e]; exact True.intro) hs he (dk_new hz' hd (rk.merge .nil) dd'), rfl, ?_⟩
      refine q _ _ ad2 (n.trans (.write (List.mem_of_getElem? ha) e (fun _ z => by cases z) fun _ _ z => by cases z)) (S2.write ha x ⟨_, by unfold lkd; rw [if_neg (by simp)]; exact upd_same, (mrg_rs hz.1 rd .nil).mono (fun _ _ e => e) x⟩) ?_
      rw [RV]; exact ⟨_, rfl, ha⟩
    · cases hf
  · cases hf
end
end RI
end
/-! #### RL -/
section
set_option Elab.async false
set_option linter.all false
set_option maxRecDepth 100000
set_option maxHeartbeats 4000000
/-! Part L: targets, comprehensions, statements by data. -/
namespace RI
open PySem PySem.Spec PyProof.Rows L2 SeqAt

/-! ### targets -/
mutual
inductive IT where
  | nm (i : Nat)
  | tp (ts : ITs)
  deriving Repr
inductive ITs where
  | nil
  | cons (t : IT) (r : ITs)
  deriving Repr
end
def ITs.len : ITs → Nat
  | .nil => 0
  | .cons _ r => r.len + 1
mutual
def dT : IT → D → En → Option En
  | .nm i, d, env => some (env.set i (some d))
  | .tp ts, d, env => match d with
    | .tup ds => if ds.length = ts.len then dTs ts ds env else none
    | _ => none
def dTs : ITs → List D → En → Option En
  | .nil, ds, env => match ds with
    | [] => some env
    | _ => none
  | .cons t r, ds, env => match ds with
    | d :: ds => match dT t d env with
      | some env1 => dTs r ds env1
      | none => none
    | [] => none
end
mutual
def ixT : IT → List Nat
  | .nm i => [i]
  | .tp ts => ixTs ts
def ixTs : ITs → List Nat
  | .nil => []
  | .cons t r => ixT t ++ ixTs r
end
mutual
def gI (K : PySem.W.Frag) : IT → TG
  | .nm i => gName i
  | .tp ts => gTup K ts.len (gIs K ts)
def gIs (K : PySem.W.Frag) : ITs → TGs
  | .nil => gNil
  | .cons t r => gCons (gI K t) (gIs K r)
end
theorem wipe_set {i : Nat} {x : Option V} {σ : L2.St} : ∀ {vs : List Nat}, i ∈ vs → wipe (σ.set i x) vs = wipe σ vs
  | [], h => by simp at h
  | v :: vs, h => by
    unfold wipe
    by_cases e : v = i
    · subst e
      by_cases h2 : v ∈ vs
      · rw [wipe_set h2]
      · have : ∀ {ws : List Nat}, v ∉ ws → wipe (σ.set v x) ws = (wipe σ ws).set v x := by
          intro ws
          induction ws with
          | nil => intro _; rfl
          | cons w ws ih =>
            intro h3
            have h4 : w ≠ v ∧ v ∉ ws := ⟨fun z => h3 (by simp [z]), fun z => h3 (by simp [z])⟩
            unfold wipe
            rw [ih h4.2, List.set_comm _ _ (Ne.symm h4.1)]
        rw [this h2, List.set_set]
    · rw [wipe_set (by simpa [Ne.symm e] using h)]
section
variable {X : Cx} {ad : List Addr} {H : Hp}
mutual
theorem gI_ok : ∀ (t : IT) {d : D} {v : V} {env env' : En} {σ : L2.St}, RV X.K ad H d v → RE X ad H env σ → dT t d env = some env' →
    ∃ σ', (∀ Q : L2.St → Hp → Prop, Q σ' H → gI X.K t v σ H Q) ∧ RE X ad H env' σ' ∧ ∀ vs, (∀ i ∈ ixT t, i ∈ vs) → wipe σ' vs = wipe σ vs
  | .nm i, d, v, env, env', σ, hv, E, h => by
    rw [dT] at h; cases h
    exact ⟨σ.set i (some v), fun Q q => by rw [gI]; exact q, E.set i hv, fun vs h => wipe_set (h i (by simp [ixT]))⟩
  | .tp ts, d, v, env, env', σ, hv, E, h => by
    cases d with
    | tup ds =>
      rw [dT] at h
      split at h
      · rename_i hl
        obtain ⟨a, xs, rfl, t, r⟩ := rv_tup hv
        obtain ⟨σ', h1, h2, h3⟩ := gIs_ok ts r E h
        exact ⟨σ', fun Q q => by rw [gI]; exact ⟨a, xs, rfl, t, by rw [← r.length]; exact hl, h1 Q q⟩, h2, fun vs h => h3 vs (by rw [ixT] at h; exact h)⟩
      · cases h
    | _ => simp [dT] at h
theorem gIs_ok : ∀ (ts : ITs) {ds : List D} {vs : List V} {env env' : En} {σ : L2.St}, RVs X.K ad H ds vs → RE X ad H env σ → dTs ts ds env = some env' →
    ∃ σ', (∀ Q : L2.St → Hp → Prop, Q σ' H → gIs X.K ts vs σ H Q) ∧ RE X ad H env' σ' ∧ ∀ ws, (∀ i ∈ ixTs ts, i ∈ ws) → wipe σ' ws = wipe σ ws
  | .nil, ds, vs, env, env', σ, hv, E, h => by
    cases ds with
    | nil =>
      rw [dTs] at h
      cases h
      exact ⟨σ, fun Q q => by rw [gIs]; exact ⟨hv.nil_inv, q⟩, E, fun _ _ => rfl⟩
    | cons d ds => simp [dTs] at h
  | .cons t r, ds, vs, env, env', σ, hv, E, h => by
    cases ds with
    | nil => simp [dTs] at h
    | cons d ds =>
      rw [dTs] at h
      split at h
      · rename_i env1 h1
        obtain ⟨v, vs', rfl, r1, r2⟩ := hv.cons_inv
        obtain ⟨σ1, a1, a2, a3⟩ := gI_ok t r1 E h1
        obtain ⟨σ2, b1, b2, b3⟩ := gIs_ok r r2 a2 h
        refine ⟨σ2, fun Q q => by rw [gIs]; exact ⟨v, vs', rfl, a1 _ (b1 _ q)⟩, b2, fun ws hw => ?_⟩
        rw [b3 ws fun i hi => hw i (by simp [ixTs, hi]), a3 ws fun i hi => hw i (by simp [ixTs, hi])]
      · cases h
end
end

/-! ### list comprehensions -/
def compF (vs : List Nat) (t : IT) (c : BF) (e : EF) (gs : Gd) : List D → En → Sto → List D → Option (List D × Sto)
  | [], _, M, acc => if gdB gs M = true then some (acc, M) else none
  | d :: ds, env, M, acc => if gdB gs M = true then match dT t d env with
    | some env1 => bnd (c env1 M) fun b M1 => if b = true then bnd (e env1 M1) fun x M2 => if acc.length < SL then compF vs t c e gs ds env M2 (acc ++ [x]) else none
      else compF vs t c e gs ds env M1 acc
    | none => none else none
def eComp (it : IF) (t : IT) (c : BF) (e : EF) (vs : List Nat) : EF := fun env M => bnd (it env M) fun p M1 => bnd (compF vs t c e p.1 p.2 (wipeE env vs) M1 []) fun xs M2 => some (.ref M2.length, M2 ++ [.lst xs])
section
variable {X : Cx}
theorem imp_PTs {es : List Expr} {t t' : TT} (h : PTs X es t) (k : ∀ σ H Q, t' σ H Q → t σ H Q) : PTs X es t' := ⟨fun pins s σ H Q I hw => h.run pins s σ H Q I (k σ H Q hw)⟩
def bYes : BF := fun _ M => some (true, M)
theorem pts_nilF : PTs X [] (TTf X bYes) := imp_PTs pts_nil fun σ H Q ⟨env, ad, M, M', b, E, S, hf, q⟩ => by
  cases hf
  exact q H ad (.refl _ _) S
variable {ad ad1 : List Addr} {H H1 : Hp} {M : Sto} {D' : Addr} {xs ys : List V}
theorem notin_nxt (n : Nxt ad H ad1 H1) (h : H D' ≠ none) (hn : D' ∉ ad) : D' ∉ ad1 := fun z => h (n.new _ z hn)
theorem nxt_priv (n : Nxt ad H ad1 H1) (h0 : H D' = none) (hn : D' ∉ ad1) (h1 : H1 D' = some (.lst xs)) : Nxt ad H ad1 (upd H1 D' (.lst ys)) := by
  refine ⟨⟨fun b zs e => ?_, fun b o u z e => ?_⟩, n.pre, fun b hb hb2 => ?_, fun b hb => ?_, n.new, fun b o u e => by rw [upd_ne (ne_of_none e h0)]; exact n.lk b o u e⟩
  · rw [upd_ne (ne_of_none e h0)]; exact n.ext.tups b zs e
  · rw [upd_ne (ne_of_none e h0)]; exact n.ext.frzs b o u z e
  · rw [upd_ne (fun z => hb (by rw [z]; exact h0))]; exact n.fr b hb hb2
  · rw [upd_ne (fun z => hb (by rw [z]; exact h0))]; exact n.live b hb
theorem RS.priv (R : RS X.prog X.w X.K ad H M) (hn : D' ∉ ad) (h1 : H D' = some (.lst xs)) : RS X.prog X.w X.K ad (upd H D' (.lst ys)) M :=
  ⟨R.len, R.nd, fun i o b h2 h3 => (R.at_ i o b h2 h3).mono (fun _ _ e => e) (.write h1 (fun _ z => by cases z) fun _ _ z => by cases z) (upd_ne fun z => hn (z ▸ List.mem_of_getElem? h3))⟩
theorem RS.adopt (R : RS X.prog X.w X.K ad H M) (hn : D' ∉ ad) {o : MO} (ho : RO X.prog X.w X.K (ad ++ [D']) H o D') : RS X.prog X.w X.K (ad ++ [D']) H (M ++ [o]) := by
  have pr : Pre ad (ad ++ [D']) := fun i a e => by rw [List.getElem?_append_left (List.getElem?_eq_some_iff.mp e).1]; exact e
  refine ⟨by simp [R.len], ?_, fun i o' a h1 h2 => ?_⟩
  · rw [List.nodup_append]
    exact ⟨R.nd, by simp, fun a ha b hb => by rw [List.mem_singleton.mp hb]; exact fun z => hn (z ▸ ha)⟩
  · by_cases hi : i < M.length
    · rw [List.getElem?_append_left hi] at h1
      rw [List.getElem?_append_left (by rw [R.len]; exact hi)] at h2
      exact (R.at_ i o' a h1 h2).mono pr (.refl _) rfl
    · have hl := (List.getElem?_eq_some_iff.mp h1).1
      have hi2 : i = M.length := by simp at hl; omega
      subst hi2
      simp only [List.getElem?_concat_length, Option.some.injEq] at h1
      rw [← R.len, List.getElem?_concat_length] at h2
      cases h2; subst h1
      exact ho
theorem tLc_F {it : IF} {t : IT} {c : BF} {e : EF} {vs : List Nat} (hv : ∀ i ∈ ixT t, i ∈ vs) : ∀ σ H Q, TEf X (eComp it t c e vs) σ H Q → tLc (TIf X it) (gI X.K t) (TTf X c) (TEf X e) vs σ H Q := by
  intro σ H Q ⟨env, ad, M, M', r, E, S, hf, q⟩
  obtain ⟨⟨gs, items⟩, M1, h1, hf⟩ := bnd_some hf
  obtain ⟨res, M2, h2, hf⟩ := bnd_some hf
  cases hf
  refine ⟨env, ad, M, M1, gs, items, E, S, h1, fun J H1 ad1 n1 S1 ok Da hDa => ?_⟩
  have hn1 : Da ∉ ad1 := fun z => S1.live z hDa
  refine ⟨fun i m H' => m = items.length - i ∧ i ≤ items.length ∧ ∃ ad' Mi acc accV, Nxt ad1 H1 ad' H' ∧ Da ∉ ad' ∧ H' Da = some (.lst accV) ∧ RVs X.K ad' H' acc accV ∧ RS X.prog X.w X.K ad' H' Mi ∧ RE X ad' H' (wipeE env vs) (wipe σ vs) ∧ compF vs t c e gs (items.drop i) (wipeE env vs) Mi acc = some (res, M2),
    ⟨items.length, by simp, Nat.zero_le _, ad1, M1, [], [], .tup hDa, hn1, upd_same, .nil, S1.tup hDa, ((E.nxt n1).nxt (.tup hDa)).wipe vs, h2⟩, ?_⟩
  rintro i m H' ⟨rfl, hi, ad', Mi, acc, accV, n, hn, hD, ra, S', E', hc⟩
  by_cases hlt : i < items.length
  · rw [List.drop_eq_getElem_cons hlt, compF] at hc
    split at hc
    · rename_i hg
      split at hc
      · rename_i env1 ht
        obtain ⟨b, M3, h3, hc⟩ := bnd_some hc
        have e1 : items[i]? = some items[i] := List.getElem?_eq_getElem hlt
        obtain ⟨go, yl⟩ := ok.go ad' H' Mi i _ n S' hg e1
        refine .inr ⟨go, fun H2 => ∃ ad' Mi acc accV, Nxt ad1 H1 ad' H2 ∧ Da ∉ ad' ∧ H2 Da = some (.lst accV) ∧ RVs X.K ad' H2 acc accV ∧ RS X.prog X.w X.K ad' H2 Mi ∧ RE X ad' H2 (wipeE env vs) (wipe σ vs) ∧ compF vs t c e gs (items.drop (i + 1)) (wipeE env vs) Mi acc = some (res, M2),
          fun H2 h => ⟨items.length - (i + 1), by omega, rfl, hlt, h⟩, fun x H2 hy => ?_⟩
        obtain ⟨n2, S2, rx⟩ := yl x H2 hy
        obtain ⟨σ2, g1, g2, g3⟩ := gI_ok t rx (E'.nxt n2) ht
        refine g1 _ ⟨?_, stepB g2 S2 h3 fun H3 ad3 n3 S3 E3 => ?_⟩
        · rw [g3 vs hv]
          have : ∀ ws : List Nat, (∀ j ∈ ws, j ∈ vs) → wipe (wipe σ vs) ws = wipe σ vs := by
            have at' : ∀ j ∈ vs, (wipe σ vs).set j none = wipe σ vs := by
              intro j hj
              refine List.ext_getElem? fun k => ?_
              by_cases hk : j = k
              · subst hk
                by_cases hl : j < (wipe σ vs).length
                · rw [List.getElem?_set_self hl]
                  have : (wipe σ vs)[j]? = some none := by
                    cases hz : (wipe σ vs)[j]? with
                    | none => exact absurd (List.getElem?_eq_none_iff.mp hz) (by omega)
                    | some o => cases o with
                      | none => rfl
                      | some z => exact absurd hj (wipe_some hz).2
                  rw [this]
                · rw [List.getElem?_eq_none (by simpa using hl), List.getElem?_eq_none (by simpa using hl)]
              · rw [List.getElem?_set_ne hk]
            intro ws
            induction ws with
            | nil => intro _; rfl
            | cons w ws ih => intro h; show (wipe (wipe σ vs) ws).set w none = _; rw [ih fun j hj => h j (by simp [hj]), at' w (h w (by simp))]
          exact this vs fun j hj => hj
        · have hD2 : H2 Da = some (.lst accV) := by rw [n2.fr Da (by rw [hD]; simp) hn]; exact hD
          have hD3 : H3 Da = some (.lst accV) := by rw [n3.fr Da (by rw [hD2]; simp) hn]; exact hD2
          have hn3 : Da ∉ ad3 := notin_nxt n3 (by rw [hD2]; simp) hn
          have n' := (n.trans n2).trans n3
          have E0 : RE X ad3 H3 (wipeE env vs) (wipe σ vs) := (E'.nxt n2).nxt n3
          cases b with
          | true =>
            rw [if_pos rfl] at hc ⊢
            obtain ⟨y, M4, h4, hc⟩ := bnd_some hc
            split at hc
            · rename_i hz
              refine stepE E3 S3 h4 fun v4 H4 ad4 n4 S4 E4 r4 => ?_
              have hD4 : H4 Da = some (.lst accV) := by rw [n4.fr Da (by rw [hD3]; simp) hn3]; exact hD3
              have hn4 : Da ∉ ad4 := notin_nxt n4 (by rw [hD3]; simp) hn3
              have x4 : Ext H4 (upd H4 Da (.lst (accV ++ [v4]))) := .write hD4 (fun _ z => by cases z) fun _ _ z => by cases z
              refine ⟨accV, hD4, by rw [← ra.length, SL_eq]; exact hz, ad4, M4, acc ++ [y], accV ++ [v4], nxt_priv (n'.trans n4) hDa hn4 hD4, hn4, upd_same, ?_, S4.priv hn4 hD4, (E0.nxt n4).mono (fun _ _ e => e) x4, hc⟩
              exact ((((ra.nxt n2).nxt n3).nxt n4).append (.cons r4 .nil)).mono (fun _ _ e => e) x4
            · cases hc
          | false =>
            rw [if_neg (by simp)] at hc ⊢
            exact ⟨ad3, M3, acc, accV, n', hn3, hD3, (ra.nxt n2).nxt n3, S3, E0, hc⟩
      · cases hc
    · cases hc
  · have e : i = items.length := by omega
    subst e
    rw [List.drop_length, compF] at hc
    split at hc
    · rename_i hg
      cases hc
      refine .inl ⟨ok.stop ad' H' _ _ n S' hg (Nat.le_refl _), ?_⟩
      have pr : Pre ad' (ad' ++ [Da]) := fun i a e => by rw [List.getElem?_append_left (List.getElem?_eq_some_iff.mp e).1]; exact e
      refine q _ _ (ad' ++ [Da]) ?_ (S'.adopt hn ⟨accV, hD, ra.mono pr (.refl _)⟩) (by rw [RV]; exact ⟨Da, rfl, at_new S'.len⟩)
      have n'' := n1.trans n
      refine ⟨n''.ext, fun i a e => pr i a (n''.pre i a e), n''.fr, n''.live, fun a h1 h2 => ?_, n''.lk⟩
      rcases List.mem_append.mp h1 with z | z
      · exact n''.new a z h2
      · rw [List.mem_singleton.mp z]
        by_cases hz : H Da = none
        · exact hz
        · exact absurd hDa (n1.live _ hz)
    · cases hc
end
end RI
end
/-! #### RM -/
section
set_option Elab.async false
set_option linter.all false
set_option maxRecDepth 100000
set_option maxHeartbeats 4000000
/-! Part M: statements by data. -/
namespace RI
open PySem PySem.Spec PyProof.Rows L2 SeqAt

inductive Fl where
  | nx (env : En)
  | rt (d : D)
  | bk (env : En)
  | ct (env : En)
abbrev SF := En → Sto → Option (Fl × Sto)
def FinS (X : Cx) (ad : List Addr) (H : Hp) (fl : Fl) (M' : Sto) (D : Ends) : Prop := match fl with
  | .nx e => ∀ (σ' : L2.St) (H' : Hp) (ad' : List Addr), Nxt ad H ad' H' → RS X.prog X.w X.K ad' H' M' → RE X ad' H' e σ' → D.nx σ' H'
  | .bk e => ∀ (σ' : L2.St) (H' : Hp) (ad' : List Addr), Nxt ad H ad' H' → RS X.prog X.w X.K ad' H' M' → RE X ad' H' e σ' → D.bk σ' H'
  | .ct e => ∀ (σ' : L2.St) (H' : Hp) (ad' : List Addr), Nxt ad H ad' H' → RS X.prog X.w X.K ad' H' M' → RE X ad' H' e σ' → D.ct σ' H'
  | .rt d => ∀ (v : V) (H' : Hp) (ad' : List Addr), Nxt ad H ad' H' → RS X.prog X.w X.K ad' H' M' → RV X.K ad' H' d v → D.rt v H'
theorem FinS.trans {X : Cx} {ad ad' : List Addr} {H H' : Hp} {r : Fl} {M : Sto} {D : Ends} (n : Nxt ad H ad' H') (q : FinS X ad H r M D) : FinS X ad' H' r M D := by
  cases r <;> exact fun v H2 ad2 n2 R2 h2 => q v H2 ad2 (n.trans n2) R2 h2
def TSf (X : Cx) (f : SF) : TS := fun D σ H => ∃ (env : En) (ad : List Addr) (M M' : Sto) (fl : Fl), RE X ad H env σ ∧ RS X.prog X.w X.K ad H M ∧ f env M = some (fl, M') ∧ FinS X ad H fl M' D

def sNil : SF := fun env M => some (.nx env, M)
def sSeq (f g : SF) : SF := fun env M => match f env M with
  | some (.nx e, M1) => g e M1
  | o => o
def sExp (f : EF) : SF := fun env M => bnd (f env M) fun _ M1 => some (.nx env, M1)
def sRet (f : EF) : SF := fun env M => bnd (f env M) fun d M1 => some (.rt d, M1)
def sRetN : SF := fun env M => some (.rt .non, M)
def sAsg (t : IT) (f : EF) : SF := fun env M => bnd (f env M) fun d M1 => (dT t d env).map fun e => (.nx e, M1)
def sPar2 (i j : Nat) (f : AF) : SF := fun env M => bnd (f env M) fun ds M1 => match ds with
  | [x, y] => some (.nx ((env.set i (some x)).set j (some y)), M1)
  | _ => none
def sPar3 (i j k : Nat) (f : AF) : SF := fun env M => bnd (f env M) fun ds M1 => match ds with
  | [x, y, z] => some (.nx (((env.set i (some x)).set j (some y)).set k (some z)), M1)
  | _ => none
def sSub (o i v : EF) : SF := fun env M => bnd (v env M) fun x M1 => bnd (o env M1) fun a M2 => bnd (i env M2) fun b M3 => (setD a b x M3).map fun M4 => (.nx env, M4)
def sIf (c : EF) (f g : SF) : SF := fun env M => bnd (bOf c env M) fun b M1 => if b = true then f env M1 else g env M1
def sBrk : SF := fun env M => some (.bk env, M)
def sCnt : SF := fun env M => some (.ct env, M)
def sStk : SF := fun _ _ => none
def whileF (c : EF) (body : SF) : Nat → SF
  | 0, _, _ => none
  | n + 1, env, M => bnd (bOf c env M) fun b M1 => if b = true then match body env M1 with
    | some (.nx e, M2) => whileF c body n e M2
    | some (.ct e, M2) => whileF c body n e M2
    | some (.bk e, M2) => some (.nx e, M2)
    | some (.rt d, M2) => some (.rt d, M2)
    | none => none
    else some (.nx env, M1)
def forF (t : IT) (body : SF) (gs : Gd) : List D → SF
  | [], env, M => if gdB gs M = true then some (.nx env, M) else none
  | d :: ds, env, M => if gdB gs M = true then match dT t d env with
    | some e1 => match body e1 M with
      | some (.nx e, M2) => forF t body gs ds e M2
      | some (.ct e, M2) => forF t body gs ds e M2
      | some (.bk e, M2) => some (.nx e, M2)
      | some (.rt d, M2) => some (.rt d, M2)
      | none => none
    | none => none else none
def sFor (it : IF) (t : IT) (body : SF) : SF := fun env M => bnd (it env M) fun p M1 => forF t body p.1 p.2 env M1
/-- over a dict's keys, the dict locked -/
def unlk (r : Nat) (o : Option (Fl × Sto)) : Option (Fl × Sto) := match o with
  | some (fl, M) => match M[r]? with
    | some (.dct true kvs) => some (fl, M.set r (.dct false kvs))
    | _ => none
  | none => none
/-- for x in name: a dict with tuple keys, or a sequence -/
def sForV (i : Nat) (t : IT) (body : SF) : SF := fun env M => match env[i]? with
  | some (some (.ref r)) => match M[r]? with
    | some (.dct false kvs) => unlk r (forF t body [(r, .dct true kvs)] (kvs.map (·.1)) env (M.set r (.dct true kvs)))
    | _ => sFor (iSrcF (eVar i)) t body env M
  | _ => sFor (iSrcF (eVar i)) t body env M

section
variable {X : Cx} {e o i v : Expr} {pos tpos p1 p2 : Pos} {f g h : EF} {st : Stmt} {sts : List Stmt} {s1 s2 : SF}
theorem pss_nilF : PSs X [] (TSf X sNil) := imp_PSs pss_nil fun D σ H ⟨env, ad, M, M', fl, E, S, hf, q⟩ => by
  cases hf
  exact q σ H ad (.refl _ _) S E
theorem pss_consF (h1 : PS X st (TSf X s1)) (h2 : PSs X sts (TSf X s2)) : PSs X (st :: sts) (TSf X (sSeq s1 s2)) := imp_PSs (pss_cons h1 h2) fun D σ H ⟨env, ad, M, M', fl, E, S, hf, q⟩ => by
  unfold sSeq at hf
  split at hf
  · rename_i e M1 h1
    exact ⟨env, ad, M, M1, .nx e, E, S, h1, fun σ' H' ad' n S' E' => ⟨e, ad', M1, M', fl, E', S', hf, q.trans n⟩⟩
  · rename_i hno
    refine ⟨env, ad, M, M', fl, E, S, hf, ?_⟩
    cases fl with
    | nx e => exact absurd hf (hno e M')
    | bk e => exact q
    | ct e => exact q
    | rt d => exact q
theorem ps_expF (he : PE X e (TEf X f)) (hs : swapsWith e none pos.line X.env = pure false) : PS X (.Expr e pos) (TSf X (sExp f)) := imp_PS (ps_expr he hs) fun D σ H ⟨env, ad, M, M', fl, E, S, hf, q⟩ => by
  obtain ⟨d, M1, h1, hf⟩ := bnd_some hf
  cases hf
  exact stepE E S h1 fun v1 H1 ad1 n1 S1 E1 r1 => q _ _ _ n1 S1 E1
theorem ps_docF {x : Str} {j : Nat} {p' : Pos} : PS X (.Expr (.Constant (.str x) j pos) p') (TSf X sNil) := imp_PS ps_doc fun D σ H ⟨env, ad, M, M', fl, E, S, hf, q⟩ => by
  cases hf
  exact q σ H ad (.refl _ _) S E
theorem ps_passF : PS X (.Pass pos) (TSf X sNil) := imp_PS ps_pass fun D σ H ⟨env, ad, M, M', fl, E, S, hf, q⟩ => by
  cases hf
  exact q σ H ad (.refl _ _) S E
theorem ps_brkF : PS X (.Break pos) (TSf X sBrk) := imp_PS ps_break fun D σ H ⟨env, ad, M, M', fl, E, S, hf, q⟩ => by
  cases hf
  exact q σ H ad (.refl _ _) S E
theorem ps_cntF : PS X (.Continue pos) (TSf X sCnt) := imp_PS ps_continue fun D σ H ⟨env, ad, M, M', fl, E, S, hf, q⟩ => by
  cases hf
  exact q σ H ad (.refl _ _) S E
theorem ps_stkF : PS X st (TSf X sStk) := imp_PS ps_never fun D σ H ⟨env, ad, M, M', fl, E, S, hf, q⟩ => by cases hf
theorem ps_retF (he : PE X e (TEf X f)) : PS X (.Return (some e) pos) (TSf X (sRet f)) := imp_PS (ps_ret he) fun D σ H ⟨env, ad, M, M', fl, E, S, hf, q⟩ => by
  obtain ⟨d, M1, h1, hf⟩ := bnd_some hf
  cases hf
  exact stepE E S h1 fun v1 H1 ad1 n1 S1 E1 r1 => q _ _ _ n1 S1 r1
theorem ps_retNF : PS X (.Return none pos) (TSf X sRetN) := imp_PS ps_retN fun D σ H ⟨env, ad, M, M', fl, E, S, hf, q⟩ => by
  cases hf
  exact q _ _ ad (.refl _ _) S .nonI
theorem ps_asgF {tg : Expr} {t : IT} (he : PE X e (TEf X f)) (hg : PG X tg (gI X.K t)) (hs : swapsWithSole [tg] e pos.line X.env = pure false) (hw : swappedStores [tg] e X.env = pure none)
    (h1 : (assignEach [tg] X.env).map (·.2) = [assign tg X.env]) : PS X (.Assign [tg] e pos) (TSf X (sAsg t f)) := imp_PS (ps_asg he hg hs hw h1) fun D σ H ⟨env, ad, M, M', fl, E, S, hf, q⟩ => by
  obtain ⟨d, M1, h1, hf⟩ := bnd_some hf
  rw [Option.map_eq_some_iff] at hf
  obtain ⟨e1, h2, hf⟩ := hf
  cases hf
  refine stepE E S h1 fun v1 H1 ad1 n1 S1 E1 r1 => ?_
  obtain ⟨σ', a1, a2, _⟩ := gI_ok t r1 E1 h2
  exact a1 _ (q _ _ _ n1 S1 a2)
theorem tPar_F {i j : Nat} {fa : AF} : ∀ D σ H, TSf X (sPar2 i j fa) D σ H → tPar i j (TAf X fa) D σ H := fun D σ H ⟨env, ad, M, M', fl, E, S, hf, q⟩ => by
  obtain ⟨ds, M1, h1, hf⟩ := bnd_some hf
  split at hf
  · cases hf
    refine stepA E S h1 fun v1 H1 ad1 n1 S1 E1 r1 => ?_
    obtain ⟨x, y, rfl, rx, ry⟩ := rvs2 r1
    exact ⟨x, y, rfl, q _ _ _ n1 S1 ((E1.set i rx).set j ry)⟩
  · cases hf
theorem tPar3_F {i j k : Nat} {fa : AF} : ∀ D σ H, TSf X (sPar3 i j k fa) D σ H → tPar3 i j k (TAf X fa) D σ H := fun D σ H ⟨env, ad, M, M', fl, E, S, hf, q⟩ => by
  obtain ⟨ds, M1, h1, hf⟩ := bnd_some hf
  split at hf
  · cases hf
    refine stepA E S h1 fun v1 H1 ad1 n1 S1 E1 r1 => ?_
    obtain ⟨x, r, rfl, rx, rr⟩ := r1.cons_inv
    obtain ⟨y, z, rfl, ry, rz⟩ := rvs2 rr
    exact ⟨x, y, z, rfl, q _ _ _ n1 S1 (((E1.set i rx).set j ry).set k rz)⟩
  · cases hf
/-- no slice -/
def nsl : Expr → Bool
  | .Slice _ _ _ _ => false
  | _ => true
theorem asg_nsl {o i : Expr} {pos : Pos} {env : Env} (h : nsl i = true) : ∀ v, assign (.Subscript o i pos) env v = (do
      let ov ← holding [v] (eval o env)
      let iv ← holding [v, ov] (eval i env)
      standAt pos
      holding [v, ov, iv] (setItem ov iv v)
      release [v, ov, iv] []) := by
  intro v
  cases i <;> first | rfl | cases h
theorem ps_subF {o i : Expr} {pos' : Pos} (hu : X.A.units + 64 < cLine) (hv : PE X v (TEf X f)) (ho : PE X o (TEf X g)) (hi : PE X i (TEf X h)) (hs : swapsWithSole [.Subscript o i pos'] v pos.line X.env = pure false) (hw : swappedStores [.Subscript o i pos'] v X.env = pure none) (hn : nsl i = true) :
    PS X (.Assign [.Subscript o i pos'] v pos) (TSf X (sSub g h f)) := imp_PS (ps_asg hv (pg_sub ho hi (set_D hu) (asg_nsl hn)) hs hw) fun D σ H ⟨env, ad, M, M', fl, E, S, hf, q⟩ => by
  obtain ⟨x, M1, h1, hf⟩ := bnd_some hf
  obtain ⟨a, M2, h2, hf⟩ := bnd_some hf
  obtain ⟨b, M3, h3, hf⟩ := bnd_some hf
  rw [Option.map_eq_some_iff] at hf
  obtain ⟨M4, h4, hf⟩ := hf
  cases hf
  exact stepE E S h1 fun v1 H1 ad1 n1 S1 E1 r1 => stepE E1 S1 h2 fun v2 H2 ad2 n2 S2 E2 r2 => stepE E2 S2 h3 fun v3 H3 ad3 n3 S3 E3 r3 =>
    ⟨ad3, M3, M', a, b, x, S3, r2.nxt n3, r3, (r1.nxt n2).nxt n3, h4, fun H4 n4 S4 => q _ _ _ (((n1.trans n2).trans n3).trans n4) S4 (E3.nxt n4)⟩
theorem ps_ifF {c : Expr} {a b : List Stmt} (hc : PT X c (TTf X (bOf f))) (ha : PSs X a (TSf X s1)) (hb : PSs X b (TSf X s2)) : PS X (.If c a b pos) (TSf X (sIf f s1 s2)) := imp_PS (ps_if hc ha hb) fun D σ H ⟨env, ad, M, M', fl, E, S, hf, q⟩ => by
  obtain ⟨k, M1, h1, hf⟩ := bnd_some hf
  refine stepB E S h1 fun H1 ad1 n1 S1 E1 => ?_
  cases k with
  | true =>
    rw [if_pos rfl] at hf ⊢
    exact ⟨env, ad1, M1, M', fl, E1, S1, hf, q.trans n1⟩
  | false =>
    rw [if_neg (by simp)] at hf ⊢
    exact ⟨env, ad1, M1, M', fl, E1, S1, hf, q.trans n1⟩
theorem ps_whileF {c : Expr} {a : List Stmt} {W : Nat} (hp : PassesOwn (model X.prog X.w) X.A X.env X.xe) (hc : PT X c (TTf X (bOf f))) (ha : PSs X a (TSf X s1)) : PS X (.While c a [] pos) (TSf X (whileF f s1 W)) := imp_PS (ps_while hp hc ha) fun D σ H ⟨env, ad, M, M', fl, E, S, hf, q⟩ => by
  refine ⟨fun m σ' H' => ∃ env' ad' M1, RE X ad' H' env' σ' ∧ RS X.prog X.w X.K ad' H' M1 ∧ whileF f s1 m env' M1 = some (fl, M') ∧ Nxt ad H ad' H', ⟨W, env, ad, M, E, S, hf, .refl _ _⟩, ?_⟩
  rintro m σ' H' ⟨env', ad', M1, E', S', hw, n⟩
  cases m with
  | zero => rw [whileF] at hw; cases hw
  | succ m =>
    rw [whileF] at hw
    obtain ⟨k, M2, h1, hw⟩ := bnd_some hw
    refine stepB E' S' h1 fun H1 ad1 n1 S1 E1 => ?_
    cases k with
    | true =>
      rw [if_pos rfl] at hw ⊢
      refine ⟨fun σ2 H2 => ∃ env' ad' M1, RE X ad' H2 env' σ2 ∧ RS X.prog X.w X.K ad' H2 M1 ∧ whileF f s1 m env' M1 = some (fl, M') ∧ Nxt ad H ad' H2, fun σ2 H2 h => ⟨m, Nat.lt_succ_self m, h⟩, ?_⟩
      split at hw
      · rename_i e2 M3 h2
        exact ⟨env', ad1, M2, M3, .nx e2, E1, S1, h2, fun σ3 H3 ad3 n3 S3 E3 => ⟨e2, ad3, M3, E3, S3, hw, (n.trans n1).trans n3⟩⟩
      · rename_i e2 M3 h2
        exact ⟨env', ad1, M2, M3, .ct e2, E1, S1, h2, fun σ3 H3 ad3 n3 S3 E3 => ⟨e2, ad3, M3, E3, S3, hw, (n.trans n1).trans n3⟩⟩
      · rename_i e2 M3 h2
        cases hw
        exact ⟨env', ad1, M2, M', .bk e2, E1, S1, h2, fun σ3 H3 ad3 n3 S3 E3 => q _ _ _ ((n.trans n1).trans n3) S3 E3⟩
      · rename_i d M3 h2
        cases hw
        exact ⟨env', ad1, M2, M', .rt d, E1, S1, h2, fun σ3 H3 ad3 n3 S3 E3 => q _ _ _ ((n.trans n1).trans n3) S3 E3⟩
      · cases hw
    | false =>
      rw [if_neg (by simp)] at hw ⊢
      cases hw
      exact q _ _ _ (n.trans n1) S1 E1
/-- the loop of a for, from an iterator -/
theorem for_loop {J : It} {ad1 : List Addr} {H1 : Hp} {gs : Gd} {items : List D} {t : IT} {env : En} {M1 M' : Sto} {fl : Fl} {σ : L2.St} {D : Ends} (ok : ItOk X J ad1 H1 gs items) (E : RE X ad1 H1 env σ) (S : RS X.prog X.w X.K ad1 H1 M1) (hf : forF t s1 gs items env M1 = some (fl, M')) (q : FinS X ad1 H1 fl M' D) :
    ∃ W : Nat → Nat → L2.St → Hp → Prop, (∃ m, W 0 m σ H1) ∧ ∀ i m σ H, W i m σ H →
      (J.stop i H ∧ D.nx σ H) ∨ (J.go i H ∧ ∃ N : L2.St → Hp → Prop, (∀ σ' H', N σ' H' → ∃ m', m' < m ∧ W (i + 1) m' σ' H') ∧ ∀ x H', J.yld i H x H' → gI X.K t x σ H' fun σ2 H2 => TSf X s1 { D with nx := N, ct := N, bk := D.nx } σ2 H2) := by
  refine ⟨fun i m σ' H' => m = items.length - i ∧ i ≤ items.length ∧ ∃ env' ad' M2, RE X ad' H' env' σ' ∧ RS X.prog X.w X.K ad' H' M2 ∧ forF t s1 gs (items.drop i) env' M2 = some (fl, M') ∧ Nxt ad1 H1 ad' H', ⟨items.length, by simp, Nat.zero_le _, env, ad1, M1, E, S, hf, .refl _ _⟩, ?_⟩
  rintro i m σ' H' ⟨rfl, hi, env', ad', M2, E', S', hw, n⟩
  by_cases hlt : i < items.length
  · rw [List.drop_eq_getElem_cons hlt, forF] at hw
    split at hw
    · rename_i hg
      split at hw
      · rename_i e1 ht
        obtain ⟨go, yl⟩ := ok.go ad' H' M2 i _ n S' hg (List.getElem?_eq_getElem hlt)
        refine .inr ⟨go, fun σ2 H2 => ∃ env' ad' M2, RE X ad' H2 env' σ2 ∧ RS X.prog X.w X.K ad' H2 M2 ∧ forF t s1 gs (items.drop (i + 1)) env' M2 = some (fl, M') ∧ Nxt ad1 H1 ad' H2, fun σ2 H2 h => ⟨items.length - (i + 1), by omega, rfl, hlt, h⟩, fun x H2 hy => ?_⟩
        obtain ⟨n2, S2, rx⟩ := yl x H2 hy
        obtain ⟨σ2, g1, g2, _⟩ := gI_ok t rx (E'.nxt n2) ht
        refine g1 _ ?_
        split at hw
        · rename_i e2 M3 h2
          exact ⟨e1, ad', M2, M3, .nx e2, g2, S2, h2, fun σ3 H3 ad3 n3 S3 E3 => ⟨e2, ad3, M3, E3, S3, hw, (n.trans n2).trans n3⟩⟩
        · rename_i e2 M3 h2
          exact ⟨e1, ad', M2, M3, .ct e2, g2, S2, h2, fun σ3 H3 ad3 n3 S3 E3 => ⟨e2, ad3, M3, E3, S3, hw, (n.trans n2).trans n3⟩⟩
        · rename_i e2 M3 h2
          cases hw
          exact ⟨e1, ad', M2, M', .bk e2, g2, S2, h2, fun σ3 H3 ad3 n3 S3 E3 => q _ _ _ ((n.trans n2).trans n3) S3 E3⟩
        · rename_i d M3 h2
          cases hw
          exact ⟨e1, ad', M2, M', .rt d, g2, S2, h2, fun σ3 H3 ad3 n3 S3 E3 => q _ _ _ ((n.trans n2).trans n3) S3 E3⟩
        · cases hw
      · cases hw
    · cases hw
  · have e : i = items.length := by omega
    subst e
    rw [List.drop_length, forF] at hw
    split at hw
    · rename_i hg
      cases hw
      exact .inl ⟨ok.stop ad' H' _ _ n S' hg (Nat.le_refl _), q _ _ _ n S' E'⟩
    · cases hw
theorem tFor_F {it : IF} {t : IT} : ∀ D σ H, TSf X (sFor it t s1) D σ H → tFor (TIf X it) (gI X.K t) (TSf X s1) D σ H := fun D σ H ⟨env, ad, M, M', fl, E, S, hf, q⟩ => by
  obtain ⟨⟨gs, items⟩, M1, h1, hf⟩ := bnd_some hf
  exact ⟨env, ad, M, M1, gs, items, E, S, h1, fun J H1 ad1 n1 S1 ok => for_loop ok (E.nxt n1) S1 hf (q.trans n1)⟩
theorem ps_forF {iter tg : Expr} {body : List Stmt} {it : IF} {t : IT} (hp : PassesOwn (model X.prog X.w) X.A X.env X.xe) (hc : X.calm = true) (hi : PI X tg iter (TIf X it)) (hg : PG X tg (gI X.K t)) (hb : PSs X body (TSf X s1)) (hs : ∀ x, foldedSetIterable iter X.env x = pure x) :
    PS X (.For tg iter body [] pos) (TSf X (sFor it t s1)) := imp_PS (ps_for hp hc hi hg hb hs) tFor_F
end
end RI
end
/-! #### RN -/
section
set_option Elab.async false
set_option linter.all false
set_option maxRecDepth 100000
set_option maxHeartbeats 4000000
/-! Part N: a for over a dict's keys. -/
namespace RI
open PySem PySem.Spec PyProof.Rows L2 SeqAt
section
variable {X : Cx}
theorem PS_or {st : Stmt} {t u : TS} (h : PS X st t) (h' : PS X st u) : PS X st (fun D σ H => t D σ H ∨ u D σ H) := ⟨fun pins s σ H D I q => q.elim (h.run pins s σ H D I) (h'.run pins s σ H D I)⟩
theorem key_REs {K : PySem.W.Frag} {ad : List Addr} {H : Hp} {kvs : List (D × D)} {xs : List (NestedKey × Addr × Value)} (r : REs K ad H kvs xs) : ∀ {i : Nat} {d : D}, (kvs.map (·.1))[i]? = some d → ∃ p, xs[i]? = some p ∧ RV K ad H d (.ref p.2.1) := by
  induction r with
  | nil => intro i d h; simp at h
  | cons k dp rk ru rv t ih =>
    intro i d h
    cases i with
    | zero => simp at h; subst h; exact ⟨_, rfl, rk⟩
    | succ i => exact ih (by simpa using h)
theorem keys_itOk {ad1 : List Addr} {H1 : Hp} {a : Addr} {od : Obj} {xs : List (NestedKey × Addr × Value)} {kvs : List (D × D)} {r : Nat} (hl : H1 a = some (.frz od (.ext (dFi X.prog X.w a xs)))) (rs : REs X.K ad1 H1 kvs xs) :
    ItOk X (Itkx X.prog X.w a od xs) ad1 H1 [(r, .dct true kvs)] (kvs.map (·.1)) where
  go := fun ad H M i d n R g e => by
    obtain ⟨p, h1, h2⟩ := key_REs rs e
    refine ⟨⟨n.lk _ _ _ hl, (List.getElem?_eq_some_iff.mp h1).1⟩, fun x H' y => ?_⟩
    obtain ⟨rfl, p', h3, rfl⟩ := y
    rw [h1] at h3; cases h3
    exact ⟨.refl _ _, R, h2.nxt n⟩
  stop := fun ad H M i n R g e => ⟨n.lk _ _ _ hl, by rw [← rs.length]; simpa using e⟩
theorem ps_forVF {x : Str} {p pos : Pos} {tg : Expr} {body : List Stmt} {i : Nat} {t : IT} {s1 : SF} (hp : PassesOwn (model X.prog X.w) X.A X.env X.xe) (hc : X.calm = true) (hN : X.N[i]? = some x) (hv : Vis X.env.scope x) (hd : (x == ("__debug__" : Str)) = false) (hcd : (x == ("__classdict__" : Str)) = false)
    (hg : PG X tg (gI X.K t)) (hb : PSs X body (TSf X s1)) : PS X (.For tg (.Name x p) body [] pos) (TSf X (sForV i t s1)) := by
  have hs : ∀ y, foldedSetIterable (.Name x p) X.env y = pure y := fun _ => rfl
  have h1 := ps_forF (pos := pos) hp hc (pi_srcF (pe_varF (pos := p) hN hv hd hcd)) hg hb hs
  have h2 : PS X (.For tg (.Name x p) body [] pos) _ := ps_lock (ps_for hp hc (pi_keysX (pe_var hN hv hd hcd)) hg hb hs)
  refine imp_PS (PS_or h1 h2) fun D σ H ⟨env, ad, M, M', fl, E, S, hf, q⟩ => ?_
  unfold sForV at hf
  split at hf
  · rename_i r he
    split at hf
    · rename_i kvs hM
      obtain ⟨v, h3, h4⟩ := E.2 i _ he
      obtain ⟨a, rfl, ha⟩ := rv_ref h4
      obtain ⟨xs, hl, rs, nd, hz, hsm⟩ := S.at_ r _ a hM ha
      have hH : H a = some (.ext (dFi X.prog X.w a xs)) := by unfold lkd at hl; simpa using hl
      refine .inr ⟨a, _, hH, True.intro, fun od => ?_⟩
      have x1 : Ext H (upd H a (.frz od (.ext (dFi X.prog X.w a xs)))) := .write hH (fun _ z => by cases z) fun _ _ z => by cases z
      have S1 : RS X.prog X.w X.K ad (upd H a (.frz od (.ext (dFi X.prog X.w a xs)))) (M.set r (.dct true kvs)) := S.write ha x1 ⟨xs, by unfold lkd; rw [if_pos rfl]; exact ⟨od, upd_same⟩, rs.mono (fun _ _ e => e) x1, nd, hz, hsm⟩
      have E1 : RE X ad (upd H a (.frz od (.ext (dFi X.prog X.w a xs)))) env σ := E.mono (fun _ _ e => e) x1
      refine ⟨_, h3, a, od, xs, rfl, hsm, upd_same, ?_⟩
      unfold unlk at hf
      split at hf
      · rename_i fl' M2 hloop
        split at hf
        · rename_i kvs' hM2
          cases hf
          refine for_loop (keys_itOk upd_same (rs.mono (fun _ _ e => e) x1)) E1 S1 hloop ?_
          -- the end: unlocked
          have fin : ∀ (H' : Hp) (ad' : List Addr), Nxt ad (upd H a (.frz od (.ext (dFi X.prog X.w a xs)))) ad' H' → RS X.prog X.w X.K ad' H' M2 →
              H' a = some (.frz od (.ext (dFi X.prog X.w a xs))) ∧ Ext H' (upd H' a (.ext (dFi X.prog X.w a xs))) ∧ Nxt ad H ad' (upd H' a (.ext (dFi X.prog X.w a xs))) ∧ RS X.prog X.w X.K ad' (upd H' a (.ext (dFi X.prog X.w a xs))) (M2.set r (.dct false kvs')) := by
            intro H' ad' n S'
            have hk := n.lk a od _ upd_same
            have x2 : Ext H' (upd H' a (.ext (dFi X.prog X.w a xs))) := .unlock hk rfl
            have ha' : ad'[r]? = some a := n.pre _ _ ha
            refine ⟨hk, x2, ⟨⟨fun b ys e => ?_, fun b o u z e => ?_⟩, n.pre, fun b hb hb2 => ?_, fun b hb => ?_, fun b h5 h6 => ?_, fun b o u e => ?_⟩, ?_⟩
            · have hne : b ≠ a := fun z => by rw [z, hH] at e; cases e
              rw [upd_ne hne]; exact n.ext.tups b ys (by rw [upd_ne hne]; exact e)
            · have hne : b ≠ a := fun z => by rw [z, hH] at e; cases e
              rw [upd_ne hne]; exact n.ext.frzs b o u z (by rw [upd_ne hne]; exact e)
            · have hne : b ≠ a := fun z => hb2 (z ▸ List.mem_of_getElem? ha)
              rw [upd_ne hne, n.fr b (by rw [upd_ne hne]; exact hb) hb2, upd_ne hne]
            · by_cases hne : b = a
              · rw [hne, upd_same]; simp
              · rw [upd_ne hne]; exact n.live b (by rw [upd_ne hne]; exact hb)
            · have hne : b ≠ a := fun z => h6 (z ▸ List.mem_of_getElem? ha)
              have := n.new b h5 h6
              rw [upd_ne hne] at this
              exact this
            · have hne : b ≠ a := fun z => by rw [z, hH] at e; cases e
              rw [upd_ne hne]; exact n.lk b o u (by rw [upd_ne hne]; exact e)
            · obtain ⟨xs', hl', rs', nd', hz', hsm'⟩ := S'.at_ r _ a hM2 ha'
              unfold lkd at hl'
              rw [if_pos rfl] at hl'
              obtain ⟨o', hl'⟩ := hl'
              have e1 : dFi X.prog X.w a xs' = dFi X.prog X.w a xs := by
                rw [hk] at hl'
                have := Option.some.inj hl'
                injection this with _ h8
                injection h8 with h9
                exact h9.symm
              exact S'.write ha' x2 ⟨xs', by unfold lkd; rw [if_neg (by simp), upd_same, e1], rs'.mono (fun _ _ e => e) x2, nd', hz', hsm'⟩
          cases fl with
          | rt d => exact fun v H' ad' n S' r' => let ⟨f1, f2, f3, f4⟩ := fin H' ad' n S'; ⟨f1, q _ _ ad' f3 f4 (r'.mono (fun _ _ e => e) f2)⟩
          | nx e => exact fun v H' ad' n S' r' => let ⟨f1, f2, f3, f4⟩ := fin H' ad' n S'; ⟨f1, q _ _ ad' f3 f4 (r'.mono (fun _ _ e => e) f2)⟩
          | bk e => exact fun v H' ad' n S' r' => let ⟨f1, f2, f3, f4⟩ := fin H' ad' n S'; ⟨f1, q _ _ ad' f3 f4 (r'.mono (fun _ _ e => e) f2)⟩
          | ct e => exact fun v H' ad' n S' r' => let ⟨f1, f2, f3, f4⟩ := fin H' ad' n S'; ⟨f1, q _ _ ad' f3 f4 (r'.mono (fun _ _ e => e) f2)⟩
        · cases hf
      · cases hf
    · exact .inl ⟨env, ad, M, M', fl, E, S, hf, q⟩
  · exact .inl ⟨env, ad, M, M', fl, E, S, hf, q⟩
end
end RI
end
/-! #### RO -/
section
set_option Elab.async false
set_option linter.all false
set_option maxRecDepth 100000
set_option maxHeartbeats 4000000
/-! Part O: the program's text as terms; what they compute. -/
namespace RI
open PySem PySem.Spec PyProof.Rows L2 SeqAt

deriving instance Repr for BI, Ty, ME
mutual
inductive IE where
  | var (i : Nat)
  | cst (d : D)
  | bin (o : Operator) (a b : IE)
  | cmp (o : CmpOp) (a b : IE)
  | chn (o o' : CmpOp) (a b c : IE)
  | and (a b : IE)
  | or (a b : IE)
  | not (a : IE)
  | ite (c a b : IE)
  | tup (es : IL)
  | lst (es : IL)
  | dne
  | dns
  | dt1 (k v : IE)
  | dss (ks : List (List Nat)) (es : IL)
  | idx (a b : IE)
  | slc (a : IE) (lo hi : IP)
  | rev (a : IE)
  | call (f : Nat) (es : IL)
  | bi (b : BI) (es : IL)
  | isi (t : Ty) (a : IE)
  | me (m : ME) (o : IE) (es : IL)
  | tab (kvs : List (List Nat × D)) (a : IE)
  | txi (ws : List (List Nat)) (a : IE)
  | comp (it : II) (t : IT) (c : IO) (e : IE) (own : List Nat)
inductive IL where
  | nil
  | cons (a : IE) (r : IL)
/-- a part of a slice -/
inductive IP where
  | none
  | some (a : IE)
/-- a comprehension's test -/
inductive IO where
  | none
  | some (a : IE)
inductive II where
  | src (a : IE)
  | enu (es : IL)
  | zip (es : IL)
  | rng (es : IL)
  | rng2 (es : IL)
end
mutual
inductive IS where
  | pass
  | brk
  | cnt
  | stk
  | exp (a : IE)
  | ret (a : IE)
  | retN
  | asg (t : IT) (a : IE)
  | par2 (i j : Nat) (es : IL)
  | par3 (i j k : Nat) (es : IL)
  | sub (o i v : IE)
  | if_ (c : IE) (a b : ISs)
  | while_ (c : IE) (b : ISs)
  | for_ (it : II) (t : IT) (b : ISs)
  | forV (i : Nat) (t : IT) (b : ISs)
inductive ISs where
  | nil
  | cons (a : IS) (r : ISs)
end
section
variable (cl : Nat → FN)
mutual
def dE : IE → EF
  | .var i => eVar i
  | .cst d => eCst d
  | .bin o a b => eOp (binD o) (dE a) (dE b)
  | .cmp o a b => eOp (cmpF o) (dE a) (dE b)
  | .chn o o' a b c => eChn (cmpF o) (cmpF o') (dE a) (dE b) (dE c)
  | .and a b => eAnd (dE a) (dE b)
  | .or a b => eOr (dE a) (dE b)
  | .not a => eNot (dE a)
  | .ite c a b => eIte (dE c) (dE a) (dE b)
  | .tup es => eTup (dL es)
  | .lst es => eLst (dL es)
  | .dne => eDne
  | .dns => eDns
  | .dt1 k v => eDp1 (dE k) (dE v)
  | .dss ks es => eDss ks (dL es)
  | .idx a b => eOp ixD (dE a) (dE b)
  | .slc a lo hi => eSlc (dE a) (dP lo) (dP hi)
  | .rev a => eRev (dE a)
  | .call f es => eCall (cl f) (dL es)
  | .bi b es => eCall (biD b) (dL es)
  | .isi t a => eIsi t (dE a)
  | .me m o es => eMe m (dE o) (dL es)
  | .tab kvs a => eTab kvs (dE a)
  | .txi ws a => eTxi ws (dE a)
  | .comp it t c e own => eComp (dI it) t (dO c) (dE e) own
def dL : IL → AF
  | .nil => aNil
  | .cons a r => aCons (dE a) (dL r)
def dP : IP → Option EF
  | .none => none
  | .some a => some (dE a)
def dO : IO → BF
  | .none => bYes
  | .some a => bOf (dE a)
def dI : II → IF
  | .src a => iSrcF (dE a)
  | .enu es => iEnuF (dL es)
  | .zip es => iZipF (dL es)
  | .rng es => iRngF (dL es)
  | .rng2 es => iRng2F (dL es)
end
/-- a while's turns -/
def WF : Nat := 1000000000
mutual
def dS : IS → SF
  | .pass => sNil
  | .brk => sBrk
  | .cnt => sCnt
  | .stk => sStk
  | .exp a => sExp (dE cl a)
  | .ret a => sRet (dE cl a)
  | .retN => sRetN
  | .asg t a => sAsg t (dE cl a)
  | .par2 i j es => sPar2 i j (dL cl es)
  | .par3 i j k es => sPar3 i j k (dL cl es)
  | .sub o i v => sSub (dE cl o) (dE cl i) (dE cl v)
  | .if_ c a b => sIf (dE cl c) (dSs a) (dSs b)
  | .while_ c b => whileF (dE cl c) (dSs b) WF
  | .for_ it t b => sFor (dI cl it) t (dSs b)
  | .forV i t b => sForV i t (dSs b)
def dSs : ISs → SF
  | .nil => sNil
  | .cons a r => sSeq (dS a) (dSs r)
end
/-- a def: n parameters among m slots -/
def dF (n m : Nat) (b : ISs) : FN := fun ds M => if ds.length = n then match dSs cl b (ds.map some ++ List.replicate (m - n) none) M with
  | some (.nx _, M1) => some (.non, M1)
  | some (.rt d, M1) => some (d, M1)
  | _ => none
  else none
end
end RI
end
/-! #### RP -/
section
set_option Elab.async false
set_option linter.all false
set_option maxRecDepth 100000
set_option maxHeartbeats 4000000
/-! Part P: from the program's tree to terms. -/
namespace RI
open PySem PySem.Spec PyProof.Rows L2 SeqAt

/-- what a name of the module is -/
inductive Gk where
  | con (d : D)
  | tpt (ws : List (List Nat))
  | tab (kvs : List (List Nat × D))
  | fn (i : Nat)
structure Cc where
  gm : List (Str × Gk)
  N : List Str
  dns : List Nat := []
def allBI : List BI := [.len, .abs, .int, .max, .min, .all, .any, .tuple, .list, .sum]
def biOf (x : Str) : Option BI := allBI.find? fun b => decide (x = Str.ofString b.nm)
theorem biOf_eq {x : Str} {b : BI} (h : biOf x = some b) : x = Str.ofString b.nm := by simpa using List.find?_some h
def allTy : List Ty := [.tuple, .str, .int, .bool, .list]
def tyOf (x : Str) : Option Ty := allTy.find? fun b => decide (x = Str.ofString b.nm)
theorem tyOf_eq {x : Str} {b : Ty} (h : tyOf x = some b) : x = Str.ofString b.nm := by simpa using List.find?_some h
def allME : List ME := [.append, .pop, .get]
def meOf (x : Str) : Option ME := allME.find? fun b => decide (x = Str.ofString b.nm)
theorem meOf_eq {x : Str} {b : ME} (h : meOf x = some b) : x = Str.ofString b.nm := by simpa using List.find?_some h
def bltNames : List Str := ["len", "abs", "int", "max", "min", "all", "any", "tuple", "list", "sum", "str", "bool", "isinstance", "enumerate", "zip", "range"]
theorem bi_mem (b : BI) : Str.ofString b.nm ∈ bltNames := by cases b <;> decide +kernel
theorem ty_mem (b : Ty) : Str.ofString b.nm ∈ bltNames := by cases b <;> decide +kernel
/-- an expression whose test is plain, or a comparison, and, or, not -/
def tst : Expr → Bool
  | .IfExp _ _ _ _ => false
  | _ => true
def nset : Expr → Bool
  | .Set _ _ _ => false
  | _ => true
def ncmp : Expr → Bool
  | .ListComp _ _ _ _ => false
  | .SetComp _ _ _ _ => false
  | .DictComp _ _ _ _ _ => false
  | _ => true
def ntup : Expr → Bool
  | .Tuple _ _ _ => false
  | _ => true
def isT : Expr → Bool
  | .Tuple _ _ _ => true
  | _ => false
section
variable (c : Cc)
def isG (sc : Scope) (x : Str) : Bool := decide (sc.names.lookup x = some .globalImplicit)
def isV (sc : Scope) (x : Str) : Bool := decide (sc.names.lookup x = some .local) || (decide (sc.names.lookup x = some .cell) || decide (sc.names.lookup x = some .free))
def isL (sc : Scope) (x : Str) : Bool := decide (sc.names.lookup x = some .local)
def okN (x : Str) : Bool := !(x == ("__debug__" : Str)) && !(x == ("__classdict__" : Str))
def slot (x : Str) : Option Nat := (c.N.findIdx? fun y => decide (y = x)).bind fun i => if c.N[i]? = some x then some i else none
def cName (sc : Scope) (x : Str) : Option IE :=
  if okN x = true then
    if isV sc x = true then (slot c x).map .var
    else if isG sc x = true then match c.gm.lookup x with
      | some (.con d) => some (.cst d)
      | some (.tpt ws) => some (.cst (.tup (ws.map .str)))
      | _ => none
    else none
  else none
def cLs (f : Expr → Option IE) : List Expr → Option IL
  | [] => some .nil
  | e :: es => if nst e = true then (f e).bind fun a => (cLs f es).map (.cons a) else none
def cBs (f : Expr → Option IE) (op : BoolOp) : List Expr → Option IE
  | [] => none
  | [a] => if tst a = true then f a else none
  | a :: b :: r => if tst a = true then (f a).bind fun x => (cBs f op (b :: r)).map fun y => match op with
    | .And => .and x y
    | .Or => .or x y
    else none
/-- a local, or (fl) a cell of the def -/
def isC (fl : Bool) (sc : Scope) (x : Str) : Bool := isL sc x || (fl && decide (sc.names.lookup x = some .cell))
mutual
def cT (fl : Bool) (sc : Scope) : Nat → Expr → Option IT
  | 0, _ => none
  | n + 1, .Name x _ => if isC fl sc x = true then (slot c x).map .nm else none
  | n + 1, .Tuple es _ _ => (cTs fl sc n es).map .tp
  | _, _ => none
def cTs (fl : Bool) (sc : Scope) : Nat → List Expr → Option ITs
  | 0, _ => none
  | n + 1, [] => some .nil
  | n + 1, e :: es => (cT fl sc n e).bind fun t => (cTs fl sc n es).map (.cons t)
end
def cIt (f : Expr → Option IE) (sc : Scope) (tg : Expr) : Expr → Option II
  | .Call (.Name x p) es [] pos =>
    if isG sc x = true then
      if x = ("enumerate" : Str) then if es.length = 1 ∧ isT tg = true then (cLs f es).map .enu else none
      else if x = ("zip" : Str) then if es.length = 2 ∧ isT tg = true then (cLs f es).map .zip else none
      else if x = ("range" : Str) then if es.length = 1 then (cLs f es).map .rng else if es.length = 2 then (cLs f es).map .rng2 else none
      else (f (.Call (.Name x p) es [] pos)).map .src
    else none
  | e => if nset e = true then (f e).map .src else none
def cPart (f : Expr → Option IE) : Option Expr → Option IP
  | none => some .none
  | some e => (f e).map .some
def keyStrs : List (Option Expr) → Option (List (List Nat))
  | [] => some []
  | some (.Constant (.str x) _ _) :: r => (keyStrs r).map (x.cps.toList :: ·)
  | _ => none
def isStrC : Expr → Bool
  | .Constant (.str _) _ _ => true
  | _ => false
def cOwn (scope : Scope) : List (Str × Nat) := scope.names.filterMap fun (p : Str × NameKind) => if p.2 = .local ∨ p.2 = .cell then (slot c p.1).map fun i => (p.1, i) else none
def cIx (scope : Scope) : List Nat := (cOwn c scope).map fun (p : Str × Nat) => p.2
def cE : Nat → Scope → Expr → Option IE
  | 0, _, _ => none
  | n + 1, sc, .Name x _ => cName c sc x
  | n + 1, sc, .Constant k _ _ => match k with
    | .none => some (.cst .non)
    | .bool b => some (.cst (.bl b))
    | .int i => some (.cst (.int i))
    | .str x => some (.cst (.str x.cps.toList))
    | _ => none
  | n + 1, sc, .BinOp a o b _ => (cE n sc a).bind fun x => (cE n sc b).map fun y => .bin o x y
  | n + 1, sc, .Compare a [o] [b] _ => if behindInMarks o b = false then (cE n sc a).bind fun x => (cE n sc b).map fun y => .cmp o x y else none
  | n + 1, sc, .Compare a [o, o'] [b, d] _ => if lastMarks [o, o'] [b, d] = false then (cE n sc a).bind fun x => (cE n sc b).bind fun y => (cE n sc d).map fun z => .chn o o' x y z else none
  | n + 1, sc, .BoolOp op vs _ => cBs (cE n sc) op vs
  | n + 1, sc, .UnaryOp op a _ => match op with
    | .Not => if tst a = true then (cE n sc a).map .not else none
    | .USub => match a with
      | .Constant (.int i) _ _ => some (.cst (.int (-i)))
      | _ => none
    | _ => none
  | n + 1, sc, .IfExp t a b _ => if tst t = true then (cE n sc t).bind fun x => (cE n sc a).bind fun y => (cE n sc b).map fun z => .ite x y z else none
  | n + 1, sc, .Tuple es _ _ => (cLs (cE n sc) es).map .tup
  | n + 1, sc, .List es _ => (cLs (cE n sc) es).map .lst
  | n + 1, sc, .Dict ks vs pos => match ks, vs with
    | [], [] => if pos.line ∈ c.dns then some .dns else some .dne
    | [some k], [v] => if isStrC k = true then (keyStrs [some k]).bind fun w => (cLs (cE n sc) [v]).map fun l => .dss w l else (cE n sc k).bind fun x => (cE n sc v).map fun y => .dt1 x y
    | ks, vs => if ks.length = vs.length ∧ ks.length ≤ 15 ∧ ks ≠ [] then (keyStrs ks).bind fun w => (cLs (cE n sc) vs).map fun l => .dss w l else none
  | n + 1, sc, .Subscript a b _ => match b with
    | .Slice lo hi st _ => match st with
      | none => (cE n sc a).bind fun x => (cPart (cE n sc) lo).bind fun l => (cPart (cE n sc) hi).map fun h => .slc x l h
      | some (.UnaryOp .USub (.Constant (.int 1) _ _) _) => match lo, hi with
        | none, none => (cE n sc a).map .rev
        | _, _ => none
      | _ => none
    | b => match a with
      | .Name x p => match (if isG sc x = true ∧ okN x = true then c.gm.lookup x else none) with
        | some (.tab kvs) => (cE n sc b).map fun y => .tab kvs y
        | _ => (cE n sc (.Name x p)).bind fun x => (cE n sc b).map fun y => .idx x y
      | a => (cE n sc a).bind fun x => (cE n sc b).map fun y => .idx x y
  | n + 1, sc, .Call fu es [] pos => match fu with
    | .Name x _ => if isG sc x = true ∧ okN x = true then match c.gm.lookup x with
      | some (.fn i) => (cLs (cE n sc) es).map fun l => .call i l
      | some _ => none
      | none => if x = ("isinstance" : Str) then match es with
        | [e, .Name t _] => if isG sc t = true ∧ nst e = true then (tyOf t).bind fun ty => (cE n sc e).map fun a => .isi ty a else none
        | _ => none
        else match es with
        | [] => none
        | e :: es => (biOf x).bind fun b => (cLs (cE n sc) (e :: es)).map fun l => .bi b l
      else none
    | .Attribute o m apos => if nsup o = true ∧ (apos.endLine == pos.line) = true ∧ es.length < 29 then
      if m = ("index" : Str) then match o, es with
        | .Name x _, [e] => if isG sc x = true ∧ okN x = true ∧ nst e = true then match c.gm.lookup x with
          | some (.tpt ws) => (cE n sc e).map fun a => .txi ws a
          | _ => none
          else none
        | _, _ => none
      else (meOf m).bind fun me => (cE n sc o).bind fun a => (cLs (cE n sc) es).map fun l => .me me a l
      else none
    | _ => none
  | n + 1, sc, .ListComp elt [⟨tg, iter, ifs, 0⟩] scope _ =>
    if blkC c.N sc scope (cOwn c scope) = true ∧ nset iter = true then
      (cIt (cE n sc) sc tg iter).bind fun it => (cT c false (relS scope sc) n tg).bind fun t => (match ifs with
        | [] => some IO.none
        | [d] => if tst d = true then (cE n (relS scope sc) d).map .some else none
        | _ => none).bind fun q => (cE n (relS scope sc) elt).bind fun e => if (ixT t).all (fun i => decide (i ∈ cIx c scope)) = true then some (.comp it t q e (cIx c scope)) else none
    else none
  | _, _, _ => none
end
end RI
end
/-! #### RQ -/
section
set_option Elab.async false
set_option linter.all false
set_option maxRecDepth 100000
set_option maxHeartbeats 4000000
/-! Part Q: the terms of expressions are sound. -/
namespace RI
open PySem PySem.Spec PyProof.Rows L2 SeqAt

/-- a constant of the module -/
def GV (X : Cx) (x : Str) (d : D) : Prop := ∃ (u : Value) (v : V), X.mg x = some u ∧ RelV v u ∧ ∀ ad H, RV X.K ad H d v
/-- a def of the module -/
def GF (X : Cx) (x : Str) (fn : FN) : Prop := ∃ (k : Nat) (fa : Addr) (fd : FuncData) (ps : List Str), X.mg x = some (.ref fa) ∧ FnOk X.prog X.w X.K X.mg X.base CX0 k fa fd ps (spD X fn) ∧ Room k X.A ∧ PySem.W.keepIn X.K (.ref fa) = true ∧ Binds X.K fd ps []
structure Fx (c : Cc) (cl : Nat → FN) (X : Cx) : Prop where
  calm : X.calm = true
  nd : X.N.Nodup
  N : X.N = c.N
  hu : X.A.units + 64 < cLine
  xe : X.xe = fun _ _ => False
  con : ∀ x d, c.gm.lookup x = some (.con d) → GV X x d
  tpt : ∀ x ws, c.gm.lookup x = some (.tpt ws) → TupK X x ws
  tab : ∀ x kvs, c.gm.lookup x = some (.tab kvs) → Tab X x kvs
  fn : ∀ x i, c.gm.lookup x = some (.fn i) → GF X x (cl i)
  blt : ∀ x ∈ bltNames, X.mg x = none
theorem Fx.blk {c : Cc} {cl : Nat → FN} {X : Cx} (F : Fx c cl X) (s : Shared) (H : Hp) (scope : Scope) (cenv : Env) (fp : List Addr) : Fx c cl (X.blk s H scope cenv fp) :=
  ⟨F.calm, F.nd, F.N, F.hu, rfl, F.con, F.tpt, F.tab, F.fn, F.blt⟩
section
variable {c : Cc} {cl : Nat → FN} {X : Cx} {sc : Scope}
/-- what is proved of an expression's term -/
def Gd1 (X : Cx) (cl : Nat → FN) (e : Expr) (i : IE) : Prop := PE X e (TEf X (dE cl i)) ∧ (tst e = true → PT X e (TTf X (bOf (dE cl i))))
theorem gd_plain {e : Expr} {i : IE} (h : PE X e (TEf X (dE cl i))) (k : tst e = true → ∀ whole, isTrue e X.env whole = (do let v ← whole; standAt e.pos; holding [v] (truthy v))) : Gd1 X cl e i := ⟨h, fun t => pt_plain h (k t)⟩
theorem slot_at {x : Str} {i : Nat} (F : Fx c cl X) (h : slot c x = some i) : X.N[i]? = some x := by
  unfold slot at h
  rw [Option.bind_eq_some_iff] at h
  obtain ⟨j, _, h⟩ := h
  split at h
  · rename_i hj
    cases h
    rw [F.N]; exact hj
  · cases h
theorem isG_gl {x : Str} (hsc : X.env.scope = sc) (h : isG sc x = true) : Gl X x := by
  unfold isG at h
  show X.env.scope.names.lookup x = _
  rw [hsc]
  exact of_decide_eq_true h
theorem isV_vis {x : Str} (hsc : X.env.scope = sc) (h : isV sc x = true) : Vis X.env.scope x := by
  unfold isV at h
  rw [hsc]
  simpa [Vis] using h
theorem okN_1 {x : Str} (h : okN x = true) : (x == ("__debug__" : Str)) = false ∧ (x == ("__classdict__" : Str)) = false := by
  unfold okN at h
  simpa using h
theorem rv_strs {K : PySem.W.Frag} {ad : List Addr} {H : Hp} : ∀ ws : List (List Nat), RVs K ad H (ws.map D.str) ((ws.map S).map V.str)
  | [] => .nil
  | w :: ws => .cons (by rw [RV]) (rv_strs ws)
theorem tpt_gv {x : Str} {ws : List (List Nat)} (h : TupK X x ws) : GV X x (.tup (ws.map .str)) := by
  obtain ⟨a, o, its, n, hm, hk, hc, hdd, hdt, hz, hv⟩ := h
  exact ⟨_, .ref a, hm, rfl, fun ad H => by rw [RV]; exact ⟨a, _, rfl, .inr ⟨o, its, n, hk, hc, hdt, hz, hv⟩, rv_strs ws⟩⟩
theorem pe_gv {x : Str} {d : D} {pos : Pos} (h : GV X x d) (hg : Gl X x) (hd : (x == ("__debug__" : Str)) = false) : PE X (.Name x pos) (TEf X (eCst d)) := by
  obtain ⟨u, v, hm, r, k⟩ := h
  exact pe_cst (pe_glob hg hm r hd) k
theorem cName_ok (F : Fx c cl X) (hsc : X.env.scope = sc) {x : Str} {pos : Pos} {i : IE} (h : cName c sc x = some i) : Gd1 X cl (.Name x pos) i := by
  unfold cName at h
  split at h
  · rename_i ho
    obtain ⟨o1, o2⟩ := okN_1 ho
    split at h
    · rename_i hv
      rw [Option.map_eq_some_iff] at h
      obtain ⟨j, h1, rfl⟩ := h
      exact gd_plain (pe_varF (slot_at F h1) (isV_vis hsc hv) o1 o2) fun _ _ => rfl
    · split at h
      · rename_i hg
        split at h
        · rename_i d hl
          cases h
          exact gd_plain (pe_gv (F.con _ _ hl) (isG_gl hsc hg) o1) fun _ _ => rfl
        · rename_i ws hl
          cases h
          exact gd_plain (pe_gv (tpt_gv (F.tpt _ _ hl)) (isG_gl hsc hg) o1) fun _ _ => rfl
        · cases h
      · cases h
  · cases h
theorem cLs_ok {f : Expr → Option IE} (hf : ∀ e i, f e = some i → Gd1 X cl e i) : ∀ {es : List Expr} {l : IL}, cLs f es = some l → PA X es (TAf X (dL cl l)) ∧ es.all nst = true
  | [], l, h => by cases h; exact ⟨pa_nilF, rfl⟩
  | e :: es, l, h => by
    rw [cLs] at h
    split at h
    · rename_i hn
      rw [Option.bind_eq_some_iff] at h
      obtain ⟨a, h1, h⟩ := h
      rw [Option.map_eq_some_iff] at h
      obtain ⟨r, h2, rfl⟩ := h
      obtain ⟨p1, p2⟩ := cLs_ok hf h2
      exact ⟨pa_consF (hf _ _ h1).1 p1 hn, by rw [List.all_cons, hn, p2]; rfl⟩
    · cases h
theorem cBs_ok {f : Expr → Option IE} (hf : ∀ e i, f e = some i → Gd1 X cl e i) {op : BoolOp} {pos : Pos} : ∀ {es : List Expr} {i : IE}, cBs f op es = some i → PE X (.BoolOp op es pos) (TEf X (dE cl i)) ∧ PW X (.BoolOp op es pos) (TTf X (bOf (dE cl i)))
  | [], i, h => by cases h
  | [a], i, h => by
    rw [cBs] at h
    split at h
    · rename_i ht
      have := hf _ _ h
      exact ⟨pe_one this.1, pw_one (this.2 ht)⟩
    · cases h
  | a :: b :: r, i, h => by
    rw [cBs] at h
    split at h
    · rename_i ht
      rw [Option.bind_eq_some_iff] at h
      obtain ⟨x, h1, h⟩ := h
      rw [Option.map_eq_some_iff] at h
      obtain ⟨y, h2, rfl⟩ := h
      have g1 := hf _ _ h1
      obtain ⟨g2, g3⟩ := cBs_ok hf (op := op) (pos := pos) h2
      cases op
      · exact ⟨pe_andF g1.1 g2, pw_andF (g1.2 ht) g3⟩
      · exact ⟨pe_orF g1.1 g2, pw_orF (g1.2 ht) g3⟩
    · cases h
theorem isL_loc {x : Str} (hsc : X.env.scope = sc) (h : isL sc x = true) : X.env.scope.names.lookup x = some .local := by
  unfold isL at h
  rw [hsc]; exact of_decide_eq_true h
theorem isC_loc {x : Str} {fl : Bool} (hsc : X.env.scope = sc) (hfl : fl = true → ∀ x, X.fn x = true) (h : isC fl sc x = true) : Loc X.env.scope x ∧ (X.fn x = true ∨ X.env.scope.names.lookup x = some .local) := by
  unfold isC at h
  rw [Bool.or_eq_true, Bool.and_eq_true] at h
  rcases h with h | ⟨h1, h2⟩
  · have := isL_loc hsc h
    exact ⟨.inl this, .inr this⟩
  · rw [← hsc] at h2
    exact ⟨.inr (of_decide_eq_true h2), .inl (hfl h1 x)⟩
theorem cT_ok {fl : Bool} (F : Fx c cl X) (hsc : X.env.scope = sc) (hfl : fl = true → ∀ x, X.fn x = true) : ∀ (n : Nat), (∀ {e : Expr} {t : IT}, cT c fl sc n e = some t → PG X e (gI X.K t) ∧ nst e = true) ∧ ∀ {es : List Expr} {ts : ITs}, cTs c fl sc n es = some ts → PGs X es (gIs X.K ts) ∧ (assignEach es X.env).length = ts.len ∧ (assignEach es X.env).findIdx? (·.1) = none
  | 0 => ⟨fun h => by simp [cT] at h, fun h => by simp [cTs] at h⟩
  | n + 1 => by
    obtain ⟨ih1, ih2⟩ := cT_ok F hsc hfl n
    constructor
    · intro e t h
      cases e with
      | Name x p =>
        rw [cT] at h
        split at h
        · rename_i hl
          rw [Option.map_eq_some_iff] at h
          obtain ⟨j, h1, rfl⟩ := h
          obtain ⟨l1, l2⟩ := isC_loc hsc hfl hl
          exact ⟨by rw [gI]; exact pg_name F.nd (slot_at F h1) l1 l2, rfl⟩
        · cases h
      | Tuple es k p =>
        rw [cT, Option.map_eq_some_iff] at h
        obtain ⟨ts, h1, rfl⟩ := h
        obtain ⟨g1, g2, g3⟩ := ih2 h1
        exact ⟨by rw [gI]; exact pg_tup F.calm g1 g2 g3, rfl⟩
      | _ => simp [cT] at h
    · intro es ts h
      cases es with
      | nil =>
        rw [cTs] at h; cases h
        exact ⟨by rw [gIs]; exact pgs_nil, rfl, rfl⟩
      | cons e es =>
        rw [cTs, Option.bind_eq_some_iff] at h
        obtain ⟨t, h1, h⟩ := h
        rw [Option.map_eq_some_iff] at h
        obtain ⟨r, h2, rfl⟩ := h
        obtain ⟨g1, g2⟩ := ih1 h1
        obtain ⟨k1, k2, k3⟩ := ih2 h2
        have ea : assignEach (e :: es) X.env = (false, assign e X.env) :: assignEach es X.env := by cases e <;> first | rfl | cases g2
        refine ⟨by rw [gIs]; exact pgs_cons g1 k1 (by rw [ea] <;> rfl), by rw [ea, List.length_cons, k2]; rfl, by rw [ea, List.findIdx?_cons, k3]; rfl⟩
theorem cPart_ok {f : Expr → Option IE} (hf : ∀ e i, f e = some i → Gd1 X cl e i) {o : Option Expr} {p : IP} (h : cPart f o = some p) : PO X o (TOf X (dP cl p)) := by
  cases o with
  | none => cases h; exact po_noneF
  | some e =>
    rw [cPart, Option.map_eq_some_iff] at h
    obtain ⟨a, h1, rfl⟩ := h
    exact po_someF (hf _ _ h1).1
theorem keyStrs_ok {f : Expr → Option IE} (hf : ∀ e i, f e = some i → Gd1 X cl e i) {pos : Pos} : ∀ {ks : List (Option Expr)} {w : List (List Nat)} {vs : List Expr} {l : IL}, keyStrs ks = some w → cLs f vs = some l → ks.length = vs.length → PPA X pos ks vs w (TAf X (dL cl l)) ∧ ks.all (·.isSome) = true
  | [], w, [], l, h1, h2, hl => by cases h1; cases h2; exact ⟨ppa_nil, rfl⟩
  | [], w, _ :: _, l, h1, h2, hl => by simp at hl
  | _ :: _, w, [], l, h1, h2, hl => by simp at hl
  | k :: ks, w, v :: vs, l, h1, h2, hl => by
    unfold keyStrs at h1
    split at h1
    · rename_i h0; cases h0
    · rename_i x j p r h0
      cases h0
      rw [Option.map_eq_some_iff] at h1
      obtain ⟨w', h3, rfl⟩ := h1
      rw [cLs] at h2
      split at h2
      · rw [Option.bind_eq_some_iff] at h2
        obtain ⟨a, h4, h2⟩ := h2
        rw [Option.map_eq_some_iff] at h2
        obtain ⟨r', h5, rfl⟩ := h2
        obtain ⟨q1, q2⟩ := keyStrs_ok hf (pos := pos) h3 h5 (by simpa using hl)
        exact ⟨ppa_cons (hf _ _ h4).1 q1, by rw [List.all_cons, q2]; rfl⟩
      · cases h2
    · cases h1
theorem plain_nsl {b : Expr} (h : nsl b = true) : PlainIx b := by
  intro o i
  cases b <;> first | rfl | cases h
theorem len1 {α : Type} {l : List α} (h : l.length = 1) : ∃ a, l = [a] := by
  cases l with
  | nil => simp at h
  | cons a r => cases r with
    | nil => exact ⟨a, rfl⟩
    | cons _ _ => simp at h
theorem len2 {α : Type} {l : List α} (h : l.length = 2) : ∃ a b, l = [a, b] := by
  cases l with
  | nil => simp at h
  | cons a r =>
    obtain ⟨b, rfl⟩ := len1 (l := r) (by simpa using h)
    exact ⟨a, b, rfl⟩
theorem isT_eq {e : Expr} (h : isT e = true) : ∃ es k p, e = .Tuple es k p := by
  cases e <;> first | exact ⟨_, _, _, rfl⟩ | cases h
theorem cIt_ok {f : Expr → Option IE} (F : Fx c cl X) (hsc : X.env.scope = sc) (hf : ∀ e i, f e = some i → Gd1 X cl e i) {tg iter : Expr} {it : II} (h : cIt f sc tg iter = some it) : PI X tg iter (TIf X (dI cl it)) ∧ nset iter = true := by
  unfold cIt at h
  split at h
  · rename_i x p es pos
    split at h
    · rename_i hg
      have g := isG_gl hsc hg
      split at h
      · rename_i hx
        split at h
        · rename_i hz
          obtain ⟨es', k', p', rfl⟩ := isT_eq hz.2
          obtain ⟨e, rfl⟩ := len1 hz.1
          rw [Option.map_eq_some_iff] at h
          obtain ⟨l, h1, rfl⟩ := h
          obtain ⟨q1, q2⟩ := cLs_ok hf h1
          subst hx
          refine ⟨pi_enuF g (F.blt _ (by decide +kernel)) q1 ?_, rfl⟩
          rw [List.all_cons, Bool.and_eq_true] at q2
          exact star_nst q2.1
        · cases h
      · split at h
        · rename_i hx
          split at h
          · rename_i hz
            obtain ⟨es', k', p', rfl⟩ := isT_eq hz.2
            obtain ⟨e, e2, rfl⟩ := len2 hz.1
            rw [Option.map_eq_some_iff] at h
            obtain ⟨l, h1, rfl⟩ := h
            obtain ⟨q1, q2⟩ := cLs_ok hf h1
            subst hx
            rw [List.all_cons, Bool.and_eq_true] at q2
            exact ⟨pi_zipF g (F.blt _ (by decide +kernel)) q1 (star_nst q2.1) (back_nst q2.2), rfl⟩
          · cases h
        · split at h
          · rename_i hx
            subst hx
            split at h
            · rename_i hz
              obtain ⟨e, rfl⟩ := len1 hz
              rw [Option.map_eq_some_iff] at h
              obtain ⟨l, h1, rfl⟩ := h
              obtain ⟨q1, q2⟩ := cLs_ok hf h1
              rw [List.all_cons, Bool.and_eq_true] at q2
              exact ⟨pi_rngF g (F.blt _ (by decide +kernel)) q1 (star_nst q2.1), rfl⟩
            · split at h
              · rename_i hz
                obtain ⟨e, e2, rfl⟩ := len2 hz
                rw [Option.map_eq_some_iff] at h
                obtain ⟨l, h1, rfl⟩ := h
                obtain ⟨q1, q2⟩ := cLs_ok hf h1
                rw [List.all_cons, Bool.and_eq_true, List.all_cons, Bool.and_eq_true] at q2
                refine ⟨pi_rng2F g (F.blt _ (by decide +kernel)) q1 ?_ (star_nst q2.2.1), rfl⟩
                rw [star_nst q2.1, star_nst q2.2.1]; rfl
              · cases h
          · rw [Option.map_eq_some_iff] at h
            obtain ⟨l, h1, rfl⟩ := h
            exact ⟨pi_srcF (hf _ _ h1).1, rfl⟩
    · cases h
  · split at h
    · rename_i hs
      rw [Option.map_eq_some_iff] at h
      obtain ⟨l, h1, rfl⟩ := h
      exact ⟨pi_srcF (hf _ _ h1).1, hs⟩
    · cases h
theorem fold_nset {iter : Expr} {env : Env} (h : nset iter = true) : ∀ x, foldedSetIterable iter env x = pure x := by
  intro x
  cases iter <;> first | rfl | cases h
end
end RI
end
/-! #### RR -/
section
set_option Elab.async false
set_option linter.all false
set_option maxRecDepth 100000
set_option maxHeartbeats 4000000
/-! Part R: the terms of expressions are sound. -/
namespace RI
open PySem PySem.Spec PyProof.Rows L2 SeqAt
section
variable {c : Cc} {cl : Nat → FN}
theorem str_x (x : Str) (ad : List Addr) (K : PySem.W.Frag) (H : Hp) : RV K ad H (.str x.cps.toList) (.str x) := by rw [RV, S_back]
theorem isL_lens {b : Expr} : nsl b = true ∨ ∃ lo hi st p, b = .Slice lo hi st p := by
  cases b <;> first | exact .inl rfl | exact .inr ⟨_, _, _, _, rfl⟩
theorem gl_call {X : Cx} {i : Nat} {x : Str} {p pos : Pos} {es : List Expr} {fa : AF} (F : Fx c cl X) (hg : Gl X x) (hd : (x == ("__debug__" : Str)) = false) (hm : c.gm.lookup x = some (.fn i)) (ha : PA X es (TAf X fa)) (hs : es.all nst = true) (h0 : es = [] → fa = aNil) : PE X (.Call (.Name x p) es [] pos) (TEf X (eCall (cl i) fa)) := by
  obtain ⟨k, f, fd, ps, h1, h2, h3, h4, h5⟩ := F.fn x i hm
  cases es with
  | nil => rw [h0 rfl]; exact pe_call0F h2 h3 hg h1 h4 h5 hd
  | cons e es => exact pe_callF (CXX := ()) h2 h3 hg h1 h4 h5 ha hd hs
theorem pe_negI {X : Cx} {j : Int} {k : Nat} {p p' : Pos} : PE X (.UnaryOp .USub (.Constant (.int j) k p') p) (TEf X (eCst (.int (-j)))) := imp_PE (pe_un un_neg pe_int) fun σ H Q ⟨env, ad, M, M', r, E, S, hf, q⟩ => by
  cases hf
  exact ⟨_, rfl, q.same S (.intI _)⟩
/-- the pieces of a comprehension -/
structure CompOk (c : Cc) (cl : Nat → FN) (X : Cx) (elt tg iter : Expr) (ifs : List Expr) (scope : Scope) (j : IE) : Prop where
  ex : ∃ (it : II) (t : IT) (q : IO) (x : IE), j = .comp it t q x (cIx c scope) ∧ PI X tg iter (TIf X (dI cl it)) ∧ BlkOk X.N X.env.scope scope (cOwn c scope) ∧
    (∀ (s : Shared) (H : Hp) (C : Addr) (cll : List (Str × Addr)) (fp : List Addr), PG (X.blk s H scope (compEnvC scope cll C X.env) fp) tg (gI X.K t)) ∧
    (∀ (s : Shared) (H : Hp) (C : Addr) (cll : List (Str × Addr)) (fp : List Addr), PTs (X.blk s H scope (compEnvC scope cll C X.env) fp) ifs (TTf X (dO cl q))) ∧
    (∀ (s : Shared) (H : Hp) (C : Addr) (cll : List (Str × Addr)) (fp : List Addr), PE (X.blk s H scope (compEnvC scope cll C X.env) fp) elt (TEf X (dE cl x))) ∧
    (∀ x, foldedSetIterable iter X.env x = pure x) ∧ ∀ i ∈ ixT t, i ∈ (cOwn c scope).map (·.2)
theorem CompOk.pe {X : Cx} {elt tg iter : Expr} {ifs : List Expr} {scope : Scope} {pos : Pos} {j : IE} (F : Fx c cl X) (h : CompOk c cl X elt tg iter ifs scope j) : PE X (.ListComp elt [⟨tg, iter, ifs, 0⟩] scope pos) (TEf X (dE cl j)) := by
  obtain ⟨it, t, q, x, rfl, h1, h2, h3, h4, h5, h6, h7⟩ := h.ex
  exact imp_PE (pe_lc F.calm F.nd h1 h2 h3 h4 h5 h6) (tLc_F h7)
mutual
theorem cC_ok (n : Nat) {X : Cx} (F : Fx c cl X) {elt tg iter : Expr} {ifs : List Expr} {scope : Scope} {p : Pos} {j : IE} (h : cE c (n + 1) X.env.scope (.ListComp elt [⟨tg, iter, ifs, 0⟩] scope p) = some j) : CompOk c cl X elt tg iter ifs scope j := by
  constructor
  unfold cE at h
  have ih : ∀ e i, cE c n X.env.scope e = some i → Gd1 X cl e i := fun e i h => cE_ok n F rfl h
  simp only at h
  split at h
  · rename_i hb
    rw [Option.bind_eq_some_iff] at h
    obtain ⟨it, h1, h⟩ := h
    rw [Option.bind_eq_some_iff] at h
    obtain ⟨t, h2, h⟩ := h
    rw [Option.bind_eq_some_iff] at h
    obtain ⟨q, h3, h⟩ := h
    rw [Option.bind_eq_some_iff] at h
    obtain ⟨x, h4, h⟩ := h
    split at h
    · rename_i hix
      cases h
      have hv : ∀ i ∈ ixT t, i ∈ (cOwn c scope).map (·.2) := by
        have := List.all_eq_true.mp hix
        intro i hi
        have := of_decide_eq_true (this i hi)
        exact this
      have blkF : ∀ (s : Shared) (H : Hp) (C : Addr) (cll : List (Str × Addr)) (fp : List Addr), Fx c cl (X.blk s H scope (compEnvC scope cll C X.env) fp) := fun s H C cll fp => F.blk ..
      have blkS : ∀ (s : Shared) (H : Hp) (C : Addr) (cll : List (Str × Addr)) (fp : List Addr), (X.blk s H scope (compEnvC scope cll C X.env) fp).env.scope = relS scope X.env.scope := fun s H C cll fp => rfl
      refine ⟨it, t, q, x, rfl, (cIt_ok F rfl ih h1).1, by rw [F.N]; exact blkOk_by hb.1, fun s H C cll fp => ((cT_ok (blkF s H C cll fp) (blkS s H C cll fp) (fun z => by cases z) n).1 h2).1, fun s H C cll fp => ?_, fun s H C cll fp => (cE_ok n (blkF s H C cll fp) (blkS s H C cll fp) h4).1, fold_nset hb.2, hv⟩
      split at h3
      · cases h3
        exact (pts_nilF (X := X.blk s H scope (compEnvC scope cll C X.env) fp))
      · split at h3
        · rename_i ht
          rw [Option.map_eq_some_iff] at h3
          obtain ⟨a, h5, rfl⟩ := h3
          exact pts_one ((cE_ok n (blkF s H C cll fp) (blkS s H C cll fp) h5).2 ht)
        · cases h3
      · cases h3
    · cases h
  · cases h
termination_by 2 * n + 1
theorem cE_ok : ∀ (n : Nat) {X : Cx} {sc : Scope} (F : Fx c cl X) (hsc : X.env.scope = sc) {e : Expr} {i : IE}, cE c n sc e = some i → Gd1 X cl e i
  | 0, X, sc, F, hsc, e, i, h => by simp [cE] at h
  | n + 1, X, sc, F, hsc, e, i, h => by
    have ih : ∀ e i, cE c n sc e = some i → Gd1 X cl e i := fun e i h => cE_ok n F hsc h
    unfold cE at h
    split at h
    · cases h
    · rename_i m sc' x p hm; cases hm
      exact cName_ok F hsc h
    · rename_i m sc' k j p hm; cases hm
      split at h <;> first | cases h | skip
      · exact gd_plain (pe_cst pe_non fun ad H => by rw [RV]) fun _ _ => rfl
      · exact gd_plain (pe_cst pe_bl fun ad H => by rw [RV]) fun _ _ => rfl
      · exact gd_plain (pe_cst pe_int fun ad H => by rw [RV]) fun _ _ => rfl
      · exact gd_plain (pe_cst pe_str fun ad H => str_x _ _ _ _) fun _ _ => rfl
    · rename_i m sc' a o b p hm; cases hm
      rw [Option.bind_eq_some_iff] at h
      obtain ⟨x, h1, h⟩ := h
      rw [Option.map_eq_some_iff] at h
      obtain ⟨y, h2, rfl⟩ := h
      exact gd_plain (pe_binF o (ih _ _ h1).1 (ih _ _ h2).1) fun _ _ => rfl
    · rename_i m sc' a o b p hm; cases hm
      split at h
      · rename_i hb
        rw [Option.bind_eq_some_iff] at h
        obtain ⟨x, h1, h⟩ := h
        rw [Option.map_eq_some_iff] at h
        obtain ⟨y, h2, rfl⟩ := h
        exact ⟨pe_cmpF F.hu o (ih _ _ h1).1 (ih _ _ h2).1 hb, fun _ => pt_cmpF F.hu o (ih _ _ h1).1 (ih _ _ h2).1 hb⟩
      · cases h
    · rename_i m sc' a o o' b d p hm; cases hm
      split at h
      · rename_i hb
        rw [Option.bind_eq_some_iff] at h
        obtain ⟨x, h1, h⟩ := h
        rw [Option.bind_eq_some_iff] at h
        obtain ⟨y, h2, h⟩ := h
        rw [Option.map_eq_some_iff] at h
        obtain ⟨z, h3, rfl⟩ := h
        exact ⟨pe_chnF F.hu o o' (ih _ _ h1).1 (ih _ _ h2).1 (ih _ _ h3).1 hb, fun _ => pt_chnF F.hu o o' (ih _ _ h1).1 (ih _ _ h2).1 (ih _ _ h3).1 hb⟩
      · cases h
    · rename_i m sc' op vs p hm; cases hm
      obtain ⟨q1, q2⟩ := cBs_ok ih (pos := p) h
      exact ⟨q1, fun _ => q2.pt⟩
    · rename_i m sc' op a p hm; cases hm
      split at h
      · split at h
        · rename_i ht
          rw [Option.map_eq_some_iff] at h
          obtain ⟨x, h1, rfl⟩ := h
          exact ⟨pe_notF (ih _ _ h1).1, fun _ => pt_notF ((ih _ _ h1).2 ht)⟩
        · cases h
      · split at h
        · cases h
          exact gd_plain pe_negI fun _ _ => rfl
        · cases h
      · cases h
    · rename_i m sc' t a b p hm; cases hm
      split at h
      · rename_i ht
        rw [Option.bind_eq_some_iff] at h
        obtain ⟨x, h1, h⟩ := h
        rw [Option.bind_eq_some_iff] at h
        obtain ⟨y, h2, h⟩ := h
        rw [Option.map_eq_some_iff] at h
        obtain ⟨z, h3, rfl⟩ := h
        exact ⟨pe_iteF ((ih _ _ h1).2 ht) (ih _ _ h2).1 (ih _ _ h3).1, fun z => by cases z⟩
      · cases h
    · rename_i m sc' es k p hm; cases hm
      rw [Option.map_eq_some_iff] at h
      obtain ⟨l, h1, rfl⟩ := h
      exact gd_plain (pe_tupF (cLs_ok ih h1).1) fun _ _ => rfl
    · rename_i m sc' es p hm; cases hm
      rw [Option.map_eq_some_iff] at h
      obtain ⟨l, h1, rfl⟩ := h
      exact gd_plain (pe_lstF (cLs_ok ih h1).1) fun _ _ => rfl
    · rename_i m sc' ks vs p hm; cases hm
      split at h
      · split at h
        · cases h; exact gd_plain pe_dnsF fun _ _ => rfl
        · cases h; exact gd_plain pe_dneF fun _ _ => rfl
      · split at h
        · rw [Option.bind_eq_some_iff] at h
          obtain ⟨w, h1, h⟩ := h
          rw [Option.map_eq_some_iff] at h
          obtain ⟨l, h2, rfl⟩ := h
          obtain ⟨q1, q2⟩ := keyStrs_ok ih (pos := p) h1 h2 rfl
          exact gd_plain (pe_dssF q1 q2 rfl (by simp) (by simp)) fun _ _ => rfl
        · rw [Option.bind_eq_some_iff] at h
          obtain ⟨x, h1, h⟩ := h
          rw [Option.map_eq_some_iff] at h
          obtain ⟨y, h2, rfl⟩ := h
          exact gd_plain (pe_dt1F F.hu (ih _ _ h1).1 (ih _ _ h2).1) fun _ _ => rfl
      · split at h
        · rename_i hz
          rw [Option.bind_eq_some_iff] at h
          obtain ⟨w, h1, h⟩ := h
          rw [Option.map_eq_some_iff] at h
          obtain ⟨l, h2, rfl⟩ := h
          obtain ⟨q1, q2⟩ := keyStrs_ok ih (pos := p) h1 h2 hz.1
          exact gd_plain (pe_dssF q1 q2 hz.1 hz.2.2 hz.2.1) fun _ _ => rfl
        · cases h
    · rename_i m sc' a b p hm; cases hm
      split at h
      · split at h
        · rw [Option.bind_eq_some_iff] at h
          obtain ⟨x, h1, h⟩ := h
          rw [Option.bind_eq_some_iff] at h
          obtain ⟨y, h2, h⟩ := h
          rw [Option.map_eq_some_iff] at h
          obtain ⟨z, h3, rfl⟩ := h
          exact gd_plain (pe_slcF (ih _ _ h1).1 (cPart_ok ih h2) (cPart_ok ih h3)) fun _ _ => rfl
        · split at h
          · rw [Option.map_eq_some_iff] at h
            obtain ⟨x, h1, rfl⟩ := h
            exact gd_plain (pe_revF (ih _ _ h1).1) fun _ _ => rfl
          · cases h
        · cases h
      · rename_i hns
        have hsl : nsl b = true := by
          rcases isL_lens (b := b) with z | ⟨lo, hi, st, q, rfl⟩
          · exact z
          · exact absurd rfl (hns lo hi st q)
        split at h
        · split at h
          · rename_i x q _ kvs hl
            split at hl
            · rename_i hg
              rw [Option.map_eq_some_iff] at h
              obtain ⟨y, h1, rfl⟩ := h
              exact gd_plain (pe_tabF (F.tab _ _ hl) (isG_gl hsc hg.1) (okN_1 hg.2).1 (ih _ _ h1).1 (plain_nsl hsl)) fun _ _ => rfl
            · cases hl
          · rw [Option.bind_eq_some_iff] at h
            obtain ⟨x, h1, h⟩ := h
            rw [Option.map_eq_some_iff] at h
            obtain ⟨y, h2, rfl⟩ := h
            exact gd_plain (pe_ixF F.hu (ih _ _ h1).1 (ih _ _ h2).1 (plain_nsl hsl)) fun _ _ => rfl
        · rw [Option.bind_eq_some_iff] at h
          obtain ⟨x, h1, h⟩ := h
          rw [Option.map_eq_some_iff] at h
          obtain ⟨y, h2, rfl⟩ := h
          exact gd_plain (pe_ixF F.hu (ih _ _ h1).1 (ih _ _ h2).1 (plain_nsl hsl)) fun _ _ => rfl
    · rename_i m sc' fu es p hm; cases hm
      split at h
      · split at h
        · rename_i hg
          have g := isG_gl hsc hg.1
          have od := (okN_1 hg.2).1
          split at h
          · rename_i j hl
            rw [Option.map_eq_some_iff] at h
            obtain ⟨l, h1, rfl⟩ := h
            obtain ⟨q1, q2⟩ := cLs_ok ih h1
            refine gd_plain (gl_call F g od hl q1 q2 fun z => ?_) fun _ _ => rfl
            subst z; cases h1; rfl
          · cases h
          · split at h
            · rename_i hx
              subst hx
              split at h
              · split at h
                · rename_i hz
                  rw [Option.bind_eq_some_iff] at h
                  obtain ⟨ty, h1, h⟩ := h
                  rw [Option.map_eq_some_iff] at h
                  obtain ⟨a, h2, rfl⟩ := h
                  have e := tyOf_eq h1
                  subst e
                  exact gd_plain (pe_isiF ty g (F.blt _ (by decide +kernel)) (isG_gl hsc hz.1) (F.blt _ (ty_mem ty)) (ih _ _ h2).1 hz.2) fun _ _ => rfl
                · cases h
              · cases h
            · split at h
              · cases h
              · rw [Option.bind_eq_some_iff] at h
                obtain ⟨b, h1, h⟩ := h
                rw [Option.map_eq_some_iff] at h
                obtain ⟨l, h2, rfl⟩ := h
                have e := biOf_eq h1
                subst e
                obtain ⟨q1, q2⟩ := cLs_ok ih h2
                exact gd_plain (pe_biF F.calm b g (F.blt _ (bi_mem b)) q1 q2) fun _ _ => rfl
        · cases h
      · split at h
        · rename_i hz
          split at h
          · rename_i hx
            subst hx
            split at h
            · split at h
              · rename_i hg
                split at h
                · rename_i ws hl
                  rw [Option.map_eq_some_iff] at h
                  obtain ⟨a, h2, rfl⟩ := h
                  exact gd_plain (pe_txiF (F.tpt _ _ hl) (isG_gl hsc hg.1) (okN_1 hg.2.1).1 (ih _ _ h2).1 hg.2.2 hz.2.1) fun _ _ => rfl
                · cases h
              · cases h
            · cases h
          · rw [Option.bind_eq_some_iff] at h
            obtain ⟨me, h1, h⟩ := h
            rw [Option.bind_eq_some_iff] at h
            obtain ⟨a, h2, h⟩ := h
            rw [Option.map_eq_some_iff] at h
            obtain ⟨l, h3, rfl⟩ := h
            have e := meOf_eq h1
            subst e
            obtain ⟨q1, q2⟩ := cLs_ok ih h3
            cases es with
            | nil => cases h3; exact gd_plain (pe_me0F F.hu me (ih _ _ h2).1 hz.1 hz.2.1) fun _ _ => rfl
            | cons e es => exact gd_plain (pe_meF F.hu me (ih _ _ h2).1 q1 hz.1 q2 hz.2.2 hz.2.1) fun _ _ => rfl
        · cases h
      · cases h
    · rename_i m sc' elt tg iter ifs scope p hm; cases hm
      subst hsc
      exact gd_plain (CompOk.pe F (cC_ok n F (p := p) (by unfold cE; exact h))) fun _ _ => rfl
    · cases h
termination_by n => 2 * n
end
end
end RI
end
/-! #### RT -/
section
set_option Elab.async false
set_option linter.all false
set_option maxRecDepth 100000
set_option maxHeartbeats 4000000
/-! Part T: the terms of statements, sound. -/
namespace RI
open PySem PySem.Spec PyProof.Rows L2 SeqAt

def nmOf : Expr → Option Str
  | .Name x _ => some x
  | _ => none
section
variable (c : Cc) (sc : Scope)
/-- a place for a plain local name -/
def locS : Expr → Option Nat
  | .Name x _ => if isL sc x = true then slot c x else none
  | _ => none
def inL (l : Nat) : Expr → Bool
  | .Name _ p => p.line == l
  | _ => false
/-- two plain names, one no local (a cell): stored from the left -/
def celT (sc : Scope) : Expr → Expr → Bool
  | .Tuple [.Name x _, .Name y _] _ _, .Tuple [_, _] _ _ => !(isL sc x && isL sc y)
  | _, _ => false
mutual
def cS : Nat → Stmt → Option IS
  | 0, _ => none
  | n + 1, s => match s with
    | .Expr e _ => if isStrC e = true then some .pass else if ncmp e = true then (cE c n sc e).map .exp else none
    | .Return (some e) _ => (cE c n sc e).map .ret
    | .Return none _ => some .retN
    | .Pass _ => some .pass
    | .Break _ => some .brk
    | .Continue _ => some .cnt
    | .Raise _ _ _ => some .stk
    | .Assign [.Subscript o i p'] e pos => if nsl i = true ∧ ncmp e = true then (cE c n sc e).bind fun v => (cE c n sc o).bind fun a => (cE c n sc i).map fun b => .sub a b v else none
    | .Assign [.Name x py] (.ListComp elt gs scope cp) pos => match gs with
      | [⟨tg, iter, ifs, 0⟩] => if isC true sc x = true then (slot c x).bind fun i => (cE c n sc (.ListComp elt [⟨tg, iter, ifs, 0⟩] scope cp)).map fun v => .asg (.nm i) v else none
      | _ => none
    | .Assign [tg] e pos => if ncmp e = true then
      if ntup e = true then (cT c true sc n tg).bind fun t => (cE c n sc e).map fun v => .asg t v
      else if celT sc tg e = true then (cT c true sc n tg).bind fun t => (cE c n sc e).map fun v => .asg t v
      else match tg, e with
        | .Name x p, .Tuple es k q => (cT c true sc n (.Name x p)).bind fun t => (cE c n sc (.Tuple es k q)).map fun v => .asg t v
        | .Tuple [x, y] _ _, .Tuple [a, b] _ _ =>
          if nst a = true ∧ nst b = true ∧ inL x.pos.line x = true ∧ inL x.pos.line y = true ∧ nmOf x ≠ nmOf y ∧ [a, b].all (foldedForSure 8) = false ∧ [a, b].all (constantsAlone 8) = false then
            (locS c sc x).bind fun i => (locS c sc y).bind fun j => (cLs (cE c n sc) [a, b]).map fun l => .par2 i j l
          else none
        | .Tuple [x, y, z] _ _, .Tuple [a, b, d] _ _ =>
          if nst a = true ∧ nst b = true ∧ nst d = true ∧ inL x.pos.line x = true ∧ inL x.pos.line y = true ∧ inL x.pos.line z = true ∧ nmOf x ≠ nmOf y ∧ nmOf x ≠ nmOf z ∧ nmOf y ≠ nmOf z ∧ [a, b, d].all (foldedForSure 8) = false ∧ [a, b, d].all (constantsAlone 8) = false then
            (locS c sc x).bind fun i => (locS c sc y).bind fun j => (locS c sc z).bind fun k => (cLs (cE c n sc) [a, b, d]).map fun l => .par3 i j k l
          else none
        | _, _ => none
      else none
    | .If t a b _ => if tst t = true then (cE c n sc t).bind fun x => (cSs n a).bind fun y => (cSs n b).map fun z => .if_ x y z else none
    | .While t a [] _ => if tst t = true then (cE c n sc t).bind fun x => (cSs n a).map fun y => .while_ x y else none
    | .For tg iter a [] _ => match iter with
      | .Name x p => if okN x = true ∧ isV sc x = true then (slot c x).bind fun i => (cT c true sc n tg).bind fun t => (cSs n a).map fun y => .forV i t y
        else (cIt (cE c n sc) sc tg (.Name x p)).bind fun it => (cT c true sc n tg).bind fun t => (cSs n a).map fun y => .for_ it t y
      | iter => (cIt (cE c n sc) sc tg iter).bind fun it => (cT c true sc n tg).bind fun t => (cSs n a).map fun y => .for_ it t y
    | _ => none
def cSs : Nat → List Stmt → Option ISs
  | 0, _ => none
  | n + 1, [] => some .nil
  | n + 1, s :: r => (cS n s).bind fun a => (cSs n r).map (.cons a)
end
end
section
variable {c : Cc} {cl : Nat → FN} {X : Cx} {sc : Scope}
theorem sw_ncmp {e : Expr} {t : Option Expr} {l : Nat} {env : Env} (h : ncmp e = true) : swapsWith e t l env = pure false := by
  cases e <;> first | rfl | cases h
theorem sws_ncmp {e : Expr} {t : Expr} {l : Nat} {env : Env} (h : ncmp e = true) : swapsWithSole [t] e l env = pure false := by
  show swapsWith e (some t) l env = pure false
  exact sw_ncmp h
theorem sst_ntup {e tg : Expr} {env : Env} (h : ntup e = true) : swappedStores [tg] e env = pure none := by
  cases e <;> first | (cases h; done) | (cases tg <;> rfl)
theorem sst_ntg {e tg : Expr} {env : Env} (h : isT tg = false) (h2 : (match tg with | .List _ _ => false | _ => true) = true) : swappedStores [tg] e env = pure none := by
  cases tg <;> first | (cases h; done) | (cases h2; done) | (cases e <;> rfl)
theorem ae_nst {tg : Expr} {env : Env} (h : nst tg = true) : (assignEach [tg] env).map (·.2) = [assign tg env] := by
  cases tg <;> first | rfl | cases h
theorem locS_at (F : Fx c cl X) (hsc : X.env.scope = sc) {e : Expr} {i : Nat} (h : locS c sc e = some i) : ∃ x p, e = .Name x p ∧ X.env.scope.names.lookup x = some .local ∧ X.N[i]? = some x := by
  cases e with
  | Name x p =>
    rw [locS] at h
    split at h
    · rename_i hl
      exact ⟨x, p, rfl, isL_loc hsc hl, slot_at F h⟩
    · cases h
  | _ => simp [locS] at h
theorem sst_2 {env : Env} {x y : Str} {px py pt q : Pos} {kt k2 : Nat} {a b : Expr} (hk : env.scope.kind = .function) (hx : env.scope.names.lookup x = some .local) (hy : env.scope.names.lookup y = some .local)
    (ha : nst a = true) (hb : nst b = true) (l2 : (py.line == px.line) = true) (ne : x ≠ y) (f1 : [a, b].all (foldedForSure 8) = false) (f2 : [a, b].all (constantsAlone 8) = false) :
    swappedStores [.Tuple [.Name x px, .Name y py] kt pt] (.Tuple [a, b] k2 q) env = pure (some [x, y]) := by
  have hbk : env.blockKind = .function := by unfold Env.blockKind; rw [hk]; rfl
  have kx : env.kindOf x = some .local := hx
  have ky : env.kindOf y = some .local := hy
  have na : (match (generalizing := false) a with | .Starred .. => true | _ => false) = false := by cases a <;> first | rfl | cases ha
  have nb : (match (generalizing := false) b with | .Starred .. => true | _ => false) = false := by cases b <;> first | rfl | cases hb
  have ne' : (x == y) = false := by simpa using ne
  have l1 : (px.line == px.line) = true := by simp
  unfold swappedStores
  simp only [List.length_cons, List.length_nil, List.any_cons, List.any_nil, na, nb, hbk, List.head?_cons, Option.map_some, Option.getD_some, Expr.pos, List.filterMap_cons, List.filterMap_nil, kx, ky, f1, f2]
  simp [l1, l2, ne', ne, List.eraseDups_cons, List.eraseDups_nil, Ne.symm ne]
  rintro (hh | hh)
  · cases a <;> first | (cases ha; done) | exact Bool.noConfusion hh
  · cases b <;> first | (cases hb; done) | exact Bool.noConfusion hh
theorem sst_3 {env : Env} {x y z : Str} {px py pz pt q : Pos} {kt k2 : Nat} {a b d : Expr} (hk : env.scope.kind = .function) (hx : env.scope.names.lookup x = some .local) (hy : env.scope.names.lookup y = some .local) (hz : env.scope.names.lookup z = some .local)
    (ha : nst a = true) (hb : nst b = true) (hd : nst d = true) (l2 : (py.line == px.line) = true) (l3 : (pz.line == px.line) = true) (ne : x ≠ y) (ne2 : x ≠ z) (ne3 : y ≠ z) (f1 : [a, b, d].all (foldedForSure 8) = false) (f2 : [a, b, d].all (constantsAlone 8) = false) :
    swappedStores [.Tuple [.Name x px, .Name y py, .Name z pz] kt pt] (.Tuple [a, b, d] k2 q) env = pure (some [x, y, z]) := by
  have hbk : env.blockKind = .function := by unfold Env.blockKind; rw [hk]; rfl
  have kx : env.kindOf x = some .local := hx
  have ky : env.kindOf y = some .local := hy
  have kz : env.kindOf z = some .local := hz
  have na : (match (generalizing := false) a with | .Starred .. => true | _ => false) = false := by cases a <;> first | rfl | cases ha
  have nb : (match (generalizing := false) b with | .Starred .. => true | _ => false) = false := by cases b <;> first | rfl | cases hb
  have nd : (match (generalizing := false) d with | .Starred .. => true | _ => false) = false := by cases d <;> first | rfl | cases hd
  have l1 : (px.line == px.line) = true := by simp
  unfold swappedStores
  simp only [List.length_cons, List.length_nil, List.any_cons, List.any_nil, na, nb, nd, hbk, List.head?_cons, Option.map_some, Option.getD_some, Expr.pos, List.filterMap_cons, List.filterMap_nil, kx, ky, kz, f1, f2]
  simp [l1, l2, l3, ne, ne2, ne3, List.eraseDups_cons, List.eraseDups_nil, Ne.symm ne, Ne.symm ne2, Ne.symm ne3]
  rintro (hh | hh | hh)
  · cases a <;> first | (cases ha; done) | exact Bool.noConfusion hh
  · cases b <;> first | (cases hb; done) | exact Bool.noConfusion hh
  · cases d <;> first | (cases hd; done) | exact Bool.noConfusion hh
theorem sst_cel {env : Env} {tg e : Expr} (h : celT env.scope tg e = true) : swappedStores [tg] e env = pure none := by
  unfold celT at h
  split at h
  · rename_i x px y py k p a b k2 p2
    have hn : ((env.kindOf x == some .local) = false) ∨ ((env.kindOf y == some .local) = false) := by
      rw [Bool.not_eq_true', Bool.and_eq_false_iff] at h
      rcases h with h | h
      · refine .inl ?_
        unfold isL at h
        have : env.kindOf x ≠ some .local := of_decide_eq_false h
        simpa using this
      · refine .inr ?_
        unfold isL at h
        have : env.kindOf y ≠ some .local := of_decide_eq_false h
        simpa using this
    unfold swappedStores
    simp only [List.length_cons, List.length_nil, List.head?_cons, Option.map_some, Option.getD_some, Expr.pos, List.filterMap_cons, List.filterMap_nil]
    rcases hn with hn | hn
    · simp only [hn, Bool.false_and]
      simp
      intro _ _ _ h2
      by_cases hc : env.kindOf y = some .local ∧ py.line = px.line <;> simp [hc] at h2
    · simp only [hn, Bool.false_and]
      simp
      intro _ _ _ h2
      by_cases hc : env.kindOf x = some .local <;> simp [hc] at h2
  · cases h
theorem inL_eq {l : Nat} {x : Str} {p : Pos} (h : inL l (.Name x p) = true) : (p.line == l) = true := h
theorem set_comp {i : Nat} {y : Str} {py cp pos : Pos} {elt tg iter : Expr} {ifs : List Expr} {scope : Scope} {j : IE} (F : Fx c cl X) (hk : X.env.scope.kind = .function) (hfn : ∀ x, X.fn x = true) (hi : X.N[i]? = some y) (hy : isC true X.env.scope y = true) (h : CompOk c cl X elt tg iter ifs scope j) :
    PS X (.Assign [.Name y py] (.ListComp elt [⟨tg, iter, ifs, 0⟩] scope cp) pos) (TSf X (sAsg (.nm i) (dE cl j))) := by
  obtain ⟨l1, l2⟩ := isC_loc rfl (fun _ => hfn) hy
  have hbk : X.env.blockKind = .function := by unfold Env.blockKind; rw [hk]; rfl
  by_cases hl : X.env.scope.names.lookup y = some .local
  · have ky : X.env.kindOf y = some .local := hl
    have hsw : swapsWith (.ListComp elt [⟨tg, iter, ifs, 0⟩] scope cp) (some (.Name y py)) pos.line X.env = pure ((py.line == cp.line) && !(scope.names.any fun (n, k) => n == y && (k == .local || k == .cell))) := by
      unfold swapsWith
      simp only [hbk, ky, Expr.pos]
      rfl
    cases hb : ((py.line == cp.line) && !(scope.names.any fun (n, k) => n == y && (k == .local || k == .cell))) with
    | false =>
      rw [hb] at hsw
      exact ps_asgF (h.pe F) (by rw [gI]; exact pg_name F.nd hi l1 l2) hsw (sst_ntg rfl rfl) rfl
    | true =>
      rw [hb] at hsw
      obtain ⟨it, t, q, x, rfl, h1, h2, h3, h4, h5, h6, h7⟩ := h.ex
      refine imp_PS (ps_setLc F.calm F.nd hi hl hsw h1 h2 h3 h4 h5 h6) fun D σ H ⟨env, ad, M, M', fl, E, S, hf, q⟩ => ?_
      obtain ⟨d, M1, h1, hf⟩ := bnd_some hf
      cases hf
      exact tLc_F h7 σ H _ (stepE E S h1 fun v1 H1 ad1 n1 S1 E1 r1 => q _ _ _ n1 S1 (E1.set i r1))
  · have ky : (X.env.kindOf y == some .local) = false := by
      have : X.env.kindOf y ≠ some .local := hl
      simpa using this
    have hsw : swapsWith (.ListComp elt [⟨tg, iter, ifs, 0⟩] scope cp) (some (.Name y py)) pos.line X.env = pure false := by
      unfold swapsWith
      simp only [hbk, ky, Expr.pos]
      rfl
    exact ps_asgF (h.pe F) (by rw [gI]; exact pg_name F.nd hi l1 l2) hsw (sst_ntg rfl rfl) rfl
theorem cS_ok (F : Fx c cl X) (hsc : X.env.scope = sc) (hk : X.env.scope.kind = .function) (hfn : ∀ x, X.fn x = true) : ∀ (n : Nat), (∀ {s : Stmt} {i : IS}, cS c sc n s = some i → PS X s (TSf X (dS cl i))) ∧ ∀ {s : List Stmt} {i : ISs}, cSs c sc n s = some i → PSs X s (TSf X (dSs cl i))
  | 0 => ⟨fun h => by simp [cS] at h, fun h => by simp [cSs] at h⟩
  | n + 1 => by
    obtain ⟨ih1, ih2⟩ := cS_ok F hsc hk hfn n
    have ce : ∀ e i, cE c n sc e = some i → Gd1 X cl e i := fun e i h => cE_ok n F hsc h
    have pas : PassesOwn (model X.prog X.w) X.A X.env X.xe := by rw [F.xe]; exact .never
    refine ⟨fun {s i} h => ?_, fun {s i} h => ?_⟩
    · unfold cS at h
      split at h
      · split at h
        · rename_i e p hs
          cases h
          cases e <;> first | (cases hs; done) | skip
          rename_i k j q
          cases k <;> first | (cases hs; done) | exact ps_docF
        · split at h
          · rename_i hn
            rw [Option.map_eq_some_iff] at h
            obtain ⟨a, h1, rfl⟩ := h
            exact ps_expF (ce _ _ h1).1 (sw_ncmp hn)
          · cases h
      · rw [Option.map_eq_some_iff] at h
        obtain ⟨a, h1, rfl⟩ := h
        exact ps_retF (ce _ _ h1).1
      · cases h; exact ps_retNF
      · cases h; exact ps_passF
      · cases h; exact ps_brkF
      · cases h; exact ps_cntF
      · cases h; exact ps_stkF
      · split at h
        · rename_i hz
          rw [Option.bind_eq_some_iff] at h
          obtain ⟨v, h1, h⟩ := h
          rw [Option.bind_eq_some_iff] at h
          obtain ⟨a, h2, h⟩ := h
          rw [Option.map_eq_some_iff] at h
          obtain ⟨b, h3, rfl⟩ := h
          exact ps_subF F.hu (ce _ _ h1).1 (ce _ _ h2).1 (ce _ _ h3).1 (sws_ncmp hz.2) (sst_ntg rfl rfl) hz.1
        · cases h
      · split at h
        · split at h
          · rename_i hl
            rw [Option.bind_eq_some_iff] at h
            obtain ⟨i, h1, h⟩ := h
            rw [Option.map_eq_some_iff] at h
            obtain ⟨a, h2, rfl⟩ := h
            cases n with
            | zero => simp [cE] at h2
            | succ n =>
              subst hsc
              exact set_comp F hk hfn (slot_at F h1) hl (cC_ok n F h2)
          · cases h
        · cases h
      · split at h
        · rename_i hn
          split at h
          · rename_i ht
            rw [Option.bind_eq_some_iff] at h
            obtain ⟨t, h1, h⟩ := h
            rw [Option.map_eq_some_iff] at h
            obtain ⟨v, h2, rfl⟩ := h
            obtain ⟨q1, q2⟩ := (cT_ok F hsc (fun _ => hfn) n).1 h1
            exact ps_asgF (ce _ _ h2).1 q1 (sws_ncmp hn) (sst_ntup ht) (ae_nst q2)
          · split at h
            · rename_i hcel
              rw [Option.bind_eq_some_iff] at h
              obtain ⟨t, h1, h⟩ := h
              rw [Option.map_eq_some_iff] at h
              obtain ⟨v, h2, rfl⟩ := h
              obtain ⟨q1, q2⟩ := (cT_ok F hsc (fun _ => hfn) n).1 h1
              exact ps_asgF (ce _ _ h2).1 q1 (sws_ncmp hn) (sst_cel (by rw [hsc]; exact hcel)) (ae_nst q2)
            · split at h
              · rw [Option.bind_eq_some_iff] at h
                obtain ⟨t, h1, h⟩ := h
                rw [Option.map_eq_some_iff] at h
                obtain ⟨v, h2, rfl⟩ := h
                obtain ⟨q1, q2⟩ := (cT_ok F hsc (fun _ => hfn) n).1 h1
                exact ps_asgF (ce _ _ h2).1 q1 (sws_ncmp hn) (sst_ntg rfl rfl) (ae_nst q2)
              · split at h
                · rename_i hz
                  obtain ⟨z1, z2, z3, z4, z5, z6, z7⟩ := hz
                  rw [Option.bind_eq_some_iff] at h
                  obtain ⟨i, h1, h⟩ := h
                  rw [Option.bind_eq_some_iff] at h
                  obtain ⟨j, h2, h⟩ := h
                  rw [Option.map_eq_some_iff] at h
                  obtain ⟨l, h3, rfl⟩ := h
                  obtain ⟨x, px, rfl, lx, nx⟩ := locS_at F hsc h1
                  obtain ⟨y, py, rfl, ly, ny⟩ := locS_at F hsc h2
                  have ne : x ≠ y := fun e => z5 (by rw [e]; rfl)
                  have nij : i ≠ j := fun e => by
                    rw [← e, nx] at ny
                    exact ne (Option.some.inj ny)
                  exact imp_PS (ps_par F.calm F.nd nx ny nij lx ly (cLs_ok ce h3).1 (sst_2 hk lx ly z1 z2 (inL_eq z4) ne z6 z7) rfl) tPar_F
                · cases h
              · split at h
                · rename_i hz
                  obtain ⟨z1, z2, z3, z4, z5, z6, z7, z8, z9, z10, z11⟩ := hz
                  rw [Option.bind_eq_some_iff] at h
                  obtain ⟨i, h1, h⟩ := h
                  rw [Option.bind_eq_some_iff] at h
                  obtain ⟨j, h2, h⟩ := h
                  rw [Option.bind_eq_some_iff] at h
                  obtain ⟨k, h4, h⟩ := h
                  rw [Option.map_eq_some_iff] at h
                  obtain ⟨l, h3, rfl⟩ := h
                  obtain ⟨x, px, rfl, lx, nx⟩ := locS_at F hsc h1
                  obtain ⟨y, py, rfl, ly, ny⟩ := locS_at F hsc h2
                  obtain ⟨z, pz, rfl, lz, nz⟩ := locS_at F hsc h4
                  have ne : x ≠ y := fun e => z7 (by rw [e]; rfl)
                  have ne2 : x ≠ z := fun e => z8 (by rw [e]; rfl)
                  have ne3 : y ≠ z := fun e => z9 (by rw [e]; rfl)
                  have nij : i ≠ j := fun e => by
                    rw [← e, nx] at ny
                    exact ne (Option.some.inj ny)
                  have nik : i ≠ k := fun e => by
                    rw [← e, nx] at nz
                    exact ne2 (Option.some.inj nz)
                  have njk : j ≠ k := fun e => by
                    rw [← e, ny] at nz
                    exact ne3 (Option.some.inj nz)
                  exact imp_PS (ps_par3 F.calm F.nd nx ny nz nij nik njk lx ly lz (cLs_ok ce h3).1 (sst_3 hk lx ly lz z1 z2 z3 (inL_eq z5) (inL_eq z6) ne ne2 ne3 z10 z11) rfl) tPar3_F
                · cases h
              · cases h
        · cases h
      · split at h
        · rename_i ht
          rw [Option.bind_eq_some_iff] at h
          obtain ⟨x, h1, h⟩ := h
          rw [Option.bind_eq_some_iff] at h
          obtain ⟨y, h2, h⟩ := h
          rw [Option.map_eq_some_iff] at h
          obtain ⟨z, h3, rfl⟩ := h
          exact ps_ifF ((ce _ _ h1).2 ht) (ih2 h2) (ih2 h3)
        · cases h
      · split at h
        · rename_i ht
          rw [Option.bind_eq_some_iff] at h
          obtain ⟨x, h1, h⟩ := h
          rw [Option.map_eq_some_iff] at h
          obtain ⟨y, h2, rfl⟩ := h
          exact ps_whileF pas ((ce _ _ h1).2 ht) (ih2 h2)
        · cases h
      · split at h
        · split at h
          · rename_i hz
            rw [Option.bind_eq_some_iff] at h
            obtain ⟨i, h1, h⟩ := h
            rw [Option.bind_eq_some_iff] at h
            obtain ⟨t, h2, h⟩ := h
            rw [Option.map_eq_some_iff] at h
            obtain ⟨y, h3, rfl⟩ := h
            exact ps_forVF pas F.calm (slot_at F h1) (isV_vis hsc hz.2) (okN_1 hz.1).1 (okN_1 hz.1).2 ((cT_ok F hsc (fun _ => hfn) n).1 h2).1 (ih2 h3)
          · rw [Option.bind_eq_some_iff] at h
            obtain ⟨i, h1, h⟩ := h
            rw [Option.bind_eq_some_iff] at h
            obtain ⟨t, h2, h⟩ := h
            rw [Option.map_eq_some_iff] at h
            obtain ⟨y, h3, rfl⟩ := h
            obtain ⟨q1, q2⟩ := cIt_ok F hsc ce h1
            exact ps_forF pas F.calm q1 ((cT_ok F hsc (fun _ => hfn) n).1 h2).1 (ih2 h3) (fold_nset q2)
        · rw [Option.bind_eq_some_iff] at h
          obtain ⟨i, h1, h⟩ := h
          rw [Option.bind_eq_some_iff] at h
          obtain ⟨t, h2, h⟩ := h
          rw [Option.map_eq_some_iff] at h
          obtain ⟨y, h3, rfl⟩ := h
          obtain ⟨q1, q2⟩ := cIt_ok F hsc ce h1
          exact ps_forF pas F.calm q1 ((cT_ok F hsc (fun _ => hfn) n).1 h2).1 (ih2 h3) (fold_nset q2)
      · cases h
    · cases s with
      | nil => rw [cSs] at h; cases h; exact pss_nilF
      | cons s r =>
        rw [cSs, Option.bind_eq_some_iff] at h
        obtain ⟨a, h1, h⟩ := h
        rw [Option.map_eq_some_iff] at h
        obtain ⟨y, h2, rfl⟩ := h
        exact pss_consF (ih1 h1) (ih2 h2)
end
end RI
end
/-! #### RU -/
section
set_option Elab.async false
set_option linter.all false
set_option maxRecDepth 100000
set_option maxHeartbeats 4000000
/-! Part U: defs; all of them, by depth. -/
namespace RI
open PySem PySem.Spec PyProof.Rows L2 SeqAt

structure FDef where
  x : Str
  st : Stmt
  ps : List Str
  N : List Str
  dns : List Nat
  ir : ISs
/-- a call of the i-th def, k deep -/
def run (defs : List FDef) : Nat → Nat → FN
  | 0, _ => fun _ _ => none
  | k + 1, i => match defs[i]? with
    | some d => dF (run defs k) d.ps.length d.N.length d.ir
    | none => fun _ _ => none
structure DefOk (gm : List (Str × Gk)) (d : FDef) : Prop where
  sc : FnScope d.N d.ps (defScope d.st)
  ir : ∃ n, cSs ⟨gm, d.N, d.dns⟩ (defScope d.st) n (defBody d.st) = some d.ir
  bn : ∀ {K : PySem.W.Frag} {f : Addr} {fd : FuncData}, FunD K d.x d.x (defArgs d.st) (defBody d.st) (defScope d.st) [] [] f fd → Binds K fd d.ps []
/-- what is told of the module -/
structure Md (gm : List (Str × Gk)) (defs : List FDef) (w : World) (K : PySem.W.Frag) (mg : Str → Option Value) : Prop where
  con : ∀ x d, gm.lookup x = some (.con d) → ∃ (u : Value) (v : V), mg x = some u ∧ RelV v u ∧ ∀ ad H, RV K ad H d v
  tpt : ∀ x ws, gm.lookup x = some (.tpt ws) → ∃ (a : Addr) (o : Obj) (its : Array Value) (n : Nat), mg x = some (.ref a) ∧ K.lookup a = some o ∧ o.cls = .type "tuple" ∧ o.dict = none ∧ o.data = .seq its n ∧ its.size ≤ sizeLine ∧ Vals ((ws.map S).map V.str) its.toList
  tab : ∀ x kvs, gm.lookup x = some (.tab kvs) → ∃ a, mg x = some (.ref a) ∧ ∀ y d, tabD kvs y = some d → ∃ v, KDct K w a (S y) v ∧ ∀ ad H, RV K ad H d v
  fn : ∀ x i, gm.lookup x = some (.fn i) → ∃ (d : FDef) (f : Addr) (fd : FuncData), defs[i]? = some d ∧ mg x = some (.ref f) ∧ FunD K d.x d.x (defArgs d.st) (defBody d.st) (defScope d.st) [] [] f fd
  blt : ∀ x ∈ bltNames, mg x = none
def spP (P : Program) (w : World) (K : PySem.W.Frag) (fn : FN) : Sp := fun vs H Q _ => ∃ (ad : List Addr) (M M' : Sto) (ds : List D) (r : D), RS P w K ad H M ∧ RVs K ad H ds vs ∧ fn ds M = some (r, M') ∧
  ∀ (v : V) (H' : Hp) (ad' : List Addr), Nxt ad H ad' H' → RS P w K ad' H' M' → RV K ad' H' r v → Q v H'
theorem spP_eq (X : Cx) (fn : FN) : spP X.prog X.w X.K fn = spD X fn := rfl
theorem start_re {X : Cx} {ad : List Addr} {H : Hp} {ds : List D} {vs : List V} {N : List Str} (h : RVs X.K ad H ds vs) (hl : ds.length ≤ N.length) : RE X ad H (ds.map some ++ List.replicate (N.length - ds.length) none) (L2.start N vs) := by
  have el := h.length
  refine ⟨by unfold L2.start; simp [el], fun i d hi => ?_⟩
  unfold L2.start
  by_cases hlt : i < ds.length
  · rw [List.getElem?_append_left (by simpa using hlt), List.getElem?_map] at hi
    rw [List.getElem?_append_left (by rw [List.length_map, ← el]; exact hlt), List.getElem?_map]
    rw [Option.map_eq_some_iff] at hi
    obtain ⟨e, h1, h2⟩ := hi
    cases h2
    obtain ⟨v, h3, h4⟩ := h.get h1
    exact ⟨v, by rw [h3]; rfl, h4⟩
  · rw [List.getElem?_append_right (by simpa using hlt), List.getElem?_replicate] at hi
    split at hi <;> cases hi
theorem fn_all {gm : List (Str × Gk)} {defs : List FDef} {P : Program} {w : World} {K : PySem.W.Frag} {mg : Str → Option Value} {base : Heap} (hm : Md gm defs w K mg) (hd : ∀ d ∈ defs, DefOk gm d) :
    ∀ (k i : Nat) (d : FDef), defs[i]? = some d → ∀ (f : Addr) (fd : FuncData), FunD K d.x d.x (defArgs d.st) (defBody d.st) (defScope d.st) [] [] f fd → FnOk P w K mg base CX0 k f fd d.ps (spP P w K (run defs k i)) := by
  intro k
  induction k with
  | zero =>
    intro i d hi f fd F
    refine ⟨fun vs H Q E h => ?_, fun A outer s H args us vs Q E hr e0 hb r h => ?_⟩
    · obtain ⟨_, _, _, _, _, _, _, h, _⟩ := h
      cases h
    · obtain ⟨_, _, _, _, _, _, _, h, _⟩ := h
      cases h
  | succ k ih =>
    intro i d hi f fd F
    have ok := hd d (List.mem_of_getElem? hi)
    have hrun : run defs (k + 1) i = dF (run defs k) d.ps.length d.N.length d.ir := by
      show (match defs[i]? with | some d => _ | none => _) = _
      rw [hi]
    rw [hrun]
    have hpl : d.ps.length ≤ d.N.length := by have := congrArg List.length ok.sc.pre; rw [List.length_take] at this; omega
    refine F.ok ok.sc (fun vs H Q E h => ?_) (fun cdv A outer s H vs Q E hr h => ?_)
    · obtain ⟨ad, M, M', ds, r, R, rv, hf, q⟩ := h
      unfold dF at hf
      split at hf
      · rename_i hl; rw [← rv.length]; exact hl
      · cases hf
    · obtain ⟨n, hir⟩ := ok.ir
      refine ⟨TSf (cxOf CX0 P w K mg base d.N d.x (defScope d.st) f cdv A outer s H E).nox (dSs (run defs k) d.ir), PSs.nox ?_, ?_⟩
      · have F' : Fx ⟨gm, d.N, d.dns⟩ (run defs k) (cxOf CX0 P w K mg base d.N d.x (defScope d.st) f cdv A outer s H E).nox := by
          refine ⟨rfl, ok.sc.nd, rfl, hr.units, rfl, fun x d' h => hm.con x d' h, fun x ws h => hm.tpt x ws h, fun x kvs h => hm.tab x kvs h, fun x i' h => ?_, hm.blt⟩
          obtain ⟨d', f', fd', h1, h2, h3⟩ := hm.fn x i' h
          exact ⟨k, f', fd', d'.ps, h2, ih i' d' h1 f' fd' h3, hr, h3.kp, (hd d' (List.mem_of_getElem? h1)).bn h3⟩
        exact (cS_ok F' rfl ok.sc.kind (fun _ => rfl) n).2 hir
      · obtain ⟨ad, M, M', ds, r, R, rv, hf, q⟩ := h
        unfold dF at hf
        split at hf
        · rename_i hl
          split at hf
          · rename_i e M1 hb
            cases hf
            exact ⟨_, ad, M, M', .nx e, start_re rv (by omega), R, by rw [hl]; exact hb, fun σ' H' ad' n' S' E' => q _ _ ad' n' S' (by rw [RV])⟩
          · rename_i d' M1 hb
            cases hf
            exact ⟨_, ad, M, M', .rt r, start_re rv (by omega), R, by rw [hl]; exact hb, fun v H' ad' n' S' r' => q _ _ ad' n' S' r'⟩
          · cases hf
        · cases hf
end RI
end
/-! #### RX -/
section
set_option Elab.async false
set_option linter.all false
set_option maxRecDepth 100000
set_option maxHeartbeats 4000000
/-! Part X: the module's facts from the head. -/
namespace RI
open PySem PySem.Spec PyProof.Rows L2 SeqAt

def toDefD (d : FDef) : He.DefD := ⟨(d.x, none), d.x, d.x, defArgs d.st, defBody d.st, defScope d.st, [], []⟩
mutual
def rvB (K : PySem.W.Frag) : D → Value → Bool
  | .non, u => match u with
    | .none => true
    | _ => false
  | .bl b, u => match u with
    | .bool c => b == c
    | _ => false
  | .int i, u => match u with
    | .int j _ => decide (i = j)
    | _ => false
  | .str x, u => match u with
    | .str y _ => decide (S x = y)
    | _ => false
  | .tup ds, u => match u with
    | .ref a => (match K.lookup a with
      | some ⟨.type c, _, .seq its _, _⟩ => decide (c = "tuple") && (decide (its.size ≤ sizeLine) && rvsB K ds its.toList)
      | _ => false)
    | _ => false
  | _, _ => false
def rvsB (K : PySem.W.Frag) : List D → List Value → Bool
  | [], us => us.isEmpty
  | d :: ds, us => match us with
    | u :: us => rvB K d u && rvsB K ds us
    | [] => false
end
mutual
theorem rvB_ok {K : PySem.W.Frag} : ∀ {d : D} {u : Value}, rvB K d u = true → ∃ v, RelV v u ∧ ∀ ad H, RV K ad H d v
  | .non, u, h => by
    cases u with
    | none => exact ⟨.non, rfl, fun ad H => by rw [RV]⟩
    | _ => simp [rvB] at h
  | .bl b, u, h => by
    cases u with
    | bool c =>
      have e : b = c := by simpa [rvB] using h
      exact ⟨.bl b, by rw [e]; rfl, fun ad H => by rw [RV]⟩
    | _ => simp [rvB] at h
  | .int i, u, h => by
    cases u with
    | int j t =>
      have e : i = j := by simpa [rvB] using h
      exact ⟨.int i, ⟨t, by rw [e]⟩, fun ad H => by rw [RV]⟩
    | _ => simp [rvB] at h
  | .str x, u, h => by
    cases u with
    | str y t =>
      have e : S x = y := by simpa [rvB] using h
      exact ⟨.str (S x), ⟨t, by rw [e]⟩, fun ad H => by rw [RV]⟩
    | _ => simp [rvB] at h
  | .tup ds, u, h => by
    cases u with
    | ref a =>
      rw [rvB] at h
      split at h
      · rename_i c dd its n sl hk
        rw [Bool.and_eq_true, Bool.and_eq_true] at h
        obtain ⟨h1, h2, h3⟩ := h
        obtain ⟨vs, r, k⟩ := rvsB_ok h3
        exact ⟨.ref a, rfl, fun ad H => by rw [RV]; exact ⟨a, vs, rfl, .inr ⟨_, its, n, hk, congrArg Value.type (of_decide_eq_true h1), rfl, of_decide_eq_true h2, r⟩, k ad H⟩⟩
      · cases h
    | _ => simp [rvB] at h
  | .rol _, u, h => by simp [rvB] at h
  | .ref _, u, h => by simp [rvB] at h
theorem rvsB_ok {K : PySem.W.Frag} : ∀ {ds : List D} {us : List Value}, rvsB K ds us = true → ∃ vs, Vals vs us ∧ ∀ ad H, RVs K ad H ds vs
  | [], us, h => by
    cases us with
    | nil => exact ⟨[], .nil, fun _ _ => .nil⟩
    | cons _ _ => simp [rvsB] at h
  | d :: ds, us, h => by
    cases us with
    | nil => simp [rvsB] at h
    | cons u us =>
      rw [rvsB, Bool.and_eq_true] at h
      obtain ⟨v, r, k⟩ := rvB_ok h.1
      obtain ⟨vs, rs, ks⟩ := rvsB_ok h.2
      exact ⟨v :: vs, .cons r rs, fun ad H => .cons (k ad H) (ks ad H)⟩
end
def strsB : List (List Nat) → List Value → Bool
  | [], us => us.isEmpty
  | w :: ws, us => match us with
    | .str y _ :: us => decide (S w = y) && strsB ws us
    | _ => false
theorem strsB_ok : ∀ {ws : List (List Nat)} {us : List Value}, strsB ws us = true → Vals ((ws.map S).map V.str) us
  | [], us, h => by
    cases us with
    | nil => exact .nil
    | cons _ _ => cases h
  | w :: ws, us, h => by
    unfold strsB at h
    split at h
    · rw [Bool.and_eq_true] at h
      exact .cons ⟨_, by rw [of_decide_eq_true h.1]⟩ (strsB_ok h.2)
    · cases h
def chkG (K : PySem.W.Frag) (x : Str) (k : Gk) : Bool := match PySem.W.nsIn K mainGlobals x with
  | some (some u) => (match k with
    | .con d => rvB K d u
    | .tpt ws => (match u with
      | .ref a => (match K.lookup a with
        | some ⟨.type c, none, .seq its _, _⟩ => decide (c = "tuple") && (decide (its.size ≤ sizeLine) && strsB ws its.toList)
        | _ => false)
      | _ => false)
    | .tab kvs => (match u with
      | .ref a => kvs.all fun q => match PySem.W.nsIn K a (S q.1) with
        | some (some v) => rvB K q.2 v
        | _ => false
      | _ => false)
    | .fn _ => (match u with
      | .ref _ => true
      | _ => false))
  | _ => false
def freeB (K : PySem.W.Frag) (x : Str) : Bool := match PySem.W.nsIn K mainGlobals x with
  | some none => true
  | _ => false
def exK (gm : List (Str × Gk)) (K : PySem.W.Frag) : Bool := (gm.all fun p => chkG K p.1 p.2) && bltNames.all fun x => freeB K x
def tabsOf : List (Str × Gk) → List He.Tab
  | [] => []
  | (x, .tab kvs) :: r => ((fun K => He.ga K x), kvs.map fun q => S q.1) :: tabsOf r
  | _ :: r => tabsOf r
theorem tabsOf_mem {x : Str} {kvs : List (List Nat × D)} : ∀ {gm : List (Str × Gk)}, (x, Gk.tab kvs) ∈ gm → (((fun K => He.ga K x), kvs.map fun q => S q.1) : He.Tab) ∈ tabsOf gm
  | (y, k) :: r, h => by
    rcases List.mem_cons.mp h with e | h
    · cases e
      rw [tabsOf]; exact List.mem_cons_self ..
    · have := tabsOf_mem h
      cases k with
      | tab _ => rw [tabsOf]; exact List.mem_cons_of_mem _ this
      | con _ => rw [tabsOf]; exact this; simp
      | tpt _ => rw [tabsOf]; exact this; simp
      | fn _ => rw [tabsOf]; exact this; simp
/-- the Hook: the defs, the tables' keys, the Boolean facts -/
def obsE (fn : List He.DefD) (ts : List He.Tab) (ex : PySem.W.Frag → Bool) (K : PySem.W.Frag) : He.AlT × Bool := (He.obsT [] fn ts K, ex K)
def hookE (n : Nat) (fn : List He.DefD) (ts : List He.Tab) (ex : PySem.W.Frag → Bool) : PySem.W.Hook where
  α := He.AlT × Bool
  obs := fun s => obsE fn ts ex (He.frG s.heap.get? (He.asD s.heap.get? n))
  val := fun w => (He.valT fn ts w, true)
  says := fun w h => ∃ K : PySem.W.Frag, K.In h ∧ He.SaysT [] fn ts w K ∧ ex K = true
  of := fun _ _ e => ⟨_, He.frG_in, congrArg (fun z : He.AlT × Bool => z.1) e, congrArg (fun z : He.AlT × Bool => z.2) e⟩
  keeps := fun _ _ _ ⟨K, hK, c⟩ k => ⟨K, PySem.W.Frag.In.keeps hK k, c⟩
theorem obsE_eq {n : Nat} {fn : List He.DefD} {ts : List He.Tab} {ex : PySem.W.Frag → Bool} {g : Addr → Option Obj} {s : Shared} (h : ∀ a, g a = s.heap.get? a) : obsE fn ts ex (He.frG g (He.asD g n)) = (hookE n fn ts ex).obs s := by
  have e : g = s.heap.get? := funext h
  rw [e] <;> rfl
theorem mem_of_lookup' {α : Type} {x : Str} {k : α} : ∀ {l : List (Str × α)}, l.lookup x = some k → (x, k) ∈ l := fun h => PySem.mem_of_lookup h
/-- names of the defs, by place -/
def fnsOk (gm : List (Str × Gk)) (defs : List FDef) : Bool := gm.all fun p => match p.2 with
  | .fn i => (match defs[i]? with
    | some d => decide (d.x = p.1)
    | none => false)
  | _ => true
theorem md_of {gm : List (Str × Gk)} {defs : List FDef} {w : World} {K : PySem.W.Frag} {mg : Str → Option Value} {h : Heap} (X : K.In h) (G : h.Ns mainGlobals mg) (c : He.SaysT [] (defs.map toDefD) (tabsOf gm) w K) (e : exK gm K = true) (hf : fnsOk gm defs = true) : Md gm defs w K mg := by
  unfold exK at e
  rw [Bool.and_eq_true, List.all_eq_true, List.all_eq_true] at e
  obtain ⟨e1, e2⟩ := e
  have at_ : ∀ x k, gm.lookup x = some k → ∃ u, PySem.W.nsIn K mainGlobals x = some (some u) ∧ mg x = some u ∧ chkG K x k = true := by
    intro x k hl
    have h1 := e1 _ (mem_of_lookup' hl)
    have h2 : chkG K x k = true := h1
    unfold chkG at h1
    split at h1
    · rename_i u hu
      exact ⟨u, hu, PySem.W.mg_of X G hu, h2⟩
    · cases h1
  refine ⟨fun x d hl => ?_, fun x ws hl => ?_, fun x kvs hl => ?_, fun x i hl => ?_, fun x hx => ?_⟩
  · obtain ⟨u, h1, h2, h3⟩ := at_ x _ hl
    unfold chkG at h3
    rw [h1] at h3
    obtain ⟨v, r, k⟩ := rvB_ok (show rvB K d u = true from h3)
    exact ⟨u, v, h2, r, k⟩
  · obtain ⟨u, h1, h2, h3⟩ := at_ x _ hl
    unfold chkG at h3
    rw [h1] at h3
    simp only at h3
    split at h3
    · rename_i a
      split at h3
      · rename_i cc its n sl hk
        rw [Bool.and_eq_true, Bool.and_eq_true] at h3
        obtain ⟨k1, k2, k3⟩ := h3
        exact ⟨a, _, its, n, h2, hk, congrArg Value.type (of_decide_eq_true k1), rfl, rfl, of_decide_eq_true k2, strsB_ok k3⟩
      · cases h3
    · cases h3
  · obtain ⟨u, h1, h2, h3⟩ := at_ x _ hl
    unfold chkG at h3
    rw [h1] at h3
    simp only at h3
    split at h3
    · rename_i a
      have hga : He.ga K x = a := by unfold He.ga; rw [h1]
      have ht : (tabsOf gm).map (fun t => He.dicW K (t.1 K)) = (tabsOf gm).map fun t => some (He.keysIn w.params t.2) := congrArg (fun z : He.AlT => z.2) c
      have ht2 := List.map_inj_left.mp ht _ (tabsOf_mem (mem_of_lookup' hl))
      obtain ⟨es, n, kd⟩ := He.dicW_ok ht2
      simp only [hga] at kd
      refine ⟨a, h2, fun y d hy => ?_⟩
      have mem : ∀ {kvs : List (List Nat × D)}, tabD kvs y = some d → (y, d) ∈ kvs := by
        intro kvs
        induction kvs with
        | nil => intro h; simp [tabD] at h
        | cons p r ih =>
          obtain ⟨x', d'⟩ := p
          intro h
          rw [tabD] at h
          split at h
          · rename_i hx; cases h; subst hx; exact List.mem_cons_self ..
          · exact List.mem_cons_of_mem _ (ih h)
      have := List.all_eq_true.mp h3 _ (mem hy)
      simp only at this
      split at this
      · rename_i v hv
        obtain ⟨v', r, k⟩ := rvB_ok this
        exact ⟨v', ⟨es, n, v, kd.1, kd.lit, hv, r⟩, k⟩
      · cases this
    · cases h3
  · obtain ⟨u, h1, h2, h3⟩ := at_ x _ hl
    unfold chkG at h3
    rw [h1] at h3
    simp only at h3
    split at h3
    · rename_i a
      have hga : He.ga K x = a := by unfold He.ga; rw [h1]
      have q := List.all_eq_true.mp hf _ (mem_of_lookup' hl)
      simp only at q
      split at q
      · rename_i d hd
        have ex : d.x = x := of_decide_eq_true q
        obtain ⟨fd, F⟩ := c.d.def_ (d := toDefD d) i (by rw [List.getElem?_map, hd]; rfl)
        refine ⟨d, a, fd, hd, h2, ?_⟩
        have : He.fAd K (d.x, none) = a := by rw [ex]; exact hga
        have F' : FunD K d.x d.x (defArgs d.st) (defBody d.st) (defScope d.st) [] [] (He.fAd K (d.x, none)) fd := F
        rw [this] at F'
        exact F'
      · cases q
    · cases h3
  · have := e2 x hx
    unfold freeB at this
    split at this
    · rename_i hn
      exact PySem.W.mg_none_of X G hn
    · cases this
/-- the law's end: what walk_ofE wants -/
theorem law_end {P : Program} {w : World} {K : PySem.W.Frag} {gm : List (Str × Gk)} {defs : List FDef} {mg : Str → Option Value} {h : Heap} {x p : Str} {i k n : Nat} {d : FDef} {fa : Addr} (KX : K.In h) (md : Md gm defs w K mg) (hd : ∀ d ∈ defs, DefOk gm d) (hg : gm.lookup x = some (.fn i)) (hi : defs[i]? = some d) (hp : d.ps = [p]) (hmg : mg x = some (.ref fa))
    (hb : ∀ {f : Addr} {fd : FuncData}, FunD K d.x d.x (defArgs d.st) (defBody d.st) (defScope d.st) [] [] f fd → ∀ (s : Shared) (u : Value), BindsTo s fd ⟨[u], []⟩ [(p, u)])
    (hlaw : ∀ ns : List Int, ns.length ≤ n → ∃ M', run defs k i [.rol (ns.map .int)] [] = some (.bl true, M')) :
    ∃ (K : PySem.W.Frag) (fd : FuncData) (sp : Sp), K.In h ∧ (∀ (s : Shared) (u : Value), BindsTo s fd ⟨[u], []⟩ [(p, u)]) ∧
      (∀ (H : Hp) (a : Addr) (ns : List Int), ns.length ≤ n → Only H → SqL K H a (ns.map V.int) → sp [.ref a] H (fun v _ => v = .bl true) fun _ _ _ => False) ∧
      ∀ base : Heap, K.In base → base.Ns mainGlobals mg → FnOk P w K mg base CX0 k fa fd [p] sp := by
  obtain ⟨d', f, fd, h1, h2, h3⟩ := md.fn x i hg
  rw [hi] at h1
  cases h1
  rw [hmg] at h2
  cases h2
  refine ⟨K, fd, spP P w K (run defs k i), KX, hb h3, fun H a ns hl hO hS => ?_, fun base _ _ => by rw [← hp]; exact fn_all md hd k i d hi fa fd h3⟩
  obtain ⟨M', hr⟩ := hlaw ns hl
  have rs : ∀ ns : List Int, RVs K [] H (ns.map D.int) (ns.map V.int) := by
    intro ns
    induction ns with
    | nil => exact .nil
    | cons n r ih => exact .cons (by rw [RV]) ih
  refine ⟨[], [], M', [.rol (ns.map .int)], .bl true, ⟨rfl, .nil, fun i o a h => by simp at h⟩, .cons ?_ .nil, hr, fun v H' ad' _ _ r => by rw [RV] at r; exact r⟩
  rw [RV]
  refine ⟨a, _, rfl, ?_, rs ns⟩
  rcases hS with (hS | ⟨o, hS⟩) | hS
  · rcases hO a with z | ⟨o, ys, z⟩
    · rw [hS] at z; cases z
    · rw [hS] at z; cases z
  · exact .inl ⟨o, hS⟩
  · exact .inr hS
end RI
end
/-! #### D11 -/
section
set_option Elab.async false
set_option linter.all false
set_option maxRecDepth 100000
set_option maxHeartbeats 0
namespace NW11
open PySem PySem.Spec PyProof.Rows L2 RI
def top (i : Nat) : Stmt := PySem.Challenge.pw_nameswait_k11_whole_least_waits_marks_an.main.body.getD i (.Pass ⟨0, 0, 0, 0⟩)
def gm_0 : List (Str × Gk) := [("WAIT", .con (.int 0)),
  ("FORWARD", .con (.int 1)),
  ("BARS", .con (.int 2)),
  ("HOPS", .con (.int 3)),
  ("MARKS", .con (.int 4)),
  ("LIFE", .con (.int 5)),
  ("COPIES", .con (.int 6)),
  ("PASSING", .con (.int 7)),
  ("RULE_PARTS", .tpt [[119, 97, 105, 116], [102, 111, 114, 119, 97, 114, 100], [98, 97, 114, 115], [104, 111, 112, 115], [109, 97, 114, 107, 115], [108, 105, 102, 101], [99, 111, 112, 105, 101, 115], [112, 97, 115, 115, 105, 110, 103]]),
  ("NO", .con (.str [110, 111])),
  ("SAME", .con (.str [115, 97, 109, 101])),
  ("ANEW", .con (.str [97, 110, 101, 119])),
  ("KEPT", .con (.str [107, 101, 112, 116])),
  ("COUNTED", .con (.str [99, 111, 117, 110, 116, 101, 100])),
  ("ASTRAY", .con (.str [97, 115, 116, 114, 97, 121])),
  ("LOST", .con (.str [108, 111, 115, 116])),
  ("MEANT", .con (.str [109, 101, 97, 110, 116])),
  ("OTHER", .con (.str [111, 116, 104, 101, 114])),
  ("TIME", .con (.str [116, 105, 109, 101])),
  ("CHOICES", .tab [([119, 97, 105, 116], (.tup [(.int 0), (.int 1), (.int 2), (.int 3), .non])), ([102, 111, 114, 119, 97, 114, 100], (.tup [(.int 0), (.int 1), (.int 2), (.int 3), .non])), ([104, 111, 112, 115], (.tup [(.int 0), (.int 1), (.int 2)])), ([109, 97, 114, 107, 115], (.tup [(.int 1), (.int 2), (.int 3)])), ([108, 105, 102, 101], (.tup [(.int 0), (.int 1), (.int 2), (.int 3), (.int 4), .non])), ([99, 111, 112, 105, 101, 115], (.tup [(.str [110, 111]), (.str [115, 97, 109, 101]), (.str [97, 110, 101, 119])])), ([112, 97, 115, 115, 105, 110, 103], (.tup [(.str [110, 111]), (.str [107, 101, 112, 116]), (.str [99, 111, 117, 110, 116, 101, 100])]))]),
  ("MINE", .con (.str [109, 105, 110, 101])),
  ("THEIRS", .con (.str [116, 104, 101, 105, 114, 115])),
  ("OUT", .con (.str [111, 117, 116])),
  ("NEW", .con (.str [110, 101, 119])),
  ("NONE", .con (.str [110, 111, 110, 101])),
  ("NEXT", .con (.str [110, 101, 120, 116])),
  ("OFF", .con (.str [111, 102, 102])),
  ("is_integer", .fn 0),
  ("fits", .fn 1),
  ("is_rule", .fn 2)]
def gm_1 : List (Str × Gk) := [("with_part", .fn 3),
  ("need_rule", .fn 4),
  ("need_threat", .fn 5),
  ("first_scene", .fn 6),
  ("oldest", .fn 7),
  ("is_fine", .fn 8),
  ("may_come", .fn 9),
  ("cut_at", .fn 10),
  ("come_at", .fn 11),
  ("renamed", .fn 12),
  ("aged", .fn 13),
  ("comings", .fn 14),
  ("leavings", .fn 15),
  ("copies", .fn 16),
  ("steps_of", .fn 17),
  ("end_of", .fn 18),
  ("status", .fn 19),
  ("doer_of", .fn 20),
  ("all_scenes", .fn 21),
  ("way_to", .fn 22),
  ("found_harms", .fn 23),
  ("is_barred", .fn 24),
  ("need_all", .fn 25),
  ("least_wait", .fn 26),
  ("least_marks", .fn 27),
  ("longest_life", .fn 28),
  ("_law_bag", .fn 29),
  ("_law_take", .fn 30),
  ("_law_of", .fn 31),
  ("_law_rule", .fn 32)]
def gm_2 : List (Str × Gk) := [("_law_top", .fn 33),
  ("_law_fine", .fn 34),
  ("_law_may", .fn 35),
  ("_law_cut", .fn 36),
  ("_law_come_in", .fn 37),
  ("_law_new_name", .fn 38),
  ("_law_older", .fn 39),
  ("_law_moves", .fn 40),
  ("_law_stands_so", .fn 41),
  ("_law_threats", .fn 42),
  ("_law_barred", .fn 43),
  ("law", .fn 44)]
def gm : List (Str × Gk) := gm_0 ++ (gm_1 ++ (gm_2))
def ps_0 : List Str := ["value", "low", "high"]
def N_0 : List Str := ["value", "low", "high"]
def ps_1 : List Str := ["part", "value"]
def N_1 : List Str := ["part", "value"]
def ps_2 : List Str := ["value"]
def N_2 : List Str := ["value", "part", "one"]
def ps_3 : List Str := ["rule", "part", "value"]
def N_3 : List Str := ["rule", "part", "value", "place"]
def ps_4 : List Str := ["value"]
def N_4 : List Str := ["value"]
def ps_5 : List Str := ["harm", "doer"]
def N_5 : List Str := ["harm", "doer"]
def ps_6 : List Str := []
def N_6 : List Str := []
def ps_7 : List Str := ["rule"]
def N_7 : List Str := ["rule", "one"]
def ps_8 : List Str := ["rule", "record"]
def N_8 : List Str := ["rule", "record"]
def ps_9 : List Str := ["rule", "record", "who", "back"]
def N_9 : List Str := ["rule", "record", "who", "back"]
def ps_10 : List Str := ["scene", "place", "record"]
def N_10 : List Str := ["scene", "place", "record", "age", "rows", "thread"]
def ps_11 : List Str := ["rule", "scene", "place", "who", "back"]
def N_11 : List Str := ["rule", "scene", "place", "who", "back", "number"]
def ps_12 : List Str := ["rule", "scene"]
def N_12 : List Str := ["rule", "scene", "moves", "age", "rows", "thread", "who", "last", "number", "old", "forward"]
def ps_13 : List Str := ["rule", "scene"]
def N_13 : List Str := ["rule", "scene", "later", "found", "age", "rows", "thread", "who", "last", "number", "old", "forward", "place", "record"]
def ps_14 : List Str := ["rule", "scene"]
def N_14 : List Str := ["rule", "scene", "age", "rows", "thread", "found", "top", "place", "record", "back", "who", "there"]
def ps_15 : List Str := ["rule", "scene"]
def N_15 : List Str := ["rule", "scene", "top", "rest", "found", "age", "rows", "thread", "who", "last", "number", "old", "forward", "more", "other"]
def ps_16 : List Str := ["rule", "scene"]
def N_16 : List Str := ["rule", "scene", "top", "age", "rows", "thread"]
def ps_17 : List Str := ["rule", "scene"]
def N_17 : List Str := ["rule", "scene", "found", "event", "there"]
def ps_18 : List Str := ["scene"]
def N_18 : List Str := ["scene", "record"]
def ps_19 : List Str := ["scene"]
def N_19 : List Str := ["scene", "end"]
def ps_20 : List Str := ["scene", "event"]
def N_20 : List Str := ["scene", "event", "who"]
def ps_21 : List Str := ["rule"]
def N_21 : List Str := ["rule", "first", "found", "line", "later", "scene", "event", "there"]
def ps_22 : List Str := ["found", "scene"]
def N_22 : List Str := ["found", "scene", "rows", "ahead", "event"]
def ps_23 : List Str := ["rule"]
def N_23 : List Str := ["rule", "scene", "known", "found", "event", "there", "harm"]
def ps_24 : List Str := ["rule", "harm", "doer"]
def N_24 : List Str := ["rule", "harm", "doer"]
def ps_25 : List Str := ["rule", "harm", "doer"]
def N_25 : List Str := ["rule", "harm", "doer"]
def ps_26 : List Str := ["rule", "harm", "doer"]
def N_26 : List Str := ["rule", "harm", "doer", "wait"]
def ps_27 : List Str := ["rule", "harm", "doer"]
def N_27 : List Str := ["rule", "harm", "doer", "marks"]
def ps_28 : List Str := ["rule", "harm", "doer"]
def N_28 : List Str := ["rule", "harm", "doer", "life"]
def ps_29 : List Str := ["_law_script", "_law_k"]
def N_29 : List Str := ["_law_script", "_law_k", "_law_cell", "_law_mixed"]
def ps_30 : List Str := ["_law_bag_here", "_law_many"]
def N_30 : List Str := ["_law_bag_here", "_law_many", "_law_first", "_law_second", "_law_found"]
def ps_31 : List Str := ["_law_bag_here", "_law_some"]
def N_31 : List Str := ["_law_bag_here", "_law_some"]
def ps_32 : List Str := ["_law_bag_here", "_law_tight"]
def N_32 : List Str := ["_law_bag_here", "_law_tight", "_law_some", "_law_lives", "_law_first", "_law_counts", "_law_second", "_law_copying"]
def ps_33 : List Str := ["_law_rule_here"]
def N_33 : List Str := ["_law_rule_here", "_law_one"]
def ps_34 : List Str := ["_law_rule_here", "_law_record"]
def N_34 : List Str := ["_law_rule_here", "_law_record"]
def ps_35 : List Str := ["_law_rule_here", "_law_record", "_law_who", "_law_back"]
def N_35 : List Str := ["_law_rule_here", "_law_record", "_law_who", "_law_back"]
def ps_36 : List Str := ["_law_scene", "_law_at", "_law_record"]
def N_36 : List Str := ["_law_scene", "_law_at", "_law_record", "_law_age", "_law_rows", "_law_thread"]
def ps_37 : List Str := ["_law_rule_here", "_law_scene", "_law_at", "_law_who", "_law_back"]
def N_37 : List Str := ["_law_rule_here", "_law_scene", "_law_at", "_law_who", "_law_back", "_law_record", "_law_number"]
def ps_38 : List Str := ["_law_rule_here", "_law_scene"]
def N_38 : List Str := ["_law_rule_here", "_law_scene", "_law_mine", "_law_rows", "_law_age", "_law_thread", "_law_who", "_law_last", "_law_number", "_law_old", "_law_onward"]
def ps_39 : List Str := ["_law_rule_here", "_law_scene"]
def N_39 : List Str := ["_law_rule_here", "_law_scene", "_law_later", "_law_found", "_law_at", "_law_age", "_law_rows", "_law_thread", "_law_who", "_law_last", "_law_number", "_law_old", "_law_onward"]
def ps_40 : List Str := ["_law_rule_here", "_law_scene"]
def N_40 : List Str := ["_law_rule_here", "_law_scene", "_law_at", "_law_age", "_law_rows", "_law_thread", "_law_found", "_law_top_here", "_law_who", "_law_last", "_law_number", "_law_old", "_law_onward", "_law_less", "_law_other", "_law_back", "_law_one", "_law_later", "_law_more"]
def ps_41 : List Str := ["_law_scene"]
def N_41 : List Str := ["_law_scene", "_law_age", "_law_rows", "_law_thread"]
def ps_42 : List Str := ["_law_rule_here"]
def N_42 : List Str := ["_law_rule_here", "_law_begin", "_law_found", "_law_count", "_law_known", "_law_line", "_law_scene", "_law_later", "_law_word", "_law_who", "_law_there", "_law_harm", "_law_doer"]
def ps_43 : List Str := ["_law_rule_here", "_law_pair"]
def N_43 : List Str := ["_law_rule_here", "_law_pair"]
def ps_44 : List Str := ["_law_script"]
def N_44 : List Str := ["_law_script", "_law_k", "_law_bag_here", "_law_rule_here", "_law_pairs", "_law_pair", "_law_some", "_law_one"]
/-- is_integer -/
def ir_0 : ISs := (.cons (.ret (.and (.isi .int (.var 0)) (.and (.not (.isi .bool (.var 0))) (.chn .LtE .LtE (.var 1) (.var 0) (.var 2)))))
  .nil)
/-- fits -/
def ir_1 : ISs := (.cons (.if_ (.cmp .Eq (.var 0) (.cst (.str [98, 97, 114, 115]))) (.cons (.ret (.isi .bool (.var 1)))
  .nil) .nil)
  (.cons (.if_ (.cmp .Is (.var 1) (.cst .non)) (.cons (.ret (.cmp .In (.cst .non) (.tab [([119, 97, 105, 116], (.tup [(.int 0), (.int 1), (.int 2), (.int 3), .non])), ([102, 111, 114, 119, 97, 114, 100], (.tup [(.int 0), (.int 1), (.int 2), (.int 3), .non])), ([104, 111, 112, 115], (.tup [(.int 0), (.int 1), (.int 2)])), ([109, 97, 114, 107, 115], (.tup [(.int 1), (.int 2), (.int 3)])), ([108, 105, 102, 101], (.tup [(.int 0), (.int 1), (.int 2), (.int 3), (.int 4), .non])), ([99, 111, 112, 105, 101, 115], (.tup [(.str [110, 111]), (.str [115, 97, 109, 101]), (.str [97, 110, 101, 119])])), ([112, 97, 115, 115, 105, 110, 103], (.tup [(.str [110, 111]), (.str [107, 101, 112, 116]), (.str [99, 111, 117, 110, 116, 101, 100])]))] (.var 0))))
  .nil) .nil)
  (.cons (.if_ (.isi .str (.var 1)) (.cons (.ret (.cmp .In (.var 1) (.tab [([119, 97, 105, 116], (.tup [(.int 0), (.int 1), (.int 2), (.int 3), .non])), ([102, 111, 114, 119, 97, 114, 100], (.tup [(.int 0), (.int 1), (.int 2), (.int 3), .non])), ([104, 111, 112, 115], (.tup [(.int 0), (.int 1), (.int 2)])), ([109, 97, 114, 107, 115], (.tup [(.int 1), (.int 2), (.int 3)])), ([108, 105, 102, 101], (.tup [(.int 0), (.int 1), (.int 2), (.int 3), (.int 4), .non])), ([99, 111, 112, 105, 101, 115], (.tup [(.str [110, 111]), (.str [115, 97, 109, 101]), (.str [97, 110, 101, 119])])), ([112, 97, 115, 115, 105, 110, 103], (.tup [(.str [110, 111]), (.str [107, 101, 112, 116]), (.str [99, 111, 117, 110, 116, 101, 100])]))] (.var 0))))
  .nil) .nil)
  (.cons (.ret (.and (.call 0 (.cons (.var 1) (.cons (.cst (.int 0)) (.cons (.cst (.int 9)) .nil)))) (.cmp .In (.var 1) (.tab [([119, 97, 105, 116], (.tup [(.int 0), (.int 1), (.int 2), (.int 3), .non])), ([102, 111, 114, 119, 97, 114, 100], (.tup [(.int 0), (.int 1), (.int 2), (.int 3), .non])), ([104, 111, 112, 115], (.tup [(.int 0), (.int 1), (.int 2)])), ([109, 97, 114, 107, 115], (.tup [(.int 1), (.int 2), (.int 3)])), ([108, 105, 102, 101], (.tup [(.int 0), (.int 1), (.int 2), (.int 3), (.int 4), .non])), ([99, 111, 112, 105, 101, 115], (.tup [(.str [110, 111]), (.str [115, 97, 109, 101]), (.str [97, 110, 101, 119])])), ([112, 97, 115, 115, 105, 110, 103], (.tup [(.str [110, 111]), (.str [107, 101, 112, 116]), (.str [99, 111, 117, 110, 116, 101, 100])]))] (.var 0)))))
  .nil))))
/-- is_rule -/
def ir_2 : ISs := (.cons (.if_ (.or (.not (.isi .tuple (.var 0))) (.cmp .NotEq (.bi .len (.cons (.var 0) .nil)) (.bi .len (.cons (.cst (.tup [(.str [119, 97, 105, 116]), (.str [102, 111, 114, 119, 97, 114, 100]), (.str [98, 97, 114, 115]), (.str [104, 111, 112, 115]), (.str [109, 97, 114, 107, 115]), (.str [108, 105, 102, 101]), (.str [99, 111, 112, 105, 101, 115]), (.str [112, 97, 115, 115, 105, 110, 103])])) .nil)))) (.cons (.ret (.cst (.bl false)))
  .nil) .nil)
  (.cons (.ret (.bi .all (.cons (.comp (.zip (.cons (.cst (.tup [(.str [119, 97, 105, 116]), (.str [102, 111, 114, 119, 97, 114, 100]), (.str [98, 97, 114, 115]), (.str [104, 111, 112, 115]), (.str [109, 97, 114, 107, 115]), (.str [108, 105, 102, 101]), (.str [99, 111, 112, 105, 101, 115]), (.str [112, 97, 115, 115, 105, 110, 103])])) (.cons (.var 0) .nil))) (.tp (.cons (.nm 1) (.cons (.nm 2) .nil))) .none (.call 1 (.cons (.var 1) (.cons (.var 2) .nil))) [1, 2]) .nil)))
  .nil))
/-- with_part -/
def ir_3 : ISs := (.cons (.asg (.nm 3) (.txi [[119, 97, 105, 116], [102, 111, 114, 119, 97, 114, 100], [98, 97, 114, 115], [104, 111, 112, 115], [109, 97, 114, 107, 115], [108, 105, 102, 101], [99, 111, 112, 105, 101, 115], [112, 97, 115, 115, 105, 110, 103]] (.var 1)))
  (.cons (.ret (.bin .Add (.bin .Add (.slc (.var 0) .none (.some (.var 3))) (.tup (.cons (.var 2) .nil))) (.slc (.var 0) (.some (.bin .Add (.var 3) (.cst (.int 1)))) .none)))
  .nil))
/-- need_rule -/
def ir_4 : ISs := (.cons (.if_ (.not (.call 2 (.cons (.var 0) .nil))) (.cons .stk
  .nil) .nil)
  .nil)
/-- need_threat -/
def ir_5 : ISs := (.cons (.if_ (.or (.not (.isi .str (.var 0))) (.cmp .NotIn (.var 0) (.tup (.cons (.cst (.str [97, 115, 116, 114, 97, 121])) (.cons (.cst (.str [108, 111, 115, 116])) .nil))))) (.cons .stk
  .nil) .nil)
  (.cons (.if_ (.or (.not (.isi .str (.var 1))) (.cmp .NotIn (.var 1) (.tup (.cons (.cst (.str [109, 101, 97, 110, 116])) (.cons (.cst (.str [111, 116, 104, 101, 114])) (.cons (.cst (.str [116, 105, 109, 101])) .nil)))))) (.cons .stk
  .nil) .nil)
  .nil))
/-- first_scene -/
def ir_6 : ISs := (.cons (.ret (.tup (.cons (.cst (.int 0)) (.cons (.tup (.cons (.tup (.cons (.cst (.str [109, 105, 110, 101])) (.cons (.cst (.str [109, 105, 110, 101])) (.cons (.cst (.int 0)) (.cons (.cst (.int 0)) (.cons (.cst (.str [110, 111, 110, 101])) .nil)))))) .nil)) (.cons (.cst (.int 0)) .nil)))))
  .nil)
/-- oldest -/
def ir_7 : ISs := (.cons (.ret (.bi .max (.cons (.bin .Add (.lst (.cons (.cst (.int 0)) .nil)) (.comp (.src (.tup (.cons (.idx (.var 0) (.cst (.int 0))) (.cons (.idx (.var 0) (.cst (.int 1))) .nil)))) (.nm 1) (.some (.cmp .IsNot (.var 1) (.cst .non))) (.var 1) [1])) .nil)))
  .nil)
/-- is_fine -/
def ir_8 : ISs := (.cons (.ret (.and (.cmp .NotEq (.idx (.var 1) (.cst (.int 4))) (.cst (.str [110, 111, 110, 101]))) (.or (.cmp .Is (.idx (.var 0) (.cst (.int 1))) (.cst .non)) (.cmp .Lt (.idx (.var 1) (.cst (.int 3))) (.idx (.var 0) (.cst (.int 1)))))))
  .nil)
/-- may_come -/
def ir_9 : ISs := (.cons (.if_ (.var 3) (.cons (.ret (.cmp .Eq (.idx (.var 1) (.cst (.int 1))) (.var 2)))
  .nil) .nil)
  (.cons (.if_ (.or (.chn .Eq .Eq (.idx (.var 1) (.cst (.int 1))) (.var 2) (.cst (.str [109, 105, 110, 101]))) (.or (.cmp .Is (.idx (.var 0) (.cst (.int 0))) (.cst .non)) (.cmp .Lt (.idx (.var 1) (.cst (.int 3))) (.idx (.var 0) (.cst (.int 0)))))) (.cons (.ret (.cst (.bl false)))
  .nil) .nil)
  (.cons (.ret (.or (.not (.idx (.var 0) (.cst (.int 2)))) (.not (.call 8 (.cons (.var 0) (.cons (.var 1) .nil))))))
  .nil)))
/-- cut_at -/
def ir_10 : ISs := (.cons (.asg (.tp (.cons (.nm 3) (.cons (.nm 4) (.cons (.nm 5) .nil)))) (.var 0))
  (.cons (.if_ (.and (.cmp .IsNot (.var 5) (.cst .non)) (.and (.cmp .NotEq (.var 5) (.cst (.str [111, 117, 116]))) (.cmp .Gt (.var 5) (.var 1)))) (.cons (.asg (.nm 5) (.cst (.str [111, 117, 116])))
  .nil) .nil)
  (.cons (.ret (.tup (.cons (.var 3) (.cons (.bin .Add (.slc (.var 4) .none (.some (.var 1))) (.tup (.cons (.var 2) .nil))) (.cons (.var 5) .nil)))))
  .nil)))
/-- come_at -/
def ir_11 : ISs := (.cons (.asg (.nm 5) (.bin .Mod (.bin .Add (.idx (.idx (.idx (.var 1) (.cst (.int 1))) (.var 2)) (.cst (.int 2))) (.bi .int (.cons (.not (.var 4)) .nil))) (.idx (.var 0) (.cst (.int 4)))))
  (.cons (.ret (.call 10 (.cons (.var 1) (.cons (.var 2) (.cons (.tup (.cons (.var 3) (.cons (.var 3) (.cons (.var 5) (.cons (.cst (.int 0)) (.cons (.cst (.str [110, 111, 110, 101])) .nil)))))) .nil)))))
  .nil))
/-- renamed -/
def ir_12 : ISs := (.cons (.asg (.tp (.cons (.nm 3) (.cons (.nm 4) (.cons (.nm 5) .nil)))) (.var 1))
  (.cons (.asg (.tp (.cons (.nm 6) (.cons (.nm 7) (.cons (.nm 8) (.cons (.nm 9) (.cons (.nm 10) .nil)))))) (.idx (.var 4) (.cst (.int (-1)))))
  (.cons (.asg (.nm 2) (.cmp .Eq (.var 5) (.bin .Sub (.bi .len (.cons (.var 4) .nil)) (.cst (.int 1)))))
  (.cons (.if_ (.and (.cmp .Eq (.var 8) (.cst (.int 0))) (.and (.cmp .NotEq (.idx (.var 0) (.cst (.int 1))) (.cst (.int 0))) (.cmp .LtE (.bi .len (.cons (.var 4) .nil)) (.idx (.var 0) (.cst (.int 3)))))) (.cons (.asg (.nm 4) (.bin .Add (.slc (.var 4) .none (.some (.cst (.int (-1))))) (.tup (.cons (.tup (.cons (.cst .non) (.cons (.var 6) (.cons (.var 8) (.cons (.cst (.int 0)) (.cons (.cst (.str [110, 101, 120, 116])) .nil)))))) (.cons (.tup (.cons (.var 6) (.cons (.var 6) (.cons (.cst (.int 0)) (.cons (.cst (.int 0)) (.cons (.cst (.str [110, 111, 110, 101])) .nil)))))) .nil)))))
  (.cons (.ret (.tup (.cons (.var 3) (.cons (.var 4) (.cons (.ite (.var 2) (.bin .Sub (.bi .len (.cons (.var 4) .nil)) (.cst (.int 1))) (.var 5)) .nil)))))
  .nil)) .nil)
  (.cons (.ret (.tup (.cons (.var 3) (.cons (.bin .Add (.slc (.var 4) .none (.some (.cst (.int (-1))))) (.tup (.cons (.tup (.cons (.cst .non) (.cons (.var 6) (.cons (.var 8) (.cons (.cst (.int 0)) (.cons (.cst (.str [111, 102, 102])) .nil)))))) .nil))) (.cons (.ite (.var 2) (.cst (.str [111, 117, 116])) (.var 5)) .nil)))))
  .nil)))))
/-- aged -/
def ir_13 : ISs := (.cons (.asg (.tp (.cons (.nm 4) (.cons (.nm 5) (.cons (.nm 6) .nil)))) (.var 1))
  (.cons (.asg (.nm 2) (.lst .nil))
  (.cons (.forV 5 (.tp (.cons (.nm 7) (.cons (.nm 8) (.cons (.nm 9) (.cons (.nm 10) (.cons (.nm 11) .nil)))))) (.cons (.exp (.me .append (.var 2) (.cons (.tup (.cons (.var 7) (.cons (.var 8) (.cons (.var 9) (.cons (.bi .min (.cons (.bin .Add (.var 10) (.bi .int (.cons (.cmp .Is (.var 7) (.cst .non)) .nil))) (.cons (.call 7 (.cons (.var 0) .nil)) .nil))) (.cons (.var 11) .nil)))))) .nil)))
  .nil))
  (.cons (.asg (.nm 3) (.tup (.cons (.ite (.cmp .Is (.idx (.var 0) (.cst (.int 5))) (.cst .non)) (.cst (.int 0)) (.bin .Add (.var 4) (.cst (.int 1)))) (.cons (.bi .tuple (.cons (.var 2) .nil)) (.cons (.var 6) .nil)))))
  (.cons (.for_ (.enu (.cons (.var 2) .nil)) (.tp (.cons (.nm 12) (.cons (.nm 13) .nil))) (.cons (.if_ (.and (.cmp .Eq (.idx (.var 13) (.cst (.int 4))) (.cst (.str [110, 101, 120, 116]))) (.not (.call 8 (.cons (.var 0) (.cons (.var 13) .nil))))) (.cons (.ret (.call 10 (.cons (.var 3) (.cons (.var 12) (.cons (.bin .Add (.slc (.var 13) .none (.some (.cst (.int 4)))) (.tup (.cons (.cst (.str [111, 102, 102])) .nil))) .nil)))))
  .nil) .nil)
  .nil))
  (.cons (.ret (.var 3))
  .nil))))))
/-- comings -/
def ir_14 : ISs := (.cons (.asg (.tp (.cons (.nm 2) (.cons (.nm 3) (.cons (.nm 4) .nil)))) (.var 1))
  (.cons (.par2 5 6 (.cons (.lst .nil) (.cons (.bin .Sub (.bi .len (.cons (.var 3) .nil)) (.cst (.int 1))) .nil)))
  (.cons (.for_ (.enu (.cons (.var 3) .nil)) (.tp (.cons (.nm 7) (.cons (.nm 8) .nil))) (.cons (.if_ (.cmp .IsNot (.idx (.var 8) (.cst (.int 0))) (.cst .non)) (.cons .cnt
  .nil) .nil)
  (.cons (.for_ (.src (.tup (.cons (.tup (.cons (.cst (.str [109, 105, 110, 101])) (.cons (.cst (.bl true)) .nil))) (.cons (.tup (.cons (.cst (.str [109, 105, 110, 101])) (.cons (.cst (.bl false)) .nil))) (.cons (.tup (.cons (.cst (.str [116, 104, 101, 105, 114, 115])) (.cons (.cst (.bl true)) .nil))) (.cons (.tup (.cons (.cst (.str [116, 104, 101, 105, 114, 115])) (.cons (.cst (.bl false)) .nil))) .nil)))))) (.tp (.cons (.nm 10) (.cons (.nm 9) .nil))) (.cons (.if_ (.call 9 (.cons (.var 0) (.cons (.var 8) (.cons (.var 10) (.cons (.var 9) .nil))))) (.cons (.exp (.me .append (.var 5) (.cons (.tup (.cons (.tup (.cons (.cst (.str [116, 97, 107, 101])) (.cons (.var 10) (.cons (.var 9) (.cons (.var 7) .nil))))) (.cons (.call 11 (.cons (.var 0) (.cons (.var 1) (.cons (.var 7) (.cons (.var 10) (.cons (.var 9) .nil)))))) .nil))) .nil)))
  .nil) .nil)
  .nil))
  (.cons (.asg (.nm 9) (.cmp .Eq (.idx (.var 8) (.cst (.int 1))) (.cst (.str [109, 105, 110, 101]))))
  (.cons (.if_ (.and (.call 9 (.cons (.var 0) (.cons (.var 8) (.cons (.cst (.str [109, 105, 110, 101])) (.cons (.var 9) .nil))))) (.or (.cmp .Eq (.var 4) (.cst (.str [111, 117, 116]))) (.and (.cmp .Eq (.var 4) (.var 6)) (.cmp .Lt (.var 7) (.var 6))))) (.cons (.asg (.nm 11) (.call 11 (.cons (.var 0) (.cons (.var 1) (.cons (.var 7) (.cons (.cst (.str [109, 105, 110, 101])) (.cons (.var 9) .nil)))))))
  (.cons (.exp (.me .append (.var 5) (.cons (.tup (.cons (.tup (.cons (.cst (.str [99, 104, 97, 110, 103, 101])) (.cons (.var 4) (.cons (.var 7) .nil)))) (.cons (.tup (.cons (.idx (.var 11) (.cst (.int 0))) (.cons (.idx (.var 11) (.cst (.int 1))) (.cons (.var 7) .nil)))) .nil))) .nil)))
  .nil)) .nil)
  .nil)))))
  (.cons (.ret (.var 5))
  .nil))))
/-- leavings -/
def ir_15 : ISs := (.cons (.asg (.tp (.cons (.nm 5) (.cons (.nm 6) (.cons (.nm 7) .nil)))) (.var 1))
  (.cons (.asg (.nm 2) (.bin .Sub (.bi .len (.cons (.var 6) .nil)) (.cst (.int 1))))
  (.cons (.asg (.tp (.cons (.nm 8) (.cons (.nm 9) (.cons (.nm 10) (.cons (.nm 11) (.cons (.nm 12) .nil)))))) (.idx (.var 6) (.var 2)))
  (.cons (.if_ (.cmp .Is (.var 8) (.cst .non)) (.cons (.ret (.lst .nil))
  .nil) .nil)
  (.cons (.asg (.nm 3) (.ite (.cmp .Eq (.var 7) (.var 2)) (.cst .non) (.var 7)))
  (.cons (.asg (.nm 4) (.lst (.cons (.tup (.cons (.tup (.cons (.cst (.str [103, 105, 118, 101])) (.cons (.var 2) .nil))) (.cons (.tup (.cons (.var 5) (.cons (.bin .Add (.slc (.var 6) .none (.some (.var 2))) (.tup (.cons (.tup (.cons (.cst .non) (.cons (.var 8) (.cons (.var 10) (.cons (.cst (.int 0)) (.cons (.cst (.str [110, 111, 110, 101])) .nil)))))) .nil))) (.cons (.var 3) .nil)))) .nil))) .nil)))
  (.cons (.exp (.me .append (.var 4) (.cons (.tup (.cons (.tup (.cons (.cst (.str [99, 104, 97, 110, 103, 101])) (.cons (.var 2) (.cons (.cst (.str [110, 101, 119])) .nil)))) (.cons (.call 12 (.cons (.var 0) (.cons (.var 1) .nil))) .nil))) .nil)))
  (.cons (.if_ (.cmp .NotEq (.idx (.var 0) (.cst (.int 7))) (.cst (.str [110, 111]))) (.cons (.asg (.nm 13) (.bin .Mod (.bin .Add (.var 10) (.bi .int (.cons (.cmp .Eq (.idx (.var 0) (.cst (.int 7))) (.cst (.str [99, 111, 117, 110, 116, 101, 100]))) .nil))) (.idx (.var 0) (.cst (.int 4)))))
  (.cons (.for_ (.src (.tup (.cons (.cst (.str [109, 105, 110, 101])) (.cons (.cst (.str [116, 104, 101, 105, 114, 115])) .nil)))) (.nm 14) (.cons (.if_ (.cmp .NotEq (.tup (.cons (.var 8) (.cons (.var 14) .nil))) (.tup (.cons (.cst (.str [109, 105, 110, 101])) (.cons (.cst (.str [109, 105, 110, 101])) .nil)))) (.cons (.exp (.me .append (.var 4) (.cons (.tup (.cons (.tup (.cons (.cst (.str [112, 97, 115, 115])) (.cons (.var 2) (.cons (.var 14) .nil)))) (.cons (.tup (.cons (.var 5) (.cons (.bin .Add (.slc (.var 6) .none (.some (.var 2))) (.tup (.cons (.tup (.cons (.var 14) (.cons (.var 14) (.cons (.var 13) (.cons (.cst (.int 0)) (.cons (.cst (.str [110, 111, 110, 101])) .nil)))))) .nil))) (.cons (.var 3) .nil)))) .nil))) .nil)))
  .nil) .nil)
  .nil))
  .nil)) .nil)
  (.cons (.ret (.var 4))
  .nil)))))))))
/-- copies -/
def ir_16 : ISs := (.cons (.asg (.tp (.cons (.nm 3) (.cons (.nm 4) (.cons (.nm 5) .nil)))) (.var 1))
  (.cons (.asg (.nm 2) (.bin .Sub (.bi .len (.cons (.var 4) .nil)) (.cst (.int 1))))
  (.cons (.if_ (.cmp .Eq (.idx (.var 0) (.cst (.int 6))) (.cst (.str [115, 97, 109, 101]))) (.cons (.ret (.lst (.cons (.tup (.cons (.tup (.cons (.cst (.str [99, 111, 112, 121])) .nil)) (.cons (.tup (.cons (.cst (.int 0)) (.cons (.var 4) (.cons (.var 5) .nil)))) .nil))) .nil)))
  .nil) .nil)
  (.cons (.if_ (.and (.cmp .Eq (.idx (.var 0) (.cst (.int 6))) (.cst (.str [97, 110, 101, 119]))) (.and (.cmp .IsNot (.idx (.idx (.var 4) (.var 2)) (.cst (.int 0))) (.cst .non)) (.cmp .Eq (.idx (.idx (.var 4) (.var 2)) (.cst (.int 2))) (.cst (.int 0))))) (.cons (.if_ (.cmp .IsNot (.var 5) (.cst .non)) (.cons (.asg (.nm 5) (.ite (.cmp .Eq (.var 5) (.var 2)) (.cst (.int 0)) (.cst (.str [111, 117, 116]))))
  .nil) .nil)
  (.cons (.ret (.lst (.cons (.tup (.cons (.tup (.cons (.cst (.str [99, 111, 112, 121])) .nil)) (.cons (.tup (.cons (.cst (.int 0)) (.cons (.slc (.var 4) (.some (.var 2)) .none) (.cons (.var 5) .nil)))) .nil))) .nil)))
  .nil)) .nil)
  (.cons (.ret (.lst .nil))
  .nil)))))
/-- steps_of -/
def ir_17 : ISs := (.cons (.asg (.nm 2) (.bin .Add (.bin .Add (.bin .Add (.lst (.cons (.tup (.cons (.tup (.cons (.cst (.str [116, 105, 99, 107])) .nil)) (.cons (.call 13 (.cons (.var 0) (.cons (.var 1) .nil))) .nil))) .nil)) (.call 14 (.cons (.var 0) (.cons (.var 1) .nil)))) (.call 15 (.cons (.var 0) (.cons (.var 1) .nil)))) (.call 16 (.cons (.var 0) (.cons (.var 1) .nil)))))
  (.cons (.ret (.comp (.src (.var 2)) (.tp (.cons (.nm 3) (.cons (.nm 4) .nil))) (.some (.or (.cmp .Is (.idx (.var 0) (.cst (.int 5))) (.cst .non)) (.cmp .LtE (.idx (.var 4) (.cst (.int 0))) (.idx (.var 0) (.cst (.int 5)))))) (.tup (.cons (.var 3) (.cons (.var 4) .nil))) [3, 4]))
  .nil))
/-- end_of -/
def ir_18 : ISs := (.cons (.asg (.nm 1) (.idx (.idx (.var 0) (.cst (.int 1))) (.cst (.int (-1)))))
  (.cons (.ret (.ite (.cmp .Eq (.idx (.var 1) (.cst (.int 2))) (.cst (.int 0))) (.idx (.var 1) (.cst (.int 0))) (.cst .non)))
  .nil))
/-- status -/
def ir_19 : ISs := (.cons (.asg (.nm 1) (.call 18 (.cons (.var 0) .nil)))
  (.cons (.if_ (.cmp .Eq (.var 1) (.cst (.str [116, 104, 101, 105, 114, 115]))) (.cons (.ret (.cst (.str [97, 115, 116, 114, 97, 121])))
  .nil) .nil)
  (.cons (.ret (.ite (.and (.cmp .Is (.var 1) (.cst .non)) (.cmp .IsNot (.idx (.var 0) (.cst (.int 2))) (.cst .non))) (.cst (.str [108, 111, 115, 116])) (.cst .non)))
  .nil)))
/-- doer_of -/
def ir_20 : ISs := (.cons (.if_ (.cmp .Eq (.idx (.var 1) (.cst (.int 0))) (.cst (.str [116, 105, 99, 107]))) (.cons (.ret (.cst (.str [116, 105, 109, 101])))
  .nil) .nil)
  (.cons (.if_ (.cmp .Eq (.idx (.var 1) (.cst (.int 0))) (.cst (.str [99, 111, 112, 121]))) (.cons (.ret (.cst (.str [111, 116, 104, 101, 114])))
  .nil) .nil)
  (.cons (.asg (.nm 2) (.ite (.cmp .Eq (.idx (.var 1) (.cst (.int 0))) (.cst (.str [116, 97, 107, 101]))) (.idx (.var 1) (.cst (.int 1))) (.cst (.str [109, 105, 110, 101]))))
  (.cons (.if_ (.and (.cmp .NotEq (.idx (.var 1) (.cst (.int 0))) (.cst (.str [116, 97, 107, 101]))) (.cmp .NotEq (.idx (.var 1) (.cst (.int 1))) (.cst (.str [111, 117, 116])))) (.cons (.asg (.nm 2) (.idx (.idx (.idx (.var 0) (.cst (.int 1))) (.idx (.var 1) (.cst (.int 1)))) (.cst (.int 0))))
  .nil) .nil)
  (.cons (.ret (.ite (.cmp .Eq (.var 2) (.cst (.str [109, 105, 110, 101]))) (.cst (.str [109, 101, 97, 110, 116])) (.cst (.str [111, 116, 104, 101, 114]))))
  .nil)))))
/-- all_scenes -/
def ir_21 : ISs := (.cons (.asg (.nm 1) (.call 6 .nil))
  (.cons (.par2 2 3 (.cons (.dt1 (.var 1) (.cst .non)) (.cons (.lst (.cons (.var 1) .nil)) .nil)))
  (.cons (.while_ (.cmp .NotEq (.var 3) (.lst .nil)) (.cons (.asg (.nm 4) (.lst .nil))
  (.cons (.forV 3 (.nm 5) (.cons (.for_ (.src (.call 17 (.cons (.var 0) (.cons (.var 5) .nil)))) (.tp (.cons (.nm 6) (.cons (.nm 7) .nil))) (.cons (.if_ (.cmp .NotIn (.var 7) (.var 2)) (.cons (.sub (.var 2) (.var 7) (.tup (.cons (.var 5) (.cons (.var 6) .nil))))
  (.cons (.exp (.me .append (.var 4) (.cons (.var 7) .nil)))
  .nil)) .nil)
  .nil))
  .nil))
  (.cons (.asg (.nm 3) (.var 4))
  .nil))))
  (.cons (.ret (.var 2))
  .nil))))
/-- way_to -/
def ir_22 : ISs := (.cons (.asg (.nm 2) (.lst .nil))
  (.cons (.while_ (.cmp .IsNot (.idx (.var 0) (.var 1)) (.cst .non)) (.cons (.asg (.tp (.cons (.nm 3) (.cons (.nm 4) .nil))) (.idx (.var 0) (.var 1)))
  (.cons (.asg (.nm 2) (.bin .Add (.lst (.cons (.tup (.cons (.var 4) (.cons (.var 1) .nil))) .nil)) (.var 2)))
  (.cons (.asg (.nm 1) (.var 3))
  .nil))))
  (.cons (.ret (.var 2))
  .nil)))
/-- found_harms -/
def ir_23 : ISs := (.cons (.par2 2 3 (.cons .dne (.cons (.call 21 (.cons (.var 0) .nil)) .nil)))
  (.cons (.forV 3 (.nm 1) (.cons (.for_ (.src (.call 17 (.cons (.var 0) (.cons (.var 1) .nil)))) (.tp (.cons (.nm 4) (.cons (.nm 5) .nil))) (.cons (.asg (.nm 6) (.call 19 (.cons (.var 5) .nil)))
  (.cons (.if_ (.and (.cmp .IsNot (.var 6) (.cst .non)) (.and (.cmp .NotEq (.var 6) (.call 19 (.cons (.var 1) .nil))) (.cmp .NotIn (.tup (.cons (.var 6) (.cons (.call 20 (.cons (.var 1) (.cons (.var 4) .nil))) .nil))) (.var 2)))) (.cons (.sub (.var 2) (.tup (.cons (.var 6) (.cons (.call 20 (.cons (.var 1) (.cons (.var 4) .nil))) .nil))) (.bin .Add (.call 22 (.cons (.var 3) (.cons (.var 1) .nil))) (.lst (.cons (.tup (.cons (.var 4) (.cons (.var 5) .nil))) .nil))))
  .nil) .nil)
  .nil)))
  .nil))
  (.cons (.ret (.var 2))
  .nil)))
/-- is_barred -/
def ir_24 : ISs := (.cons (.ret (.cmp .NotIn (.tup (.cons (.var 1) (.cons (.var 2) .nil))) (.call 23 (.cons (.var 0) .nil))))
  .nil)
/-- need_all -/
def ir_25 : ISs := (.cons (.exp (.call 4 (.cons (.var 0) .nil)))
  (.cons (.exp (.call 5 (.cons (.var 1) (.cons (.var 2) .nil))))
  .nil))
/-- least_wait -/
def ir_26 : ISs := (.cons (.exp (.call 25 (.cons (.var 0) (.cons (.var 1) (.cons (.var 2) .nil)))))
  (.cons (.for_ (.src (.tab [([119, 97, 105, 116], (.tup [(.int 0), (.int 1), (.int 2), (.int 3), .non])), ([102, 111, 114, 119, 97, 114, 100], (.tup [(.int 0), (.int 1), (.int 2), (.int 3), .non])), ([104, 111, 112, 115], (.tup [(.int 0), (.int 1), (.int 2)])), ([109, 97, 114, 107, 115], (.tup [(.int 1), (.int 2), (.int 3)])), ([108, 105, 102, 101], (.tup [(.int 0), (.int 1), (.int 2), (.int 3), (.int 4), .non])), ([99, 111, 112, 105, 101, 115], (.tup [(.str [110, 111]), (.str [115, 97, 109, 101]), (.str [97, 110, 101, 119])])), ([112, 97, 115, 115, 105, 110, 103], (.tup [(.str [110, 111]), (.str [107, 101, 112, 116]), (.str [99, 111, 117, 110, 116, 101, 100])]))] (.cst (.str [119, 97, 105, 116])))) (.nm 3) (.cons (.if_ (.call 24 (.cons (.call 3 (.cons (.var 0) (.cons (.cst (.str [119, 97, 105, 116])) (.cons (.var 3) .nil)))) (.cons (.var 1) (.cons (.var 2) .nil)))) (.cons (.ret (.tup (.cons (.var 3) .nil)))
  .nil) .nil)
  .nil))
  (.cons (.ret (.cst .non))
  .nil)))
/-- least_marks -/
def ir_27 : ISs := (.cons (.exp (.call 25 (.cons (.var 0) (.cons (.var 1) (.cons (.var 2) .nil)))))
  (.cons (.for_ (.src (.tab [([119, 97, 105, 116], (.tup [(.int 0), (.int 1), (.int 2), (.int 3), .non])), ([102, 111, 114, 119, 97, 114, 100], (.tup [(.int 0), (.int 1), (.int 2), (.int 3), .non])), ([104, 111, 112, 115], (.tup [(.int 0), (.int 1), (.int 2)])), ([109, 97, 114, 107, 115], (.tup [(.int 1), (.int 2), (.int 3)])), ([108, 105, 102, 101], (.tup [(.int 0), (.int 1), (.int 2), (.int 3), (.int 4), .non])), ([99, 111, 112, 105, 101, 115], (.tup [(.str [110, 111]), (.str [115, 97, 109, 101]), (.str [97, 110, 101, 119])])), ([112, 97, 115, 115, 105, 110, 103], (.tup [(.str [110, 111]), (.str [107, 101, 112, 116]), (.str [99, 111, 117, 110, 116, 101, 100])]))] (.cst (.str [109, 97, 114, 107, 115])))) (.nm 3) (.cons (.if_ (.call 24 (.cons (.call 3 (.cons (.var 0) (.cons (.cst (.str [109, 97, 114, 107, 115])) (.cons (.var 3) .nil)))) (.cons (.var 1) (.cons (.var 2) .nil)))) (.cons (.ret (.var 3))
  .nil) .nil)
  .nil))
  (.cons (.ret (.cst .non))
  .nil)))
/-- longest_life -/
def ir_28 : ISs := (.cons (.exp (.call 25 (.cons (.var 0) (.cons (.var 1) (.cons (.var 2) .nil)))))
  (.cons (.for_ (.src (.rev (.tab [([119, 97, 105, 116], (.tup [(.int 0), (.int 1), (.int 2), (.int 3), .non])), ([102, 111, 114, 119, 97, 114, 100], (.tup [(.int 0), (.int 1), (.int 2), (.int 3), .non])), ([104, 111, 112, 115], (.tup [(.int 0), (.int 1), (.int 2)])), ([109, 97, 114, 107, 115], (.tup [(.int 1), (.int 2), (.int 3)])), ([108, 105, 102, 101], (.tup [(.int 0), (.int 1), (.int 2), (.int 3), (.int 4), .non])), ([99, 111, 112, 105, 101, 115], (.tup [(.str [110, 111]), (.str [115, 97, 109, 101]), (.str [97, 110, 101, 119])])), ([112, 97, 115, 115, 105, 110, 103], (.tup [(.str [110, 111]), (.str [107, 101, 112, 116]), (.str [99, 111, 117, 110, 116, 101, 100])]))] (.cst (.str [108, 105, 102, 101]))))) (.nm 3) (.cons (.if_ (.call 24 (.cons (.call 3 (.cons (.var 0) (.cons (.cst (.str [108, 105, 102, 101])) (.cons (.var 3) .nil)))) (.cons (.var 1) (.cons (.var 2) .nil)))) (.cons (.ret (.tup (.cons (.var 3) .nil)))
  .nil) .nil)
  .nil))
  (.cons (.ret (.cst .non))
  .nil)))
/-- _law_bag -/
def ir_29 : ISs := (.cons (.asg (.nm 2) (.cst (.int 0)))
  (.cons (.if_ (.cmp .Lt (.var 1) (.bi .len (.cons (.var 0) .nil))) (.cons (.asg (.nm 2) (.bi .abs (.cons (.bi .int (.cons (.idx (.var 0) (.var 1)) .nil)) .nil)))
  .nil) .nil)
  (.cons (.asg (.nm 3) (.bin .Mod (.bi .int (.cons (.bin .Add (.bin .Add (.var 2) (.bin .Mult (.cst (.int 977)) (.var 1))) (.cst (.int 11))) .nil)) (.cst (.int 998244353))))
  (.cons (.ret (.lst (.cons (.ite (.cmp .GtE (.var 2) (.bin .Pow (.cst (.int 10)) (.cst (.int 18)))) (.var 2) (.cst (.int 0))) (.cons (.var 3) (.cons (.cst (.int 0)) .nil)))))
  .nil))))
/-- _law_take -/
def ir_30 : ISs := (.cons (.if_ (.cmp .Gt (.idx (.var 0) (.cst (.int 0))) (.cst (.int 0))) (.cons (.asg (.nm 4) (.bin .Mod (.bi .int (.cons (.idx (.var 0) (.cst (.int 0))) .nil)) (.var 1)))
  (.cons (.sub (.var 0) (.cst (.int 0)) (.bin .FloorDiv (.bi .int (.cons (.idx (.var 0) (.cst (.int 0))) .nil)) (.var 1)))
  (.cons (.ret (.var 4))
  .nil))) .nil)
  (.cons (.sub (.var 0) (.cst (.int 2)) (.bin .Add (.idx (.var 0) (.cst (.int 2))) (.cst (.int 1))))
  (.cons (.asg (.nm 2) (.bin .Mod (.bin .Pow (.bi .int (.cons (.bin .Add (.idx (.var 0) (.cst (.int 1))) (.bin .Mult (.cst (.int 6700417)) (.idx (.var 0) (.cst (.int 2))))) .nil)) (.cst (.int 3))) (.cst (.int 2147483629))))
  (.cons (.asg (.nm 3) (.bin .Mod (.bin .Pow (.bi .int (.cons (.bin .Add (.var 2) (.bin .Mult (.cst (.int 65537)) (.idx (.var 0) (.cst (.int 2))))) .nil)) (.cst (.int 3))) (.cst (.int 2147483587))))
  (.cons (.ret (.bin .Mod (.bi .int (.cons (.bin .FloorDiv (.var 3) (.cst (.int 128))) .nil)) (.var 1)))
  .nil)))))
/-- _law_of -/
def ir_31 : ISs := (.cons (.ret (.idx (.var 1) (.call 30 (.cons (.var 0) (.cons (.bi .len (.cons (.var 1) .nil)) .nil)))))
  .nil)
/-- _law_rule -/
def ir_32 : ISs := (.cons (.asg (.nm 2) (.ite (.not (.var 1)) (.lst (.cons (.cst (.int 0)) (.cons (.cst (.int 1)) (.cons (.cst (.int 2)) (.cons (.cst (.int 3)) (.cons (.cst .non) .nil)))))) (.lst (.cons (.cst (.int 0)) (.cons (.cst (.int 1)) (.cons (.cst (.int 1)) (.cons (.cst (.int 2)) (.cons (.cst .non) .nil))))))))
  (.cons (.asg (.nm 3) (.ite (.not (.var 1)) (.lst (.cons (.cst (.int 0)) (.cons (.cst (.int 1)) (.cons (.cst (.int 2)) (.cons (.cst (.int 3)) (.cons (.cst (.int 4)) (.cons (.cst .non) (.cons (.cst .non) .nil)))))))) (.lst (.cons (.cst (.int 0)) (.cons (.cst (.int 1)) (.cons (.cst (.int 2)) (.cons (.cst (.int 2)) (.cons (.cst .non) .nil))))))))
  (.cons (.asg (.nm 4) (.tup (.cons (.call 31 (.cons (.var 0) (.cons (.var 2) .nil))) (.cons (.call 31 (.cons (.var 0) (.cons (.var 2) .nil))) (.cons (.cmp .Eq (.call 30 (.cons (.var 0) (.cons (.cst (.int 2)) .nil))) (.cst (.int 0))) .nil)))))
  (.cons (.asg (.nm 5) (.ite (.var 1) (.lst (.cons (.cst (.int 1)) (.cons (.cst (.int 1)) (.cons (.cst (.int 2)) .nil)))) (.lst (.cons (.cst (.int 1)) (.cons (.cst (.int 2)) (.cons (.cst (.int 3)) .nil))))))
  (.cons (.asg (.nm 6) (.tup (.cons (.call 30 (.cons (.var 0) (.cons (.ite (.var 1) (.cst (.int 2)) (.cst (.int 3))) .nil))) (.cons (.call 31 (.cons (.var 0) (.cons (.var 5) .nil))) (.cons (.call 31 (.cons (.var 0) (.cons (.var 3) .nil))) .nil)))))
  (.cons (.asg (.nm 7) (.call 31 (.cons (.var 0) (.cons (.lst (.cons (.cst (.str [110, 111])) (.cons (.cst (.str [110, 111])) (.cons (.cst (.str [115, 97, 109, 101])) (.cons (.cst (.str [97, 110, 101, 119])) .nil))))) .nil))))
  (.cons (.ret (.bin .Add (.bin .Add (.var 4) (.var 6)) (.tup (.cons (.var 7) (.cons (.call 31 (.cons (.var 0) (.cons (.lst (.cons (.cst (.str [110, 111])) (.cons (.cst (.str [110, 111])) (.cons (.cst (.str [107, 101, 112, 116])) (.cons (.cst (.str [99, 111, 117, 110, 116, 101, 100])) .nil))))) .nil))) .nil)))))
  .nil)))))))
/-- _law_top -/
def ir_33 : ISs := (.cons (.ret (.bi .max (.cons (.bin .Add (.lst (.cons (.cst (.int 0)) .nil)) (.comp (.src (.slc (.var 0) .none (.some (.cst (.int 2))))) (.nm 1) (.some (.cmp .IsNot (.var 1) (.cst .non))) (.bi .int (.cons (.var 1) .nil)) [1])) .nil)))
  .nil)
/-- _law_fine -/
def ir_34 : ISs := (.cons (.ret (.and (.cmp .NotEq (.idx (.var 1) (.cst (.int 4))) (.cst (.str [110, 111, 110, 101]))) (.or (.cmp .Is (.idx (.var 0) (.cst (.int 1))) (.cst .non)) (.cmp .Lt (.idx (.var 1) (.cst (.int 3))) (.idx (.var 0) (.cst (.int 1)))))))
  .nil)
/-- _law_may -/
def ir_35 : ISs := (.cons (.if_ (.var 3) (.cons (.ret (.cmp .Eq (.idx (.var 1) (.cst (.int 1))) (.var 2)))
  .nil) .nil)
  (.cons (.if_ (.or (.chn .Eq .Eq (.idx (.var 1) (.cst (.int 1))) (.var 2) (.cst (.str [120]))) (.or (.cmp .Is (.idx (.var 0) (.cst (.int 0))) (.cst .non)) (.cmp .Lt (.idx (.var 1) (.cst (.int 3))) (.idx (.var 0) (.cst (.int 0)))))) (.cons (.ret (.cst (.bl false)))
  .nil) .nil)
  (.cons (.ret (.not (.and (.idx (.var 0) (.cst (.int 2))) (.call 34 (.cons (.var 0) (.cons (.var 1) .nil))))))
  .nil)))
/-- _law_cut -/
def ir_36 : ISs := (.cons (.asg (.tp (.cons (.nm 3) (.cons (.nm 4) (.cons (.nm 5) .nil)))) (.var 0))
  (.cons (.if_ (.and (.cmp .IsNot (.var 5) (.cst .non)) (.and (.cmp .NotEq (.var 5) (.cst (.str [111, 117, 116]))) (.cmp .Gt (.var 5) (.var 1)))) (.cons (.asg (.nm 5) (.cst (.str [111, 117, 116])))
  .nil) .nil)
  (.cons (.ret (.tup (.cons (.var 3) (.cons (.bin .Add (.slc (.var 4) .none (.some (.var 1))) (.tup (.cons (.var 2) .nil))) (.cons (.var 5) .nil)))))
  .nil)))
/-- _law_come_in -/
def ir_37 : ISs := (.cons (.asg (.nm 5) (.idx (.idx (.var 1) (.cst (.int 1))) (.var 2)))
  (.cons (.asg (.nm 6) (.bin .Mod (.bi .int (.cons (.bin .Add (.idx (.var 5) (.cst (.int 2))) (.bi .int (.cons (.not (.var 4)) .nil))) .nil)) (.idx (.var 0) (.cst (.int 4)))))
  (.cons (.ret (.call 36 (.cons (.var 1) (.cons (.var 2) (.cons (.tup (.cons (.var 3) (.cons (.var 3) (.cons (.var 6) (.cons (.cst (.int 0)) (.cons (.cst (.str [110, 111, 110, 101])) .nil)))))) .nil)))))
  .nil)))
/-- _law_new_name -/
def ir_38 : ISs := (.cons (.asg (.tp (.cons (.nm 4) (.cons (.nm 3) (.cons (.nm 5) .nil)))) (.var 1))
  (.cons (.asg (.tp (.cons (.nm 6) (.cons (.nm 7) (.cons (.nm 8) (.cons (.nm 9) (.cons (.nm 10) .nil)))))) (.idx (.var 3) (.cst (.int (-1)))))
  (.cons (.asg (.nm 2) (.cmp .Eq (.var 5) (.bin .Sub (.bi .len (.cons (.var 3) .nil)) (.cst (.int 1)))))
  (.cons (.if_ (.or (.cmp .NotEq (.var 8) (.cst (.int 0))) (.or (.cmp .Eq (.idx (.var 0) (.cst (.int 1))) (.cst (.int 0))) (.cmp .Gt (.bi .len (.cons (.var 3) .nil)) (.idx (.var 0) (.cst (.int 3)))))) (.cons (.ret (.tup (.cons (.var 4) (.cons (.bin .Add (.slc (.var 3) .none (.some (.cst (.int (-1))))) (.tup (.cons (.tup (.cons (.cst .non) (.cons (.var 6) (.cons (.var 8) (.cons (.cst (.int 0)) (.cons (.cst (.str [111, 102, 102])) .nil)))))) .nil))) (.cons (.ite (.var 2) (.cst (.str [111, 117, 116])) (.var 5)) .nil)))))
  .nil) .nil)
  (.cons (.asg (.nm 3) (.bin .Add (.slc (.var 3) .none (.some (.cst (.int (-1))))) (.tup (.cons (.tup (.cons (.cst .non) (.cons (.var 6) (.cons (.var 8) (.cons (.cst (.int 0)) (.cons (.cst (.str [110, 101, 120, 116])) .nil)))))) (.cons (.tup (.cons (.var 6) (.cons (.var 6) (.cons (.cst (.int 0)) (.cons (.cst (.int 0)) (.cons (.cst (.str [110, 111, 110, 101])) .nil)))))) .nil)))))
  (.cons (.ret (.tup (.cons (.var 4) (.cons (.var 3) (.cons (.ite (.var 2) (.bin .Sub (.bi .len (.cons (.var 3) .nil)) (.cst (.int 1))) (.var 5)) .nil)))))
  .nil))))))
/-- _law_older -/
def ir_39 : ISs := (.cons (.asg (.tp (.cons (.nm 5) (.cons (.nm 6) (.cons (.nm 7) .nil)))) (.var 1))
  (.cons (.asg (.nm 2) (.lst .nil))
  (.cons (.forV 6 (.tp (.cons (.nm 8) (.cons (.nm 9) (.cons (.nm 10) (.cons (.nm 11) (.cons (.nm 12) .nil)))))) (.cons (.asg (.nm 11) (.bi .min (.cons (.bin .Add (.bi .int (.cons (.var 11) .nil)) (.bi .int (.cons (.cmp .Is (.var 8) (.cst .non)) .nil))) (.cons (.call 33 (.cons (.var 0) .nil)) .nil))))
  (.cons (.exp (.me .append (.var 2) (.cons (.tup (.cons (.var 8) (.cons (.var 9) (.cons (.var 10) (.cons (.var 11) (.cons (.var 12) .nil)))))) .nil)))
  .nil)))
  (.cons (.asg (.nm 3) (.tup (.cons (.ite (.cmp .Is (.idx (.var 0) (.cst (.int 5))) (.cst .non)) (.cst (.int 0)) (.bin .Add (.bi .int (.cons (.var 5) .nil)) (.cst (.int 1)))) (.cons (.bi .tuple (.cons (.var 2) .nil)) (.cons (.var 7) .nil)))))
  (.cons (.for_ (.rng (.cons (.bi .len (.cons (.var 2) .nil)) .nil)) (.nm 4) (.cons (.if_ (.and (.cmp .Eq (.idx (.idx (.var 2) (.var 4)) (.cst (.int 4))) (.cst (.str [110, 101, 120, 116]))) (.not (.call 34 (.cons (.var 0) (.cons (.idx (.var 2) (.var 4)) .nil))))) (.cons (.ret (.call 36 (.cons (.var 3) (.cons (.var 4) (.cons (.bin .Add (.slc (.idx (.var 2) (.var 4)) .none (.some (.cst (.int 4)))) (.tup (.cons (.cst (.str [111, 102, 102])) .nil))) .nil)))))
  .nil) .nil)
  .nil))
  (.cons (.ret (.var 3))
  .nil))))))
/-- _law_moves -/
def ir_40 : ISs := (.cons (.asg (.tp (.cons (.nm 3) (.cons (.nm 4) (.cons (.nm 5) .nil)))) (.var 1))
  (.cons (.par2 6 7 (.cons (.lst (.cons (.tup (.cons (.cst (.str [116, 105, 99, 107])) (.cons (.cst (.str [116, 105, 109, 101])) (.cons (.call 39 (.cons (.var 0) (.cons (.var 1) .nil))) .nil)))) .nil)) (.cons (.bin .Sub (.bi .len (.cons (.var 4) .nil)) (.cst (.int 1))) .nil)))
  (.cons (.asg (.tp (.cons (.nm 8) (.cons (.nm 9) (.cons (.nm 10) (.cons (.nm 11) (.cons (.nm 12) .nil)))))) (.idx (.var 4) (.var 7)))
  (.cons (.for_ (.rng (.cons (.bi .len (.cons (.var 4) .nil)) .nil)) (.nm 2) (.cons (.if_ (.cmp .Is (.idx (.idx (.var 4) (.var 2)) (.cst (.int 0))) (.cst .non)) (.cons (.for_ (.src (.lst (.cons (.tup (.cons (.cst (.str [120])) (.cons (.cst (.bl true)) .nil))) (.cons (.tup (.cons (.cst (.str [120])) (.cons (.cst (.bl false)) .nil))) (.cons (.tup (.cons (.cst (.str [121])) (.cons (.cst (.bl true)) .nil))) (.cons (.tup (.cons (.cst (.str [121])) (.cons (.cst (.bl false)) .nil))) .nil)))))) (.tp (.cons (.nm 16) (.cons (.nm 15) .nil))) (.cons (.if_ (.call 35 (.cons (.var 0) (.cons (.idx (.var 4) (.var 2)) (.cons (.var 16) (.cons (.var 15) .nil))))) (.cons (.exp (.me .append (.var 6) (.cons (.tup (.cons (.cst (.str [116, 97, 107, 101])) (.cons (.var 16) (.cons (.call 37 (.cons (.var 0) (.cons (.var 1) (.cons (.var 2) (.cons (.var 16) (.cons (.var 15) .nil)))))) .nil)))) .nil)))
  .nil) .nil)
  .nil))
  (.cons (.asg (.nm 15) (.cmp .Eq (.idx (.idx (.var 4) (.var 2)) (.cst (.int 1))) (.cst (.str [120]))))
  (.cons (.if_ (.and (.or (.cmp .Eq (.var 5) (.cst (.str [111, 117, 116]))) (.and (.cmp .Eq (.var 5) (.var 7)) (.cmp .Lt (.var 2) (.var 7)))) (.call 35 (.cons (.var 0) (.cons (.idx (.var 4) (.var 2)) (.cons (.cst (.str [120])) (.cons (.var 15) .nil)))))) (.cons (.asg (.nm 17) (.call 37 (.cons (.var 0) (.cons (.var 1) (.cons (.var 2) (.cons (.cst (.str [120])) (.cons (.var 15) .nil)))))))
  (.cons (.exp (.me .append (.var 6) (.cons (.tup (.cons (.cst (.str [99, 104, 97, 110, 103, 101])) (.cons (.cst (.str [120])) (.cons (.tup (.cons (.idx (.var 17) (.cst (.int 0))) (.cons (.idx (.var 17) (.cst (.int 1))) (.cons (.var 2) .nil)))) .nil)))) .nil)))
  .nil)) .nil)
  .nil))) .nil)
  .nil))
  (.cons (.if_ (.cmp .IsNot (.var 8) (.cst .non)) (.cons (.asg (.nm 13) (.ite (.cmp .Eq (.var 5) (.var 7)) (.cst .non) (.var 5)))
  (.cons (.exp (.me .append (.var 6) (.cons (.tup (.cons (.cst (.str [103, 105, 118, 101])) (.cons (.var 8) (.cons (.tup (.cons (.var 3) (.cons (.bin .Add (.slc (.var 4) .none (.some (.var 7))) (.tup (.cons (.tup (.cons (.cst .non) (.cons (.var 8) (.cons (.var 10) (.cons (.cst (.int 0)) (.cons (.cst (.str [110, 111, 110, 101])) .nil)))))) .nil))) (.cons (.var 13) .nil)))) .nil)))) .nil)))
  (.cons (.exp (.me .append (.var 6) (.cons (.tup (.cons (.cst (.str [99, 104, 97, 110, 103, 101])) (.cons (.var 8) (.cons (.call 38 (.cons (.var 0) (.cons (.var 1) .nil))) .nil)))) .nil)))
  (.cons (.for_ (.src (.ite (.cmp .NotEq (.idx (.var 0) (.cst (.int 7))) (.cst (.str [110, 111]))) (.lst (.cons (.cst (.str [120])) (.cons (.cst (.str [121])) .nil))) (.lst .nil))) (.nm 14) (.cons (.if_ (.cmp .NotEq (.tup (.cons (.var 8) (.cons (.var 14) .nil))) (.tup (.cons (.cst (.str [120])) (.cons (.cst (.str [120])) .nil)))) (.cons (.asg (.nm 18) (.bin .Mod (.bi .int (.cons (.bin .Add (.var 10) (.bi .int (.cons (.cmp .Eq (.idx (.var 0) (.cst (.int 7))) (.cst (.str [99, 111, 117, 110, 116, 101, 100]))) .nil))) .nil)) (.idx (.var 0) (.cst (.int 4)))))
  (.cons (.exp (.me .append (.var 6) (.cons (.tup (.cons (.cst (.str [112, 97, 115, 115])) (.cons (.var 8) (.cons (.tup (.cons (.var 3) (.cons (.bin .Add (.slc (.var 4) .none (.some (.var 7))) (.tup (.cons (.tup (.cons (.var 14) (.cons (.var 14) (.cons (.var 18) (.cons (.cst (.int 0)) (.cons (.cst (.str [110, 111, 110, 101])) .nil)))))) .nil))) (.cons (.var 13) .nil)))) .nil)))) .nil)))
  .nil)) .nil)
  .nil))
  .nil)))) .nil)
  (.cons (.if_ (.cmp .Eq (.idx (.var 0) (.cst (.int 6))) (.cst (.str [115, 97, 109, 101]))) (.cons (.exp (.me .append (.var 6) (.cons (.tup (.cons (.cst (.str [99, 111, 112, 121])) (.cons (.cst (.str [121])) (.cons (.tup (.cons (.cst (.int 0)) (.cons (.var 4) (.cons (.var 5) .nil)))) .nil)))) .nil)))
  .nil) .nil)
  (.cons (.if_ (.and (.cmp .Eq (.idx (.var 0) (.cst (.int 6))) (.cst (.str [97, 110, 101, 119]))) (.and (.cmp .IsNot (.var 8) (.cst .non)) (.cmp .Eq (.var 10) (.cst (.int 0))))) (.cons (.exp (.me .append (.var 6) (.cons (.tup (.cons (.cst (.str [99, 111, 112, 121])) (.cons (.cst (.str [121])) (.cons (.tup (.cons (.cst (.int 0)) (.cons (.slc (.var 4) (.some (.var 7)) .none) (.cons (.ite (.cmp .Eq (.var 5) (.var 7)) (.cst (.int 0)) (.ite (.cmp .Is (.var 5) (.cst .non)) (.cst .non) (.cst (.str [111, 117, 116])))) .nil)))) .nil)))) .nil)))
  .nil) .nil)
  (.cons (.ret (.var 6))
  .nil))))))))
/-- _law_stands_so -/
def ir_41 : ISs := (.cons (.asg (.tp (.cons (.nm 1) (.cons (.nm 2) (.cons (.nm 3) .nil)))) (.var 0))
  (.cons (.if_ (.and (.cmp .IsNot (.idx (.idx (.var 2) (.cst (.int (-1)))) (.cst (.int 0))) (.cst .non)) (.cmp .Eq (.idx (.idx (.var 2) (.cst (.int (-1)))) (.cst (.int 2))) (.cst (.int 0)))) (.cons (.ret (.ite (.cmp .Eq (.idx (.idx (.var 2) (.cst (.int (-1)))) (.cst (.int 0))) (.cst (.str [120]))) (.cst (.str [114, 105, 103, 104, 116])) (.cst (.str [97, 115, 116, 114, 97, 121]))))
  .nil) .nil)
  (.cons (.ret (.ite (.cmp .Is (.var 3) (.cst .non)) (.cst (.str [110, 111, 119, 104, 101, 114, 101])) (.cst (.str [108, 111, 115, 116]))))
  .nil)))
/-- _law_threats -/
def ir_42 : ISs := (.cons (.par3 1 2 3 (.cons (.tup (.cons (.cst (.int 0)) (.cons (.tup (.cons (.tup (.cons (.cst (.str [120])) (.cons (.cst (.str [120])) (.cons (.cst (.int 0)) (.cons (.cst (.int 0)) (.cons (.cst (.str [110, 111, 110, 101])) .nil)))))) .nil)) (.cons (.cst (.int 0)) .nil)))) (.cons .dne (.cons (.cst (.int 2)) .nil))))
  (.cons (.par2 4 5 (.cons (.dt1 (.var 1) (.cst (.bl true))) (.cons (.lst (.cons (.var 1) .nil)) .nil)))
  (.cons (.while_ (.cmp .NotEq (.var 5) (.lst .nil)) (.cons (.par2 7 3 (.cons (.lst .nil) (.cons (.bin .Add (.var 3) (.cst (.int 1))) .nil)))
  (.cons (.forV 5 (.nm 6) (.cons (.for_ (.src (.call 40 (.cons (.var 0) (.cons (.var 6) .nil)))) (.tp (.cons (.nm 8) (.cons (.nm 9) (.cons (.nm 10) .nil)))) (.cons (.if_ (.or (.cmp .Is (.idx (.var 0) (.cst (.int 5))) (.cst .non)) (.cmp .LtE (.idx (.var 10) (.cst (.int 0))) (.idx (.var 0) (.cst (.int 5))))) (.cons (.asg (.nm 11) (.call 41 (.cons (.var 10) .nil)))
  (.cons (.if_ (.and (.cmp .In (.var 11) (.lst (.cons (.cst (.str [97, 115, 116, 114, 97, 121])) (.cons (.cst (.str [108, 111, 115, 116])) .nil)))) (.cmp .NotEq (.var 11) (.call 41 (.cons (.var 6) .nil)))) (.cons (.asg (.nm 12) (.me .get (.dss [[116, 105, 109, 101], [120]] (.cons (.cst (.str [116, 105, 109, 101])) (.cons (.cst (.str [109, 101, 97, 110, 116])) .nil))) (.cons (.var 9) (.cons (.cst (.str [111, 116, 104, 101, 114])) .nil))))
  (.cons (.sub (.var 2) (.tup (.cons (.var 11) (.cons (.var 12) .nil))) (.bi .int (.cons (.me .get (.var 2) (.cons (.tup (.cons (.var 11) (.cons (.var 12) .nil))) (.cons (.var 3) .nil))) .nil)))
  .nil)) .nil)
  (.cons (.if_ (.cmp .NotIn (.var 10) (.var 4)) (.cons (.sub (.var 4) (.var 10) (.cst (.bl true)))
  (.cons (.exp (.me .append (.var 7) (.cons (.var 10) .nil)))
  .nil)) .nil)
  .nil))) .nil)
  .nil))
  .nil))
  (.cons (.asg (.nm 5) (.var 7))
  .nil))))
  (.cons (.ret (.var 2))
  .nil))))
/-- _law_barred -/
def ir_43 : ISs := (.cons (.ret (.cmp .NotIn (.var 1) (.call 42 (.cons (.var 0) .nil))))
  .nil)
/-- law -/
def ir_44 : ISs := (.cons (.for_ (.rng (.cons (.bi .max (.cons (.cst (.int 1)) (.cons (.bi .min (.cons (.cst (.int 2)) (.cons (.bin .Add (.bi .len (.cons (.var 0) .nil)) (.cst (.int 1))) .nil))) .nil))) .nil)) (.nm 1) (.cons (.asg (.nm 2) (.call 29 (.cons (.var 0) (.cons (.var 1) .nil))))
  (.cons (.asg (.nm 3) (.call 32 (.cons (.var 2) (.cons (.cst (.bl true)) .nil))))
  (.cons (.asg (.nm 4) (.lst (.cons (.tup (.cons (.cst (.str [97, 115, 116, 114, 97, 121])) (.cons (.cst (.str [111, 116, 104, 101, 114])) .nil))) (.cons (.tup (.cons (.cst (.str [97, 115, 116, 114, 97, 121])) (.cons (.cst (.str [111, 116, 104, 101, 114])) .nil))) (.cons (.tup (.cons (.cst (.str [97, 115, 116, 114, 97, 121])) (.cons (.cst (.str [109, 101, 97, 110, 116])) .nil))) .nil)))))
  (.cons (.asg (.nm 5) (.call 31 (.cons (.var 2) (.cons (.bin .Add (.var 4) (.lst (.cons (.tup (.cons (.cst (.str [108, 111, 115, 116])) (.cons (.cst (.str [111, 116, 104, 101, 114])) .nil))) (.cons (.tup (.cons (.cst (.str [108, 111, 115, 116])) (.cons (.cst (.str [116, 105, 109, 101])) .nil))) .nil)))) .nil))))
  (.cons (.asg (.nm 6) (.comp (.src (.lst (.cons (.cst (.int 0)) (.cons (.cst (.int 1)) (.cons (.cst (.int 2)) (.cons (.cst (.int 3)) (.cons (.cst .non) .nil))))))) (.nm 7) (.some (.call 43 (.cons (.bin .Add (.tup (.cons (.var 7) .nil)) (.slc (.var 3) (.some (.cst (.int 1))) .none)) (.cons (.var 5) .nil)))) (.var 7) [7]))
  (.cons (.if_ (.cmp .NotEq (.call 26 (.cons (.var 3) (.cons (.idx (.var 5) (.cst (.int 0))) (.cons (.idx (.var 5) (.cst (.int 1))) .nil)))) (.ite (.cmp .NotEq (.var 6) (.lst .nil)) (.tup (.cons (.idx (.var 6) (.cst (.int 0))) .nil)) (.cst .non))) (.cons (.ret (.cst (.bl false)))
  .nil) .nil)
  (.cons (.asg (.nm 6) (.comp (.src (.lst (.cons (.cst (.int 1)) (.cons (.cst (.int 2)) (.cons (.cst (.int 3)) .nil))))) (.nm 7) (.some (.call 43 (.cons (.bin .Add (.bin .Add (.slc (.var 3) .none (.some (.cst (.int 4)))) (.tup (.cons (.var 7) .nil))) (.slc (.var 3) (.some (.cst (.int 5))) .none)) (.cons (.var 5) .nil)))) (.var 7) [7]))
  (.cons (.if_ (.cmp .NotEq (.call 27 (.cons (.var 3) (.cons (.idx (.var 5) (.cst (.int 0))) (.cons (.idx (.var 5) (.cst (.int 1))) .nil)))) (.ite (.cmp .NotEq (.var 6) (.lst .nil)) (.idx (.var 6) (.cst (.int 0))) (.cst .non))) (.cons (.ret (.cst (.bl false)))
  .nil) .nil)
  (.cons (.asg (.nm 6) (.comp (.src (.lst (.cons (.cst (.int 0)) (.cons (.cst (.int 1)) (.cons (.cst (.int 2)) (.cons (.cst (.int 3)) (.cons (.cst (.int 4)) (.cons (.cst .non) .nil)))))))) (.nm 7) (.some (.call 43 (.cons (.bin .Add (.bin .Add (.slc (.var 3) .none (.some (.cst (.int 5)))) (.tup (.cons (.var 7) .nil))) (.slc (.var 3) (.some (.cst (.int 6))) .none)) (.cons (.var 5) .nil)))) (.var 7) [7]))
  (.cons (.if_ (.cmp .NotEq (.call 28 (.cons (.var 3) (.cons (.idx (.var 5) (.cst (.int 0))) (.cons (.idx (.var 5) (.cst (.int 1))) .nil)))) (.ite (.cmp .NotEq (.var 6) (.lst .nil)) (.tup (.cons (.idx (.var 6) (.cst (.int (-1)))) .nil)) (.cst .non))) (.cons (.ret (.cst (.bl false)))
  .nil) .nil)
  .nil)))))))))))
  (.cons (.ret (.cst (.bl true)))
  .nil))

def fd_0 : FDef := ⟨"is_integer", top 26, ps_0, N_0, [], ir_0⟩
theorem ok_0 : DefOk gm fd_0 := ⟨⟨by kernel_rfl, by kernel_rfl, by kernel_rfl, by decide +kernel, by kernel_rfl, by decide +kernel, by decide +kernel⟩, ⟨60, by kernel_rfl⟩, fun F => F.bindsN fun _ _ _ _ _ _ us hl => match us, hl with | [_, _, _], _ => by kernel_rfl⟩
def fd_1 : FDef := ⟨"fits", top 27, ps_1, N_1, [], ir_1⟩
theorem ok_1 : DefOk gm fd_1 := ⟨⟨by kernel_rfl, by kernel_rfl, by kernel_rfl, by decide +kernel, by kernel_rfl, by decide +kernel, by decide +kernel⟩, ⟨60, by kernel_rfl⟩, fun F => F.bindsN fun _ _ _ _ _ _ us hl => match us, hl with | [_, _], _ => by kernel_rfl⟩
def fd_2 : FDef := ⟨"is_rule", top 28, ps_2, N_2, [], ir_2⟩
theorem ok_2 : DefOk gm fd_2 := ⟨⟨by kernel_rfl, by kernel_rfl, by kernel_rfl, by decide +kernel, by kernel_rfl, by decide +kernel, by decide +kernel⟩, ⟨60, by kernel_rfl⟩, fun F => F.bindsN fun _ _ _ _ _ _ us hl => match us, hl with | [_], _ => by kernel_rfl⟩
def fd_3 : FDef := ⟨"with_part", top 29, ps_3, N_3, [], ir_3⟩
theorem ok_3 : DefOk gm fd_3 := ⟨⟨by kernel_rfl, by kernel_rfl, by kernel_rfl, by decide +kernel, by kernel_rfl, by decide +kernel, by decide +kernel⟩, ⟨60, by kernel_rfl⟩, fun F => F.bindsN fun _ _ _ _ _ _ us hl => match us, hl with | [_, _, _], _ => by kernel_rfl⟩
def fd_4 : FDef := ⟨"need_rule", top 30, ps_4, N_4, [], ir_4⟩
theorem ok_4 : DefOk gm fd_4 := ⟨⟨by kernel_rfl, by kernel_rfl, by kernel_rfl, by decide +kernel, by kernel_rfl, by decide +kernel, by decide +kernel⟩, ⟨60, by kernel_rfl⟩, fun F => F.bindsN fun _ _ _ _ _ _ us hl => match us, hl with | [_], _ => by kernel_rfl⟩
def fd_5 : FDef := ⟨"need_threat", top 31, ps_5, N_5, [], ir_5⟩
theorem ok_5 : DefOk gm fd_5 := ⟨⟨by kernel_rfl, by kernel_rfl, by kernel_rfl, by decide +kernel, by kernel_rfl, by decide +kernel, by decide +kernel⟩, ⟨60, by kernel_rfl⟩, fun F => F.bindsN fun _ _ _ _ _ _ us hl => match us, hl with | [_, _], _ => by kernel_rfl⟩
def fd_6 : FDef := ⟨"first_scene", top 40, ps_6, N_6, [], ir_6⟩
theorem ok_6 : DefOk gm fd_6 := ⟨⟨by kernel_rfl, by kernel_rfl, by kernel_rfl, by decide +kernel, by kernel_rfl, by decide +kernel, by decide +kernel⟩, ⟨60, by kernel_rfl⟩, fun F => F.bindsN fun _ _ _ _ _ _ us hl => match us, hl with | [], _ => by kernel_rfl⟩
def fd_7 : FDef := ⟨"oldest", top 41, ps_7, N_7, [], ir_7⟩
theorem ok_7 : DefOk gm fd_7 := ⟨⟨by kernel_rfl, by kernel_rfl, by kernel_rfl, by decide +kernel, by kernel_rfl, by decide +kernel, by decide +kernel⟩, ⟨60, by kernel_rfl⟩, fun F => F.bindsN fun _ _ _ _ _ _ us hl => match us, hl with | [_], _ => by kernel_rfl⟩
def fd_8 : FDef := ⟨"is_fine", top 42, ps_8, N_8, [], ir_8⟩
theorem ok_8 : DefOk gm fd_8 := ⟨⟨by kernel_rfl, by kernel_rfl, by kernel_rfl, by decide +kernel, by kernel_rfl, by decide +kernel, by decide +kernel⟩, ⟨60, by kernel_rfl⟩, fun F => F.bindsN fun _ _ _ _ _ _ us hl => match us, hl with | [_, _], _ => by kernel_rfl⟩
def fd_9 : FDef := ⟨"may_come", top 43, ps_9, N_9, [], ir_9⟩
theorem ok_9 : DefOk gm fd_9 := ⟨⟨by kernel_rfl, by kernel_rfl, by kernel_rfl, by decide +kernel, by kernel_rfl, by decide +kernel, by decide +kernel⟩, ⟨60, by kernel_rfl⟩, fun F => F.bindsN fun _ _ _ _ _ _ us hl => match us, hl with | [_, _, _, _], _ => by kernel_rfl⟩
def fd_10 : FDef := ⟨"cut_at", top 44, ps_10, N_10, [], ir_10⟩
theorem ok_10 : DefOk gm fd_10 := ⟨⟨by kernel_rfl, by kernel_rfl, by kernel_rfl, by decide +kernel, by kernel_rfl, by decide +kernel, by decide +kernel⟩, ⟨60, by kernel_rfl⟩, fun F => F.bindsN fun _ _ _ _ _ _ us hl => match us, hl with | [_, _, _], _ => by kernel_rfl⟩
def fd_11 : FDef := ⟨"come_at", top 45, ps_11, N_11, [], ir_11⟩
theorem ok_11 : DefOk gm fd_11 := ⟨⟨by kernel_rfl, by kernel_rfl, by kernel_rfl, by decide +kernel, by kernel_rfl, by decide +kernel, by decide +kernel⟩, ⟨60, by kernel_rfl⟩, fun F => F.bindsN fun _ _ _ _ _ _ us hl => match us, hl with | [_, _, _, _, _], _ => by kernel_rfl⟩
def fd_12 : FDef := ⟨"renamed", top 46, ps_12, N_12, [], ir_12⟩
theorem ok_12 : DefOk gm fd_12 := ⟨⟨by kernel_rfl, by kernel_rfl, by kernel_rfl, by decide +kernel, by kernel_rfl, by decide +kernel, by decide +kernel⟩, ⟨60, by kernel_rfl⟩, fun F => F.bindsN fun _ _ _ _ _ _ us hl => match us, hl with | [_, _], _ => by kernel_rfl⟩
def fd_13 : FDef := ⟨"aged", top 47, ps_13, N_13, [], ir_13⟩
theorem ok_13 : DefOk gm fd_13 := ⟨⟨by kernel_rfl, by kernel_rfl, by kernel_rfl, by decide +kernel, by kernel_rfl, by decide +kernel, by decide +kernel⟩, ⟨60, by kernel_rfl⟩, fun F => F.bindsN fun _ _ _ _ _ _ us hl => match us, hl with | [_, _], _ => by kernel_rfl⟩
def fd_14 : FDef := ⟨"comings", top 48, ps_14, N_14, [], ir_14⟩
theorem ok_14 : DefOk gm fd_14 := ⟨⟨by kernel_rfl, by kernel_rfl, by kernel_rfl, by decide +kernel, by kernel_rfl, by decide +kernel, by decide +kernel⟩, ⟨60, by kernel_rfl⟩, fun F => F.bindsN fun _ _ _ _ _ _ us hl => match us, hl with | [_, _], _ => by kernel_rfl⟩
def fd_15 : FDef := ⟨"leavings", top 49, ps_15, N_15, [], ir_15⟩
theorem ok_15 : DefOk gm fd_15 := ⟨⟨by kernel_rfl, by kernel_rfl, by kernel_rfl, by decide +kernel, by kernel_rfl, by decide +kernel, by decide +kernel⟩, ⟨60, by kernel_rfl⟩, fun F => F.bindsN fun _ _ _ _ _ _ us hl => match us, hl with | [_, _], _ => by kernel_rfl⟩
def fd_16 : FDef := ⟨"copies", top 50, ps_16, N_16, [], ir_16⟩
theorem ok_16 : DefOk gm fd_16 := ⟨⟨by kernel_rfl, by kernel_rfl, by kernel_rfl, by decide +kernel, by kernel_rfl, by decide +kernel, by decide +kernel⟩, ⟨60, by kernel_rfl⟩, fun F => F.bindsN fun _ _ _ _ _ _ us hl => match us, hl with | [_, _], _ => by kernel_rfl⟩
def fd_17 : FDef := ⟨"steps_of", top 51, ps_17, N_17, [], ir_17⟩
theorem ok_17 : DefOk gm fd_17 := ⟨⟨by kernel_rfl, by kernel_rfl, by kernel_rfl, by decide +kernel, by kernel_rfl, by decide +kernel, by decide +kernel⟩, ⟨60, by kernel_rfl⟩, fun F => F.bindsN fun _ _ _ _ _ _ us hl => match us, hl with | [_, _], _ => by kernel_rfl⟩
def fd_18 : FDef := ⟨"end_of", top 52, ps_18, N_18, [], ir_18⟩
theorem ok_18 : DefOk gm fd_18 := ⟨⟨by kernel_rfl, by kernel_rfl, by kernel_rfl, by decide +kernel, by kernel_rfl, by decide +kernel, by decide +kernel⟩, ⟨60, by kernel_rfl⟩, fun F => F.bindsN fun _ _ _ _ _ _ us hl => match us, hl with | [_], _ => by kernel_rfl⟩
def fd_19 : FDef := ⟨"status", top 54, ps_19, N_19, [], ir_19⟩
theorem ok_19 : DefOk gm fd_19 := ⟨⟨by kernel_rfl, by kernel_rfl, by kernel_rfl, by decide +kernel, by kernel_rfl, by decide +kernel, by decide +kernel⟩, ⟨60, by kernel_rfl⟩, fun F => F.bindsN fun _ _ _ _ _ _ us hl => match us, hl with | [_], _ => by kernel_rfl⟩
def fd_20 : FDef := ⟨"doer_of", top 55, ps_20, N_20, [], ir_20⟩
theorem ok_20 : DefOk gm fd_20 := ⟨⟨by kernel_rfl, by kernel_rfl, by kernel_rfl, by decide +kernel, by kernel_rfl, by decide +kernel, by decide +kernel⟩, ⟨60, by kernel_rfl⟩, fun F => F.bindsN fun _ _ _ _ _ _ us hl => match us, hl with | [_, _], _ => by kernel_rfl⟩
def fd_21 : FDef := ⟨"all_scenes", top 56, ps_21, N_21, [], ir_21⟩
theorem ok_21 : DefOk gm fd_21 := ⟨⟨by kernel_rfl, by kernel_rfl, by kernel_rfl, by decide +kernel, by kernel_rfl, by decide +kernel, by decide +kernel⟩, ⟨60, by kernel_rfl⟩, fun F => F.bindsN fun _ _ _ _ _ _ us hl => match us, hl with | [_], _ => by kernel_rfl⟩
def fd_22 : FDef := ⟨"way_to", top 57, ps_22, N_22, [], ir_22⟩
theorem ok_22 : DefOk gm fd_22 := ⟨⟨by kernel_rfl, by kernel_rfl, by kernel_rfl, by decide +kernel, by kernel_rfl, by decide +kernel, by decide +kernel⟩, ⟨60, by kernel_rfl⟩, fun F => F.bindsN fun _ _ _ _ _ _ us hl => match us, hl with | [_, _], _ => by kernel_rfl⟩
def fd_23 : FDef := ⟨"found_harms", top 58, ps_23, N_23, [], ir_23⟩
theorem ok_23 : DefOk gm fd_23 := ⟨⟨by kernel_rfl, by kernel_rfl, by kernel_rfl, by decide +kernel, by kernel_rfl, by decide +kernel, by decide +kernel⟩, ⟨60, by kernel_rfl⟩, fun F => F.bindsN fun _ _ _ _ _ _ us hl => match us, hl with | [_], _ => by kernel_rfl⟩
def fd_24 : FDef := ⟨"is_barred", top 60, ps_24, N_24, [], ir_24⟩
theorem ok_24 : DefOk gm fd_24 := ⟨⟨by kernel_rfl, by kernel_rfl, by kernel_rfl, by decide +kernel, by kernel_rfl, by decide +kernel, by decide +kernel⟩, ⟨60, by kernel_rfl⟩, fun F => F.bindsN fun _ _ _ _ _ _ us hl => match us, hl with | [_, _, _], _ => by kernel_rfl⟩
def fd_25 : FDef := ⟨"need_all", top 61, ps_25, N_25, [], ir_25⟩
theorem ok_25 : DefOk gm fd_25 := ⟨⟨by kernel_rfl, by kernel_rfl, by kernel_rfl, by decide +kernel, by kernel_rfl, by decide +kernel, by decide +kernel⟩, ⟨60, by kernel_rfl⟩, fun F => F.bindsN fun _ _ _ _ _ _ us hl => match us, hl with | [_, _, _], _ => by kernel_rfl⟩
def fd_26 : FDef := ⟨"least_wait", top 62, ps_26, N_26, [], ir_26⟩
theorem ok_26 : DefOk gm fd_26 := ⟨⟨by kernel_rfl, by kernel_rfl, by kernel_rfl, by decide +kernel, by kernel_rfl, by decide +kernel, by decide +kernel⟩, ⟨60, by kernel_rfl⟩, fun F => F.bindsN fun _ _ _ _ _ _ us hl => match us, hl with | [_, _, _], _ => by kernel_rfl⟩
def fd_27 : FDef := ⟨"least_marks", top 63, ps_27, N_27, [], ir_27⟩
theorem ok_27 : DefOk gm fd_27 := ⟨⟨by kernel_rfl, by kernel_rfl, by kernel_rfl, by decide +kernel, by kernel_rfl, by decide +kernel, by decide +kernel⟩, ⟨60, by kernel_rfl⟩, fun F => F.bindsN fun _ _ _ _ _ _ us hl => match us, hl with | [_, _, _], _ => by kernel_rfl⟩
def fd_28 : FDef := ⟨"longest_life", top 64, ps_28, N_28, [], ir_28⟩
theorem ok_28 : DefOk gm fd_28 := ⟨⟨by kernel_rfl, by kernel_rfl, by kernel_rfl, by decide +kernel, by kernel_rfl, by decide +kernel, by decide +kernel⟩, ⟨60, by kernel_rfl⟩, fun F => F.bindsN fun _ _ _ _ _ _ us hl => match us, hl with | [_, _, _], _ => by kernel_rfl⟩
def fd_29 : FDef := ⟨"_law_bag", top 66, ps_29, N_29, [], ir_29⟩
theorem ok_29 : DefOk gm fd_29 := ⟨⟨by kernel_rfl, by kernel_rfl, by kernel_rfl, by decide +kernel, by kernel_rfl, by decide +kernel, by decide +kernel⟩, ⟨60, by kernel_rfl⟩, fun F => F.bindsN fun _ _ _ _ _ _ us hl => match us, hl with | [_, _], _ => by kernel_rfl⟩
def fd_30 : FDef := ⟨"_law_take", top 67, ps_30, N_30, [], ir_30⟩
theorem ok_30 : DefOk gm fd_30 := ⟨⟨by kernel_rfl, by kernel_rfl, by kernel_rfl, by decide +kernel, by kernel_rfl, by decide +kernel, by decide +kernel⟩, ⟨60, by kernel_rfl⟩, fun F => F.bindsN fun _ _ _ _ _ _ us hl => match us, hl with | [_, _], _ => by kernel_rfl⟩
def fd_31 : FDef := ⟨"_law_of", top 68, ps_31, N_31, [], ir_31⟩
theorem ok_31 : DefOk gm fd_31 := ⟨⟨by kernel_rfl, by kernel_rfl, by kernel_rfl, by decide +kernel, by kernel_rfl, by decide +kernel, by decide +kernel⟩, ⟨60, by kernel_rfl⟩, fun F => F.bindsN fun _ _ _ _ _ _ us hl => match us, hl with | [_, _], _ => by kernel_rfl⟩
def fd_32 : FDef := ⟨"_law_rule", top 69, ps_32, N_32, [], ir_32⟩
theorem ok_32 : DefOk gm fd_32 := ⟨⟨by kernel_rfl, by kernel_rfl, by kernel_rfl, by decide +kernel, by kernel_rfl, by decide +kernel, by decide +kernel⟩, ⟨60, by kernel_rfl⟩, fun F => F.bindsN fun _ _ _ _ _ _ us hl => match us, hl with | [_, _], _ => by kernel_rfl⟩
def fd_33 : FDef := ⟨"_law_top", top 70, ps_33, N_33, [], ir_33⟩
theorem ok_33 : DefOk gm fd_33 := ⟨⟨by kernel_rfl, by kernel_rfl, by kernel_rfl, by decide +kernel, by kernel_rfl, by decide +kernel, by decide +kernel⟩, ⟨60, by kernel_rfl⟩, fun F => F.bindsN fun _ _ _ _ _ _ us hl => match us, hl with | [_], _ => by kernel_rfl⟩
def fd_34 : FDef := ⟨"_law_fine", top 71, ps_34, N_34, [], ir_34⟩
theorem ok_34 : DefOk gm fd_34 := ⟨⟨by kernel_rfl, by kernel_rfl, by kernel_rfl, by decide +kernel, by kernel_rfl, by decide +kernel, by decide +kernel⟩, ⟨60, by kernel_rfl⟩, fun F => F.bindsN fun _ _ _ _ _ _ us hl => match us, hl with | [_, _], _ => by kernel_rfl⟩
def fd_35 : FDef := ⟨"_law_may", top 72, ps_35, N_35, [], ir_35⟩
theorem ok_35 : DefOk gm fd_35 := ⟨⟨by kernel_rfl, by kernel_rfl, by kernel_rfl, by decide +kernel, by kernel_rfl, by decide +kernel, by decide +kernel⟩, ⟨60, by kernel_rfl⟩, fun F => F.bindsN fun _ _ _ _ _ _ us hl => match us, hl with | [_, _, _, _], _ => by kernel_rfl⟩
def fd_36 : FDef := ⟨"_law_cut", top 73, ps_36, N_36, [], ir_36⟩
theorem ok_36 : DefOk gm fd_36 := ⟨⟨by kernel_rfl, by kernel_rfl, by kernel_rfl, by decide +kernel, by kernel_rfl, by decide +kernel, by decide +kernel⟩, ⟨60, by kernel_rfl⟩, fun F => F.bindsN fun _ _ _ _ _ _ us hl => match us, hl with | [_, _, _], _ => by kernel_rfl⟩
def fd_37 : FDef := ⟨"_law_come_in", top 74, ps_37, N_37, [], ir_37⟩
theorem ok_37 : DefOk gm fd_37 := ⟨⟨by kernel_rfl, by kernel_rfl, by kernel_rfl, by decide +kernel, by kernel_rfl, by decide +kernel, by decide +kernel⟩, ⟨60, by kernel_rfl⟩, fun F => F.bindsN fun _ _ _ _ _ _ us hl => match us, hl with | [_, _, _, _, _], _ => by kernel_rfl⟩
def fd_38 : FDef := ⟨"_law_new_name", top 75, ps_38, N_38, [], ir_38⟩
theorem ok_38 : DefOk gm fd_38 := ⟨⟨by kernel_rfl, by kernel_rfl, by kernel_rfl, by decide +kernel, by kernel_rfl, by decide +kernel, by decide +kernel⟩, ⟨60, by kernel_rfl⟩, fun F => F.bindsN fun _ _ _ _ _ _ us hl => match us, hl with | [_, _], _ => by kernel_rfl⟩
def fd_39 : FDef := ⟨"_law_older", top 76, ps_39, N_39, [], ir_39⟩
theorem ok_39 : DefOk gm fd_39 := ⟨⟨by kernel_rfl, by kernel_rfl, by kernel_rfl, by decide +kernel, by kernel_rfl, by decide +kernel, by decide +kernel⟩, ⟨60, by kernel_rfl⟩, fun F => F.bindsN fun _ _ _ _ _ _ us hl => match us, hl with | [_, _], _ => by kernel_rfl⟩
def fd_40 : FDef := ⟨"_law_moves", top 77, ps_40, N_40, [], ir_40⟩
theorem ok_40 : DefOk gm fd_40 := ⟨⟨by kernel_rfl, by kernel_rfl, by kernel_rfl, by decide +kernel, by kernel_rfl, by decide +kernel, by decide +kernel⟩, ⟨60, by kernel_rfl⟩, fun F => F.bindsN fun _ _ _ _ _ _ us hl => match us, hl with | [_, _], _ => by kernel_rfl⟩
def fd_41 : FDef := ⟨"_law_stands_so", top 78, ps_41, N_41, [], ir_41⟩
theorem ok_41 : DefOk gm fd_41 := ⟨⟨by kernel_rfl, by kernel_rfl, by kernel_rfl, by decide +kernel, by kernel_rfl, by decide +kernel, by decide +kernel⟩, ⟨60, by kernel_rfl⟩, fun F => F.bindsN fun _ _ _ _ _ _ us hl => match us, hl with | [_], _ => by kernel_rfl⟩
def fd_42 : FDef := ⟨"_law_threats", top 79, ps_42, N_42, [], ir_42⟩
theorem ok_42 : DefOk gm fd_42 := ⟨⟨by kernel_rfl, by kernel_rfl, by kernel_rfl, by decide +kernel, by kernel_rfl, by decide +kernel, by decide +kernel⟩, ⟨60, by kernel_rfl⟩, fun F => F.bindsN fun _ _ _ _ _ _ us hl => match us, hl with | [_], _ => by kernel_rfl⟩
def fd_43 : FDef := ⟨"_law_barred", top 80, ps_43, N_43, [], ir_43⟩
theorem ok_43 : DefOk gm fd_43 := ⟨⟨by kernel_rfl, by kernel_rfl, by kernel_rfl, by decide +kernel, by kernel_rfl, by decide +kernel, by decide +kernel⟩, ⟨60, by kernel_rfl⟩, fun F => F.bindsN fun _ _ _ _ _ _ us hl => match us, hl with | [_, _], _ => by kernel_rfl⟩
def fd_44 : FDef := ⟨"law", top 81, ps_44, N_44, [], ir_44⟩
theorem ok_44 : DefOk gm fd_44 := ⟨⟨by kernel_rfl, by kernel_rfl, by kernel_rfl, by decide +kernel, by kernel_rfl, by decide +kernel, by decide +kernel⟩, ⟨60, by kernel_rfl⟩, fun F => F.bindsN fun _ _ _ _ _ _ us hl => match us, hl with | [_], _ => by kernel_rfl⟩
def defs : List FDef := [fd_0, fd_1, fd_2, fd_3, fd_4, fd_5, fd_6, fd_7, fd_8, fd_9, fd_10, fd_11, fd_12, fd_13, fd_14, fd_15, fd_16, fd_17, fd_18, fd_19, fd_20, fd_21, fd_22, fd_23, fd_24, fd_25, fd_26, fd_27, fd_28, fd_29, fd_30, fd_31, fd_32, fd_33, fd_34, fd_35, fd_36, fd_37, fd_38, fd_39, fd_40, fd_41, fd_42, fd_43, fd_44]
theorem okAll : ∀ d ∈ defs, DefOk gm d := by
  intro d hd
  simp only [defs, List.mem_cons, List.not_mem_nil, or_false] at hd
  rcases hd with rfl | rfl | rfl | rfl | rfl | rfl | rfl | rfl | rfl | rfl | rfl | rfl | rfl | rfl | rfl | rfl | rfl | rfl | rfl | rfl | rfl | rfl | rfl | rfl | rfl | rfl | rfl | rfl | rfl | rfl | rfl | rfl | rfl | rfl | rfl | rfl | rfl | rfl | rfl | rfl | rfl | rfl | rfl | rfl | rfl
  · exact ok_0
  · exact ok_1
  · exact ok_2
  · exact ok_3
  · exact ok_4
  · exact ok_5
  · exact ok_6
  · exact ok_7
  · exact ok_8
  · exact ok_9
  · exact ok_10
  · exact ok_11
  · exact ok_12
  · exact ok_13
  · exact ok_14
  · exact ok_15
  · exact ok_16
  · exact ok_17
  · exact ok_18
  · exact ok_19
  · exact ok_20
  · exact ok_21
  · exact ok_22
  · exact ok_23
  · exact ok_24
  · exact ok_25
  · exact ok_26
  · exact ok_27
  · exact ok_28
  · exact ok_29
  · exact ok_30
  · exact ok_31
  · exact ok_32
  · exact ok_33
  · exact ok_34
  · exact ok_35
  · exact ok_36
  · exact ok_37
  · exact ok_38
  · exact ok_39
  · exact ok_40
  · exact ok_41
  · exact ok_42
  · exact ok_43
  · exact ok_44
end NW11
end
/-! #### H11 -/
section
set_option Elab.async false
set_option linter.all false
set_option maxRecDepth 100000
set_option maxHeartbeats 0
namespace NW11
open PySem PySem.Spec PyProof.Rows L2 RI
def loose_0 : List PySem.Str := ["__name__", "HouseError", "InvalidRule", "InvalidHarm", "InvalidDoer", "WAIT", "FORWARD", "BARS", "HOPS", "MARKS", "LIFE", "COPIES", "PASSING", "RULE_PARTS", "NO", "SAME", "ANEW", "KEPT", "COUNTED", "ASTRAY", "LOST", "MEANT", "OTHER", "TIME", "CHOICES", "is_integer", "fits", "is_rule", "with_part", "need_rule"]
def loose_1 : List PySem.Str := ["need_threat", "MINE", "THEIRS", "OUT", "NEW", "NONE", "NEXT", "OFF", "first_scene", "oldest", "is_fine", "may_come", "cut_at", "come_at", "renamed", "aged", "comings", "leavings", "copies", "steps_of", "end_of", "status", "doer_of", "all_scenes", "way_to", "found_harms", "is_barred", "need_all", "least_wait", "least_marks"]
def loose_2 : List PySem.Str := ["longest_life", "_law_bag", "_law_take", "_law_of", "_law_rule", "_law_top", "_law_fine", "_law_may", "_law_cut", "_law_come_in", "_law_new_name", "_law_older", "_law_moves", "_law_stands_so", "_law_threats", "_law_barred"]
def loose : List PySem.Str := loose_0 ++ (loose_1 ++ (loose_2))
abbrev R : PySem.W.OpenRow := PySem.W.OpenLaw.row PySem.Challenge.rw_nameswait_k11_whole_least_waits_marks_an
abbrev hk : PySem.W.Hook := hookE 4 (defs.map toDefD) (tabsOf gm) (exK gm)
def ob (s : PySem.W.SharedT) : He.AlT × Bool := obsE (defs.map toDefD) (tabsOf gm) (exK gm) (He.frG (HandSHeadRun.getT s) (He.asD (HandSHeadRun.getT s) 4))
theorem ob_eq (s : PySem.W.SharedT) : ob s = hk.obs s.abs := obsE_eq (HandSHeadRun.getT_eq s)
theorem runF (w : World) : HandSHeadRun.RunEq R (PySem.W.view R.prog [81]) hk ob 6000 loose (w.withFollow "special-get-raises" false) := by
  intro os
  kernel_rfl
theorem runT (w : World) : HandSHeadRun.RunEq R (PySem.W.view R.prog [81]) hk ob 6000 loose (w.withFollow "special-get-raises" true) := by
  intro os
  kernel_rfl
theorem run_ (w : World) : HandSHeadRun.RunEq R (PySem.W.view R.prog [81]) hk ob 6000 loose w :=
  PySem.W.byRow2 "special-get-raises" (P := fun w => HandSHeadRun.RunEq R _ hk ob _ loose w) runF runT w
end NW11
open PySem PySem.W PySem.Calls PyProof.Rows
theorem NW11.holds_of (hlaw : ∀ ns : List Int, ns.length ≤ 63 → ∃ M', RI.run NW11.defs 12 44 [.rol (ns.map .int)] [] = some (.bl true, M')) : PySem.Challenge.rw_nameswait_k11_whole_least_waits_marks_an.Holds := by
  w_on; o_law
  refine HandSHeadRun.head_any (r := OpenLaw.row PySem.Challenge.rw_nameswait_k11_whole_least_waits_marks_an) (q := view (OpenLaw.row PySem.Challenge.rw_nameswait_k11_whole_least_waits_marks_an).prog [81]) (H := NW11.hk) (ob := NW11.ob) (M := 6000) (loose := NW11.loose) (d := HandSHeadRun.topDef (OpenLaw.row PySem.Challenge.rw_nameswait_k11_whole_least_waits_marks_an).prog 81) (kwd := []) NW11.ob_eq
    (by kernel_rfl) (fun s => by kernel_rfl) NW11.run_ (by kernel_rfl) (by kernel_rfl) (by kernel_rfl) (by rfl) (by first | assumption | decide +kernel) (by decide +kernel) ⟨rfl, rfl, rfl, rfl, rfl, by decide +kernel⟩ ?hw ?hc
  case hw => w_witness2
  case hc =>
    refine L2.walk_ofE (l := PySem.Challenge.rw_nameswait_k11_whole_least_waits_marks_an) (n := 63) (k := 12) (x := "_law_script") (CX := L2.CX0) rfl (by decide) (by kernel_rfl) ⟨rfl, by decide, by decide⟩ ?F (fun _ _ _ _ z => z)
    intro w mg fa h Y G hmg0
    obtain ⟨K, KX, c, ex⟩ := Y
    have hmg : mg ("law" : PySem.Str) = some (.ref fa) := by
      have e : (HandSHeadRun.topDef (OpenLaw.row PySem.Challenge.rw_nameswait_k11_whole_least_waits_marks_an).prog 81).name = ("law" : PySem.Str) := by kernel_rfl
      rw [← e]
      exact hmg0
    have md : RI.Md NW11.gm NW11.defs w K mg := RI.md_of KX G c ex (by kernel_rfl)
    exact RI.law_end (P := (PySem.Challenge.rw_nameswait_k11_whole_least_waits_marks_an).prog) KX md NW11.okAll (x := "law") (i := 44) (d := NW11.fd_44) (by kernel_rfl) (by kernel_rfl) rfl hmg (fun F s u => (L2.FunD.bindsA (ps := ["_law_script"]) F fun _ _ _ _ _ _ us hl => match us, hl with | [_], _ => by kernel_rfl) s [u] rfl) hlaw
end
/-! #### MA -/
section
set_option Elab.async false
set_option linter.all false
set_option maxRecDepth 100000
set_option maxHeartbeats 1000000
/-! Part MA: lemmas by which simp computes terms. -/
namespace RI
open PySem
section
variable {M M1 M' : Sto} {env e : En} {d a b c : D} {i j n : Nat}
@[simp] theorem bnd_s {α β : Type} {x : α} {k : α → Sto → Option β} : bnd (some (x, M)) k = k x M := rfl
@[simp] theorem bnd_n {α β : Type} {k : α → Sto → Option β} : bnd none k = none := rfl
@[congr] theorem bnd_congr {α β : Type} {o o' : Option (α × Sto)} {k : α → Sto → Option β} (h : o = o') : bnd o k = bnd o' k := by rw [h]
def getK (o : Option (Option D)) (M : Sto) : Option (D × Sto) := match o with
  | some (some d) => some (d, M)
  | _ => none
@[simp] theorem getK_s : getK (some (some d)) M = some (d, M) := rfl
@[simp] theorem eVar_e : eVar i env M = getK env[i]? M := rfl
@[simp] theorem eCst_e : eCst d env M = some (d, M) := rfl
@[simp] theorem eOp_e {r : F2} {f g : EF} : eOp r f g env M = bnd (f env M) fun x M1 => bnd (g env M1) fun y M2 => r x y M2 := rfl
def boolK {α : Type} (x : D) (k : Bool → Option α) : Option α := match x with
  | .bl b => k b
  | _ => none
@[simp] theorem boolK_b {α : Type} {b : Bool} {k : Bool → Option α} : boolK (.bl b) k = k b := rfl
@[simp] theorem eChn_e {r r' : F2} {f g h : EF} : eChn r r' f g h env M = bnd (f env M) fun x M1 => bnd (g env M1) fun y M2 => bnd (r x y M2) fun z M3 => boolK z fun b => if b = true then bnd (h env M3) fun w M4 => r' y w M4 else some (.bl false, M3) := by
  unfold eChn
  congr; funext x M1; congr; funext y M2; congr; funext z M3
  cases z with
  | bl b => cases b <;> rfl
  | _ => rfl
@[simp] theorem eAnd_e {f g : EF} : eAnd f g env M = bnd (f env M) fun x M1 => boolK x fun b => if b = true then g env M1 else some (.bl false, M1) := by
  unfold eAnd
  congr; funext x M1
  cases x with
  | bl b => cases b <;> rfl
  | _ => rfl
@[simp] theorem eOr_e {f g : EF} : eOr f g env M = bnd (f env M) fun x M1 => boolK x fun b => if b = true then some (.bl true, M1) else g env M1 := by
  unfold eOr
  congr; funext x M1
  cases x with
  | bl b => cases b <;> rfl
  | _ => rfl
@[simp] theorem eNot_e {f : EF} : eNot f env M = bnd (f env M) fun x M1 => boolK x fun b => some (.bl (!b), M1) := by
  unfold eNot
  congr
@[simp] theorem bOf_e {f : EF} : bOf f env M = bnd (f env M) fun x M1 => (truD M1 x).map fun b => (b, M1) := rfl
@[simp] theorem truD_b {b : Bool} : truD M (.bl b) = some b := rfl
@[simp] theorem eIte_e {c f g : EF} : eIte c f g env M = bnd (bOf c env M) fun b M1 => if b = true then f env M1 else g env M1 := rfl
@[simp] theorem aNil_e : aNil env M = some ([], M) := rfl
@[simp] theorem aCons_e {f : EF} {g : AF} : aCons f g env M = bnd (f env M) fun x M1 => bnd (g env M1) fun xs M2 => some (x :: xs, M2) := rfl
@[simp] theorem eTup_e {f : AF} : eTup f env M = bnd (f env M) fun xs M1 => if xs.length ≤ 16777216 then some (.tup xs, M1) else none := rfl
@[simp] theorem eLst_e {f : AF} : eLst f env M = bnd (f env M) fun xs M1 => if xs.length ≤ 16777216 then some (.ref M1.length, M1 ++ [.lst xs]) else none := rfl
@[simp] theorem eCall_e {c : FN} {f : AF} : eCall c f env M = bnd (f env M) fun xs M1 => c xs M1 := rfl
@[simp] theorem eIsi_e {t : Ty} {f : EF} : eIsi t f env M = bnd (f env M) fun x M1 => isinD t x M1 := rfl
@[simp] theorem eSlc_e {f : EF} {lo hi : Option EF} : eSlc f lo hi env M = bnd (f env M) fun x M1 => bnd (optF lo env M1) fun l M2 => bnd (optF hi env M2) fun u M3 => slD x l u M3 := rfl
@[simp] theorem optF_n : optF none env M = some (none, M) := rfl
def intK {α : Type} (x : D) (k : Int → Option α) : Option α := match x with
  | .int i => k i
  | _ => none
@[simp] theorem intK_i {α : Type} {b : Int} {k : Int → Option α} : intK (.int b) k = k b := rfl
@[simp] theorem optF_s {f : EF} : optF (some f) env M = bnd (f env M) fun x M1 => intK x fun i => some (some i, M1) := by
  show bnd (f env M) _ = _
  congr
@[simp] theorem eMe_e {m : ME} {f : EF} {g : AF} : eMe m f g env M = bnd (f env M) fun x M1 => if meT m M1 x = true then bnd (g env M1) fun xs M2 => meD m x xs M2 else none := rfl
/-! statements -/
def seqK (o : Option (Fl × Sto)) (g : SF) : Option (Fl × Sto) := match o with
  | some (.nx e, M1) => g e M1
  | o => o
@[congr] theorem seqK_congr {o o' : Option (Fl × Sto)} {g : SF} (h : o = o') : seqK o g = seqK o' g := by rw [h]
@[simp] theorem sSeq_e {f g : SF} : sSeq f g env M = seqK (f env M) g := rfl
@[simp] theorem seqK_nx {g : SF} : seqK (some (.nx e, M)) g = g e M := rfl
@[simp] theorem seqK_rt {g : SF} : seqK (some (.rt d, M)) g = some (.rt d, M) := rfl
@[simp] theorem seqK_ct {g : SF} : seqK (some (.ct e, M)) g = some (.ct e, M) := rfl
@[simp] theorem seqK_bk {g : SF} : seqK (some (.bk e, M)) g = some (.bk e, M) := rfl
@[simp] theorem seqK_n {g : SF} : seqK none g = none := rfl
@[simp] theorem sNil_e : sNil env M = some (.nx env, M) := rfl
@[simp] theorem sRet_e {f : EF} : sRet f env M = bnd (f env M) fun d M1 => some (.rt d, M1) := rfl
@[simp] theorem sRetN_e : sRetN env M = some (.rt .non, M) := rfl
@[simp] theorem sExp_e {f : EF} : sExp f env M = bnd (f env M) fun _ M1 => some (.nx env, M1) := rfl
@[simp] theorem sAsg_e {t : IT} {f : EF} : sAsg t f env M = bnd (f env M) fun d M1 => (dT t d env).map fun e => (.nx e, M1) := rfl
@[simp] theorem sIf_e {c : EF} {f g : SF} : sIf c f g env M = bnd (bOf c env M) fun b M1 => if b = true then f env M1 else g env M1 := rfl
@[simp] theorem sCnt_e : sCnt env M = some (.ct env, M) := rfl
@[simp] theorem sBrk_e : sBrk env M = some (.bk env, M) := rfl
@[simp] theorem sSub_e {o i v : EF} : sSub o i v env M = bnd (v env M) fun x M1 => bnd (o env M1) fun a M2 => bnd (i env M2) fun b M3 => (setD a b x M3).map fun M4 => (.nx env, M4) := rfl
def par2K (env : En) (i j : Nat) (ds : List D) (M : Sto) : Option (Fl × Sto) := match ds with
  | [x, y] => some (.nx ((env.set i (some x)).set j (some y)), M)
  | _ => none
@[simp] theorem sPar2_e {f : AF} : sPar2 i j f env M = bnd (f env M) fun ds M1 => par2K env i j ds M1 := rfl
@[simp] theorem par2K_e : par2K env i j [a, b] M = some (.nx ((env.set i (some a)).set j (some b)), M) := rfl
@[simp] theorem dT_nm : dT (.nm i) d env = some (env.set i (some d)) := by rw [dT]
@[simp] theorem dT_tp {ts : ITs} {ds : List D} : dT (.tp ts) (.tup ds) env = if ds.length = ts.len then dTs ts ds env else none := by rw [dT]
def dTsK (o : Option En) (ts : ITs) (ds : List D) : Option En := match o with
  | some e => dTs ts ds e
  | none => none
@[simp] theorem dTs_nil : dTs .nil [] env = some env := by rw [dTs]
@[simp] theorem dTs_cons {t : IT} {ts : ITs} {ds : List D} : dTs (.cons t ts) (d :: ds) env = dTsK (dT t d env) ts ds := by rw [dTs]; rfl
@[simp] theorem dTsK_s {ts : ITs} {ds : List D} : dTsK (some env) ts ds = dTs ts ds env := rfl
@[simp] theorem len_nil : ITs.len .nil = 0 := rfl
@[simp] theorem len_cons {t : IT} {ts : ITs} : ITs.len (.cons t ts) = ts.len + 1 := rfl
@[simp] theorem sFor_e {it : IF} {t : IT} {body : SF} : sFor it t body env M = bnd (it env M) fun p M1 => forF t body p.1 p.2 env M1 := rfl
/-! data -/
@[simp] theorem ix0 {r : List D} : ixD (.tup (a :: r)) (.int 0) M = some (a, M) := by simp [ixD, seqOf, L2.atI, L2.ixN]
theorem ixP {xs : List D} (h : xs[n]? = some a) : ixD (.tup xs) (.int (n : Nat)) M = some (a, M) := by
  have hl := (List.getElem?_eq_some_iff.mp h).1
  have h1 : (0 : Int) ≤ (n : Nat) := Int.natCast_nonneg n
  have h2 : ((n : Nat) : Int) < (xs.length : Int) := by omega
  simp only [ixD, seqOf, L2.atI, L2.ixN]
  rw [if_pos h1, if_pos h2]
  simp [h]
@[simp] theorem ix1 {r : List D} : ixD (.tup (b :: a :: r)) (.int 1) M = some (a, M) := ixP (n := 1) rfl
@[simp] theorem ix2 {x1 x2 : D} {r : List D} : ixD (.tup (x1 :: x2 :: a :: r)) (.int 2) M = some (a, M) := ixP (n := 2) rfl
@[simp] theorem ix3 {x1 x2 x3 : D} {r : List D} : ixD (.tup (x1 :: x2 :: x3 :: a :: r)) (.int 3) M = some (a, M) := ixP (n := 3) rfl
@[simp] theorem ix4 {x1 x2 x3 x4 : D} {r : List D} : ixD (.tup (x1 :: x2 :: x3 :: x4 :: a :: r)) (.int 4) M = some (a, M) := ixP (n := 4) rfl
@[simp] theorem ix5 {x1 x2 x3 x4 x5 : D} {r : List D} : ixD (.tup (x1 :: x2 :: x3 :: x4 :: x5 :: a :: r)) (.int 5) M = some (a, M) := ixP (n := 5) rfl
@[simp] theorem ix6 {x1 x2 x3 x4 x5 x6 : D} {r : List D} : ixD (.tup (x1 :: x2 :: x3 :: x4 :: x5 :: x6 :: a :: r)) (.int 6) M = some (a, M) := ixP (n := 6) rfl
@[simp] theorem ix7 {x1 x2 x3 x4 x5 x6 x7 : D} {r : List D} : ixD (.tup (x1 :: x2 :: x3 :: x4 :: x5 :: x6 :: x7 :: a :: r)) (.int 7) M = some (a, M) := ixP (n := 7) rfl
theorem ixL {xs : List D} (h : xs.getLast? = some a) : ixD (.tup xs) (.int (-1)) M = some (a, M) := by
  have hne : xs ≠ [] := by intro z; rw [z] at h; simp at h
  have hl : 0 < xs.length := List.length_pos_iff.mpr hne
  rw [List.getLast?_eq_getElem?] at h
  simp only [ixD, seqOf, L2.atI, L2.ixN]
  rw [if_neg (by decide), if_pos (by omega)]
  have e : ((-1 : Int) + (xs.length : Int)).toNat = xs.length - 1 := by omega
  simp [e, h]
@[simp] theorem cmp_is {x : D} : cmpF .Is x .non M = some (.bl (isNon x), M) := rfl
@[simp] theorem cmp_isN {x : D} : cmpF .IsNot x .non M = some (.bl (!isNon x), M) := rfl
@[simp] theorem cmp_lt {i j : Int} : cmpF .Lt (.int i) (.int j) M = some (.bl (decide (i < j)), M) := rfl
@[simp] theorem cmp_le {i j : Int} : cmpF .LtE (.int i) (.int j) M = some (.bl (decide (i ≤ j)), M) := rfl
@[simp] theorem cmp_gt {i j : Int} : cmpF .Gt (.int i) (.int j) M = some (.bl (decide (j < i)), M) := rfl
@[simp] theorem cmp_ge {i j : Int} : cmpF .GtE (.int i) (.int j) M = some (.bl (decide (j ≤ i)), M) := rfl
@[simp] theorem isNon_n : isNon .non = true := rfl
@[simp] theorem isNon_i {i : Int} : isNon (.int i) = false := rfl
@[simp] theorem isNon_s {x : List Nat} : isNon (.str x) = false := rfl
@[simp] theorem isNon_t {x : List D} : isNon (.tup x) = false := rfl
/-- no list of the store -/
def nref : D → Bool
  | .ref _ => false
  | _ => true
theorem eqD_keys {x y : D} (hx : nref x = true) (hy : nref y = true) : eqD x y M = eqD0 x y := by
  have rx : refL M x = none := by cases x <;> first | rfl | cases hx
  have ry : refL M y = none := by cases y <;> first | rfl | cases hy
  unfold eqD eqF
  rw [rx, ry]
theorem nestBeq_text {x y : List Nat} : NestedKey.beq (.text (S x)) (.text (S y)) = decide (x = y) := by
  by_cases h : x = y
  · subst h; simp [NestedKey.beq]
  · have : S x ≠ S y := fun z => h (S_inj z)
    simp [NestedKey.beq, h, this]
@[simp] theorem eq_ss {x y : List Nat} : eqD (.str x) (.str y) M = some (decide (x = y)) := by
  rw [eqD_keys rfl rfl]
  simp [eqD0, keyB, NestedKey.depth, nestBeq_text]
@[simp] theorem eq_ii {x y : Int} : eqD (.int x) (.int y) M = some (decide (x = y)) := by
  rw [eqD_keys rfl rfl]
  simp [eqD0, keyB, NestedKey.depth, NestedKey.beq]
@[simp] theorem eq_si {x : List Nat} {y : Int} : eqD (.str x) (.int y) M = some false := by rw [eqD_keys rfl rfl]; rfl
@[simp] theorem eq_is {x : List Nat} {y : Int} : eqD (.int y) (.str x) M = some false := by rw [eqD_keys rfl rfl]; rfl
@[simp] theorem eq_ns {x : List Nat} : eqD .non (.str x) M = some false := by rw [eqD_keys rfl rfl]; rfl
@[simp] theorem eq_ni {x : Int} : eqD .non (.int x) M = some false := by rw [eqD_keys rfl rfl]; rfl
@[simp] theorem cmp_eq {x y : D} : cmpF .Eq x y M = (eqD x y M).map fun b => (.bl b, M) := rfl
@[simp] theorem cmp_ne {x y : D} : cmpF .NotEq x y M = ((eqD x y M).map not).map fun b => (.bl b, M) := rfl

section
variable (cl : Nat → FN)
@[simp] theorem dE_var : dE cl (.var i) = eVar i := rfl
@[simp] theorem dE_cst : dE cl (.cst d) = eCst d := rfl
@[simp] theorem dE_bin {o : Operator} {x y : IE} : dE cl (.bin o x y) = eOp (binD o) (dE cl x) (dE cl y) := rfl
@[simp] theorem dE_cmp {o : CmpOp} {x y : IE} : dE cl (.cmp o x y) = eOp (cmpF o) (dE cl x) (dE cl y) := rfl
@[simp] theorem dE_chn {o o' : CmpOp} {x y z : IE} : dE cl (.chn o o' x y z) = eChn (cmpF o) (cmpF o') (dE cl x) (dE cl y) (dE cl z) := rfl
@[simp] theorem dE_and {x y : IE} : dE cl (.and x y) = eAnd (dE cl x) (dE cl y) := rfl
@[simp] theorem dE_or {x y : IE} : dE cl (.or x y) = eOr (dE cl x) (dE cl y) := rfl
@[simp] theorem dE_not {x : IE} : dE cl (.not x) = eNot (dE cl x) := rfl
@[simp] theorem dE_ite {x y z : IE} : dE cl (.ite x y z) = eIte (dE cl x) (dE cl y) (dE cl z) := rfl
@[simp] theorem dE_tup {l : IL} : dE cl (.tup l) = eTup (dL cl l) := rfl
@[simp] theorem dE_lst {l : IL} : dE cl (.lst l) = eLst (dL cl l) := rfl
@[simp] theorem dE_dne : dE cl .dne = eDne := rfl
@[simp] theorem dE_dt1 {x y : IE} : dE cl (.dt1 x y) = eDp1 (dE cl x) (dE cl y) := rfl
@[simp] theorem dE_dss {ks : List (List Nat)} {l : IL} : dE cl (.dss ks l) = eDss ks (dL cl l) := rfl
@[simp] theorem dE_idx {x y : IE} : dE cl (.idx x y) = eOp ixD (dE cl x) (dE cl y) := rfl
@[simp] theorem dE_slc {x : IE} {lo hi : IP} : dE cl (.slc x lo hi) = eSlc (dE cl x) (dP cl lo) (dP cl hi) := rfl
@[simp] theorem dE_rev {x : IE} : dE cl (.rev x) = eRev (dE cl x) := rfl
@[simp] theorem dE_call {f : Nat} {l : IL} : dE cl (.call f l) = eCall (cl f) (dL cl l) := rfl
@[simp] theorem dE_bi {f : BI} {l : IL} : dE cl (.bi f l) = eCall (biD f) (dL cl l) := rfl
@[simp] theorem dE_isi {t : Ty} {x : IE} : dE cl (.isi t x) = eIsi t (dE cl x) := rfl
@[simp] theorem dE_me {m : ME} {x : IE} {l : IL} : dE cl (.me m x l) = eMe m (dE cl x) (dL cl l) := rfl
@[simp] theorem dE_tab {kvs : List (List Nat × D)} {x : IE} : dE cl (.tab kvs x) = eTab kvs (dE cl x) := rfl
@[simp] theorem dE_txi {ws : List (List Nat)} {x : IE} : dE cl (.txi ws x) = eTxi ws (dE cl x) := rfl
@[simp] theorem dE_comp {it : II} {t : IT} {q : IO} {x : IE} {own : List Nat} : dE cl (.comp it t q x own) = eComp (dI cl it) t (dO cl q) (dE cl x) own := rfl
@[simp] theorem dL_nil : dL cl .nil = aNil := rfl
@[simp] theorem dL_cons {x : IE} {l : IL} : dL cl (.cons x l) = aCons (dE cl x) (dL cl l) := rfl
@[simp] theorem dP_none : dP cl .none = none := rfl
@[simp] theorem dP_some {x : IE} : dP cl (.some x) = some (dE cl x) := rfl
@[simp] theorem dO_none : dO cl .none = bYes := rfl
@[simp] theorem dO_some {x : IE} : dO cl (.some x) = bOf (dE cl x) := rfl
@[simp] theorem dI_src {x : IE} : dI cl (.src x) = iSrcF (dE cl x) := rfl
@[simp] theorem dI_enu {l : IL} : dI cl (.enu l) = iEnuF (dL cl l) := rfl
@[simp] theorem dI_zip {l : IL} : dI cl (.zip l) = iZipF (dL cl l) := rfl
@[simp] theorem dI_rng {l : IL} : dI cl (.rng l) = iRngF (dL cl l) := rfl
@[simp] theorem dS_pass : dS cl .pass = sNil := rfl
@[simp] theorem dS_brk : dS cl .brk = sBrk := rfl
@[simp] theorem dS_cnt : dS cl .cnt = sCnt := rfl
@[simp] theorem dS_stk : dS cl .stk = sStk := rfl
@[simp] theorem dS_exp {x : IE} : dS cl (.exp x) = sExp (dE cl x) := rfl
@[simp] theorem dS_ret {x : IE} : dS cl (.ret x) = sRet (dE cl x) := rfl
@[simp] theorem dS_retN : dS cl .retN = sRetN := rfl
@[simp] theorem dS_asg {t : IT} {x : IE} : dS cl (.asg t x) = sAsg t (dE cl x) := rfl
@[simp] theorem dS_par2 {l : IL} : dS cl (.par2 i j l) = sPar2 i j (dL cl l) := rfl
@[simp] theorem dS_par3 {l : IL} : dS cl (.par3 i j n l) = sPar3 i j n (dL cl l) := rfl
@[simp] theorem dS_sub {x y z : IE} : dS cl (.sub x y z) = sSub (dE cl x) (dE cl y) (dE cl z) := rfl
@[simp] theorem dS_if {x : IE} {p q : ISs} : dS cl (.if_ x p q) = sIf (dE cl x) (dSs cl p) (dSs cl q) := rfl
theorem dS_while {x : IE} {p : ISs} : dS cl (.while_ x p) = whileF (dE cl x) (dSs cl p) WF := rfl
@[simp] theorem dS_for {it : II} {t : IT} {p : ISs} : dS cl (.for_ it t p) = sFor (dI cl it) t (dSs cl p) := rfl
@[simp] theorem dS_forV {t : IT} {p : ISs} : dS cl (.forV i t p) = sForV i t (dSs cl p) := rfl
@[simp] theorem dSs_nil : dSs cl .nil = sNil := rfl
@[simp] theorem dSs_cons {x : IS} {p : ISs} : dSs cl (.cons x p) = sSeq (dS cl x) (dSs cl p) := rfl
end
def retK (o : Option (Fl × Sto)) : Option (D × Sto) := match o with
  | some (.nx _, M1) => some (.non, M1)
  | some (.rt d, M1) => some (d, M1)
  | _ => none
@[simp] theorem retK_rt : retK (some (.rt d, M)) = some (d, M) := rfl
@[simp] theorem retK_nx : retK (some (.nx e, M)) = some (.non, M) := rfl
theorem dF_e {cl : Nat → FN} {k m : Nat} {p : ISs} {ds : List D} (h : ds.length = k) : dF cl k m p ds M = retK (dSs cl p (ds.map some ++ List.replicate (m - k) none) M) := by
  unfold dF
  rw [if_pos h]
  rfl
theorem run_e {defs : List FDef} {k i : Nat} {f : FDef} {ds : List D} (h : defs[i]? = some f) (hl : ds.length = f.ps.length) {env : En} (he : ds.map some ++ List.replicate (f.N.length - f.ps.length) none = env) : run defs (k + 1) i ds M = retK (dSs (run defs k) f.ir env M) := by
  have e : run defs (k + 1) i = dF (run defs k) f.ps.length f.N.length f.ir := by
    show (match defs[i]? with | some d => dF (run defs k) d.ps.length d.N.length d.ir | none => fun _ _ => none) = _
    rw [h]
  rw [e, dF_e hl, he]
end
/-! ### loops over what is at hand -/
def dtK (o : Option En) (k : En → Option (Fl × Sto)) : Option (Fl × Sto) := match o with
  | some e => k e
  | none => none
@[simp] theorem dtK_s {env : En} {k : En → Option (Fl × Sto)} : dtK (some env) k = k env := rfl
@[congr] theorem dtK_congr {o o' : Option En} {k : En → Option (Fl × Sto)} (h : o = o') : dtK o k = dtK o' k := by rw [h]
def lpK (o : Option (Fl × Sto)) (k : SF) : Option (Fl × Sto) := match o with
  | some (.nx e, M2) => k e M2
  | some (.ct e, M2) => k e M2
  | some (.bk e, M2) => some (.nx e, M2)
  | some (.rt d, M2) => some (.rt d, M2)
  | none => none
@[congr] theorem lpK_congr {o o' : Option (Fl × Sto)} {k : SF} (h : o = o') : lpK o k = lpK o' k := by rw [h]
section
variable {M : Sto} {env e : En} {d a : D}
@[simp] theorem lpK_nx {k : SF} : lpK (some (.nx e, M)) k = k e M := rfl
@[simp] theorem lpK_ct {k : SF} : lpK (some (.ct e, M)) k = k e M := rfl
@[simp] theorem lpK_bk {k : SF} : lpK (some (.bk e, M)) k = some (.nx e, M) := rfl
@[simp] theorem lpK_rt {k : SF} : lpK (some (.rt d, M)) k = some (.rt d, M) := rfl
@[simp] theorem forF_nil {t : IT} {body : SF} : forF t body [] [] env M = some (.nx env, M) := rfl
@[simp] theorem forF_cons {t : IT} {body : SF} {ds : List D} : forF t body [] (d :: ds) env M = dtK (dT t d env) fun e1 => lpK (body e1 M) (forF t body [] ds) := by
  show (match dT t d env with | some e1 => _ | none => none) = _
  cases dT t d env with
  | none => rfl
  | some e1 => 
    show (match body e1 M with | some (.nx e, M2) => _ | some (.ct e, M2) => _ | some (.bk e, M2) => _ | some (.rt d, M2) => _ | none => none) = lpK (body e1 M) _
    cases body e1 M with
    | none => rfl
    | some p =>
      obtain ⟨fl, M2⟩ := p
      cases fl <;> rfl
/-- with a list that stays -/
theorem forF_consG {t : IT} {body : SF} {gs : Gd} {ds : List D} (h : gdB gs M = true) : forF t body gs (d :: ds) env M = dtK (dT t d env) fun e1 => lpK (body e1 M) (forF t body gs ds) := by
  rw [forF, if_pos h]
  cases dT t d env with
  | none => rfl
  | some e1 => 
    show (match body e1 M with | some (.nx e, M2) => _ | some (.ct e, M2) => _ | some (.bk e, M2) => _ | some (.rt d, M2) => _ | none => none) = lpK (body e1 M) _
    cases body e1 M with
    | none => rfl
    | some p =>
      obtain ⟨fl, M2⟩ := p
      cases fl <;> rfl
theorem forF_nilG {t : IT} {body : SF} {gs : Gd} (h : gdB gs M = true) : forF t body gs [] env M = some (.nx env, M) := by rw [forF, if_pos h]
@[simp] theorem iSrcF_e {f : EF} : iSrcF f env M = bnd (f env M) fun d M' => (srcOf M' d).map fun p => (p, M') := by
  unfold iSrcF
  cases f env M with
  | none => rfl
  | some p => rfl
@[simp] theorem src_t {xs : List D} : srcOf M (.tup xs) = some ([], xs) := rfl
def one1 {α : Type} (xs : List D) (k : D → Option α) : Option α := match xs with
  | [d] => k d
  | _ => none
@[simp] theorem one1_e {α : Type} {k : D → Option α} : one1 [d] k = k d := rfl
@[simp] theorem iEnuF_e {f : AF} : iEnuF f env M = bnd (f env M) fun ds M' => one1 ds fun d => (srcOf M' d).map fun p => ((p.1, enuD 0 p.2), M') := by
  unfold iEnuF
  cases f env M with
  | none => rfl
  | some p =>
    obtain ⟨ds, M'⟩ := p
    match ds with
    | [] => rfl
    | [d] => rfl
    | _ :: _ :: _ => rfl
@[simp] theorem enuD_n {n : Nat} : enuD n [] = [] := rfl
@[simp] theorem enuD_c {n : Nat} {ds : List D} : enuD n (d :: ds) = .tup [.int (n : Nat), d] :: enuD (n + 1) ds := rfl
/-! ### comprehensions over what is at hand -/
def dtC (o : Option En) (k : En → Option (List D × Sto)) : Option (List D × Sto) := match o with
  | some e => k e
  | none => none
@[simp] theorem dtC_s {env : En} {k : En → Option (List D × Sto)} : dtC (some env) k = k env := rfl
@[congr] theorem dtC_congr {o o' : Option En} {k : En → Option (List D × Sto)} (h : o = o') : dtC o k = dtC o' k := by rw [h]
variable {vs : List Nat} {t : IT} {c : BF} {f : EF} {ds acc : List D}
@[simp] theorem compF_nil : compF vs t c f [] [] env M acc = some (acc, M) := rfl
theorem compF_consG {gs : Gd} (h : gdB gs M = true) : compF vs t c f gs (d :: ds) env M acc = dtC (dT t d env) fun e1 => bnd (c e1 M) fun b M1 => if b = true then bnd (f e1 M1) fun x M2 => if acc.length < 16777216 then compF vs t c f gs ds env M2 (acc ++ [x]) else none else compF vs t c f gs ds env M1 acc := by
  rw [compF, if_pos h]
  cases dT t d env <;> rfl
@[simp] theorem compF_cons : compF vs t c f [] (d :: ds) env M acc = dtC (dT t d env) fun e1 => bnd (c e1 M) fun b M1 => if b = true then bnd (f e1 M1) fun x M2 => if acc.length < 16777216 then compF vs t c f [] ds env M2 (acc ++ [x]) else none else compF vs t c f [] ds env M1 acc := compF_consG rfl
theorem compF_nilG {gs : Gd} (h : gdB gs M = true) : compF vs t c f gs [] env M acc = some (acc, M) := by rw [compF, if_pos h]
@[simp] theorem eComp_e {it : IF} : eComp it t c f vs env M = bnd (it env M) fun p M1 => bnd (compF vs t c f p.1 p.2 (wipeE env vs) M1 []) fun xs M2 => some (.ref M2.length, M2 ++ [.lst xs]) := rfl
@[simp] theorem wipeE_n : wipeE env [] = env := rfl
@[simp] theorem wipeE_c {v : Nat} : wipeE env (v :: vs) = (wipeE env vs).set v none := rfl
@[simp] theorem bYes_e : bYes env M = some (true, M) := rfl
/-! ### a list at the end of the store -/
@[simp] theorem set_last {x y : MO} : (M ++ [x]).set M.length y = M ++ [y] := by
  rw [List.set_append_right _ _ (Nat.le_refl _)]; simp
@[simp] theorem app_T {xs : List D} : meT .append (M ++ [.lst xs]) (.ref M.length) = true := by simp [meT]
@[simp] theorem app_D {xs : List D} : meD .append (.ref M.length) [a] (M ++ [.lst xs]) = if xs.length < 16777216 then some (.non, M ++ [.lst (xs ++ [a])]) else none := by simp [meD, SL]
end
@[simp] theorem eq_pair {M : Sto} {x y z w : List Nat} : eqD (.tup [.str x, .str y]) (.tup [.str z, .str w]) M = some (decide (x = z) && decide (y = w)) := by
  rw [eqD_keys rfl rfl]
  have e1 : keyB (.tup [.str x, .str y]) = some (.tup [.text (S x), .text (S y)]) := rfl
  have e2 : keyB (.tup [.str z, .str w]) = some (.tup [.text (S z), .text (S w)]) := rfl
  unfold eqD0
  rw [e1, e2]
  show (if _ ≤ 50 then some (NestedKey.beq (.tup [.text (S x), .text (S y)]) (.tup [.text (S z), .text (S w)])) else none) = _
  rw [if_pos (by simp [NestedKey.depth, NestedKey.depthAll])]
  have : NestedKey.beq (.tup [.text (S x), .text (S y)]) (.tup [.text (S z), .text (S w)]) = (NestedKey.beq (.text (S x)) (.text (S z)) && (NestedKey.beq (.text (S y)) (.text (S w)) && true)) := rfl
  rw [this, nestBeq_text, nestBeq_text, Bool.and_true]
end RI
end
/-! #### MB -/
section
set_option Elab.async false
set_option linter.all false
set_option maxRecDepth 100000
set_option maxHeartbeats 1000000
/-! Part MB: more lemmas for simp: stores, loops over a variable. -/
namespace RI
open PySem
section
variable {M g : Sto} {env e : En} {d a : D} {o o1 o2 o3 : MO}
@[simp] theorem gA0 : (M ++ o :: g)[M.length]? = some o := by rw [List.getElem?_append_right (Nat.le_refl _)]; simp
@[simp] theorem gA1 : (M ++ o :: o1 :: g)[M.length + 1]? = some o1 := by rw [List.getElem?_append_right (by omega)]; simp
@[simp] theorem gA2 : (M ++ o :: o1 :: o2 :: g)[M.length + 1 + 1]? = some o2 := by
  rw [List.getElem?_append_right (by omega)]
  have : M.length + 1 + 1 - M.length = 2 := by omega
  rw [this]; rfl
@[simp] theorem gA2' : (M ++ o :: o1 :: o2 :: g)[M.length + 2]? = some o2 := gA2
theorem add_rr {i j : Nat} {xs ys : List D} (h1 : M[i]? = some (.lst xs)) (h2 : M[j]? = some (.lst ys)) : binD .Add (.ref i) (.ref j) M = if xs.length + ys.length ≤ 16777216 then some (.ref M.length, M ++ [.lst (xs ++ ys)]) else none := by
  show addD (.ref i) (.ref j) M = _
  unfold addD
  simp only [h1, h2]
  rfl
theorem lstOf_r {i : Nat} {xs : List D} (h : M[i]? = some (.lst xs)) : lstOf M (.ref i) = some xs := by
  unfold lstOf; simp only [h]
theorem max_r {i : Nat} {xs : List D} {ns : List Int} (h : M[i]? = some (.lst xs)) (h2 : intsOf xs = some ns) (h3 : ns ≠ []) : biD .max [.ref i] M = some (.int (maxL ns), M) := by
  show (match lstOf M (.ref i) with | some xs => _ | none => none) = _
  rw [lstOf_r h]
  simp only [h2]
  rw [if_neg h3]
def forVK (o : Option (Option D)) (i : Nat) (t : IT) (body : SF) (env : En) (M : Sto) : Option (Fl × Sto) := match o with
  | some (some (.ref r)) => match M[r]? with
    | some (.dct false kvs) => unlk r (forF t body [(r, .dct true kvs)] (kvs.map (·.1)) env (M.set r (.dct true kvs)))
    | _ => sFor (iSrcF (eVar i)) t body env M
  | _ => sFor (iSrcF (eVar i)) t body env M
theorem sForV_e {i : Nat} {t : IT} {body : SF} : sForV i t body env M = forVK env[i]? i t body env M := rfl
theorem sForV_t {i : Nat} {t : IT} {body : SF} {xs : List D} (h : env[i]? = some (some (.tup xs))) : sForV i t body env M = forF t body [] xs env M := by
  rw [sForV_e, h]
  show sFor (iSrcF (eVar i)) t body env M = _
  simp [h]
theorem sForV_l {i r : Nat} {t : IT} {body : SF} {xs : List D} (h : env[i]? = some (some (.ref r))) (h2 : M[r]? = some (.lst xs)) : sForV i t body env M = forF t body [(r, .lst xs)] xs env M := by
  rw [sForV_e, h]
  show (match M[r]? with | some (.dct false kvs) => _ | _ => sFor (iSrcF (eVar i)) t body env M) = _
  rw [h2]
  show sFor (iSrcF (eVar i)) t body env M = _
  simp [h, srcOf, h2]
@[simp] theorem app_T' {xs : List D} : meT .append (M ++ .lst xs :: g) (.ref M.length) = true := by simp [meT]
@[simp] theorem app_D' {xs : List D} : meD .append (.ref M.length) [a] (M ++ .lst xs :: g) = if xs.length < 16777216 then some (.non, M ++ .lst (xs ++ [a]) :: g) else none := by
  simp [meD, SL]
@[simp] theorem tup_r {xs : List D} : biD .tuple [.ref M.length] (M ++ .lst xs :: g) = some (.tup xs, M ++ .lst xs :: g) := by
  show (match lstOf (M ++ .lst xs :: g) (.ref M.length) with | some xs => _ | none => none) = _
  rw [lstOf_r gA0]
@[simp] theorem src_r {xs : List D} : srcOf (M ++ .lst xs :: g) (.ref M.length) = some ([(M.length, .lst xs)], xs) := by simp [srcOf]
@[simp] theorem gd_r : gdB [(M.length, o)] (M ++ o :: g) = true := by simp [gdB]
@[simp] theorem min_ii {i j : Int} : biD .min [.int i, .int j] M = some (.int (if j < i then j else i), M) := rfl
end
end RI
end
/-! #### M2 -/
section
set_option Elab.async false
set_option linter.all false
set_option maxRecDepth 100000
set_option maxHeartbeats 4000000
namespace NW11
open RI PySem
inductive Who where
  | me | th
  deriving DecidableEq
inductive Fw where
  | none | next | off
  deriving DecidableEq
structure Rec where
  who : Option Who
  last : Who
  num : Int
  old : Int
  fw : Fw
  deriving DecidableEq
def eW : Who → D
  | .me => .str [109, 105, 110, 101]
  | .th => .str [116, 104, 101, 105, 114, 115]
def eOW : Option Who → D
  | none => .non
  | some w => eW w
def eFw : Fw → D
  | .none => .str [110, 111, 110, 101]
  | .next => .str [110, 101, 120, 116]
  | .off => .str [111, 102, 102]
def eRec (r : Rec) : D := .tup [eOW r.who, eW r.last, .int r.num, .int r.old, eFw r.fw]
inductive Cp where
  | no | same | anew
  deriving DecidableEq
inductive Pg where
  | no | kept | counted
  deriving DecidableEq
structure Rule where
  wait : Option Int
  fwd : Option Int
  bars : Bool
  hops : Int
  marks : Int
  life : Option Int
  cp : Cp
  pg : Pg
def eOI : Option Int → D
  | none => .non
  | some i => .int i
def eCp : Cp → D
  | .no => .str [110, 111]
  | .same => .str [115, 97, 109, 101]
  | .anew => .str [97, 110, 101, 119]
def ePg : Pg → D
  | .no => .str [110, 111]
  | .kept => .str [107, 101, 112, 116]
  | .counted => .str [99, 111, 117, 110, 116, 101, 100]
def eRule (r : Rule) : D := .tup [eOI r.wait, eOI r.fwd, .bl r.bars, .int r.hops, .int r.marks, eOI r.life, eCp r.cp, ePg r.pg]
def fine (R : Rule) (r : Rec) : Bool := decide (r.fw ≠ .none) && (match R.fwd with
  | none => true
  | some f => decide (r.old < f))
@[simp] theorem eRec_mk {w : Option Who} {l : Who} {n o : Int} {f : Fw} : eRec ⟨w, l, n, o, f⟩ = .tup [eOW w, eW l, .int n, .int o, eFw f] := rfl
@[simp] theorem eRule_mk {w f : Option Int} {b : Bool} {h m : Int} {l : Option Int} {c : Cp} {p : Pg} : eRule ⟨w, f, b, h, m, l, c, p⟩ = .tup [eOI w, eOI f, .bl b, .int h, .int m, eOI l, eCp c, ePg p] := rfl
@[simp] theorem eOW_n : eOW none = .non := rfl
@[simp] theorem eOW_s {w : Who} : eOW (some w) = eW w := rfl
@[simp] theorem eFw_0 : eFw .none = .str [110, 111, 110, 101] := rfl
@[simp] theorem eFw_1 : eFw .next = .str [110, 101, 120, 116] := rfl
@[simp] theorem eFw_2 : eFw .off = .str [111, 102, 102] := rfl
@[simp] theorem ePg_0 : ePg .no = .str [110, 111] := rfl
@[simp] theorem ePg_1 : ePg .kept = .str [107, 101, 112, 116] := rfl
@[simp] theorem ePg_2 : ePg .counted = .str [99, 111, 117, 110, 116, 101, 100] := rfl
@[simp] theorem eCp_0 : eCp .no = .str [110, 111] := rfl
@[simp] theorem eCp_1 : eCp .same = .str [115, 97, 109, 101] := rfl
@[simp] theorem eCp_2 : eCp .anew = .str [97, 110, 101, 119] := rfl
@[simp] theorem eOI_n : eOI none = .non := rfl
@[simp] theorem eOI_s {i : Int} : eOI (some i) = .int i := rfl
@[simp] theorem eW_m : eW .me = .str [109, 105, 110, 101] := rfl
@[simp] theorem eW_t : eW .th = .str [116, 104, 101, 105, 114, 115] := rfl
theorem p_fine (R : Rule) (r : Rec) (k : Nat) (M : Sto) : run defs (k + 1) 8 [eRule R, eRec r] M = some (.bl (fine R r), M) := by
  rw [run_e (f := fd_8) rfl rfl rfl]
  obtain ⟨wait, fwd, bars, hops, marks, life, cp, pg⟩ := R
  obtain ⟨who, last, num, old, fw⟩ := r
  cases fwd <;> cases fw <;> rfl
def may (R : Rule) (r : Rec) (w : Who) (back : Bool) : Bool :=
  if back then decide (r.last = w)
  else if (decide (r.last = w) && decide (w = .me)) || (match R.wait with | none => true | some x => decide (r.old < x)) then false
  else !R.bars || !fine R r
theorem p_may (R : Rule) (r : Rec) (w : Who) (b : Bool) (k : Nat) (M : Sto) : run defs (k + 2) 9 [eRule R, eRec r, eW w, .bl b] M = some (.bl (may R r w b), M) := by
  have hf := p_fine R r k M
  rw [run_e (f := fd_9) rfl rfl rfl]
  generalize RI.run defs (k + 1) = cl at hf
  obtain ⟨wait, fwd, bars, hops, marks, life, cp, pg⟩ := R
  obtain ⟨who, last, num, old, fw⟩ := r
  simp only [eRule, eRec] at hf ⊢
  cases b
  · cases wait with
    | none => cases last <;> cases w <;> simp [fd_9, ir_9, may]
    | some x => by_cases hx : old < x <;> cases last <;> cases w <;> cases bars <;> simp [fd_9, ir_9, may, hx] <;> simp [eOI_s] at hf <;> simp [hf]
  · cases last <;> cases w <;> simp [fd_9, ir_9, may]
end NW11
end
/-! #### M3 -/
section
set_option Elab.async false
set_option linter.all false
set_option maxRecDepth 100000
set_option maxHeartbeats 4000000
namespace NW11
open RI PySem
inductive Th where
  | no | out | at_ (i : Nat)
  deriving DecidableEq
structure Scene where
  age : Int
  rows : List Rec
  th : Th
  deriving DecidableEq
def eTh : Th → D
  | .no => .non
  | .out => .str [111, 117, 116]
  | .at_ i => .int (i : Nat)
def eScene (s : Scene) : D := .tup [.int s.age, .tup (s.rows.map eRec), eTh s.th]
@[simp] theorem eScene_mk {a : Int} {r : List Rec} {t : Th} : eScene ⟨a, r, t⟩ = .tup [.int a, .tup (r.map eRec), eTh t] := rfl
@[simp] theorem eTh_n : eTh .no = .non := rfl
@[simp] theorem eTh_o : eTh .out = .str [111, 117, 116] := rfl
@[simp] theorem eTh_a {i : Nat} : eTh (.at_ i) = .int (i : Nat) := rfl
/-- one or two rows -/
def Sm (l : List Rec) : Prop := (∃ a, l = [a]) ∨ ∃ a b, l = [a, b]
def cut (s : Scene) (p : Nat) (r : Rec) : Scene := ⟨s.age, s.rows.take p ++ [r], match s.th with
  | .at_ i => if p < i then .out else .at_ i
  | t => t⟩
section
variable {M : Sto} {a b c d e x y : D}
@[simp] theorem sl_1_0 : slD (.tup [a]) none (some 0) M = some (.tup [], M) := rfl
@[simp] theorem sl_2_0 : slD (.tup [a, b]) none (some 0) M = some (.tup [], M) := rfl
@[simp] theorem sl_2_1 : slD (.tup [a, b]) none (some 1) M = some (.tup [a], M) := rfl
@[simp] theorem sl_1_m : slD (.tup [a]) none (some (-1)) M = some (.tup [], M) := rfl
@[simp] theorem sl_2_m : slD (.tup [a, b]) none (some (-1)) M = some (.tup [a], M) := rfl
@[simp] theorem sl_1_d : slD (.tup [a]) (some 0) none M = some (.tup [a], M) := rfl
@[simp] theorem sl_2_d : slD (.tup [a, b]) (some 1) none M = some (.tup [b], M) := rfl
@[simp] theorem sl_5_4 : slD (.tup [a, b, c, d, e]) none (some 4) M = some (.tup [a, b, c, d], M) := rfl
@[simp] theorem ixm_1 : ixD (.tup [a]) (.int (-1)) M = some (a, M) := rfl
@[simp] theorem ixm_2 : ixD (.tup [a, b]) (.int (-1)) M = some (b, M) := rfl
@[simp] theorem add_tt {xs ys : List D} : binD .Add (.tup xs) (.tup ys) M = if xs.length + ys.length ≤ SL then some (.tup (xs ++ ys), M) else none := rfl
@[simp] theorem add_ii {i j : Int} : binD .Add (.int i) (.int j) M = some (.int (i + j), M) := rfl
@[simp] theorem sub_ii {i j : Int} : binD .Sub (.int i) (.int j) M = some (.int (i - j), M) := rfl
@[simp] theorem mod_ii {i j : Int} : binD .Mod (.int i) (.int j) M = if 0 < j then some (.int (i % j), M) else none := rfl
@[simp] theorem len_t {xs : List D} : biD .len [.tup xs] M = some (.int (xs.length : Int), M) := rfl
@[simp] theorem int_b {k : Bool} : biD .int [.bl k] M = some (.int (if k = true then 1 else 0), M) := rfl
@[simp] theorem int_i {k : Int} : biD .int [.int k] M = some (.int k, M) := rfl
@[simp] theorem SL_v : SL = 16777216 := rfl
end
theorem p_cut (s : Scene) (p : Nat) (r : Rec) (hs : Sm s.rows) (hp : p < s.rows.length) (k : Nat) (M : Sto) : run defs (k + 1) 10 [eScene s, .int (p : Nat), eRec r] M = some (eScene (cut s p r), M) := by
  rw [run_e (f := fd_10) (env := [some (eScene s), some (.int (p : Nat)), some (eRec r), none, none, none]) rfl rfl rfl]
  generalize RI.run defs k = cl
  obtain ⟨age, rows, th⟩ := s
  have hp2 : p = 0 ∨ (p = 1 ∧ ∃ a b, rows = [a, b]) := by
    rcases hs with ⟨a, h⟩ | ⟨a, b, h⟩ <;> simp only [] at h <;> subst h <;> simp at hp
    · exact .inl hp
    · rcases Nat.lt_succ_iff_lt_or_eq.mp hp with z | z
      · exact .inl (by omega)
      · exact .inr ⟨z, a, b, rfl⟩
  cases th with
  | no => rcases hp2 with rfl | ⟨rfl, a, b, rfl⟩
          · rcases hs with ⟨a, h⟩ | ⟨a, b, h⟩ <;> simp only [] at h <;> subst h <;> simp [fd_10, ir_10, eScene, cut]
          · simp [fd_10, ir_10, eScene, cut]
  | out => rcases hp2 with rfl | ⟨rfl, a, b, rfl⟩
           · rcases hs with ⟨a, h⟩ | ⟨a, b, h⟩ <;> simp only [] at h <;> subst h <;> simp [fd_10, ir_10, eScene, cut]
           · simp [fd_10, ir_10, eScene, cut]
  | at_ i =>
    by_cases hi : p < i
    · rcases hp2 with rfl | ⟨rfl, a, b, rfl⟩
      · rcases hs with ⟨a, h⟩ | ⟨a, b, h⟩ <;> simp only [] at h <;> subst h <;> simp [fd_10, ir_10, eScene, cut, hi]
      · simp [fd_10, ir_10, eScene, cut, hi, show ((1 : Int) < (i : Int)) from by omega]
    · rcases hp2 with rfl | ⟨rfl, a, b, rfl⟩
      · rcases hs with ⟨a, h⟩ | ⟨a, b, h⟩ <;> simp only [] at h <;> subst h <;> simp [fd_10, ir_10, eScene, cut, hi]
      · simp [fd_10, ir_10, eScene, cut, hi, show ¬ ((1 : Int) < (i : Int)) from by omega]
theorem sm_at {rows : List Rec} {p : Nat} (hs : Sm rows) (hp : p < rows.length) : (p = 0 ∧ ∃ a, rows = [a]) ∨ (p = 0 ∧ ∃ a b, rows = [a, b]) ∨ (p = 1 ∧ ∃ a b, rows = [a, b]) := by
  rcases hs with ⟨a, h⟩ | ⟨a, b, h⟩
  · subst h; simp at hp; exact .inl ⟨hp, a, rfl⟩
  · subst h; simp at hp
    rcases Nat.lt_succ_iff_lt_or_eq.mp hp with z | z
    · exact .inr (.inl ⟨by omega, a, b, rfl⟩)
    · exact .inr (.inr ⟨z, a, b, rfl⟩)
def nobody : Rec := ⟨none, .me, 0, 0, .none⟩
def come (R : Rule) (s : Scene) (p : Nat) (w : Who) (back : Bool) : Scene := cut s p ⟨some w, w, ((s.rows.getD p nobody).num + (if back = true then 0 else 1)) % R.marks, 0, .none⟩
theorem p_come (R : Rule) (s : Scene) (p : Nat) (w : Who) (back : Bool) (hs : Sm s.rows) (hp : p < s.rows.length) (hm : 0 < R.marks) (k : Nat) (M : Sto) :
    run defs (k + 2) 11 [eRule R, eScene s, .int (p : Nat), eW w, .bl back] M = some (eScene (come R s p w back), M) := by
  have hc := p_cut s p ⟨some w, w, ((s.rows.getD p nobody).num + (if back = true then 0 else 1)) % R.marks, 0, .none⟩ hs hp k M
  rw [run_e (f := fd_11) (env := [some (eRule R), some (eScene s), some (.int (p : Nat)), some (eW w), some (.bl back), none]) rfl rfl rfl]
  show _ = some (eScene (cut s p ⟨some w, w, ((s.rows.getD p nobody).num + (if back = true then 0 else 1)) % R.marks, 0, .none⟩), M)
  generalize RI.run defs (k + 1) = cl at hc
  generalize eScene (cut s p _) = res at hc ⊢
  obtain ⟨age, rows, th⟩ := s
  obtain ⟨wait, fwd, bars, hops, marks, life, cp, pg⟩ := R
  have hm' : 0 < marks := hm
  simp only [eRule, eScene, eRec] at hc ⊢
  rcases sm_at hs hp with ⟨rfl, a, h⟩ | ⟨rfl, a, b, h⟩ | ⟨rfl, a, b, h⟩ <;> simp only [] at h <;> subst h <;> cases back <;> simp [eRec, eOW, eFw] at hc <;> simp [fd_11, ir_11, hm', hc, eRec, eOW, eFw]
end NW11
end
/-! #### M4 -/
section
set_option Elab.async false
set_option linter.all false
set_option maxRecDepth 100000
set_option maxHeartbeats 8000000
namespace NW11
open RI PySem
/-- the top row renamed -/
def ren (R : Rule) (s : Scene) (w : Who) (a : Rec) (low : List Rec) : Scene :=
  if a.num = 0 ∧ R.fwd ≠ some 0 ∧ ((low.length : Int) + 1) ≤ R.hops then ⟨s.age, low ++ [⟨none, w, a.num, 0, .next⟩, ⟨some w, w, 0, 0, .none⟩], if s.th = .at_ low.length then .at_ (low.length + 1) else s.th⟩
  else ⟨s.age, low ++ [⟨none, w, a.num, 0, .off⟩], if s.th = .at_ low.length then .out else s.th⟩
theorem p_ren (R : Rule) (s : Scene) (w : Who) (a : Rec) (low : List Rec) (hl : low = [] ∨ ∃ b, low = [b]) (hs : s.rows = low ++ [a]) (ha : a.who = some w) (hh : R.hops ≤ 1) (k : Nat) (M : Sto) :
    run defs (k + 1) 12 [eRule R, eScene s] M = some (eScene (ren R s w a low), M) := by
  rw [run_e (f := fd_12) (env := [some (eRule R), some (eScene s), none, none, none, none, none, none, none, none, none]) rfl rfl rfl]
  generalize RI.run defs k = cl
  obtain ⟨age, rows, th⟩ := s
  obtain ⟨wait, fwd, bars, hops, marks, life, cp, pg⟩ := R
  obtain ⟨who, last, num, old, fw⟩ := a
  simp only [] at hs ha hh
  subst hs ha
  have hcast : ∀ i : Nat, ((i : Int) = 1) ↔ i = 1 := fun i => by omega
  rcases hl with rfl | ⟨b, rfl⟩
  · by_cases hn : num = 0
    · by_cases h2 : 1 ≤ hops
      · cases fwd with
        | none => cases th with
          | at_ i => by_cases hi : i = 0 <;> simp [fd_12, ir_12, eRule, eScene, eRec, eOW, eFw, ren, hn, h2, hi]
          | _ => simp [fd_12, ir_12, eRule, eScene, eRec, eOW, eFw, ren, hn, h2]
        | some f => by_cases hf : f = 0 <;> cases th with
          | at_ i => by_cases hi : i = 0 <;> simp [fd_12, ir_12, eRule, eScene, eRec, eOW, eFw, ren, hn, h2, hi, hf]
          | _ => simp [fd_12, ir_12, eRule, eScene, eRec, eOW, eFw, ren, hn, h2, hf]
      · cases fwd with
        | none => cases th with
          | at_ i => by_cases hi : i = 0 <;> simp [fd_12, ir_12, eRule, eScene, eRec, eOW, eFw, ren, hn, h2, hi]
          | _ => simp [fd_12, ir_12, eRule, eScene, eRec, eOW, eFw, ren, hn, h2]
        | some f => by_cases hf : f = 0 <;> cases th with
          | at_ i => by_cases hi : i = 0 <;> simp [fd_12, ir_12, eRule, eScene, eRec, eOW, eFw, ren, hn, h2, hi, hf]
          | _ => simp [fd_12, ir_12, eRule, eScene, eRec, eOW, eFw, ren, hn, h2, hf]
    · cases th with
      | at_ i => by_cases hi : i = 0 <;> simp [fd_12, ir_12, eRule, eScene, eRec, eOW, eFw, ren, hn, hi]
      | _ => simp [fd_12, ir_12, eRule, eScene, eRec, eOW, eFw, ren, hn]
  · have h2 : ¬ ((1 : Int) + 1 ≤ hops) := by omega
    have h3 : ¬ ((2 : Int) ≤ hops) := by omega
    by_cases hn : num = 0
    · cases fwd with
      | none => cases th with
        | at_ i => by_cases hi : i = 1 <;> simp [fd_12, ir_12, eRule, eScene, eRec, eOW, eFw, ren, hn, h2, h3, hi, hcast]
        | _ => simp [fd_12, ir_12, eRule, eScene, eRec, eOW, eFw, ren, hn, h2, h3]
      | some f => by_cases hf : f = 0 <;> cases th with
        | at_ i => by_cases hi : i = 1 <;> simp [fd_12, ir_12, eRule, eScene, eRec, eOW, eFw, ren, hn, h2, h3, hi, hf, hcast]
        | _ => simp [fd_12, ir_12, eRule, eScene, eRec, eOW, eFw, ren, hn, h2, h3, hf]
    · cases th with
      | at_ i => by_cases hi : i = 1 <;> simp [fd_12, ir_12, eRule, eScene, eRec, eOW, eFw, ren, hn, hi, hcast]
      | _ => simp [fd_12, ir_12, eRule, eScene, eRec, eOW, eFw, ren, hn]
/-! ### who holds, what has come about -/
def eEnd (s : Scene) : Option Who := match s.rows.getLast? with
  | some r => if r.num = 0 then r.who else none
  | none => none
theorem p_end (s : Scene) (hs : Sm s.rows) (k : Nat) (M : Sto) : run defs (k + 1) 18 [eScene s] M = some (eOW (eEnd s), M) := by
  rw [run_e (f := fd_18) (env := [some (eScene s), none]) rfl rfl rfl]
  generalize RI.run defs k = cl
  obtain ⟨age, rows, th⟩ := s
  rcases hs with ⟨a, h⟩ | ⟨a, b, h⟩ <;> simp only [] at h <;> subst h
  · by_cases h : a.num = 0 <;> simp [fd_18, ir_18, eScene, eRec, eEnd, h, eOW]
  · by_cases h : b.num = 0 <;> simp [fd_18, ir_18, eScene, eRec, eEnd, h, eOW]
inductive Hm where
  | ast | lost
  deriving DecidableEq
def eHm : Hm → D
  | .ast => .str [97, 115, 116, 114, 97, 121]
  | .lost => .str [108, 111, 115, 116]
def eOHm : Option Hm → D
  | none => .non
  | some h => eHm h
def stat (s : Scene) : Option Hm := match eEnd s with
  | some .th => some .ast
  | some .me => none
  | none => if s.th = .no then none else some .lost
theorem p_stat (s : Scene) (hs : Sm s.rows) (k : Nat) (M : Sto) : run defs (k + 2) 19 [eScene s] M = some (eOHm (stat s), M) := by
  have he := p_end s hs k M
  rw [run_e (f := fd_19) (env := [some (eScene s), none]) rfl rfl rfl]
  generalize RI.run defs (k + 1) = cl at he
  obtain ⟨age, rows, th⟩ := s
  cases h : eEnd ⟨age, rows, th⟩ with
  | none => rw [h] at he; simp only [eScene, eOW] at he; cases th <;> simp at he <;> simp [fd_19, ir_19, eScene, stat, h, he, eOHm, eHm, eOW]
  | some w => rw [h] at he; simp only [eScene, eOW] at he; cases w <;> simp [fd_19, ir_19, eScene, stat, h, he, eOHm, eHm, eOW]
end NW11
end
/-! #### M5 -/
section
set_option Elab.async false
set_option linter.all false
set_option maxRecDepth 100000
set_option maxHeartbeats 8000000
namespace NW11
open RI PySem
inductive Ev where
  | tick
  | take (w : Who) (b : Bool) (p : Nat)
  | chg (t : Th) (p : Nat)
  | give (p : Nat)
  | renm (p : Nat)
  | pass (p : Nat) (w : Who)
  | copy
  deriving DecidableEq
def eEv : Ev → D
  | .tick => .tup [.str [116, 105, 99, 107]]
  | .take w b p => .tup [.str [116, 97, 107, 101], eW w, .bl b, .int (p : Nat)]
  | .chg t p => .tup [.str [99, 104, 97, 110, 103, 101], eTh t, .int (p : Nat)]
  | .give p => .tup [.str [103, 105, 118, 101], .int (p : Nat)]
  | .renm p => .tup [.str [99, 104, 97, 110, 103, 101], .int (p : Nat), .str [110, 101, 119]]
  | .pass p w => .tup [.str [112, 97, 115, 115], .int (p : Nat), eW w]
  | .copy => .tup [.str [99, 111, 112, 121]]
def ePr (x : Ev × Scene) : D := .tup [eEv x.1, eScene x.2]
/-- the top row, and those below -/
def setTop (s : Scene) (low : List Rec) (r : Rec) (th : Th) : Scene := ⟨s.age, low ++ [r], th⟩
def leavesW (R : Rule) (s : Scene) (low : List Rec) (a : Rec) (w : Who) (res : Scene) : List (Ev × Scene) :=
  [(.give low.length, setTop s low ⟨none, w, a.num, 0, .none⟩ (if s.th = .at_ low.length then Th.no else s.th)), (.renm low.length, res)] ++
    (if R.pg = .no then [] else
      (if w = .me then [] else [(Ev.pass low.length .me, setTop s low ⟨some .me, .me, (a.num + (if R.pg = .counted then 1 else 0)) % R.marks, 0, .none⟩ (if s.th = .at_ low.length then Th.no else s.th))]) ++
        [(Ev.pass low.length .th, setTop s low ⟨some .th, .th, (a.num + (if R.pg = .counted then 1 else 0)) % R.marks, 0, .none⟩ (if s.th = .at_ low.length then Th.no else s.th))])
def leaves (R : Rule) (s : Scene) (low : List Rec) (a : Rec) : List (Ev × Scene) := match a.who with
  | none => []
  | some w => leavesW R s low a w (ren R s w a low)
theorem p_leave (R : Rule) (s : Scene) (a : Rec) (low : List Rec) (hl : low = [] ∨ ∃ b, low = [b]) (hs : s.rows = low ++ [a]) (hh : R.hops ≤ 1) (hm : 0 < R.marks) (k : Nat) (M : Sto) :
    run defs (k + 2) 15 [eRule R, eScene s] M = some (.ref M.length, M ++ [.lst ((leaves R s low a).map ePr)]) := by
  have hr : ∀ w M, a.who = some w → run defs (k + 1) 12 [eRule R, eScene s] M = some (eScene (ren R s w a low), M) := fun w M h => p_ren R s w a low hl hs h hh k M
  rw [run_e (f := fd_15) (env := [some (eRule R), some (eScene s), none, none, none, none, none, none, none, none, none, none, none, none, none]) rfl rfl rfl]
  generalize RI.run defs (k + 1) = cl at hr
  cases hw : a.who with
  | none =>
    obtain ⟨age, rows, th⟩ := s
    obtain ⟨who, last, num, old, fw⟩ := a
    simp only [] at hs hw
    subst hs hw
    rcases hl with rfl | ⟨b, rfl⟩ <;> simp [fd_15, ir_15, leaves]
  | some w =>
    have hr' := fun M => hr w M hw
    have hlv : leaves R s low a = leavesW R s low a w (ren R s w a low) := by unfold leaves; rw [hw]
    rw [hlv]
    generalize ren R s w a low = res at hr'
    have hp : ∀ e, ePr (e, res) = .tup [eEv e, eScene res] := fun e => rfl
    obtain ⟨age, rows, th⟩ := s
    obtain ⟨wait, fwd, bars, hops, marks, life, cp, pg⟩ := R
    obtain ⟨who, last, num, old, fw⟩ := a
    simp only [] at hs hw hm
    subst hs hw
    simp only [leavesW, List.map_append, List.map_cons, List.map_nil, hp]
    generalize eScene res = dres at hr' ⊢
    have hcast : ∀ i : Nat, ((i : Int) = 1) ↔ i = 1 := fun i => by omega
    rcases hl with rfl | ⟨b, rfl⟩
    · cases th with
      | at_ i =>
        by_cases hi : i = 0
        · subst hi
          cases w <;> cases pg <;> simp at hr' <;> simp [fd_15, ir_15, ePr, eEv, setTop, hm, hr']
        · cases w <;> cases pg <;> simp at hr' <;> simp [fd_15, ir_15, ePr, eEv, setTop, hi, hm, hr']
      | _ => cases w <;> cases pg <;> simp at hr' <;> simp [fd_15, ir_15, ePr, eEv, setTop, hm, hr']
    · cases th with
      | at_ i =>
        by_cases hi : i = 1
        · subst hi
          cases w <;> cases pg <;> simp at hr' <;> simp [fd_15, ir_15, ePr, eEv, setTop, hm, hr', hcast]
        · cases w <;> cases pg <;> simp at hr' <;> simp [fd_15, ir_15, ePr, eEv, setTop, hi, hm, hr', hcast]
      | _ => cases w <;> cases pg <;> simp at hr' <;> simp [fd_15, ir_15, ePr, eEv, setTop, hm, hr']
end NW11
end
/-! #### M6 -/
section
set_option Elab.async false
set_option linter.all false
set_option maxRecDepth 100000
set_option maxHeartbeats 8000000
namespace NW11
open RI PySem
section
variable {M : Sto} {t : Th}
@[simp] theorem eq_th0 : eqD (eTh t) (.int 0) M = some (decide (t = .at_ 0)) := by
  cases t with
  | at_ i => simp
  | _ => simp
@[simp] theorem eq_th1 : eqD (eTh t) (.int 1) M = some (decide (t = .at_ 1)) := by
  cases t with
  | at_ i => simp; omega
  | _ => simp
@[simp] theorem eq_tho : eqD (eTh t) (.str [111, 117, 116]) M = some (decide (t = .out)) := by cases t <;> simp
@[simp] theorem non_th : isNon (eTh t) = decide (t = .no) := by cases t <;> rfl
@[simp] theorem non_ow {w : Option Who} : isNon (eOW w) = decide (w = none) := by
  cases w with
  | none => rfl
  | some w => cases w <;> rfl
@[simp] theorem eq_me {w : Who} : eqD (eW w) (.str [109, 105, 110, 101]) M = some (decide (w = .me)) := by cases w <;> simp
@[simp] theorem eq_th' {w : Who} : eqD (eW w) (.str [116, 104, 101, 105, 114, 115]) M = some (decide (w = .th)) := by cases w <;> simp
@[simp] theorem eq_ome {w : Option Who} : eqD (eOW w) (.str [109, 105, 110, 101]) M = some (decide (w = some .me)) := by
  cases w with
  | none => simp
  | some w => cases w <;> simp
@[simp] theorem eq_nx {f : Fw} : eqD (eFw f) (.str [110, 101, 120, 116]) M = some (decide (f = .next)) := by cases f <;> simp
@[simp] theorem ixi {w l n o f : D} : ixD (.tup [w, l, n, o, f]) (.int 0) M = some (w, M) := rfl
end
def copies (R : Rule) (s : Scene) (low : List Rec) (a : Rec) : List (Ev × Scene) := match R.cp with
  | .no => []
  | .same => [(.copy, ⟨0, s.rows, s.th⟩)]
  | .anew => if a.who ≠ none ∧ a.num = 0 then [(.copy, ⟨0, [a], if s.th = .no then .no else if s.th = .at_ low.length then .at_ 0 else .out⟩)] else []
theorem p_copies (R : Rule) (s : Scene) (a : Rec) (low : List Rec) (hl : low = [] ∨ ∃ b, low = [b]) (hs : s.rows = low ++ [a]) (k : Nat) (M : Sto) :
    run defs (k + 1) 16 [eRule R, eScene s] M = some (.ref M.length, M ++ [.lst ((copies R s low a).map ePr)]) := by
  rw [run_e (f := fd_16) (env := [some (eRule R), some (eScene s), none, none, none, none]) rfl rfl rfl]
  generalize RI.run defs k = cl
  obtain ⟨age, rows, th⟩ := s
  obtain ⟨wait, fwd, bars, hops, marks, life, cp, pg⟩ := R
  obtain ⟨who, last, num, old, fw⟩ := a
  simp only [] at hs
  subst hs
  rcases hl with rfl | ⟨b, rfl⟩
  · cases cp with
    | anew => by_cases h1 : who = none <;> by_cases h2 : num = 0 <;> by_cases h3 : th = .no <;> by_cases h4 : th = .at_ 0 <;> simp [fd_16, ir_16, copies, ePr, eEv, h1, h2, h3, h4]
    | _ => simp [fd_16, ir_16, copies, ePr, eEv]
  · cases cp with
    | anew => by_cases h1 : who = none <;> by_cases h2 : num = 0 <;> by_cases h3 : th = .no <;> by_cases h4 : th = .at_ 1 <;> simp [fd_16, ir_16, copies, ePr, eEv, h1, h2, h3, h4]
    | _ => simp [fd_16, ir_16, copies, ePr, eEv]
/-! ### whose doing -/
inductive Dr where
  | meant | other | time
  deriving DecidableEq
def eDr : Dr → D
  | .meant => .str [109, 101, 97, 110, 116]
  | .other => .str [111, 116, 104, 101, 114]
  | .time => .str [116, 105, 109, 101]
def byWho (w : Option Who) : Dr := if w = some .me then .meant else .other
def doer (s : Scene) : Ev → Dr
  | .tick => .time
  | .copy => .other
  | .take w _ _ => byWho (some w)
  | .chg t _ => (match t with
    | .at_ i => byWho (s.rows.getD i nobody).who
    | _ => .meant)
  | .give p => byWho (s.rows.getD p nobody).who
  | .renm p => byWho (s.rows.getD p nobody).who
  | .pass p _ => byWho (s.rows.getD p nobody).who
/-- the event's places are of the scene -/
def evOk (s : Scene) : Ev → Prop
  | .chg t _ => t = .out ∨ ∃ i, t = .at_ i ∧ i < s.rows.length
  | .give p => p < s.rows.length
  | .renm p => p < s.rows.length
  | .pass p _ => p < s.rows.length
  | _ => True
theorem p_doer (s : Scene) (e : Ev) (hs : Sm s.rows) (he : evOk s e) (k : Nat) (M : Sto) : run defs (k + 1) 20 [eScene s, eEv e] M = some (eDr (doer s e), M) := by
  rw [run_e (f := fd_20) (env := [some (eScene s), some (eEv e), none]) rfl rfl rfl]
  generalize RI.run defs k = cl
  obtain ⟨age, rows, th⟩ := s
  have at_ : ∀ p, p < rows.length → ∃ r, rows[p]? = some r ∧ rows.getD p nobody = r ∧ (∀ M, ixD (.tup (rows.map eRec)) (.int (p : Nat)) M = some (eRec r, M)) := by
    intro p hp
    refine ⟨rows[p], List.getElem?_eq_getElem hp, by simp [List.getD, hp], fun M => ixP (by simp [hp])⟩
  have fin : ∀ w : Option Who, (if w = some Who.me then some (D.str [109, 101, 97, 110, 116], M) else some (D.str [111, 116, 104, 101, 114], M)) = some (eDr (byWho w), M) := fun w => by
    unfold byWho; split <;> rfl
  cases e with
  | tick => rfl
  | copy => rfl
  | take w b p => cases w <;> rfl
  | chg t p =>
    rcases he with rfl | ⟨i, rfl, hi⟩
    · rfl
    · obtain ⟨⟨w, l, n, o, f⟩, h1, h2, h3⟩ := at_ i hi
      by_cases hw : w = some .me <;> simp [fd_20, ir_20, eEv, doer, h3, h1, byWho, hw, eDr]
  | give p =>
    obtain ⟨⟨w, l, n, o, f⟩, h1, h2, h3⟩ := at_ p he
    by_cases hw : w = some .me <;> simp [fd_20, ir_20, eEv, doer, h3, h1, byWho, hw, eDr]
  | renm p =>
    obtain ⟨⟨w, l, n, o, f⟩, h1, h2, h3⟩ := at_ p he
    by_cases hw : w = some .me <;> simp [fd_20, ir_20, eEv, doer, h3, h1, byWho, hw, eDr]
  | pass p w' =>
    obtain ⟨⟨w, l, n, o, f⟩, h1, h2, h3⟩ := at_ p he
    by_cases hw : w = some .me <;> simp [fd_20, ir_20, eEv, doer, h3, h1, byWho, hw, eDr]
end NW11
end
/-! #### M7 -/
section
set_option Elab.async false
set_option linter.all false
set_option maxRecDepth 100000
set_option maxHeartbeats 8000000
namespace NW11
open RI PySem
def topOf (R : Rule) : Int := maxL (0 :: (R.wait.toList ++ R.fwd.toList))
theorem p_old (R : Rule) (k : Nat) (M : Sto) : ∃ g, run defs (k + 1) 7 [eRule R] M = some (.int (topOf R), M ++ g) := by
  rw [run_e (f := fd_7) (env := [some (eRule R), none]) rfl rfl rfl]
  generalize RI.run defs k = cl
  obtain ⟨wait, fwd, bars, hops, marks, life, cp, pg⟩ := R
  cases wait <;> cases fwd
  · refine ⟨[.lst [.int 0], .lst [], .lst [.int 0]], ?_⟩
    simp [fd_7, ir_7, add_rr (xs := [.int 0]) (ys := [])]
    rw [max_r (xs := [.int 0]) (ns := [0]) gA2' rfl (by simp)]
    rfl
  · rename_i f
    refine ⟨[.lst [.int 0], .lst [.int f], .lst [.int 0, .int f]], ?_⟩
    simp [fd_7, ir_7, add_rr (xs := [.int 0]) (ys := [.int f])]
    rw [max_r (xs := [.int 0, .int f]) (ns := [0, f]) gA2' rfl (by simp)]
    rfl
  · rename_i f
    refine ⟨[.lst [.int 0], .lst [.int f], .lst [.int 0, .int f]], ?_⟩
    simp [fd_7, ir_7, add_rr (xs := [.int 0]) (ys := [.int f])]
    rw [max_r (xs := [.int 0, .int f]) (ns := [0, f]) gA2' rfl (by simp)]
    rfl
  · rename_i f h
    refine ⟨[.lst [.int 0], .lst [.int f, .int h], .lst [.int 0, .int f, .int h]], ?_⟩
    simp [fd_7, ir_7, add_rr (xs := [.int 0]) (ys := [.int f, .int h])]
    rw [max_r (xs := [.int 0, .int f, .int h]) (ns := [0, f, h]) gA2' rfl (by simp)]
    rfl
end NW11
end
/-! #### M8 -/
section
set_option Elab.async false
set_option linter.all false
set_option maxRecDepth 100000
set_option maxHeartbeats 8000000
namespace NW11
open RI PySem
def amin (i j : Int) : Int := if j < i then j else i
def age1 (R : Rule) (r : Rec) : Rec := ⟨r.who, r.last, r.num, amin (r.old + (if r.who = none then 1 else 0)) (topOf R), r.fw⟩
def goesOff (R : Rule) (r : Rec) : Bool := decide (r.fw = .next) && !fine R r
def offAt (R : Rule) : Nat → List Rec → Option (Nat × Rec)
  | _, [] => none
  | p, r :: l => if goesOff R r = true then some (p, r) else offAt R (p + 1) l
def setOff (r : Rec) : Rec := ⟨r.who, r.last, r.num, r.old, .off⟩
def agedF (R : Rule) (s : Scene) : Scene := ⟨if R.life = none then 0 else s.age + 1, s.rows.map (age1 R), s.th⟩
def aged (R : Rule) (s : Scene) : Scene :=
  match offAt R 0 (s.rows.map (age1 R)) with
  | some (p, r) => cut (agedF R s) p (setOff r)
  | none => agedF R s
@[simp] theorem non_oi {w : Option Int} : isNon (eOI w) = decide (w = none) := by cases w <;> rfl
section
variable {M : Sto} {R : Rule} {r : Rec} {s : Scene} {env : En} {ts : ITs}
@[simp] theorem rx0 : ixD (eRule R) (.int 0) M = some (eOI R.wait, M) := rfl
@[simp] theorem rx1 : ixD (eRule R) (.int 1) M = some (eOI R.fwd, M) := rfl
@[simp] theorem rx2 : ixD (eRule R) (.int 2) M = some (.bl R.bars, M) := rfl
@[simp] theorem rx3 : ixD (eRule R) (.int 3) M = some (.int R.hops, M) := rfl
@[simp] theorem rx4 : ixD (eRule R) (.int 4) M = some (.int R.marks, M) := rfl
@[simp] theorem rx5 : ixD (eRule R) (.int 5) M = some (eOI R.life, M) := rfl
@[simp] theorem rx6 : ixD (eRule R) (.int 6) M = some (eCp R.cp, M) := rfl
@[simp] theorem rx7 : ixD (eRule R) (.int 7) M = some (ePg R.pg, M) := rfl
@[simp] theorem cx0 : ixD (eRec r) (.int 0) M = some (eOW r.who, M) := rfl
@[simp] theorem cx1 : ixD (eRec r) (.int 1) M = some (eW r.last, M) := rfl
@[simp] theorem cx2 : ixD (eRec r) (.int 2) M = some (.int r.num, M) := rfl
@[simp] theorem cx3 : ixD (eRec r) (.int 3) M = some (.int r.old, M) := rfl
@[simp] theorem cx4 : ixD (eRec r) (.int 4) M = some (eFw r.fw, M) := rfl
@[simp] theorem sx0 : ixD (eScene s) (.int 0) M = some (.int s.age, M) := rfl
@[simp] theorem sx1 : ixD (eScene s) (.int 1) M = some (.tup (s.rows.map eRec), M) := rfl
@[simp] theorem sx2 : ixD (eScene s) (.int 2) M = some (eTh s.th, M) := rfl
@[simp] theorem dT_rec : dT (.tp ts) (eRec r) env = if 5 = ts.len then dTs ts [eOW r.who, eW r.last, .int r.num, .int r.old, eFw r.fw] env else none := by
  rw [eRec, dT_tp]; rfl
@[simp] theorem dT_sc : dT (.tp ts) (eScene s) env = if 3 = ts.len then dTs ts [.int s.age, .tup (s.rows.map eRec), eTh s.th] env else none := by
  rw [eScene, dT_tp]; rfl
@[simp] theorem sl_rec : slD (eRec r) none (some 4) M = some (.tup [eOW r.who, eW r.last, .int r.num, .int r.old], M) := rfl
end
theorem fold_age (R : Rule) (r : Rec) : D.tup [eOW r.who, eW r.last, .int r.num, .int (if topOf R < r.old + (if r.who = none then 1 else 0) then topOf R else r.old + (if r.who = none then 1 else 0)), eFw r.fw] = eRec (age1 R r) := rfl
theorem fold_off (r : Rec) : D.tup [eOW r.who, eW r.last, .int r.num, .int r.old, .str [111, 102, 102]] = eRec (setOff r) := rfl
theorem fold_s1 (n : Int) (x : Rec) (t : Th) : D.tup [.int n, .tup [eRec x], eTh t] = eScene ⟨n, [x], t⟩ := rfl
theorem fold_s2 (n : Int) (x y : Rec) (t : Th) : D.tup [.int n, .tup [eRec x, eRec y], eTh t] = eScene ⟨n, [x, y], t⟩ := rfl
theorem p_aged (R : Rule) (s : Scene) (hs : Sm s.rows) (k : Nat) (M : Sto) : ∃ g, run defs (k + 2) 13 [eRule R, eScene s] M = some (eScene (aged R s), M ++ g) := by
  have hG : ∃ G : Sto → Sto, ∀ M, run defs (k + 1) 7 [eRule R] M = some (.int (topOf R), M ++ G M) := Classical.skolem.mp fun M => p_old R k M
  obtain ⟨G, hG⟩ := hG
  have hf : ∀ r M, run defs (k + 1) 8 [eRule R, eRec r] M = some (.bl (fine R r), M) := fun r M => p_fine R r k M
  have hc : ∀ (s : Scene) (p : Nat) (r : Rec) (M : Sto), Sm s.rows → p < s.rows.length → run defs (k + 1) 10 [eScene s, .int (p : Nat), eRec r] M = some (eScene (cut s p r), M) := fun s p r M h1 h2 => p_cut s p r h1 h2 k M
  rw [run_e (f := fd_13) (env := [some (eRule R), some (eScene s), none, none, none, none, none, none, none, none, none, none, none, none]) rfl rfl rfl]
  generalize RI.run defs (k + 1) = cl at hG hf hc
  obtain ⟨age, rows, th⟩ := s
  have hn : ∃ n, n = if R.life = none then (0 : Int) else age + 1 := ⟨_, rfl⟩
  obtain ⟨n, hn⟩ := hn
  have hcond : (R.life = none ∧ n = 0) ∨ (R.life ≠ none ∧ n = age + 1) := by
    by_cases h : R.life = none
    · exact .inl ⟨h, by rw [hn, if_pos h]⟩
    · exact .inr ⟨h, by rw [hn, if_neg h]⟩
  rcases hs with ⟨a, h⟩ | ⟨b, a, h⟩ <;> simp only [] at h <;> subst h
  · refine ⟨.lst [eRec (age1 R a)] :: G (M ++ [.lst []]), ?_⟩
    have hF : agedF R ⟨age, [a], th⟩ = ⟨n, [age1 R a], th⟩ := by rw [hn]; rfl
    have hc1 := fun M => hc ⟨n, [age1 R a], th⟩ 0 (setOff (age1 R a)) M (.inl ⟨_, rfl⟩) (by simp)
    simp only [Int.natCast_zero] at hc1
    by_cases h1 : goesOff R (age1 R a) = true
    · have e : aged R ⟨age, [a], th⟩ = cut ⟨n, [age1 R a], th⟩ 0 (setOff (age1 R a)) := by
        simp [aged, offAt, hF, h1]
      rw [e]
      generalize eScene (cut _ 0 _) = dr at hc1 ⊢
      rw [goesOff, Bool.and_eq_true] at h1
      have h2 : (age1 R a).fw = .next := of_decide_eq_true h1.1
      have h3 : fine R (age1 R a) = false := by simpa using h1.2
      rcases hcond with ⟨c1, c2⟩ | ⟨c1, c2⟩ <;> subst c2 <;> simp [fd_13, ir_13, sForV_t, hG, fold_age, forF_consG, forF_nilG, hf, h2, h3, c1, fold_s1, fold_off, hc1, -eScene_mk]
    · have e : aged R ⟨age, [a], th⟩ = ⟨n, [age1 R a], th⟩ := by
        simp [aged, offAt, hF, h1]
      rw [e]
      have h4 : ((age1 R a).fw = .next) → fine R (age1 R a) = true := fun h => by
        cases q : fine R (age1 R a)
        · exact absurd (by simp [goesOff, h, q]) h1
        · rfl
      by_cases h2 : (age1 R a).fw = .next
      · rcases hcond with ⟨c1, c2⟩ | ⟨c1, c2⟩ <;> subst c2 <;> simp [fd_13, ir_13, sForV_t, hG, fold_age, forF_consG, forF_nilG, hf, h2, h4 h2, c1, fold_s1, -eScene_mk]
      · rcases hcond with ⟨c1, c2⟩ | ⟨c1, c2⟩ <;> subst c2 <;> simp [fd_13, ir_13, sForV_t, hG, fold_age, forF_consG, forF_nilG, hf, h2, c1, fold_s1, -eScene_mk]
  · refine ⟨.lst [eRec (age1 R b), eRec (age1 R a)] :: (G (M ++ [.lst []]) ++ G (M ++ .lst [eRec (age1 R b)] :: G (M ++ [.lst []]))), ?_⟩
    have hF : agedF R ⟨age, [b, a], th⟩ = ⟨n, [age1 R b, age1 R a], th⟩ := by rw [hn]; rfl
    have hc1 := fun M => hc ⟨n, [age1 R b, age1 R a], th⟩ 0 (setOff (age1 R b)) M (.inr ⟨_, _, rfl⟩) (by simp)
    have hc2 := fun M => hc ⟨n, [age1 R b, age1 R a], th⟩ 1 (setOff (age1 R a)) M (.inr ⟨_, _, rfl⟩) (by simp)
    simp only [Int.natCast_zero] at hc1
    have one : ((1 : Nat) : Int) = 1 := rfl
    simp only [one] at hc2
    have spl : ∀ r, goesOff R r = true ∨ (r.fw = .next ∧ fine R r = true) ∨ r.fw ≠ .next := fun r => by
      by_cases h : r.fw = .next
      · cases q : fine R r
        · exact .inl (by simp [goesOff, h, q])
        · exact .inr (.inl ⟨h, rfl⟩)
      · exact .inr (.inr h)
    have off1 : ∀ r, goesOff R r = true → r.fw = .next ∧ fine R r = false := fun r h => by
      rw [goesOff, Bool.and_eq_true] at h
      exact ⟨of_decide_eq_true h.1, by simpa using h.2⟩
    have on1 : ∀ r, ((r.fw = .next ∧ fine R r = true) ∨ r.fw ≠ .next) → goesOff R r = false := fun r h => by
      rcases h with ⟨h, q⟩ | h <;> simp [goesOff, h]
      exact q
    rcases spl (age1 R b) with hb | hb
    · have e : aged R ⟨age, [b, a], th⟩ = cut ⟨n, [age1 R b, age1 R a], th⟩ 0 (setOff (age1 R b)) := by
        simp [aged, offAt, hF, hb]
      rw [e]
      generalize eScene (cut _ 0 _) = dr at hc1 ⊢
      obtain ⟨h2, h3⟩ := off1 _ hb
      rcases hcond with ⟨c1, c2⟩ | ⟨c1, c2⟩ <;> subst c2 <;> simp [fd_13, ir_13, sForV_t, hG, fold_age, forF_consG, forF_nilG, hf, h2, h3, c1, fold_s2, fold_off, hc1, -eScene_mk]
    · have hb' := on1 _ hb
      rcases spl (age1 R a) with ha | ha
      · have e : aged R ⟨age, [b, a], th⟩ = cut ⟨n, [age1 R b, age1 R a], th⟩ 1 (setOff (age1 R a)) := by
          simp [aged, offAt, hF, ha, hb']
        rw [e]
        generalize eScene (cut _ 1 _) = dr at hc2 ⊢
        obtain ⟨h2, h3⟩ := off1 _ ha
        rcases hb with ⟨b1, b2⟩ | b1
        · rcases hcond with ⟨c1, c2⟩ | ⟨c1, c2⟩ <;> subst c2 <;> simp [fd_13, ir_13, sForV_t, hG, fold_age, forF_consG, forF_nilG, hf, h2, h3, b1, b2, c1, fold_s2, fold_off, hc2, -eScene_mk]
        · rcases hcond with ⟨c1, c2⟩ | ⟨c1, c2⟩ <;> subst c2 <;> simp [fd_13, ir_13, sForV_t, hG, fold_age, forF_consG, forF_nilG, hf, h2, h3, b1, c1, fold_s2, fold_off, hc2, -eScene_mk]
      · have ha' := on1 _ ha
        have e : aged R ⟨age, [b, a], th⟩ = ⟨n, [age1 R b, age1 R a], th⟩ := by
          simp [aged, offAt, hF, ha', hb']
        rw [e]
        rcases hb with ⟨b1, b2⟩ | b1 <;> rcases ha with ⟨a1, a2⟩ | a1
        · rcases hcond with ⟨c1, c2⟩ | ⟨c1, c2⟩ <;> subst c2 <;> simp [fd_13, ir_13, sForV_t, hG, fold_age, forF_consG, forF_nilG, hf, a1, a2, b1, b2, c1, fold_s2, -eScene_mk]
        · rcases hcond with ⟨c1, c2⟩ | ⟨c1, c2⟩ <;> subst c2 <;> simp [fd_13, ir_13, sForV_t, hG, fold_age, forF_consG, forF_nilG, hf, a1, b1, b2, c1, fold_s2, -eScene_mk]
        · rcases hcond with ⟨c1, c2⟩ | ⟨c1, c2⟩ <;> subst c2 <;> simp [fd_13, ir_13, sForV_t, hG, fold_age, forF_consG, forF_nilG, hf, a1, a2, b1, c1, fold_s2, -eScene_mk]
        · rcases hcond with ⟨c1, c2⟩ | ⟨c1, c2⟩ <;> subst c2 <;> simp [fd_13, ir_13, sForV_t, hG, fold_age, forF_consG, forF_nilG, hf, a1, b1, c1, fold_s2, -eScene_mk]
end NW11
end
/-! #### M9 -/
section
set_option Elab.async false
set_option linter.all false
set_option maxRecDepth 100000
set_option maxHeartbeats 8000000
namespace NW11
open RI PySem
/-- the inner loop's body of comings -/
def in14 : ISs := .cons (.if_ (.call 9 (.cons (.var 0) (.cons (.var 8) (.cons (.var 10) (.cons (.var 9) .nil))))) (.cons (.exp (.me .append (.var 5) (.cons (.tup (.cons (.tup (.cons (.cst (.str [116, 97, 107, 101])) (.cons (.var 10) (.cons (.var 9) (.cons (.var 7) .nil))))) (.cons (.call 11 (.cons (.var 0) (.cons (.var 1) (.cons (.var 7) (.cons (.var 10) (.cons (.var 9) .nil)))))) .nil))) .nil)))
  .nil) .nil)
  .nil
def b4_14 : IS := (.if_ (.and (.call 9 (.cons (.var 0) (.cons (.var 8) (.cons (.cst (.str [109, 105, 110, 101])) (.cons (.var 9) .nil))))) (.or (.cmp .Eq (.var 4) (.cst (.str [111, 117, 116]))) (.and (.cmp .Eq (.var 4) (.var 6)) (.cmp .Lt (.var 7) (.var 6))))) (.cons (.asg (.nm 11) (.call 11 (.cons (.var 0) (.cons (.var 1) (.cons (.var 7) (.cons (.cst (.str [109, 105, 110, 101])) (.cons (.var 9) .nil)))))))
  (.cons (.exp (.me .append (.var 5) (.cons (.tup (.cons (.tup (.cons (.cst (.str [99, 104, 97, 110, 103, 101])) (.cons (.var 4) (.cons (.var 7) .nil)))) (.cons (.tup (.cons (.idx (.var 11) (.cst (.int 0))) (.cons (.idx (.var 11) (.cst (.int 1))) (.cons (.var 7) .nil)))) .nil))) .nil)))
  .nil)) .nil)
def it14 : II := (.src (.tup (.cons (.tup (.cons (.cst (.str [109, 105, 110, 101])) (.cons (.cst (.bl true)) .nil))) (.cons (.tup (.cons (.cst (.str [109, 105, 110, 101])) (.cons (.cst (.bl false)) .nil))) (.cons (.tup (.cons (.cst (.str [116, 104, 101, 105, 114, 115])) (.cons (.cst (.bl true)) .nil))) (.cons (.tup (.cons (.cst (.str [116, 104, 101, 105, 114, 115])) (.cons (.cst (.bl false)) .nil))) .nil))))))
def bd14 : ISs := (.cons (.if_ (.cmp .IsNot (.idx (.var 8) (.cst (.int 0))) (.cst .non)) (.cons .cnt
  .nil) .nil)
  (.cons (.for_ it14 (.tp (.cons (.nm 10) (.cons (.nm 9) .nil))) in14)
  (.cons (.asg (.nm 9) (.cmp .Eq (.idx (.var 8) (.cst (.int 1))) (.cst (.str [109, 105, 110, 101]))))
  (.cons b4_14 .nil))))
theorem ir_14_eq : ir_14 = (.cons (.asg (.tp (.cons (.nm 2) (.cons (.nm 3) (.cons (.nm 4) .nil)))) (.var 1))
  (.cons (.par2 5 6 (.cons (.lst .nil) (.cons (.bin .Sub (.bi .len (.cons (.var 3) .nil)) (.cst (.int 1))) .nil)))
  (.cons (.for_ (.enu (.cons (.var 3) .nil)) (.tp (.cons (.nm 7) (.cons (.nm 8) .nil))) bd14)
  (.cons (.ret (.var 5))
  .nil)))) := rfl
def takeIf (R : Rule) (s : Scene) (p : Nat) (r : Rec) (w : Who) (b : Bool) : List (Ev × Scene) := if may R r w b = true then [(.take w b p, come R s p w b)] else []
def takes (R : Rule) (s : Scene) (p : Nat) (r : Rec) : List (Ev × Scene) := takeIf R s p r .me true ++ (takeIf R s p r .me false ++ (takeIf R s p r .th true ++ takeIf R s p r .th false))
def atTh (s : Scene) (p : Nat) : Scene := ⟨s.age, s.rows, .at_ p⟩
def chgs (R : Rule) (s : Scene) (p : Nat) (r : Rec) (top : Nat) : List (Ev × Scene) :=
  if (may R r .me (decide (r.last = .me)) && (decide (s.th = .out) || (decide (s.th = .at_ top) && decide (p < top)))) = true then [(.chg s.th p, atTh (come R s p .me (decide (r.last = .me))) p)] else []
def comeAt (R : Rule) (s : Scene) (p : Nat) (r : Rec) (top : Nat) : List (Ev × Scene) := match r.who with
  | some _ => []
  | none => takes R s p r ++ chgs R s p r top
section
variable {R : Rule} {s : Scene} {p : Nat} {r : Rec} {top : Nat} {cl : Nat → FN} {M : Sto} {acc : List D} {x2 x3 x4 x9 x10 x11 : Option D}
theorem in14_ok (h9 : ∀ w b M, cl 9 [eRule R, eRec r, eW w, .bl b] M = some (.bl (may R r w b), M)) (h11 : ∀ w b M, cl 11 [eRule R, eScene s, .int (p : Nat), eW w, .bl b] M = some (eScene (come R s p w b), M)) (w : Who) (b : Bool) (hl : acc.length < 1000) :
    dSs cl in14 [some (eRule R), some (eScene s), x2, x3, x4, some (.ref M.length), some (.int (top : Nat)), some (.int (p : Nat)), some (eRec r), some (.bl b), some (eW w), x11] (M ++ [.lst acc]) =
      some (.nx [some (eRule R), some (eScene s), x2, x3, x4, some (.ref M.length), some (.int (top : Nat)), some (.int (p : Nat)), some (eRec r), some (.bl b), some (eW w), x11], M ++ [.lst (acc ++ (takeIf R s p r w b).map ePr)]) := by
  have hl' : acc.length < 16777216 := by omega
  cases h : may R r w b <;> simp [in14, h9, h11, h, takeIf, ePr, eEv, hl', -eScene_mk]
theorem takeIf_len (w : Who) (b : Bool) : (takeIf R s p r w b).length ≤ 1 := by unfold takeIf; split <;> simp
theorem loop14_ok (h9 : ∀ w b M, cl 9 [eRule R, eRec r, eW w, .bl b] M = some (.bl (may R r w b), M)) (h11 : ∀ w b M, cl 11 [eRule R, eScene s, .int (p : Nat), eW w, .bl b] M = some (eScene (come R s p w b), M)) (hl : acc.length < 900) :
    dS cl (.for_ it14 (.tp (.cons (.nm 10) (.cons (.nm 9) .nil))) in14) [some (eRule R), some (eScene s), x2, x3, x4, some (.ref M.length), some (.int (top : Nat)), some (.int (p : Nat)), some (eRec r), x9, x10, x11] (M ++ [.lst acc]) =
      some (.nx [some (eRule R), some (eScene s), x2, x3, x4, some (.ref M.length), some (.int (top : Nat)), some (.int (p : Nat)), some (eRec r), some (.bl false), some (eW .th), x11], M ++ [.lst (acc ++ (takes R s p r).map ePr)]) := by
  have i1 := fun acc hl => in14_ok (x2 := x2) (x3 := x3) (x4 := x4) (x11 := x11) (top := top) (acc := acc) (M := M) h9 h11 .me true hl
  have i2 := fun acc hl => in14_ok (x2 := x2) (x3 := x3) (x4 := x4) (x11 := x11) (top := top) (acc := acc) (M := M) h9 h11 .me false hl
  have i3 := fun acc hl => in14_ok (x2 := x2) (x3 := x3) (x4 := x4) (x11 := x11) (top := top) (acc := acc) (M := M) h9 h11 .th true hl
  have i4 := fun acc hl => in14_ok (x2 := x2) (x3 := x3) (x4 := x4) (x11 := x11) (top := top) (acc := acc) (M := M) h9 h11 .th false hl
  have l1 := takeIf_len (R := R) (s := s) (p := p) (r := r) .me true
  have l2 := takeIf_len (R := R) (s := s) (p := p) (r := r) .me false
  have l3 := takeIf_len (R := R) (s := s) (p := p) (r := r) .th true
  generalize hb : dSs cl in14 = body at i1 i2 i3 i4
  rw [dS_for, hb]
  simp only [eW_m, eW_t] at i1 i2 i3 i4
  rw [sFor_e]
  simp [it14]
  rw [i1 _ (by omega)]
  simp
  rw [i2 _ (by simp; omega)]
  simp
  rw [i3 _ (by simp; omega)]
  simp
  rw [i4 _ (by simp; omega)]
  simp [takes]
end
end NW11
end
/-! #### M10 -/
section
set_option Elab.async false
set_option linter.all false
set_option maxRecDepth 100000
set_option maxHeartbeats 8000000
namespace NW11
open RI PySem
section
variable {R : Rule} {s : Scene} {p : Nat} {r : Rec} {top : Nat} {cl : Nat → FN} {M : Sto} {acc : List D} {x2 x3 x4 x9 x10 x11 : Option D}
theorem non_w {w : Who} : isNon (eW w) = false := by cases w <;> rfl
theorem eq_tha {M : Sto} {t : Th} {n : Nat} : eqD (eTh t) (.int (n : Nat)) M = some (decide (t = .at_ n)) := by
  cases t with
  | at_ i => simp; omega
  | _ => simp
theorem b4_ok (h9 : ∀ w b M, cl 9 [eRule R, eRec r, eW w, .bl b] M = some (.bl (may R r w b), M)) (h11 : ∀ w b M, cl 11 [eRule R, eScene s, .int (p : Nat), eW w, .bl b] M = some (eScene (come R s p w b), M)) (hl : acc.length < 1000) :
    ∃ y11, dS cl b4_14 [some (eRule R), some (eScene s), x2, x3, some (eTh s.th), some (.ref M.length), some (.int (top : Nat)), some (.int (p : Nat)), some (eRec r), some (.bl (decide (r.last = .me))), x10, x11] (M ++ [.lst acc]) =
      some (.nx [some (eRule R), some (eScene s), x2, x3, some (eTh s.th), some (.ref M.length), some (.int (top : Nat)), some (.int (p : Nat)), some (eRec r), some (.bl (decide (r.last = .me))), x10, y11], M ++ [.lst (acc ++ (chgs R s p r top).map ePr)]) := by
  have hl' : acc.length < 16777216 := by omega
  have h9' := fun b M => h9 .me b M
  have h11' := fun b M => h11 .me b M
  simp only [eW_m] at h9' h11'
  have hat : ∀ c : Scene, D.tup [.int c.age, .tup (c.rows.map eRec), .int (p : Nat)] = eScene (atTh c p) := fun c => rfl
  by_cases hm : may R r .me (decide (r.last = .me)) = true
  · by_cases ho : s.th = .out
    · refine ⟨some (eScene (come R s p .me (decide (r.last = .me)))), ?_⟩
      have hc : chgs R s p r top = [(.chg s.th p, atTh (come R s p .me (decide (r.last = .me))) p)] := by unfold chgs; rw [if_pos (by simp [hm, ho])]
      rw [hc]
      simp [b4_14, h9', h11', hm, ho, ePr, eEv, hl', hat, -eScene_mk]
    · by_cases ha : s.th = .at_ top ∧ p < top
      · refine ⟨some (eScene (come R s p .me (decide (r.last = .me)))), ?_⟩
        have hc : chgs R s p r top = [(.chg s.th p, atTh (come R s p .me (decide (r.last = .me))) p)] := by unfold chgs; rw [if_pos (by simp [hm, ha])]
        rw [hc]
        have h1 : (p : Int) < (top : Int) := by have := ha.2; omega
        simp [b4_14, h9', h11', hm, ho, ePr, eEv, hl', hat, eq_tha, ha.1, h1, ha.2, -eScene_mk]
      · refine ⟨x11, ?_⟩
        have hc : chgs R s p r top = [] := by
          unfold chgs
          rw [if_neg]
          simp only [hm, ho, decide_false, Bool.false_or, Bool.true_and, Bool.and_eq_true, decide_eq_true_eq]
          exact ha
        rw [hc]
        by_cases h1 : s.th = .at_ top
        · have h2 : ¬ p < top := fun h => ha ⟨h1, h⟩
          have h3 : ¬ (p : Int) < (top : Int) := by omega
          simp [b4_14, h9', h11', hm, ho, eq_tha, h1, h2, h3, -eScene_mk]
        · simp [b4_14, h9', h11', hm, ho, eq_tha, h1, -eScene_mk]
  · refine ⟨x11, ?_⟩
    have hc : chgs R s p r top = [] := by unfold chgs; rw [if_neg (by simp [hm])]
    rw [hc]
    simp [b4_14, h9', h11', hm, -eScene_mk]
theorem bd14_ok (h9 : ∀ w b M, cl 9 [eRule R, eRec r, eW w, .bl b] M = some (.bl (may R r w b), M)) (h11 : ∀ w b M, cl 11 [eRule R, eScene s, .int (p : Nat), eW w, .bl b] M = some (eScene (come R s p w b), M)) (hl : acc.length < 900) :
    ∃ y9 y10 y11, ∀ k, lpK (dSs cl bd14 [some (eRule R), some (eScene s), x2, x3, some (eTh s.th), some (.ref M.length), some (.int (top : Nat)), some (.int (p : Nat)), some (eRec r), x9, x10, x11] (M ++ [.lst acc])) k =
      k [some (eRule R), some (eScene s), x2, x3, some (eTh s.th), some (.ref M.length), some (.int (top : Nat)), some (.int (p : Nat)), some (eRec r), y9, y10, y11] (M ++ [.lst (acc ++ (comeAt R s p r top).map ePr)]) := by
  cases hw : r.who with
  | some w =>
    refine ⟨x9, x10, x11, fun k => ?_⟩
    have hc : comeAt R s p r top = [] := by unfold comeAt; rw [hw]
    rw [hc]
    simp [bd14, hw, non_w, -eScene_mk]
  | none =>
    have hc : comeAt R s p r top = takes R s p r ++ chgs R s p r top := by unfold comeAt; rw [hw]
    have tl : (takes R s p r).length ≤ 4 := by
      have l1 := takeIf_len (R := R) (s := s) (p := p) (r := r) .me true
      have l2 := takeIf_len (R := R) (s := s) (p := p) (r := r) .me false
      have l3 := takeIf_len (R := R) (s := s) (p := p) (r := r) .th true
      have l4 := takeIf_len (R := R) (s := s) (p := p) (r := r) .th false
      simp [takes]; omega
    obtain ⟨y11, h4⟩ := b4_ok (R := R) (s := s) (p := p) (r := r) (top := top) (cl := cl) (M := M) (acc := acc ++ (takes R s p r).map ePr) (x2 := x2) (x3 := x3) (x10 := some (eW .th)) (x11 := x11) h9 h11 (by simp; omega)
    have h3 := loop14_ok (R := R) (s := s) (p := p) (r := r) (top := top) (cl := cl) (M := M) (acc := acc) (x2 := x2) (x3 := x3) (x4 := some (eTh s.th)) (x9 := x9) (x10 := x10) (x11 := x11) h9 h11 hl
    refine ⟨some (.bl (decide (r.last = .me))), some (eW .th), y11, fun k => ?_⟩
    rw [hc]
    generalize hL : dS cl (.for_ it14 (.tp (.cons (.nm 10) (.cons (.nm 9) .nil))) in14) = L at h3
    generalize hB : dS cl b4_14 = B at h4
    rw [bd14, dSs_cons, dSs_cons, dSs_cons, dSs_cons, hL, hB]
    simp only [dSs_nil, sSeq_e]
    have h1 : dS cl (.if_ (.cmp .IsNot (.idx (.var 8) (.cst (.int 0))) (.cst .non)) (.cons .cnt .nil) .nil) [some (eRule R), some (eScene s), x2, x3, some (eTh s.th), some (.ref M.length), some (.int (top : Nat)), some (.int (p : Nat)), some (eRec r), x9, x10, x11] (M ++ [.lst acc]) = some (.nx [some (eRule R), some (eScene s), x2, x3, some (eTh s.th), some (.ref M.length), some (.int (top : Nat)), some (.int (p : Nat)), some (eRec r), x9, x10, x11], M ++ [.lst acc]) := by
      simp [hw]
    rw [h1, seqK_nx, sSeq_e, h3, seqK_nx, sSeq_e]
    have h5 : dS cl (.asg (.nm 9) (.cmp .Eq (.idx (.var 8) (.cst (.int 1))) (.cst (.str [109, 105, 110, 101])))) [some (eRule R), some (eScene s), x2, x3, some (eTh s.th), some (.ref M.length), some (.int (top : Nat)), some (.int (p : Nat)), some (eRec r), some (.bl false), some (eW .th), x11] (M ++ [.lst (acc ++ (takes R s p r).map ePr)]) = some (.nx [some (eRule R), some (eScene s), x2, x3, some (eTh s.th), some (.ref M.length), some (.int (top : Nat)), some (.int (p : Nat)), some (eRec r), some (.bl (decide (r.last = .me))), some (eW .th), x11], M ++ [.lst (acc ++ (takes R s p r).map ePr)]) := by
      simp
    rw [h5, seqK_nx, sSeq_e, h4, seqK_nx, sNil_e, lpK_nx, List.map_append, List.append_assoc]
end
def comings (R : Rule) (s : Scene) (low : List Rec) (a : Rec) : List (Ev × Scene) := match low with
  | [] => comeAt R s 0 a 0
  | b :: _ => comeAt R s 0 b 1 ++ comeAt R s 1 a 1
theorem comeAt_len (R : Rule) (s : Scene) (p : Nat) (r : Rec) (top : Nat) : (comeAt R s p r top).length ≤ 5 := by
  have l1 := takeIf_len (R := R) (s := s) (p := p) (r := r) .me true
  have l2 := takeIf_len (R := R) (s := s) (p := p) (r := r) .me false
  have l3 := takeIf_len (R := R) (s := s) (p := p) (r := r) .th true
  have l4 := takeIf_len (R := R) (s := s) (p := p) (r := r) .th false
  have l5 : (chgs R s p r top).length ≤ 1 := by unfold chgs; split <;> simp
  unfold comeAt
  split
  · simp
  · simp [takes]; omega
theorem p_comings (R : Rule) (s : Scene) (a : Rec) (low : List Rec) (hl : low = [] ∨ ∃ b, low = [b]) (hs : s.rows = low ++ [a]) (hm : 0 < R.marks) (k : Nat) (M : Sto) :
    run defs (k + 3) 14 [eRule R, eScene s] M = some (.ref M.length, M ++ [.lst ((comings R s low a).map ePr)]) := by
  have hsm : Sm s.rows := by rw [hs]; rcases hl with rfl | ⟨b, rfl⟩ <;> first | exact .inl ⟨_, rfl⟩ | exact .inr ⟨_, _, rfl⟩
  have h9 : ∀ r w b M, run defs (k + 2) 9 [eRule R, eRec r, eW w, .bl b] M = some (.bl (may R r w b), M) := fun r w b M => p_may R r w b k M
  have h11 : ∀ p, p < s.rows.length → ∀ w b M, run defs (k + 2) 11 [eRule R, eScene s, .int (p : Nat), eW w, .bl b] M = some (eScene (come R s p w b), M) := fun p hp w b M => p_come R s p w b hsm hp hm k M
  rw [run_e (f := fd_14) (env := [some (eRule R), some (eScene s), none, none, none, none, none, none, none, none, none, none]) rfl rfl rfl]
  show retK (dSs _ ir_14 _ _) = _
  rw [ir_14_eq]
  generalize RI.run defs (k + 2) = cl at h9 h11
  rcases hl with rfl | ⟨b, rfl⟩
  · have hb := bd14_ok (R := R) (s := s) (p := 0) (r := a) (top := 0) (cl := cl) (M := M) (acc := []) (x2 := some (.int s.age)) (x3 := some (.tup [eRec a])) (x9 := none) (x10 := none) (x11 := none) (h9 a) (h11 0 (by rw [hs]; simp)) (by simp)
    obtain ⟨y9, y10, y11, hb⟩ := hb
    generalize hB : dSs cl bd14 = body at hb
    simp [hs, hB, -eScene_mk]
    simp at hb
    rw [hb]
    simp [comings]
  · have hb := bd14_ok (R := R) (s := s) (p := 0) (r := b) (top := 1) (cl := cl) (M := M) (acc := []) (x2 := some (.int s.age)) (x3 := some (.tup [eRec b, eRec a])) (x9 := none) (x10 := none) (x11 := none) (h9 b) (h11 0 (by rw [hs]; simp)) (by simp)
    obtain ⟨y9, y10, y11, hb⟩ := hb
    have ll := comeAt_len R s 0 b 1
    have hb2 := bd14_ok (R := R) (s := s) (p := 1) (r := a) (top := 1) (cl := cl) (M := M) (acc := [] ++ (comeAt R s 0 b 1).map ePr) (x2 := some (.int s.age)) (x3 := some (.tup [eRec b, eRec a])) (x9 := y9) (x10 := y10) (x11 := y11) (h9 a) (h11 1 (by rw [hs]; simp)) (by simp; omega)
    obtain ⟨z9, z10, z11, hb2⟩ := hb2
    generalize hB : dSs cl bd14 = body at hb hb2
    simp [hs, hB, -eScene_mk]
    simp at hb hb2
    rw [hb]
    simp
    rw [hb2]
    simp [comings]
end NW11
end
/-! #### M11 -/
section
set_option Elab.async false
set_option linter.all false
set_option maxRecDepth 100000
set_option maxHeartbeats 8000000
namespace NW11
open RI PySem
theorem add_step {f g : EF} {env : En} {M M1 h : Sto} {i j : Nat} {xs ys : List D} (hf : f env M = some (.ref i, M1)) (hi : M1[i]? = some (.lst xs)) (hg : g env M1 = some (.ref j, M1 ++ h)) (hj : (M1 ++ h)[j]? = some (.lst ys)) (hl : xs.length + ys.length ≤ 16777216) :
    eOp (binD .Add) f g env M = some (.ref (M1 ++ h).length, M1 ++ h ++ [.lst (xs ++ ys)]) := by
  have hi' : (M1 ++ h)[i]? = some (.lst xs) := by rw [List.getElem?_append_left (List.getElem?_eq_some_iff.mp hi).1]; exact hi
  rw [eOp_e, hf, bnd_s, hg, bnd_s, add_rr hi' hj, if_pos hl]
def inLife (R : Rule) (x : Ev × Scene) : Bool := match R.life with
  | none => true
  | some l => decide (x.2.age ≤ l)
def steps0 (R : Rule) (s : Scene) (low : List Rec) (a : Rec) : List (Ev × Scene) := [(.tick, aged R s)] ++ comings R s low a ++ leaves R s low a ++ copies R s low a
def steps (R : Rule) (s : Scene) (low : List Rec) (a : Rec) : List (Ev × Scene) := (steps0 R s low a).filter (inLife R)
theorem comings_len (R : Rule) (s : Scene) (low : List Rec) (a : Rec) : (comings R s low a).length ≤ 10 := by
  unfold comings
  split
  · have := comeAt_len R s 0 a 0; omega
  · rename_i b _
    have := comeAt_len R s 0 b 1
    have := comeAt_len R s 1 a 1
    simp; omega
theorem leaves_len (R : Rule) (s : Scene) (low : List Rec) (a : Rec) : (leaves R s low a).length ≤ 4 := by
  unfold leaves
  split
  · simp
  · rename_i w _
    unfold leavesW
    by_cases h1 : R.pg = .no <;> by_cases h2 : w = .me <;> simp [h1, h2]
theorem copies_len (R : Rule) (s : Scene) (low : List Rec) (a : Rec) : (copies R s low a).length ≤ 1 := by
  unfold copies
  split <;> try simp
  split <;> simp
def cond17 : IE := (.or (.cmp .Is (.idx (.var 0) (.cst (.int 5))) (.cst .non)) (.cmp .LtE (.idx (.var 4) (.cst (.int 0))) (.idx (.var 0) (.cst (.int 5)))))
theorem comp17 {R : Rule} {cl : Nat → FN} {x1 x2 x3 x4 : Option D} {r : Nat} {o : MO} {M : Sto} (hg : gdB [(r, o)] M = true) : ∀ (L : List (Ev × Scene)) (acc : List D), acc.length + L.length < 1000 →
    compF [3, 4] (.tp (.cons (.nm 3) (.cons (.nm 4) .nil))) (bOf (dE cl cond17)) (dE cl (.tup (.cons (.var 3) (.cons (.var 4) .nil)))) [(r, o)] (L.map ePr) [some (eRule R), x1, x2, x3, x4] M acc = some (acc ++ (L.filter (inLife R)).map ePr, M)
  | [], acc, _ => by simp [compF_nilG hg]
  | (e, s) :: L, acc, hl => by
    have hl' : acc.length + (L.length + 1) < 1000 := by simpa using hl
    have ha : acc.length < 16777216 := by omega
    rw [List.map_cons, compF_consG hg]
    have hd : dT (.tp (.cons (.nm 3) (.cons (.nm 4) .nil))) (ePr (e, s)) [some (eRule R), x1, x2, x3, x4] = some [some (eRule R), x1, x2, some (eEv e), some (eScene s)] := by simp [ePr]
    rw [hd, dtC_s]
    have hc : bOf (dE cl cond17) [some (eRule R), x1, x2, some (eEv e), some (eScene s)] M = some (inLife R (e, s), M) := by
      cases h : R.life <;> simp [cond17, inLife, h, -eScene_mk]
    rw [hc, bnd_s]
    have he : dE cl (.tup (.cons (.var 3) (.cons (.var 4) .nil))) [some (eRule R), x1, x2, some (eEv e), some (eScene s)] M = some (ePr (e, s), M) := by simp [ePr, -eScene_mk]
    cases hi : inLife R (e, s) with
    | true =>
      rw [if_pos rfl, he, bnd_s, if_pos ha, comp17 hg L _ (by simp; omega)]
      simp [hi]
    | false =>
      rw [if_neg (by simp), comp17 hg L _ (by omega)]
      simp [hi]
def sum17 : IE := (.bin .Add (.bin .Add (.bin .Add (.lst (.cons (.tup (.cons (.tup (.cons (.cst (.str [116, 105, 99, 107])) .nil)) (.cons (.call 13 (.cons (.var 0) (.cons (.var 1) .nil))) .nil))) .nil)) (.call 14 (.cons (.var 0) (.cons (.var 1) .nil)))) (.call 15 (.cons (.var 0) (.cons (.var 1) .nil)))) (.call 16 (.cons (.var 0) (.cons (.var 1) .nil))))
theorem ir_17_eq : ir_17 = (.cons (.asg (.nm 2) sum17)
  (.cons (.ret (.comp (.src (.var 2)) (.tp (.cons (.nm 3) (.cons (.nm 4) .nil))) (.some cond17) (.tup (.cons (.var 3) (.cons (.var 4) .nil))) [3, 4]))
  .nil)) := rfl
theorem p_steps (R : Rule) (s : Scene) (a : Rec) (low : List Rec) (hl : low = [] ∨ ∃ b, low = [b]) (hs : s.rows = low ++ [a]) (hh : R.hops ≤ 1) (hm : 0 < R.marks) (k : Nat) (M : Sto) :
    ∃ g r, run defs (k + 4) 17 [eRule R, eScene s] M = some (.ref r, M ++ g) ∧ M.length ≤ r ∧ (M ++ g)[r]? = some (.lst ((steps R s low a).map ePr)) := by
  have hsm : Sm s.rows := by rw [hs]; rcases hl with rfl | ⟨b, rfl⟩ <;> first | exact .inl ⟨_, rfl⟩ | exact .inr ⟨_, _, rfl⟩
  obtain ⟨g1, h13⟩ := p_aged R s hsm (k + 1) M
  have h14 := fun M => p_comings R s a low hl hs hm k M
  have h15 := fun M => p_leave R s a low hl hs hh hm (k + 1) M
  have h16 := fun M => p_copies R s a low hl hs (k + 2) M
  rw [run_e (f := fd_17) (env := [some (eRule R), some (eScene s), none, none, none]) rfl rfl rfl]
  show ∃ g r, retK (dSs _ ir_17 _ _) = _ ∧ _
  rw [ir_17_eq]
  generalize RI.run defs (k + 3) = cl at h13 h14 h15 h16
  have c1 := comings_len R s low a
  have c2 := leaves_len R s low a
  have c3 := copies_len R s low a
  -- the sum
  have e1 : dE cl (.lst (.cons (.tup (.cons (.tup (.cons (.cst (.str [116, 105, 99, 107])) .nil)) (.cons (.call 13 (.cons (.var 0) (.cons (.var 1) .nil))) .nil))) .nil)) [some (eRule R), some (eScene s), none, none, none] M = some (.ref (M ++ g1).length, (M ++ g1) ++ [.lst ([(Ev.tick, aged R s)].map ePr)]) := by
    simp [h13, ePr, eEv, -eScene_mk]
  have call : ∀ i M x, cl i [eRule R, eScene s] M = x → dE cl (.call i (.cons (.var 0) (.cons (.var 1) .nil))) [some (eRule R), some (eScene s), none, none, none] M = x := fun i M x h => by simp [h, -eScene_mk]
  have e2 := add_step e1 List.getElem?_concat_length (call 14 _ _ (h14 _)) List.getElem?_concat_length (by simp; omega)
  have e3 := add_step e2 List.getElem?_concat_length (call 15 _ _ (h15 _)) List.getElem?_concat_length (by simp; omega)
  have e4 := add_step e3 List.getElem?_concat_length (call 16 _ _ (h16 _)) List.getElem?_concat_length (by simp; omega)
  have hsum : dE cl sum17 = eOp (binD .Add) (eOp (binD .Add) (eOp (binD .Add) (dE cl (.lst (.cons (.tup (.cons (.tup (.cons (.cst (.str [116, 105, 99, 107])) .nil)) (.cons (.call 13 (.cons (.var 0) (.cons (.var 1) .nil))) .nil))) .nil))) (dE cl (.call 14 (.cons (.var 0) (.cons (.var 1) .nil))))) (dE cl (.call 15 (.cons (.var 0) (.cons (.var 1) .nil))))) (dE cl (.call 16 (.cons (.var 0) (.cons (.var 1) .nil)))) := rfl
  rw [← hsum] at e4
  have hall : ([(Ev.tick, aged R s)].map ePr ++ (comings R s low a).map ePr ++ (leaves R s low a).map ePr ++ (copies R s low a).map ePr) = (steps0 R s low a).map ePr := by simp [steps0]
  rw [hall] at e4
  have h0 : (steps0 R s low a).length < 100 := by simp [steps0]; omega
  generalize hX : dE cl sum17 = X at e4
  generalize hMM : (M ++ g1 ++ [MO.lst (List.map ePr [(Ev.tick, aged R s)])] ++ [MO.lst (List.map ePr (comings R s low a))] ++ [MO.lst (List.map ePr [(Ev.tick, aged R s)] ++ List.map ePr (comings R s low a))] ++ [MO.lst (List.map ePr (leaves R s low a))] ++ [MO.lst (List.map ePr [(Ev.tick, aged R s)] ++ List.map ePr (comings R s low a) ++ List.map ePr (leaves R s low a))] ++ [MO.lst (List.map ePr (copies R s low a))]) = MM at e4
  have hpre : ∃ g, MM = M ++ g := by rw [← hMM]; simp only [List.append_assoc]; exact ⟨_, rfl⟩
  obtain ⟨g, hg⟩ := hpre
  have hcomp := comp17 (R := R) (cl := cl) (x1 := some (eScene s)) (x2 := some (.ref MM.length)) (x3 := none) (x4 := none) (r := MM.length) (o := .lst ((steps0 R s low a).map ePr)) (M := MM ++ [.lst ((steps0 R s low a).map ePr)]) (by simp) (steps0 R s low a) [] (by simp; omega)
  refine ⟨g ++ [.lst ((steps0 R s low a).map ePr)] ++ [.lst ((steps R s low a).map ePr)], MM.length + 1, ?_, by rw [hg]; simp; omega, ?_⟩
  · rw [dSs_cons, dS_asg, hX, sSeq_e, sAsg_e, e4, bnd_s]
    simp only [dT_nm, Option.map_some, seqK_nx, dSs_cons, sSeq_e, dS_ret, sRet_e, dE_comp, eComp_e, dI_src, iSrcF_e, dE_var, eVar_e, dO_some, List.set_cons_succ, List.set_cons_zero, List.getElem?_cons_succ, List.getElem?_cons_zero, getK_s, bnd_s, src_r, wipeE_c, wipeE_n]
    rw [hcomp]
    simp [steps, hg]
    omega
  · have : M ++ (g ++ [.lst ((steps0 R s low a).map ePr)] ++ [.lst ((steps R s low a).map ePr)]) = MM ++ [.lst ((steps0 R s low a).map ePr), .lst ((steps R s low a).map ePr)] := by rw [hg]; simp
    rw [this]
    exact gA1
end NW11
end
/-! #### M12 -/
section
set_option Elab.async false
set_option linter.all false
set_option maxRecDepth 100000
set_option maxHeartbeats 8000000
namespace NW11
open RI PySem
/-! ### the rules and scenes that come about -/
structure ROk (R : Rule) : Prop where
  h0 : 0 ≤ R.hops
  h1 : R.hops ≤ 1
  m0 : 0 < R.marks
  m1 : R.marks ≤ 3
  w : ∀ x, R.wait = some x → 0 ≤ x ∧ x ≤ 3
  f : ∀ x, R.fwd = some x → 0 ≤ x ∧ x ≤ 3
  l : ∀ x, R.life = some x → 0 ≤ x ∧ x ≤ 4
theorem top_bd {R : Rule} (h : ROk R) : 0 ≤ topOf R ∧ topOf R ≤ 3 := by
  obtain ⟨m1, m2⟩ := maxL_spec (ns := 0 :: (R.wait.toList ++ R.fwd.toList)) (by simp)
  refine ⟨m2 0 (by simp), ?_⟩
  rcases List.mem_cons.mp m1 with e | e
  · show maxL _ ≤ 3
    rw [e]; decide
  · rcases List.mem_append.mp e with e | e
    · cases hw : R.wait with
      | none => rw [hw] at e; simp at e
      | some x =>
        have hx := h.w x hw
        have e2 : topOf R = x := by
          have : maxL (0 :: (R.wait.toList ++ R.fwd.toList)) ∈ R.wait.toList := e
          rw [hw] at this
          simp at this
          show maxL _ = x
          rw [hw]; exact this
        omega
    · cases hw : R.fwd with
      | none => rw [hw] at e; simp at e
      | some x =>
        have hx := h.f x hw
        have e2 : topOf R = x := by
          have : maxL (0 :: (R.wait.toList ++ R.fwd.toList)) ∈ R.fwd.toList := e
          rw [hw] at this
          simp at this
          show maxL _ = x
          rw [hw]; exact this
        omega
structure COk (R : Rule) (r : Rec) : Prop where
  n0 : 0 ≤ r.num
  n1 : r.num < R.marks
  o0 : 0 ≤ r.old
  o1 : r.old ≤ topOf R
/-- the top row a over low -/
structure SOk (R : Rule) (s : Scene) (low : List Rec) (a : Rec) : Prop where
  rows : s.rows = low ++ [a]
  lo : low = [] ∨ ∃ b, low = [b] ∧ b.who = none ∧ COk R b
  to : COk R a
  th : ∀ i, s.th = .at_ i → i = low.length ∧ a.who = some .me
  age : 0 ≤ s.age
  ageN : R.life = none → s.age = 0
def Ok (R : Rule) (s : Scene) : Prop := ∃ low a, SOk R s low a
theorem SOk.low' {R : Rule} {s : Scene} {low : List Rec} {a : Rec} (h : SOk R s low a) : low = [] ∨ ∃ b, low = [b] := by
  rcases h.lo with h | ⟨b, h, _⟩
  · exact .inl h
  · exact .inr ⟨b, h⟩
/-- the parts of a scene are told by its rows -/
theorem SOk.uniq {R : Rule} {s : Scene} {low low2 : List Rec} {a a2 : Rec} (h : SOk R s low a) (h2 : SOk R s low2 a2) : low2 = low ∧ a2 = a := by
  have e := h.rows.symm.trans h2.rows
  have := List.append_inj' e (by simp)
  exact ⟨this.1.symm, by simpa using this.2.symm⟩
theorem mod_ok {R : Rule} (hR : ROk R) (n : Int) : 0 ≤ n % R.marks ∧ n % R.marks < R.marks := ⟨Int.emod_nonneg _ (by have := hR.m0; omega), Int.emod_lt_of_pos _ hR.m0⟩
theorem age1_ok {R : Rule} (hR : ROk R) {r : Rec} (h : COk R r) : COk R (age1 R r) := by
  obtain ⟨t0, t1⟩ := top_bd hR
  have ho := h.o0
  have hx : (0 : Int) ≤ (if r.who = none then 1 else 0) := by split <;> omega
  refine ⟨h.n0, h.n1, ?_, ?_⟩ <;> simp only [age1, amin] <;> generalize (if r.who = none then (1 : Int) else 0) = x at hx ⊢ <;> split <;> omega
theorem new_ok {R : Rule} (hR : ROk R) (w : Option Who) (l : Who) (f : Fw) {n : Int} (h0 : 0 ≤ n) (h1 : n < R.marks) : COk R ⟨w, l, n, 0, f⟩ := ⟨h0, h1, Int.le_refl _, (top_bd hR).1⟩
theorem cut0 {R : Rule} {s : Scene} {r : Rec} (hr : COk R r) (h0 : 0 ≤ s.age) (hN : R.life = none → s.age = 0) (ht : ∀ i, s.th = .at_ i → i ≠ 0 ∨ r.who = some .me) : SOk R (cut s 0 r) [] r := by
  refine ⟨by simp [cut], .inl rfl, hr, fun i hi => ?_, h0, hN⟩
  simp only [cut] at hi
  cases h : s.th with
  | no => rw [h] at hi; cases hi
  | out => rw [h] at hi; cases hi
  | at_ j =>
    rw [h] at hi
    simp only at hi
    split at hi
    · cases hi
    · rename_i hj
      have e : j = i := by injection hi
      subst e
      have : j = 0 := by omega
      subst this
      rcases ht 0 h with z | z
      · exact absurd rfl z
      · exact ⟨rfl, z⟩
theorem cut1 {R : Rule} {s : Scene} {a b r : Rec} (hs : s.rows = [b, a]) (hb : b.who = none) (hbc : COk R b) (hr : COk R r) (h0 : 0 ≤ s.age) (hN : R.life = none → s.age = 0) (ht : ∀ i, s.th = .at_ i → i = 1 ∧ r.who = some .me) : SOk R (cut s 1 r) [b] r := by
  refine ⟨by simp [cut, hs], .inr ⟨b, rfl, hb, hbc⟩, hr, fun i hi => ?_, h0, hN⟩
  simp only [cut] at hi
  cases h : s.th with
  | no => rw [h] at hi; cases hi
  | out => rw [h] at hi; cases hi
  | at_ j =>
    rw [h] at hi
    simp only at hi
    obtain ⟨e, z⟩ := ht j h
    subst e
    rw [if_neg (by omega)] at hi
    cases hi
    exact ⟨rfl, z⟩
theorem aged_ok {R : Rule} (hR : ROk R) {s : Scene} {low : List Rec} {a : Rec} (h : SOk R s low a) : Ok R (aged R s) := by
  obtain ⟨age, rows, th⟩ := s
  obtain ⟨hrows, hlow, ha, hth, hage, hN⟩ := h
  simp only [] at hrows hth hage hN
  have ga : 0 ≤ (if R.life = none then (0 : Int) else age + 1) := by split <;> omega
  have gN : R.life = none → (if R.life = none then (0 : Int) else age + 1) = 0 := fun h => by rw [if_pos h]
  have a1 := age1_ok hR ha
  have aw : (age1 R a).who = a.who := rfl
  rcases hlow with rfl | ⟨b, rfl, hb, hbc⟩
  · subst hrows
    by_cases h1 : goesOff R (age1 R a) = true
    · have e : aged R ⟨age, [] ++ [a], th⟩ = cut (agedF R ⟨age, [a], th⟩) 0 (setOff (age1 R a)) := by simp [aged, offAt, h1]
      rw [e]
      exact ⟨_, _, cut0 ⟨a1.n0, a1.n1, a1.o0, a1.o1⟩ ga gN fun i hi => .inr (hth i hi).2⟩
    · have e : aged R ⟨age, [] ++ [a], th⟩ = agedF R ⟨age, [a], th⟩ := by simp [aged, offAt, h1]
      rw [e]
      exact ⟨[], age1 R a, rfl, .inl rfl, a1, fun i hi => hth i hi, ga, gN⟩
  · subst hrows
    have b1 := age1_ok hR hbc
    have F : agedF R ⟨age, [b, a], th⟩ = ⟨if R.life = none then 0 else age + 1, [age1 R b, age1 R a], th⟩ := rfl
    by_cases h1 : goesOff R (age1 R b) = true
    · have e : aged R ⟨age, [b] ++ [a], th⟩ = cut (agedF R ⟨age, [b, a], th⟩) 0 (setOff (age1 R b)) := by simp [aged, offAt, h1]
      rw [e]
      refine ⟨_, _, cut0 ⟨b1.n0, b1.n1, b1.o0, b1.o1⟩ ga gN fun i hi => .inl ?_⟩
      have := (hth i hi).1
      simp at this; omega
    · by_cases h2 : goesOff R (age1 R a) = true
      · have e : aged R ⟨age, [b] ++ [a], th⟩ = cut (agedF R ⟨age, [b, a], th⟩) 1 (setOff (age1 R a)) := by simp [aged, offAt, h1, h2]
        rw [e]
        exact ⟨_, _, cut1 (a := age1 R a) (b := age1 R b) rfl hb b1 ⟨a1.n0, a1.n1, a1.o0, a1.o1⟩ ga gN fun i hi => hth i hi⟩
      · have e : aged R ⟨age, [b] ++ [a], th⟩ = agedF R ⟨age, [b, a], th⟩ := by simp [aged, offAt, h1, h2]
        rw [e]
        exact ⟨[age1 R b], age1 R a, rfl, .inr ⟨_, rfl, hb, b1⟩, a1, fun i hi => hth i hi, ga, gN⟩
end NW11
end
/-! #### M13 -/
section
set_option Elab.async false
set_option linter.all false
set_option maxRecDepth 100000
set_option maxHeartbeats 8000000
namespace NW11
open RI PySem
/-- a row that one may come to is one of the rows; the thread is elsewhere -/
theorem come_ok {R : Rule} (hR : ROk R) {s : Scene} {low : List Rec} {a : Rec} (h : SOk R s low a) {p : Nat} {r : Rec} (hp : s.rows[p]? = some r) (hr : r.who = none) (w : Who) (back : Bool) :
    ∃ low' a', SOk R (come R s p w back) low' a' ∧ low'.length = p ∧ a'.who = some w := by
  have nb := mod_ok hR ((s.rows.getD p nobody).num + (if back = true then 0 else 1))
  have ht : ∀ i, s.th = .at_ i → i ≠ p := fun i hi e => by
    obtain ⟨e1, e2⟩ := h.th i hi
    subst e
    rw [h.rows, e1, List.getElem?_append_right (Nat.le_refl _)] at hp
    simp at hp
    rw [hp, hr] at e2
    cases e2
  have new : ∀ w, COk R ⟨some w, w, ((s.rows.getD p nobody).num + (if back = true then 0 else 1)) % R.marks, 0, .none⟩ := fun w => new_ok hR _ _ _ nb.1 nb.2
  rcases h.lo with e | ⟨b, e, hb, hbc⟩
  · subst e
    have hp0 : p = 0 := by
      have := (List.getElem?_eq_some_iff.mp hp).1
      rw [h.rows] at this
      simp at this; exact this
    subst hp0
    exact ⟨[], _, cut0 (new w) h.age h.ageN fun i hi => .inl (ht i hi), rfl, rfl⟩
  · subst e
    have hp2 : p = 0 ∨ p = 1 := by
      have := (List.getElem?_eq_some_iff.mp hp).1
      rw [h.rows] at this
      simp at this; omega
    rcases hp2 with rfl | rfl
    · exact ⟨[], _, cut0 (new w) h.age h.ageN fun i hi => .inl (ht i hi), rfl, rfl⟩
    · exact ⟨[b], _, cut1 (a := a) (b := b) h.rows hb hbc (new w) h.age h.ageN fun i hi => absurd (h.th i hi).1 (ht i hi), rfl, rfl⟩
theorem takeIf_ok {R : Rule} (hR : ROk R) {s : Scene} {low : List Rec} {a : Rec} (h : SOk R s low a) {p : Nat} {r : Rec} (hp : s.rows[p]? = some r) (hr : r.who = none) (w : Who) (b : Bool) {x : Ev × Scene} (hx : x ∈ takeIf R s p r w b) : Ok R x.2 ∧ evOk s x.1 := by
  unfold takeIf at hx
  split at hx
  · rw [List.mem_singleton] at hx
    subst hx
    obtain ⟨l, t, h1, _⟩ := come_ok hR h hp hr w b
    exact ⟨⟨l, t, h1⟩, trivial⟩
  · simp at hx
theorem atTh_ok {R : Rule} {s : Scene} {low : List Rec} {a : Rec} (h : SOk R s low a) {p : Nat} (hp : low.length = p) (ha : a.who = some .me) : Ok R (atTh s p) :=
  ⟨low, a, h.rows, h.lo, h.to, fun i hi => by
    have : Th.at_ p = Th.at_ i := hi
    injection this with e
    exact ⟨by rw [← e, hp], ha⟩, h.age, h.ageN⟩
theorem comeAt_ok {R : Rule} (hR : ROk R) {s : Scene} {low : List Rec} {a : Rec} (h : SOk R s low a) {p : Nat} {r : Rec} (hp : s.rows[p]? = some r) {x : Ev × Scene} (hx : x ∈ comeAt R s p r low.length) : Ok R x.2 ∧ evOk s x.1 := by
  unfold comeAt at hx
  split at hx
  · simp at hx
  · rename_i hr
    rcases List.mem_append.mp hx with hx | hx
    · unfold takes at hx
      rcases List.mem_append.mp hx with hx | hx
      · exact takeIf_ok hR h hp hr _ _ hx
      · rcases List.mem_append.mp hx with hx | hx
        · exact takeIf_ok hR h hp hr _ _ hx
        · rcases List.mem_append.mp hx with hx | hx
          · exact takeIf_ok hR h hp hr _ _ hx
          · exact takeIf_ok hR h hp hr _ _ hx
    · unfold chgs at hx
      split at hx
      · rename_i hc
        rw [List.mem_singleton] at hx
        subst hx
        obtain ⟨l, t, h1, h2, h3⟩ := come_ok hR h hp hr .me (decide (r.last = .me))
        refine ⟨atTh_ok h1 h2 h3, ?_⟩
        rw [Bool.and_eq_true, Bool.or_eq_true, Bool.and_eq_true] at hc
        rcases hc.2 with z | ⟨z, _⟩
        · exact .inl (of_decide_eq_true z)
        · exact .inr ⟨_, of_decide_eq_true z, by rw [h.rows]; simp⟩
      · simp at hx
theorem comings_ok {R : Rule} (hR : ROk R) {s : Scene} {low : List Rec} {a : Rec} (h : SOk R s low a) {x : Ev × Scene} (hx : x ∈ comings R s low a) : Ok R x.2 ∧ evOk s x.1 := by
  rcases h.lo with e | ⟨b, e, _⟩
  · subst e
    exact comeAt_ok hR h (p := 0) (r := a) (by rw [h.rows]; rfl) hx
  · subst e
    rcases List.mem_append.mp hx with hx | hx
    · exact comeAt_ok hR h (p := 0) (r := b) (by rw [h.rows]; rfl) hx
    · exact comeAt_ok hR h (p := 1) (r := a) (by rw [h.rows]; rfl) hx
theorem low_ok {R : Rule} {s : Scene} {low : List Rec} {a : Rec} (h : SOk R s low a) : low = [] ∨ ∃ b, low = [b] ∧ b.who = none ∧ COk R b := h.lo
theorem set_ok {R : Rule} {s : Scene} {low : List Rec} {a : Rec} (h : SOk R s low a) {r : Rec} (hr : COk R r) {t : Th} (ht : ∀ i, t ≠ .at_ i) : Ok R (setTop s low r t) :=
  ⟨low, r, rfl, h.lo, hr, fun i hi => absurd hi (ht i), h.age, h.ageN⟩
theorem rest_ok {R : Rule} {s : Scene} {low : List Rec} {a : Rec} (h : SOk R s low a) : ∀ i, (if s.th = .at_ low.length then Th.no else s.th) ≠ .at_ i := by
  intro i e
  split at e
  · cases e
  · rename_i hn
    exact hn (by rw [e, (h.th i e).1])
theorem ren_ok {R : Rule} (hR : ROk R) {s : Scene} {low : List Rec} {a : Rec} (h : SOk R s low a) {w : Who} (ha : a.who = some w) : Ok R (ren R s w a low) := by
  have hm := hR.m0
  unfold ren
  split
  · rename_i hc
    have h1 := hR.h1
    have e : low = [] := by
      rcases h.lo with e | ⟨b, e, _⟩
      · exact e
      · rw [e] at hc
        have := hc.2.2
        simp at this
        omega
    subst e
    refine ⟨[⟨none, w, a.num, 0, .next⟩], ⟨some w, w, 0, 0, .none⟩, rfl, .inr ⟨_, rfl, rfl, new_ok hR _ _ _ h.to.n0 h.to.n1⟩, new_ok hR _ _ _ (Int.le_refl _) hm, fun i hi => ?_, h.age, h.ageN⟩
    simp only at hi
    split at hi
    · rename_i ht
      have := (h.th 0 ht).2
      rw [ha] at this
      injection hi with e
      exact ⟨by rw [← e]; rfl, this⟩
    · rename_i hn
      have := (h.th i hi).1
      subst this
      exact absurd hi hn
  · refine ⟨low, ⟨none, w, a.num, 0, .off⟩, rfl, h.lo, new_ok hR _ _ _ h.to.n0 h.to.n1, fun i hi => ?_, h.age, h.ageN⟩
    simp only at hi
    split at hi
    · cases hi
    · rename_i hn
      have := (h.th i hi).1
      subst this
      exact absurd hi hn
theorem leaves_ok {R : Rule} (hR : ROk R) {s : Scene} {low : List Rec} {a : Rec} (h : SOk R s low a) {x : Ev × Scene} (hx : x ∈ leaves R s low a) : Ok R x.2 ∧ evOk s x.1 := by
  have top : low.length < s.rows.length := by rw [h.rows]; simp
  have nb := mod_ok hR (a.num + (if R.pg = .counted then 1 else 0))
  unfold leaves at hx
  split at hx
  · simp at hx
  · rename_i w hw
    unfold leavesW at hx
    rcases List.mem_append.mp hx with hx | hx
    · simp only [List.mem_cons, List.not_mem_nil, or_false] at hx
      rcases hx with rfl | rfl
      · exact ⟨set_ok h (new_ok hR _ _ _ h.to.n0 h.to.n1) (rest_ok h), top⟩
      · exact ⟨ren_ok hR h hw, top⟩
    · split at hx
      · simp at hx
      · rcases List.mem_append.mp hx with hx | hx
        · split at hx
          · simp at hx
          · rw [List.mem_singleton] at hx
            subst hx
            exact ⟨set_ok h (new_ok hR _ _ _ nb.1 nb.2) (rest_ok h), top⟩
        · rw [List.mem_singleton] at hx
          subst hx
          exact ⟨set_ok h (new_ok hR _ _ _ nb.1 nb.2) (rest_ok h), top⟩
theorem copies_ok {R : Rule} (hR : ROk R) {s : Scene} {low : List Rec} {a : Rec} (h : SOk R s low a) {x : Ev × Scene} (hx : x ∈ copies R s low a) : Ok R x.2 ∧ evOk s x.1 := by
  unfold copies at hx
  split at hx
  · simp at hx
  · rw [List.mem_singleton] at hx
    subst hx
    exact ⟨⟨low, a, h.rows, h.lo, h.to, h.th, Int.le_refl _, fun _ => rfl⟩, trivial⟩
  · split at hx
    · rw [List.mem_singleton] at hx
      subst hx
      refine ⟨⟨[], a, rfl, .inl rfl, h.to, fun i hi => ?_, Int.le_refl _, fun _ => rfl⟩, trivial⟩
      simp only at hi
      split at hi
      · cases hi
      · split at hi
        · rename_i ht
          injection hi with e
          exact ⟨e.symm, (h.th _ ht).2⟩
        · cases hi
    · simp at hx
theorem steps0_ok {R : Rule} (hR : ROk R) {s : Scene} {low : List Rec} {a : Rec} (h : SOk R s low a) {x : Ev × Scene} (hx : x ∈ steps0 R s low a) : Ok R x.2 ∧ evOk s x.1 := by
  unfold steps0 at hx
  rcases List.mem_append.mp hx with hx | hx
  · rcases List.mem_append.mp hx with hx | hx
    · rcases List.mem_append.mp hx with hx | hx
      · rw [List.mem_singleton] at hx
        subst hx
        exact ⟨aged_ok hR h, trivial⟩
      · exact comings_ok hR h hx
    · exact leaves_ok hR h hx
  · exact copies_ok hR h hx
end NW11
end
/-! #### M14 -/
section
set_option Elab.async false
set_option linter.all false
set_option maxRecDepth 100000
set_option maxHeartbeats 8000000
namespace NW11
open RI PySem
def stepsOf (R : Rule) (s : Scene) : List (Ev × Scene) := match s.rows with
  | [a] => steps R s [] a
  | [b, a] => steps R s [b] a
  | _ => []
theorem stepsOf_eq {R : Rule} {s : Scene} {low : List Rec} {a : Rec} (h : SOk R s low a) : stepsOf R s = steps R s low a := by
  unfold stepsOf
  rcases h.lo with e | ⟨b, e, _⟩ <;> subst e <;> rw [h.rows] <;> rfl
def first : Scene := ⟨0, [⟨some .me, .me, 0, 0, .none⟩], .at_ 0⟩
inductive Reach (R : Rule) : Scene → Prop where
  | first : Reach R first
  | step {s : Scene} {x : Ev × Scene} : Reach R s → x ∈ stepsOf R s → Reach R x.2
def Good (R : Rule) (s : Scene) : Prop := Ok R s ∧ ∀ l, R.life = some l → s.age ≤ l
theorem first_good {R : Rule} (hR : ROk R) : Good R first := by
  refine ⟨⟨[], _, rfl, .inl rfl, new_ok hR _ _ _ (Int.le_refl _) hR.m0, fun i hi => ?_, Int.le_refl _, fun _ => rfl⟩, fun l hl => (hR.l l hl).1⟩
  injection hi with e
  exact ⟨e.symm, rfl⟩
theorem step_good {R : Rule} (hR : ROk R) {s : Scene} (h : Good R s) {x : Ev × Scene} (hx : x ∈ stepsOf R s) : Good R x.2 ∧ evOk s x.1 := by
  obtain ⟨⟨low, a, ho⟩, _⟩ := h
  rw [stepsOf_eq ho] at hx
  obtain ⟨h1, h2⟩ := List.mem_filter.mp hx
  obtain ⟨k1, k2⟩ := steps0_ok hR ho h1
  refine ⟨⟨k1, fun l hl => ?_⟩, k2⟩
  unfold inLife at h2
  rw [hl] at h2
  exact of_decide_eq_true h2
theorem reach_good {R : Rule} (hR : ROk R) {s : Scene} (h : Reach R s) : Good R s := by
  induction h with
  | first => exact first_good hR
  | step _ hx ih => exact (step_good hR ih hx).1
/-! ### scenes are finite -/
theorem pigeon : ∀ (n : Nat) (l : List Nat), l.Nodup → (∀ x ∈ l, x < n) → l.length ≤ n
  | 0, l, _, h => by
    cases l with
    | nil => simp
    | cons x r => exact absurd (h x (by simp)) (by omega)
  | n + 1, l, nd, h => by
    by_cases hn : n ∈ l
    · have h1 := pigeon n (l.erase n) (nd.erase n) fun x hx => by
        have := nd.mem_erase_iff.mp hx
        have := h x this.2
        omega
      rw [List.length_erase_of_mem hn] at h1
      have : 0 < l.length := List.length_pos_of_mem hn
      omega
    · have := pigeon n l nd fun x hx => by
        have := h x hx
        have : x ≠ n := fun e => hn (e ▸ hx)
        omega
      omega
def wC : Option Who → Nat
  | none => 0
  | some .me => 1
  | some .th => 2
def lC : Who → Nat
  | .me => 0
  | .th => 1
def fC : Fw → Nat
  | .none => 0
  | .next => 1
  | .off => 2
def rC (r : Rec) : Nat := (((wC r.who * 2 + lC r.last) * 3 + r.num.toNat) * 4 + r.old.toNat) * 3 + fC r.fw
theorem wC_bd (w : Option Who) : wC w < 3 := by cases w with | none => decide | some w => cases w <;> decide
theorem lC_bd (w : Who) : lC w < 2 := by cases w <;> decide
theorem fC_bd (w : Fw) : fC w < 3 := by cases w <;> decide
theorem wC_inj {v w : Option Who} (h : wC v = wC w) : v = w := by
  cases v with
  | none => cases w with
    | none => rfl
    | some w => cases w <;> simp [wC] at h
  | some v => cases w with
    | none => cases v <;> simp [wC] at h
    | some w => cases v <;> cases w <;> first | rfl | simp [wC] at h
theorem lC_inj {v w : Who} (h : lC v = lC w) : v = w := by cases v <;> cases w <;> first | rfl | simp [lC] at h
theorem fC_inj {v w : Fw} (h : fC v = fC w) : v = w := by cases v <;> cases w <;> first | rfl | simp [fC] at h
theorem rC_bd {R : Rule} (hR : ROk R) {r : Rec} (h : COk R r) : rC r < 216 := by
  have h1 := wC_bd r.who
  have h2 := lC_bd r.last
  have h3 := fC_bd r.fw
  have h4 := h.n0
  have h5 := h.n1
  have h6 := hR.m1
  have h7 := h.o0
  have h8 := h.o1
  have h9 := (top_bd hR).2
  unfold rC
  omega
theorem rC_inj {R : Rule} (hR : ROk R) {r t : Rec} (h : COk R r) (g : COk R t) (e : rC r = rC t) : r = t := by
  have h1 := wC_bd r.who
  have h2 := lC_bd r.last
  have h3 := fC_bd r.fw
  have h4 := h.n0
  have h5 := h.n1
  have h6 := hR.m1
  have h7 := h.o0
  have h8 := h.o1
  have h9 := (top_bd hR).2
  have g1 := wC_bd t.who
  have g2 := lC_bd t.last
  have g3 := fC_bd t.fw
  have g4 := g.n0
  have g5 := g.n1
  have g7 := g.o0
  have g8 := g.o1
  unfold rC at e
  obtain ⟨w1, l1, n1, o1, f1⟩ := r
  obtain ⟨w2, l2, n2, o2, f2⟩ := t
  simp only [] at *
  have e1 : wC w1 = wC w2 := by omega
  have e2 : lC l1 = lC l2 := by omega
  have e3 : fC f1 = fC f2 := by omega
  have e4 : n1 = n2 := by omega
  have e5 : o1 = o2 := by omega
  rw [wC_inj e1, lC_inj e2, fC_inj e3, e4, e5]
def tC : Th → Nat
  | .no => 0
  | .out => 1
  | .at_ i => 2 + i
theorem tC_inj {v w : Th} (h : tC v = tC w) : v = w := by
  cases v <;> cases w <;> simp [tC] at h <;> first | rfl | omega | (rw [h])
def rowsC : List Rec → Nat
  | [a] => rC a
  | [b, a] => 216 + rC b * 216 + rC a
  | _ => 0
def sC (s : Scene) : Nat := (rowsC s.rows * 4 + tC s.th) * 5 + s.age.toNat
theorem good_parts {R : Rule} (hR : ROk R) {s : Scene} (h : Good R s) : tC s.th < 4 ∧ s.age.toNat < 5 ∧ rowsC s.rows < 46872 := by
  obtain ⟨⟨low, a, ho⟩, hl⟩ := h
  have ha := rC_bd hR ho.to
  refine ⟨?_, ?_, ?_⟩
  · cases e : s.th with
    | no => decide
    | out => decide
    | at_ i =>
      have h1 := (ho.th i e).1
      have : i ≤ 1 := by
        rcases ho.lo with z | ⟨b, z, _⟩ <;> rw [z] at h1 <;> simp at h1 <;> omega
      show 2 + i < 4
      omega
  · have h0 := ho.age
    cases e : R.life with
    | none => have := ho.ageN e; omega
    | some l => have h1 := hl l e; have h2 := (hR.l l e).2; omega
  · rcases ho.lo with z | ⟨b, z, _, hb⟩
    · rw [ho.rows, z]; show rC a < _; omega
    · have := rC_bd hR hb
      rw [ho.rows, z]; show 216 + rC b * 216 + rC a < _; omega
theorem sC_bd {R : Rule} (hR : ROk R) {s : Scene} (h : Good R s) : sC s < 937440 := by
  obtain ⟨h1, h2, h3⟩ := good_parts hR h
  unfold sC; omega
theorem sC_inj {R : Rule} (hR : ROk R) {s t : Scene} (h : Good R s) (g : Good R t) (e : sC s = sC t) : s = t := by
  obtain ⟨h1, h2, h3⟩ := good_parts hR h
  obtain ⟨g1, g2, g3⟩ := good_parts hR g
  unfold sC at e
  have e1 : rowsC s.rows = rowsC t.rows := by omega
  have e2 : tC s.th = tC t.th := by omega
  have e3 : s.age.toNat = t.age.toNat := by omega
  obtain ⟨⟨low, a, ho⟩, _⟩ := h
  obtain ⟨⟨low2, a2, ho2⟩, _⟩ := g
  have p0 := ho.age
  have p1 := ho2.age
  have e4 : s.age = t.age := by omega
  have e5 : s.rows = t.rows := by
    have ha := rC_bd hR ho.to
    have ha2 := rC_bd hR ho2.to
    rw [ho.rows, ho2.rows] at e1 ⊢
    rcases ho.lo with z | ⟨b, z, _, hb⟩ <;> rcases ho2.lo with z2 | ⟨b2, z2, _, hb2⟩ <;> rw [z, z2] at e1 ⊢
    · have : rC a = rC a2 := e1
      rw [rC_inj hR ho.to ho2.to this]
    · have : rC a = 216 + rC b2 * 216 + rC a2 := e1
      omega
    · have : 216 + rC b * 216 + rC a = rC a2 := e1
      omega
    · have e6 : 216 + rC b * 216 + rC a = 216 + rC b2 * 216 + rC a2 := e1
      have hb' := rC_bd hR hb
      have hb2' := rC_bd hR hb2
      have e7 : rC a = rC a2 := by omega
      have e8 : rC b = rC b2 := by omega
      rw [rC_inj hR ho.to ho2.to e7, rC_inj hR hb hb2 e8]
  obtain ⟨x1, x2, x3⟩ := s
  obtain ⟨y1, y2, y3⟩ := t
  simp only [] at e4 e5 e2
  rw [e4, e5, tC_inj e2]
theorem good_few {R : Rule} (hR : ROk R) {l : List Scene} (nd : l.Nodup) (h : ∀ s ∈ l, Good R s) : l.length ≤ 937440 := by
  have h1 : (l.map sC).Nodup := by
    induction l with
    | nil => simp
    | cons x r ih =>
      rw [List.nodup_cons] at nd
      rw [List.map_cons, List.nodup_cons]
      refine ⟨fun hm => ?_, ih nd.2 fun s hs => h s (by simp [hs])⟩
      obtain ⟨y, hy, e⟩ := List.mem_map.mp hm
      have := sC_inj hR (h y (by simp [hy])) (h x (by simp)) e
      exact nd.1 (this ▸ hy)
  have := pigeon 937440 (l.map sC) h1 fun x hx => by
    obtain ⟨s, hs, rfl⟩ := List.mem_map.mp hx
    exact sC_bd hR (h s hs)
  simpa using this
end NW11
end
/-! #### M15 -/
section
set_option Elab.async false
set_option linter.all false
set_option maxRecDepth 100000
set_option maxHeartbeats 8000000
namespace NW11
open RI PySem
theorem eW_inj {v w : Who} (h : eW v = eW w) : v = w := by cases v <;> cases w <;> first | rfl | simp at h
theorem eOW_inj {v w : Option Who} (h : eOW v = eOW w) : v = w := by
  cases v with
  | none => cases w with
    | none => rfl
    | some w => cases w <;> simp at h
  | some v => cases w with
    | none => cases v <;> simp at h
    | some w => rw [eW_inj h]
theorem eFw_inj {v w : Fw} (h : eFw v = eFw w) : v = w := by cases v <;> cases w <;> first | rfl | simp at h
theorem eRec_inj {v w : Rec} (h : eRec v = eRec w) : v = w := by
  obtain ⟨a, b, c, d, e⟩ := v
  obtain ⟨a2, b2, c2, d2, e2⟩ := w
  simp at h
  obtain ⟨h1, h2, h3, h4, h5⟩ := h
  rw [eOW_inj h1, eW_inj h2, h3, h4, eFw_inj h5]
theorem eTh_inj {v w : Th} (h : eTh v = eTh w) : v = w := by
  cases v <;> cases w <;> simp at h <;> first | rfl | skip
  rename_i i j
  have : i = j := by omega
  rw [this]
theorem map_inj' : ∀ {l m : List Rec}, l.map eRec = m.map eRec → l = m
  | [], [], _ => rfl
  | [], _ :: _, h => by simp at h
  | _ :: _, [], h => by simp at h
  | a :: l, b :: m, h => by
    simp only [List.map_cons, List.cons.injEq] at h
    rw [eRec_inj h.1, map_inj' h.2]
theorem eScene_inj {s t : Scene} (h : eScene s = eScene t) : s = t := by
  obtain ⟨a, b, c⟩ := s
  obtain ⟨a2, b2, c2⟩ := t
  simp only [eScene_mk, D.tup.injEq, List.cons.injEq, D.int.injEq, and_true] at h
  obtain ⟨h1, h2, h3⟩ := h
  rw [h1, map_inj' h2, eTh_inj h3]
def kOW : Option Who → NestedKey
  | none => .none
  | some .me => .text (S [109, 105, 110, 101])
  | some .th => .text (S [116, 104, 101, 105, 114, 115])
def kFw : Fw → NestedKey
  | .none => .text (S [110, 111, 110, 101])
  | .next => .text (S [110, 101, 120, 116])
  | .off => .text (S [111, 102, 102])
def kRec (r : Rec) : NestedKey := .tup [kOW r.who, kOW (some r.last), .num r.num, .num r.old, kFw r.fw]
theorem key_ow (w : Option Who) : keyOf (eOW w) = some (kOW w) := by
  cases w with
  | none => rfl
  | some w => cases w <;> rfl
theorem key_w (w : Who) : keyOf (eW w) = some (kOW (some w)) := by cases w <;> rfl
theorem key_fw (w : Fw) : keyOf (eFw w) = some (kFw w) := by cases w <;> rfl
theorem key_rec (r : Rec) : keyOf (eRec r) = some (kRec r) := by
  simp only [eRec, keyOf, keyOf.keysOf, key_ow, key_w, key_fw, Option.map_some]
  rfl
theorem keys_recs : ∀ l : List Rec, keyOf.keysOf (l.map eRec) = some (l.map kRec)
  | [] => rfl
  | a :: l => by simp only [List.map_cons, keyOf.keysOf, key_rec, keys_recs l]
def kTh : Th → NestedKey
  | .no => .none
  | .out => .text (S [111, 117, 116])
  | .at_ i => .num (i : Nat)
theorem key_th (t : Th) : keyOf (eTh t) = some (kTh t) := by cases t <;> rfl
def kScene (s : Scene) : NestedKey := .tup [.num s.age, .tup (s.rows.map kRec), kTh s.th]
theorem key_scene (s : Scene) : keyOf (eScene s) = some (kScene s) := by
  simp only [eScene, keyOf, keyOf.keysOf, keys_recs, key_th, Option.map_some]
  rfl
theorem dep_rec (r : Rec) : (kRec r).depth ≤ 3 := by
  obtain ⟨w, l, n, o, f⟩ := r
  cases w with
  | none => cases l <;> cases f <;> simp [kRec, kOW, kFw, NestedKey.depth, NestedKey.depthAll]
  | some w => cases w <;> cases l <;> cases f <;> simp [kRec, kOW, kFw, NestedKey.depth, NestedKey.depthAll]
theorem dep_recs : ∀ l : List Rec, NestedKey.depthAll (l.map kRec) ≤ 3
  | [] => by simp [NestedKey.depthAll]
  | a :: l => by
    have h1 := dep_rec a
    have h2 := dep_recs l
    simp only [List.map_cons, NestedKey.depthAll]
    omega
theorem dep_scene (s : Scene) : (kScene s).depth ≤ 8 := by
  have h := dep_recs s.rows
  have h2 : (kTh s.th).depth ≤ 1 := by cases s.th <;> simp [kTh, NestedKey.depth]
  simp only [kScene, NestedKey.depth, NestedKey.depthAll]
  omega
/-! ### the dict of scenes -/
abbrev Par := Option (Scene × Ev)
def ePar : Par → D
  | none => .non
  | some (s, e) => .tup [eScene s, eEv e]
def eKv (p : Scene × Par) : D × D := (eScene p.1, ePar p.2)
theorem dget_cS {p : Scene × Par} {l : List (Scene × Par)} {s : Scene} : dget ((p :: l).map eKv) (eScene s) = if p.1 = s then some (ePar p.2) else dget (l.map eKv) (eScene s) := by
  rw [List.map_cons, dget_cons]
  show (if eScene p.1 = eScene s then some (ePar p.2) else _) = _
  by_cases h : p.1 = s
  · rw [if_pos h, if_pos (by rw [h])]
  · rw [if_neg h, if_neg (fun e => h (eScene_inj e))]
theorem dget_none {l : List (Scene × Par)} {s : Scene} (h : s ∉ l.map (·.1)) : dget (l.map eKv) (eScene s) = none := by
  induction l with
  | nil => rfl
  | cons p l ih =>
    rw [dget_cS]
    simp only [List.map_cons, List.mem_cons, not_or] at h
    rw [if_neg (fun e => h.1 e.symm), ih h.2]
theorem dget_mem {l : List (Scene × Par)} {s : Scene} {q : Par} (nd : (l.map (·.1)).Nodup) (h : (s, q) ∈ l) : dget (l.map eKv) (eScene s) = some (ePar q) := by
  induction l with
  | nil => simp at h
  | cons p l ih =>
    rw [dget_cS]
    rw [List.map_cons, List.nodup_cons] at nd
    rcases List.mem_cons.mp h with e | h
    · subst e
      rw [if_pos rfl]
    · have hm : s ∈ l.map (·.1) := List.mem_map_of_mem (f := (·.1)) h
      rw [if_neg (fun e => nd.1 (by rw [e]; exact hm)), ih nd.2 h]
theorem dget_some {l : List (Scene × Par)} {s : Scene} : (dget (l.map eKv) (eScene s)).isSome = decide (s ∈ l.map (·.1)) := by
  induction l with
  | nil => rfl
  | cons p l ih =>
    rw [dget_cS]
    by_cases h : p.1 = s
    · rw [if_pos h]
      simp [h]
    · rw [if_neg h, ih]
      simp [Ne.symm h]
theorem dput_scene {l : List (Scene × Par)} {s : Scene} {q : Par} (h : s ∉ l.map (·.1)) : dput (l.map eKv) (eScene s) (ePar q) = (l ++ [(s, q)]).map eKv := by
  unfold dput
  rw [dget_none h]
  simp [eKv]
theorem cmp_notin {M : Sto} {r : Nat} {lk : Bool} {l : List (Scene × Par)} {s : Scene} (h : M[r]? = some (.dct lk (l.map eKv))) : cmpF .NotIn (eScene s) (.ref r) M = some (.bl (!decide (s ∈ l.map (·.1))), M) := by
  have e : inD (eScene s) (.ref r) M = some (decide (s ∈ l.map (·.1))) := by
    have hs : seqOf M (.ref r) = none := by
      show lstOf M (.ref r) = none
      unfold lstOf; simp only [h]
    unfold inD
    rw [hs]
    simp only [h]
    have hk := key_scene s
    show (match eScene s, keyOf (eScene s) with | .tup _, some k => _ | _, _ => none) = _
    rw [hk]
    show (if (kScene s).depth ≤ 8 then some (dget (l.map eKv) (eScene s)).isSome else none) = _
    rw [if_pos (dep_scene s), dget_some]
  show ((inD (eScene s) (.ref r) M).map not).map _ = _
  rw [e]; rfl
theorem ix_scene {M : Sto} {r : Nat} {lk : Bool} {l : List (Scene × Par)} {s : Scene} {q : Par} (h : M[r]? = some (.dct lk (l.map eKv))) (nd : (l.map (·.1)).Nodup) (hm : (s, q) ∈ l) : ixD (.ref r) (eScene s) M = some (ePar q, M) := by
  have hs : seqOf M (.ref r) = none := by
    show lstOf M (.ref r) = none
    unfold lstOf; simp only [h]
  unfold ixD
  rw [hs]
  show (match M[r]? with | some (.dct _ kvs) => _ | some (.dcs _ kvs) => _ | _ => none) = _
  rw [h]
  show (match eScene s, keyOf (eScene s) with | .tup _, some k => _ | _, _ => none) = _
  rw [key_scene s]
  show (if (kScene s).depth ≤ 8 then (dget (l.map eKv) (eScene s)).map (·, M) else none) = _
  rw [if_pos (dep_scene s), dget_mem nd hm]; rfl
theorem setD_scene {M : Sto} {r : Nat} {l : List (Scene × Par)} {s : Scene} {q : Par} (h : M[r]? = some (.dct false (l.map eKv))) (hn : s ∉ l.map (·.1)) (hz : l.length < 16777216) : setD (.ref r) (eScene s) (ePar q) M = some (M.set r (.dct false ((l ++ [(s, q)]).map eKv))) := by
  unfold setD
  simp only [h]
  show (match eScene s, keyOf (eScene s) with | .tup _, some k => _ | _, _ => none) = _
  rw [key_scene s]
  show (if (kScene s).depth ≤ 8 ∧ (l.map eKv).length < SL then some _ else none) = _
  rw [if_pos ⟨dep_scene s, by simpa [SL] using hz⟩, dput_scene hn]
end NW11
end
/-! #### M16 -/
section
set_option Elab.async false
set_option linter.all false
set_option maxRecDepth 100000
set_option maxHeartbeats 8000000
namespace NW11
open RI PySem
abbrev FS := List (Scene × Par)
def keys (F : FS) : List Scene := F.map (·.1)
/-- what is true of the dict of scenes -/
structure BI (R : Rule) (F : FS) : Prop where
  nd : (keys F).Nodup
  re : ∀ s ∈ keys F, Reach R s
  fst : ∃ r, F = (first, none) :: r
  par : ∀ pre t q post, F = pre ++ (t, q) :: post → (q = none ∧ pre = []) ∨ ∃ s e, q = some (s, e) ∧ s ∈ keys pre
theorem BI.few {R : Rule} (hR : ROk R) {F : FS} (h : BI R F) : F.length ≤ 937440 := by
  have := good_few hR h.nd fun s hs => reach_good hR (h.re s hs)
  simpa [keys] using this
theorem keys_app {F : FS} {p : Scene × Par} : keys (F ++ [p]) = keys F ++ [p.1] := by simp [keys]
theorem BI.add {R : Rule} {F : FS} (h : BI R F) {s t : Scene} {e : Ev} (hs : s ∈ keys F) (ht : t ∉ keys F) (hx : (e, t) ∈ stepsOf R s) : BI R (F ++ [(t, some (s, e))]) := by
  refine ⟨?_, fun z hz => ?_, ?_, fun pre t' q post he => ?_⟩
  · rw [keys_app, List.nodup_append]
    exact ⟨h.nd, by simp, fun a ha b hb => by
      rw [List.mem_singleton] at hb
      subst hb
      exact fun z => ht (z ▸ ha)⟩
  · rw [keys_app] at hz
    rcases List.mem_append.mp hz with hz | hz
    · exact h.re z hz
    · rw [List.mem_singleton] at hz
      subst hz
      exact .step (h.re s hs) hx
  · obtain ⟨r, e⟩ := h.fst
    exact ⟨r ++ [_], by rw [e]; rfl⟩
  · rcases List.eq_nil_or_concat post with e1 | ⟨post', z, e1⟩
    · subst e1
      have := List.append_inj' he (by simp)
      obtain ⟨e2, e3⟩ := this
      simp only [List.cons.injEq, and_true, Prod.mk.injEq] at e3
      obtain ⟨rfl, rfl⟩ := e3
      subst e2
      exact .inr ⟨s, e, rfl, hs⟩
    · rw [List.concat_eq_append] at e1
      subst e1
      have e2 : F ++ [(t, some (s, e))] = (pre ++ (t', q) :: post') ++ [z] := by rw [he]; simp
      have := List.append_inj' e2 (by simp)
      exact h.par pre t' q post' this.1
def ins (s : Scene) (FA : FS × List Scene) (x : Ev × Scene) : FS × List Scene := if x.2 ∈ keys FA.1 then FA else (FA.1 ++ [(x.2, some (s, x.1))], FA.2 ++ [x.2])
def insAll (s : Scene) (FA : FS × List Scene) (L : List (Ev × Scene)) : FS × List Scene := L.foldl (ins s) FA
/-- what the store holds -/
structure St (M : Sto) (rF rA : Nat) (FA : FS × List Scene) : Prop where
  f : M[rF]? = some (.dct false (FA.1.map eKv))
  a : M[rA]? = some (.lst (FA.2.map eScene))
/-- all else stays -/
def Fr (rF rA : Nat) (M M' : Sto) : Prop := ∀ i o, i ≠ rF → i ≠ rA → M[i]? = some o → M'[i]? = some o
theorem Fr.refl {rF rA : Nat} {M : Sto} : Fr rF rA M M := fun _ _ _ _ h => h
theorem Fr.trans {rF rA : Nat} {M M1 M2 : Sto} (a : Fr rF rA M M1) (b : Fr rF rA M1 M2) : Fr rF rA M M2 := fun i o h1 h2 h => b i o h1 h2 (a i o h1 h2 h)
theorem St.ne {M : Sto} {rF rA : Nat} {FA : FS × List Scene} (h : St M rF rA FA) : rF ≠ rA := fun e => by
  have h1 := h.f
  rw [e, h.a] at h1
  cases h1
def ib21 : ISs := .cons (.if_ (.cmp .NotIn (.var 7) (.var 2)) (.cons (.sub (.var 2) (.var 7) (.tup (.cons (.var 5) (.cons (.var 6) .nil))))
  (.cons (.exp (.me .append (.var 4) (.cons (.var 7) .nil)))
  .nil)) .nil)
  .nil
section
variable {R : Rule} {cl : Nat → FN} {s : Scene} {rF rL rA : Nat}
theorem appM {M : Sto} {i : Nat} {xs : List D} {a : D} (h : M[i]? = some (.lst xs)) (hz : xs.length < 16777216) : eMe .append (eVar 4) (aCons (eVar 7) aNil) = eMe .append (eVar 4) (aCons (eVar 7) aNil) ∧ meT .append M (.ref i) = true ∧ meD .append (.ref i) [a] M = some (.non, M.set i (.lst (xs ++ [a]))) := by
  refine ⟨rfl, ?_, ?_⟩
  · simp [meT, h]
  · simp [meD, h, SL, hz]
theorem ib_in {M : Sto} {FA : FS × List Scene} (hS : St M rF rA FA) {e : Ev} {t : Scene} (ht : t ∈ keys FA.1) {x1 x3 : Option D} :
    dSs cl ib21 [some (eRule R), x1, some (.ref rF), x3, some (.ref rA), some (eScene s), some (eEv e), some (eScene t)] M = some (.nx [some (eRule R), x1, some (.ref rF), x3, some (.ref rA), some (eScene s), some (eEv e), some (eScene t)], M) := by
  have hc := cmp_notin (s := t) hS.f
  have hm : decide (t ∈ FA.1.map (·.1)) = true := decide_eq_true ht
  rw [hm] at hc
  simp [ib21, hc, -eScene_mk]
theorem ib_out {M : Sto} {FA : FS × List Scene} (hS : St M rF rA FA) {e : Ev} {t : Scene} (ht : t ∉ keys FA.1) (hf : FA.1.length < 16777216) (ha : FA.2.length < 16777216) {x1 x3 : Option D} :
    ∃ M', dSs cl ib21 [some (eRule R), x1, some (.ref rF), x3, some (.ref rA), some (eScene s), some (eEv e), some (eScene t)] M = some (.nx [some (eRule R), x1, some (.ref rF), x3, some (.ref rA), some (eScene s), some (eEv e), some (eScene t)], M') ∧ St M' rF rA (ins s FA (e, t)) ∧ Fr rF rA M M' := by
  have hc := cmp_notin (s := t) hS.f
  have hm : decide (t ∈ FA.1.map (·.1)) = false := decide_eq_false ht
  rw [hm] at hc
  have hset := setD_scene (q := some (s, e)) hS.f ht hf
  have hne := hS.ne
  have lF : rF < M.length := (List.getElem?_eq_some_iff.mp hS.f).1
  have lA : rA < M.length := (List.getElem?_eq_some_iff.mp hS.a).1
  have hA' : (M.set rF (.dct false ((FA.1 ++ [(t, some (s, e))]).map eKv)))[rA]? = some (.lst (FA.2.map eScene)) := by rw [List.getElem?_set_ne hne]; exact hS.a
  obtain ⟨_, a1, a2⟩ := appM (a := eScene t) hA' (by simpa using ha)
  refine ⟨(M.set rF (.dct false ((FA.1 ++ [(t, some (s, e))]).map eKv))).set rA (.lst (FA.2.map eScene ++ [eScene t])), ?_, ?_, ?_⟩
  · simp only [ePar] at hset
    simp [ib21, hc, hset, a1, a2, -eScene_mk, -List.map_append]
  · have hi : ins s FA (e, t) = (FA.1 ++ [(t, some (s, e))], FA.2 ++ [t]) := by unfold ins; rw [if_neg ht]
    rw [hi]
    refine ⟨?_, ?_⟩
    · rw [List.getElem?_set_ne (Ne.symm hne), List.getElem?_set_self lF]
    · rw [List.getElem?_set_self (by simpa using lA)]
      simp
  · intro i o h1 h2 h
    rw [List.getElem?_set_ne (Ne.symm h2), List.getElem?_set_ne (Ne.symm h1)]
    exact h
end
end NW11
end
/-! #### M17 -/
section
set_option Elab.async false
set_option linter.all false
set_option maxRecDepth 100000
set_option maxHeartbeats 8000000
namespace NW11
open RI PySem
theorem ins_keys {s : Scene} {FA : FS × List Scene} {x : Ev × Scene} {z : Scene} (h : z ∈ keys FA.1) : z ∈ keys (ins s FA x).1 := by
  unfold ins
  split
  · exact h
  · rw [keys_app]; exact List.mem_append_left _ h
theorem insAll_keys {s : Scene} : ∀ {L : List (Ev × Scene)} {FA : FS × List Scene} {z : Scene}, z ∈ keys FA.1 → z ∈ keys (insAll s FA L).1
  | [], _, _, h => h
  | x :: L, FA, z, h => insAll_keys (L := L) (ins_keys h)
theorem ins_self {s : Scene} {FA : FS × List Scene} {x : Ev × Scene} : x.2 ∈ keys (ins s FA x).1 := by
  unfold ins
  split
  · assumption
  · rw [keys_app]; simp
theorem insAll_all {s : Scene} : ∀ {L : List (Ev × Scene)} {FA : FS × List Scene} {x : Ev × Scene}, x ∈ L → x.2 ∈ keys (insAll s FA L).1
  | y :: L, FA, x, h => by
    rcases List.mem_cons.mp h with e | h
    · subst e
      exact insAll_keys (L := L) ins_self
    · exact insAll_all (L := L) h
/-- what a round's list has: the newly found -/
structure AI (F0 : FS) (FA : FS × List Scene) : Prop where
  old : ∀ z ∈ keys F0, z ∈ keys FA.1
  new : ∀ z ∈ keys FA.1, z ∈ keys F0 ∨ z ∈ FA.2
  sub : ∀ z ∈ FA.2, z ∈ keys FA.1
  len : FA.1.length = F0.length + FA.2.length
theorem AI.ins {F0 : FS} {FA : FS × List Scene} (h : AI F0 FA) (s : Scene) (x : Ev × Scene) : AI F0 (ins s FA x) := by
  unfold NW11.ins
  split
  · exact h
  · refine ⟨fun z hz => ?_, fun z hz => ?_, fun z hz => ?_, ?_⟩
    · rw [keys_app]; exact List.mem_append_left _ (h.old z hz)
    · rw [keys_app] at hz
      rcases List.mem_append.mp hz with hz | hz
      · rcases h.new z hz with q | q
        · exact .inl q
        · exact .inr (List.mem_append_left _ q)
      · exact .inr (List.mem_append_right _ hz)
    · rw [keys_app]
      rcases List.mem_append.mp hz with hz | hz
      · exact List.mem_append_left _ (h.sub z hz)
      · exact List.mem_append_right _ hz
    · simp [h.len]; omega
theorem BI.ins {R : Rule} {FA : FS × List Scene} (h : BI R FA.1) {s : Scene} (hs : s ∈ keys FA.1) {x : Ev × Scene} (hx : x ∈ stepsOf R s) : BI R (ins s FA x).1 := by
  unfold NW11.ins
  split
  · exact h
  · rename_i hn
    exact h.add hs hn hx
def tp67 : IT := (.tp (.cons (.nm 6) (.cons (.nm 7) .nil)))
section
variable {R : Rule} {cl : Nat → FN} {rF rL rA : Nat} {F0 : FS}
theorem ib_all (hR : ROk R) {s : Scene} {rs : Nat} {L0 : List D} (h1 : rs ≠ rF) (h2 : rs ≠ rA) {x1 x3 : Option D} : ∀ (L : List (Ev × Scene)) {FA : FS × List Scene} {M : Sto} {x6 x7 : Option D}, BI R FA.1 → AI F0 FA → s ∈ keys FA.1 → (∀ x ∈ L, x ∈ stepsOf R s) → St M rF rA FA → M[rs]? = some (.lst L0) →
    ∃ y6 y7 M', forF tp67 (dSs cl ib21) [(rs, .lst L0)] (L.map ePr) [some (eRule R), x1, some (.ref rF), x3, some (.ref rA), some (eScene s), x6, x7] M = some (.nx [some (eRule R), x1, some (.ref rF), x3, some (.ref rA), some (eScene s), y6, y7], M') ∧
      St M' rF rA (insAll s FA L) ∧ Fr rF rA M M' ∧ BI R (insAll s FA L).1 ∧ AI F0 (insAll s FA L)
  | [], FA, M, x6, x7, hB, hA, hs, hL, hS, hM => ⟨x6, x7, M, by rw [List.map_nil, forF_nilG (by simp [gdB, hM])], hS, .refl, hB, hA⟩
  | (e, t) :: L, FA, M, x6, x7, hB, hA, hs, hL, hS, hM => by
    have hg : gdB [(rs, MO.lst L0)] M = true := by simp [gdB, hM]
    rw [List.map_cons, forF_consG hg]
    have hd : dT tp67 (ePr (e, t)) [some (eRule R), x1, some (.ref rF), x3, some (.ref rA), some (eScene s), x6, x7] = some [some (eRule R), x1, some (.ref rF), x3, some (.ref rA), some (eScene s), some (eEv e), some (eScene t)] := by simp [ePr, tp67, -eScene_mk]
    rw [hd, dtK_s]
    by_cases ht : t ∈ keys FA.1
    · rw [ib_in hS ht, lpK_nx]
      have hi : ins s FA (e, t) = FA := by unfold ins; rw [if_pos ht]
      have := ib_all hR h1 h2 (x1 := x1) (x3 := x3) L (x6 := some (eEv e)) (x7 := some (eScene t)) hB hA hs (fun x hx => hL x (by simp [hx])) hS hM
      unfold insAll at this ⊢
      rw [List.foldl_cons, hi]
      exact this
    · have fw := hB.few hR
      have fa : FA.2.length < 16777216 := by have := hA.len; omega
      obtain ⟨M1, e1, S1, fr1⟩ := ib_out (cl := cl) (s := s) (x1 := x1) (x3 := x3) (R := R) hS (e := e) ht (by omega) fa
      rw [e1, lpK_nx]
      obtain ⟨y6, y7, M', e2, S2, fr2, B2, A2⟩ := ib_all hR h1 h2 (x1 := x1) (x3 := x3) L (x6 := some (eEv e)) (x7 := some (eScene t)) (hB.ins hs (x := (e, t)) (hL _ (by simp))) (hA.ins s (e, t)) (ins_keys hs) (fun x hx => hL x (by simp [hx])) S1 (fr1 _ _ h1 h2 hM)
      exact ⟨y6, y7, M', e2, S2, fr1.trans fr2, B2, A2⟩
/-- the body for one scene of the line -/
def fb21 : ISs := .cons (.for_ (.src (.call 17 (.cons (.var 0) (.cons (.var 5) .nil)))) tp67 ib21) .nil
theorem Fr.app {M g : Sto} : Fr rF rA M (M ++ g) := fun i o _ _ h => by rw [List.getElem?_append_left (List.getElem?_eq_some_iff.mp h).1]; exact h
theorem St.app {M g : Sto} {FA : FS × List Scene} (h : St M rF rA FA) : St (M ++ g) rF rA FA :=
  ⟨by rw [List.getElem?_append_left (List.getElem?_eq_some_iff.mp h.f).1]; exact h.f, by rw [List.getElem?_append_left (List.getElem?_eq_some_iff.mp h.a).1]; exact h.a⟩
theorem fb_ok (hR : ROk R) (h17 : ∀ s, Good R s → ∀ M, ∃ g r, cl 17 [eRule R, eScene s] M = some (.ref r, M ++ g) ∧ M.length ≤ r ∧ (M ++ g)[r]? = some (.lst ((stepsOf R s).map ePr))) {s : Scene} {x1 x3 x6 x7 : Option D} {FA : FS × List Scene} {M : Sto} (hB : BI R FA.1) (hA : AI F0 FA) (hs : s ∈ keys FA.1) (hS : St M rF rA FA) :
    ∃ y6 y7 M', dSs cl fb21 [some (eRule R), x1, some (.ref rF), x3, some (.ref rA), some (eScene s), x6, x7] M = some (.nx [some (eRule R), x1, some (.ref rF), x3, some (.ref rA), some (eScene s), y6, y7], M') ∧
      St M' rF rA (insAll s FA (stepsOf R s)) ∧ Fr rF rA M M' ∧ BI R (insAll s FA (stepsOf R s)).1 ∧ AI F0 (insAll s FA (stepsOf R s)) := by
  obtain ⟨g, r, h1, hr, h2⟩ := h17 s (reach_good hR (hB.re s hs)) M
  have lF : rF < M.length := (List.getElem?_eq_some_iff.mp hS.f).1
  have lA : rA < M.length := (List.getElem?_eq_some_iff.mp hS.a).1
  obtain ⟨y6, y7, M', e2, S2, fr2, B2, A2⟩ := ib_all (cl := cl) (F0 := F0) hR (rs := r) (rF := rF) (rA := rA) (L0 := (stepsOf R s).map ePr) (by omega) (by omega) (x1 := x1) (x3 := x3) (stepsOf R s) (x6 := x6) (x7 := x7) hB hA hs (fun x hx => hx) (hS.app (g := g)) h2
  refine ⟨y6, y7, M', ?_, S2, Fr.app.trans fr2, B2, A2⟩
  generalize hb : dSs cl ib21 = body at e2
  have hsrc : srcOf (M ++ g) (.ref r) = some ([(r, .lst ((stepsOf R s).map ePr))], (stepsOf R s).map ePr) := by simp [srcOf, h2]
  rw [fb21, dSs_cons, dS_for, hb]
  simp [h1, hsrc, e2, -eScene_mk]
end
end NW11
end
/-! #### M18 -/
section
set_option Elab.async false
set_option linter.all false
set_option maxRecDepth 100000
set_option maxHeartbeats 8000000
namespace NW11
open RI PySem
section
variable {R : Rule} {cl : Nat → FN} {rF rL rA : Nat} {F0 : FS}
def roundAll (R : Rule) (FA : FS × List Scene) (l : List Scene) : FS × List Scene := l.foldl (fun FA s => insAll s FA (stepsOf R s)) FA
theorem round_keys : ∀ {l : List Scene} {FA : FS × List Scene} {z : Scene}, z ∈ keys FA.1 → z ∈ keys (roundAll R FA l).1
  | [], _, _, h => h
  | s :: l, FA, z, h => round_keys (l := l) (insAll_keys h)
theorem round_all : ∀ {l : List Scene} {FA : FS × List Scene} {s : Scene} {x : Ev × Scene}, s ∈ l → x ∈ stepsOf R s → x.2 ∈ keys (roundAll R FA l).1
  | t :: l, FA, s, x, h, hx => by
    rcases List.mem_cons.mp h with e | h
    · subst e
      exact round_keys (l := l) (insAll_all hx)
    · exact round_all (l := l) h hx
theorem line_ok (hR : ROk R) (h17 : ∀ s, Good R s → ∀ M, ∃ g r, cl 17 [eRule R, eScene s] M = some (.ref r, M ++ g) ∧ M.length ≤ r ∧ (M ++ g)[r]? = some (.lst ((stepsOf R s).map ePr))) {L0 : List D} (h1 : rL ≠ rF) (h2 : rL ≠ rA) {x1 x3 : Option D} : ∀ (l : List Scene) {FA : FS × List Scene} {M : Sto} {x5 x6 x7 : Option D}, BI R FA.1 → AI F0 FA → (∀ s ∈ l, s ∈ keys FA.1) → St M rF rA FA → M[rL]? = some (.lst L0) →
    ∃ y5 y6 y7 M', forF (.nm 5) (dSs cl fb21) [(rL, .lst L0)] (l.map eScene) [some (eRule R), x1, some (.ref rF), x3, some (.ref rA), x5, x6, x7] M = some (.nx [some (eRule R), x1, some (.ref rF), x3, some (.ref rA), y5, y6, y7], M') ∧
      St M' rF rA (roundAll R FA l) ∧ Fr rF rA M M' ∧ BI R (roundAll R FA l).1 ∧ AI F0 (roundAll R FA l)
  | [], FA, M, x5, x6, x7, hB, hA, hs, hS, hM => ⟨x5, x6, x7, M, by rw [List.map_nil, forF_nilG (by simp [gdB, hM])], hS, .refl, hB, hA⟩
  | s :: l, FA, M, x5, x6, x7, hB, hA, hs, hS, hM => by
    have hg : gdB [(rL, MO.lst L0)] M = true := by simp [gdB, hM]
    rw [List.map_cons, forF_consG hg, dT_nm]
    obtain ⟨y6, y7, M1, e1, S1, fr1, B1, A1⟩ := fb_ok (cl := cl) (F0 := F0) hR h17 (x1 := x1) (x3 := x3) (x6 := x6) (x7 := x7) hB hA (hs s (by simp)) hS
    simp only [dtK_s, List.set_cons_succ, List.set_cons_zero]
    rw [e1, lpK_nx]
    obtain ⟨z5, z6, z7, M2, e2, S2, fr2, B2, A2⟩ := line_ok hR h17 h1 h2 (x1 := x1) (x3 := x3) l (x5 := some (eScene s)) (x6 := y6) (x7 := y7) B1 A1 (fun t ht => insAll_keys (hs t (by simp [ht]))) S1 (fr1 _ _ h1 h2 hM)
    exact ⟨z5, z6, z7, M2, e2, S2, fr1.trans fr2, B2, A2⟩
def wb21 : ISs := .cons (.asg (.nm 4) (.lst .nil)) (.cons (.forV 3 (.nm 5) fb21) (.cons (.asg (.nm 3) (.var 4)) .nil))
def wc21 : IE := .cmp .NotEq (.var 3) (.lst .nil)
/-- every scene of the dict is of the line, or its steps lead into the dict -/
def Clo (R : Rule) (F : FS) (l : List Scene) : Prop := ∀ s ∈ keys F, s ∈ l ∨ ∀ x ∈ stepsOf R s, x.2 ∈ keys F
/-- below n all stays -/
def Kp (n : Nat) (M M' : Sto) : Prop := ∀ i o, i < n → M[i]? = some o → M'[i]? = some o
theorem Kp.trans {n : Nat} {M M1 M2 : Sto} (a : Kp n M M1) (b : Kp n M1 M2) : Kp n M M2 := fun i o h h1 => b i o h (a i o h h1)
theorem Kp.app {n : Nat} {M g : Sto} : Kp n M (M ++ g) := fun i o _ h => by rw [List.getElem?_append_left (List.getElem?_eq_some_iff.mp h).1]; exact h
theorem Fr.kp {n : Nat} {M M' : Sto} (h : Fr rF rA M M') (h1 : n ≤ rF) (h2 : n ≤ rA) : Kp n M M' := fun i o hi e => h i o (by omega) (by omega) e
theorem round_ai {F : FS} {l : List Scene} (h : AI F0 (F, ([] : List Scene))) : True := trivial
theorem cond_ok {M : Sto} {l : List Scene} {x1 x2 x4 x5 x6 x7 : Option D} (hL : M[rL]? = some (.lst (l.map eScene))) :
    bOf (dE cl wc21) [some (eRule R), x1, x2, some (.ref rL), x4, x5, x6, x7] M = some (!l.isEmpty, M ++ [.lst []]) := by
  have lL : rL < M.length := (List.getElem?_eq_some_iff.mp hL).1
  have hL' : (M ++ [MO.lst []])[rL]? = some (.lst (l.map eScene)) := by rw [List.getElem?_append_left lL]; exact hL
  have e : eqD (.ref rL) (.ref M.length) (M ++ [.lst []]) = some l.isEmpty := by
    unfold eqD eqF
    have r1 : refL (M ++ [.lst []]) (.ref rL) = some (rL, l.map eScene) := by simp [refL, hL']
    have r2 : refL (M ++ [.lst []]) (.ref M.length) = some (M.length, []) := by simp [refL]
    rw [r1, r2]
    simp only []
    rw [if_neg (by omega)]
    cases l with
    | nil => rfl
    | cons s l => rfl
  simp [wc21, e]
theorem while_ok (hR : ROk R) (h17 : ∀ s, Good R s → ∀ M, ∃ g r, cl 17 [eRule R, eScene s] M = some (.ref r, M ++ g) ∧ M.length ≤ r ∧ (M ++ g)[r]? = some (.lst ((stepsOf R s).map ePr))) {x1 : Option D} {m : Nat} (hm : m ≤ rF) : ∀ (n : Nat) {F : FS} {l : List Scene} {M : Sto} {rL : Nat} {x4 x5 x6 x7 : Option D}, BI R F → Clo R F l → (∀ s ∈ l, s ∈ keys F) → M[rF]? = some (.dct false (F.map eKv)) → M[rL]? = some (.lst (l.map eScene)) → rL ≠ rF → 1 ≤ n → (l ≠ [] → 937442 ≤ n + F.length) → 
    ∃ F' y3 y4 y5 y6 y7 M', whileF (dE cl wc21) (dSs cl wb21) n [some (eRule R), x1, some (.ref rF), some (.ref rL), x4, x5, x6, x7] M = some (.nx [some (eRule R), x1, some (.ref rF), y3, y4, y5, y6, y7], M') ∧
      BI R F' ∧ Clo R F' [] ∧ M'[rF]? = some (.dct false (F'.map eKv)) ∧ Kp m M M'
  | 0, F, l, M, rL, x4, x5, x6, x7, hB, hC, hl, hF, hL, hne, hn, hf => by omega
  | n + 1, F, l, M, rL, x4, x5, x6, x7, hB, hC, hl, hF, hL, hne, hn, hf => by
    have hc := cond_ok (R := R) (cl := cl) (x1 := x1) (x2 := some (.ref rF)) (x4 := x4) (x5 := x5) (x6 := x6) (x7 := x7) hL
    have lF : rF < M.length := (List.getElem?_eq_some_iff.mp hF).1
    have lL : rL < M.length := (List.getElem?_eq_some_iff.mp hL).1
    rw [whileF, hc, bnd_s]
    cases hle : l.isEmpty with
    | true =>
      have e : l = [] := List.isEmpty_iff.mp hle
      subst e
      rw [if_neg (by simp)]
      exact ⟨F, _, _, _, _, _, _, rfl, hB, hC, by rw [List.getElem?_append_left lF]; exact hF, .app⟩
    | false =>
      have hlne : l ≠ [] := fun e => by rw [e] at hle; simp at hle
      have h0 := hf hlne
      rw [if_pos (by simp)]
      -- a round
      have hM2F : (M ++ [MO.lst []] ++ [MO.lst []])[rF]? = some (.dct false (F.map eKv)) := by rw [List.append_assoc, List.getElem?_append_left lF]; exact hF
      have hM2L : (M ++ [MO.lst []] ++ [MO.lst []])[rL]? = some (.lst (l.map eScene)) := by rw [List.append_assoc, List.getElem?_append_left lL]; exact hL
      have hS : St (M ++ [MO.lst []] ++ [MO.lst []]) rF (M ++ [MO.lst []]).length (F, []) := ⟨hM2F, List.getElem?_concat_length⟩
      have hA : AI F (F, ([] : List Scene)) := ⟨fun z h => h, fun z h => .inl h, fun z h => by simp at h, by simp⟩
      have hlen : (M ++ [MO.lst []]).length = M.length + 1 := by simp
      obtain ⟨z5, z6, z7, M3, e3, S3, fr3, B3, A3⟩ := line_ok (cl := cl) (F0 := F) hR h17 (L0 := l.map eScene) (rF := rF) (rA := (M ++ [MO.lst []]).length) hne (by rw [hlen]; omega) (x1 := x1) (x3 := some (.ref rL)) l (x5 := x5) (x6 := x6) (x7 := x7) hB hA hl hS hM2L
      have hbody : dSs cl wb21 [some (eRule R), x1, some (.ref rF), some (.ref rL), x4, x5, x6, x7] (M ++ [MO.lst []]) = some (.nx [some (eRule R), x1, some (.ref rF), some (.ref (M ++ [MO.lst []]).length), some (.ref (M ++ [MO.lst []]).length), z5, z6, z7], M3) := by
        generalize hb : dSs cl fb21 = body at e3
        rw [wb21, dSs_cons, dSs_cons, dSs_cons, dS_forV, hb, dSs_nil, sSeq_e]
        have s1 : dS cl (.asg (.nm 4) (.lst .nil)) [some (eRule R), x1, some (.ref rF), some (.ref rL), x4, x5, x6, x7] (M ++ [MO.lst []]) = some (.nx [some (eRule R), x1, some (.ref rF), some (.ref rL), some (.ref (M ++ [MO.lst []]).length), x5, x6, x7], M ++ [MO.lst []] ++ [MO.lst []]) := by simp
        rw [s1, seqK_nx, sSeq_e, sForV_l (xs := l.map eScene) (r := rL) rfl hM2L, e3, seqK_nx, sSeq_e]
        simp
      rw [hbody]
      show ∃ F' y3 y4 y5 y6 y7 M', whileF (dE cl wc21) (dSs cl wb21) n _ M3 = _ ∧ _
      have ain := A3
      obtain ⟨F', y3, y4, y5, y6, y7, M', e4, B4, C4, f4, k4⟩ := while_ok hR h17 (x1 := x1) hm n (F := (roundAll R (F, []) l).1) (l := (roundAll R (F, []) l).2) (M := M3) (rL := (M ++ [MO.lst []]).length) (x4 := some (.ref (M ++ [MO.lst []]).length)) (x5 := z5) (x6 := z6) (x7 := z7) B3
        (fun s hs => by
          rcases A3.new s hs with q | q
          · right
            rcases hC s q with w | w
            · exact fun x hx => round_all w hx
            · exact fun x hx => round_keys (w x hx)
          · exact .inl q)
        A3.sub S3.f S3.a (by rw [hlen]; omega)
        (by have := hB.few hR; omega)
        (fun hne => by
          have h5 := A3.len
          have : 0 < (roundAll R (F, []) l).2.length := List.length_pos_iff.mpr hne
          omega)
      exact ⟨F', y3, y4, y5, y6, y7, M', e4, B4, C4, f4, (Kp.app.trans (Kp.app.trans (fr3.kp hm (by rw [hlen]; omega)))).trans k4⟩
end
end NW11
end
/-! #### M19 -/
section
set_option Elab.async false
set_option linter.all false
set_option maxRecDepth 100000
set_option maxHeartbeats 8000000
namespace NW11
open RI PySem
theorem p_first (k : Nat) (M : Sto) : run defs (k + 1) 6 [] M = some (eScene first, M) := rfl
theorem ir_21_eq : ir_21 = (.cons (.asg (.nm 1) (.call 6 .nil))
  (.cons (.par2 2 3 (.cons (.dt1 (.var 1) (.cst .non)) (.cons (.lst (.cons (.var 1) .nil)) .nil)))
  (.cons (.while_ wc21 wb21) (.cons (.ret (.var 2)) .nil)))) := rfl
theorem h17_of {R : Rule} (hR : ROk R) (k : Nat) : ∀ s, Good R s → ∀ M, ∃ g r, run defs (k + 4) 17 [eRule R, eScene s] M = some (.ref r, M ++ g) ∧ M.length ≤ r ∧ (M ++ g)[r]? = some (.lst ((stepsOf R s).map ePr)) := by
  intro s ⟨⟨low, a, ho⟩, _⟩ M
  obtain ⟨g, r, h1, h2, h3⟩ := p_steps R s a low ho.low' ho.rows hR.h1 hR.m0 k M
  exact ⟨g, r, h1, h2, by rw [stepsOf_eq ho]; exact h3⟩
theorem first_bi {R : Rule} : BI R [(first, none)] := by
  refine ⟨by simp [keys], fun s hs => ?_, ⟨[], rfl⟩, fun pre t q post e => ?_⟩
  · simp [keys] at hs
    subst hs; exact .first
  · cases pre with
    | nil => simp at e; exact .inl ⟨by rw [← e.1.2], rfl⟩
    | cons x pre => simp at e
theorem p_all (R : Rule) (hR : ROk R) (k : Nat) (M : Sto) : ∃ F r M', run defs (k + 5) 21 [eRule R] M = some (.ref r, M') ∧ M.length ≤ r ∧ M'[r]? = some (.dct false (F.map eKv)) ∧ Kp M.length M M' ∧ BI R F ∧ Clo R F [] := by
  have h17 := h17_of hR k
  have h6 := fun M => p_first (k + 3) M
  rw [run_e (f := fd_21) (env := [some (eRule R), none, none, none, none, none, none, none]) rfl rfl rfl]
  show ∃ F r M', retK (dSs _ ir_21 _ _) = _ ∧ _
  rw [ir_21_eq]
  generalize RI.run defs (k + 4) = cl at h17 h6
  have e1 : dS cl (.asg (.nm 1) (.call 6 .nil)) [some (eRule R), none, none, none, none, none, none, none] M = some (.nx [some (eRule R), some (eScene first), none, none, none, none, none, none], M) := by
    simp [h6, -eScene_mk]
  have hput : putT M.length (eScene first) .non (M ++ [.dct false []]) = some (.ref M.length, M ++ [.dct false ([(first, none)].map eKv)]) := by
    unfold putT
    rw [List.getElem?_concat_length]
    show (match eScene first, keyOf (eScene first) with | .tup _, some nk => _ | _, _ => none) = _
    rw [key_scene]
    show (if (kScene first).depth ≤ 8 ∧ (0 : Nat) < SL then some _ else none) = _
    rw [if_pos ⟨dep_scene first, by decide⟩, set_last]
    rfl
  have e2 : dS cl (.par2 2 3 (.cons (.dt1 (.var 1) (.cst .non)) (.cons (.lst (.cons (.var 1) .nil)) .nil))) [some (eRule R), some (eScene first), none, none, none, none, none, none] M =
      some (.nx [some (eRule R), some (eScene first), some (.ref M.length), some (.ref (M.length + 1)), none, none, none, none], M ++ [.dct false ([(first, none)].map eKv)] ++ [.lst ([first].map eScene)]) := by
    have e3 : eDp1 (eVar 1) (eCst .non) [some (eRule R), some (eScene first), none, none, none, none, none, none] M = some (.ref M.length, M ++ [.dct false ([(first, none)].map eKv)]) := by
      show bnd (eVar 1 _ (M ++ [.dct false []])) _ = _
      simp only [eVar_e, List.getElem?_cons_succ, List.getElem?_cons_zero, getK_s, bnd_s, eCst_e, hput]
    simp only [dS_par2, dL_cons, dL_nil, dE_dt1, dE_var, dE_cst, dE_lst, sPar2_e, aCons_e, e3, bnd_s, aNil_e, eLst_e]
    simp [-eScene_mk]
  rw [dSs_cons, sSeq_e, e1, seqK_nx, dSs_cons, sSeq_e, e2, seqK_nx, dSs_cons, sSeq_e, dS_while]
  have hF : (M ++ [MO.dct false ([(first, none)].map eKv)] ++ [.lst ([first].map eScene)])[M.length]? = some (.dct false ([(first, none)].map eKv)) := by simp
  have hL : (M ++ [MO.dct false ([(first, none)].map eKv)] ++ [.lst ([first].map eScene)])[M.length + 1]? = some (.lst ([first].map eScene)) := by simp
  obtain ⟨F', y3, y4, y5, y6, y7, M', e4, B4, C4, f4, k4⟩ := while_ok (cl := cl) (rF := M.length) hR h17 (x1 := some (eScene first)) (m := M.length) (Nat.le_refl _) WF (F := [(first, none)]) (l := [first]) (rL := M.length + 1) (x4 := none) (x5 := none) (x6 := none) (x7 := none) first_bi
    (fun s hs => .inl (by simpa [keys] using hs)) (fun s hs => by simpa [keys] using hs) hF hL (by omega) (by unfold WF; omega) (fun _ => by unfold WF; simp)
  rw [e4, seqK_nx]
  refine ⟨F', M.length, M', by simp, Nat.le_refl _, f4, ?_, B4, C4⟩
  exact Kp.trans (by rw [List.append_assoc]; exact Kp.app) k4
/-- the keys are what can be reached -/
theorem keys_reach {R : Rule} {F : FS} (h : BI R F) (c : Clo R F []) {s : Scene} : s ∈ keys F ↔ Reach R s := by
  refine ⟨h.re s, fun r => ?_⟩
  induction r with
  | first => obtain ⟨r, e⟩ := h.fst; rw [e]; simp [keys]
  | step _ hx ih =>
    rcases c _ ih with z | z
    · simp at z
    · exact z _ hx
end NW11
end
/-! #### M20 -/
section
set_option Elab.async false
set_option linter.all false
set_option maxRecDepth 100000
set_option maxHeartbeats 8000000
namespace NW11
open RI PySem
def wc22 : IE := .cmp .IsNot (.idx (.var 0) (.var 1)) (.cst .non)
def wb22 : ISs := (.cons (.asg (.tp (.cons (.nm 3) (.cons (.nm 4) .nil))) (.idx (.var 0) (.var 1)))
  (.cons (.asg (.nm 2) (.bin .Add (.lst (.cons (.tup (.cons (.var 4) (.cons (.var 1) .nil))) .nil)) (.var 2)))
  (.cons (.asg (.nm 1) (.var 3))
  .nil)))
theorem ir_22_eq : ir_22 = (.cons (.asg (.nm 2) (.lst .nil)) (.cons (.while_ wc22 wb22) (.cons (.ret (.var 2)) .nil))) := rfl
theorem isNon_par (q : Par) : isNon (ePar q) = decide (q = none) := by
  cases q with
  | none => rfl
  | some p => obtain ⟨s, e⟩ := p; rfl
theorem way_ok {R : Rule} {cl : Nat → FN} {F : FS} (hB : BI R F) {rF : Nat} {lk : Bool} : ∀ (n : Nat) {pre post : FS} {t : Scene} {q : Par} {xs : List D} {rr : Nat} {M : Sto} {x3 x4 : Option D}, F = pre ++ (t, q) :: post → pre.length + 1 ≤ n → xs.length + pre.length + 1 ≤ 16777216 →
    M[rF]? = some (.dct lk (F.map eKv)) → M[rr]? = some (.lst xs) →
    ∃ y1 y3 y4 r' ys M', whileF (dE cl wc22) (dSs cl wb22) n [some (.ref rF), some (eScene t), some (.ref rr), x3, x4] M = some (.nx [some (.ref rF), y1, some (.ref r'), y3, y4], M') ∧ M'[r']? = some (.lst ys) ∧ ys.length ≤ xs.length + pre.length ∧ ∃ g, M' = M ++ g
  | 0, pre, post, t, q, xs, rr, M, x3, x4, e, hn, _, _, _ => by omega
  | n + 1, pre, post, t, q, xs, rr, M, x3, x4, e, hn, hz, hF, hr => by
    have hm : (t, q) ∈ F := by rw [e]; simp
    have hix := ix_scene hF hB.nd hm
    have hc : bOf (dE cl wc22) [some (.ref rF), some (eScene t), some (.ref rr), x3, x4] M = some (!decide (q = none), M) := by
      simp [wc22, hix, isNon_par, -eScene_mk]
    rw [whileF, hc, bnd_s]
    rcases hB.par pre t q post e with ⟨h1, h2⟩ | ⟨s, ev, h1, h2⟩
    · subst h1
      rw [if_neg (by simp)]
      exact ⟨_, _, _, rr, xs, M, rfl, hr, by omega, [], by simp⟩
    · subst h1
      rw [if_pos (by simp)]
      obtain ⟨⟨s', q'⟩, hs, hs2⟩ := List.mem_map.mp h2
      simp only [] at hs2
      subst hs2
      obtain ⟨pre1, post1, hp⟩ := List.append_of_mem hs
      have e1 : F = pre1 ++ (s', q') :: (post1 ++ (t, some (s', ev)) :: post) := by rw [e, hp]; simp
      have hl : pre1.length + 1 ≤ pre.length := by rw [hp]; simp
      have lr : rr < M.length := (List.getElem?_eq_some_iff.mp hr).1
      have hadd : binD .Add (.ref M.length) (.ref rr) (M ++ [.lst [.tup [eEv ev, eScene t]]]) = some (.ref (M.length + 1), M ++ [.lst [.tup [eEv ev, eScene t]]] ++ [.lst ([.tup [eEv ev, eScene t]] ++ xs)]) := by
        rw [add_rr (xs := [.tup [eEv ev, eScene t]]) (ys := xs) List.getElem?_concat_length (by rw [List.getElem?_append_left lr]; exact hr), if_pos (by simp; omega)]
        simp
      have hbody : dSs cl wb22 [some (.ref rF), some (eScene t), some (.ref rr), x3, x4] M = some (.nx [some (.ref rF), some (eScene s'), some (.ref (M.length + 1)), some (eScene s'), some (eEv ev)], M ++ [.lst [.tup [eEv ev, eScene t]]] ++ [.lst ([.tup [eEv ev, eScene t]] ++ xs)]) := by
        simp only [ePar] at hix
        simp [wb22, hix, hadd, -eScene_mk]
      rw [hbody]
      show ∃ y1 y3 y4 r' ys M', whileF (dE cl wc22) (dSs cl wb22) n _ _ = _ ∧ _
      have lF : rF < M.length := (List.getElem?_eq_some_iff.mp hF).1
      obtain ⟨y1, y3, y4, r', ys, M', g1, g2, g3, g, g4⟩ := way_ok hB n (pre := pre1) (post := post1 ++ (t, some (s', ev)) :: post) (t := s') (q := q') (xs := [.tup [eEv ev, eScene t]] ++ xs) (rr := M.length + 1) (M := M ++ [.lst [.tup [eEv ev, eScene t]]] ++ [.lst ([.tup [eEv ev, eScene t]] ++ xs)]) (x3 := some (eScene s')) (x4 := some (eEv ev)) e1 (by omega) (by simp; omega)
        (by rw [List.append_assoc, List.getElem?_append_left lF]; exact hF) (by simp)
      refine ⟨y1, y3, y4, r', ys, M', g1, g2, ?_, _, by rw [g4, List.append_assoc, List.append_assoc]⟩
      simp at g3
      omega
theorem p_way {R : Rule} (hR : ROk R) {F : FS} (hB : BI R F) {rF : Nat} {lk : Bool} {s : Scene} (hs : s ∈ keys F) (k : Nat) {M : Sto} (hF : M[rF]? = some (.dct lk (F.map eKv))) :
    ∃ r ys g, run defs (k + 1) 22 [.ref rF, eScene s] M = some (.ref r, M ++ g) ∧ (M ++ g)[r]? = some (.lst ys) ∧ ys.length ≤ 937440 := by
  rw [run_e (f := fd_22) (env := [some (.ref rF), some (eScene s), none, none, none]) rfl rfl rfl]
  show ∃ r ys g, retK (dSs _ ir_22 _ _) = _ ∧ _
  rw [ir_22_eq]
  generalize RI.run defs k = cl
  obtain ⟨⟨s', q⟩, hm, e⟩ := List.mem_map.mp hs
  simp only [] at e
  subst e
  obtain ⟨pre, post, hp⟩ := List.append_of_mem hm
  have hlen := hB.few hR
  have hl : pre.length + 1 ≤ 937440 := by rw [hp] at hlen; simp at hlen; omega
  have lF : rF < M.length := (List.getElem?_eq_some_iff.mp hF).1
  obtain ⟨y1, y3, y4, r', ys, M', g1, g2, g3, g, g4⟩ := way_ok (cl := cl) (rF := rF) (lk := lk) hB WF (xs := []) (rr := M.length) (M := M ++ [.lst []]) (x3 := none) (x4 := none) hp (by unfold WF; omega) (by simp; omega) (by rw [List.getElem?_append_left lF]; exact hF) List.getElem?_concat_length
  have e1 : dS cl (.asg (.nm 2) (.lst .nil)) [some (.ref rF), some (eScene s'), none, none, none] M = some (.nx [some (.ref rF), some (eScene s'), some (.ref M.length), none, none], M ++ [.lst []]) := by simp [-eScene_mk]
  rw [dSs_cons, sSeq_e, e1, seqK_nx, dSs_cons, sSeq_e, dS_while, g1, seqK_nx]
  refine ⟨r', ys, [.lst []] ++ g, ?_, ?_, ?_⟩
  · simp [g4]
  · rw [← List.append_assoc, ← g4]; exact g2
  · simp at g3; omega
end NW11
end
/-! #### M21 -/
section
set_option Elab.async false
set_option linter.all false
set_option maxRecDepth 100000
set_option maxHeartbeats 8000000
namespace NW11
open RI PySem
abbrev HD := Hm × Dr
def eHD (p : HD) : D := .tup [eHm p.1, eDr p.2]
theorem eHm_inj {v w : Hm} (h : eHm v = eHm w) : v = w := by cases v <;> cases w <;> first | rfl | simp [eHm] at h
theorem eDr_inj {v w : Dr} (h : eDr v = eDr w) : v = w := by cases v <;> cases w <;> first | rfl | simp [eDr] at h
theorem eHD_inj {v w : HD} (h : eHD v = eHD w) : v = w := by
  obtain ⟨a, b⟩ := v
  obtain ⟨c, d⟩ := w
  simp only [eHD, D.tup.injEq, List.cons.injEq, and_true] at h
  rw [eHm_inj h.1, eDr_inj h.2]
def kHD : HD → NestedKey
  | (h, d) => .tup [match h with | .ast => .text (S [97, 115, 116, 114, 97, 121]) | .lost => .text (S [108, 111, 115, 116]), match d with | .meant => .text (S [109, 101, 97, 110, 116]) | .other => .text (S [111, 116, 104, 101, 114]) | .time => .text (S [116, 105, 109, 101])]
theorem key_hd (p : HD) : keyOf (eHD p) = some (kHD p) := by
  obtain ⟨h, d⟩ := p
  cases h <;> cases d <;> rfl
theorem dep_hd (p : HD) : (kHD p).depth ≤ 8 := by
  obtain ⟨h, d⟩ := p
  cases h <;> cases d <;> simp [kHD, NestedKey.depth, NestedKey.depthAll]
/-- the dict of harms: keys, any values -/
abbrev KS := List (HD × D)
def eK (p : HD × D) : D × D := (eHD p.1, p.2)
def kk (K : KS) : List HD := K.map (·.1)
theorem dget_cK {p : HD × D} {l : KS} {s : HD} : dget ((p :: l).map eK) (eHD s) = if p.1 = s then some p.2 else dget (l.map eK) (eHD s) := by
  rw [List.map_cons, dget_cons]
  show (if eHD p.1 = eHD s then some p.2 else _) = _
  by_cases h : p.1 = s
  · rw [if_pos h, if_pos (by rw [h])]
  · rw [if_neg h, if_neg (fun e => h (eHD_inj e))]
theorem dget_someK {l : KS} {s : HD} : (dget (l.map eK) (eHD s)).isSome = decide (s ∈ kk l) := by
  induction l with
  | nil => rfl
  | cons p l ih =>
    rw [dget_cK]
    by_cases h : p.1 = s
    · rw [if_pos h]
      simp [kk, h]
    · rw [if_neg h, ih]
      show decide (s ∈ l.map (·.1)) = decide (s ∈ p.1 :: l.map (·.1))
      simp [Ne.symm h]
theorem dput_K {l : KS} {s : HD} {v : D} (h : s ∉ kk l) : dput (l.map eK) (eHD s) v = (l ++ [(s, v)]).map eK := by
  unfold dput
  have := dget_someK (l := l) (s := s)
  rw [decide_eq_false h] at this
  rw [if_neg (by rw [this]; simp)]
  simp [eK]
theorem in_K {M : Sto} {r : Nat} {lk : Bool} {l : KS} {s : HD} (h : M[r]? = some (.dct lk (l.map eK))) : inD (eHD s) (.ref r) M = some (decide (s ∈ kk l)) := by
  have hs : seqOf M (.ref r) = none := by
    show lstOf M (.ref r) = none
    unfold lstOf; simp only [h]
  unfold inD
  rw [hs]
  simp only [h]
  show (match eHD s, keyOf (eHD s) with | .tup _, some k => _ | _, _ => none) = _
  rw [key_hd]
  show (if (kHD s).depth ≤ 8 then some (dget (l.map eK) (eHD s)).isSome else none) = _
  rw [if_pos (dep_hd s), dget_someK]
theorem notin_K {M : Sto} {r : Nat} {lk : Bool} {l : KS} {s : HD} (h : M[r]? = some (.dct lk (l.map eK))) : cmpF .NotIn (eHD s) (.ref r) M = some (.bl (!decide (s ∈ kk l)), M) := by
  show ((inD (eHD s) (.ref r) M).map not).map _ = _
  rw [in_K h]; rfl
theorem setD_K {M : Sto} {r : Nat} {l : KS} {s : HD} {v : D} (h : M[r]? = some (.dct false (l.map eK))) (hn : s ∉ kk l) (hz : l.length < 16777216) : setD (.ref r) (eHD s) v M = some (M.set r (.dct false ((l ++ [(s, v)]).map eK))) := by
  unfold setD
  simp only [h]
  show (match eHD s, keyOf (eHD s) with | .tup _, some k => _ | _, _ => none) = _
  rw [key_hd]
  show (if (kHD s).depth ≤ 8 ∧ (l.map eK).length < SL then some _ else none) = _
  rw [if_pos ⟨dep_hd s, by simpa [SL] using hz⟩, dput_K hn]
/-- at most six pairs -/
def hdC : HD → Nat
  | (h, d) => (match h with | .ast => 0 | .lost => 3) + (match d with | .meant => 0 | .other => 1 | .time => 2)
theorem hdC_bd (p : HD) : hdC p < 6 := by obtain ⟨h, d⟩ := p; cases h <;> cases d <;> decide
theorem hdC_inj {p q : HD} (h : hdC p = hdC q) : p = q := by
  obtain ⟨a, b⟩ := p
  obtain ⟨c, d⟩ := q
  cases a <;> cases b <;> cases c <;> cases d <;> first | rfl | (simp [hdC] at h)
theorem few_K {K : KS} (nd : (kk K).Nodup) : K.length ≤ 6 := by
  have h1 : ((kk K).map hdC).Nodup := by
    have : ∀ l : List HD, l.Nodup → (l.map hdC).Nodup := by
      intro l
      induction l with
      | nil => intro _; simp
      | cons x r ih =>
        intro nd
        rw [List.nodup_cons] at nd
        rw [List.map_cons, List.nodup_cons]
        refine ⟨fun hm => ?_, ih nd.2⟩
        obtain ⟨y, hy, e⟩ := List.mem_map.mp hm
        exact nd.1 (hdC_inj e ▸ hy)
    exact this _ nd
  have := pigeon 6 ((kk K).map hdC) h1 fun x hx => by
    obtain ⟨s, hs, rfl⟩ := List.mem_map.mp hx
    exact hdC_bd s
  simpa [kk] using this
/-- what a step brings about -/
def pairOf (s : Scene) (x : Ev × Scene) : Option HD := match stat x.2 with
  | some h => if stat s = some h then none else some (h, doer s x.1)
  | none => none
end NW11
end
/-! #### M22 -/
section
set_option Elab.async false
set_option linter.all false
set_option maxRecDepth 100000
set_option maxHeartbeats 8000000
namespace NW11
open RI PySem
def cond23 : IE := (.and (.cmp .IsNot (.var 6) (.cst .non)) (.and (.cmp .NotEq (.var 6) (.call 19 (.cons (.var 1) .nil))) (.cmp .NotIn (.tup (.cons (.var 6) (.cons (.call 20 (.cons (.var 1) (.cons (.var 4) .nil))) .nil))) (.var 2))))
def sub23 : IS := (.sub (.var 2) (.tup (.cons (.var 6) (.cons (.call 20 (.cons (.var 1) (.cons (.var 4) .nil))) .nil))) (.bin .Add (.call 22 (.cons (.var 3) (.cons (.var 1) .nil))) (.lst (.cons (.tup (.cons (.var 4) (.cons (.var 5) .nil))) .nil))))
def ib23 : ISs := (.cons (.asg (.nm 6) (.call 19 (.cons (.var 5) .nil)))
  (.cons (.if_ cond23 (.cons sub23 .nil) .nil)
  .nil))
def tp45 : IT := (.tp (.cons (.nm 4) (.cons (.nm 5) .nil)))
def fb23 : ISs := (.cons (.for_ (.src (.call 17 (.cons (.var 0) (.cons (.var 1) .nil)))) tp45 ib23) .nil)
theorem ir_23_eq : ir_23 = (.cons (.par2 2 3 (.cons .dne (.cons (.call 21 (.cons (.var 0) .nil)) .nil)))
  (.cons (.forV 3 (.nm 1) fb23) (.cons (.ret (.var 2)) .nil))) := rfl
theorem non_hm {h : Hm} : isNon (eHm h) = false := by cases h <;> rfl
theorem eq_hm {M : Sto} {h g : Hm} : eqD (eHm h) (eHm g) M = some (decide (h = g)) := by cases h <;> cases g <;> simp [eHm]
theorem eq_ohm {M : Sto} {h : Hm} {g : Option Hm} : eqD (eHm h) (eOHm g) M = some (decide (some h = g)) := by
  cases g with
  | none => cases h <;> simp [eHm, eOHm] <;> rfl
  | some g => simp [eOHm, eq_hm]
/-- what the callees do here -/
structure C23 (R : Rule) (cl : Nat → FN) (F : FS) : Prop where
  st : ∀ s, Good R s → ∀ M, cl 19 [eScene s] M = some (eOHm (stat s), M)
  dr : ∀ s e, Good R s → evOk s e → ∀ M, cl 20 [eScene s, eEv e] M = some (eDr (doer s e), M)
  wy : ∀ rF lk s M, s ∈ keys F → M[rF]? = some (.dct lk (F.map eKv)) → ∃ r ys g, cl 22 [.ref rF, eScene s] M = some (.ref r, M ++ g) ∧ (M ++ g)[r]? = some (.lst ys) ∧ ys.length ≤ 937440
/-- the keys grow by the pair, if there is one -/
def Grow (o : Option HD) (K K' : KS) : Prop := (∀ p, p ∈ kk K' ↔ p ∈ kk K ∨ o = some p) ∧ (kk K').Nodup
section
variable {R : Rule} {cl : Nat → FN} {F : FS} {rF rK : Nat}
theorem grow_same {o : Option HD} {K : KS} (nd : (kk K).Nodup) (h : ∀ p, o = some p → p ∈ kk K) : Grow o K K := ⟨fun p => ⟨.inl, fun q => q.elim id (h p)⟩, nd⟩
theorem ib23_ok (hR : ROk R) (C : C23 R cl F) {s : Scene} (hs : Good R s) (hk : s ∈ keys F) {e : Ev} {t : Scene} (hx : (e, t) ∈ stepsOf R s) {K : KS} {M : Sto} (hF : M[rF]? = some (.dct true (F.map eKv))) (hK : M[rK]? = some (.dct false (K.map eK))) (nd : (kk K).Nodup) {x6 : Option D} :
    ∃ y6 K' M', dSs cl ib23 [some (eRule R), some (eScene s), some (.ref rK), some (.ref rF), some (eEv e), some (eScene t), x6] M = some (.nx [some (eRule R), some (eScene s), some (.ref rK), some (.ref rF), some (eEv e), some (eScene t), y6], M') ∧
      M'[rK]? = some (.dct false (K'.map eK)) ∧ Grow (pairOf s (e, t)) K K' ∧ ∀ i o, i ≠ rK → M[i]? = some o → M'[i]? = some o := by
  obtain ⟨gt, ge⟩ := step_good hR hs hx
  have c1 := C.st t gt
  have c2 := C.st s hs
  have c3 := C.dr s e hs ge
  have s1 : dS cl (.asg (.nm 6) (.call 19 (.cons (.var 5) .nil))) [some (eRule R), some (eScene s), some (.ref rK), some (.ref rF), some (eEv e), some (eScene t), x6] M = some (.nx [some (eRule R), some (eScene s), some (.ref rK), some (.ref rF), some (eEv e), some (eScene t), some (eOHm (stat t))], M) := by
    simp [c1, -eScene_mk]
  have lK : rK < M.length := (List.getElem?_eq_some_iff.mp hK).1
  have done : ∀ b, bOf (dE cl cond23) [some (eRule R), some (eScene s), some (.ref rK), some (.ref rF), some (eEv e), some (eScene t), some (eOHm (stat t))] M = some (b, M) → b = false → (∀ p, pairOf s (e, t) = some p → p ∈ kk K) → ∃ y6 K' M', dSs cl ib23 [some (eRule R), some (eScene s), some (.ref rK), some (.ref rF), some (eEv e), some (eScene t), x6] M = some (.nx [some (eRule R), some (eScene s), some (.ref rK), some (.ref rF), some (eEv e), some (eScene t), y6], M') ∧
      M'[rK]? = some (.dct false (K'.map eK)) ∧ Grow (pairOf s (e, t)) K K' ∧ ∀ i o, i ≠ rK → M[i]? = some o → M'[i]? = some o := by
    intro b hb hb2 hp
    subst hb2
    refine ⟨some (eOHm (stat t)), K, M, ?_, hK, grow_same nd hp, fun _ _ _ h => h⟩
    rw [ib23, dSs_cons, sSeq_e, s1, seqK_nx, dSs_cons, sSeq_e, dS_if, sIf_e, hb, bnd_s, if_neg (by simp)]
    simp
  cases hst : stat t with
  | none =>
    refine done false ?_ rfl fun p hp => by simp [pairOf, hst] at hp
    rw [hst]
    simp [cond23, eOHm]
  | some h =>
    by_cases h2 : stat s = some h
    · refine done false ?_ rfl fun p hp => by simp [pairOf, hst, h2] at hp
      rw [hst]
      have q := eq_ohm (M := M) (h := h) (g := stat s)
      rw [h2] at q
      simp [cond23, eOHm, non_hm, c2, h2, eq_hm, -eScene_mk]
    · have hp : pairOf s (e, t) = some (h, doer s e) := by simp [pairOf, hst, h2]
      have hni := notin_K (s := (h, doer s e)) hK
      have q := eq_ohm (M := M) (h := h) (g := stat s)
      rw [decide_eq_false (fun z => h2 z.symm)] at q
      have hcond : bOf (dE cl cond23) [some (eRule R), some (eScene s), some (.ref rK), some (.ref rF), some (eEv e), some (eScene t), some (eOHm (stat t))] M = some (!decide ((h, doer s e) ∈ kk K), M) := by
        rw [hst]
        have e1 : eOHm (some h) = eHm h := rfl
        rw [e1]
        simp only [eHD] at hni
        simp [cond23, non_hm, c2, c3, q, hni, -eScene_mk]
      by_cases hin : (h, doer s e) ∈ kk K
      · exact done _ hcond (by rw [decide_eq_true hin]; rfl) fun p hp2 => by
          rw [hp] at hp2
          cases hp2
          exact hin
      · rw [decide_eq_false hin] at hcond
        obtain ⟨r, ys, g, w1, w2, w3⟩ := C.wy rF true s M hk hF
        have lr : r < (M ++ g).length := (List.getElem?_eq_some_iff.mp w2).1
        have hadd : binD .Add (.ref r) (.ref (M ++ g).length) (M ++ g ++ [.lst [.tup [eEv e, eScene t]]]) = some (.ref (M ++ g ++ [MO.lst [.tup [eEv e, eScene t]]]).length, M ++ g ++ [.lst [.tup [eEv e, eScene t]]] ++ [.lst (ys ++ [.tup [eEv e, eScene t]])]) := by
          rw [add_rr (xs := ys) (ys := [.tup [eEv e, eScene t]]) (by rw [List.getElem?_append_left lr]; exact w2) List.getElem?_concat_length, if_pos (by simp; omega)]
        have hK3 : (M ++ g ++ [MO.lst [.tup [eEv e, eScene t]]] ++ [.lst (ys ++ [.tup [eEv e, eScene t]])])[rK]? = some (.dct false (K.map eK)) := by
          rw [List.append_assoc, List.append_assoc, List.getElem?_append_left lK]; exact hK
        have hset := setD_K (v := .ref (M ++ g ++ [MO.lst [.tup [eEv e, eScene t]]]).length) hK3 hin (by have := few_K nd; omega)
        generalize hM3 : M ++ g ++ [MO.lst [.tup [eEv e, eScene t]]] ++ [.lst (ys ++ [.tup [eEv e, eScene t]])] = M3 at hadd hK3 hset
        generalize (M ++ g ++ [MO.lst [.tup [eEv e, eScene t]]]).length = rv at hadd hset
        have e3 : dS cl sub23 [some (eRule R), some (eScene s), some (.ref rK), some (.ref rF), some (eEv e), some (eScene t), some (eHm h)] M = some (.nx [some (eRule R), some (eScene s), some (.ref rK), some (.ref rF), some (eEv e), some (eScene t), some (eHm h)], M3.set rK (.dct false ((K ++ [((h, doer s e), D.ref rv)]).map eK))) := by
          simp only [eHD] at hset
          have hl : (M ++ g ++ [MO.lst [D.tup [eEv e, eScene t]]]) = M ++ (g ++ [MO.lst [D.tup [eEv e, eScene t]]]) := by simp
          have v1 : dE cl (.bin .Add (.call 22 (.cons (.var 3) (.cons (.var 1) .nil))) (.lst (.cons (.tup (.cons (.var 4) (.cons (.var 5) .nil))) .nil))) [some (eRule R), some (eScene s), some (.ref rK), some (.ref rF), some (eEv e), some (eScene t), some (eHm h)] M = some (.ref rv, M3) := by
            rw [dE_bin, eOp_e]
            have a1 : dE cl (.call 22 (.cons (.var 3) (.cons (.var 1) .nil))) [some (eRule R), some (eScene s), some (.ref rK), some (.ref rF), some (eEv e), some (eScene t), some (eHm h)] M = some (.ref r, M ++ g) := by simp [w1, -eScene_mk]
            have a2 : dE cl (.lst (.cons (.tup (.cons (.var 4) (.cons (.var 5) .nil))) .nil)) [some (eRule R), some (eScene s), some (.ref rK), some (.ref rF), some (eEv e), some (eScene t), some (eHm h)] (M ++ g) = some (.ref (M ++ g).length, M ++ g ++ [.lst [.tup [eEv e, eScene t]]]) := by simp [-eScene_mk]
            rw [a1, bnd_s, a2, bnd_s, hadd]
          have v2 : dE cl (.tup (.cons (.var 6) (.cons (.call 20 (.cons (.var 1) (.cons (.var 4) .nil))) .nil))) [some (eRule R), some (eScene s), some (.ref rK), some (.ref rF), some (eEv e), some (eScene t), some (eHm h)] M3 = some (.tup [eHm h, eDr (doer s e)], M3) := by simp [c3, -eScene_mk]
          rw [sub23, dS_sub, sSub_e, v1, bnd_s]
          simp only [dE_var, eVar_e, List.getElem?_cons_succ, List.getElem?_cons_zero, getK_s, bnd_s]
          have v3 := v2
          rw [v3, bnd_s, hset]
          rfl
        refine ⟨some (eHm h), K ++ [((h, doer s e), D.ref rv)], M3.set rK (.dct false ((K ++ [((h, doer s e), D.ref rv)]).map eK)), ?_, ?_, ?_, ?_⟩
        · rw [ib23, dSs_cons, sSeq_e, s1, seqK_nx, dSs_cons, sSeq_e, dS_if, sIf_e, hcond, bnd_s]
          rw [if_pos (by simp), dSs_cons, sSeq_e, hst]
          have e1 : eOHm (some h) = eHm h := rfl
          rw [e1, e3]
          simp
        · rw [List.getElem?_set_self (List.getElem?_eq_some_iff.mp hK3).1]
        · refine ⟨fun p => ?_, ?_⟩
          · rw [hp]
            simp only [kk, List.map_append, List.map_cons, List.map_nil, List.mem_append, List.mem_singleton, Option.some.injEq]
            exact ⟨fun q => q.imp id Eq.symm, fun q => q.imp id Eq.symm⟩
          · show ((K ++ [((h, doer s e), D.ref rv)]).map (·.1)).Nodup
            rw [List.map_append, List.nodup_append]
            refine ⟨nd, by simp, fun a ha b hb => ?_⟩
            simp only [List.map_cons, List.map_nil, List.mem_singleton] at hb
            subst hb
            exact fun z => hin (z ▸ ha)
        · intro i o hi ho
          rw [List.getElem?_set_ne (Ne.symm hi), ← hM3, List.append_assoc, List.append_assoc, List.getElem?_append_left (List.getElem?_eq_some_iff.mp ho).1]
          exact ho
end
end NW11
end
/-! #### M23 -/
section
set_option Elab.async false
set_option linter.all false
set_option maxRecDepth 100000
set_option maxHeartbeats 8000000
namespace NW11
open RI PySem
section
variable {R : Rule} {cl : Nat → FN} {F : FS} {rF rK : Nat}
theorem in23_all (hR : ROk R) (C : C23 R cl F) {s : Scene} (hs : Good R s) (hk : s ∈ keys F) {rs : Nat} {L0 : List D} (hne : rs ≠ rK) (hFK : rF ≠ rK) : ∀ (L : List (Ev × Scene)) {K : KS} {M : Sto} {x4 x5 x6 : Option D}, (∀ x ∈ L, x ∈ stepsOf R s) → M[rF]? = some (.dct true (F.map eKv)) → M[rK]? = some (.dct false (K.map eK)) → (kk K).Nodup → M[rs]? = some (.lst L0) →
    ∃ y4 y5 y6 K' M', forF tp45 (dSs cl ib23) [(rs, .lst L0)] (L.map ePr) [some (eRule R), some (eScene s), some (.ref rK), some (.ref rF), x4, x5, x6] M = some (.nx [some (eRule R), some (eScene s), some (.ref rK), some (.ref rF), y4, y5, y6], M') ∧
      M'[rK]? = some (.dct false (K'.map eK)) ∧ (∀ p, p ∈ kk K' ↔ p ∈ kk K ∨ ∃ x ∈ L, pairOf s x = some p) ∧ (kk K').Nodup ∧ ∀ i o, i ≠ rK → M[i]? = some o → M'[i]? = some o
  | [], K, M, x4, x5, x6, hL, hF, hK, nd, hM => ⟨x4, x5, x6, K, M, by rw [List.map_nil, forF_nilG (by simp [gdB, hM])], hK, fun p => by simp, nd, fun _ _ _ h => h⟩
  | (e, t) :: L, K, M, x4, x5, x6, hL, hF, hK, nd, hM => by
    rw [List.map_cons, forF_consG (by simp [gdB, hM])]
    have hd : dT tp45 (ePr (e, t)) [some (eRule R), some (eScene s), some (.ref rK), some (.ref rF), x4, x5, x6] = some [some (eRule R), some (eScene s), some (.ref rK), some (.ref rF), some (eEv e), some (eScene t), x6] := by simp [ePr, tp45, -eScene_mk]
    rw [hd, dtK_s]
    obtain ⟨y6, K1, M1, e1, k1, g1, f1⟩ := ib23_ok hR C hs hk (hL (e, t) (by simp)) hF hK nd (x6 := x6)
    rw [e1, lpK_nx]
    obtain ⟨z4, z5, z6, K2, M2, e2, k2, g2, n2, f2⟩ := in23_all hR C hs hk hne hFK L (x4 := some (eEv e)) (x5 := some (eScene t)) (x6 := y6) (fun x hx => hL x (by simp [hx])) (f1 _ _ hFK hF) k1 g1.2 (f1 _ _ hne hM)
    refine ⟨z4, z5, z6, K2, M2, e2, k2, fun p => ?_, n2, fun i o h1 h2 => f2 i o h1 (f1 i o h1 h2)⟩
    rw [g2 p, g1.1 p]
    constructor
    · rintro ((h | h) | ⟨x, h1, h2⟩)
      · exact .inl h
      · exact .inr ⟨(e, t), by simp, h⟩
      · exact .inr ⟨x, by simp [h1], h2⟩
    · rintro (h | ⟨x, h1, h2⟩)
      · exact .inl (.inl h)
      · rcases List.mem_cons.mp h1 with z | z
        · subst z
          exact .inl (.inr h2)
        · exact .inr ⟨x, z, h2⟩
theorem fb23_ok (hR : ROk R) (C : C23 R cl F) (h17 : ∀ s, Good R s → ∀ M, ∃ g r, cl 17 [eRule R, eScene s] M = some (.ref r, M ++ g) ∧ M.length ≤ r ∧ (M ++ g)[r]? = some (.lst ((stepsOf R s).map ePr))) {s : Scene} (hs : Good R s) (hk : s ∈ keys F) (hFK : rF ≠ rK) {K : KS} {M : Sto} {x4 x5 x6 : Option D} (hF : M[rF]? = some (.dct true (F.map eKv))) (hK : M[rK]? = some (.dct false (K.map eK))) (nd : (kk K).Nodup) :
    ∃ y4 y5 y6 K' M', dSs cl fb23 [some (eRule R), some (eScene s), some (.ref rK), some (.ref rF), x4, x5, x6] M = some (.nx [some (eRule R), some (eScene s), some (.ref rK), some (.ref rF), y4, y5, y6], M') ∧
      M'[rK]? = some (.dct false (K'.map eK)) ∧ (∀ p, p ∈ kk K' ↔ p ∈ kk K ∨ ∃ x ∈ stepsOf R s, pairOf s x = some p) ∧ (kk K').Nodup ∧ ∀ i o, i ≠ rK → M[i]? = some o → M'[i]? = some o := by
  obtain ⟨g, r, h1, hr, h2⟩ := h17 s hs M
  have lF : rF < M.length := (List.getElem?_eq_some_iff.mp hF).1
  have lK : rK < M.length := (List.getElem?_eq_some_iff.mp hK).1
  obtain ⟨y4, y5, y6, K', M', e2, k2, g2, n2, f2⟩ := in23_all (L0 := (stepsOf R s).map ePr) hR C hs hk (rs := r) (by omega) hFK (stepsOf R s) (x4 := x4) (x5 := x5) (x6 := x6) (fun x hx => hx) (by rw [List.getElem?_append_left lF]; exact hF) (by rw [List.getElem?_append_left lK]; exact hK) nd h2
  refine ⟨y4, y5, y6, K', M', ?_, k2, g2, n2, fun i o hi ho => f2 i o hi (by rw [List.getElem?_append_left (List.getElem?_eq_some_iff.mp ho).1]; exact ho)⟩
  generalize hb : dSs cl ib23 = body at e2
  have hsrc : srcOf (M ++ g) (.ref r) = some ([(r, .lst ((stepsOf R s).map ePr))], (stepsOf R s).map ePr) := by simp [srcOf, h2]
  rw [fb23, dSs_cons, dS_for, hb]
  simp [h1, hsrc, e2, -eScene_mk]
theorem out23_all (hR : ROk R) (C : C23 R cl F) (h17 : ∀ s, Good R s → ∀ M, ∃ g r, cl 17 [eRule R, eScene s] M = some (.ref r, M ++ g) ∧ M.length ≤ r ∧ (M ++ g)[r]? = some (.lst ((stepsOf R s).map ePr))) (hFK : rF ≠ rK) : ∀ (l : List Scene) {K : KS} {M : Sto} {x1 x4 x5 x6 : Option D}, (∀ s ∈ l, Good R s ∧ s ∈ keys F) → M[rF]? = some (.dct true (F.map eKv)) → M[rK]? = some (.dct false (K.map eK)) → (kk K).Nodup →
    ∃ y1 y4 y5 y6 K' M', forF (.nm 1) (dSs cl fb23) [(rF, .dct true (F.map eKv))] (l.map eScene) [some (eRule R), x1, some (.ref rK), some (.ref rF), x4, x5, x6] M = some (.nx [some (eRule R), y1, some (.ref rK), some (.ref rF), y4, y5, y6], M') ∧
      M'[rK]? = some (.dct false (K'.map eK)) ∧ (∀ p, p ∈ kk K' ↔ p ∈ kk K ∨ ∃ s ∈ l, ∃ x ∈ stepsOf R s, pairOf s x = some p) ∧ (kk K').Nodup ∧ ∀ i o, i ≠ rK → M[i]? = some o → M'[i]? = some o
  | [], K, M, x1, x4, x5, x6, hl, hF, hK, nd => ⟨x1, x4, x5, x6, K, M, by rw [List.map_nil, forF_nilG (by simp [gdB, hF])], hK, fun p => by simp, nd, fun _ _ _ h => h⟩
  | s :: l, K, M, x1, x4, x5, x6, hl, hF, hK, nd => by
    rw [List.map_cons, forF_consG (by simp [gdB, hF]), dT_nm]
    simp only [dtK_s, List.set_cons_succ, List.set_cons_zero]
    obtain ⟨y4, y5, y6, K1, M1, e1, k1, g1, n1, f1⟩ := fb23_ok hR C h17 (hl s (by simp)).1 (hl s (by simp)).2 hFK (x4 := x4) (x5 := x5) (x6 := x6) hF hK nd
    rw [e1, lpK_nx]
    obtain ⟨z1, z4, z5, z6, K2, M2, e2, k2, g2, n2, f2⟩ := out23_all hR C h17 hFK l (x1 := some (eScene s)) (x4 := y4) (x5 := y5) (x6 := y6) (fun t ht => hl t (by simp [ht])) (f1 _ _ hFK hF) k1 n1
    refine ⟨z1, z4, z5, z6, K2, M2, e2, k2, fun p => ?_, n2, fun i o h1 h2 => f2 i o h1 (f1 i o h1 h2)⟩
    rw [g2 p, g1 p]
    constructor
    · rintro ((h | ⟨x, h1, h2⟩) | ⟨t, ht, x, h1, h2⟩)
      · exact .inl h
      · exact .inr ⟨s, by simp, x, h1, h2⟩
      · exact .inr ⟨t, by simp [ht], x, h1, h2⟩
    · rintro (h | ⟨t, ht, x, h1, h2⟩)
      · exact .inl (.inl h)
      · rcases List.mem_cons.mp ht with z | z
        · subst z
          exact .inl (.inr ⟨x, h1, h2⟩)
        · exact .inr ⟨t, z, x, h1, h2⟩
end
/-- the pairs that come about -/
def HP (R : Rule) (p : HD) : Prop := ∃ s, Reach R s ∧ ∃ x ∈ stepsOf R s, pairOf s x = some p
theorem p_harms (R : Rule) (hR : ROk R) (k : Nat) (M : Sto) : ∃ K r M', run defs (k + 6) 23 [eRule R] M = some (.ref r, M') ∧ M.length ≤ r ∧ M'[r]? = some (.dct false (K.map eK)) ∧ (∀ p, p ∈ kk K ↔ HP R p) ∧ Kp M.length M M' := by
  have h17 := h17_of hR (k + 1)
  obtain ⟨F, r, M1, h21, hr, hF, hkp, hB, hC⟩ := p_all R hR k (M ++ [.dct false []])
  have C : C23 R (run defs (k + 5)) F := ⟨fun s hs M => by
      obtain ⟨⟨low, a, ho⟩, _⟩ := hs
      exact p_stat s (by rw [ho.rows]; rcases ho.low' with e | ⟨b, e⟩ <;> subst e <;> first | exact .inl ⟨_, rfl⟩ | exact .inr ⟨_, _, rfl⟩) (k + 3) M,
    fun s e hs he M => by
      obtain ⟨⟨low, a, ho⟩, _⟩ := hs
      exact p_doer s e (by rw [ho.rows]; rcases ho.low' with e | ⟨b, e⟩ <;> subst e <;> first | exact .inl ⟨_, rfl⟩ | exact .inr ⟨_, _, rfl⟩) he (k + 4) M,
    fun rF lk s M hs hF => p_way hR hB hs (k + 4) hF⟩
  rw [run_e (f := fd_23) (env := [some (eRule R), none, none, none, none, none, none]) rfl rfl rfl]
  show ∃ K r M', retK (dSs _ ir_23 _ _) = _ ∧ _
  rw [ir_23_eq]
  generalize RI.run defs (k + 5) = cl at h17 h21 C
  have lr : r < M1.length := (List.getElem?_eq_some_iff.mp hF).1
  have hlen : (M ++ [MO.dct false []]).length = M.length + 1 := by simp
  have hK : M1[M.length]? = some (.dct false (([] : KS).map eK)) := hkp _ _ (by rw [hlen]; omega) List.getElem?_concat_length
  have hne : r ≠ M.length := by omega
  have e1 : dS cl (.par2 2 3 (.cons .dne (.cons (.call 21 (.cons (.var 0) .nil)) .nil))) [some (eRule R), none, none, none, none, none, none] M = some (.nx [some (eRule R), none, some (.ref M.length), some (.ref r), none, none, none], M1) := by
    have e0 : eDne [some (eRule R), none, none, none, none, none, none] M = some (.ref M.length, M ++ [.dct false []]) := rfl
    simp [e0, h21]
  rw [dSs_cons, sSeq_e, e1, seqK_nx, dSs_cons, sSeq_e]
  have hFl : (M1.set r (.dct true (F.map eKv)))[r]? = some (.dct true (F.map eKv)) := List.getElem?_set_self lr
  have hKl : (M1.set r (.dct true (F.map eKv)))[M.length]? = some (.dct false (([] : KS).map eK)) := by rw [List.getElem?_set_ne hne]; exact hK
  obtain ⟨y1, y4, y5, y6, K', M', e2, k2, g2, n2, f2⟩ := out23_all hR C h17 hne (keys F) (x1 := none) (x4 := none) (x5 := none) (x6 := none) (fun s hs => ⟨reach_good hR (hB.re s hs), hs⟩) hFl hKl (by simp [kk])
  have hF' : M'[r]? = some (.dct true (F.map eKv)) := f2 _ _ hne hFl
  have e3 : dS cl (.forV 3 (.nm 1) fb23) [some (eRule R), none, some (.ref M.length), some (.ref r), none, none, none] M1 = some (.nx [some (eRule R), y1, some (.ref M.length), some (.ref r), y4, y5, y6], M'.set r (.dct false (F.map eKv))) := by
    rw [dS_forV, sForV_e]
    show (match M1[r]? with | some (.dct false kvs) => unlk r (forF (.nm 1) (dSs cl fb23) [(r, .dct true kvs)] (kvs.map fun (p : D × D) => p.1) _ (M1.set r (.dct true kvs))) | _ => _) = _
    rw [hF]
    have ek : (F.map eKv).map (·.1) = (keys F).map eScene := by simp [keys, eKv]
    show unlk r (forF (.nm 1) (dSs cl fb23) [(r, .dct true (F.map eKv))] ((F.map eKv).map (·.1)) _ (M1.set r (.dct true (F.map eKv)))) = _
    rw [ek, e2]
    show (match M'[r]? with | some (.dct true kvs) => _ | _ => none) = _
    rw [hF']
  rw [e3, seqK_nx]
  refine ⟨K', M.length, M'.set r (.dct false (F.map eKv)), by simp, Nat.le_refl _, by rw [List.getElem?_set_ne hne]; exact k2, fun p => ?_, ?_⟩
  · rw [g2 p]
    constructor
    · rintro (h | ⟨s, hs, x, h1, h2⟩)
      · simp [kk] at h
      · exact ⟨s, (keys_reach hB hC).mp hs, x, h1, h2⟩
    · rintro ⟨s, hs, x, h1, h2⟩
      exact .inr ⟨s, (keys_reach hB hC).mpr hs, x, h1, h2⟩
  · intro i o hi ho
    have h1 : i ≠ r := by omega
    rw [List.getElem?_set_ne (Ne.symm h1)]
    refine f2 i o (by omega) ?_
    rw [List.getElem?_set_ne (Ne.symm h1)]
    exact hkp i o (by rw [hlen]; omega) (by rw [List.getElem?_append_left hi]; exact ho)
end NW11
end
/-! #### M24 -/
section
set_option Elab.async false
set_option linter.all false
set_option maxRecDepth 100000
set_option maxHeartbeats 8000000
namespace NW11
open RI PySem
open Classical in
/-- the rule bars the pair -/
noncomputable def barred (R : Rule) (p : HD) : Bool := !decide (HP R p)
theorem p_barred (R : Rule) (hR : ROk R) (h : Hm) (d : Dr) (k : Nat) (M : Sto) : ∃ M', run defs (k + 7) 24 [eRule R, eHm h, eDr d] M = some (.bl (barred R (h, d)), M') ∧ Kp M.length M M' := by
  obtain ⟨K, r, M', h23, hr, hK, hp, hkp⟩ := p_harms R hR k M
  rw [run_e (f := fd_24) (env := [some (eRule R), some (eHm h), some (eDr d)]) rfl rfl rfl]
  generalize RI.run defs (k + 6) = cl at h23
  have hni := notin_K (s := (h, d)) hK
  have e : decide ((h, d) ∈ kk K) = (@decide (HP R (h, d)) (Classical.propDecidable _)) := by
    by_cases q : HP R (h, d)
    · rw [decide_eq_true ((hp _).mpr q)]
      simp [q]
    · rw [decide_eq_false (fun z => q ((hp _).mp z))]
      simp [q]
  rw [e] at hni
  simp only [eHD] at hni
  refine ⟨M', ?_, hkp⟩
  show retK (dSs cl ir_24 _ _) = _
  simp [ir_24, h23, hni, barred]
/-! ### the checks of a rule -/
theorem fit_wait (x : Option Int) (h : ∀ i, x = some i → 0 ≤ i ∧ i ≤ 3) (k : Nat) (M : Sto) : run defs (k + 2) 1 [.str [119, 97, 105, 116], eOI x] M = some (.bl true, M) := by
  cases x with
  | none => rfl
  | some i =>
    obtain ⟨h0, h1⟩ := h i rfl
    have : i = 0 ∨ i = 1 ∨ i = 2 ∨ i = 3 := by omega
    rcases this with rfl | rfl | rfl | rfl <;> rfl
theorem fit_fwd (x : Option Int) (h : ∀ i, x = some i → 0 ≤ i ∧ i ≤ 3) (k : Nat) (M : Sto) : run defs (k + 2) 1 [.str [102, 111, 114, 119, 97, 114, 100], eOI x] M = some (.bl true, M) := by
  cases x with
  | none => rfl
  | some i =>
    obtain ⟨h0, h1⟩ := h i rfl
    have : i = 0 ∨ i = 1 ∨ i = 2 ∨ i = 3 := by omega
    rcases this with rfl | rfl | rfl | rfl <;> rfl
theorem fit_bars (b : Bool) (k : Nat) (M : Sto) : run defs (k + 2) 1 [.str [98, 97, 114, 115], .bl b] M = some (.bl true, M) := rfl
theorem fit_hops (i : Int) (h0 : 0 ≤ i) (h1 : i ≤ 2) (k : Nat) (M : Sto) : run defs (k + 2) 1 [.str [104, 111, 112, 115], .int i] M = some (.bl true, M) := by
  have : i = 0 ∨ i = 1 ∨ i = 2 := by omega
  rcases this with rfl | rfl | rfl <;> rfl
theorem fit_marks (i : Int) (h0 : 0 < i) (h1 : i ≤ 3) (k : Nat) (M : Sto) : run defs (k + 2) 1 [.str [109, 97, 114, 107, 115], .int i] M = some (.bl true, M) := by
  have : i = 1 ∨ i = 2 ∨ i = 3 := by omega
  rcases this with rfl | rfl | rfl <;> rfl
theorem fit_life (x : Option Int) (h : ∀ i, x = some i → 0 ≤ i ∧ i ≤ 4) (k : Nat) (M : Sto) : run defs (k + 2) 1 [.str [108, 105, 102, 101], eOI x] M = some (.bl true, M) := by
  cases x with
  | none => rfl
  | some i =>
    obtain ⟨h0, h1⟩ := h i rfl
    have : i = 0 ∨ i = 1 ∨ i = 2 ∨ i = 3 ∨ i = 4 := by omega
    rcases this with rfl | rfl | rfl | rfl | rfl <;> rfl
theorem fit_cp (x : Cp) (k : Nat) (M : Sto) : run defs (k + 2) 1 [.str [99, 111, 112, 105, 101, 115], eCp x] M = some (.bl true, M) := by cases x <;> rfl
theorem fit_pg (x : Pg) (k : Nat) (M : Sto) : run defs (k + 2) 1 [.str [112, 97, 115, 115, 105, 110, 103], ePg x] M = some (.bl true, M) := by cases x <;> rfl
end NW11
end
/-! #### M25 -/
section
set_option Elab.async false
set_option linter.all false
set_option maxRecDepth 100000
set_option maxHeartbeats 8000000
namespace NW11
open RI PySem
theorem all_r {M : Sto} {i : Nat} {xs : List D} {bs : List Bool} (h : M[i]? = some (.lst xs)) (h2 : blsOf xs = some bs) : biD .all [.ref i] M = some (.bl (bs.all id), M) := by
  show (match lstOf M (.ref i) with | some xs => _ | none => none) = _
  rw [lstOf_r h]
  simp only [h2, Option.map_some]
theorem p_isrule (R : Rule) (hR : ROk R) (k : Nat) (M : Sto) : ∃ g, run defs (k + 3) 2 [eRule R] M = some (.bl true, M ++ g) := by
  have f1 := fun M => fit_wait R.wait hR.w k M
  have f2 := fun M => fit_fwd R.fwd hR.f k M
  have f3 := fun M => fit_bars R.bars k M
  have f4 := fun M => fit_hops R.hops hR.h0 (by have := hR.h1; omega) k M
  have f5 := fun M => fit_marks R.marks hR.m0 hR.m1 k M
  have f6 := fun M => fit_life R.life hR.l k M
  have f7 := fun M => fit_cp R.cp k M
  have f8 := fun M => fit_pg R.pg k M
  rw [run_e (f := fd_2) (env := [some (eRule R), none, none]) rfl rfl rfl]
  generalize RI.run defs (k + 2) = cl at f1 f2 f3 f4 f5 f6 f7 f8
  refine ⟨[.lst [.bl true, .bl true, .bl true, .bl true, .bl true, .bl true, .bl true, .bl true]], ?_⟩
  have hz : ∀ M, dI cl (.zip (.cons (.cst (.tup [(.str [119, 97, 105, 116]), (.str [102, 111, 114, 119, 97, 114, 100]), (.str [98, 97, 114, 115]), (.str [104, 111, 112, 115]), (.str [109, 97, 114, 107, 115]), (.str [108, 105, 102, 101]), (.str [99, 111, 112, 105, 101, 115]), (.str [112, 97, 115, 115, 105, 110, 103])])) (.cons (.var 0) .nil))) [some (eRule R), none, none] M = some (([], [.tup [.str [119, 97, 105, 116], eOI R.wait], .tup [.str [102, 111, 114, 119, 97, 114, 100], eOI R.fwd], .tup [.str [98, 97, 114, 115], .bl R.bars], .tup [.str [104, 111, 112, 115], .int R.hops], .tup [.str [109, 97, 114, 107, 115], .int R.marks], .tup [.str [108, 105, 102, 101], eOI R.life], .tup [.str [99, 111, 112, 105, 101, 115], eCp R.cp], .tup [.str [112, 97, 115, 115, 105, 110, 103], ePg R.pg]]), M) := fun M => rfl
  have hc : ∀ M, bOf (dE cl (.or (.not (.isi .tuple (.var 0))) (.cmp .NotEq (.bi .len (.cons (.var 0) .nil)) (.bi .len (.cons (.cst (.tup [(.str [119, 97, 105, 116]), (.str [102, 111, 114, 119, 97, 114, 100]), (.str [98, 97, 114, 115]), (.str [104, 111, 112, 115]), (.str [109, 97, 114, 107, 115]), (.str [108, 105, 102, 101]), (.str [99, 111, 112, 105, 101, 115]), (.str [112, 97, 115, 115, 105, 110, 103])])) .nil))))) [some (eRule R), none, none] M = some (false, M) := fun M => rfl
  show retK (dSs cl ir_2 _ _) = _
  rw [ir_2, dSs_cons, sSeq_e, dS_if, sIf_e, hc, bnd_s, if_neg (by simp), dSs_nil, sNil_e, seqK_nx]
  simp only [dSs_cons, dS_ret, dE_bi, dL_cons, dL_nil, dE_comp, eComp_e, hz, bnd_s, sSeq_e, sRet_e, eCall_e, aCons_e, aNil_e, dO_none]
  simp [f1, f2, f3, f4, f5, f6, f7, f8]
  rw [all_r (xs := [.bl true, .bl true, .bl true, .bl true, .bl true, .bl true, .bl true, .bl true]) (bs := [true, true, true, true, true, true, true, true]) gA0 rfl]
  rfl
theorem p_need4 (R : Rule) (hR : ROk R) (k : Nat) (M : Sto) : ∃ g, run defs (k + 4) 4 [eRule R] M = some (.non, M ++ g) := by
  obtain ⟨g, h⟩ := p_isrule R hR k M
  rw [run_e (f := fd_4) (env := [some (eRule R)]) rfl rfl rfl]
  generalize RI.run defs (k + 3) = cl at h
  exact ⟨g, by simp [fd_4, ir_4, h]⟩
theorem p_need5 (h : Hm) (d : Dr) (k : Nat) (M : Sto) : run defs (k + 1) 5 [eHm h, eDr d] M = some (.non, M) := by
  cases h <;> cases d <;> rfl
theorem p_need (R : Rule) (hR : ROk R) (h : Hm) (d : Dr) (k : Nat) (M : Sto) : ∃ g, run defs (k + 5) 25 [eRule R, eHm h, eDr d] M = some (.non, M ++ g) := by
  obtain ⟨g, h4⟩ := p_need4 R hR k M
  have h5 := fun M => p_need5 h d (k + 3) M
  rw [run_e (f := fd_25) (env := [some (eRule R), some (eHm h), some (eDr d)]) rfl rfl rfl]
  generalize RI.run defs (k + 4) = cl at h4 h5
  exact ⟨g, by simp [fd_25, ir_25, h4, h5]⟩
end NW11
end
/-! #### M26 -/
section
set_option Elab.async false
set_option linter.all false
set_option maxRecDepth 100000
set_option maxHeartbeats 8000000
namespace NW11
open RI PySem
def withWait (R : Rule) (w : Option Int) : Rule := ⟨w, R.fwd, R.bars, R.hops, R.marks, R.life, R.cp, R.pg⟩
def withMarks (R : Rule) (m : Int) : Rule := ⟨R.wait, R.fwd, R.bars, R.hops, m, R.life, R.cp, R.pg⟩
def withLife (R : Rule) (l : Option Int) : Rule := ⟨R.wait, R.fwd, R.bars, R.hops, R.marks, l, R.cp, R.pg⟩
theorem p_with_wait (R : Rule) (w : Option Int) (k : Nat) (M : Sto) : run defs (k + 1) 3 [eRule R, .str [119, 97, 105, 116], eOI w] M = some (eRule (withWait R w), M) := rfl
theorem p_with_marks (R : Rule) (m : Int) (k : Nat) (M : Sto) : run defs (k + 1) 3 [eRule R, .str [109, 97, 114, 107, 115], .int m] M = some (eRule (withMarks R m), M) := rfl
theorem p_with_life (R : Rule) (l : Option Int) (k : Nat) (M : Sto) : run defs (k + 1) 3 [eRule R, .str [108, 105, 102, 101], eOI l] M = some (eRule (withLife R l), M) := rfl
end NW11
end
/-! #### M27 -/
section
set_option Elab.async false
set_option linter.all false
set_option maxRecDepth 100000
set_option maxHeartbeats 8000000
namespace NW11
open RI PySem
abbrev Kq (M M' : Sto) : Prop := Kp M.length M M'
theorem Kq.le {M M' : Sto} (h : Kq M M') : M.length ≤ M'.length := by
  by_cases h0 : M.length = 0
  · omega
  · have hi : M.length - 1 < M.length := by omega
    have := h (M.length - 1) _ hi (List.getElem?_eq_getElem hi)
    have := (List.getElem?_eq_some_iff.mp this).1
    omega
theorem Kq.trans {M M1 M2 : Sto} (a : Kq M M1) (b : Kq M1 M2) : Kq M M2 := fun i o h e => b i o (by have := a.le; omega) (a i o h e)
theorem find_loop {α : Type} {body : SF} {enc rv : α → D} {b : α → Bool} {x0 x1 x2 : Option D} : ∀ (l : List α), (∀ x ∈ l, ∀ M, ∃ M', body [x0, x1, x2, some (enc x)] M = (if b x = true then some (.rt (rv x), M') else some (.nx [x0, x1, x2, some (enc x)], M')) ∧ Kq M M') → ∀ (x3 : Option D) (M : Sto),
    ∃ M' y3, forF (.nm 3) body [] (l.map enc) [x0, x1, x2, x3] M = (match l.find? b with
      | some x => some (.rt (rv x), M')
      | none => some (.nx [x0, x1, x2, y3], M')) ∧ Kq M M'
  | [], _, x3, M => ⟨M, x3, by simp, fun _ _ _ h => h⟩
  | x :: l, h, x3, M => by
    obtain ⟨M1, e1, q1⟩ := h x (by simp) M
    rw [List.map_cons, forF_cons, dT_nm]
    simp only [dtK_s, List.set_cons_succ, List.set_cons_zero]
    rw [e1]
    cases hb : b x with
    | true =>
      rw [if_pos rfl, lpK_rt]
      exact ⟨M1, x3, by simp [List.find?, hb], q1⟩
    | false =>
      rw [if_neg (by simp), lpK_nx]
      obtain ⟨M2, y3, e2, q2⟩ := find_loop l (fun z hz => h z (by simp [hz])) (some (enc x)) M1
      exact ⟨M2, y3, by rw [e2]; simp [List.find?, hb], q1.trans q2⟩
def waits : List (Option Int) := [some 0, some 1, some 2, some 3, none]
def marksL : List Int := [1, 2, 3]
def livesR : List (Option Int) := [none, some 4, some 3, some 2, some 1, some 0]
theorem wait_ok {R : Rule} (hR : ROk R) {w : Option Int} (h : w ∈ waits) : ROk (withWait R w) := by
  refine ⟨hR.h0, hR.h1, hR.m0, hR.m1, fun x hx => ?_, hR.f, hR.l⟩
  have e : w = some x := hx
  subst e
  simp [waits] at h
  omega
theorem marks_ok {R : Rule} (hR : ROk R) {m : Int} (h : m ∈ marksL) : ROk (withMarks R m) := by
  simp [marksL] at h
  exact ⟨hR.h0, hR.h1, show 0 < m by omega, show m ≤ 3 by omega, hR.w, hR.f, hR.l⟩
theorem life_ok {R : Rule} (hR : ROk R) {w : Option Int} (h : w ∈ livesR) : ROk (withLife R w) := by
  refine ⟨hR.h0, hR.h1, hR.m0, hR.m1, hR.w, hR.f, fun x hx => ?_⟩
  have e : w = some x := hx
  subst e
  simp [livesR] at h
  omega
def bd26 : ISs := (.cons (.if_ (.call 24 (.cons (.call 3 (.cons (.var 0) (.cons (.cst (.str [119, 97, 105, 116])) (.cons (.var 3) .nil)))) (.cons (.var 1) (.cons (.var 2) .nil)))) (.cons (.ret (.tup (.cons (.var 3) .nil))) .nil) .nil) .nil)
def bd27 : ISs := (.cons (.if_ (.call 24 (.cons (.call 3 (.cons (.var 0) (.cons (.cst (.str [109, 97, 114, 107, 115])) (.cons (.var 3) .nil)))) (.cons (.var 1) (.cons (.var 2) .nil)))) (.cons (.ret (.var 3)) .nil) .nil) .nil)
def bd28 : ISs := (.cons (.if_ (.call 24 (.cons (.call 3 (.cons (.var 0) (.cons (.cst (.str [108, 105, 102, 101])) (.cons (.var 3) .nil)))) (.cons (.var 1) (.cons (.var 2) .nil)))) (.cons (.ret (.tup (.cons (.var 3) .nil))) .nil) .nil) .nil)
def s25 : IS := .exp (.call 25 (.cons (.var 0) (.cons (.var 1) (.cons (.var 2) .nil))))
theorem ir_26_eq : ∃ it, ir_26 = .cons s25 (.cons (.for_ it (.nm 3) bd26) (.cons (.ret (.cst .non)) .nil)) ∧ ∀ cl e M, dI cl it e M = some (([], waits.map eOI), M) := ⟨_, rfl, fun _ _ _ => rfl⟩
theorem ir_27_eq : ∃ it, ir_27 = .cons s25 (.cons (.for_ it (.nm 3) bd27) (.cons (.ret (.cst .non)) .nil)) ∧ ∀ cl e M, dI cl it e M = some (([], marksL.map D.int), M) := ⟨_, rfl, fun _ _ _ => rfl⟩
theorem ir_28_eq : ∃ it, ir_28 = .cons s25 (.cons (.for_ it (.nm 3) bd28) (.cons (.ret (.cst .non)) .nil)) ∧ ∀ cl e M, dI cl it e M = some (([], livesR.map eOI), M) := ⟨_, rfl, fun _ _ _ => rfl⟩
def t1 (x : Option Int) : D := .tup [eOI x]
def oD {α : Type} (rv : α → D) : Option α → D
  | some x => rv x
  | none => .non
/-- the three searches at once -/
theorem search_ok {α : Type} {cl : Nat → FN} {R : Rule} {h : Hm} {d : Dr} {M : Sto} {bd : ISs} {it : II} {l : List α} {enc rv : α → D} {b : α → Bool} (hn : ∃ g, cl 25 [eRule R, eHm h, eDr d] M = some (.non, M ++ g)) (hit : ∀ e M, dI cl it e M = some (([], l.map enc), M))
    (hb : ∀ x ∈ l, ∀ M, ∃ M', dSs cl bd [some (eRule R), some (eHm h), some (eDr d), some (enc x)] M = (if b x = true then some (.rt (rv x), M') else some (.nx [some (eRule R), some (eHm h), some (eDr d), some (enc x)], M')) ∧ Kq M M') :
    ∃ M', retK (dSs cl (.cons s25 (.cons (.for_ it (.nm 3) bd) (.cons (.ret (.cst .non)) .nil))) [some (eRule R), some (eHm h), some (eDr d), none] M) = some (oD rv (l.find? b), M') ∧ Kq M M' := by
  obtain ⟨g, hn⟩ := hn
  have e1 : dS cl s25 [some (eRule R), some (eHm h), some (eDr d), none] M = some (.nx [some (eRule R), some (eHm h), some (eDr d), none], M ++ g) := by simp [s25, hn]
  obtain ⟨M', y3, e2, q2⟩ := find_loop (x0 := some (eRule R)) (x1 := some (eHm h)) (x2 := some (eDr d)) l hb none (M ++ g)
  refine ⟨M', ?_, Kq.trans Kp.app q2⟩
  rw [dSs_cons, sSeq_e, e1, seqK_nx, dSs_cons, sSeq_e, dS_for, sFor_e, hit, bnd_s, e2]
  cases l.find? b with
  | some x => rfl
  | none => rfl
theorem p_least_wait (R : Rule) (hR : ROk R) (h : Hm) (d : Dr) (k : Nat) (M : Sto) : ∃ M', run defs (k + 8) 26 [eRule R, eHm h, eDr d] M = some (oD t1 (waits.find? fun w => barred (withWait R w) (h, d)), M') ∧ Kq M M' := by
  have hn := p_need R hR h d (k + 2) M
  have h24 := fun w hw M => p_barred (withWait R w) (wait_ok hR hw) h d k M
  have h3 := fun w M => p_with_wait R w (k + 6) M
  rw [run_e (f := fd_26) (env := [some (eRule R), some (eHm h), some (eDr d), none]) rfl rfl rfl]
  obtain ⟨it, e, hit⟩ := ir_26_eq
  show ∃ M', retK (dSs _ ir_26 _ _) = _ ∧ _
  rw [e]
  generalize RI.run defs (k + 7) = cl at hn h24 h3
  refine search_ok hn (hit cl) fun w hw M => ?_
  obtain ⟨M', e, q⟩ := h24 w hw M
  refine ⟨M', ?_, q⟩
  cases hb : barred (withWait R w) (h, d) <;> rw [hb] at e <;> simp [bd26, h3, e, t1]
theorem p_least_marks (R : Rule) (hR : ROk R) (h : Hm) (d : Dr) (k : Nat) (M : Sto) : ∃ M', run defs (k + 8) 27 [eRule R, eHm h, eDr d] M = some (oD D.int (marksL.find? fun w => barred (withMarks R w) (h, d)), M') ∧ Kq M M' := by
  have hn := p_need R hR h d (k + 2) M
  have h24 := fun w hw M => p_barred (withMarks R w) (marks_ok hR hw) h d k M
  have h3 := fun w M => p_with_marks R w (k + 6) M
  rw [run_e (f := fd_27) (env := [some (eRule R), some (eHm h), some (eDr d), none]) rfl rfl rfl]
  obtain ⟨it, e, hit⟩ := ir_27_eq
  show ∃ M', retK (dSs _ ir_27 _ _) = _ ∧ _
  rw [e]
  generalize RI.run defs (k + 7) = cl at hn h24 h3
  refine search_ok hn (hit cl) fun w hw M => ?_
  obtain ⟨M', e, q⟩ := h24 w hw M
  refine ⟨M', ?_, q⟩
  cases hb : barred (withMarks R w) (h, d) <;> rw [hb] at e <;> simp [bd27, h3, e]
theorem p_longest (R : Rule) (hR : ROk R) (h : Hm) (d : Dr) (k : Nat) (M : Sto) : ∃ M', run defs (k + 8) 28 [eRule R, eHm h, eDr d] M = some (oD t1 (livesR.find? fun w => barred (withLife R w) (h, d)), M') ∧ Kq M M' := by
  have hn := p_need R hR h d (k + 2) M
  have h24 := fun w hw M => p_barred (withLife R w) (life_ok hR hw) h d k M
  have h3 := fun w M => p_with_life R w (k + 6) M
  rw [run_e (f := fd_28) (env := [some (eRule R), some (eHm h), some (eDr d), none]) rfl rfl rfl]
  obtain ⟨it, e, hit⟩ := ir_28_eq
  show ∃ M', retK (dSs _ ir_28 _ _) = _ ∧ _
  rw [e]
  generalize RI.run defs (k + 7) = cl at hn h24 h3
  refine search_ok hn (hit cl) fun w hw M => ?_
  obtain ⟨M', e, q⟩ := h24 w hw M
  refine ⟨M', ?_, q⟩
  cases hb : barred (withLife R w) (h, d) <;> rw [hb] at e <;> simp [bd28, h3, e, t1]
end NW11
end
/-! #### M28 -/
section
set_option Elab.async false
set_option linter.all false
set_option maxRecDepth 100000
set_option maxHeartbeats 8000000
namespace NW11
open RI PySem
/-! ### the law's own twins: names x and y -/
def lW : Who → D
  | .me => .str [120]
  | .th => .str [121]
def lOW : Option Who → D
  | none => .non
  | some w => lW w
def lRec (r : Rec) : D := .tup [lOW r.who, lW r.last, .int r.num, .int r.old, eFw r.fw]
def lScene (s : Scene) : D := .tup [.int s.age, .tup (s.rows.map lRec), eTh s.th]
@[simp] theorem lRec_mk {w : Option Who} {l : Who} {n o : Int} {f : Fw} : lRec ⟨w, l, n, o, f⟩ = .tup [lOW w, lW l, .int n, .int o, eFw f] := rfl
@[simp] theorem lScene_mk {a : Int} {r : List Rec} {t : Th} : lScene ⟨a, r, t⟩ = .tup [.int a, .tup (r.map lRec), eTh t] := rfl
@[simp] theorem lOW_n : lOW none = .non := rfl
@[simp] theorem lOW_s {w : Who} : lOW (some w) = lW w := rfl
@[simp] theorem lW_m : lW .me = .str [120] := rfl
@[simp] theorem lW_t : lW .th = .str [121] := rfl
theorem q_fine (R : Rule) (r : Rec) (k : Nat) (M : Sto) : run defs (k + 1) 34 [eRule R, lRec r] M = some (.bl (fine R r), M) := by
  rw [run_e (f := fd_34) rfl rfl rfl]
  obtain ⟨wait, fwd, bars, hops, marks, life, cp, pg⟩ := R
  obtain ⟨who, last, num, old, fw⟩ := r
  cases fwd <;> cases fw <;> rfl
theorem q_may (R : Rule) (r : Rec) (w : Who) (b : Bool) (k : Nat) (M : Sto) : run defs (k + 2) 35 [eRule R, lRec r, lW w, .bl b] M = some (.bl (may R r w b), M) := by
  have hf := q_fine R r k M
  rw [run_e (f := fd_35) rfl rfl rfl]
  generalize RI.run defs (k + 1) = cl at hf
  obtain ⟨wait, fwd, bars, hops, marks, life, cp, pg⟩ := R
  obtain ⟨who, last, num, old, fw⟩ := r
  simp only [eRule, lRec] at hf ⊢
  cases b
  · cases wait with
    | none => cases last <;> cases w <;> simp [fd_35, ir_35, may]
    | some x => by_cases hx : old < x <;> cases last <;> cases w <;> cases bars <;> simp [fd_35, ir_35, may, hx] <;> simp [eOI_s] at hf <;> simp [hf]
  · cases last <;> cases w <;> simp [fd_35, ir_35, may]
theorem q_cut (s : Scene) (p : Nat) (r : Rec) (hs : Sm s.rows) (hp : p < s.rows.length) (k : Nat) (M : Sto) : run defs (k + 1) 36 [lScene s, .int (p : Nat), lRec r] M = some (lScene (cut s p r), M) := by
  rw [run_e (f := fd_36) (env := [some (lScene s), some (.int (p : Nat)), some (lRec r), none, none, none]) rfl rfl rfl]
  generalize RI.run defs k = cl
  obtain ⟨age, rows, th⟩ := s
  have hp2 : p = 0 ∨ (p = 1 ∧ ∃ a b, rows = [a, b]) := by
    rcases hs with ⟨a, h⟩ | ⟨a, b, h⟩ <;> simp only [] at h <;> subst h <;> simp at hp
    · exact .inl hp
    · rcases Nat.lt_succ_iff_lt_or_eq.mp hp with z | z
      · exact .inl (by omega)
      · exact .inr ⟨z, a, b, rfl⟩
  cases th with
  | no => rcases hp2 with rfl | ⟨rfl, a, b, rfl⟩
          · rcases hs with ⟨a, h⟩ | ⟨a, b, h⟩ <;> simp only [] at h <;> subst h <;> simp [fd_36, ir_36, lScene, cut]
          · simp [fd_36, ir_36, lScene, cut]
  | out => rcases hp2 with rfl | ⟨rfl, a, b, rfl⟩
           · rcases hs with ⟨a, h⟩ | ⟨a, b, h⟩ <;> simp only [] at h <;> subst h <;> simp [fd_36, ir_36, lScene, cut]
           · simp [fd_36, ir_36, lScene, cut]
  | at_ i =>
    by_cases hi : p < i
    · rcases hp2 with rfl | ⟨rfl, a, b, rfl⟩
      · rcases hs with ⟨a, h⟩ | ⟨a, b, h⟩ <;> simp only [] at h <;> subst h <;> simp [fd_36, ir_36, lScene, cut, hi]
      · simp [fd_36, ir_36, lScene, cut, hi, show ((1 : Int) < (i : Int)) from by omega]
    · rcases hp2 with rfl | ⟨rfl, a, b, rfl⟩
      · rcases hs with ⟨a, h⟩ | ⟨a, b, h⟩ <;> simp only [] at h <;> subst h <;> simp [fd_36, ir_36, lScene, cut, hi]
      · simp [fd_36, ir_36, lScene, cut, hi, show ¬ ((1 : Int) < (i : Int)) from by omega]
theorem q_come (R : Rule) (s : Scene) (p : Nat) (w : Who) (back : Bool) (hs : Sm s.rows) (hp : p < s.rows.length) (hm : 0 < R.marks) (k : Nat) (M : Sto) :
    run defs (k + 2) 37 [eRule R, lScene s, .int (p : Nat), lW w, .bl back] M = some (lScene (come R s p w back), M) := by
  have hc := q_cut s p ⟨some w, w, ((s.rows.getD p nobody).num + (if back = true then 0 else 1)) % R.marks, 0, .none⟩ hs hp k M
  rw [run_e (f := fd_37) (env := [some (eRule R), some (lScene s), some (.int (p : Nat)), some (lW w), some (.bl back), none, none]) rfl rfl rfl]
  show _ = some (lScene (cut s p ⟨some w, w, ((s.rows.getD p nobody).num + (if back = true then 0 else 1)) % R.marks, 0, .none⟩), M)
  generalize RI.run defs (k + 1) = cl at hc
  generalize lScene (cut s p _) = res at hc ⊢
  obtain ⟨age, rows, th⟩ := s
  obtain ⟨wait, fwd, bars, hops, marks, life, cp, pg⟩ := R
  have hm' : 0 < marks := hm
  simp only [eRule, lScene, lRec] at hc ⊢
  rcases sm_at hs hp with ⟨rfl, a, h⟩ | ⟨rfl, a, b, h⟩ | ⟨rfl, a, b, h⟩ <;> simp only [] at h <;> subst h <;> cases back <;> simp [lRec, lOW, eFw] at hc <;> simp [fd_37, ir_37, hm', hc, lRec, lOW, eFw]
@[simp] theorem sl_8_2 {M : Sto} {a b c d e f g h : D} : slD (.tup [a, b, c, d, e, f, g, h]) none (some 2) M = some (.tup [a, b], M) := rfl
theorem q_top (R : Rule) (k : Nat) (M : Sto) : ∃ g, run defs (k + 1) 33 [eRule R] M = some (.int (topOf R), M ++ g) := by
  rw [run_e (f := fd_33) (env := [some (eRule R), none]) rfl rfl rfl]
  generalize RI.run defs k = cl
  obtain ⟨wait, fwd, bars, hops, marks, life, cp, pg⟩ := R
  cases wait <;> cases fwd
  · refine ⟨[.lst [.int 0], .lst [], .lst [.int 0]], ?_⟩
    simp [fd_33, ir_33, add_rr (xs := [.int 0]) (ys := [])]
    rw [max_r (xs := [.int 0]) (ns := [0]) gA2' rfl (by simp)]
    rfl
  · rename_i f
    refine ⟨[.lst [.int 0], .lst [.int f], .lst [.int 0, .int f]], ?_⟩
    simp [fd_33, ir_33, add_rr (xs := [.int 0]) (ys := [.int f])]
    rw [max_r (xs := [.int 0, .int f]) (ns := [0, f]) gA2' rfl (by simp)]
    rfl
  · rename_i f
    refine ⟨[.lst [.int 0], .lst [.int f], .lst [.int 0, .int f]], ?_⟩
    simp [fd_33, ir_33, add_rr (xs := [.int 0]) (ys := [.int f])]
    rw [max_r (xs := [.int 0, .int f]) (ns := [0, f]) gA2' rfl (by simp)]
    rfl
  · rename_i f h
    refine ⟨[.lst [.int 0], .lst [.int f, .int h], .lst [.int 0, .int f, .int h]], ?_⟩
    simp [fd_33, ir_33, add_rr (xs := [.int 0]) (ys := [.int f, .int h])]
    rw [max_r (xs := [.int 0, .int f, .int h]) (ns := [0, f, h]) gA2' rfl (by simp)]
    rfl
end NW11
end
/-! #### M29 -/
section
set_option Elab.async false
set_option linter.all false
set_option maxRecDepth 100000
set_option maxHeartbeats 8000000
namespace NW11
open RI PySem
theorem q_ren (R : Rule) (s : Scene) (w : Who) (a : Rec) (low : List Rec) (hl : low = [] ∨ ∃ b, low = [b]) (hs : s.rows = low ++ [a]) (ha : a.who = some w) (hh : R.hops ≤ 1) (k : Nat) (M : Sto) :
    run defs (k + 1) 38 [eRule R, lScene s] M = some (lScene (ren R s w a low), M) := by
  rw [run_e (f := fd_38) (env := [some (eRule R), some (lScene s), none, none, none, none, none, none, none, none, none]) rfl rfl rfl]
  generalize RI.run defs k = cl
  obtain ⟨age, rows, th⟩ := s
  obtain ⟨wait, fwd, bars, hops, marks, life, cp, pg⟩ := R
  obtain ⟨who, last, num, old, fw⟩ := a
  simp only [] at hs ha hh
  subst hs ha
  have hcast : ∀ i : Nat, ((i : Int) = 1) ↔ i = 1 := fun i => by omega
  rcases hl with rfl | ⟨b, rfl⟩
  · by_cases hn : num = 0
    · by_cases h2 : 1 ≤ hops
      · have h4 : ¬ (hops < 1) := by omega
        cases fwd with
        | none => cases th with
          | at_ i => by_cases hi : i = 0 <;> simp [fd_38, ir_38, eRule, lScene, lRec, lOW, eFw, ren, hn, h2, h4, hi]
          | _ => simp [fd_38, ir_38, eRule, lScene, lRec, lOW, eFw, ren, hn, h2, h4]
        | some f => by_cases hf : f = 0 <;> cases th with
          | at_ i => by_cases hi : i = 0 <;> simp [fd_38, ir_38, eRule, lScene, lRec, lOW, eFw, ren, hn, h2, h4, hi, hf]
          | _ => simp [fd_38, ir_38, eRule, lScene, lRec, lOW, eFw, ren, hn, h2, h4, hf]
      · have h4 : hops < 1 := by omega
        cases fwd with
        | none => cases th with
          | at_ i => by_cases hi : i = 0 <;> simp [fd_38, ir_38, eRule, lScene, lRec, lOW, eFw, ren, hn, h2, h4, hi]
          | _ => simp [fd_38, ir_38, eRule, lScene, lRec, lOW, eFw, ren, hn, h2, h4]
        | some f => by_cases hf : f = 0 <;> cases th with
          | at_ i => by_cases hi : i = 0 <;> simp [fd_38, ir_38, eRule, lScene, lRec, lOW, eFw, ren, hn, h2, h4, hi, hf]
          | _ => simp [fd_38, ir_38, eRule, lScene, lRec, lOW, eFw, ren, hn, h2, h4, hf]
    · cases th with
      | at_ i => by_cases hi : i = 0 <;> simp [fd_38, ir_38, eRule, lScene, lRec, lOW, eFw, ren, hn, hi]
      | _ => simp [fd_38, ir_38, eRule, lScene, lRec, lOW, eFw, ren, hn]
  · have h2 : ¬ ((1 : Int) + 1 ≤ hops) := by omega
    have h3 : ¬ ((2 : Int) ≤ hops) := by omega
    have h5 : hops < 2 := by omega
    have h6 : hops < 1 + 1 := by omega
    by_cases hn : num = 0
    · cases fwd with
      | none => cases th with
        | at_ i => by_cases hi : i = 1 <;> simp [fd_38, ir_38, eRule, lScene, lRec, lOW, eFw, ren, hn, h2, h3, h5, h6, hi, hcast]
        | _ => simp [fd_38, ir_38, eRule, lScene, lRec, lOW, eFw, ren, hn, h2, h3, h5, h6]
      | some f => by_cases hf : f = 0 <;> cases th with
        | at_ i => by_cases hi : i = 1 <;> simp [fd_38, ir_38, eRule, lScene, lRec, lOW, eFw, ren, hn, h2, h3, h5, h6, hi, hf, hcast]
        | _ => simp [fd_38, ir_38, eRule, lScene, lRec, lOW, eFw, ren, hn, h2, h3, h5, h6, hf]
    · cases th with
      | at_ i => by_cases hi : i = 1 <;> simp [fd_38, ir_38, eRule, lScene, lRec, lOW, eFw, ren, hn, hi, hcast]
      | _ => simp [fd_38, ir_38, eRule, lScene, lRec, lOW, eFw, ren, hn]
/-- the law's word for where it stands -/
def lSt (s : Scene) : D := match eEnd s with
  | some .th => .str [97, 115, 116, 114, 97, 121]
  | some .me => .str [114, 105, 103, 104, 116]
  | none => if s.th = .no then .str [110, 111, 119, 104, 101, 114, 101] else .str [108, 111, 115, 116]
theorem q_stat (s : Scene) (hs : Sm s.rows) (k : Nat) (M : Sto) : run defs (k + 1) 41 [lScene s] M = some (lSt s, M) := by
  rw [run_e (f := fd_41) (env := [some (lScene s), none, none, none]) rfl rfl rfl]
  generalize RI.run defs k = cl
  obtain ⟨age, rows, th⟩ := s
  rcases hs with ⟨a, h⟩ | ⟨a, b, h⟩ <;> simp only [] at h <;> subst h
  · obtain ⟨who, last, num, old, fw⟩ := a
    by_cases h : num = 0
    · cases who with
      | none => cases th <;> simp [fd_41, ir_41, lScene, lSt, eEnd, h]
      | some w => cases w <;> simp [fd_41, ir_41, lScene, lSt, eEnd, h]
    · cases who with
      | none => cases th <;> simp [fd_41, ir_41, lScene, lSt, eEnd, h]
      | some w => cases w <;> cases th <;> simp [fd_41, ir_41, lScene, lSt, eEnd, h]
  · obtain ⟨who, last, num, old, fw⟩ := b
    by_cases h : num = 0
    · cases who with
      | none => cases th <;> simp [fd_41, ir_41, lScene, lSt, eEnd, h]
      | some w => cases w <;> simp [fd_41, ir_41, lScene, lSt, eEnd, h]
    · cases who with
      | none => cases th <;> simp [fd_41, ir_41, lScene, lSt, eEnd, h]
      | some w => cases w <;> cases th <;> simp [fd_41, ir_41, lScene, lSt, eEnd, h]
end NW11
end
/-! #### M30 -/
section
set_option Elab.async false
set_option linter.all false
set_option maxRecDepth 100000
set_option maxHeartbeats 8000000
namespace NW11
open RI PySem
section
variable {M g : Sto} {R : Rule} {r : Rec} {s : Scene} {env : En} {ts : ITs} {a b d : D} {xs : List D}
@[simp] theorem non_low {w : Option Who} : isNon (lOW w) = decide (w = none) := by
  cases w with
  | none => rfl
  | some w => cases w <;> rfl
def rngK (o : Option (List D × Sto)) : Option ((List (Nat × MO) × List D) × Sto) := match o with
  | some ([.int j], M') => if -(2 ^ 62) ≤ j ∧ j < 2 ^ 62 then some (([], rngD 0 j.toNat), M') else none
  | _ => none
@[simp] theorem iRng_e {f : AF} : iRngF f env M = rngK (f env M) := rfl
@[simp] theorem rngK_1 : rngK (some ([.int 1], M)) = some (([], [.int 0]), M) := rfl
@[simp] theorem rngK_2 : rngK (some ([.int 2], M)) = some (([], [.int 0, .int 1]), M) := rfl
@[congr] theorem rngK_congr {o o' : Option (List D × Sto)} (h : o = o') : rngK o = rngK o' := by rw [h]
@[simp] theorem lcx0 : ixD (lRec r) (.int 0) M = some (lOW r.who, M) := rfl
@[simp] theorem lcx1 : ixD (lRec r) (.int 1) M = some (lW r.last, M) := rfl
@[simp] theorem lcx2 : ixD (lRec r) (.int 2) M = some (.int r.num, M) := rfl
@[simp] theorem lcx3 : ixD (lRec r) (.int 3) M = some (.int r.old, M) := rfl
@[simp] theorem lcx4 : ixD (lRec r) (.int 4) M = some (eFw r.fw, M) := rfl
@[simp] theorem lsx0 : ixD (lScene s) (.int 0) M = some (.int s.age, M) := rfl
@[simp] theorem lsx1 : ixD (lScene s) (.int 1) M = some (.tup (s.rows.map lRec), M) := rfl
@[simp] theorem lsx2 : ixD (lScene s) (.int 2) M = some (eTh s.th, M) := rfl
@[simp] theorem dT_lrec : dT (.tp ts) (lRec r) env = if 5 = ts.len then dTs ts [lOW r.who, lW r.last, .int r.num, .int r.old, eFw r.fw] env else none := by
  rw [lRec, dT_tp]; rfl
@[simp] theorem dT_lsc : dT (.tp ts) (lScene s) env = if 3 = ts.len then dTs ts [.int s.age, .tup (s.rows.map lRec), eTh s.th] env else none := by
  rw [lScene, dT_tp]; rfl
@[simp] theorem sl_lrec : slD (lRec r) none (some 4) M = some (.tup [lOW r.who, lW r.last, .int r.num, .int r.old], M) := rfl
theorem ixR {i : Nat} (h : M[i]? = some (.lst xs)) {n : Int} : ixD (.ref i) (.int n) M = ixD (.tup xs) (.int n) M := by
  simp only [ixD, seqOf, lstOf_r h]
@[simp] theorem ixR0 : ixD (.ref M.length) (.int 0) (M ++ .lst (a :: xs) :: g) = some (a, M ++ .lst (a :: xs) :: g) := by
  rw [ixR gA0, ix0]
@[simp] theorem ixR1 : ixD (.ref M.length) (.int 1) (M ++ .lst (a :: b :: xs) :: g) = some (b, M ++ .lst (a :: b :: xs) :: g) := by
  rw [ixR gA0, ix1]
@[simp] theorem len_r : biD .len [.ref M.length] (M ++ .lst xs :: g) = some (.int (xs.length : Int), M ++ .lst xs :: g) := by
  simp only [biD, seqOf, lstOf_r gA0]
end
theorem lold_age (R : Rule) (r : Rec) : D.tup [lOW r.who, lW r.last, .int r.num, .int (if topOf R < r.old + (if r.who = none then 1 else 0) then topOf R else r.old + (if r.who = none then 1 else 0)), eFw r.fw] = lRec (age1 R r) := rfl
theorem lold_off (r : Rec) : D.tup [lOW r.who, lW r.last, .int r.num, .int r.old, .str [111, 102, 102]] = lRec (setOff r) := rfl
theorem lold_s1 (n : Int) (x : Rec) (t : Th) : D.tup [.int n, .tup [lRec x], eTh t] = lScene ⟨n, [x], t⟩ := rfl
theorem lold_s2 (n : Int) (x y : Rec) (t : Th) : D.tup [.int n, .tup [lRec x, lRec y], eTh t] = lScene ⟨n, [x, y], t⟩ := rfl
theorem q_older (R : Rule) (s : Scene) (hs : Sm s.rows) (k : Nat) (M : Sto) : ∃ g, run defs (k + 2) 39 [eRule R, lScene s] M = some (lScene (aged R s), M ++ g) := by
  have hG : ∃ G : Sto → Sto, ∀ M, run defs (k + 1) 33 [eRule R] M = some (.int (topOf R), M ++ G M) := Classical.skolem.mp fun M => q_top R k M
  obtain ⟨G, hG⟩ := hG
  have hf : ∀ r M, run defs (k + 1) 34 [eRule R, lRec r] M = some (.bl (fine R r), M) := fun r M => q_fine R r k M
  have hc : ∀ (s : Scene) (p : Nat) (r : Rec) (M : Sto), Sm s.rows → p < s.rows.length → run defs (k + 1) 36 [lScene s, .int (p : Nat), lRec r] M = some (lScene (cut s p r), M) := fun s p r M h1 h2 => q_cut s p r h1 h2 k M
  rw [run_e (f := fd_39) (env := [some (eRule R), some (lScene s), none, none, none, none, none, none, none, none, none, none, none]) rfl rfl rfl]
  generalize RI.run defs (k + 1) = cl at hG hf hc
  obtain ⟨age, rows, th⟩ := s
  have hn : ∃ n, n = if R.life = none then (0 : Int) else age + 1 := ⟨_, rfl⟩
  obtain ⟨n, hn⟩ := hn
  have hcond : (R.life = none ∧ n = 0) ∨ (R.life ≠ none ∧ n = age + 1) := by
    by_cases h : R.life = none
    · exact .inl ⟨h, by rw [hn, if_pos h]⟩
    · exact .inr ⟨h, by rw [hn, if_neg h]⟩
  rcases hs with ⟨a, h⟩ | ⟨b, a, h⟩ <;> simp only [] at h <;> subst h
  · refine ⟨.lst [lRec (age1 R a)] :: G (M ++ [.lst []]), ?_⟩
    have hF : agedF R ⟨age, [a], th⟩ = ⟨n, [age1 R a], th⟩ := by rw [hn]; rfl
    have hc1 := fun M => hc ⟨n, [age1 R a], th⟩ 0 (setOff (age1 R a)) M (.inl ⟨_, rfl⟩) (by simp)
    simp only [Int.natCast_zero] at hc1
    by_cases h1 : goesOff R (age1 R a) = true
    · have e : aged R ⟨age, [a], th⟩ = cut ⟨n, [age1 R a], th⟩ 0 (setOff (age1 R a)) := by
        simp [aged, offAt, hF, h1]
      rw [e]
      generalize lScene (cut _ 0 _) = dr at hc1 ⊢
      rw [goesOff, Bool.and_eq_true] at h1
      have h2 : (age1 R a).fw = .next := of_decide_eq_true h1.1
      have h3 : fine R (age1 R a) = false := by simpa using h1.2
      rcases hcond with ⟨c1, c2⟩ | ⟨c1, c2⟩ <;> subst c2 <;> simp [fd_39, ir_39, sForV_t, hG, lold_age, forF_consG, forF_nilG, hf, h2, h3, c1, lold_s1, lold_off, hc1, -lScene_mk]
    · have e : aged R ⟨age, [a], th⟩ = ⟨n, [age1 R a], th⟩ := by
        simp [aged, offAt, hF, h1]
      rw [e]
      have h4 : ((age1 R a).fw = .next) → fine R (age1 R a) = true := fun h => by
        cases q : fine R (age1 R a)
        · exact absurd (by simp [goesOff, h, q]) h1
        · rfl
      by_cases h2 : (age1 R a).fw = .next
      · rcases hcond with ⟨c1, c2⟩ | ⟨c1, c2⟩ <;> subst c2 <;> simp [fd_39, ir_39, sForV_t, hG, lold_age, forF_consG, forF_nilG, hf, h2, h4 h2, c1, lold_s1, -lScene_mk]
      · rcases hcond with ⟨c1, c2⟩ | ⟨c1, c2⟩ <;> subst c2 <;> simp [fd_39, ir_39, sForV_t, hG, lold_age, forF_consG, forF_nilG, hf, h2, c1, lold_s1, -lScene_mk]
  · refine ⟨.lst [lRec (age1 R b), lRec (age1 R a)] :: (G (M ++ [.lst []]) ++ G (M ++ .lst [lRec (age1 R b)] :: G (M ++ [.lst []]))), ?_⟩
    have hF : agedF R ⟨age, [b, a], th⟩ = ⟨n, [age1 R b, age1 R a], th⟩ := by rw [hn]; rfl
    have hc1 := fun M => hc ⟨n, [age1 R b, age1 R a], th⟩ 0 (setOff (age1 R b)) M (.inr ⟨_, _, rfl⟩) (by simp)
    have hc2 := fun M => hc ⟨n, [age1 R b, age1 R a], th⟩ 1 (setOff (age1 R a)) M (.inr ⟨_, _, rfl⟩) (by simp)
    simp only [Int.natCast_zero] at hc1
    have one : ((1 : Nat) : Int) = 1 := rfl
    simp only [one] at hc2
    have spl : ∀ r, goesOff R r = true ∨ (r.fw = .next ∧ fine R r = true) ∨ r.fw ≠ .next := fun r => by
      by_cases h : r.fw = .next
      · cases q : fine R r
        · exact .inl (by simp [goesOff, h, q])
        · exact .inr (.inl ⟨h, rfl⟩)
      · exact .inr (.inr h)
    have off1 : ∀ r, goesOff R r = true → r.fw = .next ∧ fine R r = false := fun r h => by
      rw [goesOff, Bool.and_eq_true] at h
      exact ⟨of_decide_eq_true h.1, by simpa using h.2⟩
    have on1 : ∀ r, ((r.fw = .next ∧ fine R r = true) ∨ r.fw ≠ .next) → goesOff R r = false := fun r h => by
      rcases h with ⟨h, q⟩ | h <;> simp [goesOff, h]
      exact q
    rcases spl (age1 R b) with hb | hb
    · have e : aged R ⟨age, [b, a], th⟩ = cut ⟨n, [age1 R b, age1 R a], th⟩ 0 (setOff (age1 R b)) := by
        simp [aged, offAt, hF, hb]
      rw [e]
      generalize lScene (cut _ 0 _) = dr at hc1 ⊢
      obtain ⟨h2, h3⟩ := off1 _ hb
      rcases hcond with ⟨c1, c2⟩ | ⟨c1, c2⟩ <;> subst c2 <;> simp [fd_39, ir_39, sForV_t, hG, lold_age, forF_consG, forF_nilG, hf, h2, h3, c1, lold_s2, lold_off, hc1, -lScene_mk]
    · have hb' := on1 _ hb
      rcases spl (age1 R a) with ha | ha
      · have e : aged R ⟨age, [b, a], th⟩ = cut ⟨n, [age1 R b, age1 R a], th⟩ 1 (setOff (age1 R a)) := by
          simp [aged, offAt, hF, ha, hb']
        rw [e]
        generalize lScene (cut _ 1 _) = dr at hc2 ⊢
        obtain ⟨h2, h3⟩ := off1 _ ha
        rcases hb with ⟨b1, b2⟩ | b1
        · rcases hcond with ⟨c1, c2⟩ | ⟨c1, c2⟩ <;> subst c2 <;> simp [fd_39, ir_39, sForV_t, hG, lold_age, forF_consG, forF_nilG, hf, h2, h3, b1, b2, c1, lold_s2, lold_off, hc2, -lScene_mk]
        · rcases hcond with ⟨c1, c2⟩ | ⟨c1, c2⟩ <;> subst c2 <;> simp [fd_39, ir_39, sForV_t, hG, lold_age, forF_consG, forF_nilG, hf, h2, h3, b1, c1, lold_s2, lold_off, hc2, -lScene_mk]
      · have ha' := on1 _ ha
        have e : aged R ⟨age, [b, a], th⟩ = ⟨n, [age1 R b, age1 R a], th⟩ := by
          simp [aged, offAt, hF, ha', hb']
        rw [e]
        rcases hb with ⟨b1, b2⟩ | b1 <;> rcases ha with ⟨a1, a2⟩ | a1
        · rcases hcond with ⟨c1, c2⟩ | ⟨c1, c2⟩ <;> subst c2 <;> simp [fd_39, ir_39, sForV_t, hG, lold_age, forF_consG, forF_nilG, hf, a1, a2, b1, b2, c1, lold_s2, -lScene_mk]
        · rcases hcond with ⟨c1, c2⟩ | ⟨c1, c2⟩ <;> subst c2 <;> simp [fd_39, ir_39, sForV_t, hG, lold_age, forF_consG, forF_nilG, hf, a1, b1, b2, c1, lold_s2, -lScene_mk]
        · rcases hcond with ⟨c1, c2⟩ | ⟨c1, c2⟩ <;> subst c2 <;> simp [fd_39, ir_39, sForV_t, hG, lold_age, forF_consG, forF_nilG, hf, a1, a2, b1, c1, lold_s2, -lScene_mk]
        · rcases hcond with ⟨c1, c2⟩ | ⟨c1, c2⟩ <;> subst c2 <;> simp [fd_39, ir_39, sForV_t, hG, lold_age, forF_consG, forF_nilG, hf, a1, b1, c1, lold_s2, -lScene_mk]
end NW11
end
/-! #### M31 -/
section
set_option Elab.async false
set_option linter.all false
set_option maxRecDepth 100000
set_option maxHeartbeats 8000000
namespace NW11
open RI PySem
/-! ### the law's moves -/
def evN : Ev → D
  | .tick => .str [116, 105, 99, 107]
  | .take _ _ _ => .str [116, 97, 107, 101]
  | .chg _ _ => .str [99, 104, 97, 110, 103, 101]
  | .give _ => .str [103, 105, 118, 101]
  | .renm _ => .str [99, 104, 97, 110, 103, 101]
  | .pass _ _ => .str [112, 97, 115, 115]
  | .copy => .str [99, 111, 112, 121]
def evW (a : Rec) : Ev → D
  | .tick => .str [116, 105, 109, 101]
  | .take w _ _ => lW w
  | .chg _ _ => lW .me
  | .give _ => lOW a.who
  | .renm _ => lOW a.who
  | .pass _ _ => lOW a.who
  | .copy => lW .th
def lPr (a : Rec) (x : Ev × Scene) : D := .tup [evN x.1, evW a x.1, lScene x.2]
/-- the inner loop's body -/
def in40 : ISs := .cons (.if_ (.call 35 (.cons (.var 0) (.cons (.idx (.var 4) (.var 2)) (.cons (.var 16) (.cons (.var 15) .nil))))) (.cons (.exp (.me .append (.var 6) (.cons (.tup (.cons (.cst (.str [116, 97, 107, 101])) (.cons (.var 16) (.cons (.call 37 (.cons (.var 0) (.cons (.var 1) (.cons (.var 2) (.cons (.var 16) (.cons (.var 15) .nil)))))) .nil)))) .nil)))
  .nil) .nil)
  .nil
section
variable {R : Rule} {s : Scene} {p : Nat} {r : Rec} {rows : D} {top : Nat} {cl : Nat → FN} {M g : Sto} {acc : List D} {x3 x5 x7 x8 x9 x10 x11 x12 x13 x14 x15 x16 x17 x18 : Option D} {aa : Rec}
theorem in40_ok (h9 : ∀ w b M, cl 35 [eRule R, lRec r, lW w, .bl b] M = some (.bl (may R r w b), M)) (h11 : ∀ w b M, cl 37 [eRule R, lScene s, .int (p : Nat), lW w, .bl b] M = some (lScene (come R s p w b), M))
    (hr : ∀ M, ixD rows (.int (p : Nat)) M = some (lRec r, M)) (w : Who) (b : Bool) (hl : acc.length < 1000) :
    dSs cl in40 [some (eRule R), some (lScene s), some (.int (p : Nat)), x3, some rows, x5, some (.ref M.length), x7, x8, x9, x10, x11, x12, x13, x14, some (.bl b), some (lW w), x17, x18] (M ++ .lst acc :: g) =
      some (.nx [some (eRule R), some (lScene s), some (.int (p : Nat)), x3, some rows, x5, some (.ref M.length), x7, x8, x9, x10, x11, x12, x13, x14, some (.bl b), some (lW w), x17, x18], M ++ .lst (acc ++ (takeIf R s p r w b).map (lPr aa)) :: g) := by
  have hl' : acc.length < 16777216 := by omega
  cases h : may R r w b <;> simp [in40, h9, h11, hr, h, takeIf, lPr, evN, evW, hl', -lScene_mk]
end
end NW11
end
/-! #### M32 -/
section
set_option Elab.async false
set_option linter.all false
set_option maxRecDepth 100000
set_option maxHeartbeats 8000000
namespace NW11
open RI PySem
section
variable {R : Rule} {s : Scene} {p : Nat} {r : Rec} {rows : D} {top : Nat} {cl : Nat → FN} {M g : Sto} {acc : List D} {x3 x5 x7 x8 x9 x10 x11 x12 x13 x14 x15 x16 x17 x18 : Option D} {aa : Rec}
def b4_40 : IS := (.if_ (.and (.or (.cmp .Eq (.var 5) (.cst (.str [111, 117, 116]))) (.and (.cmp .Eq (.var 5) (.var 7)) (.cmp .Lt (.var 2) (.var 7)))) (.call 35 (.cons (.var 0) (.cons (.idx (.var 4) (.var 2)) (.cons (.cst (.str [120])) (.cons (.var 15) .nil)))))) (.cons (.asg (.nm 17) (.call 37 (.cons (.var 0) (.cons (.var 1) (.cons (.var 2) (.cons (.cst (.str [120])) (.cons (.var 15) .nil)))))))
  (.cons (.exp (.me .append (.var 6) (.cons (.tup (.cons (.cst (.str [99, 104, 97, 110, 103, 101])) (.cons (.cst (.str [120])) (.cons (.tup (.cons (.idx (.var 17) (.cst (.int 0))) (.cons (.idx (.var 17) (.cst (.int 1))) (.cons (.var 2) .nil)))) .nil)))) .nil)))
  .nil)) .nil)
theorem q4_ok (h9 : ∀ w b M, cl 35 [eRule R, lRec r, lW w, .bl b] M = some (.bl (may R r w b), M)) (h11 : ∀ w b M, cl 37 [eRule R, lScene s, .int (p : Nat), lW w, .bl b] M = some (lScene (come R s p w b), M))
    (hr : ∀ M, ixD rows (.int (p : Nat)) M = some (lRec r, M)) (hl : acc.length < 1000) :
    ∃ y17, dS cl b4_40 [some (eRule R), some (lScene s), some (.int (p : Nat)), x3, some rows, some (eTh s.th), some (.ref M.length), some (.int (top : Nat)), x8, x9, x10, x11, x12, x13, x14, some (.bl (decide (r.last = .me))), x16, x17, x18] (M ++ .lst acc :: g) =
      some (.nx [some (eRule R), some (lScene s), some (.int (p : Nat)), x3, some rows, some (eTh s.th), some (.ref M.length), some (.int (top : Nat)), x8, x9, x10, x11, x12, x13, x14, some (.bl (decide (r.last = .me))), x16, y17, x18], M ++ .lst (acc ++ (chgs R s p r top).map (lPr aa)) :: g) := by
  have hl' : acc.length < 16777216 := by omega
  have h9' := fun b M => h9 .me b M
  have h11' := fun b M => h11 .me b M
  simp only [lW_m] at h9' h11'
  have hat : ∀ c : Scene, D.tup [.int c.age, .tup (c.rows.map lRec), .int (p : Nat)] = lScene (atTh c p) := fun c => rfl
  by_cases ht : s.th = .out ∨ (s.th = .at_ top ∧ p < top)
  · by_cases hm : may R r .me (decide (r.last = .me)) = true
    · refine ⟨some (lScene (come R s p .me (decide (r.last = .me)))), ?_⟩
      have hc : chgs R s p r top = [(.chg s.th p, atTh (come R s p .me (decide (r.last = .me))) p)] := by unfold chgs; rw [if_pos (by rcases ht with h | h <;> simp [hm, h])]
      rw [hc]
      rcases ht with ho | ⟨h1, h2⟩
      · simp [b4_40, h9', h11', hr, hm, ho, lPr, evN, evW, hl', hat, -lScene_mk]
      · have h3 : (p : Int) < (top : Int) := by omega
        simp [b4_40, h9', h11', hr, hm, lPr, evN, evW, hl', hat, eq_tha, h1, h2, h3, -lScene_mk]
    · refine ⟨x17, ?_⟩
      have hc : chgs R s p r top = [] := by unfold chgs; rw [if_neg (by simp [hm])]
      rw [hc]
      rcases ht with ho | ⟨h1, h2⟩
      · simp [b4_40, h9', hr, hm, ho, -lScene_mk]
      · have h3 : (p : Int) < (top : Int) := by omega
        simp [b4_40, h9', hr, hm, eq_tha, h1, h2, h3, -lScene_mk]
  · refine ⟨x17, ?_⟩
    have hc : chgs R s p r top = [] := by
      unfold chgs
      rw [if_neg]
      simp only [Bool.and_eq_true, Bool.or_eq_true, decide_eq_true_eq]
      exact fun z => ht z.2
    rw [hc]
    have ho : ¬ s.th = .out := fun h => ht (.inl h)
    by_cases h1 : s.th = .at_ top
    · have h2 : ¬ p < top := fun h => ht (.inr ⟨h1, h⟩)
      have h3 : ¬ (p : Int) < (top : Int) := by omega
      simp [b4_40, ho, eq_tha, h1, h2, h3, -lScene_mk]
    · simp [b4_40, ho, eq_tha, h1, -lScene_mk]
end
end NW11
end
/-! #### M33 -/
section
set_option Elab.async false
set_option linter.all false
set_option maxRecDepth 100000
set_option maxHeartbeats 8000000
namespace NW11
open RI PySem
def it40 : II := (.src (.lst (.cons (.tup (.cons (.cst (.str [120])) (.cons (.cst (.bl true)) .nil))) (.cons (.tup (.cons (.cst (.str [120])) (.cons (.cst (.bl false)) .nil))) (.cons (.tup (.cons (.cst (.str [121])) (.cons (.cst (.bl true)) .nil))) (.cons (.tup (.cons (.cst (.str [121])) (.cons (.cst (.bl false)) .nil))) .nil))))))
def four : List D := [.tup [.str [120], .bl true], .tup [.str [120], .bl false], .tup [.str [121], .bl true], .tup [.str [121], .bl false]]
section
variable {R : Rule} {s : Scene} {p : Nat} {r : Rec} {rows : D} {top : Nat} {cl : Nat → FN} {M g : Sto} {acc : List D} {x3 x5 x7 x8 x9 x10 x11 x12 x13 x14 x15 x16 x17 x18 : Option D} {aa : Rec}
theorem loop40_ok (h9 : ∀ w b M, cl 35 [eRule R, lRec r, lW w, .bl b] M = some (.bl (may R r w b), M)) (h11 : ∀ w b M, cl 37 [eRule R, lScene s, .int (p : Nat), lW w, .bl b] M = some (lScene (come R s p w b), M))
    (hr : ∀ M, ixD rows (.int (p : Nat)) M = some (lRec r, M)) (hl : acc.length < 900) :
    dS cl (.for_ it40 (.tp (.cons (.nm 16) (.cons (.nm 15) .nil))) in40) [some (eRule R), some (lScene s), some (.int (p : Nat)), x3, some rows, x5, some (.ref M.length), x7, x8, x9, x10, x11, x12, x13, x14, x15, x16, x17, x18] (M ++ .lst acc :: g) =
      some (.nx [some (eRule R), some (lScene s), some (.int (p : Nat)), x3, some rows, x5, some (.ref M.length), x7, x8, x9, x10, x11, x12, x13, x14, some (.bl false), some (lW .th), x17, x18], M ++ .lst (acc ++ (takes R s p r).map (lPr aa)) :: (g ++ [.lst four])) := by
  have i1 := fun acc hl => in40_ok (x3 := x3) (x5 := x5) (x7 := x7) (x8 := x8) (x9 := x9) (x10 := x10) (x11 := x11) (x12 := x12) (x13 := x13) (x14 := x14) (x17 := x17) (x18 := x18) (aa := aa) (g := g ++ [.lst four]) (acc := acc) (M := M) h9 h11 hr .me true hl
  have i2 := fun acc hl => in40_ok (x3 := x3) (x5 := x5) (x7 := x7) (x8 := x8) (x9 := x9) (x10 := x10) (x11 := x11) (x12 := x12) (x13 := x13) (x14 := x14) (x17 := x17) (x18 := x18) (aa := aa) (g := g ++ [.lst four]) (acc := acc) (M := M) h9 h11 hr .me false hl
  have i3 := fun acc hl => in40_ok (x3 := x3) (x5 := x5) (x7 := x7) (x8 := x8) (x9 := x9) (x10 := x10) (x11 := x11) (x12 := x12) (x13 := x13) (x14 := x14) (x17 := x17) (x18 := x18) (aa := aa) (g := g ++ [.lst four]) (acc := acc) (M := M) h9 h11 hr .th true hl
  have i4 := fun acc hl => in40_ok (x3 := x3) (x5 := x5) (x7 := x7) (x8 := x8) (x9 := x9) (x10 := x10) (x11 := x11) (x12 := x12) (x13 := x13) (x14 := x14) (x17 := x17) (x18 := x18) (aa := aa) (g := g ++ [.lst four]) (acc := acc) (M := M) h9 h11 hr .th false hl
  have l1 := takeIf_len (R := R) (s := s) (p := p) (r := r) .me true
  have l2 := takeIf_len (R := R) (s := s) (p := p) (r := r) .me false
  have l3 := takeIf_len (R := R) (s := s) (p := p) (r := r) .th true
  have hg : ∀ acc' : List D, gdB [((M ++ MO.lst acc :: g).length, .lst four)] (M ++ MO.lst acc' :: (g ++ [.lst four])) = true := fun acc' => by
    have e : (M ++ MO.lst acc :: g).length = (M ++ MO.lst acc' :: g).length := by simp
    have e2 : M ++ MO.lst acc' :: (g ++ [.lst four]) = (M ++ MO.lst acc' :: g) ++ .lst four :: [] := by simp
    rw [e, e2]; exact gd_r
  have hit : dI cl it40 [some (eRule R), some (lScene s), some (.int (p : Nat)), x3, some rows, x5, some (.ref M.length), x7, x8, x9, x10, x11, x12, x13, x14, x15, x16, x17, x18] (M ++ .lst acc :: g) = some (([((M ++ MO.lst acc :: g).length, .lst four)], four), M ++ .lst acc :: (g ++ [.lst four])) := by
    simp only [it40, dI_src, iSrcF_e, dE_lst, eLst_e, dL_cons, dL_nil, aCons_e, aNil_e, dE_tup, eTup_e, dE_cst, eCst_e, bnd_s, List.length_cons, List.length_nil]
    have e3 := src_r (M := M ++ MO.lst acc :: g) (g := []) (xs := four)
    simp [four] at e3
    simp [four, e3]
  generalize hb : dSs cl in40 = body at i1 i2 i3 i4
  rw [dS_for, hb]
  simp only [lW_m, lW_t] at i1 i2 i3 i4
  rw [sFor_e, hit, bnd_s]
  simp only [four]
  simp only [four] at hg i1 i2 i3 i4
  rw [forF_consG (hg _)]
  simp only [dT_tp, dTs_cons, dTs_nil, dT_nm, dTsK_s, List.set_cons_succ, List.set_cons_zero, List.length_cons, List.length_nil, len_cons, len_nil, if_true, dtK_s]
  rw [i1 _ (by omega), lpK_nx, forF_consG (hg _)]
  simp only [dT_tp, dTs_cons, dTs_nil, dT_nm, dTsK_s, List.set_cons_succ, List.set_cons_zero, List.length_cons, List.length_nil, len_cons, len_nil, if_true, dtK_s]
  rw [i2 _ (by simp; omega), lpK_nx, forF_consG (hg _)]
  simp only [dT_tp, dTs_cons, dTs_nil, dT_nm, dTsK_s, List.set_cons_succ, List.set_cons_zero, List.length_cons, List.length_nil, len_cons, len_nil, if_true, dtK_s]
  rw [i3 _ (by simp; omega), lpK_nx, forF_consG (hg _)]
  simp only [dT_tp, dTs_cons, dTs_nil, dT_nm, dTsK_s, List.set_cons_succ, List.set_cons_zero, List.length_cons, List.length_nil, len_cons, len_nil, if_true, dtK_s]
  rw [i4 _ (by simp; omega), lpK_nx, forF_nilG (hg _)]
  simp [takes]
end
end NW11
end
/-! #### M34 -/
section
set_option Elab.async false
set_option linter.all false
set_option maxRecDepth 100000
set_option maxHeartbeats 8000000
namespace NW11
open RI PySem
def bd40 : ISs := (.cons (.if_ (.cmp .Is (.idx (.idx (.var 4) (.var 2)) (.cst (.int 0))) (.cst .non)) (.cons (.for_ it40 (.tp (.cons (.nm 16) (.cons (.nm 15) .nil))) in40)
  (.cons (.asg (.nm 15) (.cmp .Eq (.idx (.idx (.var 4) (.var 2)) (.cst (.int 1))) (.cst (.str [120]))))
  (.cons b4_40
  .nil))) .nil)
  .nil)
@[simp] theorem eq_x {w : Who} {M : Sto} : eqD (lW w) (.str [120]) M = some (decide (w = .me)) := by cases w <;> simp
section
variable {R : Rule} {s : Scene} {p : Nat} {r : Rec} {rows : D} {top : Nat} {cl : Nat → FN} {M g : Sto} {acc : List D} {x3 x7 x8 x9 x10 x11 x12 x13 x14 x15 x16 x17 x18 : Option D} {aa : Rec}
theorem bd40_ok (h9 : ∀ w b M, cl 35 [eRule R, lRec r, lW w, .bl b] M = some (.bl (may R r w b), M)) (h11 : ∀ w b M, cl 37 [eRule R, lScene s, .int (p : Nat), lW w, .bl b] M = some (lScene (come R s p w b), M))
    (hr : ∀ M, ixD rows (.int (p : Nat)) M = some (lRec r, M)) (hl : acc.length < 800) :
    ∃ y15 y16 y17 g', dSs cl bd40 [some (eRule R), some (lScene s), some (.int (p : Nat)), x3, some rows, some (eTh s.th), some (.ref M.length), some (.int (top : Nat)), x8, x9, x10, x11, x12, x13, x14, x15, x16, x17, x18] (M ++ .lst acc :: g) =
      some (.nx [some (eRule R), some (lScene s), some (.int (p : Nat)), x3, some rows, some (eTh s.th), some (.ref M.length), some (.int (top : Nat)), x8, x9, x10, x11, x12, x13, x14, y15, y16, y17, x18], M ++ .lst (acc ++ (comeAt R s p r top).map (lPr aa)) :: (g ++ g')) := by
  cases hw : r.who with
  | some w =>
    refine ⟨x15, x16, x17, [], ?_⟩
    have hc : comeAt R s p r top = [] := by unfold comeAt; rw [hw]
    have hn : isNon (lW w) = false := by cases w <;> rfl
    rw [hc]
    simp [bd40, hw, hr, hn, -lScene_mk]
  | none =>
    have hc : comeAt R s p r top = takes R s p r ++ chgs R s p r top := by unfold comeAt; rw [hw]
    have tl : (takes R s p r).length ≤ 4 := by
      have l1 := takeIf_len (R := R) (s := s) (p := p) (r := r) .me true
      have l2 := takeIf_len (R := R) (s := s) (p := p) (r := r) .me false
      have l3 := takeIf_len (R := R) (s := s) (p := p) (r := r) .th true
      have l4 := takeIf_len (R := R) (s := s) (p := p) (r := r) .th false
      simp [takes]; omega
    obtain ⟨y17, h4⟩ := q4_ok (R := R) (s := s) (p := p) (r := r) (rows := rows) (top := top) (cl := cl) (M := M) (g := g ++ [.lst four]) (acc := acc ++ (takes R s p r).map (lPr aa)) (aa := aa) (x3 := x3) (x8 := x8) (x9 := x9) (x10 := x10) (x11 := x11) (x12 := x12) (x13 := x13) (x14 := x14) (x16 := some (lW .th)) (x17 := x17) (x18 := x18) h9 h11 hr (by simp; omega)
    have h3 := loop40_ok (R := R) (s := s) (p := p) (r := r) (rows := rows) (cl := cl) (M := M) (g := g) (acc := acc) (aa := aa) (x3 := x3) (x5 := some (eTh s.th)) (x7 := some (.int (top : Nat))) (x8 := x8) (x9 := x9) (x10 := x10) (x11 := x11) (x12 := x12) (x13 := x13) (x14 := x14) (x15 := x15) (x16 := x16) (x17 := x17) (x18 := x18) h9 h11 hr (by omega)
    refine ⟨some (.bl (decide (r.last = .me))), some (lW .th), y17, [.lst four], ?_⟩
    rw [hc]
    generalize hL : dS cl (.for_ it40 (.tp (.cons (.nm 16) (.cons (.nm 15) .nil))) in40) = L at h3
    generalize hB : dS cl b4_40 = B at h4
    rw [bd40, dSs_cons]
    have h1 : bOf (dE cl (.cmp .Is (.idx (.idx (.var 4) (.var 2)) (.cst (.int 0))) (.cst .non))) [some (eRule R), some (lScene s), some (.int (p : Nat)), x3, some rows, some (eTh s.th), some (.ref M.length), some (.int (top : Nat)), x8, x9, x10, x11, x12, x13, x14, x15, x16, x17, x18] (M ++ .lst acc :: g) = some (true, M ++ .lst acc :: g) := by
      simp [hw, hr]
    rw [sSeq_e, dS_if, sIf_e, h1, bnd_s, if_pos rfl, dSs_cons, dSs_cons, dSs_cons, hL, hB, sSeq_e, h3, seqK_nx, sSeq_e]
    have h5 : ∀ (x5 : Option D) (M : Sto), dS cl (.asg (.nm 15) (.cmp .Eq (.idx (.idx (.var 4) (.var 2)) (.cst (.int 1))) (.cst (.str [120])))) [some (eRule R), some (lScene s), some (.int (p : Nat)), x3, some rows, some (eTh s.th), x5, some (.int (top : Nat)), x8, x9, x10, x11, x12, x13, x14, some (.bl false), some (lW .th), x17, x18] M = some (.nx [some (eRule R), some (lScene s), some (.int (p : Nat)), x3, some rows, some (eTh s.th), x5, some (.int (top : Nat)), x8, x9, x10, x11, x12, x13, x14, some (.bl (decide (r.last = .me))), some (lW .th), x17, x18], M) := fun x5 M => by
      simp [hr]
    rw [h5, seqK_nx, sSeq_e, h4, seqK_nx]
    simp
end
end NW11
end
/-! #### M35 -/
section
set_option Elab.async false
set_option linter.all false
set_option maxRecDepth 100000
set_option maxHeartbeats 8000000
namespace NW11
open RI PySem
def lv40 : IS := (.if_ (.cmp .IsNot (.var 8) (.cst .non)) (.cons (.asg (.nm 13) (.ite (.cmp .Eq (.var 5) (.var 7)) (.cst .non) (.var 5))) (.cons (.exp (.me .append (.var 6) (.cons (.tup (.cons (.cst (.str [103, 105, 118, 101])) (.cons (.var 8) (.cons (.tup (.cons (.var 3) (.cons (.bin .Add (.slc (.var 4) .none (.some (.var 7))) (.tup (.cons (.tup (.cons (.cst .non) (.cons (.var 8) (.cons (.var 10) (.cons (.cst (.int 0)) (.cons (.cst (.str [110, 111, 110, 101])) .nil)))))) .nil))) (.cons (.var 13) .nil)))) .nil)))) .nil))) (.cons (.exp (.me .append (.var 6) (.cons (.tup (.cons (.cst (.str [99, 104, 97, 110, 103, 101])) (.cons (.var 8) (.cons (.call 38 (.cons (.var 0) (.cons (.var 1) .nil))) .nil)))) .nil))) (.cons (.for_ (.src (.ite (.cmp .NotEq (.idx (.var 0) (.cst (.int 7))) (.cst (.str [110, 111]))) (.lst (.cons (.cst (.str [120])) (.cons (.cst (.str [121])) .nil))) (.lst .nil))) (.nm 14) (.cons (.if_ (.cmp .NotEq (.tup (.cons (.var 8) (.cons (.var 14) .nil))) (.tup (.cons (.cst (.str [120])) (.cons (.cst (.str [120])) .nil)))) (.cons (.asg (.nm 18) (.bin .Mod (.bi .int (.cons (.bin .Add (.var 10) (.bi .int (.cons (.cmp .Eq (.idx (.var 0) (.cst (.int 7))) (.cst (.str [99, 111, 117, 110, 116, 101, 100]))) .nil))) .nil)) (.idx (.var 0) (.cst (.int 4))))) (.cons (.exp (.me .append (.var 6) (.cons (.tup (.cons (.cst (.str [112, 97, 115, 115])) (.cons (.var 8) (.cons (.tup (.cons (.var 3) (.cons (.bin .Add (.slc (.var 4) .none (.some (.var 7))) (.tup (.cons (.tup (.cons (.var 14) (.cons (.var 14) (.cons (.var 18) (.cons (.cst (.int 0)) (.cons (.cst (.str [110, 111, 110, 101])) .nil)))))) .nil))) (.cons (.var 13) .nil)))) .nil)))) .nil))) .nil)) .nil) .nil)) .nil)))) .nil)
def c1_40 : IS := (.if_ (.cmp .Eq (.idx (.var 0) (.cst (.int 6))) (.cst (.str [115, 97, 109, 101]))) (.cons (.exp (.me .append (.var 6) (.cons (.tup (.cons (.cst (.str [99, 111, 112, 121])) (.cons (.cst (.str [121])) (.cons (.tup (.cons (.cst (.int 0)) (.cons (.var 4) (.cons (.var 5) .nil)))) .nil)))) .nil))) .nil) .nil)
def c2_40 : IS := (.if_ (.and (.cmp .Eq (.idx (.var 0) (.cst (.int 6))) (.cst (.str [97, 110, 101, 119]))) (.and (.cmp .IsNot (.var 8) (.cst .non)) (.cmp .Eq (.var 10) (.cst (.int 0))))) (.cons (.exp (.me .append (.var 6) (.cons (.tup (.cons (.cst (.str [99, 111, 112, 121])) (.cons (.cst (.str [121])) (.cons (.tup (.cons (.cst (.int 0)) (.cons (.slc (.var 4) (.some (.var 7)) .none) (.cons (.ite (.cmp .Eq (.var 5) (.var 7)) (.cst (.int 0)) (.ite (.cmp .Is (.var 5) (.cst .non)) (.cst .non) (.cst (.str [111, 117, 116])))) .nil)))) .nil)))) .nil))) .nil) .nil)
theorem ir_40_eq : ir_40 = .cons (.asg (.tp (.cons (.nm 3) (.cons (.nm 4) (.cons (.nm 5) .nil)))) (.var 1)) (.cons (.par2 6 7 (.cons (.lst (.cons (.tup (.cons (.cst (.str [116, 105, 99, 107])) (.cons (.cst (.str [116, 105, 109, 101])) (.cons (.call 39 (.cons (.var 0) (.cons (.var 1) .nil))) .nil)))) .nil)) (.cons (.bin .Sub (.bi .len (.cons (.var 4) .nil)) (.cst (.int 1))) .nil))) (.cons (.asg (.tp (.cons (.nm 8) (.cons (.nm 9) (.cons (.nm 10) (.cons (.nm 11) (.cons (.nm 12) .nil)))))) (.idx (.var 4) (.var 7))) (.cons (.for_ (.rng (.cons (.bi .len (.cons (.var 4) .nil)) .nil)) (.nm 2) bd40) (.cons lv40 (.cons c1_40 (.cons c2_40 (.cons (.ret (.var 6)) .nil))))))) := rfl
end NW11
end
/-! #### M36 -/
section
set_option Elab.async false
set_option linter.all false
set_option maxRecDepth 100000
set_option maxHeartbeats 16000000
namespace NW11
open RI PySem
section
variable {M g : Sto} {xs : List D} {o o1 : MO}
@[simp] theorem src_r2 : srcOf (M ++ o :: (g ++ [MO.lst xs])) (.ref (M.length + (g.length + 1))) = some ([(M.length + (g.length + 1), .lst xs)], xs) := by
  have e3 := src_r (M := M ++ o :: g) (g := []) (xs := xs)
  simpa using e3
@[simp] theorem gd_r2 : gdB [(M.length + (g.length + 1), o1)] (M ++ o :: (g ++ [o1])) = true := by
  have e3 := gd_r (M := M ++ o :: g) (g := []) (o := o1)
  simpa using e3
end
section
variable {R : Rule} {s : Scene} {cl : Nat → FN} {M g : Sto} {acc : List D} {x2 x13 x14 x15 x16 x17 x18 : Option D} {a : Rec} {low : List Rec}
theorem lv40_ok (hlo : low = [] ∨ ∃ b, low = [b]) (hs : s.rows = low ++ [a]) (hm : 0 < R.marks) (h38 : ∀ w M, a.who = some w → cl 38 [eRule R, lScene s] M = some (lScene (ren R s w a low), M)) (hl : acc.length < 800) :
    ∃ y13 y14 y18 g', dS cl lv40 [some (eRule R), some (lScene s), x2, some (.int s.age), some (.tup (s.rows.map lRec)), some (eTh s.th), some (.ref M.length), some (.int (low.length : Nat)), some (lOW a.who), some (lW a.last), some (.int a.num), some (.int a.old), some (eFw a.fw), x13, x14, x15, x16, x17, x18] (M ++ .lst acc :: g) =
      some (.nx [some (eRule R), some (lScene s), x2, some (.int s.age), some (.tup (s.rows.map lRec)), some (eTh s.th), some (.ref M.length), some (.int (low.length : Nat)), some (lOW a.who), some (lW a.last), some (.int a.num), some (.int a.old), some (eFw a.fw), y13, y14, x15, x16, x17, y18], M ++ .lst (acc ++ (leaves R s low a).map (lPr a)) :: (g ++ g')) := by
  have hl0 : acc.length < 16777216 := by omega
  have hl1 : acc.length + 1 < 16777216 := by omega
  have hl2 : acc.length + 1 + 1 < 16777216 := by omega
  have hl3 : acc.length + 1 + 1 + 1 < 16777216 := by omega
  have hl4 : acc.length + 2 < 16777216 := by omega
  have hl5 : acc.length + 3 < 16777216 := by omega
  cases hw : a.who with
  | none =>
    refine ⟨x13, x14, x18, [], ?_⟩
    have hc : leaves R s low a = [] := by unfold leaves; rw [hw]
    rw [hc]
    simp [lv40]
  | some w =>
    have hr' := fun M => h38 w M hw
    have hlv : leaves R s low a = leavesW R s low a w (ren R s w a low) := by unfold leaves; rw [hw]
    rw [hlv]
    generalize ren R s w a low = res at hr'
    have hp : ∀ e, lPr a (e, res) = .tup [evN e, evW a e, lScene res] := fun e => rfl
    obtain ⟨age, rows, th⟩ := s
    obtain ⟨wait, fwd, bars, hops, marks, life, cp, pg⟩ := R
    obtain ⟨who, last, num, old, fw⟩ := a
    simp only [] at hs hw hm
    subst hs hw
    simp only [leavesW, List.map_append, List.map_cons, List.map_nil, hp]
    generalize lScene res = dres at hr' ⊢
    have hcast : ∀ i : Nat, ((i : Int) = 1) ↔ i = 1 := fun i => by omega
    refine ⟨some (eTh (if th = .at_ low.length then Th.no else th)), if pg = .no then x14 else some (lW .th), if pg = .no then x18 else some (.int ((num + (if pg = .counted then 1 else 0)) % marks)), [.lst (if pg = .no then [] else [lW .me, lW .th])], ?_⟩
    rcases hlo with rfl | ⟨b, rfl⟩
    · by_cases hi : th = .at_ 0
      · cases w <;> cases pg <;> simp [hi] at hr' <;> simp [lv40, lPr, evN, evW, setTop, hi, hm, hr', hl0, hl1, hl2, hl3, hl4, hl5, forF_consG, forF_nilG]
      · cases w <;> cases pg <;> simp [hi] at hr' <;> simp [lv40, lPr, evN, evW, setTop, hi, hm, hr', hl0, hl1, hl2, hl3, hl4, hl5, forF_consG, forF_nilG]
    · by_cases hi : th = .at_ 1
      · cases w <;> cases pg <;> simp [hi] at hr' <;> simp [lv40, lPr, evN, evW, setTop, hi, hm, hr', hl0, hl1, hl2, hl3, hl4, hl5, forF_consG, forF_nilG]
      · cases w <;> cases pg <;> simp [hi] at hr' <;> simp [lv40, lPr, evN, evW, setTop, hi, hm, hr', hl0, hl1, hl2, hl3, hl4, hl5, forF_consG, forF_nilG]
end
end NW11
end
/-! #### M37 -/
section
set_option Elab.async false
set_option linter.all false
set_option maxRecDepth 100000
set_option maxHeartbeats 16000000
namespace NW11
open RI PySem
@[simp] theorem cp_same {c : Cp} {M : Sto} : eqD (eCp c) (.str [115, 97, 109, 101]) M = some (decide (c = .same)) := by cases c <;> simp
@[simp] theorem cp_anew {c : Cp} {M : Sto} : eqD (eCp c) (.str [97, 110, 101, 119]) M = some (decide (c = .anew)) := by cases c <;> simp
section
variable {R : Rule} {s : Scene} {cl : Nat → FN} {M g : Sto} {acc : List D} {x2 x9 x11 x12 x13 x14 x15 x16 x17 x18 : Option D} {a : Rec} {low : List Rec}
theorem cc40_ok (hlo : low = [] ∨ ∃ b, low = [b]) (hs : s.rows = low ++ [a]) (hl : acc.length < 800) :
    retK (dSs cl (.cons c1_40 (.cons c2_40 (.cons (.ret (.var 6)) .nil))) [some (eRule R), some (lScene s), x2, some (.int s.age), some (.tup (s.rows.map lRec)), some (eTh s.th), some (.ref M.length), some (.int (low.length : Nat)), some (lOW a.who), x9, some (.int a.num), x11, x12, x13, x14, x15, x16, x17, x18] (M ++ .lst acc :: g)) =
      some (.ref M.length, M ++ .lst (acc ++ (copies R s low a).map (lPr a)) :: g) := by
  have hl0 : acc.length < 16777216 := by omega
  obtain ⟨age, rows, th⟩ := s
  obtain ⟨wait, fwd, bars, hops, marks, life, cp, pg⟩ := R
  obtain ⟨who, last, num, old, fw⟩ := a
  simp only [] at hs
  subst hs
  rcases hlo with rfl | ⟨b, rfl⟩
  · cases cp with
    | anew => by_cases h1 : who = none <;> by_cases h2 : num = 0 <;> by_cases h3 : th = .no <;> by_cases h4 : th = .at_ 0 <;> simp [c1_40, c2_40, copies, lPr, evN, evW, h1, h2, h3, h4, hl0]
    | _ => simp [c1_40, c2_40, copies, lPr, evN, evW, hl0]
  · cases cp with
    | anew => by_cases h1 : who = none <;> by_cases h2 : num = 0 <;> by_cases h3 : th = .no <;> by_cases h4 : th = .at_ 1 <;> simp [c1_40, c2_40, copies, lPr, evN, evW, h1, h2, h3, h4, hl0]
    | _ => simp [c1_40, c2_40, copies, lPr, evN, evW, hl0]
end
end NW11
end
/-! #### M38 -/
section
set_option Elab.async false
set_option linter.all false
set_option maxRecDepth 100000
set_option maxHeartbeats 16000000
namespace NW11
open RI PySem
/-- _law_moves -/
theorem q_moves (R : Rule) (s : Scene) (a : Rec) (low : List Rec) (hlo : low = [] ∨ ∃ b, low = [b]) (hs : s.rows = low ++ [a]) (hh : R.hops ≤ 1) (hm : 0 < R.marks) (k : Nat) (M : Sto) :
    ∃ g1 g2, run defs (k + 3) 40 [eRule R, lScene s] M = some (.ref (M ++ g1).length, (M ++ g1) ++ .lst ((steps0 R s low a).map (lPr a)) :: g2) := by
  have hsm : Sm s.rows := by rw [hs]; rcases hlo with rfl | ⟨b, rfl⟩ <;> first | exact .inl ⟨_, rfl⟩ | exact .inr ⟨_, _, rfl⟩
  obtain ⟨g1, h39⟩ := q_older R s hsm k M
  have h9 : ∀ r w b M, run defs (k + 2) 35 [eRule R, lRec r, lW w, .bl b] M = some (.bl (may R r w b), M) := fun r w b M => q_may R r w b k M
  have h11 : ∀ p, p < s.rows.length → ∀ w b M, run defs (k + 2) 37 [eRule R, lScene s, .int (p : Nat), lW w, .bl b] M = some (lScene (come R s p w b), M) := fun p hp w b M => q_come R s p w b hsm hp hm k M
  have h38 : ∀ w M, a.who = some w → run defs (k + 2) 38 [eRule R, lScene s] M = some (lScene (ren R s w a low), M) := fun w M h => q_ren R s w a low hlo hs h hh (k + 1) M
  rw [run_e (f := fd_40) (env := [some (eRule R), some (lScene s), none, none, none, none, none, none, none, none, none, none, none, none, none, none, none, none, none]) rfl rfl rfl]
  show ∃ g1 g2, retK (dSs _ ir_40 _ _) = _
  rw [ir_40_eq]
  generalize RI.run defs (k + 2) = cl at h39 h9 h11 h38
  have hrow : ∀ i r, s.rows[i]? = some r → ∀ M, ixD (.tup (s.rows.map lRec)) (.int (i : Nat)) M = some (lRec r, M) := fun i r h M => ixP (by simp [h])
  have htk : (lPr a (Ev.tick, aged R s)) = .tup [.str [116, 105, 99, 107], .str [116, 105, 109, 101], lScene (aged R s)] := rfl
  rcases hlo with rfl | ⟨b, rfl⟩
  · have hb := bd40_ok (R := R) (s := s) (p := 0) (r := a) (rows := .tup (s.rows.map lRec)) (top := 0) (cl := cl) (M := M ++ g1) (g := []) (acc := [lPr a (Ev.tick, aged R s)]) (aa := a) (x3 := some (.int s.age)) (x8 := some (lOW a.who)) (x9 := some (lW a.last)) (x10 := some (.int a.num)) (x11 := some (.int a.old)) (x12 := some (eFw a.fw)) (x13 := none) (x14 := none) (x15 := none) (x16 := none) (x17 := none) (x18 := none) (h9 a) (h11 0 (by rw [hs]; simp)) (hrow 0 a (by rw [hs]; rfl)) (by simp)
    obtain ⟨y15, y16, y17, g2, hb⟩ := hb
    have c1 := comeAt_len R s 0 a 0
    obtain ⟨y13, y14, y18, g3, hv⟩ := lv40_ok (R := R) (s := s) (cl := cl) (M := M ++ g1) (g := g2) (acc := [lPr a (Ev.tick, aged R s)] ++ (comeAt R s 0 a 0).map (lPr a)) (x2 := some (.int 0)) (x13 := none) (x14 := none) (x15 := y15) (x16 := y16) (x17 := y17) (x18 := none) (a := a) (low := []) (.inl rfl) hs hm h38 (by simp; omega)
    have c2 := leaves_len R s [] a
    have hc := cc40_ok (R := R) (s := s) (cl := cl) (M := M ++ g1) (g := g2 ++ g3) (acc := [lPr a (Ev.tick, aged R s)] ++ (comeAt R s 0 a 0).map (lPr a) ++ (leaves R s [] a).map (lPr a)) (x2 := some (.int 0)) (x9 := some (lW a.last)) (x11 := some (.int a.old)) (x12 := some (eFw a.fw)) (x13 := y13) (x14 := y14) (x15 := y15) (x16 := y16) (x17 := y17) (x18 := y18) (a := a) (low := []) (.inl rfl) hs (by simp; omega)
    refine ⟨g1, g2 ++ g3, ?_⟩
    generalize hB : dSs cl bd40 = B at hb
    generalize hV : dS cl lv40 = V at hv
    generalize hC : dSs cl (.cons c1_40 (.cons c2_40 (.cons (.ret (.var 6)) .nil))) = C at hc
    rw [dSs_cons, dSs_cons, dSs_cons, dSs_cons, dSs_cons, hC, hV]
    simp only [hs, List.nil_append, List.map_cons, List.map_nil, htk] at hb hv hc
    simp [-lScene_mk, -lRec_mk] at hb hv hc
    simp [hs, hB, h39, -lScene_mk, -lRec_mk]
    rw [hb, lpK_nx, forF_nilG rfl, seqK_nx, sSeq_e, hv, seqK_nx, hc]
    simp [steps0, comings, htk, -lScene_mk, -lRec_mk]
  · have hb := bd40_ok (R := R) (s := s) (p := 0) (r := b) (rows := .tup (s.rows.map lRec)) (top := 1) (cl := cl) (M := M ++ g1) (g := []) (acc := [lPr a (Ev.tick, aged R s)]) (aa := a) (x3 := some (.int s.age)) (x8 := some (lOW a.who)) (x9 := some (lW a.last)) (x10 := some (.int a.num)) (x11 := some (.int a.old)) (x12 := some (eFw a.fw)) (x13 := none) (x14 := none) (x15 := none) (x16 := none) (x17 := none) (x18 := none) (h9 b) (h11 0 (by rw [hs]; simp)) (hrow 0 b (by rw [hs]; rfl)) (by simp)
    obtain ⟨y15, y16, y17, g2, hb⟩ := hb
    have c0 := comeAt_len R s 0 b 1
    have hb' := bd40_ok (R := R) (s := s) (p := 1) (r := a) (rows := .tup (s.rows.map lRec)) (top := 1) (cl := cl) (M := M ++ g1) (g := g2) (acc := [lPr a (Ev.tick, aged R s)] ++ (comeAt R s 0 b 1).map (lPr a)) (aa := a) (x3 := some (.int s.age)) (x8 := some (lOW a.who)) (x9 := some (lW a.last)) (x10 := some (.int a.num)) (x11 := some (.int a.old)) (x12 := some (eFw a.fw)) (x13 := none) (x14 := none) (x15 := y15) (x16 := y16) (x17 := y17) (x18 := none) (h9 a) (h11 1 (by rw [hs]; simp)) (hrow 1 a (by rw [hs]; rfl)) (by simp; omega)
    obtain ⟨z15, z16, z17, g4, hb'⟩ := hb'
    have c1 := comeAt_len R s 1 a 1
    obtain ⟨y13, y14, y18, g3, hv⟩ := lv40_ok (R := R) (s := s) (cl := cl) (M := M ++ g1) (g := g2 ++ g4) (acc := [lPr a (Ev.tick, aged R s)] ++ (comeAt R s 0 b 1).map (lPr a) ++ (comeAt R s 1 a 1).map (lPr a)) (x2 := some (.int 1)) (x13 := none) (x14 := none) (x15 := z15) (x16 := z16) (x17 := z17) (x18 := none) (a := a) (low := [b]) (.inr ⟨b, rfl⟩) hs hm h38 (by simp; omega)
    have c2 := leaves_len R s [b] a
    have hc := cc40_ok (R := R) (s := s) (cl := cl) (M := M ++ g1) (g := g2 ++ g4 ++ g3) (acc := [lPr a (Ev.tick, aged R s)] ++ (comeAt R s 0 b 1).map (lPr a) ++ (comeAt R s 1 a 1).map (lPr a) ++ (leaves R s [b] a).map (lPr a)) (x2 := some (.int 1)) (x9 := some (lW a.last)) (x11 := some (.int a.old)) (x12 := some (eFw a.fw)) (x13 := y13) (x14 := y14) (x15 := z15) (x16 := z16) (x17 := z17) (x18 := y18) (a := a) (low := [b]) (.inr ⟨b, rfl⟩) hs (by simp; omega)
    refine ⟨g1, g2 ++ g4 ++ g3, ?_⟩
    generalize hB : dSs cl bd40 = B at hb hb'
    generalize hV : dS cl lv40 = V at hv
    generalize hC : dSs cl (.cons c1_40 (.cons c2_40 (.cons (.ret (.var 6)) .nil))) = C at hc
    rw [dSs_cons, dSs_cons, dSs_cons, dSs_cons, dSs_cons, hC, hV]
    simp only [hs, List.cons_append, List.nil_append, List.map_cons, List.map_nil, htk] at hb hb' hv hc
    simp [-lScene_mk, -lRec_mk] at hb hb' hv hc
    simp [hs, hB, h39, -lScene_mk, -lRec_mk]
    rw [hb, lpK_nx, forF_consG rfl]
    simp [-lScene_mk, -lRec_mk]
    rw [hb', lpK_nx, forF_nilG rfl, seqK_nx, sSeq_e, hv, seqK_nx, hc]
    simp [steps0, comings, htk, -lScene_mk, -lRec_mk]
end NW11
end
/-! #### M39 -/
section
set_option Elab.async false
set_option linter.all false
set_option maxRecDepth 100000
set_option maxHeartbeats 8000000
namespace NW11
open RI PySem
/-! ### the law's dict of scenes -/
theorem lW_inj {v w : Who} (h : lW v = lW w) : v = w := by cases v <;> cases w <;> first | rfl | simp at h
theorem lOW_inj {v w : Option Who} (h : lOW v = lOW w) : v = w := by
  cases v with
  | none => cases w with
    | none => rfl
    | some w => cases w <;> simp at h
  | some v => cases w with
    | none => cases v <;> simp at h
    | some w => rw [lW_inj h]
theorem lRec_inj {v w : Rec} (h : lRec v = lRec w) : v = w := by
  obtain ⟨a, b, c, d, e⟩ := v
  obtain ⟨a2, b2, c2, d2, e2⟩ := w
  simp at h
  obtain ⟨h1, h2, h3, h4, h5⟩ := h
  rw [lOW_inj h1, lW_inj h2, h3, h4, eFw_inj h5]
theorem mapL_inj : ∀ {l m : List Rec}, l.map lRec = m.map lRec → l = m
  | [], [], _ => rfl
  | [], _ :: _, h => by simp at h
  | _ :: _, [], h => by simp at h
  | a :: l, b :: m, h => by
    simp only [List.map_cons, List.cons.injEq] at h
    rw [lRec_inj h.1, mapL_inj h.2]
theorem lScene_inj {s t : Scene} (h : lScene s = lScene t) : s = t := by
  obtain ⟨a, b, c⟩ := s
  obtain ⟨a2, b2, c2⟩ := t
  simp only [lScene_mk, D.tup.injEq, List.cons.injEq, D.int.injEq, and_true] at h
  obtain ⟨h1, h2, h3⟩ := h
  rw [h1, mapL_inj h2, eTh_inj h3]
def jOW : Option Who → NestedKey
  | none => .none
  | some .me => .text (S [120])
  | some .th => .text (S [121])
def jRec (r : Rec) : NestedKey := .tup [jOW r.who, jOW (some r.last), .num r.num, .num r.old, kFw r.fw]
theorem key_low (w : Option Who) : keyOf (lOW w) = some (jOW w) := by
  cases w with
  | none => rfl
  | some w => cases w <;> rfl
theorem key_lw (w : Who) : keyOf (lW w) = some (jOW (some w)) := by cases w <;> rfl
theorem key_lrec (r : Rec) : keyOf (lRec r) = some (jRec r) := by
  simp only [lRec, keyOf, keyOf.keysOf, key_low, key_lw, key_fw, Option.map_some]
  rfl
theorem keys_lrecs : ∀ l : List Rec, keyOf.keysOf (l.map lRec) = some (l.map jRec)
  | [] => rfl
  | a :: l => by simp only [List.map_cons, keyOf.keysOf, key_lrec, keys_lrecs l]
def jScene (s : Scene) : NestedKey := .tup [.num s.age, .tup (s.rows.map jRec), kTh s.th]
theorem key_lscene (s : Scene) : keyOf (lScene s) = some (jScene s) := by
  simp only [lScene, keyOf, keyOf.keysOf, keys_lrecs, key_th, Option.map_some]
  rfl
theorem dep_lrec (r : Rec) : (jRec r).depth ≤ 3 := by
  obtain ⟨w, l, n, o, f⟩ := r
  cases w with
  | none => cases l <;> cases f <;> simp [jRec, jOW, kFw, NestedKey.depth, NestedKey.depthAll]
  | some w => cases w <;> cases l <;> cases f <;> simp [jRec, jOW, kFw, NestedKey.depth, NestedKey.depthAll]
theorem dep_lrecs : ∀ l : List Rec, NestedKey.depthAll (l.map jRec) ≤ 3
  | [] => by simp [NestedKey.depthAll]
  | a :: l => by
    have h1 := dep_lrec a
    have h2 := dep_lrecs l
    simp only [List.map_cons, NestedKey.depthAll]
    omega
theorem dep_lscene (s : Scene) : (jScene s).depth ≤ 8 := by
  have h := dep_lrecs s.rows
  have h2 : (kTh s.th).depth ≤ 1 := by cases s.th <;> simp [kTh, NestedKey.depth]
  simp only [jScene, NestedKey.depth, NestedKey.depthAll]
  omega
def lKv (p : Scene × Par) : D × D := (lScene p.1, .bl true)
theorem dget_cL {p : Scene × Par} {l : List (Scene × Par)} {s : Scene} : dget ((p :: l).map lKv) (lScene s) = if p.1 = s then some (.bl true) else dget (l.map lKv) (lScene s) := by
  rw [List.map_cons, dget_cons]
  show (if lScene p.1 = lScene s then some (D.bl true) else _) = _
  by_cases h : p.1 = s
  · rw [if_pos h, if_pos (by rw [h])]
  · rw [if_neg h, if_neg (fun e => h (lScene_inj e))]
theorem dget_someL {l : List (Scene × Par)} {s : Scene} : (dget (l.map lKv) (lScene s)).isSome = decide (s ∈ l.map (·.1)) := by
  induction l with
  | nil => rfl
  | cons p l ih =>
    rw [dget_cL]
    by_cases h : p.1 = s
    · rw [if_pos h]
      simp [h]
    · rw [if_neg h, ih]
      simp [Ne.symm h]
theorem dput_L {l : List (Scene × Par)} {s : Scene} {q : Par} (h : s ∉ l.map (·.1)) : dput (l.map lKv) (lScene s) (.bl true) = (l ++ [(s, q)]).map lKv := by
  unfold dput
  have := dget_someL (l := l) (s := s)
  rw [decide_eq_false h] at this
  rw [if_neg (by rw [this]; simp)]
  simp [lKv]
theorem cmp_notinL {M : Sto} {r : Nat} {lk : Bool} {l : List (Scene × Par)} {s : Scene} (h : M[r]? = some (.dct lk (l.map lKv))) : cmpF .NotIn (lScene s) (.ref r) M = some (.bl (!decide (s ∈ l.map (·.1))), M) := by
  have e : inD (lScene s) (.ref r) M = some (decide (s ∈ l.map (·.1))) := by
    have hs : seqOf M (.ref r) = none := by
      show lstOf M (.ref r) = none
      unfold lstOf; simp only [h]
    unfold inD
    rw [hs]
    simp only [h]
    show (match lScene s, keyOf (lScene s) with | .tup _, some k => _ | _, _ => none) = _
    rw [key_lscene]
    show (if (jScene s).depth ≤ 8 then some (dget (l.map lKv) (lScene s)).isSome else none) = _
    rw [if_pos (dep_lscene s), dget_someL]
  show ((inD (lScene s) (.ref r) M).map not).map _ = _
  rw [e]; rfl
theorem setD_L {M : Sto} {r : Nat} {l : List (Scene × Par)} {s : Scene} (q : Par) (h : M[r]? = some (.dct false (l.map lKv))) (hn : s ∉ l.map (·.1)) (hz : l.length < 16777216) : setD (.ref r) (lScene s) (.bl true) M = some (M.set r (.dct false ((l ++ [(s, q)]).map lKv))) := by
  unfold setD
  simp only [h]
  show (match lScene s, keyOf (lScene s) with | .tup _, some k => _ | _, _ => none) = _
  rw [key_lscene s]
  show (if (jScene s).depth ≤ 8 ∧ (l.map lKv).length < SL then some _ else none) = _
  rw [if_pos ⟨dep_lscene s, by simpa [SL] using hz⟩, dput_L (q := q) hn]
/-! ### the dict of harms, with counts -/
/-- the values are counts -/
def KI (K : KS) : Prop := ∀ p ∈ K, ∃ i : Int, p.2 = .int i
theorem get_K {M : Sto} {r : Nat} {l : KS} {s : HD} {c : Int} (h : M[r]? = some (.dct false (l.map eK))) (hi : KI l) : ∃ i : Int, meD .get (.ref r) [eHD s, .int c] M = some (.int i, M) := by
  show ∃ i : Int, getD r (eHD s) (.int c) M = _
  unfold getD
  rw [h]
  show ∃ i : Int, (match eHD s, keyOf (eHD s) with | .tup _, some nk => (if nk.depth ≤ 8 then some ((dget (l.map eK) (eHD s)).getD (.int c), M) else none) | _, _ => none) = _
  rw [key_hd]
  show ∃ i : Int, (if (kHD s).depth ≤ 8 then some ((dget (l.map eK) (eHD s)).getD (.int c), M) else none) = _
  rw [if_pos (dep_hd s)]
  cases e : dget (l.map eK) (eHD s) with
  | none => exact ⟨c, rfl⟩
  | some d =>
    unfold dget at e
    obtain ⟨p, hp, e2⟩ := Option.map_eq_some_iff.mp e
    obtain ⟨q, hq, e3⟩ := List.mem_map.mp (List.mem_of_find?_eq_some hp)
    obtain ⟨i, e4⟩ := hi q hq
    refine ⟨i, ?_⟩
    rw [← e2, ← e3]
    show some ((some q.2).getD (.int c), M) = _
    rw [e4]; rfl
theorem put_K {l : KS} {s : HD} {i : Int} (hi : KI l) (nd : (kk l).Nodup) : ∃ l' : KS, dput (l.map eK) (eHD s) (.int i) = l'.map eK ∧ KI l' ∧ (kk l').Nodup ∧ ∀ p, p ∈ kk l' ↔ p ∈ kk l ∨ s = p := by
  by_cases hs : s ∈ kk l
  · refine ⟨l.map fun p => if p.1 = s then (p.1, .int i) else p, ?_, ?_, ?_, ?_⟩
    · unfold dput
      have := dget_someK (l := l) (s := s)
      rw [decide_eq_true hs] at this
      rw [if_pos this, List.map_map, List.map_map]
      apply List.map_congr_left
      intro p _
      show (if eHD p.1 = eHD s then (eHD p.1, D.int i) else eK p) = eK (if p.1 = s then (p.1, .int i) else p)
      by_cases h : p.1 = s
      · rw [if_pos h, if_pos (by rw [h])]; rfl
      · rw [if_neg h, if_neg (fun e => h (eHD_inj e))]
    · intro p hp
      obtain ⟨q, hq, e⟩ := List.mem_map.mp hp
      rw [← e]
      split
      · exact ⟨i, rfl⟩
      · exact hi q hq
    · have e : kk (l.map fun p => if p.1 = s then (p.1, D.int i) else p) = kk l := by
        unfold kk
        rw [List.map_map]
        apply List.map_congr_left
        intro p _
        show (if p.1 = s then (p.1, D.int i) else p).1 = p.1
        split <;> rfl
      rw [e]; exact nd
    · have e : kk (l.map fun p => if p.1 = s then (p.1, D.int i) else p) = kk l := by
        unfold kk
        rw [List.map_map]
        apply List.map_congr_left
        intro p _
        show (if p.1 = s then (p.1, D.int i) else p).1 = p.1
        split <;> rfl
      rw [e]
      intro p
      exact ⟨.inl, fun q => q.elim id fun z => z ▸ hs⟩
  · refine ⟨l ++ [(s, .int i)], dput_K hs, ?_, ?_, ?_⟩
    · intro p hp
      rcases List.mem_append.mp hp with hp | hp
      · exact hi p hp
      · rw [List.mem_singleton] at hp
        subst hp
        exact ⟨i, rfl⟩
    · show ((l ++ [(s, D.int i)]).map (·.1)).Nodup
      rw [List.map_append, List.nodup_append]
      refine ⟨nd, by simp, fun a ha b hb => ?_⟩
      simp only [List.map_cons, List.map_nil, List.mem_singleton] at hb
      subst hb
      exact fun z => hs (z ▸ ha)
    · intro p
      simp only [kk, List.map_append, List.map_cons, List.map_nil, List.mem_append, List.mem_singleton]
      exact ⟨fun q => q.imp id Eq.symm, fun q => q.imp id Eq.symm⟩
theorem setD_KI {M : Sto} {r : Nat} {l : KS} {s : HD} {i : Int} (h : M[r]? = some (.dct false (l.map eK))) (hi : KI l) (nd : (kk l).Nodup) : ∃ l' : KS, setD (.ref r) (eHD s) (.int i) M = some (M.set r (.dct false (l'.map eK))) ∧ KI l' ∧ (kk l').Nodup ∧ ∀ p, p ∈ kk l' ↔ p ∈ kk l ∨ s = p := by
  obtain ⟨l', h1, h2, h3, h4⟩ := put_K (s := s) (i := i) hi nd
  refine ⟨l', ?_, h2, h3, h4⟩
  unfold setD
  simp only [h]
  show (match eHD s, keyOf (eHD s) with | .tup _, some k => _ | _, _ => none) = _
  rw [key_hd]
  show (if (kHD s).depth ≤ 8 ∧ (l.map eK).length < SL then some (M.set r (.dct false (dput (l.map eK) (eHD s) (.int i)))) else none) = _
  rw [if_pos ⟨dep_hd s, by have := few_K nd; simp [SL]; omega⟩, h1]
/-! ### who does it -/
def wD : Dr → D
  | .time => .str [116, 105, 109, 101]
  | .meant => .str [120]
  | .other => .str [121]
theorem lW_by (w : Who) : lW w = wD (byWho (some w)) := by cases w <;> rfl
theorem evW_comeAt {R : Rule} {s : Scene} {low : List Rec} {a : Rec} (h : SOk R s low a) {p : Nat} {r : Rec} {x : Ev × Scene} (hx : x ∈ comeAt R s p r low.length) : evW a x.1 = wD (doer s x.1) := by
  have tk : ∀ w b, x ∈ takeIf R s p r w b → evW a x.1 = wD (doer s x.1) := by
    intro w b hx
    unfold takeIf at hx
    split at hx
    · rw [List.mem_singleton] at hx
      subst hx
      exact lW_by w
    · simp at hx
  unfold comeAt at hx
  split at hx
  · simp at hx
  · rcases List.mem_append.mp hx with hx | hx
    · unfold takes at hx
      rcases List.mem_append.mp hx with hx | hx
      · exact tk _ _ hx
      · rcases List.mem_append.mp hx with hx | hx
        · exact tk _ _ hx
        · rcases List.mem_append.mp hx with hx | hx
          · exact tk _ _ hx
          · exact tk _ _ hx
    · unfold chgs at hx
      split at hx
      · rename_i hc
        rw [List.mem_singleton] at hx
        subst hx
        rw [Bool.and_eq_true, Bool.or_eq_true, Bool.and_eq_true] at hc
        show lW .me = wD (match s.th with | .at_ i => byWho (s.rows.getD i nobody).who | _ => .meant)
        rcases hc.2 with z | ⟨z, _⟩
        · rw [of_decide_eq_true z]; rfl
        · have z := of_decide_eq_true z
          rw [z]
          have := (h.th _ z).2
          have e : s.rows.getD low.length nobody = a := by rw [h.rows]; simp [List.getD]
          show lW .me = wD (byWho (s.rows.getD low.length nobody).who)
          rw [e, this]; rfl
      · simp at hx
theorem evW_ok {R : Rule} {s : Scene} {low : List Rec} {a : Rec} (h : SOk R s low a) {x : Ev × Scene} (hx : x ∈ steps0 R s low a) : evW a x.1 = wD (doer s x.1) := by
  have e : s.rows.getD low.length nobody = a := by rw [h.rows]; simp [List.getD]
  unfold steps0 at hx
  rcases List.mem_append.mp hx with hx | hx
  · rcases List.mem_append.mp hx with hx | hx
    · rcases List.mem_append.mp hx with hx | hx
      · rw [List.mem_singleton] at hx
        subst hx
        rfl
      · unfold comings at hx
        rcases h.lo with z | ⟨b, z, _⟩
        · subst z
          exact evW_comeAt h hx
        · subst z
          rcases List.mem_append.mp hx with hx | hx
          · exact evW_comeAt h hx
          · exact evW_comeAt h hx
    · unfold leaves at hx
      split at hx
      · simp at hx
      · rename_i w hw
        have g : lOW a.who = wD (byWho (s.rows.getD low.length nobody).who) := by rw [e, hw]; exact lW_by w
        unfold leavesW at hx
        rcases List.mem_append.mp hx with hx | hx
        · simp only [List.mem_cons, List.not_mem_nil, or_false] at hx
          rcases hx with rfl | rfl <;> exact g
        · split at hx
          · simp at hx
          · rcases List.mem_append.mp hx with hx | hx
            · split at hx
              · simp at hx
              · rw [List.mem_singleton] at hx
                subst hx
                exact g
            · rw [List.mem_singleton] at hx
              subst hx
              exact g
  · unfold copies at hx
    split at hx
    · simp at hx
    · rw [List.mem_singleton] at hx
      subst hx
      rfl
    · split at hx
      · rw [List.mem_singleton] at hx
        subst hx
        rfl
      · simp at hx
end NW11
end
/-! #### M40 -/
section
set_option Elab.async false
set_option linter.all false
set_option maxRecDepth 100000
set_option maxHeartbeats 8000000
namespace NW11
open RI PySem
def nin42 : IS := (.if_ (.cmp .NotIn (.var 10) (.var 4)) (.cons (.sub (.var 4) (.var 10) (.cst (.bl true)))
  (.cons (.exp (.me .append (.var 7) (.cons (.var 10) .nil)))
  .nil)) .nil)
def get42 : IS := (.asg (.nm 12) (.me .get (.dss [[116, 105, 109, 101], [120]] (.cons (.cst (.str [116, 105, 109, 101])) (.cons (.cst (.str [109, 101, 97, 110, 116])) .nil))) (.cons (.var 9) (.cons (.cst (.str [111, 116, 104, 101, 114])) .nil))))
def sub42 : IS := (.sub (.var 2) (.tup (.cons (.var 11) (.cons (.var 12) .nil))) (.bi .int (.cons (.me .get (.var 2) (.cons (.tup (.cons (.var 11) (.cons (.var 12) .nil))) (.cons (.var 3) .nil))) .nil)))
def hit42 : ISs := (.cons get42 (.cons sub42 .nil))
def hc42 : IE := (.and (.cmp .In (.var 11) (.lst (.cons (.cst (.str [97, 115, 116, 114, 97, 121])) (.cons (.cst (.str [108, 111, 115, 116])) .nil)))) (.cmp .NotEq (.var 11) (.call 41 (.cons (.var 6) .nil))))
def lc42 : IE := (.or (.cmp .Is (.idx (.var 0) (.cst (.int 5))) (.cst .non)) (.cmp .LtE (.idx (.var 10) (.cst (.int 0))) (.idx (.var 0) (.cst (.int 5)))))
def as42 : IS := (.asg (.nm 11) (.call 41 (.cons (.var 10) .nil)))
def ib42 : ISs := (.cons (.if_ lc42 (.cons as42 (.cons (.if_ hc42 hit42 .nil) (.cons nin42 .nil))) .nil) .nil)
abbrev E42 (R : Rule) (x1 : Option D) (rK : Nat) (c : Int) (rF : Nat) (x5 : Option D) (s : Scene) (x7 x8 x9 x10 x11 x12 : Option D) : En := [some (eRule R), x1, some (.ref rK), some (.int c), some (.ref rF), x5, some (lScene s), x7, x8, x9, x10, x11, x12]
/-- what the store holds -/
structure S4 (M : Sto) (rK rF rA : Nat) (K : KS) (FA : FS × List Scene) : Prop where
  k : M[rK]? = some (.dct false (K.map eK))
  f : M[rF]? = some (.dct false (FA.1.map lKv))
  a : M[rA]? = some (.lst (FA.2.map lScene))
  ne : rK ≠ rF
theorem S4.nKA {M : Sto} {rK rF rA : Nat} {K : KS} {FA : FS × List Scene} (h : S4 M rK rF rA K FA) : rK ≠ rA := fun e => by
  have h1 := h.k
  rw [e, h.a] at h1
  cases h1
theorem S4.nFA {M : Sto} {rK rF rA : Nat} {K : KS} {FA : FS × List Scene} (h : S4 M rK rF rA K FA) : rF ≠ rA := fun e => by
  have h1 := h.f
  rw [e, h.a] at h1
  cases h1
/-- all else stays -/
def F3 (rK rF rA : Nat) (M M' : Sto) : Prop := ∀ i o, i ≠ rK → i ≠ rF → i ≠ rA → M[i]? = some o → M'[i]? = some o
theorem F3.refl {rK rF rA : Nat} {M : Sto} : F3 rK rF rA M M := fun _ _ _ _ _ h => h
theorem F3.trans {rK rF rA : Nat} {M M1 M2 : Sto} (a : F3 rK rF rA M M1) (b : F3 rK rF rA M1 M2) : F3 rK rF rA M M2 := fun i o h1 h2 h3 h => b i o h1 h2 h3 (a i o h1 h2 h3 h)
theorem F3.app {rK rF rA : Nat} {M g : Sto} : F3 rK rF rA M (M ++ g) := fun i o _ _ _ h => by rw [List.getElem?_append_left (List.getElem?_eq_some_iff.mp h).1]; exact h
theorem F3.set {rK rF rA r : Nat} {M : Sto} {o : MO} (h : r = rK ∨ r = rF ∨ r = rA) : F3 rK rF rA M (M.set r o) := fun i o h1 h2 h3 h' => by
  rw [List.getElem?_set_ne (by rcases h with h | h | h <;> omega)]; exact h'
theorem S4.app {M g : Sto} {rK rF rA : Nat} {K : KS} {FA : FS × List Scene} (h : S4 M rK rF rA K FA) : S4 (M ++ g) rK rF rA K FA :=
  ⟨by rw [List.getElem?_append_left (List.getElem?_eq_some_iff.mp h.k).1]; exact h.k, by rw [List.getElem?_append_left (List.getElem?_eq_some_iff.mp h.f).1]; exact h.f,
   by rw [List.getElem?_append_left (List.getElem?_eq_some_iff.mp h.a).1]; exact h.a, h.ne⟩
theorem lSt_some {t : Scene} {h : Hm} (e : stat t = some h) : lSt t = eHm h := by
  unfold stat at e
  unfold lSt
  split at e
  · cases e; rename_i q; rw [q]; rfl
  · cases e
  · rename_i q; rw [q]
    split at e
    · cases e
    · rename_i q2
      cases e; simp [q2]; rfl
theorem lSt_none {t : Scene} (e : stat t = none) : lSt t = .str [114, 105, 103, 104, 116] ∨ lSt t = .str [110, 111, 119, 104, 101, 114, 101] := by
  unfold stat at e
  unfold lSt
  split at e
  · cases e
  · rename_i q; rw [q]; exact .inl rfl
  · rename_i q; rw [q]
    split at e
    · rename_i q2
      rw [q2]; exact .inr rfl
    · cases e
theorem eq_st {M : Sto} {h : Hm} {s : Scene} : eqD (eHm h) (lSt s) M = some (decide (stat s = some h)) := by
  cases e : stat s with
  | none => rcases lSt_none e with z | z <;> rw [z] <;> cases h <;> simp [eHm]
  | some g => rw [lSt_some e]; cases h <;> cases g <;> simp [eHm]
theorem in_st {M : Sto} {t : Scene} : cmpF .In (lSt t) (.ref M.length) (M ++ [.lst [.str [97, 115, 116, 114, 97, 121], .str [108, 111, 115, 116]]]) = some (.bl (stat t).isSome, M ++ [.lst [.str [97, 115, 116, 114, 97, 121], .str [108, 111, 115, 116]]]) := by
  have e : inD (lSt t) (.ref M.length) (M ++ [.lst [.str [97, 115, 116, 114, 97, 121], .str [108, 111, 115, 116]]]) = some (stat t).isSome := by
    have hs : seqOf (M ++ [.lst [.str [97, 115, 116, 114, 97, 121], .str [108, 111, 115, 116]]]) (.ref M.length) = some [.str [97, 115, 116, 114, 97, 121], .str [108, 111, 115, 116]] := by
      show lstOf _ (.ref M.length) = _
      unfold lstOf; simp
    unfold inD
    rw [hs]
    simp only []
    cases e : stat t with
    | none => rcases lSt_none e with z | z <;> rw [z] <;> simp [keyB, inItems, NestedKey.depth, nestBeq_text]
    | some g => rw [lSt_some e]; cases g <;> simp [eHm, keyB, inItems, NestedKey.depth, nestBeq_text]
  show (inD _ _ _).map _ = _
  rw [e]; rfl
section
variable {R : Rule} {cl : Nat → FN} {s : Scene} {rK rF rA : Nat} {c : Int} {x1 x5 x8 x9 x11 x12 : Option D}
theorem lc42_ok {e : Ev} {t : Scene} {x7 : Option D} {M : Sto} : bOf (dE cl lc42) (E42 R x1 rK c rF x5 s x7 x8 x9 (some (lScene t)) x11 x12) M = some (inLife R (e, t), M) := by
  have i5 : ∀ M, ixD (eRule R) (.int 5) M = some (eOI R.life, M) := fun M => ix5
  have i0 : ∀ M, ixD (lScene t) (.int 0) M = some (.int t.age, M) := fun M => ix0
  cases h : R.life with
  | none => simp [lc42, i5, i0, h, eOI, inLife, -lScene_mk]
  | some l => simp [lc42, i5, i0, h, eOI, inLife, -lScene_mk]
theorem hc42_ok (h41 : ∀ M, cl 41 [lScene s] M = some (lSt s, M)) {t : Scene} {x7 x10 : Option D} {M : Sto} : ∃ g, bOf (dE cl hc42) (E42 R x1 rK c rF x5 s x7 x8 x9 x10 (some (lSt t)) x12) M = some (decide ((pairOf s (.tick, t)).isSome), M ++ g) := by
  have hi := in_st (M := M) (t := t)
  refine ⟨[.lst [.str [97, 115, 116, 114, 97, 121], .str [108, 111, 115, 116]]], ?_⟩
  cases e : stat t with
  | none =>
    rw [e] at hi
    simp [hc42, hi, pairOf, e, -lScene_mk]
  | some h =>
    rw [e] at hi
    have q := eq_st (M := M ++ [.lst [.str [97, 115, 116, 114, 97, 121], .str [108, 111, 115, 116]]]) (h := h) (s := s)
    rw [lSt_some e] at hi ⊢
    by_cases h2 : stat s = some h
    · rw [decide_eq_true h2] at q
      simp [hc42, hi, h41, q, pairOf, e, h2, -lScene_mk]
    · rw [decide_eq_false h2] at q
      simp [hc42, hi, h41, q, pairOf, e, h2, -lScene_mk]
theorem get42_ok {d : Dr} {x7 x10 : Option D} {M : Sto} : ∃ g, dS cl get42 (E42 R x1 rK c rF x5 s x7 x8 (some (wD d)) x10 x11 x12) M = some (.nx (E42 R x1 rK c rF x5 s x7 x8 (some (wD d)) x10 x11 (some (eDr d))), M ++ g) := by
  have hd : ∀ env, eDss [[116, 105, 109, 101], [120]] (aCons (eCst (.str [116, 105, 109, 101])) (aCons (eCst (.str [109, 101, 97, 110, 116])) aNil)) env M = some (.ref M.length, M ++ [.dcs false [([116, 105, 109, 101], .str [116, 105, 109, 101]), ([120], .str [109, 101, 97, 110, 116])]]) := by
    intro env
    unfold eDss
    simp only [aCons_e, eCst_e, bnd_s, aNil_e, List.getElem?_concat_length]
    show (if (2 : Nat) = 2 ∧ (2 : Nat) ≤ 15 then some (D.ref M.length, (M ++ [MO.dcs false []]).set M.length _) else none) = _
    rw [if_pos (by decide), set_last]
    rfl
  refine ⟨[.dcs false [([116, 105, 109, 101], .str [116, 105, 109, 101]), ([120], .str [109, 101, 97, 110, 116])]], ?_⟩
  have hm : meT .get (M ++ [.dcs false [([116, 105, 109, 101], .str [116, 105, 109, 101]), ([120], .str [109, 101, 97, 110, 116])]]) (.ref M.length) = true := by simp [meT]
  have hg : meD .get (.ref M.length) [wD d, .str [111, 116, 104, 101, 114]] (M ++ [.dcs false [([116, 105, 109, 101], .str [116, 105, 109, 101]), ([120], .str [109, 101, 97, 110, 116])]]) = some (eDr d, M ++ [.dcs false [([116, 105, 109, 101], .str [116, 105, 109, 101]), ([120], .str [109, 101, 97, 110, 116])]]) := by
    show getD M.length _ _ _ = _
    unfold getD
    rw [List.getElem?_concat_length]
    cases d <;> rfl
  simp [get42, hd, hm, hg, -lScene_mk]
theorem sub42_ok {h : Hm} {d : Dr} {x7 x10 : Option D} {M : Sto} {K : KS} (hK : M[rK]? = some (.dct false (K.map eK))) (ki : KI K) (nd : (kk K).Nodup) :
    ∃ K', dS cl sub42 (E42 R x1 rK c rF x5 s x7 x8 x9 x10 (some (eHm h)) (some (eDr d))) M = some (.nx (E42 R x1 rK c rF x5 s x7 x8 x9 x10 (some (eHm h)) (some (eDr d))), M.set rK (.dct false (K'.map eK))) ∧ KI K' ∧ (kk K').Nodup ∧ ∀ p, p ∈ kk K' ↔ p ∈ kk K ∨ (h, d) = p := by
  obtain ⟨i, hg⟩ := get_K (s := (h, d)) (c := c) hK ki
  obtain ⟨K', hs, k1, k2, k3⟩ := setD_KI (s := (h, d)) (i := i) hK ki nd
  refine ⟨K', ?_, k1, k2, k3⟩
  have hm : meT .get M (.ref rK) = true := by simp [meT, hK]
  have hb : ∀ M, biD .int [.int i] M = some (.int i, M) := fun M => rfl
  simp only [eHD] at hg hs
  simp [sub42, hm, hg, hs, hb, -lScene_mk]
theorem nin42_ok {e : Ev} {t : Scene} {M : Sto} {K : KS} {FA : FS × List Scene} (hS : S4 M rK rF rA K FA) (hf : FA.1.length < 16777216) (ha : FA.2.length < 16777216) :
    ∃ M', dS cl nin42 (E42 R x1 rK c rF x5 s (some (.ref rA)) x8 x9 (some (lScene t)) x11 x12) M = some (.nx (E42 R x1 rK c rF x5 s (some (.ref rA)) x8 x9 (some (lScene t)) x11 x12), M') ∧ S4 M' rK rF rA K (ins s FA (e, t)) ∧ F3 rK rF rA M M' := by
  have hc := cmp_notinL (s := t) hS.f
  by_cases ht : t ∈ keys FA.1
  · have hm : decide (t ∈ FA.1.map (·.1)) = true := decide_eq_true ht
    rw [hm] at hc
    refine ⟨M, ?_, ?_, .refl⟩
    · simp [nin42, hc, -lScene_mk]
    · have hi : ins s FA (e, t) = FA := by unfold ins; rw [if_pos ht]
      rw [hi]; exact hS
  · have hm : decide (t ∈ FA.1.map (·.1)) = false := decide_eq_false ht
    rw [hm] at hc
    have hset := setD_L (some (s, e)) hS.f ht hf
    have n1 := hS.nFA
    have n2 := hS.nKA
    have n3 := hS.ne
    have lF : rF < M.length := (List.getElem?_eq_some_iff.mp hS.f).1
    have lA : rA < M.length := (List.getElem?_eq_some_iff.mp hS.a).1
    have hA' : (M.set rF (.dct false ((FA.1 ++ [(t, some (s, e))]).map lKv)))[rA]? = some (.lst (FA.2.map lScene)) := by rw [List.getElem?_set_ne n1]; exact hS.a
    obtain ⟨_, a1, a2⟩ := appM (a := lScene t) hA' (by simpa using ha)
    refine ⟨(M.set rF (.dct false ((FA.1 ++ [(t, some (s, e))]).map lKv))).set rA (.lst (FA.2.map lScene ++ [lScene t])), ?_, ?_, (F3.set (.inr (.inl rfl))).trans (F3.set (.inr (.inr rfl)))⟩
    · simp [nin42, hc, hset, a1, a2, -lScene_mk, -List.map_append]
    · have hi : ins s FA (e, t) = (FA.1 ++ [(t, some (s, e))], FA.2 ++ [t]) := by unfold ins; rw [if_neg ht]
      rw [hi]
      refine ⟨?_, ?_, ?_, n3⟩
      · rw [List.getElem?_set_ne (Ne.symm n2), List.getElem?_set_ne (Ne.symm n3)]; exact hS.k
      · rw [List.getElem?_set_ne (Ne.symm n1), List.getElem?_set_self lF]
      · rw [List.getElem?_set_self (by simpa using lA)]
        simp
/-- the harm is noted -/
theorem hit_ok (h41 : ∀ M, cl 41 [lScene s] M = some (lSt s, M)) {e : Ev} {t : Scene} {x7 x10 : Option D} {M : Sto} {K : KS} {FA : FS × List Scene} (hS : S4 M rK rF rA K FA) (ki : KI K) (nd : (kk K).Nodup) :
    ∃ y12 M' K', dS cl (.if_ hc42 hit42 .nil) (E42 R x1 rK c rF x5 s x7 x8 (some (wD (doer s e))) x10 (some (lSt t)) x12) M = some (.nx (E42 R x1 rK c rF x5 s x7 x8 (some (wD (doer s e))) x10 (some (lSt t)) y12), M') ∧ S4 M' rK rF rA K' FA ∧ F3 rK rF rA M M' ∧ KI K' ∧ (kk K').Nodup ∧ ∀ p, p ∈ kk K' ↔ p ∈ kk K ∨ pairOf s (e, t) = some p := by
  obtain ⟨g, hc⟩ := hc42_ok (R := R) (rK := rK) (c := c) (rF := rF) (x1 := x1) (x5 := x5) (x7 := x7) (x8 := x8) (x9 := some (wD (doer s e))) (x10 := x10) (x12 := x12) (cl := cl) h41 (t := t) (M := M)
  have pe : (pairOf s (.tick, t)).isSome = (pairOf s (e, t)).isSome := by
    unfold pairOf
    cases stat t with
    | none => rfl
    | some h => simp only []; split <;> rfl
  rw [pe] at hc
  rw [dS_if, sIf_e, hc, bnd_s]
  cases hp : pairOf s (e, t) with
  | none =>
    refine ⟨x12, M ++ g, K, by simp, hS.app, .app, ki, nd, fun p => by simp⟩
  | some p =>
    have hst : stat t = some p.1 ∧ doer s e = p.2 := by
      unfold pairOf at hp
      simp only [] at hp
      split at hp
      · rename_i h hh
        split at hp
        · cases hp
        · cases hp; exact ⟨hh, rfl⟩
      · cases hp
    obtain ⟨h, d⟩ := p
    obtain ⟨h1, h2⟩ := hst
    simp only [] at h1 h2
    rw [if_pos (by simp), lSt_some h1, h2]
    obtain ⟨g2, hg⟩ := get42_ok (R := R) (rK := rK) (c := c) (rF := rF) (s := s) (x1 := x1) (x5 := x5) (x7 := x7) (x8 := x8) (x10 := x10) (x11 := some (eHm h)) (x12 := x12) (cl := cl) (d := d) (M := M ++ g)
    have S2 := (hS.app (g := g)).app (g := g2)
    obtain ⟨K', k1, k2, k3, k4⟩ := sub42_ok (R := R) (c := c) (rF := rF) (s := s) (x1 := x1) (x5 := x5) (x7 := x7) (x8 := x8) (x9 := some (wD d)) (x10 := x10) (cl := cl) (h := h) (d := d) S2.k ki nd
    refine ⟨some (eDr d), (M ++ g ++ g2).set rK (.dct false (K'.map eK)), K', ?_, ?_, (F3.app.trans F3.app).trans (F3.set (.inl rfl)), k2, k3, fun p => by rw [k4]; simp⟩
    · rw [hit42, dSs_cons, sSeq_e, hg, seqK_nx, dSs_cons, sSeq_e, k1]
      rfl
    · refine ⟨List.getElem?_set_self (List.getElem?_eq_some_iff.mp S2.k).1, ?_, ?_, S2.ne⟩
      · rw [List.getElem?_set_ne S2.ne]; exact S2.f
      · rw [List.getElem?_set_ne S2.nKA]; exact S2.a
theorem ib42_ok (h41 : ∀ t, Good R t → ∀ M, cl 41 [lScene t] M = some (lSt t, M)) (hs : Good R s) {a : Rec} {e : Ev} {t : Scene} (ht : inLife R (e, t) = true → Good R t) (hw : evW a e = wD (doer s e)) {M : Sto} {K : KS} {FA : FS × List Scene} (hS : S4 M rK rF rA K FA) (ki : KI K) (nd : (kk K).Nodup) (hf : FA.1.length < 16777216) (ha : FA.2.length < 16777216) :
    ∃ y11 y12 M' K', dSs cl ib42 (E42 R x1 rK c rF x5 s (some (.ref rA)) x8 (some (evW a e)) (some (lScene t)) x11 x12) M = some (.nx (E42 R x1 rK c rF x5 s (some (.ref rA)) x8 (some (evW a e)) (some (lScene t)) y11 y12), M') ∧
      S4 M' rK rF rA K' (if inLife R (e, t) = true then ins s FA (e, t) else FA) ∧ F3 rK rF rA M M' ∧ KI K' ∧ (kk K').Nodup ∧ ∀ p, p ∈ kk K' ↔ p ∈ kk K ∨ (inLife R (e, t) = true ∧ pairOf s (e, t) = some p) := by
  have hl := lc42_ok (R := R) (rK := rK) (c := c) (rF := rF) (s := s) (x1 := x1) (x5 := x5) (x7 := some (.ref rA)) (x8 := x8) (x9 := some (evW a e)) (x11 := x11) (x12 := x12) (cl := cl) (e := e) (t := t) (M := M)
  rw [ib42, dSs_cons, sSeq_e, dS_if, sIf_e, hl, bnd_s]
  cases hi : inLife R (e, t) with
  | false =>
    refine ⟨x11, x12, M, K, by simp, by simpa using hS, .refl, ki, nd, fun p => by simp⟩
  | true =>
    rw [if_pos rfl]
    have h41t := h41 t (ht hi)
    have h41s := h41 s hs
    have a1 : dS cl as42 (E42 R x1 rK c rF x5 s (some (.ref rA)) x8 (some (evW a e)) (some (lScene t)) x11 x12) M = some (.nx (E42 R x1 rK c rF x5 s (some (.ref rA)) x8 (some (evW a e)) (some (lScene t)) (some (lSt t)) x12), M) := by
      simp [as42, h41t, -lScene_mk]
    rw [hw] at a1 ⊢
    obtain ⟨y12, M1, K1, b1, S1, f1, k1, k2, k3⟩ := hit_ok (R := R) (c := c) (s := s) (x1 := x1) (x5 := x5) (x7 := some (.ref rA)) (x8 := x8) (x10 := some (lScene t)) (x12 := x12) (cl := cl) h41s (e := e) (t := t) hS ki nd
    obtain ⟨M2, c1, S2, f2⟩ := nin42_ok (R := R) (c := c) (s := s) (x1 := x1) (x5 := x5) (x8 := x8) (x9 := some (wD (doer s e))) (x11 := some (lSt t)) (x12 := y12) (cl := cl) (e := e) (t := t) S1 hf ha
    refine ⟨some (lSt t), y12, M2, K1, ?_, by simpa using S2, f1.trans f2, k1, k2, fun p => by rw [k3]; simp⟩
    rw [dSs_cons, sSeq_e, a1, seqK_nx, dSs_cons, sSeq_e, b1, seqK_nx, dSs_cons, sSeq_e, c1]
    rfl
end
end NW11
end
/-! #### M41 -/
section
set_option Elab.async false
set_option linter.all false
set_option maxRecDepth 100000
set_option maxHeartbeats 8000000
namespace NW11
open RI PySem
def tp42 : IT := (.tp (.cons (.nm 8) (.cons (.nm 9) (.cons (.nm 10) .nil))))
def fb42 : ISs := (.cons (.for_ (.src (.call 40 (.cons (.var 0) (.cons (.var 6) .nil)))) tp42 ib42) .nil)
def wb42 : ISs := (.cons (.par2 7 3 (.cons (.lst .nil) (.cons (.bin .Add (.var 3) (.cst (.int 1))) .nil))) (.cons (.forV 5 (.nm 6) fb42) (.cons (.asg (.nm 5) (.var 7)) .nil)))
def wc42 : IE := (.cmp .NotEq (.var 5) (.lst .nil))
section
variable {R : Rule} {cl : Nat → FN} {rK rF rA : Nat} {F0 : FS} {x1 : Option D}
theorem in42_all (hR : ROk R) (h41 : ∀ t, Good R t → ∀ M, cl 41 [lScene t] M = some (lSt t, M)) {s : Scene} {low : List Rec} {a : Rec} (ho : SOk R s low a) (hs : Good R s) {rs : Nat} {L0 : List D} (h1 : rs ≠ rK) (h2 : rs ≠ rF) (h3 : rs ≠ rA) {c : Int} {x5 : Option D} :
    ∀ (L : List (Ev × Scene)) {K : KS} {FA : FS × List Scene} {M : Sto} {x8 x9 x10 x11 x12 : Option D}, BI R FA.1 → AI F0 FA → s ∈ keys FA.1 → (∀ x ∈ L, x ∈ steps0 R s low a) → S4 M rK rF rA K FA → KI K → (kk K).Nodup → M[rs]? = some (.lst L0) →
    ∃ y8 y9 y10 y11 y12 M' K', forF tp42 (dSs cl ib42) [(rs, .lst L0)] (L.map (lPr a)) (E42 R x1 rK c rF x5 s (some (.ref rA)) x8 x9 x10 x11 x12) M = some (.nx (E42 R x1 rK c rF x5 s (some (.ref rA)) y8 y9 y10 y11 y12), M') ∧
      S4 M' rK rF rA K' (insAll s FA (L.filter (inLife R))) ∧ F3 rK rF rA M M' ∧ BI R (insAll s FA (L.filter (inLife R))).1 ∧ AI F0 (insAll s FA (L.filter (inLife R))) ∧ KI K' ∧ (kk K').Nodup ∧ ∀ p, p ∈ kk K' ↔ p ∈ kk K ∨ ∃ x ∈ L.filter (inLife R), pairOf s x = some p
  | [], K, FA, M, x8, x9, x10, x11, x12, hB, hA, hk, hL, hS, ki, nd, hM => ⟨x8, x9, x10, x11, x12, M, K, by rw [List.map_nil, forF_nilG (by simp [gdB, hM])], hS, .refl, hB, hA, ki, nd, fun p => by simp⟩
  | (e, t) :: L, K, FA, M, x8, x9, x10, x11, x12, hB, hA, hk, hL, hS, ki, nd, hM => by
    have hg : gdB [(rs, MO.lst L0)] M = true := by simp [gdB, hM]
    rw [List.map_cons, forF_consG hg]
    have hd : dT tp42 (lPr a (e, t)) (E42 R x1 rK c rF x5 s (some (.ref rA)) x8 x9 x10 x11 x12) = some (E42 R x1 rK c rF x5 s (some (.ref rA)) (some (evN e)) (some (evW a e)) (some (lScene t)) x11 x12) := by simp [lPr, tp42, -lScene_mk]
    rw [hd, dtK_s]
    have hx0 : (e, t) ∈ steps0 R s low a := hL _ (by simp)
    have hx : inLife R (e, t) = true → (e, t) ∈ stepsOf R s := fun hi => by
      rw [stepsOf_eq ho]
      exact List.mem_filter.mpr ⟨hx0, hi⟩
    have fw := hB.few hR
    have fa : FA.2.length < 16777216 := by have := hA.len; omega
    obtain ⟨y11, y12, M1, K1, e1, S1, f1, k1, k2, k3⟩ := ib42_ok (R := R) (cl := cl) (c := c) (x1 := x1) (x5 := x5) (x8 := some (evN e)) (x11 := x11) (x12 := x12) h41 hs (a := a) (e := e) (t := t) (fun hi => (step_good hR hs (hx hi)).1) (evW_ok ho hx0) hS ki nd (by omega) fa
    rw [e1, lpK_nx]
    have hB1 : BI R (if inLife R (e, t) = true then ins s FA (e, t) else FA).1 := by
      split
      · rename_i hi; exact hB.ins hk (hx hi)
      · exact hB
    have hA1 : AI F0 (if inLife R (e, t) = true then ins s FA (e, t) else FA) := by
      split
      · exact hA.ins s (e, t)
      · exact hA
    have hk1 : s ∈ keys (if inLife R (e, t) = true then ins s FA (e, t) else FA).1 := by
      split
      · exact ins_keys hk
      · exact hk
    obtain ⟨y8, y9, y10, z11, z12, M2, K2, e2, S2, f2, B2, A2, q1, q2, q3⟩ := in42_all hR h41 ho hs h1 h2 h3 (c := c) (x5 := x5) L (x8 := some (evN e)) (x9 := some (evW a e)) (x10 := some (lScene t)) (x11 := y11) (x12 := y12) hB1 hA1 hk1 (fun x hx => hL x (by simp [hx])) S1 k1 k2 (f1 _ _ h1 h2 h3 hM)
    have ef : insAll s FA (((e, t) :: L).filter (inLife R)) = insAll s (if inLife R (e, t) = true then ins s FA (e, t) else FA) (L.filter (inLife R)) := by
      cases hi : inLife R (e, t) with
      | true => rw [List.filter_cons_of_pos hi]; rfl
      | false => rw [List.filter_cons_of_neg (by rw [hi]; simp)]; rfl
    rw [ef]
    refine ⟨y8, y9, y10, z11, z12, M2, K2, e2, S2, f1.trans f2, B2, A2, q1, q2, fun p => ?_⟩
    rw [q3 p, k3 p]
    constructor
    · rintro ((h | ⟨hi, h⟩) | ⟨x, g1, g2⟩)
      · exact .inl h
      · exact .inr ⟨(e, t), List.mem_filter.mpr ⟨by simp, hi⟩, h⟩
      · obtain ⟨g3, g4⟩ := List.mem_filter.mp g1
        exact .inr ⟨x, List.mem_filter.mpr ⟨by simp [g3], g4⟩, g2⟩
    · rintro (h | ⟨x, g1, g2⟩)
      · exact .inl (.inl h)
      · obtain ⟨g3, g4⟩ := List.mem_filter.mp g1
        rcases List.mem_cons.mp g3 with z | z
        · subst z
          exact .inl (.inr ⟨g4, g2⟩)
        · exact .inr ⟨x, List.mem_filter.mpr ⟨z, g4⟩, g2⟩
/-- the law's moves, as called -/
def H40 (R : Rule) (cl : Nat → FN) : Prop := ∀ s low a, SOk R s low a → ∀ M, ∃ r g, cl 40 [eRule R, lScene s] M = some (.ref r, M ++ g) ∧ M.length ≤ r ∧ (M ++ g)[r]? = some (.lst ((steps0 R s low a).map (lPr a)))
theorem fb42_ok (hR : ROk R) (h40 : H40 R cl) (h41 : ∀ t, Good R t → ∀ M, cl 41 [lScene t] M = some (lSt t, M)) {s : Scene} {c : Int} {x5 x8 x9 x10 x11 x12 : Option D} {K : KS} {FA : FS × List Scene} {M : Sto} (hB : BI R FA.1) (hA : AI F0 FA) (hk : s ∈ keys FA.1) (hS : S4 M rK rF rA K FA) (ki : KI K) (nd : (kk K).Nodup) :
    ∃ y8 y9 y10 y11 y12 M' K', dSs cl fb42 (E42 R x1 rK c rF x5 s (some (.ref rA)) x8 x9 x10 x11 x12) M = some (.nx (E42 R x1 rK c rF x5 s (some (.ref rA)) y8 y9 y10 y11 y12), M') ∧
      S4 M' rK rF rA K' (insAll s FA (stepsOf R s)) ∧ F3 rK rF rA M M' ∧ BI R (insAll s FA (stepsOf R s)).1 ∧ AI F0 (insAll s FA (stepsOf R s)) ∧ KI K' ∧ (kk K').Nodup ∧ ∀ p, p ∈ kk K' ↔ p ∈ kk K ∨ ∃ x ∈ stepsOf R s, pairOf s x = some p := by
  have hs := reach_good hR (hB.re s hk)
  obtain ⟨⟨low, a, ho⟩, _⟩ := id hs
  obtain ⟨r, g, h1, hr, h2⟩ := h40 s low a ho M
  have lK : rK < M.length := (List.getElem?_eq_some_iff.mp hS.k).1
  have lF : rF < M.length := (List.getElem?_eq_some_iff.mp hS.f).1
  have lA : rA < M.length := (List.getElem?_eq_some_iff.mp hS.a).1
  obtain ⟨y8, y9, y10, y11, y12, M', K', e2, S2, f2, B2, A2, q1, q2, q3⟩ := in42_all (x1 := x1) (F0 := F0) (rK := rK) (rF := rF) (rA := rA) hR h41 ho hs (rs := r) (L0 := (steps0 R s low a).map (lPr a)) (by omega) (by omega) (by omega) (c := c) (x5 := x5) (steps0 R s low a) (x8 := x8) (x9 := x9) (x10 := x10) (x11 := x11) (x12 := x12) hB hA hk (fun x hx => hx) (hS.app (g := g)) ki nd h2
  have ef : (steps0 R s low a).filter (inLife R) = stepsOf R s := by rw [stepsOf_eq ho]; rfl
  rw [ef] at S2 B2 A2 q3
  refine ⟨y8, y9, y10, y11, y12, M', K', ?_, S2, F3.app.trans f2, B2, A2, q1, q2, q3⟩
  generalize hb : dSs cl ib42 = body at e2
  have hsrc : srcOf (M ++ g) (.ref r) = some ([(r, .lst ((steps0 R s low a).map (lPr a)))], (steps0 R s low a).map (lPr a)) := by simp [srcOf, h2]
  rw [fb42, dSs_cons, dS_for, hb]
  simp [h1, hsrc, e2, -lScene_mk]
theorem line42 (hR : ROk R) (h40 : H40 R cl) (h41 : ∀ t, Good R t → ∀ M, cl 41 [lScene t] M = some (lSt t, M)) {rL : Nat} {L0 : List D} (h1 : rL ≠ rK) (h2 : rL ≠ rF) (h3 : rL ≠ rA) {c : Int} {x5 : Option D} :
    ∀ (l : List Scene) {K : KS} {FA : FS × List Scene} {M : Sto} {x6 x8 x9 x10 x11 x12 : Option D}, BI R FA.1 → AI F0 FA → (∀ s ∈ l, s ∈ keys FA.1) → S4 M rK rF rA K FA → KI K → (kk K).Nodup → M[rL]? = some (.lst L0) →
    ∃ y6 y8 y9 y10 y11 y12 M' K', forF (.nm 6) (dSs cl fb42) [(rL, .lst L0)] (l.map lScene) [some (eRule R), x1, some (.ref rK), some (.int c), some (.ref rF), x5, x6, some (.ref rA), x8, x9, x10, x11, x12] M = some (.nx [some (eRule R), x1, some (.ref rK), some (.int c), some (.ref rF), x5, y6, some (.ref rA), y8, y9, y10, y11, y12], M') ∧
      S4 M' rK rF rA K' (roundAll R FA l) ∧ F3 rK rF rA M M' ∧ BI R (roundAll R FA l).1 ∧ AI F0 (roundAll R FA l) ∧ KI K' ∧ (kk K').Nodup ∧ ∀ p, p ∈ kk K' ↔ p ∈ kk K ∨ ∃ s ∈ l, ∃ x ∈ stepsOf R s, pairOf s x = some p
  | [], K, FA, M, x6, x8, x9, x10, x11, x12, hB, hA, hk, hS, ki, nd, hM => ⟨x6, x8, x9, x10, x11, x12, M, K, by rw [List.map_nil, forF_nilG (by simp [gdB, hM])], hS, .refl, hB, hA, ki, nd, fun p => by simp⟩
  | s :: l, K, FA, M, x6, x8, x9, x10, x11, x12, hB, hA, hk, hS, ki, nd, hM => by
    have hg : gdB [(rL, MO.lst L0)] M = true := by simp [gdB, hM]
    rw [List.map_cons, forF_consG hg, dT_nm]
    simp only [dtK_s, List.set_cons_succ, List.set_cons_zero]
    obtain ⟨y8, y9, y10, y11, y12, M1, K1, e1, S1, f1, B1, A1, k1, k2, k3⟩ := fb42_ok (x1 := x1) hR h40 h41 (s := s) (c := c) (x5 := x5) (x8 := x8) (x9 := x9) (x10 := x10) (x11 := x11) (x12 := x12) hB hA (hk s (by simp)) hS ki nd
    rw [e1, lpK_nx]
    obtain ⟨z6, z8, z9, z10, z11, z12, M2, K2, e2, S2, f2, B2, A2, q1, q2, q3⟩ := line42 hR h40 h41 h1 h2 h3 (c := c) (x5 := x5) l (x6 := some (lScene s)) (x8 := y8) (x9 := y9) (x10 := y10) (x11 := y11) (x12 := y12) B1 A1 (fun t ht => insAll_keys (hk t (by simp [ht]))) S1 k1 k2 (f1 _ _ h1 h2 h3 hM)
    refine ⟨z6, z8, z9, z10, z11, z12, M2, K2, e2, S2, f1.trans f2, B2, A2, q1, q2, fun p => ?_⟩
    rw [q3 p, k3 p]
    constructor
    · rintro ((h | ⟨x, g1, g2⟩) | ⟨t, ht, x, g1, g2⟩)
      · exact .inl h
      · exact .inr ⟨s, by simp, x, g1, g2⟩
      · exact .inr ⟨t, by simp [ht], x, g1, g2⟩
    · rintro (h | ⟨t, ht, x, g1, g2⟩)
      · exact .inl (.inl h)
      · rcases List.mem_cons.mp ht with z | z
        · subst z
          exact .inl (.inr ⟨x, g1, g2⟩)
        · exact .inr ⟨t, z, x, g1, g2⟩
theorem F3.kp {n : Nat} {M M' : Sto} (h : F3 rK rF rA M M') (h1 : n ≤ rK) (h2 : n ≤ rF) (h3 : n ≤ rA) : Kp n M M' := fun i o hi e => h i o (by omega) (by omega) (by omega) e
theorem cond42 {M : Sto} {rL : Nat} {l : List Scene} {x2 x3 x4 x6 x7 x8 x9 x10 x11 x12 : Option D} (hL : M[rL]? = some (.lst (l.map lScene))) :
    bOf (dE cl wc42) [some (eRule R), x1, x2, x3, x4, some (.ref rL), x6, x7, x8, x9, x10, x11, x12] M = some (!l.isEmpty, M ++ [.lst []]) := by
  have lL : rL < M.length := (List.getElem?_eq_some_iff.mp hL).1
  have hL' : (M ++ [MO.lst []])[rL]? = some (.lst (l.map lScene)) := by rw [List.getElem?_append_left lL]; exact hL
  have e : eqD (.ref rL) (.ref M.length) (M ++ [.lst []]) = some l.isEmpty := by
    unfold eqD eqF
    have r1 : refL (M ++ [.lst []]) (.ref rL) = some (rL, l.map lScene) := by simp [refL, hL']
    have r2 : refL (M ++ [.lst []]) (.ref M.length) = some (M.length, []) := by simp [refL]
    rw [r1, r2]
    simp only []
    rw [if_neg (by omega)]
    cases l with
    | nil => rfl
    | cons s l => rfl
  simp [wc42, e]
/-- the harms noted are some that come about; those of the scenes behind the line are all noted -/
structure KInv (R : Rule) (K : KS) (F : FS) (l : List Scene) : Prop where
  so : ∀ p ∈ kk K, HP R p
  co : ∀ s ∈ keys F, s ∈ l ∨ ∀ x ∈ stepsOf R s, ∀ p, pairOf s x = some p → p ∈ kk K
  ki : KI K
  nd : (kk K).Nodup
theorem while42 (hR : ROk R) (h40 : H40 R cl) (h41 : ∀ t, Good R t → ∀ M, cl 41 [lScene t] M = some (lSt t, M)) {m : Nat} (hK : m ≤ rK) (hm : m ≤ rF) (hne : rK ≠ rF) : ∀ (n : Nat) {K : KS} {F : FS} {l : List Scene} {M : Sto} {rL : Nat} {c : Int} {x6 x7 x8 x9 x10 x11 x12 : Option D}, BI R F → Clo R F l → KInv R K F l → (∀ s ∈ l, s ∈ keys F) →
    M[rK]? = some (.dct false (K.map eK)) → M[rF]? = some (.dct false (F.map lKv)) → M[rL]? = some (.lst (l.map lScene)) → 1 ≤ n → (l ≠ [] → 937442 ≤ n + F.length) →
    ∃ F' K' y3 y5 y6 y7 y8 y9 y10 y11 y12 M', whileF (dE cl wc42) (dSs cl wb42) n [some (eRule R), x1, some (.ref rK), some (.int c), some (.ref rF), some (.ref rL), x6, x7, x8, x9, x10, x11, x12] M = some (.nx [some (eRule R), x1, some (.ref rK), y3, some (.ref rF), y5, y6, y7, y8, y9, y10, y11, y12], M') ∧
      BI R F' ∧ Clo R F' [] ∧ KInv R K' F' [] ∧ M'[rK]? = some (.dct false (K'.map eK)) ∧ Kp m M M'
  | 0, K, F, l, M, rL, c, x6, x7, x8, x9, x10, x11, x12, hB, hC, hI, hl, hMK, hF, hL, hn, hf => by omega
  | n + 1, K, F, l, M, rL, c, x6, x7, x8, x9, x10, x11, x12, hB, hC, hI, hl, hMK, hF, hL, hn, hf => by
    have hc := cond42 (R := R) (cl := cl) (x1 := x1) (x2 := some (.ref rK)) (x3 := some (.int c)) (x4 := some (.ref rF)) (x6 := x6) (x7 := x7) (x8 := x8) (x9 := x9) (x10 := x10) (x11 := x11) (x12 := x12) hL
    have lK : rK < M.length := (List.getElem?_eq_some_iff.mp hMK).1
    have lF : rF < M.length := (List.getElem?_eq_some_iff.mp hF).1
    have lL : rL < M.length := (List.getElem?_eq_some_iff.mp hL).1
    have nLK : rL ≠ rK := fun e => by rw [e, hMK] at hL; cases hL
    have nLF : rL ≠ rF := fun e => by rw [e, hF] at hL; cases hL
    rw [whileF, hc, bnd_s]
    cases hle : l.isEmpty with
    | true =>
      have e : l = [] := List.isEmpty_iff.mp hle
      subst e
      rw [if_neg (by simp)]
      exact ⟨F, K, _, _, _, _, _, _, _, _, _, _, rfl, hB, hC, hI, by rw [List.getElem?_append_left lK]; exact hMK, .app⟩
    | false =>
      have hlne : l ≠ [] := fun e => by rw [e] at hle; simp at hle
      have h0 := hf hlne
      rw [if_pos (by simp)]
      -- a round
      have up : ∀ (i : Nat) (o : MO), M[i]? = some o → (M ++ [MO.lst []] ++ [MO.lst []])[i]? = some o := fun i o h => by rw [List.append_assoc, List.getElem?_append_left (List.getElem?_eq_some_iff.mp h).1]; exact h
      have hS : S4 (M ++ [MO.lst []] ++ [MO.lst []]) rK rF (M ++ [MO.lst []]).length K (F, []) := ⟨up _ _ hMK, up _ _ hF, List.getElem?_concat_length, hne⟩
      have hA : AI F (F, ([] : List Scene)) := ⟨fun z h => h, fun z h => .inl h, fun z h => by simp at h, by simp⟩
      have hlen : (M ++ [MO.lst []]).length = M.length + 1 := by simp
      obtain ⟨z6, z8, z9, z10, z11, z12, M3, K3, e3, S3, fr3, B3, A3, k1, k2, k3⟩ := line42 (cl := cl) (F0 := F) (x1 := x1) hR h40 h41 (L0 := l.map lScene) (rA := (M ++ [MO.lst []]).length) nLK nLF (by rw [hlen]; omega) (c := c + 1) (x5 := some (.ref rL)) l (x6 := x6) (x8 := x8) (x9 := x9) (x10 := x10) (x11 := x11) (x12 := x12) hB hA hl hS hI.ki hI.nd (up _ _ hL)
      have hbody : dSs cl wb42 [some (eRule R), x1, some (.ref rK), some (.int c), some (.ref rF), some (.ref rL), x6, x7, x8, x9, x10, x11, x12] (M ++ [MO.lst []]) = some (.nx [some (eRule R), x1, some (.ref rK), some (.int (c + 1)), some (.ref rF), some (.ref (M ++ [MO.lst []]).length), z6, some (.ref (M ++ [MO.lst []]).length), z8, z9, z10, z11, z12], M3) := by
        generalize hb : dSs cl fb42 = body at e3
        rw [wb42, dSs_cons, dSs_cons, dSs_cons, dS_forV, hb, dSs_nil, sSeq_e]
        have s1 : dS cl (.par2 7 3 (.cons (.lst .nil) (.cons (.bin .Add (.var 3) (.cst (.int 1))) .nil))) [some (eRule R), x1, some (.ref rK), some (.int c), some (.ref rF), some (.ref rL), x6, x7, x8, x9, x10, x11, x12] (M ++ [MO.lst []]) = some (.nx [some (eRule R), x1, some (.ref rK), some (.int (c + 1)), some (.ref rF), some (.ref rL), x6, some (.ref (M ++ [MO.lst []]).length), x8, x9, x10, x11, x12], M ++ [MO.lst []] ++ [MO.lst []]) := by
          have ha : ∀ M, binD .Add (.int c) (.int 1) M = some (.int (c + 1), M) := fun M => rfl
          simp [ha]
        rw [s1, seqK_nx, sSeq_e, sForV_l (xs := l.map lScene) (r := rL) rfl (up _ _ hL), e3, seqK_nx, sSeq_e]
        simp
      rw [hbody]
      show ∃ F' K' y3 y5 y6 y7 y8 y9 y10 y11 y12 M', whileF (dE cl wc42) (dSs cl wb42) n _ M3 = _ ∧ _
      have hI' : KInv R K3 (roundAll R (F, []) l).1 (roundAll R (F, []) l).2 := by
        refine ⟨fun p hp => ?_, fun s hs => ?_, k1, k2⟩
        · rcases (k3 p).mp hp with h | ⟨s, hs, x, g1, g2⟩
          · exact hI.so p h
          · exact ⟨s, hB.re s (hl s hs), x, g1, g2⟩
        · rcases A3.new s hs with q | q
          · right
            intro x hx p hp
            rcases hI.co s q with w | w
            · exact (k3 p).mpr (.inr ⟨s, w, x, hx, hp⟩)
            · exact (k3 p).mpr (.inl (w x hx p hp))
          · exact .inl q
      obtain ⟨F', K', y3, y5, y6, y7, y8, y9, y10, y11, y12, M', e4, B4, C4, I4, f4, k4⟩ := while42 hR h40 h41 hK hm hne n (K := K3) (F := (roundAll R (F, []) l).1) (l := (roundAll R (F, []) l).2) (M := M3) (rL := (M ++ [MO.lst []]).length) (c := c + 1) (x6 := z6) (x7 := some (.ref (M ++ [MO.lst []]).length)) (x8 := z8) (x9 := z9) (x10 := z10) (x11 := z11) (x12 := z12) B3
        (fun s hs => by
          rcases A3.new s hs with q | q
          · right
            rcases hC s q with w | w
            · exact fun x hx => round_all w hx
            · exact fun x hx => round_keys (w x hx)
          · exact .inl q)
        hI' A3.sub S3.k S3.f S3.a
        (by have := hB.few hR; omega)
        (fun hne => by
          have h5 := A3.len
          have : 0 < (roundAll R (F, []) l).2.length := List.length_pos_iff.mpr hne
          omega)
      exact ⟨F', K', y3, y5, y6, y7, y8, y9, y10, y11, y12, M', e4, B4, C4, I4, f4, (Kp.app.trans (Kp.app.trans (fr3.kp hK hm (by rw [hlen]; omega)))).trans k4⟩
end
end NW11
end
/-! #### M42 -/
section
set_option Elab.async false
set_option linter.all false
set_option maxRecDepth 100000
set_option maxHeartbeats 8000000
namespace NW11
open RI PySem
def p3_42 : IS := (.par3 1 2 3 (.cons (.tup (.cons (.cst (.int 0)) (.cons (.tup (.cons (.tup (.cons (.cst (.str [120])) (.cons (.cst (.str [120])) (.cons (.cst (.int 0)) (.cons (.cst (.int 0)) (.cons (.cst (.str [110, 111, 110, 101])) .nil)))))) .nil)) (.cons (.cst (.int 0)) .nil)))) (.cons .dne (.cons (.cst (.int 2)) .nil))))
def p2_42 : IS := (.par2 4 5 (.cons (.dt1 (.var 1) (.cst (.bl true))) (.cons (.lst (.cons (.var 1) .nil)) .nil)))
theorem ir_42_eq : ir_42 = (.cons p3_42 (.cons p2_42 (.cons (.while_ wc42 wb42) (.cons (.ret (.var 2)) .nil)))) := rfl
theorem lfirst : lScene first = .tup [.int 0, .tup [.tup [.str [120], .str [120], .int 0, .int 0, .str [110, 111, 110, 101]]], .int 0] := rfl
theorem q_threats (R : Rule) (hR : ROk R) (k : Nat) (M : Sto) : ∃ K r M', run defs (k + 4) 42 [eRule R] M = some (.ref r, M') ∧ M.length ≤ r ∧ M'[r]? = some (.dct false (K.map eK)) ∧ (∀ p, p ∈ kk K ↔ HP R p) ∧ Kp M.length M M' := by
  have h40 : H40 R (run defs (k + 3)) := by
    intro s low a ho M
    obtain ⟨g1, g2, h⟩ := q_moves R s a low ho.low' ho.rows hR.h1 hR.m0 k M
    refine ⟨(M ++ g1).length, g1 ++ .lst ((steps0 R s low a).map (lPr a)) :: g2, by rw [h, List.append_assoc], by simp, ?_⟩
    rw [← List.append_assoc, List.getElem?_append_right (Nat.le_refl _)]
    simp
  have h41 : ∀ t, Good R t → ∀ M, run defs (k + 3) 41 [lScene t] M = some (lSt t, M) := by
    intro t ⟨⟨low, a, ho⟩, _⟩ M
    exact q_stat t (by rw [ho.rows]; rcases ho.low' with e | ⟨b, e⟩ <;> subst e <;> first | exact .inl ⟨_, rfl⟩ | exact .inr ⟨_, _, rfl⟩) (k + 2) M
  rw [run_e (f := fd_42) (env := [some (eRule R), none, none, none, none, none, none, none, none, none, none, none, none]) rfl rfl rfl]
  show ∃ K r M', retK (dSs _ ir_42 _ _) = _ ∧ _
  rw [ir_42_eq]
  generalize RI.run defs (k + 3) = cl at h40 h41
  have e1 : dS cl p3_42 [some (eRule R), none, none, none, none, none, none, none, none, none, none, none, none] M = some (.nx [some (eRule R), some (lScene first), some (.ref M.length), some (.int 2), none, none, none, none, none, none, none, none, none], M ++ [.dct false []]) := by
    have e0 : dL cl (.cons (.tup (.cons (.cst (.int 0)) (.cons (.tup (.cons (.tup (.cons (.cst (.str [120])) (.cons (.cst (.str [120])) (.cons (.cst (.int 0)) (.cons (.cst (.int 0)) (.cons (.cst (.str [110, 111, 110, 101])) .nil)))))) .nil)) (.cons (.cst (.int 0)) .nil)))) (.cons .dne (.cons (.cst (.int 2)) .nil))) [some (eRule R), none, none, none, none, none, none, none, none, none, none, none, none] M = some ([lScene first, .ref M.length, .int 2], M ++ [.dct false []]) := by
      have e0 : ∀ env, eDne env M = some (.ref M.length, M ++ [.dct false []]) := fun _ => rfl
      rw [lfirst]
      simp [e0]
    rw [p3_42, dS_par3]
    show bnd (dL cl _ _ _) _ = _
    rw [e0]
    rfl
  have hlen : (M ++ [MO.dct false []]).length = M.length + 1 := by simp
  generalize hM1 : M ++ [MO.dct false []] = M1 at e1 hlen
  have hput : putT M1.length (lScene first) (.bl true) (M1 ++ [.dct false []]) = some (.ref M1.length, M1 ++ [.dct false ([(first, none)].map lKv)]) := by
    unfold putT
    rw [List.getElem?_concat_length]
    show (match lScene first, keyOf (lScene first) with | .tup _, some nk => _ | _, _ => none) = _
    rw [key_lscene]
    show (if (jScene first).depth ≤ 8 ∧ (0 : Nat) < SL then some _ else none) = _
    rw [if_pos ⟨dep_lscene first, by decide⟩, set_last]
    rfl
  have e2 : dS cl p2_42 [some (eRule R), some (lScene first), some (.ref M.length), some (.int 2), none, none, none, none, none, none, none, none, none] M1 =
      some (.nx [some (eRule R), some (lScene first), some (.ref M.length), some (.int 2), some (.ref M1.length), some (.ref (M1.length + 1)), none, none, none, none, none, none, none], M1 ++ [.dct false ([(first, none)].map lKv)] ++ [.lst ([first].map lScene)]) := by
    have e3 : eDp1 (eVar 1) (eCst (.bl true)) [some (eRule R), some (lScene first), some (.ref M.length), some (.int 2), none, none, none, none, none, none, none, none, none] M1 = some (.ref M1.length, M1 ++ [.dct false ([(first, none)].map lKv)]) := by
      show bnd (eVar 1 _ (M1 ++ [.dct false []])) _ = _
      simp only [eVar_e, List.getElem?_cons_succ, List.getElem?_cons_zero, getK_s, bnd_s, eCst_e, hput]
    simp only [p2_42, dS_par2, dL_cons, dL_nil, dE_dt1, dE_var, dE_cst, dE_lst, sPar2_e, aCons_e, e3, bnd_s, aNil_e, eLst_e]
    simp [-lScene_mk]
  rw [dSs_cons, sSeq_e, e1, seqK_nx, dSs_cons, sSeq_e, e2, seqK_nx, dSs_cons, sSeq_e, dS_while]
  have hK0 : M1[M.length]? = some (.dct false (([] : KS).map eK)) := by rw [← hM1]; exact List.getElem?_concat_length
  have hK : (M1 ++ [MO.dct false ([(first, none)].map lKv)] ++ [.lst ([first].map lScene)])[M.length]? = some (.dct false (([] : KS).map eK)) := by
    rw [List.append_assoc, List.getElem?_append_left (by omega)]; exact hK0
  have hF : (M1 ++ [MO.dct false ([(first, none)].map lKv)] ++ [.lst ([first].map lScene)])[M1.length]? = some (.dct false (([(first, none)] : FS).map lKv)) := by simp
  have hL : (M1 ++ [MO.dct false ([(first, none)].map lKv)] ++ [.lst ([first].map lScene)])[M1.length + 1]? = some (.lst ([first].map lScene)) := by simp
  obtain ⟨F', K', y3, y5, y6, y7, y8, y9, y10, y11, y12, M', e4, B4, C4, I4, f4, k4⟩ := while42 (cl := cl) (rK := M.length) (rF := M1.length) (x1 := some (lScene first)) hR h40 h41 (m := M.length) (Nat.le_refl _) (by omega) (by omega) WF (K := []) (F := [(first, none)]) (l := [first]) (rL := M1.length + 1) (c := 2) (x6 := none) (x7 := none) (x8 := none) (x9 := none) (x10 := none) (x11 := none) (x12 := none) first_bi
    (fun s hs => .inl (by simpa [keys] using hs))
    ⟨fun p hp => by simp [kk] at hp, fun s hs => .inl (by simpa [keys] using hs), fun p hp => by simp at hp, by simp [kk]⟩
    (fun s hs => by simpa [keys] using hs) hK hF hL (by unfold WF; omega) (fun _ => by unfold WF; simp)
  rw [e4, seqK_nx]
  refine ⟨K', M.length, M', by simp, Nat.le_refl _, f4, fun p => ⟨I4.so p, ?_⟩, ?_⟩
  · rintro ⟨s, hs, x, g1, g2⟩
    rcases I4.co s ((keys_reach B4 C4).mpr hs) with z | z
    · simp at z
    · exact z x g1 p g2
  · refine Kp.trans ?_ k4
    rw [← hM1, List.append_assoc, List.append_assoc]
    exact Kp.app
theorem q_barred (R : Rule) (hR : ROk R) (p : HD) (k : Nat) (M : Sto) : ∃ M', run defs (k + 5) 43 [eRule R, eHD p] M = some (.bl (barred R p), M') ∧ Kp M.length M M' := by
  obtain ⟨K, r, M', h42, hr, hK, hp, hkp⟩ := q_threats R hR k M
  rw [run_e (f := fd_43) (env := [some (eRule R), some (eHD p)]) rfl rfl rfl]
  generalize RI.run defs (k + 4) = cl at h42
  have hni := notin_K (s := p) hK
  have e : decide (p ∈ kk K) = (@decide (HP R p) (Classical.propDecidable _)) := by
    by_cases q : HP R p
    · rw [decide_eq_true ((hp _).mpr q)]
      simp [q]
    · rw [decide_eq_false (fun z => q ((hp _).mp z))]
      simp [q]
  rw [e] at hni
  refine ⟨M', ?_, hkp⟩
  show retK (dSs cl ir_43 _ _) = _
  simp [ir_43, h42, hni, barred]
end NW11
end
/-! #### M43 -/
section
set_option Elab.async false
set_option linter.all false
set_option maxRecDepth 100000
set_option maxHeartbeats 8000000
namespace NW11
open RI PySem
/-! ### the draws -/
theorem ixN {M : Sto} {r : Nat} {xs : List D} {n : Nat} {a : D} (h : M[r]? = some (.lst xs)) (ha : xs[n]? = some a) : ixD (.ref r) (.int (n : Nat)) M = some (a, M) := by
  have hl := (List.getElem?_eq_some_iff.mp ha).1
  have hs : seqOf M (.ref r) = some xs := by
    show lstOf M (.ref r) = _
    unfold lstOf; simp only [h]
  unfold ixD
  rw [hs]
  show (L2.atI xs (n : Nat)).map _ = _
  unfold L2.atI L2.ixN
  rw [if_pos (Int.natCast_nonneg n), if_pos (by omega)]
  simp [ha]
theorem bin_mul {a b : Int} {M : Sto} : binD .Mult (.int a) (.int b) M = if (-(2 ^ 64) < a ∧ a < 2 ^ 64) ∨ (-(2 ^ 64) < b ∧ b < 2 ^ 64) then some (.int (a * b), M) else none := rfl
theorem bin_mod {a b : Int} {M : Sto} : binD .Mod (.int a) (.int b) M = if 0 < b then some (.int (a % b), M) else none := rfl
theorem bin_div {a b : Int} {M : Sto} : binD .FloorDiv (.int a) (.int b) M = if 0 < b ∧ b < 1073741824 then some (.int (a / b), M) else none := rfl
theorem bin_pow {a b : Int} {M : Sto} : binD .Pow (.int a) (.int b) M = if 0 ≤ b ∧ b ≤ 1000000 ∧ a.natAbs < 2 ^ 64 then some (.int (a ^ b.toNat), M) else none := rfl
theorem q_bag (ns : List Int) (j : Nat) (k : Nat) (M : Sto) : ∃ c m : Int, 0 ≤ c ∧ 0 ≤ m ∧ m < 998244353 ∧ run defs (k + 1) 29 [.rol (ns.map .int), .int (j : Nat)] M = some (.ref M.length, M ++ [.lst [.int c, .int m, .int 0]]) := by
  rw [run_e (f := fd_29) (env := [some (.rol (ns.map .int)), some (.int (j : Nat)), none, none]) rfl rfl rfl]
  generalize RI.run defs k = cl
  have main : ∀ c : Int, 0 ≤ c → retK (dSs cl (.cons (.asg (.nm 3) (.bin .Mod (.bi .int (.cons (.bin .Add (.bin .Add (.var 2) (.bin .Mult (.cst (.int 977)) (.var 1))) (.cst (.int 11))) .nil)) (.cst (.int 998244353))))
      (.cons (.ret (.lst (.cons (.ite (.cmp .GtE (.var 2) (.bin .Pow (.cst (.int 10)) (.cst (.int 18)))) (.var 2) (.cst (.int 0))) (.cons (.var 3) (.cons (.cst (.int 0)) .nil))))) .nil)) [some (.rol (ns.map .int)), some (.int (j : Nat)), some (.int c), none] M) =
      some (.ref M.length, M ++ [.lst [.int (if 1000000000000000000 ≤ c then c else 0), .int ((c + 977 * (j : Nat) + 11) % 998244353), .int 0]]) := by
    intro c hc
    have h1 : ∀ M, binD .Mult (.int 977) (.int (j : Nat)) M = some (.int (977 * (j : Nat)), M) := fun M => by
      rw [bin_mul]
      rw [if_pos (.inl (by omega))]
    have h2 : ∀ a b M, binD .Add (.int a) (.int b) M = some (.int (a + b), M) := fun a b M => rfl
    have h3 : ∀ a M, binD .Mod (.int a) (.int 998244353) M = some (.int (a % 998244353), M) := fun a M => by
      rw [bin_mod]
      rw [if_pos (by omega)]
    have h4 : ∀ M, binD .Pow (.int 10) (.int 18) M = some (.int 1000000000000000000, M) := fun M => rfl
    have h5 : ∀ a M, biD .int [.int a] M = some (.int a, M) := fun a M => rfl
    by_cases hb : 1000000000000000000 ≤ c
    · simp [h1, h2, h3, h4, h5, hb]
    · simp [h1, h2, h3, h4, h5, hb]
  have fin : ∀ c : Int, 0 ≤ c → ∃ c' m : Int, 0 ≤ c' ∧ 0 ≤ m ∧ m < 998244353 ∧ (some (D.ref M.length, M ++ [.lst [.int (if 1000000000000000000 ≤ c then c else 0), .int ((c + 977 * (j : Nat) + 11) % 998244353), .int 0]]) : Option (D × Sto)) = some (.ref M.length, M ++ [.lst [.int c', .int m, .int 0]]) := by
    intro c hc
    refine ⟨_, _, ?_, ?_, ?_, rfl⟩
    · split <;> omega
    · exact Int.emod_nonneg _ (by omega)
    · exact Int.emod_lt_of_pos _ (by omega)
  have hlen : ∀ M, biD .len [.rol (ns.map .int)] M = some (.int (ns.length : Nat), M) := fun M => by simp [biD, seqOf, lstOf]
  show ∃ c m : Int, 0 ≤ c ∧ 0 ≤ m ∧ m < 998244353 ∧ retK (dSs cl ir_29 _ _) = _
  rw [ir_29, dSs_cons, sSeq_e]
  have a1 : dS cl (.asg (.nm 2) (.cst (.int 0))) [some (.rol (ns.map .int)), some (.int (j : Nat)), none, none] M = some (.nx [some (.rol (ns.map .int)), some (.int (j : Nat)), some (.int 0), none], M) := by simp
  rw [a1, seqK_nx, dSs_cons, sSeq_e]
  by_cases hj : j < ns.length
  · have hj' : ((j : Nat) : Int) < (ns.length : Nat) := by omega
    have hx : ∀ M, ixD (.rol (ns.map .int)) (.int (j : Nat)) M = some (.int ns[j], M) := fun M => by
      unfold ixD
      show (L2.atI (ns.map D.int) (j : Nat)).map _ = _
      unfold L2.atI L2.ixN
      rw [if_pos (Int.natCast_nonneg j), if_pos (by simp; omega)]
      simp [hj]
    have h5 : ∀ a M, biD .int [.int a] M = some (.int a, M) := fun a M => rfl
    have h6 : ∀ a M, biD .abs [.int a] M = some (.int (if a < 0 then -a else a), M) := fun a M => rfl
    have a2 : dS cl (.if_ (.cmp .Lt (.var 1) (.bi .len (.cons (.var 0) .nil))) (.cons (.asg (.nm 2) (.bi .abs (.cons (.bi .int (.cons (.idx (.var 0) (.var 1)) .nil)) .nil))) .nil) .nil) [some (.rol (ns.map .int)), some (.int (j : Nat)), some (.int 0), none] M = some (.nx [some (.rol (ns.map .int)), some (.int (j : Nat)), some (.int (if ns[j] < 0 then -ns[j] else ns[j])), none], M) := by
      simp [hlen, hj, hx, h5, h6]
    rw [a2, seqK_nx, main _ (by split <;> omega)]
    exact fin _ (by split <;> omega)
  · have a2 : dS cl (.if_ (.cmp .Lt (.var 1) (.bi .len (.cons (.var 0) .nil))) (.cons (.asg (.nm 2) (.bi .abs (.cons (.bi .int (.cons (.idx (.var 0) (.var 1)) .nil)) .nil))) .nil) .nil) [some (.rol (ns.map .int)), some (.int (j : Nat)), some (.int 0), none] M = some (.nx [some (.rol (ns.map .int)), some (.int (j : Nat)), some (.int 0), none], M) := by
      simp [hlen, hj]
    rw [a2, seqK_nx, main 0 (Int.le_refl _)]
    exact fin 0 (Int.le_refl _)
/-- the bag lies at r; at most n draws were made -/
def Bag (M : Sto) (r : Nat) (n : Int) : Prop := ∃ c m i : Int, M[r]? = some (.lst [.int c, .int m, .int i]) ∧ 0 ≤ c ∧ 0 ≤ m ∧ m < 998244353 ∧ 0 ≤ i ∧ i ≤ n
theorem Bag.lt {M : Sto} {r : Nat} {n : Int} (h : Bag M r n) : r < M.length := by
  obtain ⟨c, m, i, h, _⟩ := h
  exact (List.getElem?_eq_some_iff.mp h).1
theorem Bag.app {M g : Sto} {r : Nat} {n : Int} (h : Bag M r n) : Bag (M ++ g) r n := by
  have := h.lt
  obtain ⟨c, m, i, h, q⟩ := h
  exact ⟨c, m, i, by rw [List.getElem?_append_left this]; exact h, q⟩
theorem q_take {M : Sto} {r : Nat} {n : Int} (hb : Bag M r n) (hn : n ≤ 1000) (many : Int) (h0 : 0 < many) (h1 : many < 1000) (k : Nat) :
    ∃ v M', run defs (k + 1) 30 [.ref r, .int many] M = some (.int v, M') ∧ 0 ≤ v ∧ v < many ∧ Bag M' r (n + 1) ∧ ∃ o, M' = M.set r o := by
  obtain ⟨c, m, i, hM, c0, m0, m1, i0, i1⟩ := hb
  rw [run_e (f := fd_30) (env := [some (.ref r), some (.int many), none, none, none]) rfl rfl rfl]
  generalize RI.run defs k = cl
  have lr : r < M.length := (List.getElem?_eq_some_iff.mp hM).1
  have x0 : ixD (.ref r) (.int 0) M = some (.int c, M) := ixN (n := 0) hM rfl
  have x1 : ixD (.ref r) (.int 1) M = some (.int m, M) := ixN (n := 1) hM rfl
  have x2 : ixD (.ref r) (.int 2) M = some (.int i, M) := ixN (n := 2) hM rfl
  have h5 : ∀ a M, biD .int [.int a] M = some (.int a, M) := fun a M => rfl
  have hmod : ∀ a b M, 0 < b → binD .Mod (.int a) (.int b) M = some (.int (a % b), M) := fun a b M hb => by
    rw [bin_mod]
    rw [if_pos hb]
  have hdiv : ∀ a b M, 0 < b → b < 1000 → binD .FloorDiv (.int a) (.int b) M = some (.int (a / b), M) := fun a b M hb hb2 => by
    rw [bin_div]
    rw [if_pos ⟨hb, by omega⟩]
  by_cases hc : 0 < c
  · have hset : setD (.ref r) (.int 0) (.int (c / many)) M = some (M.set r (.lst [.int (c / many), .int m, .int i])) := by
      unfold setD
      simp only [hM]
      rfl
    refine ⟨c % many, M.set r (.lst [.int (c / many), .int m, .int i]), ?_, Int.emod_nonneg _ (by omega), Int.emod_lt_of_pos _ h0, ⟨c / many, m, i, List.getElem?_set_self lr, Int.ediv_nonneg c0 (by omega), m0, m1, i0, by omega⟩, _, rfl⟩
    show retK (dSs cl ir_30 _ _) = _
    simp [ir_30, x0, hc, h5, hmod, hdiv, h0, h1, hset]
  · have hset : setD (.ref r) (.int 2) (.int (i + 1)) M = some (M.set r (.lst [.int c, .int m, .int (i + 1)])) := by
      unfold setD
      simp only [hM]
      rfl
    have hM2 : (M.set r (.lst [.int c, .int m, .int (i + 1)]))[r]? = some (.lst [.int c, .int m, .int (i + 1)]) := List.getElem?_set_self lr
    generalize hM2e : M.set r (.lst [.int c, .int m, .int (i + 1)]) = M2 at hset hM2
    have y1 : ixD (.ref r) (.int 1) M2 = some (.int m, M2) := ixN (n := 1) hM2 rfl
    have y2 : ixD (.ref r) (.int 2) M2 = some (.int (i + 1), M2) := ixN (n := 2) hM2 rfl
    have hadd : ∀ a b M, binD .Add (.int a) (.int b) M = some (.int (a + b), M) := fun a b M => rfl
    have hmul : ∀ a b M, 0 ≤ a → a < 1000000000 → binD .Mult (.int a) (.int b) M = some (.int (a * b), M) := fun a b M h1 h2 => by
      rw [bin_mul]
      rw [if_pos (.inl (by omega))]
    have hpow : ∀ a M, 0 ≤ a → a < 18446744073709551616 → binD .Pow (.int a) (.int 3) M = some (.int (a ^ 3), M) := fun a M h1 h2 => by
      rw [bin_pow]
      rw [if_pos ⟨by omega, by omega, by omega⟩]; rfl
    have b1 : 0 ≤ m + 6700417 * (i + 1) ∧ m + 6700417 * (i + 1) < 18446744073709551616 := by omega
    have p1 := fun M => hpow _ M b1.1 b1.2
    generalize (m + 6700417 * (i + 1)) ^ 3 = A at p1
    have a0 : 0 ≤ A % 2147483629 := Int.emod_nonneg _ (by omega)
    have a1 : A % 2147483629 < 2147483629 := Int.emod_lt_of_pos _ (by omega)
    have b2 : 0 ≤ A % 2147483629 + 65537 * (i + 1) ∧ A % 2147483629 + 65537 * (i + 1) < 18446744073709551616 := by omega
    have p2 := fun M => hpow _ M b2.1 b2.2
    generalize (A % 2147483629 + 65537 * (i + 1)) ^ 3 = B at p2
    refine ⟨(B % 2147483587 / 128) % many, M2, ?_, Int.emod_nonneg _ (by omega), Int.emod_lt_of_pos _ h0, ⟨c, m, i + 1, hM2, c0, m0, m1, by omega, by omega⟩, _, hM2e.symm⟩
    have hc' : ¬ (0 < c) := hc
    show retK (dSs cl ir_30 _ _) = _
    simp [ir_30, x0, x2, hc', h5, hadd, hset, y1, y2, hmul, p1, hmod, p2, hdiv, h0]
theorem q_of {M : Sto} {r l : Nat} {n : Int} {xs : List D} (hb : Bag M r n) (hn : n ≤ 1000) (hl : M[l]? = some (.lst xs)) (hx : 0 < xs.length) (hx2 : xs.length < 1000) (hne : l ≠ r) (k : Nat) :
    ∃ v M', ∃ hv : v < xs.length, run defs (k + 2) 31 [.ref r, .ref l] M = some (xs[v], M') ∧ Bag M' r (n + 1) ∧ ∃ o, M' = M.set r o := by
  obtain ⟨v, M', h1, v0, v1, hb2, o, ho⟩ := q_take hb hn (xs.length : Nat) (by omega) (by omega) k
  rw [run_e (f := fd_31) (env := [some (.ref r), some (.ref l)]) rfl rfl rfl]
  generalize RI.run defs (k + 1) = cl at h1
  have hs : seqOf M (.ref l) = some xs := by
    show lstOf M (.ref l) = _
    unfold lstOf; simp only [hl]
  have hlen : biD .len [.ref l] M = some (.int (xs.length : Nat), M) := by simp [biD, hs]
  have hl2 : M'[l]? = some (.lst xs) := by rw [ho, List.getElem?_set_ne (Ne.symm hne)]; exact hl
  have hv : v.toNat < xs.length := by omega
  have hi : ixD (.ref l) (.int v) M' = some (xs[v.toNat], M') := by
    have := ixN (n := v.toNat) hl2 (List.getElem?_eq_getElem hv)
    rw [Int.toNat_of_nonneg v0] at this
    exact this
  refine ⟨v.toNat, M', hv, ?_, hb2, o, ho⟩
  show retK (dSs cl ir_31 _ _) = _
  simp [ir_31, hlen, h1, hi]
end NW11
end
/-! #### M44 -/
section
set_option Elab.async false
set_option linter.all false
set_option maxRecDepth 100000
set_option maxHeartbeats 8000000
namespace NW11
open RI PySem
/-- but for r all stays -/
def Fr1 (r : Nat) (M M' : Sto) : Prop := M'.length = M.length ∧ ∀ i, i ≠ r → M'[i]? = M[i]?
def H31 (cl : Nat → FN) (r : Nat) : Prop := ∀ (M : Sto) (n : Int) (l : Nat) (xs : List D), Bag M r n → n ≤ 1000 → M[l]? = some (.lst xs) → 0 < xs.length → xs.length < 1000 → l ≠ r → ∃ v, v ∈ xs ∧ ∃ M', cl 31 [.ref r, .ref l] M = some (v, M') ∧ Bag M' r (n + 1) ∧ Fr1 r M M'
def H30 (cl : Nat → FN) (r : Nat) : Prop := ∀ (M : Sto) (n : Int) (many : Int), Bag M r n → n ≤ 1000 → 0 < many → many < 1000 → ∃ v M', cl 30 [.ref r, .int many] M = some (.int v, M') ∧ 0 ≤ v ∧ v < many ∧ Bag M' r (n + 1) ∧ Fr1 r M M'
theorem fr1_set {r : Nat} {M : Sto} {o : MO} : Fr1 r M (M.set r o) := ⟨by simp, fun i h => by rw [List.getElem?_set_ne (Ne.symm h)]⟩
theorem h31_of (r k : Nat) : H31 (run defs (k + 2)) r := by
  intro M n l xs hb hn hl h0 h1 hne
  obtain ⟨v, M', hv, e, b, o, ho⟩ := q_of hb hn hl h0 h1 hne k
  exact ⟨xs[v], List.getElem_mem hv, M', e, b, by rw [ho]; exact fr1_set⟩
theorem h30_of (r k : Nat) : H30 (run defs (k + 1)) r := by
  intro M n many hb hn h0 h1
  obtain ⟨v, M', e, v0, v1, b, o, ho⟩ := q_take hb hn many h0 h1 k
  exact ⟨v, M', e, v0, v1, b, by rw [ho]; exact fr1_set⟩
def somes : List D := [.int 0, .int 1, .int 1, .int 2, .non]
def livesT : List D := [.int 0, .int 1, .int 2, .int 2, .non]
def counts : List D := [.int 1, .int 1, .int 2]
def cps : List D := [.str [110, 111], .str [110, 111], .str [115, 97, 109, 101], .str [97, 110, 101, 119]]
def pgs : List D := [.str [110, 111], .str [110, 111], .str [107, 101, 112, 116], .str [99, 111, 117, 110, 116, 101, 100]]
theorem somes_ok {v : D} (h : v ∈ somes) : ∃ x, v = eOI x ∧ ∀ i, x = some i → 0 ≤ i ∧ i ≤ 3 := by
  simp only [somes, List.mem_cons, List.not_mem_nil, or_false] at h
  rcases h with rfl | rfl | rfl | rfl | rfl
  · exact ⟨some 0, rfl, fun i hi => by cases hi; decide⟩
  · exact ⟨some 1, rfl, fun i hi => by cases hi; decide⟩
  · exact ⟨some 1, rfl, fun i hi => by cases hi; decide⟩
  · exact ⟨some 2, rfl, fun i hi => by cases hi; decide⟩
  · exact ⟨none, rfl, fun i hi => by cases hi⟩
theorem livesT_ok {v : D} (h : v ∈ livesT) : ∃ x, v = eOI x ∧ ∀ i, x = some i → 0 ≤ i ∧ i ≤ 4 := by
  simp only [livesT, List.mem_cons, List.not_mem_nil, or_false] at h
  rcases h with rfl | rfl | rfl | rfl | rfl
  · exact ⟨some 0, rfl, fun i hi => by cases hi; decide⟩
  · exact ⟨some 1, rfl, fun i hi => by cases hi; decide⟩
  · exact ⟨some 2, rfl, fun i hi => by cases hi; decide⟩
  · exact ⟨some 2, rfl, fun i hi => by cases hi; decide⟩
  · exact ⟨none, rfl, fun i hi => by cases hi⟩
theorem counts_ok {v : D} (h : v ∈ counts) : ∃ i, v = .int i ∧ 0 < i ∧ i ≤ 3 := by
  simp only [counts, List.mem_cons, List.not_mem_nil, or_false] at h
  rcases h with rfl | rfl | rfl
  · exact ⟨1, rfl, by decide, by decide⟩
  · exact ⟨1, rfl, by decide, by decide⟩
  · exact ⟨2, rfl, by decide, by decide⟩
theorem cps_ok {v : D} (h : v ∈ cps) : ∃ x, v = eCp x := by
  simp only [cps, List.mem_cons, List.not_mem_nil, or_false] at h
  rcases h with rfl | rfl | rfl | rfl
  · exact ⟨.no, rfl⟩
  · exact ⟨.no, rfl⟩
  · exact ⟨.same, rfl⟩
  · exact ⟨.anew, rfl⟩
theorem pgs_ok {v : D} (h : v ∈ pgs) : ∃ x, v = ePg x := by
  simp only [pgs, List.mem_cons, List.not_mem_nil, or_false] at h
  rcases h with rfl | rfl | rfl | rfl
  · exact ⟨.no, rfl⟩
  · exact ⟨.no, rfl⟩
  · exact ⟨.kept, rfl⟩
  · exact ⟨.counted, rfl⟩
def r2_32 : IS := (.asg (.nm 2) (.ite (.not (.var 1)) (.lst (.cons (.cst (.int 0)) (.cons (.cst (.int 1)) (.cons (.cst (.int 2)) (.cons (.cst (.int 3)) (.cons (.cst .non) .nil)))))) (.lst (.cons (.cst (.int 0)) (.cons (.cst (.int 1)) (.cons (.cst (.int 1)) (.cons (.cst (.int 2)) (.cons (.cst .non) .nil))))))))
def r3_32 : IS := (.asg (.nm 3) (.ite (.not (.var 1)) (.lst (.cons (.cst (.int 0)) (.cons (.cst (.int 1)) (.cons (.cst (.int 2)) (.cons (.cst (.int 3)) (.cons (.cst (.int 4)) (.cons (.cst .non) (.cons (.cst .non) .nil)))))))) (.lst (.cons (.cst (.int 0)) (.cons (.cst (.int 1)) (.cons (.cst (.int 2)) (.cons (.cst (.int 2)) (.cons (.cst .non) .nil))))))))
def r4_32 : IS := (.asg (.nm 4) (.tup (.cons (.call 31 (.cons (.var 0) (.cons (.var 2) .nil))) (.cons (.call 31 (.cons (.var 0) (.cons (.var 2) .nil))) (.cons (.cmp .Eq (.call 30 (.cons (.var 0) (.cons (.cst (.int 2)) .nil))) (.cst (.int 0))) .nil)))))
def r5_32 : IS := (.asg (.nm 5) (.ite (.var 1) (.lst (.cons (.cst (.int 1)) (.cons (.cst (.int 1)) (.cons (.cst (.int 2)) .nil)))) (.lst (.cons (.cst (.int 1)) (.cons (.cst (.int 2)) (.cons (.cst (.int 3)) .nil))))))
def r6_32 : IS := (.asg (.nm 6) (.tup (.cons (.call 30 (.cons (.var 0) (.cons (.ite (.var 1) (.cst (.int 2)) (.cst (.int 3))) .nil))) (.cons (.call 31 (.cons (.var 0) (.cons (.var 5) .nil))) (.cons (.call 31 (.cons (.var 0) (.cons (.var 3) .nil))) .nil)))))
def r7_32 : IS := (.asg (.nm 7) (.call 31 (.cons (.var 0) (.cons (.lst (.cons (.cst (.str [110, 111])) (.cons (.cst (.str [110, 111])) (.cons (.cst (.str [115, 97, 109, 101])) (.cons (.cst (.str [97, 110, 101, 119])) .nil))))) .nil))))
def r8_32 : IS := (.ret (.bin .Add (.bin .Add (.var 4) (.var 6)) (.tup (.cons (.var 7) (.cons (.call 31 (.cons (.var 0) (.cons (.lst (.cons (.cst (.str [110, 111])) (.cons (.cst (.str [110, 111])) (.cons (.cst (.str [107, 101, 112, 116])) (.cons (.cst (.str [99, 111, 117, 110, 116, 101, 100])) .nil))))) .nil))) .nil)))))
theorem ir_32_eq : ir_32 = (.cons r2_32 (.cons r3_32 (.cons r4_32 (.cons r5_32 (.cons r6_32 (.cons r7_32 (.cons r8_32 .nil))))))) := rfl
theorem add_tt2 {xs ys : List D} {M : Sto} (h : xs.length + ys.length ≤ 100) : binD .Add (.tup xs) (.tup ys) M = some (.tup (xs ++ ys), M) := by
  rw [add_tt, if_pos (by unfold SL; omega)]
theorem q_rule {M : Sto} {r : Nat} (hb : Bag M r 0) (k : Nat) : ∃ R M', run defs (k + 3) 32 [.ref r, .bl true] M = some (eRule R, M') ∧ ROk R ∧ Bag M' r 8 ∧ ∀ i o, i ≠ r → M[i]? = some o → M'[i]? = some o := by
  have h31 := h31_of r k
  have h30 := h30_of r (k + 1)
  rw [run_e (f := fd_32) (env := [some (.ref r), some (.bl true), none, none, none, none, none, none]) rfl rfl rfl]
  show ∃ R M', retK (dSs _ ir_32 _ _) = _ ∧ _
  rw [ir_32_eq]
  generalize RI.run defs (k + 2) = cl at h31 h30
  have lr := hb.lt
  have s2 : dS cl r2_32 [some (.ref r), some (.bl true), none, none, none, none, none, none] M = some (.nx [some (.ref r), some (.bl true), some (.ref M.length), none, none, none, none, none], M ++ [.lst somes]) := by simp [r2_32, somes]
  have l1 : (M ++ [MO.lst somes]).length = M.length + 1 := by simp
  have g1 : (M ++ [MO.lst somes])[M.length]? = some (.lst somes) := List.getElem?_concat_length
  have b1 : Bag (M ++ [MO.lst somes]) r 0 := hb.app
  have f1 : ∀ i o, i ≠ r → M[i]? = some o → (M ++ [MO.lst somes])[i]? = some o := fun i o _ h => by rw [List.getElem?_append_left (List.getElem?_eq_some_iff.mp h).1]; exact h
  generalize M ++ [MO.lst somes] = M1 at s2 l1 g1 b1 f1
  have s3 : dS cl r3_32 [some (.ref r), some (.bl true), some (.ref M.length), none, none, none, none, none] M1 = some (.nx [some (.ref r), some (.bl true), some (.ref M.length), some (.ref M1.length), none, none, none, none], M1 ++ [.lst livesT]) := by simp [r3_32, livesT]
  have l2 : (M1 ++ [MO.lst livesT]).length = M1.length + 1 := by simp
  have g2 : (M1 ++ [MO.lst livesT])[M1.length]? = some (.lst livesT) := List.getElem?_concat_length
  have g1' : (M1 ++ [MO.lst livesT])[M.length]? = some (.lst somes) := by rw [List.getElem?_append_left (by omega)]; exact g1
  have b2 : Bag (M1 ++ [MO.lst livesT]) r 0 := b1.app
  have f2 : ∀ i o, i ≠ r → M[i]? = some o → (M1 ++ [MO.lst livesT])[i]? = some o := fun i o hi h => by have h := f1 i o hi h; rw [List.getElem?_append_left (List.getElem?_eq_some_iff.mp h).1]; exact h
  generalize M1 ++ [MO.lst livesT] = M2 at s3 l2 g2 g1' b2 f2
  obtain ⟨w, hw, M3, e3, b3, t3, f3⟩ := h31 M2 0 M.length somes b2 (by decide) g1' (by decide) (by decide) (by omega)
  have g3 : M3[M.length]? = some (.lst somes) := by rw [f3 _ (by omega)]; exact g1'
  obtain ⟨f, hf, M4, e4, b4, t4, f4⟩ := h31 M3 (0 + 1) M.length somes b3 (by decide) g3 (by decide) (by decide) (by omega)
  obtain ⟨z, M5, e5, z0, z1, b5, t5, f5⟩ := h30 M4 (0 + 1 + 1) 2 b4 (by decide) (by decide) (by decide)
  have s4 : dS cl r4_32 [some (.ref r), some (.bl true), some (.ref M.length), some (.ref M1.length), none, none, none, none] M2 = some (.nx [some (.ref r), some (.bl true), some (.ref M.length), some (.ref M1.length), some (.tup [w, f, .bl (decide (z = 0))]), none, none, none], M5) := by
    simp [r4_32, e3, e4, e5]
  have g5 : M5[M1.length]? = some (.lst livesT) := by rw [f5 _ (by omega), f4 _ (by omega), f3 _ (by omega)]; exact g2
  have k5 : ∀ i o, i ≠ r → M[i]? = some o → M5[i]? = some o := fun i o hi h => by rw [f5 _ hi, f4 _ hi, f3 _ hi]; exact f2 i o hi h
  have s5 : dS cl r5_32 [some (.ref r), some (.bl true), some (.ref M.length), some (.ref M1.length), some (.tup [w, f, .bl (decide (z = 0))]), none, none, none] M5 = some (.nx [some (.ref r), some (.bl true), some (.ref M.length), some (.ref M1.length), some (.tup [w, f, .bl (decide (z = 0))]), some (.ref M5.length), none, none], M5 ++ [.lst counts]) := by simp [r5_32, counts]
  have l6 : (M5 ++ [MO.lst counts]).length = M5.length + 1 := by simp
  have g6 : (M5 ++ [MO.lst counts])[M5.length]? = some (.lst counts) := List.getElem?_concat_length
  have g6' : (M5 ++ [MO.lst counts])[M1.length]? = some (.lst livesT) := by rw [List.getElem?_append_left (by omega)]; exact g5
  have b6 : Bag (M5 ++ [MO.lst counts]) r (0 + 1 + 1 + 1) := b5.app
  have k6 : ∀ i o, i ≠ r → M[i]? = some o → (M5 ++ [MO.lst counts])[i]? = some o := fun i o hi h => by have h := k5 i o hi h; rw [List.getElem?_append_left (List.getElem?_eq_some_iff.mp h).1]; exact h
  generalize M5 ++ [MO.lst counts] = M6 at s5 l6 g6 g6' b6 k6
  obtain ⟨h, M7, e7, h0, h1, b7, t7, f7⟩ := h30 M6 (0 + 1 + 1 + 1) 2 b6 (by decide) (by decide) (by decide)
  have g7 : M7[M5.length]? = some (.lst counts) := by rw [f7 _ (by omega)]; exact g6
  obtain ⟨mk, hmk, M8, e8, b8, t8, f8⟩ := h31 M7 (0 + 1 + 1 + 1 + 1) M5.length counts b7 (by decide) g7 (by decide) (by decide) (by omega)
  have g8 : M8[M1.length]? = some (.lst livesT) := by rw [f8 _ (by omega), f7 _ (by omega)]; exact g6'
  obtain ⟨lf, hlf, M9, e9, b9, t9, f9⟩ := h31 M8 (0 + 1 + 1 + 1 + 1 + 1) M1.length livesT b8 (by decide) g8 (by decide) (by decide) (by omega)
  have s6 : dS cl r6_32 [some (.ref r), some (.bl true), some (.ref M.length), some (.ref M1.length), some (.tup [w, f, .bl (decide (z = 0))]), some (.ref M5.length), none, none] M6 = some (.nx [some (.ref r), some (.bl true), some (.ref M.length), some (.ref M1.length), some (.tup [w, f, .bl (decide (z = 0))]), some (.ref M5.length), some (.tup [.int h, mk, lf]), none], M9) := by
    simp [r6_32, e7, e8, e9]
  have k9 : ∀ i o, i ≠ r → M[i]? = some o → M9[i]? = some o := fun i o hi h => by rw [f9 _ hi, f8 _ hi, f7 _ hi]; exact k6 i o hi h
  have g10 : (M9 ++ [MO.lst cps])[M9.length]? = some (.lst cps) := List.getElem?_concat_length
  have b10 := b9.app (g := [MO.lst cps])
  have k10 : ∀ i o, i ≠ r → M[i]? = some o → (M9 ++ [MO.lst cps])[i]? = some o := fun i o hi h => by have h := k9 i o hi h; rw [List.getElem?_append_left (List.getElem?_eq_some_iff.mp h).1]; exact h
  obtain ⟨cp, hcp, M11, e11, b11, t11, f11⟩ := h31 (M9 ++ [MO.lst cps]) _ M9.length cps b10 (by decide) g10 (by decide) (by decide) (by omega)
  have s7 : dS cl r7_32 [some (.ref r), some (.bl true), some (.ref M.length), some (.ref M1.length), some (.tup [w, f, .bl (decide (z = 0))]), some (.ref M5.length), some (.tup [.int h, mk, lf]), none] M9 = some (.nx [some (.ref r), some (.bl true), some (.ref M.length), some (.ref M1.length), some (.tup [w, f, .bl (decide (z = 0))]), some (.ref M5.length), some (.tup [.int h, mk, lf]), some cp], M11) := by
    unfold cps at e11
    simp [r7_32, e11]
  have k11 : ∀ i o, i ≠ r → M[i]? = some o → M11[i]? = some o := fun i o hi h => by rw [f11 _ hi]; exact k10 i o hi h
  have l10 : (M9 ++ [MO.lst cps]).length = M9.length + 1 := by simp
  have g12 : (M11 ++ [MO.lst pgs])[M11.length]? = some (.lst pgs) := List.getElem?_concat_length
  have b12 := b11.app (g := [MO.lst pgs])
  have k12 : ∀ i o, i ≠ r → M[i]? = some o → (M11 ++ [MO.lst pgs])[i]? = some o := fun i o hi h => by have h := k11 i o hi h; rw [List.getElem?_append_left (List.getElem?_eq_some_iff.mp h).1]; exact h
  obtain ⟨pg, hpg, M13, e13, b13, t13, f13⟩ := h31 (M11 ++ [MO.lst pgs]) _ M11.length pgs b12 (by decide) g12 (by decide) (by decide) (by omega)
  obtain ⟨xw, rfl, ow⟩ := somes_ok hw
  obtain ⟨xf, rfl, of⟩ := somes_ok hf
  obtain ⟨xl, rfl, ol⟩ := livesT_ok hlf
  obtain ⟨xm, rfl, m0, m1⟩ := counts_ok hmk
  obtain ⟨xc, rfl⟩ := cps_ok hcp
  obtain ⟨xp, rfl⟩ := pgs_ok hpg
  refine ⟨⟨xw, xf, decide (z = 0), h, xm, xl, xc, xp⟩, M13, ?_, ⟨h0, by show h ≤ 1; omega, m0, m1, ow, of, ol⟩, ?_, fun i o hi ho => by rw [f13 _ hi]; exact k12 i o hi ho⟩
  · rw [dSs_cons, sSeq_e, s2, seqK_nx, dSs_cons, sSeq_e, s3, seqK_nx, dSs_cons, sSeq_e, s4, seqK_nx, dSs_cons, sSeq_e, s5, seqK_nx, dSs_cons, sSeq_e, s6, seqK_nx, dSs_cons, sSeq_e, s7, seqK_nx]
    unfold pgs at e13
    have a1 : ∀ M, binD .Add (.tup [eOI xw, eOI xf, .bl (decide (z = 0))]) (.tup [.int h, .int xm, eOI xl]) M = some (.tup [eOI xw, eOI xf, .bl (decide (z = 0)), .int h, .int xm, eOI xl], M) := fun M => add_tt2 (by simp)
    have a2 : ∀ M, binD .Add (.tup [eOI xw, eOI xf, .bl (decide (z = 0)), .int h, .int xm, eOI xl]) (.tup [eCp xc, ePg xp]) M = some (.tup [eOI xw, eOI xf, .bl (decide (z = 0)), .int h, .int xm, eOI xl, eCp xc, ePg xp], M) := fun M => add_tt2 (by simp)
    simp [r8_32, e13, a1, a2]
  · exact b13
end NW11
end
/-! #### M45 -/
section
set_option Elab.async false
set_option linter.all false
set_option maxRecDepth 100000
set_option maxHeartbeats 8000000
namespace NW11
open RI PySem
/-! ### the law -/
theorem comp_loop {α : Type} {cl : Nat → FN} {cond : IE} {enc : α → D} {b : α → Bool} {ws : List D} {r : Nat} {x0 x1 x2 x3 x4 x5 x6 x7 : Option D} : ∀ (l : List α), (∀ x ∈ l, ∀ M, ∃ M', bOf (dE cl cond) [x0, x1, x2, x3, x4, x5, x6, some (enc x)] M = some (b x, M') ∧ Kq M M') → ∀ (acc : List D) (M : Sto), acc.length + l.length < 1000 → M[r]? = some (.lst ws) →
    ∃ M', compF [7] (.nm 7) (bOf (dE cl cond)) (eVar 7) [(r, .lst ws)] (l.map enc) [x0, x1, x2, x3, x4, x5, x6, x7] M acc = some (acc ++ (l.filter b).map enc, M') ∧ Kq M M'
  | [], h, acc, M, hz, hr => ⟨M, by rw [List.map_nil, compF_nilG (by simp [gdB, hr])]; simp, fun _ _ _ h => h⟩
  | x :: l, h, acc, M, hz, hr => by
    obtain ⟨M1, e1, q1⟩ := h x (by simp) M
    have hr1 : M1[r]? = some (.lst ws) := q1 _ _ (List.getElem?_eq_some_iff.mp hr).1 hr
    rw [List.map_cons, compF_consG (by simp [gdB, hr]), dT_nm]
    simp only [dtC_s, List.set_cons_succ, List.set_cons_zero]
    rw [e1, bnd_s]
    simp only [List.length_cons] at hz
    cases hb : b x with
    | true =>
      rw [if_pos rfl]
      obtain ⟨M2, e2, q2⟩ := comp_loop l (fun z hz => h z (by simp [hz])) (acc ++ [enc x]) M1 (by simp; omega) hr1
      refine ⟨M2, ?_, q1.trans q2⟩
      simp only [eVar_e, List.getElem?_cons_succ, List.getElem?_cons_zero, getK_s, bnd_s]
      rw [if_pos (by omega), e2]
      simp [hb]
    | false =>
      rw [if_neg (by simp)]
      obtain ⟨M2, e2, q2⟩ := comp_loop l (fun z hz => h z (by simp [hz])) acc M1 (by omega) hr1
      exact ⟨M2, by rw [e2]; simp [hb], q1.trans q2⟩
/-- a list by a test -/
theorem comp_ok {α : Type} {cl : Nat → FN} {cond src : IE} {enc : α → D} {b : α → Bool} {l : List α} {x0 x1 x2 x3 x4 x5 x6 x7 : Option D} {M : Sto} (hs : dE cl src [x0, x1, x2, x3, x4, x5, x6, x7] M = some (.ref M.length, M ++ [.lst (l.map enc)])) (hl : l.length < 1000)
    (h : ∀ x ∈ l, ∀ M, ∃ M', bOf (dE cl cond) [x0, x1, x2, x3, x4, x5, x6, some (enc x)] M = some (b x, M') ∧ Kq M M') :
    ∃ r M', dS cl (.asg (.nm 6) (.comp (.src src) (.nm 7) (.some cond) (.var 7) [7])) [x0, x1, x2, x3, x4, x5, x6, x7] M = some (.nx [x0, x1, x2, x3, x4, x5, some (.ref r), x7], M') ∧ M'[r]? = some (.lst ((l.filter b).map enc)) ∧ Kq M M' := by
  obtain ⟨M1, e1, q1⟩ := comp_loop (x0 := x0) (x1 := x1) (x2 := x2) (x3 := x3) (x4 := x4) (x5 := x5) (x6 := x6) (x7 := none) (ws := l.map enc) (r := M.length) l h [] (M ++ [.lst (l.map enc)]) (by simpa using hl) List.getElem?_concat_length
  refine ⟨M1.length, M1 ++ [.lst ((l.filter b).map enc)], ?_, List.getElem?_concat_length, (Kq.trans Kp.app q1).trans Kp.app⟩
  have hsrc : srcOf (M ++ [.lst (l.map enc)]) (.ref M.length) = some ([(M.length, .lst (l.map enc))], l.map enc) := by simp [srcOf]
  generalize hc : bOf (dE cl cond) = C at e1
  simp only [dS_asg, sAsg_e, dE_comp, eComp_e, dI_src, dO_some, hc, dE_var]
  have hi : iSrcF (dE cl src) [x0, x1, x2, x3, x4, x5, x6, x7] M = some (([(M.length, .lst (l.map enc))], l.map enc), M ++ [.lst (l.map enc)]) := by
    simp [hs, hsrc]
  rw [hi, bnd_s]
  simp only [wipeE_c, wipeE_n, List.set_cons_succ, List.set_cons_zero]
  rw [e1]
  simp
theorem eq_emp {M : Sto} {r : Nat} {xs : List D} (h : M[r]? = some (.lst xs)) : eqD (.ref r) (.ref M.length) (M ++ [.lst []]) = some xs.isEmpty := by
  have lr : r < M.length := (List.getElem?_eq_some_iff.mp h).1
  have h' : (M ++ [MO.lst []])[r]? = some (.lst xs) := by rw [List.getElem?_append_left lr]; exact h
  unfold eqD eqF
  have r1 : refL (M ++ [.lst []]) (.ref r) = some (r, xs) := by simp [refL, h']
  have r2 : refL (M ++ [.lst []]) (.ref M.length) = some (M.length, []) := by simp [refL]
  rw [r1, r2]
  simp only []
  rw [if_neg (by omega)]
  cases xs with
  | nil => rfl
  | cons s l => rfl
theorem eq_t1 {M : Sto} (o : Option (Option Int)) : eqD (oD t1 o) (oD t1 o) M = some true := by
  cases o with
  | none => rfl
  | some x => cases x with
    | none => rfl
    | some i => rw [eqD_keys rfl rfl]; simp [oD, t1, eOI, eqD0, keyB, keyB.keysB, NestedKey.depth, NestedKey.depthAll, NestedKey.beq, NestedKey.beqAll]
theorem eq_i1 {M : Sto} (o : Option Int) : eqD (oD D.int o) (oD D.int o) M = some true := by
  cases o with
  | none => rfl
  | some i => simp [oD]
/-- a test that asks whether the function's answer is the law's -/
theorem ask_ok {cl : Nat → FN} {f : Nat} {ans : IE} {x0 x1 x2 x4 x7 : Option D} {R : Rule} {p : HD} {r : Nat} {v : D} {M : Sto} (hf : ∀ M, ∃ M', cl f [eRule R, eHm p.1, eDr p.2] M = some (v, M') ∧ Kq M M')
    (hv : ∀ M, eqD v v M = some true) {xs : List D} (hr : M[r]? = some (.lst xs))
    (hx : ∀ M, M[r]? = some (.lst xs) → ∃ M', dE cl ans [x0, x1, x2, some (eRule R), x4, some (eHD p), some (.ref r), x7] M = some (v, M') ∧ Kq M M') :
    ∃ M', dS cl (.if_ (.cmp .NotEq (.call f (.cons (.var 3) (.cons (.idx (.var 5) (.cst (.int 0))) (.cons (.idx (.var 5) (.cst (.int 1))) .nil)))) ans) (.cons (.ret (.cst (.bl false))) .nil) .nil) [x0, x1, x2, some (eRule R), x4, some (eHD p), some (.ref r), x7] M = some (.nx [x0, x1, x2, some (eRule R), x4, some (eHD p), some (.ref r), x7], M') ∧ Kq M M' := by
  obtain ⟨M1, e1, q1⟩ := hf M
  obtain ⟨M2, e2, q2⟩ := hx M1 (q1 _ _ (List.getElem?_eq_some_iff.mp hr).1 hr)
  have hv2 := hv M2
  refine ⟨M2, ?_, q1.trans q2⟩
  generalize hd : dE cl ans = A at e2
  have i0 : ∀ M, ixD (eHD p) (.int 0) M = some (eHm p.1, M) := fun M => ix0
  have i1 : ∀ M, ixD (eHD p) (.int 1) M = some (eDr p.2, M) := fun M => ix1
  simp [hd, i0, i1, e1, e2, hv2, -eRule_mk]
end NW11
end
/-! #### M46 -/
section
set_option Elab.async false
set_option linter.all false
set_option maxRecDepth 100000
set_option maxHeartbeats 8000000
namespace NW11
open RI PySem
def lives : List (Option Int) := [some 0, some 1, some 2, some 3, some 4, none]
def cw44 : IE := (.call 43 (.cons (.bin .Add (.tup (.cons (.var 7) .nil)) (.slc (.var 3) (.some (.cst (.int 1))) .none)) (.cons (.var 5) .nil)))
def cm44 : IE := (.call 43 (.cons (.bin .Add (.bin .Add (.slc (.var 3) .none (.some (.cst (.int 4)))) (.tup (.cons (.var 7) .nil))) (.slc (.var 3) (.some (.cst (.int 5))) .none)) (.cons (.var 5) .nil)))
def cl44 : IE := (.call 43 (.cons (.bin .Add (.bin .Add (.slc (.var 3) .none (.some (.cst (.int 5)))) (.tup (.cons (.var 7) .nil))) (.slc (.var 3) (.some (.cst (.int 6))) .none)) (.cons (.var 5) .nil)))
def lw44 : IE := (.lst (.cons (.cst (.int 0)) (.cons (.cst (.int 1)) (.cons (.cst (.int 2)) (.cons (.cst (.int 3)) (.cons (.cst .non) .nil))))))
def lm44 : IE := (.lst (.cons (.cst (.int 1)) (.cons (.cst (.int 2)) (.cons (.cst (.int 3)) .nil))))
def ll44 : IE := (.lst (.cons (.cst (.int 0)) (.cons (.cst (.int 1)) (.cons (.cst (.int 2)) (.cons (.cst (.int 3)) (.cons (.cst (.int 4)) (.cons (.cst .non) .nil)))))))
def aw44 : IE := (.ite (.cmp .NotEq (.var 6) (.lst .nil)) (.tup (.cons (.idx (.var 6) (.cst (.int 0))) .nil)) (.cst .non))
def am44 : IE := (.ite (.cmp .NotEq (.var 6) (.lst .nil)) (.idx (.var 6) (.cst (.int 0))) (.cst .non))
def al44 : IE := (.ite (.cmp .NotEq (.var 6) (.lst .nil)) (.tup (.cons (.idx (.var 6) (.cst (.int (-1)))) .nil)) (.cst .non))
def if44 (f : Nat) (a : IE) : IS := (.if_ (.cmp .NotEq (.call f (.cons (.var 3) (.cons (.idx (.var 5) (.cst (.int 0))) (.cons (.idx (.var 5) (.cst (.int 1))) .nil)))) a) (.cons (.ret (.cst (.bl false))) .nil) .nil)
def cp44 (l c : IE) : IS := (.asg (.nm 6) (.comp (.src l) (.nm 7) (.some c) (.var 7) [7]))
def b2_44 : IS := (.asg (.nm 2) (.call 29 (.cons (.var 0) (.cons (.var 1) .nil))))
def b3_44 : IS := (.asg (.nm 3) (.call 32 (.cons (.var 2) (.cons (.cst (.bl true)) .nil))))
def b4_44 : IS := (.asg (.nm 4) (.lst (.cons (.tup (.cons (.cst (.str [97, 115, 116, 114, 97, 121])) (.cons (.cst (.str [111, 116, 104, 101, 114])) .nil))) (.cons (.tup (.cons (.cst (.str [97, 115, 116, 114, 97, 121])) (.cons (.cst (.str [111, 116, 104, 101, 114])) .nil))) (.cons (.tup (.cons (.cst (.str [97, 115, 116, 114, 97, 121])) (.cons (.cst (.str [109, 101, 97, 110, 116])) .nil))) .nil)))))
def b5_44 : IS := (.asg (.nm 5) (.call 31 (.cons (.var 2) (.cons (.bin .Add (.var 4) (.lst (.cons (.tup (.cons (.cst (.str [108, 111, 115, 116])) (.cons (.cst (.str [111, 116, 104, 101, 114])) .nil))) (.cons (.tup (.cons (.cst (.str [108, 111, 115, 116])) (.cons (.cst (.str [116, 105, 109, 101])) .nil))) .nil)))) .nil))))
def bd44 : ISs := (.cons b2_44 (.cons b3_44 (.cons b4_44 (.cons b5_44 (.cons (cp44 lw44 cw44) (.cons (if44 26 aw44) (.cons (cp44 lm44 cm44) (.cons (if44 27 am44) (.cons (cp44 ll44 cl44) (.cons (if44 28 al44) .nil))))))))))
def rg44 : II := (.rng (.cons (.bi .max (.cons (.cst (.int 1)) (.cons (.bi .min (.cons (.cst (.int 2)) (.cons (.bin .Add (.bi .len (.cons (.var 0) .nil)) (.cst (.int 1))) .nil))) .nil))) .nil))
theorem ir_44_eq : ir_44 = (.cons (.for_ rg44 (.nm 1) bd44) (.cons (.ret (.cst (.bl true))) .nil)) := rfl
section
variable {cl : Nat → FN} {R : Rule} {p : HD} {x0 x1 x2 x4 x6 x7 : Option D}
theorem arg_w {w : Option Int} {M : Sto} : dE cl (.bin .Add (.tup (.cons (.var 7) .nil)) (.slc (.var 3) (.some (.cst (.int 1))) .none)) [x0, x1, x2, some (eRule R), x4, some (eHD p), x6, some (eOI w)] M = some (eRule (withWait R w), M) := rfl
theorem arg_m {m : Int} {M : Sto} : dE cl (.bin .Add (.bin .Add (.slc (.var 3) .none (.some (.cst (.int 4)))) (.tup (.cons (.var 7) .nil))) (.slc (.var 3) (.some (.cst (.int 5))) .none)) [x0, x1, x2, some (eRule R), x4, some (eHD p), x6, some (.int m)] M = some (eRule (withMarks R m), M) := rfl
theorem arg_l {w : Option Int} {M : Sto} : dE cl (.bin .Add (.bin .Add (.slc (.var 3) .none (.some (.cst (.int 5)))) (.tup (.cons (.var 7) .nil))) (.slc (.var 3) (.some (.cst (.int 6))) .none)) [x0, x1, x2, some (eRule R), x4, some (eHD p), x6, some (eOI w)] M = some (eRule (withLife R w), M) := rfl
theorem bar_ok {arg : IE} {R' : Rule} {x3 x6 x7 : Option D} {M : Sto} (h43 : ∀ R', ROk R' → ∀ M, ∃ M', cl 43 [eRule R', eHD p] M = some (.bl (barred R' p), M') ∧ Kq M M') (hR : ROk R') (h : dE cl arg [x0, x1, x2, x3, x4, some (eHD p), x6, x7] M = some (eRule R', M)) :
    ∃ M', bOf (dE cl (.call 43 (.cons arg (.cons (.var 5) .nil)))) [x0, x1, x2, x3, x4, some (eHD p), x6, x7] M = some (barred R' p, M') ∧ Kq M M' := by
  obtain ⟨M', e, q⟩ := h43 R' hR M
  refine ⟨M', ?_, q⟩
  generalize hd : dE cl arg = A at h
  simp [hd, h, e, -eRule_mk]
theorem ans_t {r : Nat} {M : Sto} {l : List (Option Int)} (hr : M[r]? = some (.lst (l.map eOI))) : ∃ M', dE cl aw44 [x0, x1, x2, some (eRule R), x4, some (eHD p), some (.ref r), x7] M = some (oD t1 l.head?, M') ∧ Kq M M' := by
  have e := eq_emp hr
  have lr : r < M.length := (List.getElem?_eq_some_iff.mp hr).1
  have hr' : (M ++ [MO.lst []])[r]? = some (.lst (l.map eOI)) := by rw [List.getElem?_append_left lr]; exact hr
  refine ⟨M ++ [.lst []], ?_, Kp.app⟩
  cases l with
  | nil => simp at e; simp [aw44, e, oD]
  | cons a l =>
    have hi := ixR (n := 0) hr'
    simp at e hi
    simp [aw44, e, hi, oD, t1]
theorem ans_i {r : Nat} {M : Sto} {l : List Int} (hr : M[r]? = some (.lst (l.map D.int))) : ∃ M', dE cl am44 [x0, x1, x2, some (eRule R), x4, some (eHD p), some (.ref r), x7] M = some (oD D.int l.head?, M') ∧ Kq M M' := by
  have e := eq_emp hr
  have lr : r < M.length := (List.getElem?_eq_some_iff.mp hr).1
  have hr' : (M ++ [MO.lst []])[r]? = some (.lst (l.map D.int)) := by rw [List.getElem?_append_left lr]; exact hr
  refine ⟨M ++ [.lst []], ?_, Kp.app⟩
  cases l with
  | nil => simp at e; simp [am44, e, oD]
  | cons a l =>
    have hi := ixR (n := 0) hr'
    simp at e hi
    simp [am44, e, hi, oD]
theorem ans_z {r : Nat} {M : Sto} {l : List (Option Int)} (hr : M[r]? = some (.lst (l.map eOI))) : ∃ M', dE cl al44 [x0, x1, x2, some (eRule R), x4, some (eHD p), some (.ref r), x7] M = some (oD t1 l.getLast?, M') ∧ Kq M M' := by
  have e := eq_emp hr
  have lr : r < M.length := (List.getElem?_eq_some_iff.mp hr).1
  have hr' : (M ++ [MO.lst []])[r]? = some (.lst (l.map eOI)) := by rw [List.getElem?_append_left lr]; exact hr
  refine ⟨M ++ [.lst []], ?_, Kp.app⟩
  rcases List.eq_nil_or_concat l with z | ⟨l', a, z⟩
  · subst z; simp at e; simp [al44, e, oD]
  · rw [List.concat_eq_append] at z
    subst z
    have hi := ixR (n := -1) hr'
    have hl : ∀ M, ixD (.tup ((l' ++ [a]).map eOI)) (.int (-1)) M = some (eOI a, M) := fun M => ixL (by simp)
    rw [hl] at hi
    have he : ((l' ++ [a]).map eOI).isEmpty = false := by simp
    rw [he] at e
    simp [al44, e, hi, oD, t1]
/-- the law's callees -/
structure C44 (cl : Nat → FN) : Prop where
  h29 : ∀ (ns : List Int) (j : Nat) (M : Sto), ∃ c m : Int, 0 ≤ c ∧ 0 ≤ m ∧ m < 998244353 ∧ cl 29 [.rol (ns.map .int), .int (j : Nat)] M = some (.ref M.length, M ++ [.lst [.int c, .int m, .int 0]])
  h32 : ∀ (M : Sto) (r : Nat), Bag M r 0 → ∃ R M', cl 32 [.ref r, .bl true] M = some (eRule R, M') ∧ ROk R ∧ Bag M' r 8 ∧ ∀ i o, i ≠ r → M[i]? = some o → M'[i]? = some o
  h31 : ∀ r, H31 cl r
  h43 : ∀ (p : HD) (R' : Rule), ROk R' → ∀ M, ∃ M', cl 43 [eRule R', eHD p] M = some (.bl (barred R' p), M') ∧ Kq M M'
  h26 : ∀ R, ROk R → ∀ (p : HD) (M : Sto), ∃ M', cl 26 [eRule R, eHm p.1, eDr p.2] M = some (oD t1 (waits.find? fun w => barred (withWait R w) p), M') ∧ Kq M M'
  h27 : ∀ R, ROk R → ∀ (p : HD) (M : Sto), ∃ M', cl 27 [eRule R, eHm p.1, eDr p.2] M = some (oD D.int (marksL.find? fun w => barred (withMarks R w) p), M') ∧ Kq M M'
  h28 : ∀ R, ROk R → ∀ (p : HD) (M : Sto), ∃ M', cl 28 [eRule R, eHm p.1, eDr p.2] M = some (oD t1 (livesR.find? fun w => barred (withLife R w) p), M') ∧ Kq M M'
theorem rev_lives (b : Option Int → Bool) : livesR.find? b = (lives.filter b).getLast? := by
  have e : livesR = lives.reverse := rfl
  rw [e, ← List.head?_filter, List.filter_reverse, List.head?_reverse]
def pairsL : List HD := [(.ast, .other), (.ast, .other), (.ast, .meant), (.lost, .other), (.lost, .time)]
theorem body44 (C : C44 cl) (ns : List Int) (j : Nat) {x2 x3 x4 x5 x6 x7 : Option D} (M : Sto) : ∃ y2 y3 y4 y5 y6 y7 M', dSs cl bd44 [some (.rol (ns.map .int)), some (.int (j : Nat)), x2, x3, x4, x5, x6, x7] M = some (.nx [some (.rol (ns.map .int)), some (.int (j : Nat)), y2, y3, y4, y5, y6, y7], M') := by
  obtain ⟨c, m, c0, m0, m1, e29⟩ := C.h29 ns j M
  have s2 : dS cl b2_44 [some (.rol (ns.map .int)), some (.int (j : Nat)), x2, x3, x4, x5, x6, x7] M = some (.nx [some (.rol (ns.map .int)), some (.int (j : Nat)), some (.ref M.length), x3, x4, x5, x6, x7], M ++ [.lst [.int c, .int m, .int 0]]) := by simp [b2_44, e29]
  have bag : Bag (M ++ [.lst [.int c, .int m, .int 0]]) M.length 0 := ⟨c, m, 0, List.getElem?_concat_length, c0, m0, m1, Int.le_refl _, Int.le_refl _⟩
  obtain ⟨R, M2, e32, hR, bag2, k2⟩ := C.h32 _ _ bag
  have s3 : dS cl b3_44 [some (.rol (ns.map .int)), some (.int (j : Nat)), some (.ref M.length), x3, x4, x5, x6, x7] (M ++ [.lst [.int c, .int m, .int 0]]) = some (.nx [some (.rol (ns.map .int)), some (.int (j : Nat)), some (.ref M.length), some (eRule R), x4, x5, x6, x7], M2) := by simp [b3_44, e32, -eRule_mk]
  have s4 : dS cl b4_44 [some (.rol (ns.map .int)), some (.int (j : Nat)), some (.ref M.length), some (eRule R), x4, x5, x6, x7] M2 = some (.nx [some (.rol (ns.map .int)), some (.int (j : Nat)), some (.ref M.length), some (eRule R), some (.ref M2.length), x5, x6, x7], M2 ++ [.lst ([(.ast, .other), (.ast, .other), (.ast, .meant)].map eHD)]) := by simp [b4_44, eHD, eHm, eDr, -eRule_mk]
  have lM2 : M.length < M2.length := bag2.lt
  have hadd : binD .Add (.ref M2.length) (.ref (M2 ++ [MO.lst ([(.ast, .other), (.ast, .other), (.ast, .meant)].map eHD)]).length) (M2 ++ [MO.lst ([(.ast, .other), (.ast, .other), (.ast, .meant)].map eHD)] ++ [.lst ([(.lost, .other), (.lost, .time)].map eHD)]) =
      some (.ref (M2.length + 2), M2 ++ [MO.lst ([(.ast, .other), (.ast, .other), (.ast, .meant)].map eHD)] ++ [.lst ([(.lost, .other), (.lost, .time)].map eHD)] ++ [.lst (pairsL.map eHD)]) := by
    rw [add_rr (xs := [(.ast, .other), (.ast, .other), (.ast, .meant)].map eHD) (ys := [(.lost, .other), (.lost, .time)].map eHD) (by rw [List.getElem?_append_left (by simp)]; exact List.getElem?_concat_length) List.getElem?_concat_length, if_pos (by simp [SL])]
    simp [pairsL]
  have bag4 : Bag (M2 ++ [MO.lst ([(.ast, .other), (.ast, .other), (.ast, .meant)].map eHD)] ++ [.lst ([(.lost, .other), (.lost, .time)].map eHD)] ++ [.lst (pairsL.map eHD)]) M.length 8 := bag2.app.app.app
  have g4 : (M2 ++ [MO.lst ([(.ast, .other), (.ast, .other), (.ast, .meant)].map eHD)] ++ [.lst ([(.lost, .other), (.lost, .time)].map eHD)] ++ [.lst (pairsL.map eHD)])[M2.length + 2]? = some (.lst (pairsL.map eHD)) := by simp
  obtain ⟨v, hv, M5, e31, bag5, f5⟩ := C.h31 _ _ _ _ _ bag4 (by decide) g4 (by decide) (by decide) (by omega)
  obtain ⟨p, hp, rfl⟩ := List.mem_map.mp hv
  have s5 : dS cl b5_44 [some (.rol (ns.map .int)), some (.int (j : Nat)), some (.ref M.length), some (eRule R), some (.ref M2.length), x5, x6, x7] (M2 ++ [.lst ([(.ast, .other), (.ast, .other), (.ast, .meant)].map eHD)]) = some (.nx [some (.rol (ns.map .int)), some (.int (j : Nat)), some (.ref M.length), some (eRule R), some (.ref M2.length), some (eHD p), x6, x7], M5) := by
    have ev : dE cl (.lst (.cons (.tup (.cons (.cst (.str [108, 111, 115, 116])) (.cons (.cst (.str [111, 116, 104, 101, 114])) .nil))) (.cons (.tup (.cons (.cst (.str [108, 111, 115, 116])) (.cons (.cst (.str [116, 105, 109, 101])) .nil))) .nil))) [some (.rol (ns.map .int)), some (.int (j : Nat)), some (.ref M.length), some (eRule R), some (.ref M2.length), x5, x6, x7] (M2 ++ [.lst ([(.ast, .other), (.ast, .other), (.ast, .meant)].map eHD)]) =
        some (.ref (M2 ++ [MO.lst ([(.ast, .other), (.ast, .other), (.ast, .meant)].map eHD)]).length, M2 ++ [MO.lst ([(.ast, .other), (.ast, .other), (.ast, .meant)].map eHD)] ++ [.lst ([(.lost, .other), (.lost, .time)].map eHD)]) := by simp [eHD, eHm, eDr, -eRule_mk]
    generalize M2 ++ [MO.lst ([(.ast, .other), (.ast, .other), (.ast, .meant)].map eHD)] = M3 at hadd ev e31
    generalize M3 ++ [MO.lst ([(.lost, .other), (.lost, .time)].map eHD)] = M4 at hadd ev e31
    rw [b5_44, dS_asg, sAsg_e, dE_call, eCall_e, dL_cons, dL_cons, dL_nil, aCons_e, dE_var, eVar_e]
    simp only [List.getElem?_cons_succ, List.getElem?_cons_zero, getK_s, bnd_s, aCons_e, dE_bin, eOp_e, dE_var, eVar_e, ev, hadd, aNil_e, e31]
    simp [-eRule_mk]
  have h43 := C.h43 p
  obtain ⟨r6, M6, s6, g6, q6⟩ := comp_ok (cl := cl) (cond := cw44) (src := lw44) (enc := eOI) (b := fun w => barred (withWait R w) p) (l := waits) (x0 := some (.rol (ns.map .int))) (x1 := some (.int (j : Nat))) (x2 := some (.ref M.length)) (x3 := some (eRule R)) (x4 := some (.ref M2.length)) (x5 := some (eHD p)) (x6 := x6) (x7 := x7) (M := M5) (by simp [lw44, waits, eOI]) (by decide)
    fun w hw M => bar_ok h43 (wait_ok hR hw) arg_w
  obtain ⟨M7, s7, q7⟩ := ask_ok (cl := cl) (f := 26) (ans := aw44) (x0 := some (.rol (ns.map .int))) (x1 := some (.int (j : Nat))) (x2 := some (.ref M.length)) (x4 := some (.ref M2.length)) (x7 := x7) (C.h26 R hR p) (fun M => eq_t1 _) g6 fun M hM => ans_t hM |>.elim fun M' h => by rw [List.head?_filter] at h; exact ⟨M', h⟩
  obtain ⟨r8, M8, s8, g8, q8⟩ := comp_ok (cl := cl) (cond := cm44) (src := lm44) (enc := D.int) (b := fun w => barred (withMarks R w) p) (l := marksL) (x0 := some (.rol (ns.map .int))) (x1 := some (.int (j : Nat))) (x2 := some (.ref M.length)) (x3 := some (eRule R)) (x4 := some (.ref M2.length)) (x5 := some (eHD p)) (x6 := some (.ref r6)) (x7 := x7) (M := M7) (by simp [lm44, marksL]) (by decide)
    fun w hw M => bar_ok h43 (marks_ok hR hw) arg_m
  obtain ⟨M9, s9, q9⟩ := ask_ok (cl := cl) (f := 27) (ans := am44) (x0 := some (.rol (ns.map .int))) (x1 := some (.int (j : Nat))) (x2 := some (.ref M.length)) (x4 := some (.ref M2.length)) (x7 := x7) (C.h27 R hR p) (fun M => eq_i1 _) g8 fun M hM => ans_i hM |>.elim fun M' h => by rw [List.head?_filter] at h; exact ⟨M', h⟩
  obtain ⟨r10, M10, s10, g10, q10⟩ := comp_ok (cl := cl) (cond := cl44) (src := ll44) (enc := eOI) (b := fun w => barred (withLife R w) p) (l := lives) (x0 := some (.rol (ns.map .int))) (x1 := some (.int (j : Nat))) (x2 := some (.ref M.length)) (x3 := some (eRule R)) (x4 := some (.ref M2.length)) (x5 := some (eHD p)) (x6 := some (.ref r8)) (x7 := x7) (M := M9) (by simp [ll44, lives, eOI]) (by decide)
    fun w hw M => bar_ok h43 (life_ok hR (by rw [show livesR = lives.reverse from rfl]; exact List.mem_reverse.mpr hw)) arg_l
  obtain ⟨M11, s11, q11⟩ := ask_ok (cl := cl) (f := 28) (ans := al44) (x0 := some (.rol (ns.map .int))) (x1 := some (.int (j : Nat))) (x2 := some (.ref M.length)) (x4 := some (.ref M2.length)) (x7 := x7) (C.h28 R hR p) (fun M => eq_t1 _) g10 fun M hM => ans_z hM |>.elim fun M' h => by rw [← rev_lives] at h; exact ⟨M', h⟩
  refine ⟨some (.ref M.length), some (eRule R), some (.ref M2.length), some (eHD p), some (.ref r10), x7, M11, ?_⟩
  rw [bd44, dSs_cons, sSeq_e, s2, seqK_nx, dSs_cons, sSeq_e, s3, seqK_nx, dSs_cons, sSeq_e, s4, seqK_nx, dSs_cons, sSeq_e, s5, seqK_nx, dSs_cons, sSeq_e, cp44, s6, seqK_nx, dSs_cons, sSeq_e, if44, s7, seqK_nx, dSs_cons, sSeq_e, cp44, s8, seqK_nx, dSs_cons, sSeq_e, if44, s9, seqK_nx, dSs_cons, sSeq_e, cp44, s10, seqK_nx, dSs_cons, sSeq_e, if44, s11, seqK_nx]
  rfl
end
theorem c44 : C44 (run defs 11) where
  h29 := fun ns j M => q_bag ns j 10 M
  h32 := fun M r hb => q_rule hb 8
  h31 := fun r => h31_of r 9
  h43 := fun p R' hR M => q_barred R' hR p 6 M
  h26 := fun R hR p M => p_least_wait R hR p.1 p.2 3 M
  h27 := fun R hR p M => p_least_marks R hR p.1 p.2 3 M
  h28 := fun R hR p M => p_longest R hR p.1 p.2 3 M
theorem law_ok (ns : List Int) (hn : ns.length ≤ 63) : ∃ M', run defs 12 44 [.rol (ns.map .int)] [] = some (.bl true, M') := by
  have C := c44
  rw [run_e (f := fd_44) (env := [some (.rol (ns.map .int)), none, none, none, none, none, none, none]) rfl rfl rfl]
  show ∃ M', retK (dSs _ ir_44 _ _) = _
  rw [ir_44_eq]
  generalize RI.run defs 11 = cl at C
  have hlen : ∀ M, biD .len [.rol (ns.map .int)] M = some (.int (ns.length : Nat), M) := fun M => by simp [biD, seqOf, lstOf]
  have hadd : ∀ a b M, binD .Add (.int a) (.int b) M = some (.int (a + b), M) := fun a b M => rfl
  have hmin : ∀ a b M, biD .min [.int a, .int b] M = some (.int (if b < a then b else a), M) := fun a b M => rfl
  have hmax : ∀ a b M, biD .max [.int a, .int b] M = some (.int (if b > a then b else a), M) := fun a b M => rfl
  generalize hB : bd44 = B
  have hb := fun (j : Nat) (x2 x3 x4 x5 x6 x7 : Option D) M => body44 C ns j (x2 := x2) (x3 := x3) (x4 := x4) (x5 := x5) (x6 := x6) (x7 := x7) M
  rw [hB] at hb
  by_cases h0 : ns.length = 0
  · have hr : dI cl rg44 [some (.rol (ns.map .int)), none, none, none, none, none, none, none] [] = some (([], [.int 0]), []) := by
      simp [rg44, hlen, hadd, hmin, hmax, h0]
    obtain ⟨y2, y3, y4, y5, y6, y7, M', e⟩ := hb 0 none none none none none none []
    have e' : dSs cl B [some (.rol (ns.map .int)), some (.int 0), none, none, none, none, none, none] [] = _ := e
    refine ⟨M', ?_⟩
    rw [dSs_cons, sSeq_e, dS_for, sFor_e, hr, bnd_s, forF_consG rfl, dT_nm]
    simp only [dtK_s, List.set_cons_succ, List.set_cons_zero]
    rw [e', lpK_nx, forF_nilG rfl, seqK_nx]
    simp
  · have hr : dI cl rg44 [some (.rol (ns.map .int)), none, none, none, none, none, none, none] [] = some (([], [.int 0, .int 1]), []) := by
      have h1 : ¬ ((ns.length : Int) + 1 < 2) := by omega
      simp [rg44, hlen, hadd, hmin, hmax, h1]
    obtain ⟨y2, y3, y4, y5, y6, y7, M1, e⟩ := hb 0 none none none none none none []
    have e' : dSs cl B [some (.rol (ns.map .int)), some (.int 0), none, none, none, none, none, none] [] = _ := e
    obtain ⟨z2, z3, z4, z5, z6, z7, M2, f⟩ := hb 1 y2 y3 y4 y5 y6 y7 M1
    have f' : dSs cl B [some (.rol (ns.map .int)), some (.int 1), y2, y3, y4, y5, y6, y7] M1 = _ := f
    refine ⟨M2, ?_⟩
    rw [dSs_cons, sSeq_e, dS_for, sFor_e, hr, bnd_s, forF_consG rfl, dT_nm]
    simp only [dtK_s, List.set_cons_succ, List.set_cons_zero]
    rw [e', lpK_nx, forF_consG rfl, dT_nm]
    simp only [dtK_s, List.set_cons_succ, List.set_cons_zero]
    rw [f', lpK_nx, forF_nilG rfl, seqK_nx]
    simp
end NW11
end
theorem PySem.Challenge.cw_nameswait_k11_whole_least_waits_marks_an_holds : PySem.Challenge.rw_nameswait_k11_whole_least_waits_marks_an.Holds :=
  NW11.holds_of NW11.law_ok
