import PyProof.Rows.All
import Wide.All
import OpenK.AllK
import Wide.FinOn
import HandS.ForMost
import HandS.ForExc
import HandS.Walk
import HandS.TupMul
import HandS.TupAny
import HandS.Zip
import KE.KDictKeyed
import KE.KeyNested
import HandS.IsInst
import HandS.Style
import HandS.TupLe
import HandS.Deep
import HandS.Wide
import KE.GoesEnum
import KE.GoesMore
import KE.GoesZip
import KE.KRevSl
import HandS.NoneIn
import KE.DataFind
import PyProof.ReprRoads
import PyProof.ReprLen
import KE.KDictZip
import HandS.TupSets
import PySem.Challenge.RW_gatherwords_k25_whole_forms_taken
set_option Elab.async false
set_option autoImplicit false
set_option linter.all false
set_option maxRecDepth 100000
/-! MP, part a: data, stores, how they stand in the abstract heap, what a result promises. -/
namespace MP
open PySem L2
/-- the module's names, the program, the world -/
structure Mg where
  mg : Str → Option Value
  P : Program
  w : World

/-! bounds that no check reckons out -/
def I64 (i : Int) : Prop := -(2 ^ 64) < i ∧ i < 2 ^ 64
def I62 (i : Int) : Prop := -(2 ^ 62) ≤ i ∧ i < 2 ^ 62
def DivOk (j : Int) : Prop := 0 < j ∧ j < 2 ^ 200
def PowOk (i j : Int) : Prop := 0 ≤ j ∧ j ≤ 1000000 ∧ i.natAbs < 2 ^ 64
def RepOk (k : Int) (n : Nat) : Prop := -1000 ≤ k ∧ k ≤ 1000 ∧ n ≤ 1000
noncomputable instance {i : Int} : Decidable (I64 i) := Classical.propDecidable _
noncomputable instance {i : Int} : Decidable (I62 i) := Classical.propDecidable _
noncomputable instance {i : Int} : Decidable (DivOk i) := Classical.propDecidable _
noncomputable instance {i j : Int} : Decidable (PowOk i j) := Classical.propDecidable _
noncomputable instance {i : Int} {n : Nat} : Decidable (RepOk i n) := Classical.propDecidable _

inductive D where
  | non | bl (b : Bool) | int (i : Int) | str (s : Str)
  | tup (l : List D) | lv (l : List D) | ro (l : List D)
  | ref (n : Nat)

inductive Ob where
  | lst (l : List D) | dct (kv : List (D × D)) | ins (c : Str) (fs : List (Str × D))

abbrev Fr := List (Option D)
abbrev Sto := List Ob
inductive Res (α : Type) where
  | bad | ok (a : α) (S : Sto) | exc (c : Str) (S : Sto)
abbrev M (α : Type) := Fr → Sto → Res α
abbrev Fn := List D → Sto → Res D
def Res.bind {α β : Type} : Res α → (α → Sto → Res β) → Res β
  | .bad, _ => .bad
  | .ok a S, f => f a S
  | .exc c S, _ => .exc c S
@[simp] theorem Res.bind_ok {α β : Type} {a : α} {S : Sto} {f : α → Sto → Res β} : (Res.ok a S).bind f = f a S := rfl
@[simp] theorem Res.bind_bad {α β : Type} {f : α → Sto → Res β} : (Res.bad : Res α).bind f = .bad := rfl
@[simp] theorem Res.bind_exc {α β : Type} {c : Str} {S : Sto} {f : α → Sto → Res β} : (Res.exc c S : Res α).bind f = .exc c S := rfl
inductive Fl where
  | nx (ρ : Fr) | rt (d : D) | bk (ρ : Fr) | ct (ρ : Fr)

/-- a tuple as it was made: no names of its own -/
def TupE (H : Hp) (a : Addr) (xs : List V) : Prop := ∃ o : Obj, H a = some (.frz o (.tup xs)) ∧ o.dict = none
theorem TupE.sq {K : PySem.W.Frag} {H : Hp} {a : Addr} {xs : List V} (h : TupE H a xs) : SqT K H a xs := by
  obtain ⟨o, h, _⟩ := h
  exact .inl (.inr ⟨o, h⟩)
section
variable (K : PySem.W.Frag)
mutual
inductive RV (φ Z : List Addr) (H : Hp) : V → D → Prop
  | non : RV φ Z H .non .non
  | bl (b : Bool) : RV φ Z H (.bl b) (.bl b)
  | int (i : Int) : RV φ Z H (.int i) (.int i)
  | str (s : Str) : RV φ Z H (.str s) (.str s)
  | tup {a : Addr} {xs : List V} {ds : List D} : TupE H a xs → RVs φ Z H xs ds → RV φ Z H (.ref a) (.tup ds)
  | lv {a : Addr} {xs : List V} {ds : List D} : H a = some (.lst xs) → a ∉ φ → a ∉ Z → RVs φ Z H xs ds → RV φ Z H (.ref a) (.lv ds)
  | ro {a : Addr} {xs : List V} {ds : List D} : (Rd H a (.lst xs) ∧ a ∉ φ ∧ a ∉ Z) ∨ SqL K (fun _ => none) a xs → RVs φ Z H xs ds → RV φ Z H (.ref a) (.ro ds)
  | ref {n : Nat} {a : Addr} : φ[n]? = some a → RV φ Z H (.ref a) (.ref n)
inductive RVs (φ Z : List Addr) (H : Hp) : List V → List D → Prop
  | nil : RVs φ Z H [] []
  | cons {v : V} {d : D} {vs : List V} {ds : List D} : RV φ Z H v d → RVs φ Z H vs ds → RVs φ Z H (v :: vs) (d :: ds)
end
end

/-- a key of a dict that is an int or a text -/
def keyOf : D → Option Key
  | .int i => some (.inl i)
  | .str s => some (.inr s)
  | _ => none

/-- attributes by name -/
inductive RFs (K : PySem.W.Frag) (φ Z : List Addr) (H : Hp) : List (Str × V) → List (Str × D) → Prop
  | nil : RFs K φ Z H [] []
  | cons {x : Str} {v : V} {d : D} {vs : List (Str × V)} {ds : List (Str × D)} : RV K φ Z H v d → RFs K φ Z H vs ds → RFs K φ Z H ((x, v) :: vs) ((x, d) :: ds)

/-- pairs of a dict -/
inductive RKs (K : PySem.W.Frag) (φ Z : List Addr) (H : Hp) : List (Key × V) → List (D × D) → Prop
  | nil : RKs K φ Z H [] []
  | cons {k : Key} {c : D} {v : V} {d : D} {vs : List (Key × V)} {ds : List (D × D)} : keyOf c = some k → RV K φ Z H v d → RKs K φ Z H vs ds → RKs K φ Z H ((k, v) :: vs) ((c, d) :: ds)

mutual
/-- a key of a dict up to == -/
def keyN : D → Option NestedKey
  | .non => some .none
  | .bl b => some (.num (if b = true then 1 else 0))
  | .int i => some (.num i)
  | .str s => some (.text s)
  | .tup l => (keyNs l).map .tup
  | .lv _ => none
  | .ro _ => none
  | .ref _ => none
def keyNs : List D → Option (List NestedKey)
  | [] => some []
  | d :: ds => match keyN d, keyNs ds with
    | some k, some ks => some (k :: ks)
    | _, _ => none
end
/-- pairs of a dict whose keys are tuples -/
inductive RTs (K : PySem.W.Frag) (φ Z : List Addr) (H : Hp) : List (NestedKey × Addr × Value) → List (D × D) → Prop
  | nil : RTs K φ Z H [] []
  | cons {k : NestedKey} {a : Addr} {u : Value} {v : V} {c d : D} {xs : List (NestedKey × Addr × Value)} {ds : List (D × D)} : keyN c = some k → k.depth ≤ 8 → RV K φ Z H (.ref a) c → RelV v u → RV K φ Z H v d → RTs K φ Z H xs ds → RTs K φ Z H ((k, a, u) :: xs) ((c, d) :: ds)

/-- what stands at an address -/
inductive RO (K : PySem.W.Frag) (mg : Mg) (φ Z : List Addr) (H : Hp) (a : Addr) : Ob → Prop
  | lst {xs : List V} {l : List D} : H a = some (.lst xs) → RVs K φ Z H xs l → RO K mg φ Z H a (.lst l)
  | dk {kvs : List (Key × V)} {kv : List (D × D)} : H a = some (.dK kvs) → RKs K φ Z H kvs kv → RO K mg φ Z H a (.dct kv)
  | dt {o : Obj} {es : Array DictEntry} {ep : Nat} {xs : List (NestedKey × Addr × Value)} {kv : List (D × D)} : H a = some (.ext fun h => h.get? a = some o) → o.ExactDict → o.data = .dict es ep → es.toList = xs.map (entryOfKey (nestedKind mg.P mg.w)) → (xs.map (·.1)).Nodup → xs.length ≤ sizeLine → (a == sysModules) = false → kv ≠ [] → RTs K φ Z H xs kv → RO K mg φ Z H a (.dct kv)
  | ins {c : Str} {C dx : Addr} {vs : List (Str × V)} {fs : List (Str × D)} : mg.mg c = some (.ref C) → H a = some (.ins C dx vs) → RFs K φ Z H vs fs → RO K mg φ Z H a (.ins c fs)

structure RepS (K : PySem.W.Frag) (mg : Mg) (φ Z : List Addr) (S : Sto) (H : Hp) : Prop where
  len : φ.length = S.length
  nd : φ.Nodup
  ob : ∀ (n : Nat) (a : Addr) (o : Ob), φ[n]? = some a → S[n]? = some o → RO K mg φ Z H a o
  zs : ∀ z ∈ Z, z ∉ φ ∧ H z ≠ none

structure Ex (φ : List Addr) (H : Hp) (φ' : List Addr) (H' : Hp) : Prop where
  pre : φ <+: φ'
  new : ∀ a ∈ φ', a ∉ φ → H a = none
  keep : ∀ a o, H a = some o → a ∉ φ → H' a = some o

section
variable {K : PySem.W.Frag} {mg : Mg} {φ φ' φ1 φ2 Z : List Addr} {H H' H1 H2 : Hp} {S S' : Sto}
theorem Ex.refl : Ex φ H φ H := ⟨List.prefix_rfl, fun _ h n => absurd h n, fun _ _ h _ => h⟩
theorem Ex.trans (e : Ex φ H φ1 H1) (f : Ex φ1 H1 φ2 H2) : Ex φ H φ2 H2 := by
  refine ⟨e.pre.trans f.pre, fun a h n => ?_, fun a o h n => ?_⟩
  · by_cases m : a ∈ φ1
    · exact e.new a m n
    · cases q : H a with
      | none => rfl
      | some o =>
        have := f.new a h m
        rw [e.keep a o q n] at this
        cases this
  · refine f.keep a o (e.keep a o h n) fun m => ?_
    rw [e.new a m n] at h
    cases h
theorem Ex.of_same {o : HO} {p : Addr} (hp : H p = none) : Ex φ H φ (upd H p o) :=
  ⟨List.prefix_rfl, fun _ h n => absurd h n, fun a u h _ => by rw [upd_ne (ne_of_none h hp)]; exact h⟩
theorem Ex.push {p : Addr} (hp : H p = none) {o : HO} : Ex φ H (φ ++ [p]) (upd H p o) := by
  refine ⟨List.prefix_append _ _, fun a h n => ?_, fun a u h _ => by rw [upd_ne (ne_of_none h hp)]; exact h⟩
  rcases List.mem_append.mp h with h | h
  · exact absurd h n
  · rw [List.mem_singleton.mp h]; exact hp
theorem Ex.at {p : Addr} (hp : p ∈ φ) {o : HO} : Ex φ H φ (upd H p o) :=
  ⟨List.prefix_rfl, fun _ h n => absurd h n, fun a u h n => by rw [upd_ne (fun e => n (by rw [e]; exact hp))]; exact h⟩
theorem Ex.get {n : Nat} {a : Addr} (e : Ex φ H φ' H') (h : φ[n]? = some a) : φ'[n]? = some a := by
  obtain ⟨t, rfl⟩ := e.pre
  obtain ⟨hn, _⟩ := List.getElem?_eq_some_iff.mp h
  rw [List.getElem?_append_left hn]; exact h

theorem RO.notTup {a : Addr} {o : Ob} (r : RO K mg φ Z H a o) {xs : List V} : ¬ Rd H a (.tup xs) := by
  rintro (h | ⟨u, h⟩) <;> cases r with
  | lst e _ => rw [e] at h; cases h
  | dk e _ => rw [e] at h; cases h
  | dt e _ _ _ _ _ _ _ _ => rw [e] at h; cases h
  | ins _ e _ => rw [e] at h; cases h
theorem RepS.at (r : RepS K mg φ Z S H) {a : Addr} (h : a ∈ φ) : ∃ (n : Nat) (o : Ob), φ[n]? = some a ∧ S[n]? = some o ∧ RO K mg φ Z H a o := by
  obtain ⟨n, hn, e⟩ := List.getElem_of_mem h
  have e1 : φ[n]? = some a := by rw [List.getElem?_eq_getElem hn, e]
  have hs : n < S.length := by rw [← r.len]; exact hn
  exact ⟨n, S[n], e1, List.getElem?_eq_getElem hs, r.ob n a _ e1 (List.getElem?_eq_getElem hs)⟩
theorem RepS.there (r : RepS K mg φ Z S H) {a : Addr} (h : a ∈ φ) : H a ≠ none := by
  obtain ⟨_, _, _, _, q⟩ := r.at h
  cases q with
  | lst e _ => rw [e]; simp
  | dk e _ => rw [e]; simp
  | dt e _ _ _ _ _ _ _ _ => rw [e]; simp
  | ins _ e _ => rw [e]; simp
/-- no tuple stands at one of the store's addresses -/
def NT (φ : List Addr) (H : Hp) : Prop := ∀ a ∈ φ, ∀ xs : List V, ¬ Rd H a (.tup xs)
theorem RepS.nt (r : RepS K mg φ Z S H) : NT φ H := fun a m xs h => by
  obtain ⟨_, _, _, _, q⟩ := r.at m
  exact q.notTup h
theorem NT.sqT (r : NT φ H) (e : Ex φ H φ' H') {a : Addr} {xs : List V} (h : SqT K H a xs) : SqT K H' a xs := by
  rcases h with h | h
  · have n : a ∉ φ := fun m => r a m xs h
    rcases h with h | ⟨o, h⟩
    · exact .inl (.inl (e.keep _ _ h n))
    · exact .inl (.inr ⟨o, e.keep _ _ h n⟩)
  · exact .inr h
theorem NT.tupE (r : NT φ H) (e : Ex φ H φ' H') {a : Addr} {xs : List V} (h : TupE H a xs) : TupE H' a xs := by
  obtain ⟨o, h, d⟩ := h
  exact ⟨o, e.keep _ _ h fun m => r a m xs (.inr ⟨o, h⟩), d⟩
theorem Ex.rdL (e : Ex φ H φ' H') {a : Addr} {u : HO} (n : a ∉ φ) (h : Rd H a u) : Rd H' a u := by
  rcases h with h | ⟨o, h⟩
  · exact .inl (e.keep _ _ h n)
  · exact .inr ⟨o, e.keep _ _ h n⟩
theorem Ex.notin (e : Ex φ H φ' H') {a : Addr} {u : HO} (n : a ∉ φ) (h : Rd H a u) : a ∉ φ' := fun m => by
  have := e.new a m n
  rcases h with h | ⟨o, h⟩ <;> rw [this] at h <;> cases h

mutual
theorem RV.mono (r : NT φ H) (e : Ex φ H φ' H') : ∀ {v : V} {d : D}, RV K φ Z H v d → RV K φ' Z H' v d
  | _, _, .non => .non
  | _, _, .bl b => .bl b
  | _, _, .int i => .int i
  | _, _, .str s => .str s
  | _, _, .tup h q => .tup (r.tupE e h) (RVs.mono r e q)
  | _, _, .lv h n z q => .lv (e.keep _ _ h n) (fun m => by rw [e.new _ m n] at h; cases h) z (RVs.mono r e q)
  | _, _, .ro h q => .ro (h.imp (fun ⟨a, b, c⟩ => ⟨e.rdL b a, e.notin b a, c⟩) id) (RVs.mono r e q)
  | _, _, .ref h => .ref (e.get h)
theorem RVs.mono (r : NT φ H) (e : Ex φ H φ' H') : ∀ {vs : List V} {ds : List D}, RVs K φ Z H vs ds → RVs K φ' Z H' vs ds
  | _, _, .nil => .nil
  | _, _, .cons h q => .cons (RV.mono r e h) (RVs.mono r e q)
end

theorem RFs.mono (r : NT φ H) (e : Ex φ H φ' H') {vs : List (Str × V)} {ds : List (Str × D)} (h : RFs K φ Z H vs ds) : RFs K φ' Z H' vs ds := by
  induction h with
  | nil => exact .nil
  | cons a _ ih => exact .cons (a.mono r e) ih
theorem RKs.mono (r : NT φ H) (e : Ex φ H φ' H') {vs : List (Key × V)} {ds : List (D × D)} (h : RKs K φ Z H vs ds) : RKs K φ' Z H' vs ds := by
  induction h with
  | nil => exact .nil
  | cons k a _ ih => exact .cons k (a.mono r e) ih
theorem RVs.length {vs : List V} {ds : List D} : RVs K φ Z H vs ds → vs.length = ds.length
  | .nil => rfl
  | .cons _ q => by rw [List.length_cons, List.length_cons, RVs.length q]
theorem RVs.get : ∀ {vs : List V} {ds : List D} {i : Nat} {v : V}, RVs K φ Z H vs ds → vs[i]? = some v → ∃ d, ds[i]? = some d ∧ RV K φ Z H v d
  | _, _, _, _, .nil, e => by simp at e
  | _, _, 0, _, .cons r _, e => by simp at e; subst e; exact ⟨_, rfl, r⟩
  | _, _, i + 1, v, .cons _ t, e => by
    obtain ⟨u, h1, h2⟩ := RVs.get (i := i) (v := v) t (by simpa using e)
    exact ⟨u, by simpa using h1, h2⟩
theorem RVs.getD : ∀ {vs : List V} {ds : List D} {i : Nat} {d : D}, RVs K φ Z H vs ds → ds[i]? = some d → ∃ v, vs[i]? = some v ∧ RV K φ Z H v d
  | _, _, _, _, .nil, e => by simp at e
  | _, _, 0, _, .cons r _, e => by simp at e; subst e; exact ⟨_, rfl, r⟩
  | _, _, i + 1, d, .cons _ t, e => by
    obtain ⟨u, h1, h2⟩ := RVs.getD (i := i) (d := d) t (by simpa using e)
    exact ⟨u, by simpa using h1, h2⟩
theorem RVs.append : ∀ {xs ys : List V} {ds es : List D}, RVs K φ Z H xs ds → RVs K φ Z H ys es → RVs K φ Z H (xs ++ ys) (ds ++ es)
  | _, _, _, _, .nil, s => s
  | _, _, _, _, .cons r t, s => .cons r (RVs.append t s)
theorem RVs.set {v : V} {d : D} (r : RV K φ Z H v d) : ∀ {xs : List V} {ds : List D} (i : Nat), RVs K φ Z H xs ds → RVs K φ Z H (xs.set i v) (ds.set i d)
  | _, _, _, .nil => .nil
  | _, _, 0, .cons _ t => .cons r t
  | _, _, i + 1, .cons q t => .cons q (RVs.set r i t)
theorem RVs.take : ∀ {xs : List V} {ds : List D} (n : Nat), RVs K φ Z H xs ds → RVs K φ Z H (xs.take n) (ds.take n)
  | _, _, 0, _ => .nil
  | _, _, _ + 1, .nil => .nil
  | _, _, n + 1, .cons r t => .cons r (RVs.take n t)
theorem RVs.drop : ∀ {xs : List V} {ds : List D} (n : Nat), RVs K φ Z H xs ds → RVs K φ Z H (xs.drop n) (ds.drop n)
  | _, _, 0, r => r
  | _, _, _ + 1, .nil => .nil
  | _, _, n + 1, .cons _ t => RVs.drop n t
theorem RVs.rev {xs : List V} {ds : List D} (h : RVs K φ Z H xs ds) : RVs K φ Z H xs.reverse ds.reverse := by
  induction xs generalizing ds with
  | nil => cases h; exact .nil
  | cons x xs ih => cases h with | cons r t => rw [List.reverse_cons, List.reverse_cons]; exact (ih t).append (.cons r .nil)
theorem RVs.eraseIdx : ∀ {xs : List V} {ds : List D} (i : Nat), RVs K φ Z H xs ds → RVs K φ Z H (xs.eraseIdx i) (ds.eraseIdx i)
  | _, _, _, .nil => .nil
  | _, _, 0, .cons _ t => t
  | _, _, i + 1, .cons q t => .cons q (RVs.eraseIdx i t)
theorem RVs.dropLast {xs : List V} {ds : List D} (h : RVs K φ Z H xs ds) : RVs K φ Z H xs.dropLast ds.dropLast := by
  rw [List.dropLast_eq_take, List.dropLast_eq_take, h.length]; exact h.take _
theorem RVs.nilD {vs : List V} (h : RVs K φ Z H vs []) : vs = [] := by cases h; rfl
theorem RVs.oneD {vs : List V} {d : D} (h : RVs K φ Z H vs [d]) : ∃ v, vs = [v] ∧ RV K φ Z H v d := by
  cases h with | cons r t => cases t; exact ⟨_, rfl, r⟩
theorem RVs.twoD {vs : List V} {d e : D} (h : RVs K φ Z H vs [d, e]) : ∃ v u, vs = [v, u] ∧ RV K φ Z H v d ∧ RV K φ Z H u e := by
  cases h with | cons r t => obtain ⟨u, rfl, q⟩ := t.oneD; exact ⟨_, _, rfl, r, q⟩

/-! ### the reserved addresses -/
mutual
theorem RV.addZ {a : Addr} (n : H a = none) : ∀ {v : V} {d : D}, RV K φ Z H v d → RV K φ (a :: Z) H v d
  | _, _, .non => .non
  | _, _, .bl b => .bl b
  | _, _, .int i => .int i
  | _, _, .str s => .str s
  | _, _, .tup h q => .tup h (RVs.addZ n q)
  | _, _, .lv h m z q => .lv h m (by
      intro k
      rcases List.mem_cons.mp k with k | k
      · rw [k, n] at h; cases h
      · exact z k) (RVs.addZ n q)
  | _, _, .ro h q => .ro (h.imp (fun ⟨x, b, c⟩ => ⟨x, b, by
      intro k
      rcases List.mem_cons.mp k with k | k
      · rcases x with x | ⟨o, x⟩ <;> rw [k, n] at x <;> cases x
      · exact c k⟩) id) (RVs.addZ n q)
  | _, _, .ref h => .ref h
theorem RVs.addZ {a : Addr} (n : H a = none) : ∀ {vs : List V} {ds : List D}, RVs K φ Z H vs ds → RVs K φ (a :: Z) H vs ds
  | _, _, .nil => .nil
  | _, _, .cons h q => .cons (RV.addZ n h) (RVs.addZ n q)
end
mutual
theorem RV.dropZ {a : Addr} : ∀ {v : V} {d : D}, RV K φ (a :: Z) H v d → RV K φ Z H v d
  | _, _, .non => .non
  | _, _, .bl b => .bl b
  | _, _, .int i => .int i
  | _, _, .str s => .str s
  | _, _, .tup h q => .tup h (RVs.dropZ q)
  | _, _, .lv h m z q => .lv h m (fun k => z (List.mem_cons_of_mem _ k)) (RVs.dropZ q)
  | _, _, .ro h q => .ro (h.imp (fun ⟨x, b, c⟩ => ⟨x, b, fun k => c (List.mem_cons_of_mem _ k)⟩) id) (RVs.dropZ q)
  | _, _, .ref h => .ref h
theorem RVs.dropZ {a : Addr} : ∀ {vs : List V} {ds : List D}, RVs K φ (a :: Z) H vs ds → RVs K φ Z H vs ds
  | _, _, .nil => .nil
  | _, _, .cons h q => .cons (RV.dropZ h) (RVs.dropZ q)
end
mutual
/-- a reserved address becomes one of the store's -/
theorem RV.toφ {a : Addr} : ∀ {v : V} {d : D}, RV K φ (a :: Z) H v d → RV K (φ ++ [a]) Z H v d
  | _, _, .non => .non
  | _, _, .bl b => .bl b
  | _, _, .int i => .int i
  | _, _, .str s => .str s
  | _, _, .tup h q => .tup h (RVs.toφ q)
  | _, _, .lv h m z q => .lv h (by
      intro k
      rcases List.mem_append.mp k with k | k
      · exact m k
      · exact z (by rw [List.mem_singleton.mp k]; exact List.mem_cons_self)) (fun k => z (List.mem_cons_of_mem _ k)) (RVs.toφ q)
  | _, _, .ro h q => .ro (h.imp (fun ⟨x, m, z⟩ => ⟨x, by
      intro k
      rcases List.mem_append.mp k with k | k
      · exact m k
      · exact z (by rw [List.mem_singleton.mp k]; exact List.mem_cons_self), fun k => z (List.mem_cons_of_mem _ k)⟩) id) (RVs.toφ q)
  | _, _, .ref h => .ref (by
      obtain ⟨hn, _⟩ := List.getElem?_eq_some_iff.mp h
      rw [List.getElem?_append_left hn]; exact h)
theorem RVs.toφ {a : Addr} : ∀ {vs : List V} {ds : List D}, RVs K φ (a :: Z) H vs ds → RVs K (φ ++ [a]) Z H vs ds
  | _, _, .nil => .nil
  | _, _, .cons h q => .cons (RV.toφ h) (RVs.toφ q)
end
theorem RFs.imp {H2 : Hp} {φ2 Z2 : List Addr} (f : ∀ v d, RV K φ Z H v d → RV K φ2 Z2 H2 v d) {vs : List (Str × V)} {ds : List (Str × D)} (h : RFs K φ Z H vs ds) : RFs K φ2 Z2 H2 vs ds := by
  induction h with
  | nil => exact .nil
  | cons a _ ih => exact .cons (f _ _ a) ih
theorem RKs.imp {H2 : Hp} {φ2 Z2 : List Addr} (f : ∀ v d, RV K φ Z H v d → RV K φ2 Z2 H2 v d) {vs : List (Key × V)} {ds : List (D × D)} (h : RKs K φ Z H vs ds) : RKs K φ2 Z2 H2 vs ds := by
  induction h with
  | nil => exact .nil
  | cons k a _ ih => exact .cons k (f _ _ a) ih
theorem RTs.imp {H2 : Hp} {φ2 Z2 : List Addr} (f : ∀ v d, RV K φ Z H v d → RV K φ2 Z2 H2 v d) {xs : List (NestedKey × Addr × Value)} {ds : List (D × D)} (h : RTs K φ Z H xs ds) : RTs K φ2 Z2 H2 xs ds := by
  induction h with
  | nil => exact .nil
  | cons k kd a r b _ ih => exact .cons k kd (f _ _ a) r (f _ _ b) ih
theorem RVs.imp {H2 : Hp} {φ2 Z2 : List Addr} (f : ∀ v d, RV K φ Z H v d → RV K φ2 Z2 H2 v d) : ∀ {vs : List V} {ds : List D}, RVs K φ Z H vs ds → RVs K φ2 Z2 H2 vs ds
  | _, _, .nil => .nil
  | _, _, .cons a q => .cons (f _ _ a) (RVs.imp f q)
theorem RO.imp {H2 : Hp} {φ2 Z2 : List Addr} {a : Addr} {o : Ob} (h : RO K mg φ Z H a o) (e : H2 a = H a) (f : ∀ v d, RV K φ Z H v d → RV K φ2 Z2 H2 v d) : RO K mg φ2 Z2 H2 a o := by
  cases h with
  | lst x q => exact .lst (e.trans x) (q.imp f)
  | dk x q => exact .dk (e.trans x) (q.imp f)
  | dt x q1 q2 q3 q4 q5 q6 q7 q8 => exact .dt (e.trans x) q1 q2 q3 q4 q5 q6 q7 (q8.imp f)
  | ins c x q => exact .ins c (e.trans x) (q.imp f)

theorem RepS.addZ {a : Addr} {o : HO} (r : RepS K mg φ Z S H) (n : H a = none) : RepS K mg φ (a :: Z) S (upd H a o) := by
  have na : a ∉ φ := fun m => r.there m n
  refine ⟨r.len, r.nd, fun i b ob h1 h2 => ?_, fun z hz => ?_⟩
  · have nb : b ≠ a := fun e => na (by rw [← e]; exact List.mem_of_getElem? h1)
    exact (r.ob i b ob h1 h2).imp (upd_ne nb) fun v d q => by
      have e : Ex φ H φ (upd H a o) := Ex.of_same n
      -- first a is reserved, then laid
      exact (q.addZ n).mono r.nt e
  · rcases List.mem_cons.mp hz with rfl | hz
    · exact ⟨na, by rw [upd_same]; simp⟩
    · obtain ⟨z1, z2⟩ := r.zs z hz
      refine ⟨z1, ?_⟩
      by_cases e : z = a
      · rw [e, upd_same]; simp
      · rw [upd_ne e]; exact z2
end
end MP

/-! MP, part x: defs that may show values (repr): a promise for every surrounding in which nothing is being shown. -/
namespace MP
open PySem PySem.Spec PyProof.Rows L2
/-- a tuple laid new -/
abbrev NewT (H : Hp) (Q : VK) (xs : List V) : Prop := ∀ (p : Addr) (o : Obj), H p = none → o.dict = none → Q (.ref p) (upd H p (.frz o (.tup xs)))
section
variable {X : Cx}
theorem lay_tup {pins : List (Addr × Obj)} {σ : L2.St} {H : Hp} {s : Shared} {xs : List V} {its : List Value} {Q : VK} (I : Inv X pins σ H s) (r : Vals xs its) (hz : xs.length ≤ sizeLine) (q : NewT H Q xs) :
    EP X pins σ Q (.ref s.heap.objs.size) { s with heap := s.heap.push { cls := .type "tuple", data := .seq its.toArray } } := by
  refine ⟨.ref s.heap.objs.size, _, I.laid (t' := s.toks) (o := .frz { cls := .type "tuple", data := .seq its.toArray } (.tup xs)) (fun b ob z => Heap.get?_push_of_some _ z) (Nat.le_refl _) ?_, rfl, q _ _ (I.hok.fresh (Nat.le_refl _)) rfl⟩
  exact ⟨Heap.get?_push_size _ rfl, hz, its, r, IsTup.new _ _⟩
theorem pe_tupE {es : List Expr} {k : Nat} {pos : Pos} {t : TA} (h : PA X es t) : PE X (.Tuple es k pos) (fun σ H Q => t σ H fun vs H1 => vs.length ≤ sizeLine ∧ NewT H1 Q vs) :=
  ⟨fun pins s σ H Q I hq => wpAny_Tuple_spliced (thn (h.run pos pins s σ H _ I hq) fun us s1 ⟨xs, H1, I1, r, z, q⟩ => ⟨by rw [← r.length]; exact z, lay_tup I1 r z q⟩)⟩
def rCatE (K : PySem.W.Frag) : R2 := fun x y H Q => ∃ a b xs ys, x = .ref a ∧ y = .ref b ∧ SqT K H a xs ∧ SqT K H b ys ∧ xs.length + ys.length ≤ sizeLine ∧
  (xs = [] → Q (.ref b) H) ∧ (xs ≠ [] → ys = [] → Q (.ref a) H) ∧ (xs ≠ [] → ys ≠ [] → NewT H Q (xs ++ ys))
theorem op_catE : OpR X (binaryOp .Add) (rCatE X.K) := by
  rintro pins s σ H x y v u Q I rx ry ⟨a, b, xs, ys, rfl, rfl, ha, hb, hz, q0, q1, q2⟩
  cases rx
  cases ry
  obtain ⟨us, r1, p1, _⟩ := I.tuple ha
  obtain ⟨ws, r2, p2, _⟩ := I.tuple hb
  by_cases hx : xs = []
  · subst hx
    cases r1
    exact cat_tup0 p1 p2 ⟨.ref b, H, I, rfl, q0 rfl⟩
  · refine HT.cat_tup p1 p2 (fun z => hx (r1.nil_iff.mp z)) (fun z => ⟨.ref a, H, I, rfl, q1 hx (r2.nil_iff.mp z)⟩) (fun z => ?_) (by rw [← r1.length, ← r2.length]; exact hz)
    exact lay_tup I (r1.append r2) (by rw [List.length_append]; exact hz) (q2 hx fun w => z (r2.nil_iff.mpr w))
def rSlE (K : PySem.W.Frag) : V → Option Int → Option Int → Hp → VK → Prop := fun x lo hi H Q => ∃ a xs, x = .ref a ∧ SqT K H a xs ∧
  (HT.sIx xs.length 0 lo = 0 ∧ HT.sIx xs.length xs.length hi = xs.length → Q (.ref a) H) ∧ (¬ (HT.sIx xs.length 0 lo = 0 ∧ HT.sIx xs.length xs.length hi = xs.length) → NewT H Q (cutV xs lo hi))
theorem sl_tupE : L2.SlR X (rSlE X.K) := by
  rintro pins s σ H x v vl vu lo hi sl Q I rx hs pl pu ⟨a, xs, rfl, hx, q1, q2⟩
  cases rx
  obtain ⟨us, r, ht, hz⟩ := I.tuple hx
  have ln : us.toArray.size = xs.length := by rw [List.size_toArray]; exact r.length.symm
  refine ⟨"tuple", _, PyProof.Rows.slot_tuple_getitem.lookup, ht.typeIs, ?_⟩
  by_cases hw : HT.sIx xs.length 0 lo = 0 ∧ HT.sIx xs.length xs.length hi = xs.length
  · exact getItem_tuple_whole ht hs pl pu (by rw [ln]; exact hw) ⟨.ref a, H, I, rfl, q1 hw⟩
  · refine HT.getItem_tuple_cut ht hs pl pu (by rw [ln]; exact hw) ?_ (by rw [ln]; exact hz)
    rw [ln]
    exact lay_tup I ((r.drop (HT.sIx xs.length 0 lo)).take (HT.sIx xs.length xs.length hi - HT.sIx xs.length 0 lo)) (Nat.le_trans (cutV_length xs lo hi) hz) (q2 hw)
theorem call_tuple_ofE : CallR X (.type "tuple") (fun xs H Q => ∃ p ys, xs = [.ref p] ∧ ((SqL X.K H p ys ∧ NewT H Q ys) ∨ (SqT X.K H p ys ∧ Q (.ref p) H))) := by
  rintro pins s σ H xs us Q I r ⟨p, ys, rfl, h⟩
  obtain ⟨u, rfl, rx⟩ := vals1 r
  cases rx
  rcases h with ⟨hq, q⟩ | ⟨hq, q⟩
  · obtain ⟨ws, r2, pl, hz⟩ := I.list hq
    have ln := r2.length
    refine call_tuple_list pl.isList (fun h2 kp => ?_) (by simp only [List.size_toArray] <;> omega)
    have I1 : Inv X pins σ H { s with heap := h2 } := I.kept (t' := s.toks) kp
    exact lay_tup I1 r2 hz q
  · obtain ⟨ws, r2, pl, hz⟩ := I.tuple hq
    exact call_tuple_same pl ⟨.ref p, H, I, rfl, q⟩
def rRepTE (K : PySem.W.Frag) : R2 := fun x y H Q => ∃ l k xs, x = .ref l ∧ y = .int k ∧ SqT K H l xs ∧ xs ≠ [] ∧ 2 ≤ k ∧ k ≤ 1000 ∧ xs.length ≤ 1000 ∧ NewT H Q (List.replicate k.toNat xs).flatten
theorem op_repTE : OpR X (binaryOp .Mult) (rRepTE X.K) := by
  rintro pins s σ H x y v u Q I rx ry ⟨l, k, xs, rfl, rfl, hT, hne, h1, h2, hz, q⟩
  cases rx
  obtain ⟨t, rfl⟩ := ry
  obtain ⟨ws, r, ⟨⟨cls, dd, dat, sl⟩, ho, hc, n, hd⟩, _⟩ := I.tuple hT
  simp only at hc hd
  subst hc hd
  have ln : ws.length = xs.length := r.length.symm
  have some_ : ws.toArray.isEmpty = false := by
    cases r with
    | nil => exact absurd rfl hne
    | cons _ _ => rfl
  have sz : ws.toArray.size = xs.length := by rw [List.size_toArray, ln]
  have few : ((ws.toArray.size : Nat) : Int) * k ≤ 1000000 := by
    rw [sz]
    have : ((xs.length : Nat) : Int) * k ≤ 1000 * k := Int.mul_le_mul_of_nonneg_right (by omega) (by omega)
    omega
  have all : ∀ {α : Type} (ys : List α), ys.length = xs.length → (List.replicate k.toNat ys).flatten.length ≤ sizeLine := fun ys e => by
    rw [PyProof.Rows.lm_len_rep_flat, e, sizeLine_eq]
    have : k.toNat * xs.length ≤ 1000 * 1000 := Nat.mul_le_mul (by omega) hz
    omega
  have c0 : (decide (k < -(2 ^ 63)) || decide (k ≥ 2 ^ 63)) = false := by
    rw [decide_eq_false (by omega), decide_eq_false (by omega)] <;> rfl
  have c1 : (ws.toArray.isEmpty || k == 1) = false := by rw [some_, Bool.false_or]; exact beq_eq_false_iff_ne.mpr (by omega)
  have c2 : (decide (k ≤ 0) || ws.toArray.isEmpty) = false := by rw [some_, Bool.or_false]; exact decide_eq_false (by omega)
  have c4 : Builtin.Tuple.tupleTooMany (((ws.toArray.size : Nat) : Int) * k) = false := by unfold Builtin.Tuple.tupleTooMany; rw [sizeLine_eq]; exact decide_eq_false (by omega)
  have mul := tuple_mulW l ws.toArray n dd sl k t c0 c1 c2 (by omega) c4 (by rw [size_rep, List.size_toArray]; exact all _ ln)
  refine wpAny_binaryOp_repeat_ref (T := "tuple") (U := "int") (by decide) ⟨_, ho, rfl⟩ (fun s2 => typeIs_int s2 k t) noFill_tuple_mul PySem.F.fills_int_mul PySem.F.slot_int_rmul repeat_tuple PySem.F.slot_int_index.lookup
    (call_meets PySem.F.slot_int_rmul (typeIs_int s k t) PySem.F.entry_int_rmul (PySem.F.args_int_rmul_2 _ _) (int_rmul_tuple k t l ws.toArray n dd sl)
      ⟨ho, rfl, ⟨_, ho, rfl⟩, call_meets PySem.F.slot_tuple_mul ⟨_, ho, rfl⟩ PySem.F.entry_tuple_mul (PySem.F.args_tuple_mul_2 _ _) mul ⟨ho, ?_⟩⟩)
  rw [size_rep]
  exact lay_tup I (r.rep k.toNat) (all _ rfl) q
end
structure FnG (P : Program) (w : World) (K : PySem.W.Frag) (mg : Str → Option Value) (base : Heap) (CX : CXT) (k : Nat) (f : Addr) (fd : FuncData) (ps : List Str) (sp : Sp) : Prop where
  len : ∀ xs Hh G F, sp xs Hh G F → xs.length = ps.length
  run : ∀ (B : Around) (out : List Env) (t : Shared) (Hh : Hp) (as : Args) (ws : List Value) (xs : List V) (G : VK) (F : XK), B.guards = some [] → Room k B → Env0 P w K mg base B out t Hh → BindsTo t fd as (ps.zip ws) → Vals xs ws → sp xs Hh G F →
    codeAny (model P w) B (.call (.ref f) as) (CR CX out P w Hh t G F) t
section
variable {P : Program} {w : World} {K : PySem.W.Frag} {mg : Str → Option Value} {base : Heap} {CX : CXT} {j k : Nat} {f : Addr} {fd : FuncData} {ps : List Str} {sp sp2 : Sp}
theorem FnG.mono (Z : FnG P w K mg base CX j f fd ps sp) (h : j ≤ k) : FnG P w K mg base CX k f fd ps sp := ⟨Z.len, fun B out t Hh as ws xs G F g rm => Z.run B out t Hh as ws xs G F g (rm.mono h)⟩
theorem FnG.imp (Z : FnG P w K mg base CX k f fd ps sp) (h : ∀ xs Hh G F, sp2 xs Hh G F → sp xs Hh G F) : FnG P w K mg base CX k f fd ps sp2 :=
  ⟨fun xs Hh G F q => Z.len xs Hh G F (h _ _ _ _ q), fun B out t Hh as ws xs G F g rm e b r q => Z.run B out t Hh as ws xs G F g rm e b r (h _ _ _ _ q)⟩
end
section
variable {X : Cx} {CX : CXT} {k : Nat} {f C : Addr} {fd : FuncData} {ps : List Str} {sp : Sp} {dvs : List V} {ds : List Value} {E : XK} {x m : Str} {p pos apos : Pos} {e o : Expr} {es : List Expr} {ta : TE} {t : TA}
theorem run_fg {pins : List (Addr × Obj)} {σ : L2.St} {H : Hp} {t : Shared} {G : VK} {ws : List Value} {xs : List V} (Z : FnG X.prog X.w X.K X.mg X.base CX k f fd ps sp) (hg : X.A.guards = some []) (rm : Room k X.A) (bi : Binds X.K fd ps ds) (vd : Vals dvs ds) (pp : Passes CX X E)
    (J : Inv X pins σ H t) (rv : Vals xs ws) (q : sp (xs ++ dvs) H G E) : wpAny (model X.prog X.w) X.A (call (.ref f) ws) (EP X pins σ G) X.xe t := by
  have rv2 : Vals (xs ++ dvs) (ws ++ ds) := rv.append vd
  have ln : (ws ++ ds).length = ps.length := by rw [← rv2.length]; exact Z.len _ _ _ _ q
  refine wpAny_call (codeAny_mono (Z.run X.A X.stack t H ⟨ws, []⟩ (ws ++ ds) (xs ++ dvs) G E hg rm J.env0 (bi t ws J.kIn ln) rv2 q) fun res t2 got => ?_)
  cases res with
  | error y => exact pp pins σ H t y t2 J got
  | ok way =>
    cases way with
    | ret z => exact J.after got
    | _ => exact False.elim got
theorem pg_call (Z : FnG X.prog X.w X.K X.mg X.base CX k f fd ps sp) (hgu : X.A.guards = some []) (rm : Room k X.A) (gl : Gl X x) (mm : X.mg x = some (.ref f)) (kp : PySem.W.keepIn X.K (.ref f) = true) (bi : Binds X.K fd ps ds) (vd : Vals dvs ds) (pp : Passes CX X E)
    (as : PA X (e :: es) t) (nd : (x == ("__debug__" : Str)) = false := by decide) (se : starEach (e :: es) X.env = (false, eval e X.env) :: starEach es X.env := by rfl) (pl : (backTo pos (starEach es X.env)).any (·.1) = false := by rfl) :
    PE X (.Call (.Name x p) (e :: es) [] pos) (tCall sp dvs E t) := ⟨fun pins t0 σ H G J q => wpAny_Call_Name_kw (ld_glob J gl mm
      (PySem.W.callWith_K (h₀ := X.base) J.ok.mod.kin kp (thn (as.run pos pins t0 σ H _ J q) fun ws t1 ⟨xs, H1, J1, rv, q1⟩ => ⟨J1.kIn, run_fg Z hgu rm bi vd pp J1 rv q1⟩) se pl) nd)⟩
theorem pg_call0 (Z : FnG X.prog X.w X.K X.mg X.base CX k f fd ps sp) (hgu : X.A.guards = some []) (rm : Room k X.A) (gl : Gl X x) (mm : X.mg x = some (.ref f)) (kp : PySem.W.keepIn X.K (.ref f) = true) (bi : Binds X.K fd ps ds) (vd : Vals dvs ds) (pp : Passes CX X E)
    (nd : (x == ("__debug__" : Str)) = false := by decide) : PE X (.Call (.Name x p) [] [] pos) (tCall sp dvs E tNil) := ⟨fun pins t0 σ H G J q => wpAny_Call_Name_kw (ld_glob J gl mm
      (PySem.W.callWith_K0 J.kIn kp (run_fg (ws := []) Z hgu rm bi vd pp J .nil q)) nd)⟩
theorem pg_meth {pl : Sem Bool} (he : PE X o ta) (cl : Cls X.K C) (me : Meth X.K C m f) (Z : FnG X.prog X.w X.K X.mg X.base CX k f fd ps sp) (hgu : X.A.guards = some []) (rm : Room k X.A) (bi : Binds X.K fd ps ds) (vd : Vals dvs ds) (pp : Passes CX X E) (as : PA X (e :: es) t)
    (se : starEach (e :: es) X.env = (false, eval e X.env) :: starEach es X.env := by rfl) (npl : (backTo pos (starEach es X.env)).any (·.1) = false := by rfl)
    (way : eval (.Call (.Attribute o m apos) (e :: es) [] pos) X.env = (do
      let ov ← eval o X.env
      standAt apos.atName
      let (f, first) ← holding [ov] (getMethod ov m pl)
      callWith pos f first (backTo pos (starEach (e :: es) X.env)) (backToKw pos (keywordEach [] X.env))) := by rfl) :
    PE X (.Call (.Attribute o m apos) (e :: es) [] pos) (tMeth C m sp dvs E ta t) := by
  refine ⟨fun pins t0 σ H G J q => ?_⟩
  refine PySem.W.methodCall_KW (pl := pl) (thn (he.run pins t0 σ H _ J q) fun z t1 ⟨y, H1, J1, ry, a, dx, fs, ey, ea, no, q1⟩ => ?_) way
  subst ey
  obtain rfl : z = Value.ref a := ry
  refine getmeth_ok J1 ea cl me no ?_
  refine PySem.W.callWith_K (first := [.ref a]) (h₀ := X.base) J.ok.mod.kin me.kp (thn (as.run pos pins t1 σ H1 _ J1 q1) fun ws t2 ⟨xs, H2, J2, rv, q2⟩ => ⟨J2.kIn, ?_⟩) se npl
  exact run_fg (ws := .ref a :: ws) (xs := .ref a :: xs) Z hgu rm bi vd pp J2 (.cons rfl rv) q2
theorem pg_meth0 {pl : Sem Bool} (he : PE X o ta) (cl : Cls X.K C) (me : Meth X.K C m f) (Z : FnG X.prog X.w X.K X.mg X.base CX k f fd ps sp) (hgu : X.A.guards = some []) (rm : Room k X.A) (bi : Binds X.K fd ps ds) (vd : Vals dvs ds) (pp : Passes CX X E)
    (way : eval (.Call (.Attribute o m apos) [] [] pos) X.env = (do
      let ov ← eval o X.env
      standAt apos.atName
      let (f, first) ← holding [ov] (getMethod ov m pl)
      callWith pos f first (backTo pos (starEach [] X.env)) (backToKw pos (keywordEach [] X.env))) := by rfl) :
    PE X (.Call (.Attribute o m apos) [] [] pos) (tMeth C m sp dvs E ta tNil) := by
  refine ⟨fun pins t0 σ H G J q => ?_⟩
  refine PySem.W.methodCall_KW (pl := pl) (thn (he.run pins t0 σ H _ J q) fun z t1 ⟨y, H1, J1, ry, a, dx, fs, ey, ea, no, q1⟩ => ?_) way
  subst ey
  obtain rfl : z = Value.ref a := ry
  refine getmeth_ok J1 ea cl me no ?_
  exact PySem.W.callWith_K0 (first := [.ref a]) J1.kIn me.kp (run_fg (ws := [.ref a]) (xs := [.ref a]) Z hgu rm bi vd pp J1 (.cons rfl .nil) q1)
theorem make_guards {A : Around} {C : Addr} {us : List Value} (h : A.guards = some []) : (A.under (.builtin "type.__call__" ⟨.ref C :: us, []⟩)).guards = some [] := by
  first | exact h | (simp [Around.under, Code.guards, Code.isGuard, guardIds, pushGuards, h])
theorem run_mg {pins : List (Addr × Obj)} {σ : L2.St} {H : Hp} {t : Shared} {G : VK} {ws : List Value} {xs : List V} (M : Mk X.K C f) (Z : FnG X.prog X.w X.K X.mg X.base CX k f fd ps sp) (hgu : X.A.guards = some []) (rm : Room (k + 1) X.A) (bi : Binds X.K fd ps ds) (vd : Vals dvs ds) (pp : Passes CX X E)
    (J : Inv X pins σ H t) (rv : Vals xs ws)
    (q : ∀ a dx, H a = none → H dx = none → dx ≠ a → sp (.ref a :: (xs ++ dvs)) (upd (upd H dx (.own a)) a (.ins C dx [])) (fun z H2 => z = .non ∧ G (.ref a) H2) E) :
    wpAny (model X.prog X.w) X.A (call (.ref C) ws) (EP X pins σ G) X.xe t := by
  have q1 := q (t.heap.objs.size + 1) t.heap.objs.size (J.hok.fresh (Nat.le_succ _)) (J.hok.fresh (Nat.le_refl _)) (Nat.ne_of_lt (Nat.lt_succ_self _))
  have J2 := Inv.made (C := C) J
  have rv2 : Vals (V.ref (t.heap.objs.size + 1) :: (xs ++ dvs)) (Value.ref (t.heap.objs.size + 1) :: (ws ++ ds)) := .cons rfl (rv.append vd)
  have ln : (Value.ref (t.heap.objs.size + 1) :: ws ++ ds).length = ps.length := (rv2.length.symm.trans (Z.len _ _ _ _ q1))
  have go := Z.run _ X.stack _ _ ⟨Value.ref (t.heap.objs.size + 1) :: ws, []⟩ (Value.ref (t.heap.objs.size + 1) :: (ws ++ ds)) _ _ E (make_guards hgu) (rm.make C ws []) (J2.env0.make C ws []) (bi _ (Value.ref (t.heap.objs.size + 1) :: ws) J2.kIn ln) rv2 q1
  refine wpAny_call (make_map (f := f) J.kIn M.makes M.init (beq_iff_eq.mp M.fn) (codeAny_mono go fun res t2 got => ?_))
  cases res with
  | error y => exact pp pins σ _ _ y t2 J2 got
  | ok way =>
    cases way with
    | ret z =>
      obtain ⟨v, H3, J3, rz, ez, q3⟩ := J2.after got
      subst ez
      exact ⟨rz, ⟨V.ref (t.heap.objs.size + 1), H3, J3, rfl, q3⟩⟩
    | _ => exact False.elim got
theorem pg_make (M : Mk X.K C f) (Z : FnG X.prog X.w X.K X.mg X.base CX k f fd ps sp) (hgu : X.A.guards = some []) (rm : Room (k + 1) X.A) (gl : Gl X x) (mm : X.mg x = some (.ref C)) (bi : Binds X.K fd ps ds) (vd : Vals dvs ds) (pp : Passes CX X E)
    (as : PA X (e :: es) t) (nd : (x == ("__debug__" : Str)) = false := by decide) (se : starEach (e :: es) X.env = (false, eval e X.env) :: starEach es X.env := by rfl) (pl : (backTo pos (starEach es X.env)).any (·.1) = false := by rfl) :
    PE X (.Call (.Name x p) (e :: es) [] pos) (tMake C sp dvs E t) := ⟨fun pins t0 σ H G J q => wpAny_Call_Name_kw (ld_glob J gl mm
      (PySem.W.callWith_K (h₀ := X.base) J.ok.mod.kin M.kp (thn (as.run pos pins t0 σ H _ J q) fun ws t1 ⟨xs, H1, J1, rv, q1⟩ => ⟨J1.kIn, run_mg M Z hgu rm bi vd pp J1 rv q1⟩) se pl) nd)⟩
theorem pg_make0 (M : Mk X.K C f) (Z : FnG X.prog X.w X.K X.mg X.base CX k f fd ps sp) (hgu : X.A.guards = some []) (rm : Room (k + 1) X.A) (gl : Gl X x) (mm : X.mg x = some (.ref C)) (bi : Binds X.K fd ps ds) (vd : Vals dvs ds) (pp : Passes CX X E)
    (nd : (x == ("__debug__" : Str)) = false := by decide) : PE X (.Call (.Name x p) [] [] pos) (tMake C sp dvs E tNil) := ⟨fun pins t0 σ H G J q => wpAny_Call_Name_kw (ld_glob J gl mm
      (PySem.W.callWith_K0 J.kIn M.kp (run_mg (ws := []) M Z hgu rm bi vd pp J .nil q)) nd)⟩
end
/-- a def's promise from its body -/
theorem fg_of {CX : CXT} {P : Program} {w : World} {K : PySem.W.Frag} {mg : Str → Option Value} {base : Heap} {k : Nat} {f : Addr} {name qual : Str} {params : Arguments} {body : List Stmt} {scope : Scope} {dV kV doc pm cdv ct oc : Value} {an od : Option Addr}
    {osl : Array (Option Value)} {N ps : List Str} {sp : Sp} (at_ : K.lookup f = some ⟨oc, od, .func (PySem.W.fnOf name qual params body scope dV kV doc pm an cdv ct), osl⟩) (cod : PySem.W.codeIn K cdv qual = true) (Sc : FnScope N ps scope)
    (ln : ∀ xs Hh G F, sp xs Hh G F → xs.length = ps.length)
    (bod : ∀ (B : Around) (out : List Env) (t : Shared) (Hh : Hp) (xs : List V) (G : VK) (F : XK), B.guards = some [] → Room k (B.deeper (envOfC qual scope t.heap.objs.size f cdv)) → sp xs Hh G F →
      ∃ ts, PSs (cxOf CX P w K mg base N qual scope f cdv B out t Hh F) body ts ∧ ts { nx := fun _ H2 => G .non H2, rt := G } (start N xs) Hh) :
    FnG P w K mg base CX (k + 1) f (PySem.W.fnOf name qual params body scope dV kV doc pm an cdv ct) ps sp := by
  refine ⟨ln, fun B out t Hh as ws xs G F gu rm en bi rv q => ?_⟩
  have lx := ln _ _ _ _ q
  have kin : K.In t.heap := en.mod.kin.keeps fun b o y => (en.bs b o y).1
  have lim : t.heap.NoLimit := en.mod.nolimit.keeps fun b o y => (en.bs b o y).1
  have kinds : ∀ y ∈ ps.zip ws, scope.names.lookup y.1 = some .local ∨ (scope.names.lookup y.1 = some .cell ∧ ((cellsFrom (t.heap.objs.size + 1) scope.names []).lookup y.1).isSome = true) := fun ⟨n, v⟩ hy =>
    (Sc.par n (List.of_mem_zip hy).1).elim .inl fun c => .inr ⟨c, PySem.W.cellsFrom_some _ _ _ (.inl c)⟩
  refine codeAny_call_function rm.depth (kin _ _ at_) rfl Sc.co Sc.gen rfl (PySem.W.codeRec_of kin cod) (bi _ _ _ _ ?_)
  refine wpAny_newFunctionEnv_cells Sc.kind kinds fun env ev t1 inC => ?_
  subst ev
  refine ⟨lim.keeps inC.toInCall.keep, codeAny_func ?_⟩
  obtain ⟨ts, pt, qt⟩ := bod B out t Hh xs G F gu (rm.deeper _) q
  have J : Inv (cxOf CX P w K mg base N qual scope f cdv B out t Hh F) [] (start N xs) Hh t1 := inv_start Sc rm.hd en lx rv inC
  have fin : ∀ {t2 : Shared} {σ2 : L2.St} {H2 : Hp} {v : V} {z : Value}, Inv (cxOf CX P w K mg base N qual scope f cdv B out t Hh F) [] σ2 H2 t2 → RelV v z → G v H2 → CE out P w Hh t G z t2 :=
    fun {t2 σ2 H2 v z} J2 rz g => ⟨v, H2, J2.os, J2.bare, J2.base, J2.hok, rz, g⟩
  refine wpAny_mono (pt.run [] t1 (start N xs) Hh _ J qt) (fun way t2 got => ?_) fun y t2 got => got
  cases way with
  | ret z =>
    obtain ⟨v, σ2, H2, J2, rz, g⟩ := got
    exact fin J2 rz g
  | next =>
    obtain ⟨σ2, H2, J2, g⟩ := got
    exact fin (v := V.non) (z := Value.none) J2 rfl g
  | _ =>
    obtain ⟨_, _, _, g⟩ := got
    exact False.elim g
section
variable {P : Program} {w : World} {K : PySem.W.Frag} {mg : Str → Option Value} {base : Heap}
theorem fun_okG {x qual : Str} {st : Stmt} {f : Addr} {fd : FuncData} {N ps : List Str} {k : Nat} {sp : Sp} (Z : Fun K x qual st f fd) (Sc : FnScope N ps (defScope st)) (ln : ∀ xs Hh G F, sp xs Hh G F → xs.length = ps.length)
    (bod : ∀ (cdv : Value) (B : Around) (out : List Env) (t : Shared) (Hh : Hp) (xs : List V) (G : VK) (F : XK), B.guards = some [] → Room k (B.deeper (envOfC qual (defScope st) t.heap.objs.size f cdv)) → sp xs Hh G F →
      ∃ ts, PSs (cxOf (L2.CX P w) P w K mg base N qual (defScope st) f cdv B out t Hh F) (defBody st) ts ∧ ts { nx := fun _ H2 => G .non H2, rt := G } (start N xs) Hh) : FnG P w K mg base (L2.CX P w) (k + 1) f fd ps sp := by
  obtain ⟨oc, od, kV, doc, pm, an, cdv, ct, osl, rfl, at_, cod⟩ := Z.ex
  exact fg_of at_ cod Sc ln fun B out t Hh xs G F gu rm q => bod cdv B out t Hh xs G F gu rm q
end
/-- the law's call -/
theorem law_callG {P : Program} {w : World} {K : PySem.W.Frag} {mg mb : Str → Option Value} {CX : CXT} {k : Nat} {fa a : Addr} {fd : FuncData} {x : Str} {sp : Sp} {t : Shared} {us : List Value} {ns : List Int}
    (kin : K.In t.heap) (gm : t.heap.Ns mainGlobals mg) (gb : t.heap.Ns builtinsNs mb) (gbb : ∀ x : Str, x ≠ "__name__" → mb x = bootBuiltins x) (lim : t.heap.NoLimit) (noGen : t.gens = #[])
    (scr : t.heap.get? a = some { cls := .type "list", data := .seq us.toArray }) (itn : IntsAre us ns) (few : ns.length ≤ sizeLine) (rm : Room k callerA)
    (Z : ∀ base : Heap, K.In base → base.Ns mainGlobals mg → FnG P w K mg base CX k fa fd [x] sp) (bi : ∀ (s : Shared) (u : Value), BindsTo s fd ⟨[u], []⟩ [(x, u)])
    (ask : ∀ H : Hp, Only H → SqL K H a (ns.map V.int) → sp [.ref a] H (fun v _ => v = .bl true) fun _ _ _ => False)
    (noX : ∀ H y s', CX [] H t (fun _ _ _ => False) y s' → False) :
    codeAny (model P w) callerA (.call (.ref fa) ⟨[.ref a], []⟩) (fun r s' => r = .ok (.ret (.bool true)) ∧ OldK t.heap s'.heap ∧ s'.os = t.os ∧ AllBare s'.gens) t := by
  have rv := vals_ints itn
  have many := itn.length
  have main : ∀ H : Hp, Only H → SqL K H a (ns.map V.int) → HOk P w H t.heap → (∀ c, H c ≠ none → c = a) → (H a ≠ none → K.lookup a = none) →
      codeAny (model P w) callerA (.call (.ref fa) ⟨[.ref a], []⟩) (fun r s' => r = .ok (.ret (.bool true)) ∧ OldK t.heap s'.heap ∧ s'.os = t.os ∧ AllBare s'.gens) t := by
    intro H only sq hok onlyA notK
    have under : ∀ {c : Addr} {u : Obj}, t.heap.get? c = some u → H c = none → (hidT t.heap H).get? c = some u := fun y n => hidT_get y n
    have free : ∀ {c : Addr} {u : Obj}, t.heap.get? c = some u → (c = a → False) → H c = none := fun {c u} y n => by
      cases z : H c with
      | none => rfl
      | some v => exact (n (onlyA c (by rw [z]; simp))).elim
    have noDict : ∀ {c : Addr} {u : Obj} {es : Array DictEntry} {ep : Nat}, t.heap.get? c = some u → u.data = .dict es ep → H c = none := fun {c u es ep} y d => free y fun e => by
      subst e
      rw [scr] at y
      cases y
      exact nomatch d
    have nss : ∀ {c : Addr} {m : Str → Option Value}, t.heap.Ns c m → (hidT t.heap H).Ns c m := fun {c m} ⟨u, es, ep, y, d, r⟩ => ⟨u, es, ep, under y (noDict y d), d, r⟩
    have kinB : K.In (hidT t.heap H) := fun c u y => under (kin c u y) (by
      cases z : H c with
      | none => rfl
      | some v =>
        have ca := onlyA c (by rw [z]; simp)
        subst ca
        rw [notK (by rw [z]; simp)] at y
        cases y)
    have md : Mod K mg (hidT t.heap H) := ⟨kinB, nss gm, ⟨mb, nss gb, gbb⟩, let ⟨mc, l1, l2⟩ := lim; ⟨mc, nss l1, l2⟩⟩
    have en : Env0 P w K mg (hidT t.heap H) callerA [] t H := ⟨rfl, md, fun c u y => of_hidT y, Nat.le_of_eq (hidT_size _ _), trivial, fun c hc => absurd hc (List.not_mem_nil), hok, .of_eq noGen⟩
    refine codeAny_mono ((Z _ kinB (nss gm)).run callerA [] t H ⟨[.ref a], []⟩ [.ref a] [.ref a] _ _ rfl rm en (bi t (.ref a)) (.cons rfl .nil) (ask H only sq)) fun res t2 got => ?_
    cases res with
    | error y => exact (noX H y t2 got).elim
    | ok way =>
      cases way with
      | ret z =>
        obtain ⟨v, H2, sameOs, bare, un, hok2, rz, isT⟩ := got
        have isT2 : v = .bl true := isT
        subst isT2
        obtain rfl : z = Value.bool true := rz
        refine ⟨rfl, OldK.of_keep fun c u y => ?_, sameOs, bare⟩
        cases zc : H c with
        | none => exact un.keep c u y zc (fun n => absurd n (List.not_mem_nil)) (by simp)
        | some v =>
          rcases only c with n | ⟨ob, xs, n⟩
          · rw [zc] at n
            cases n
          · obtain ⟨g1, _⟩ := hok c _ n
            obtain ⟨g2, _⟩ := hok2 c _ (un.frzs c ob _ n)
            rw [y] at g1
            cases g1
            exact g2
      | _ => exact False.elim got
  cases hk : K.lookup a with
  | some o =>
    have y := kin a o hk
    rw [scr] at y
    cases y
    exact main (fun _ => none) (fun _ => .inl rfl) (.inr ⟨_, us.toArray, _, hk, rfl, rfl, rfl, by rw [List.size_toArray, many]; exact few, by simpa using rv⟩) (fun c u n => (nomatch n)) (fun c n => absurd rfl n) fun n => absurd rfl n
  | none =>
    refine main (fun c => if c = a then some (.frz { cls := .type "list", data := .seq us.toArray } (.lst (ns.map V.int))) else none) (fun c => ?_) (.inl (.inr ⟨{ cls := .type "list", data := .seq us.toArray }, if_pos rfl⟩)) (fun c u n => ?_) (fun c n => ?_) fun _ => hk
    · by_cases ca : c = a
      · exact .inr ⟨_, _, if_pos ca⟩
      · exact .inl (if_neg ca)
    · by_cases ca : c = a
      · have n2 := (if_pos ca).symm.trans n
        cases n2
        subst ca
        exact ⟨scr, by rw [List.length_map]; exact few, us, _, rv, scr⟩
      · exact nomatch (if_neg ca).symm.trans n
    · by_cases ca : c = a
      · exact ca
      · exact absurd (if_neg ca) n
theorem walk_ofG {l : PySem.W.OpenLaw} {n k : Nat} {q : Program} {loose : List Str} {XP : (Str → Option Value) → Heap → Prop} {YP : World → Heap → Prop} {d : DefRec} {K : Params → PySem.W.Frag} {CX : World → CXT} {sp : World → Sp} {x : Str}
    (most : l.most = some n) (few : n ≤ sizeLine) (noDef : d.params.defaults = []) (rm : Room k callerA)
    (yk : ∀ (w : World) (h : Heap), YP w h → (K w.params).In h)
    (Z : ∀ (w : World) (mg : Str → Option Value) (fa : Addr) (h : Heap), (K w.params).In h → h.Ns mainGlobals mg → mg d.name = some (.ref fa) →
      ∃ fd : FuncData, (∀ (s : Shared) (u : Value), BindsTo s fd ⟨[u], []⟩ [(x, u)]) ∧
        ∀ base : Heap, (K w.params).In base → base.Ns mainGlobals mg → FnG l.prog w (K w.params) mg base (CX w) k fa fd [x] (sp w))
    (ask : ∀ (w : World) (H : Hp) (a : Addr) (ns : List Int), ns.length ≤ n → Only H → SqL (K w.params) H a (ns.map V.int) → sp w [.ref a] H (fun v _ => v = .bl true) fun _ _ _ => False)
    (noX : ∀ (w : World) (H : Hp) (s : Shared) (e : Value) (s' : Shared), CX w [] H s (fun _ _ _ => False) e s' → False) :
    PySem.W.WalkO q loose XP YP l.row.toRowW d [] (fun f vs => PySem.call f vs) := by
  refine Att.attach_call most noDef fun w _ t mg mb fa _ _ _ _ a us ns top yp _ _ _ gd scr itn len gens => ?_
  have kin := yk w _ yp
  obtain ⟨fd, bi, z⟩ := Z w mg fa _ kin top.T.g gd
  exact law_callG kin top.T.g top.T.b top.T.builtins top.T.nolimit gens scr itn (Nat.le_trans len few) rm z bi (fun H o sq => ask w H a ns len o sq) fun H e s' => noX w H t e s'
end MP

/-! MP, part b: judgements; names, constants, statements, tests, calls. -/
namespace MP
open PySem L2

section
variable (K : PySem.W.Frag) (mg : Mg) (W : XK)
def EndG (φ Z : List Addr) (H : Hp) {α : Type} (P : List Addr → Hp → α → Sto → Prop) : Res α → Prop
  | .bad => False
  | .ok a S' => ∀ φ' H', Ex φ H φ' H' → RepS K mg φ' Z S' H' → P φ' H' a S'
  | .exc c S' => ∀ φ' H', Ex φ H φ' H' → RepS K mg φ' Z S' H' → ∀ C : Addr, mg.mg c = some (.ref C) → W (.ref C) none H'
end
section
variable {K : PySem.W.Frag} {mg : Mg} {W : XK} {φ φ1 Z : List Addr} {H H1 : Hp} {α β : Type} {P P' : List Addr → Hp → α → Sto → Prop} {r : Res α}
theorem EndG.imp (h : EndG K mg W φ Z H P r) (f : ∀ φ' H' a S', Ex φ H φ' H' → RepS K mg φ' Z S' H' → P φ' H' a S' → P' φ' H' a S') : EndG K mg W φ Z H P' r := by
  cases r with
  | bad => exact h
  | ok a S' => exact fun φ' H' e q => f φ' H' a S' e q (h φ' H' e q)
  | exc c S' => exact h
theorem EndG.from (e : Ex φ H φ1 H1) (h : EndG K mg W φ Z H P r) : EndG K mg W φ1 Z H1 P r := by
  cases r with
  | bad => exact h
  | ok a S' => exact fun φ' H' f q => h φ' H' (e.trans f) q
  | exc c S' => exact fun φ' H' f q => h φ' H' (e.trans f) q
theorem EndG.bind {Q : List Addr → Hp → β → Sto → Prop} {f : α → Sto → Res β} (h : EndG K mg W φ Z H Q (r.bind f)) : EndG K mg W φ Z H (fun φ1 H1 a S1 => EndG K mg W φ1 Z H1 Q (f a S1)) r := by
  cases r with
  | bad => exact h
  | ok a S' => exact fun φ' H' e q => EndG.from e h
  | exc c S' => exact h
/-- for whoever gives: what is laid is the case -/
theorem EndG.at {a : α} {S : Sto} (h : EndG K mg W φ Z H P (.ok a S)) (q : RepS K mg φ Z S H) : P φ H a S := h φ H Ex.refl q
end

def RF (K : PySem.W.Frag) (φ Z : List Addr) (H : Hp) (σ : St) (ρ : Fr) : Prop := ∀ (i : Nat) (d : D), ρ[i]? = some (some d) → ∃ v, σ[i]? = some (some v) ∧ RV K φ Z H v d
theorem RF.mono {K : PySem.W.Frag} {φ Z φ' : List Addr} {H H' : Hp} {σ : St} {ρ : Fr} (h : RF K φ Z H σ ρ) (r : NT φ H) (e : Ex φ H φ' H') : RF K φ' Z H' σ ρ := fun i d q => by
  obtain ⟨v, a, b⟩ := h i d q
  exact ⟨v, a, b.mono r e⟩
theorem RF.set {K : PySem.W.Frag} {φ Z : List Addr} {H : Hp} {σ : St} {ρ : Fr} (h : RF K φ Z H σ ρ) {i : Nat} {v : V} {d : D} (hi : i < σ.length) (q : RV K φ Z H v d) : RF K φ Z H (σ.set i (some v)) (ρ.set i (some d)) := fun j e he => by
  by_cases ij : i = j
  · subst ij
    have hr : i < ρ.length := by
      obtain ⟨x, _⟩ := List.getElem?_eq_some_iff.mp he
      simpa using x
    rw [List.getElem?_set_self hr] at he
    cases he
    exact ⟨v, List.getElem?_set_self hi, q⟩
  · rw [List.getElem?_set_ne ij] at he
    obtain ⟨u, a, b⟩ := h j e he
    exact ⟨u, by rw [List.getElem?_set_ne ij]; exact a, b⟩

section
variable (K : PySem.W.Frag) (mg : Mg) (W : XK)
def tG {α : Type} (m : M α) (σ : St) (H : Hp) (P : List Addr → Hp → List Addr → α → Prop) : Prop :=
  ∃ φ Z ρ S, RepS K mg φ Z S H ∧ RF K φ Z H σ ρ ∧ EndG K mg W φ Z H (fun φ' H' a _ => P φ' H' Z a) (m ρ S)
def tE (m : M D) : TE := fun σ H Q => tG K mg W m σ H fun φ' H' Z d => ∀ v, RV K φ' Z H' v d → Q v H'
def tT (m : M Bool) : TT := fun σ H Q => tG K mg W m σ H fun _ H' _ b => Q b H'
def tA (m : M (List D)) : TA := fun σ H Q => tG K mg W m σ H fun φ' H' Z ds => ∀ vs, RVs K φ' Z H' vs ds → Q vs H'
def PF (Dn : Ends) (φ' : List Addr) (H' : Hp) (Z : List Addr) : Fl → Prop
  | .nx ρ' => ∀ σ', RF K φ' Z H' σ' ρ' → Dn.nx σ' H'
  | .rt d => ∀ v, RV K φ' Z H' v d → Dn.rt v H'
  | .bk ρ' => ∀ σ', RF K φ' Z H' σ' ρ' → Dn.bk σ' H'
  | .ct ρ' => ∀ σ', RF K φ' Z H' σ' ρ' → Dn.ct σ' H'
def tS (m : M Fl) : TS := fun Dn σ H => tG K mg W m σ H fun φ' H' Z f => PF K Dn φ' H' Z f
/-- a new list -/
def tN (m : M (List D)) : TE := fun σ H Q => ∃ φ Z ρ S, RepS K mg φ Z S H ∧ RF K φ Z H σ ρ ∧ EndG K mg W φ Z H (fun φ' H' l S' => ∀ a xs, H a = none → H' a = some (.lst xs) → RepS K mg φ' (a :: Z) S' H' → RVs K φ' (a :: Z) H' xs l → Q (.ref a) H') (m ρ S)
end

structure Ctx where
  N : List Str
  sc : Scope
  k : Nat
  fnc : Str → Bool
structure Gs where
  P : Program
  w : World
  K : PySem.W.Frag
  mg : Str → Option Value
  base : Heap
abbrev Gs.mw (G : Gs) : Mg := ⟨G.mg, G.P, G.w⟩
abbrev _root_.L2.Cx.mw (X : Cx) : Mg := ⟨X.mg, X.prog, X.w⟩
structure XW (G : Gs) (Γ : Ctx) (X : Cx) (W : XK) : Prop where
  eq : G = ⟨X.prog, X.w, X.K, X.mg, X.base⟩
  N : X.N = Γ.N
  sc : X.env.scope = Γ.sc
  nd : X.N.Nodup
  calm : X.calm = true
  room : Room Γ.k X.A
  tk : Takes X (fun c d _ H => W c d H)
  po : PassesOwn (model X.prog X.w) X.A X.env X.xe
  fn : ∀ x, Γ.fnc x = true → X.fn x = true
  gd : X.A.guards = some []

section
variable (G : Gs) (Γ : Ctx)
def JE (e : Expr) (m : M D) : Prop := ∀ X W, XW G Γ X W → PE X e (tE G.K G.mw W m)
def JT (e : Expr) (m : M Bool) : Prop := ∀ X W, XW G Γ X W → PT X e (tT G.K G.mw W m)
def JW (e : Expr) (m : M Bool) : Prop := ∀ X W, XW G Γ X W → PW X e (tT G.K G.mw W m)
def JA (es : List Expr) (m : M (List D)) : Prop := ∀ X W, XW G Γ X W → PA X es (tA G.K G.mw W m)
def JS (st : Stmt) (m : M Fl) : Prop := ∀ X W, XW G Γ X W → PS X st (tS G.K G.mw W m)
def JSs (st : List Stmt) (m : M Fl) : Prop := ∀ X W, XW G Γ X W → PSs X st (tS G.K G.mw W m)
def JN (e : Expr) (m : M (List D)) : Prop := ∀ X W, XW G Γ X W → PE X e (tN G.K G.mw W m)
end

/-! ### weakening, with the slots' number -/
section
variable {X : Cx}
theorem _root_.L2.PE.weak {e : Expr} {t t' : TE} (h : PE X e t) (f : ∀ σ H Q, σ.length = X.N.length → t' σ H Q → t σ H Q) : PE X e t' := ⟨fun pins s σ H Q I q => h.run pins s σ H Q I (f σ H Q I.len q)⟩
theorem _root_.L2.PT.weak {e : Expr} {t t' : TT} (h : PT X e t) (f : ∀ σ H Q, σ.length = X.N.length → t' σ H Q → t σ H Q) : PT X e t' := ⟨fun pins s σ H Q I q => h.run pins s σ H Q I (f σ H Q I.len q)⟩
theorem _root_.L2.PW.weak {e : Expr} {t t' : TT} (h : PW X e t) (f : ∀ σ H Q, σ.length = X.N.length → t' σ H Q → t σ H Q) : PW X e t' := ⟨fun w pins s σ H Q I q => h.run w pins s σ H Q I (f σ H Q I.len q)⟩
theorem _root_.L2.PA.weak {e : List Expr} {t t' : TA} (h : PA X e t) (f : ∀ σ H Q, σ.length = X.N.length → t' σ H Q → t σ H Q) : PA X e t' := ⟨fun pos pins s σ H Q I q => h.run pos pins s σ H Q I (f σ H Q I.len q)⟩
theorem _root_.L2.PS.weak {e : Stmt} {t t' : TS} (h : PS X e t) (f : ∀ D σ H, σ.length = X.N.length → t' D σ H → t D σ H) : PS X e t' := ⟨fun pins s σ H D I q => h.run pins s σ H D I (f D σ H I.len q)⟩
theorem _root_.L2.PSs.weak {e : List Stmt} {t t' : TS} (h : PSs X e t) (f : ∀ D σ H, σ.length = X.N.length → t' D σ H → t D σ H) : PSs X e t' := ⟨fun pins s σ H D I q => h.run pins s σ H D I (f D σ H I.len q)⟩
end

/-! ### the moves inside a reading -/
section
variable {K : PySem.W.Frag} {mg : Mg} {W : XK} {α β : Type}
/-- a reading of m, then of what comes behind: given the whole's -/
theorem tG.intro {m : M α} {σ : St} {H : Hp} {φ Z : List Addr} {ρ : Fr} {S : Sto} (r : RepS K mg φ Z S H) (f : RF K φ Z H σ ρ) {P : List Addr → Hp → List Addr → α → Prop} (h : EndG K mg W φ Z H (fun φ' H' a _ => P φ' H' Z a) (m ρ S)) : tG K mg W m σ H P :=
  ⟨φ, Z, ρ, S, r, f, h⟩
/-- m ends, then n: m's reading with what n's end asks, at the state between -/
theorem tG.seq {m : M α} {σ : St} {H : Hp} {φ Z : List Addr} {ρ : Fr} {S : Sto} {f : α → Sto → Res β} {Q : List Addr → Hp → β → Sto → Prop} {P : List Addr → Hp → List Addr → α → Prop}
    (r : RepS K mg φ Z S H) (rf : RF K φ Z H σ ρ) (h : EndG K mg W φ Z H Q ((m ρ S).bind f))
    (k : ∀ φ1 H1 a S1, Ex φ H φ1 H1 → RepS K mg φ1 Z S1 H1 → RF K φ1 Z H1 σ ρ → EndG K mg W φ1 Z H1 Q (f a S1) → P φ1 H1 Z a) : tG K mg W m σ H P :=
  ⟨φ, Z, ρ, S, r, rf, h.bind.imp fun φ1 H1 a S1 e r1 q => k φ1 H1 a S1 e r1 (rf.mono r.nt e) q⟩
end

/-! ### names, constants -/
def mVar (i : Nat) : M D := fun ρ S => match ρ[i]? with
  | some (some d) => .ok d S
  | _ => .bad
def mC (d : D) : M D := fun _ S => .ok d S
section
variable {G : Gs} {Γ : Ctx}
theorem PE.ofOk {X : Cx} {W : XK} {e : Expr} {m : M D} {t : TE} (h : PE X e t) (f : ∀ φ Z ρ S σ H Q, σ.length = X.N.length → RepS X.K X.mw φ Z S H → RF X.K φ Z H σ ρ → EndG X.K X.mw W φ Z H (fun φ' H' d _ => ∀ v, RV X.K φ' Z H' v d → Q v H') (m ρ S) → t σ H Q) : PE X e (tE X.K X.mw W m) :=
  h.weak fun σ H Q hl ⟨φ, Z, ρ, S, r, rf, q⟩ => f φ Z ρ S σ H Q hl r rf q
def visOk (sc : Scope) (x : Str) : Bool := match sc.names.lookup x with
  | some .local => true
  | some .cell => true
  | some .free => true
  | _ => false
theorem vis_of {sc : Scope} {x : Str} (h : visOk sc x = true) : Vis sc x := by
  unfold visOk at h
  unfold Vis
  split at h <;> simp_all
theorem je_var {x : Str} {pos : Pos} (i : Nat) (hN : Γ.N[i]? = some x := by rfl) (hv : visOk Γ.sc x = true := by rfl) (hd : (x == ("__debug__" : Str)) = false := by decide) (hcd : (x == ("__classdict__" : Str)) = false := by decide) : JE G Γ (.Name x pos) (mVar i) := fun X W hx => by
  obtain ⟨rfl, h1, h2⟩ := hx
  refine PE.ofOk (pe_var (by rw [h1]; exact hN) (by rw [h2]; exact vis_of hv) hd hcd) fun φ Z ρ S σ H Q hl r rf q => ?_
  unfold mVar at q
  split at q
  · rename_i d e
    obtain ⟨v, a, b⟩ := rf i d e
    exact ⟨v, a, q.at r v b⟩
  · exact q.elim
theorem je_int {i : Int} {j : Nat} {pos : Pos} : JE G Γ (.Constant (.int i) j pos) (mC (.int i)) := fun X W hx => by
  obtain ⟨rfl⟩ := hx
  exact PE.ofOk pe_int fun φ Z ρ S σ H Q hl r rf q => q.at r _ (.int i)
theorem je_bl {b : Bool} {j : Nat} {pos : Pos} : JE G Γ (.Constant (.bool b) j pos) (mC (.bl b)) := fun X W hx => by
  obtain ⟨rfl⟩ := hx
  exact PE.ofOk pe_bl fun φ Z ρ S σ H Q hl r rf q => q.at r _ (.bl b)
theorem je_non {j : Nat} {pos : Pos} : JE G Γ (.Constant .none j pos) (mC .non) := fun X W hx => by
  obtain ⟨rfl⟩ := hx
  exact PE.ofOk pe_non fun φ Z ρ S σ H Q hl r rf q => q.at r _ .non
theorem je_str {x : Str} {j : Nat} {pos : Pos} : JE G Γ (.Constant (.str x) j pos) (mC (.str x)) := fun X W hx => by
  obtain ⟨rfl⟩ := hx
  exact PE.ofOk pe_str fun φ Z ρ S σ H Q hl r rf q => q.at r _ (.str x)
end
end MP

/-! MP, part c: argument lists, statements, tests, targets, loops. -/
namespace MP
open PySem L2

section
variable {G : Gs} {Γ : Ctx}

/-! ### argument lists -/
def mNilA : M (List D) := fun _ S => .ok [] S
def mConsA (a : M D) (b : M (List D)) : M (List D) := fun ρ S => (a ρ S).bind fun d S1 => (b ρ S1).bind fun ds S2 => .ok (d :: ds) S2
theorem ja_nil : JA G Γ [] mNilA := fun X W hx => by
  obtain ⟨rfl⟩ := hx
  exact pa_nil.weak fun σ H Q hl ⟨φ, Z, ρ, S, r, rf, q⟩ => q.at r [] .nil
theorem ja_cons {e : Expr} {es : List Expr} {a : M D} {b : M (List D)} (ha : JE G Γ e a) (hb : JA G Γ es b) (hs : ∀ env, starEach (e :: es) env = (false, eval e env) :: starEach es env := by intro _; rfl) : JA G Γ (e :: es) (mConsA a b) := fun X W hx => by
  have h1 := ha X W hx
  have h2 := hb X W hx
  obtain ⟨rfl⟩ := hx
  refine (pa_cons h1 h2 (hs _)).weak fun σ H Q hl ⟨φ, Z, ρ, S, r, rf, q⟩ => ?_
  exact tG.seq r rf q fun φ1 H1 d S1 e1 r1 rf1 q1 v rv => tG.seq r1 rf1 q1 fun φ2 H2 ds S2 e2 r2 rf2 q2 vs rvs => q2.at r2 (v :: vs) (.cons (rv.mono r1.nt e2) rvs)

/-! ### targets -/
abbrev TgD := D → Fr → Sto → Res Fr
def tGt (K : PySem.W.Frag) (mg : Mg) (W : XK) (g : TgD) : TG := fun v σ H Q => ∃ φ Z ρ S d, RepS K mg φ Z S H ∧ RF K φ Z H σ ρ ∧ RV K φ Z H v d ∧ EndG K mg W φ Z H (fun φ' H' ρ' _ => ∀ σ', RF K φ' Z H' σ' ρ' → Q σ' H') (g d ρ S)
def JG (G : Gs) (Γ : Ctx) (e : Expr) (g : TgD) : Prop := ∀ X W, XW G Γ X W → PG X e (tGt G.K G.mw W g)
theorem _root_.L2.PG.weak {X : Cx} {e : Expr} {t t' : TG} (h : PG X e t) (f : ∀ v σ H Q, σ.length = X.N.length → t' v σ H Q → t v σ H Q) : PG X e t' := ⟨fun pins s σ H v u Q I rr q => h.run pins s σ H v u Q I rr (f v σ H Q I.len q)⟩
theorem _root_.L2.PGs.weak {X : Cx} {e : List Expr} {t t' : TGs} (h : PGs X e t) (f : ∀ v σ H Q, σ.length = X.N.length → t' v σ H Q → t v σ H Q) : PGs X e t' := ⟨fun pins s σ H v u Q I rr q => h.run pins s σ H v u Q I rr (f v σ H Q I.len q)⟩
def gN (i : Nat) : TgD := fun d ρ S => .ok (ρ.set i (some d)) S
def locOk (Γ : Ctx) (x : Str) : Bool := match Γ.sc.names.lookup x with
  | some .local => true
  | some .cell => Γ.fnc x
  | _ => false
theorem XW.lookup {X : Cx} {W : XK} (hx : XW G Γ X W) {x : Str} (h : locOk Γ x = true) : Loc X.env.scope x ∧ (X.fn x = true ∨ X.env.scope.names.lookup x = some .local) := by
  rw [hx.sc]
  unfold locOk at h
  unfold L2.Loc
  split at h
  · rename_i q
    exact ⟨.inl q, .inr q⟩
  · rename_i q
    exact ⟨.inr q, .inl (hx.fn x h)⟩
  · cases h
theorem ix_lt {N : List Str} {i : Nat} {x : Str} (h : N[i]? = some x) : i < N.length := (List.getElem?_eq_some_iff.mp h).1
theorem jg_name {x : Str} {pos : Pos} (i : Nat) (hN : Γ.N[i]? = some x := by rfl) (hv : locOk Γ x = true := by rfl) : JG G Γ (.Name x pos) (gN i) := fun X W hx => by
  obtain ⟨l1, l2⟩ := hx.lookup hv
  have hi : X.N[i]? = some x := by rw [hx.N]; exact hN
  have nd := hx.nd
  obtain ⟨rfl⟩ := hx
  refine (pg_name nd hi l1 l2).weak fun v σ H Q hl ⟨φ, Z, ρ, S, d, r, rf, rv, q⟩ => ?_
  exact q.at r _ (rf.set (by rw [hl]; exact ix_lt hi) rv)
/-- several targets from several values -/
abbrev TgsD := List D → Fr → Sto → Res Fr
def tGts (K : PySem.W.Frag) (mg : Mg) (W : XK) (g : TgsD) : TGs := fun vs σ H Q => ∃ φ Z ρ S ds, RepS K mg φ Z S H ∧ RF K φ Z H σ ρ ∧ RVs K φ Z H vs ds ∧ EndG K mg W φ Z H (fun φ' H' ρ' _ => ∀ σ', RF K φ' Z H' σ' ρ' → Q σ' H') (g ds ρ S)
def JGs (G : Gs) (Γ : Ctx) (es : List Expr) (g : TgsD) : Prop := ∀ X W, XW G Γ X W → PGs X es (tGts G.K G.mw W g)
def gNilD : TgsD := fun ds ρ S => match ds with
  | [] => .ok ρ S
  | _ => .bad
def gConsD (g : TgD) (h : TgsD) : TgsD := fun ds ρ S => match ds with
  | d :: ds => (g d ρ S).bind fun ρ1 S1 => h ds ρ1 S1
  | [] => .bad
theorem jgs_nil : JGs G Γ [] gNilD := fun X W hx => by
  obtain ⟨rfl⟩ := hx
  refine pgs_nil.weak fun vs σ H Q hl ⟨φ, Z, ρ, S, ds, r, rf, rv, q⟩ => ?_
  cases ds with
  | nil => exact ⟨rv.nilD, q.at r σ rf⟩
  | cons d ds => exact q.elim
theorem jgs_cons {e : Expr} {es : List Expr} {g : TgD} {h : TgsD} (h1 : JG G Γ e g) (h2 : JGs G Γ es h) (hs : ∀ env, (assignEach (e :: es) env).map (·.2) = assign e env :: (assignEach es env).map (·.2) := by intro _; rfl) : JGs G Γ (e :: es) (gConsD g h) := fun X W hx => by
  have p1 := h1 X W hx
  have p2 := h2 X W hx
  obtain ⟨rfl⟩ := hx
  refine (pgs_cons p1 p2 (hs _)).weak fun vs σ H Q hl ⟨φ, Z, ρ, S, ds, r, rf, rv, q⟩ => ?_
  cases rv with
  | nil => exact q.elim
  | cons rv1 rvs =>
    refine ⟨_, _, rfl, φ, Z, ρ, S, _, r, rf, rv1, (EndG.bind q).imp fun φ1 H1 ρ1 S1 e1 r1 q1 σ1 rf1 => ?_⟩
    exact ⟨φ1, Z, ρ1, S1, _, r1, rf1, rvs.mono r.nt e1, q1⟩
/-- (a, b, ..) = a tuple -/
def gTupD (n : Nat) (g : TgsD) : TgD := fun d ρ S => match d with
  | .tup ds => if ds.length = n then g ds ρ S else .bad
  | _ => .bad
theorem jg_tup {es : List Expr} {k : Nat} {pos : Pos} {g : TgsD} (n : Nat) (h : JGs G Γ es g) (hn : ∀ env, (assignEach es env).length = n := by intro _; rfl) (hst : ∀ env, (assignEach es env).findIdx? (·.1) = none := by intro _; rfl) : JG G Γ (.Tuple es k pos) (gTupD n g) := fun X W hx => by
  have p := h X W hx
  have hc := hx.calm
  obtain ⟨rfl⟩ := hx
  refine (pg_tup hc p (hn _) (hst _)).weak fun v σ H Q hl ⟨φ, Z, ρ, S, d, r, rf, rv, q⟩ => ?_
  cases rv with
  | @tup a1 xs ds a b =>
    simp only [gTupD] at q
    split at q
    · rename_i e
      exact ⟨_, _, rfl, a.sq, by rw [b.length, e], φ, Z, ρ, S, ds, r, rf, b, q⟩
    · exact q.elim
  | _ => exact q.elim

/-! ### statements -/
def mSeq (a b : M Fl) : M Fl := fun ρ S => (a ρ S).bind fun f S1 => match f with
  | .nx ρ1 => b ρ1 S1
  | f => .ok f S1
def mSkip : M Fl := fun ρ S => .ok (.nx ρ) S
def mAsg (e : M D) (g : TgD) : M Fl := fun ρ S => (e ρ S).bind fun d S1 => (g d ρ S1).bind fun ρ' S2 => .ok (.nx ρ') S2
def mSet (i : Nat) (e : M D) : M Fl := fun ρ S => (e ρ S).bind fun d S1 => .ok (.nx (ρ.set i (some d))) S1
def mRet (e : M D) : M Fl := fun ρ S => (e ρ S).bind fun d S1 => .ok (.rt d) S1
def mRetN : M Fl := fun _ S => .ok (.rt .non) S
def mDo (e : M D) : M Fl := fun ρ S => (e ρ S).bind fun _ S1 => .ok (.nx ρ) S1
def mIf (c : M Bool) (a b : M Fl) : M Fl := fun ρ S => (c ρ S).bind fun k S1 => if k = true then a ρ S1 else b ρ S1
theorem jss_nil : JSs G Γ [] mSkip := fun X W hx => by
  obtain ⟨rfl⟩ := hx
  exact pss_nil.weak fun Dn σ H hl ⟨φ, Z, ρ, S, r, rf, q⟩ => q.at r σ rf
theorem jss_cons {st : Stmt} {rest : List Stmt} {a b : M Fl} (ha : JS G Γ st a) (hb : JSs G Γ rest b) : JSs G Γ (st :: rest) (mSeq a b) := fun X W hx => by
  have h1 := ha X W hx
  have h2 := hb X W hx
  obtain ⟨rfl⟩ := hx
  refine (pss_cons h1 h2).weak fun Dn σ H hl ⟨φ, Z, ρ, S, r, rf, q⟩ => ?_
  refine tG.seq r rf q fun φ1 H1 f S1 e1 r1 rf1 q1 => ?_
  cases f with
  | nx ρ1 => exact fun σ' rf' => ⟨φ1, Z, ρ1, S1, r1, rf', q1⟩
  | rt d => exact q1.at r1
  | bk ρ1 => exact q1.at r1
  | ct ρ1 => exact q1.at r1
theorem jss_one {st : Stmt} {a : M Fl} (ha : JS G Γ st a) : JSs G Γ [st] a := fun X W hx => by
  have h1 := ha X W hx
  obtain ⟨rfl⟩ := hx
  exact pss_one h1
theorem js_asg {tg e : Expr} {pos : Pos} {m : M D} {g : TgD} (he : JE G Γ e m) (hg : JG G Γ tg g) (hs : ∀ env : Env, env.scope = Γ.sc → swapsWithSole [tg] e pos.line env = pure false := by intro _ _; rfl) (hw : ∀ env : Env, env.scope = Γ.sc → swappedStores [tg] e env = pure none := by intro _ _; rfl)
    (h1 : ∀ env, (assignEach [tg] env).map (·.2) = [assign tg env] := by intro _; rfl) : JS G Γ (.Assign [tg] e pos) (mAsg m g) := fun X W hx => by
  have p := he X W hx
  have pg := hg X W hx
  have hsc := hx.sc
  obtain ⟨rfl⟩ := hx
  refine (ps_asg p pg (hs _ hsc) (hw _ hsc) (h1 _)).weak fun Dn σ H hl ⟨φ, Z, ρ, S, r, rf, q⟩ => ?_
  refine tG.seq r rf q fun φ1 H1 d S1 e1 r1 rf1 q1 v rv => ?_
  exact ⟨φ1, Z, ρ, S1, d, r1, rf1, rv, (EndG.bind q1).imp fun φ2 H2 ρ2 S2 e2 r2 q2 => q2.at r2⟩
theorem js_set {x : Str} {e : Expr} {pos pos' : Pos} {m : M D} (i : Nat) (he : JE G Γ e m) (hN : Γ.N[i]? = some x := by rfl) (hv : locOk Γ x = true := by rfl) (hs : ∀ env : Env, env.scope = Γ.sc → swapsWith e (some (.Name x pos')) pos.line env = pure false := by intro _ _; rfl) : JS G Γ (.Assign [.Name x pos'] e pos) (mSet i m) := fun X W hx => by
  have p := he X W hx
  have hsc := hx.sc
  obtain ⟨l1, l2⟩ := hx.lookup hv
  have hi : X.N[i]? = some x := by rw [hx.N]; exact hN
  have nd := hx.nd
  obtain ⟨rfl⟩ := hx
  refine (ps_set nd hi l1 p (hs _ hsc) l2).weak fun Dn σ H hl ⟨φ, Z, ρ, S, r, rf, q⟩ => ?_
  refine tG.seq r rf q fun φ1 H1 d S1 e1 r1 rf1 q1 v rv => ?_
  exact q1.at r1 _ (rf1.set (by rw [hl]; exact ix_lt hi) rv)
theorem js_ret {e : Expr} {pos : Pos} {m : M D} (he : JE G Γ e m) : JS G Γ (.Return (some e) pos) (mRet m) := fun X W hx => by
  have p := he X W hx
  obtain ⟨rfl⟩ := hx
  refine (ps_ret p).weak fun Dn σ H hl ⟨φ, Z, ρ, S, r, rf, q⟩ => ?_
  exact tG.seq r rf q fun φ1 H1 d S1 e1 r1 rf1 q1 v rv => q1.at r1 v rv
theorem js_retN {pos : Pos} : JS G Γ (.Return none pos) mRetN := fun X W hx => by
  obtain ⟨rfl⟩ := hx
  exact ps_retN.weak fun Dn σ H hl ⟨φ, Z, ρ, S, r, rf, q⟩ => q.at r _ .non
theorem js_do {e : Expr} {pos : Pos} {m : M D} (he : JE G Γ e m) (hs : ∀ env : Env, env.scope = Γ.sc → swapsWith e none pos.line env = pure false := by intro _ _; rfl) : JS G Γ (.Expr e pos) (mDo m) := fun X W hx => by
  have p := he X W hx
  have hsc := hx.sc
  obtain ⟨rfl⟩ := hx
  refine (ps_expr p (hs _ hsc)).weak fun Dn σ H hl ⟨φ, Z, ρ, S, r, rf, q⟩ => ?_
  exact tG.seq r rf q fun φ1 H1 d S1 e1 r1 rf1 q1 v rv => q1.at r1 σ rf1
theorem js_pass {pos : Pos} : JS G Γ (.Pass pos) mSkip := fun X W hx => by
  obtain ⟨rfl⟩ := hx
  exact ps_pass.weak fun Dn σ H hl ⟨φ, Z, ρ, S, r, rf, q⟩ => q.at r σ rf
theorem js_if {c : Expr} {a b : List Stmt} {pos : Pos} {mc : M Bool} {ma mb : M Fl} (hc : JT G Γ c mc) (ha : JSs G Γ a ma) (hb : JSs G Γ b mb) : JS G Γ (.If c a b pos) (mIf mc ma mb) := fun X W hx => by
  have p := hc X W hx
  have p1 := ha X W hx
  have p2 := hb X W hx
  obtain ⟨rfl⟩ := hx
  refine (ps_if p p1 p2).weak fun Dn σ H hl ⟨φ, Z, ρ, S, r, rf, q⟩ => ?_
  refine tG.seq r rf q fun φ1 H1 k S1 e1 r1 rf1 q1 => ?_
  cases k with
  | true => exact ⟨φ1, Z, ρ, S1, r1, rf1, q1⟩
  | false => exact ⟨φ1, Z, ρ, S1, r1, rf1, q1⟩

/-! ### tests -/
/-- a value's truth where it is a truth -/
def toB (d : D) (S : Sto) : Res Bool := match d with
  | .bl b => .ok b S
  | _ => .bad
def mT (e : M D) : M Bool := fun ρ S => (e ρ S).bind toB
def mAndT (a b : M Bool) : M Bool := fun ρ S => (a ρ S).bind fun k S1 => if k = true then b ρ S1 else .ok false S1
def mOrT (a b : M Bool) : M Bool := fun ρ S => (a ρ S).bind fun k S1 => if k = true then .ok true S1 else b ρ S1
def mNotT (a : M Bool) : M Bool := fun ρ S => (a ρ S).bind fun k S1 => .ok (!k) S1
def mAndV (a b : M D) : M D := fun ρ S => (a ρ S).bind fun d S1 => (toB d S1).bind fun k S1 => if k = true then b ρ S1 else .ok (.bl false) S1
def mOrV (a b : M D) : M D := fun ρ S => (a ρ S).bind fun d S1 => (toB d S1).bind fun k S1 => if k = true then .ok (.bl true) S1 else b ρ S1
def mNotV (a : M D) : M D := fun ρ S => (a ρ S).bind fun d S1 => (toB d S1).bind fun k S1 => .ok (.bl (!k)) S1
def mIfE (c : M Bool) (a b : M D) : M D := fun ρ S => (c ρ S).bind fun k S1 => if k = true then a ρ S1 else b ρ S1
theorem toB_bl {φ Z : List Addr} {H : Hp} {K : PySem.W.Frag} {mg : Mg} {W : XK} {β : Type} {Q : List Addr → Hp → β → Sto → Prop} {f : Bool → Sto → Res β} {v : V} {d : D} {S : Sto} (rv : RV K φ Z H v d) (h : EndG K mg W φ Z H Q ((toB d S).bind f)) : ∃ k, v = .bl k ∧ d = .bl k ∧ EndG K mg W φ Z H Q (f k S) := by
  cases rv with
  | bl b => exact ⟨b, rfl, rfl, h⟩
  | _ => exact h.elim
theorem jt_val {e : Expr} {m : M D} (he : JE G Γ e m) (ht : ∀ (env : Env) whole, isTrue e env whole = (do let v ← whole; standAt e.pos; holding [v] (truthy v)) := by intro _ _; rfl) : JT G Γ e (mT m) := fun X W hx => by
  have p := he X W hx
  obtain ⟨rfl⟩ := hx
  refine (pt_val p (ht _)).weak fun σ H Q hl ⟨φ, Z, ρ, S, r, rf, q⟩ => ?_
  refine tG.seq r rf q fun φ1 H1 d S1 e1 r1 rf1 q1 v rv => ?_
  cases rv with
  | bl b => exact ⟨b, rfl, q1.at r1⟩
  | _ => exact q1.elim
theorem jw_pt {e : Expr} {m : M Bool} (h : JW G Γ e m) : JT G Γ e m := fun X W hx => (h X W hx).pt
theorem jw_and1 {a : Expr} {pos : Pos} {m : M Bool} (ha : JT G Γ a m) : JW G Γ (.BoolOp .And [a] pos) m := fun X W hx => pw_and1 (ha X W hx)
theorem jw_or1 {a : Expr} {pos : Pos} {m : M Bool} (ha : JT G Γ a m) : JW G Γ (.BoolOp .Or [a] pos) m := fun X W hx => pw_or1 (ha X W hx)
theorem jw_and {a b : Expr} {rest : List Expr} {pos : Pos} {m n : M Bool} (ha : JT G Γ a m) (hb : JW G Γ (.BoolOp .And (b :: rest) pos) n) : JW G Γ (.BoolOp .And (a :: b :: rest) pos) (mAndT m n) := fun X W hx => by
  have p := ha X W hx
  have p2 := hb X W hx
  obtain ⟨rfl⟩ := hx
  refine (pw_and p p2).weak fun σ H Q hl ⟨φ, Z, ρ, S, r, rf, q⟩ => ?_
  refine tG.seq r rf q fun φ1 H1 k S1 e1 r1 rf1 q1 => ?_
  cases k with
  | true => exact ⟨φ1, Z, ρ, S1, r1, rf1, q1⟩
  | false => exact q1.at r1
theorem jw_or {a b : Expr} {rest : List Expr} {pos : Pos} {m n : M Bool} (ha : JT G Γ a m) (hb : JW G Γ (.BoolOp .Or (b :: rest) pos) n) : JW G Γ (.BoolOp .Or (a :: b :: rest) pos) (mOrT m n) := fun X W hx => by
  have p := ha X W hx
  have p2 := hb X W hx
  obtain ⟨rfl⟩ := hx
  refine (pw_or p p2).weak fun σ H Q hl ⟨φ, Z, ρ, S, r, rf, q⟩ => ?_
  refine tG.seq r rf q fun φ1 H1 k S1 e1 r1 rf1 q1 => ?_
  cases k with
  | true => exact q1.at r1
  | false => exact ⟨φ1, Z, ρ, S1, r1, rf1, q1⟩
theorem jt_not {a : Expr} {pos : Pos} {m : M Bool} (ha : JT G Γ a m) : JT G Γ (.UnaryOp .Not a pos) (mNotT m) := fun X W hx => by
  have p := ha X W hx
  obtain ⟨rfl⟩ := hx
  refine (pt_not p).weak fun σ H Q hl ⟨φ, Z, ρ, S, r, rf, q⟩ => ?_
  exact tG.seq r rf q fun φ1 H1 k S1 e1 r1 rf1 q1 => q1.at r1
theorem je_one {a : Expr} {op : BoolOp} {pos : Pos} {m : M D} (ha : JE G Γ a m) : JE G Γ (.BoolOp op [a] pos) m := fun X W hx => pe_one (ha X W hx)
theorem je_and {a b : Expr} {rest : List Expr} {pos : Pos} {m n : M D} (ha : JE G Γ a m) (hb : JE G Γ (.BoolOp .And (b :: rest) pos) n) : JE G Γ (.BoolOp .And (a :: b :: rest) pos) (mAndV m n) := fun X W hx => by
  have p := ha X W hx
  have p2 := hb X W hx
  obtain ⟨rfl⟩ := hx
  refine (pe_and p p2).weak fun σ H Q hl ⟨φ, Z, ρ, S, r, rf, q⟩ => ?_
  refine tG.seq r rf q fun φ1 H1 d S1 e1 r1 rf1 q1 v rv => ?_
  obtain ⟨k, rfl, rfl, q2⟩ := toB_bl rv q1
  refine ⟨k, rfl, ?_⟩
  cases k with
  | true => exact ⟨φ1, Z, ρ, S1, r1, rf1, q2⟩
  | false => exact q2.at r1 _ (.bl false)
theorem je_or {a b : Expr} {rest : List Expr} {pos : Pos} {m n : M D} (ha : JE G Γ a m) (hb : JE G Γ (.BoolOp .Or (b :: rest) pos) n) : JE G Γ (.BoolOp .Or (a :: b :: rest) pos) (mOrV m n) := fun X W hx => by
  have p := ha X W hx
  have p2 := hb X W hx
  obtain ⟨rfl⟩ := hx
  refine (pe_or p p2).weak fun σ H Q hl ⟨φ, Z, ρ, S, r, rf, q⟩ => ?_
  refine tG.seq r rf q fun φ1 H1 d S1 e1 r1 rf1 q1 v rv => ?_
  obtain ⟨k, rfl, rfl, q2⟩ := toB_bl rv q1
  refine ⟨k, rfl, ?_⟩
  cases k with
  | true => exact q2.at r1 _ (.bl true)
  | false => exact ⟨φ1, Z, ρ, S1, r1, rf1, q2⟩
theorem je_not {a : Expr} {pos : Pos} {m : M D} (ha : JE G Γ a m) : JE G Γ (.UnaryOp .Not a pos) (mNotV m) := fun X W hx => by
  have p := ha X W hx
  obtain ⟨rfl⟩ := hx
  refine (pe_not p).weak fun σ H Q hl ⟨φ, Z, ρ, S, r, rf, q⟩ => ?_
  refine tG.seq r rf q fun φ1 H1 d S1 e1 r1 rf1 q1 v rv => ?_
  obtain ⟨k, rfl, rfl, q2⟩ := toB_bl rv q1
  exact ⟨k, rfl, q2.at r1 _ (.bl _)⟩
theorem je_ifE {c a b : Expr} {pos : Pos} {mc : M Bool} {m n : M D} (hc : JT G Γ c mc) (ha : JE G Γ a m) (hb : JE G Γ b n) : JE G Γ (.IfExp c a b pos) (mIfE mc m n) := fun X W hx => by
  have p := hc X W hx
  have p1 := ha X W hx
  have p2 := hb X W hx
  obtain ⟨rfl⟩ := hx
  refine (pe_ifExp p p1 p2).weak fun σ H Q hl ⟨φ, Z, ρ, S, r, rf, q⟩ => ?_
  refine tG.seq r rf q fun φ1 H1 k S1 e1 r1 rf1 q1 => ?_
  cases k with
  | true => exact ⟨φ1, Z, ρ, S1, r1, rf1, q1⟩
  | false => exact ⟨φ1, Z, ρ, S1, r1, rf1, q1⟩

/-! ### while -/
def whileN (c : M Bool) (b : M Fl) : Nat → M Fl
  | 0 => fun _ _ => .bad
  | n + 1 => fun ρ S => (c ρ S).bind fun k S1 => if k = true then (b ρ S1).bind fun f S2 => match f with
      | .nx ρ2 => whileN c b n ρ2 S2
      | .ct ρ2 => whileN c b n ρ2 S2
      | .bk ρ2 => .ok (.nx ρ2) S2
      | .rt d => .ok (.rt d) S2
    else .ok (.nx ρ) S1
open Classical in
noncomputable def mWhile (c : M Bool) (b : M Fl) : M Fl := fun ρ S => if h : ∃ n, whileN c b n ρ S ≠ .bad then whileN c b h.choose ρ S else .bad
theorem mWhile_some (c : M Bool) (b : M Fl) (ρ : Fr) (S : Sto) : ∃ n, mWhile c b ρ S = whileN c b n ρ S := by
  unfold mWhile
  split
  · exact ⟨_, rfl⟩
  · exact ⟨0, rfl⟩
theorem whileN_mono {c : M Bool} {b : M Fl} : ∀ {n : Nat} {ρ : Fr} {S : Sto} (k : Nat), whileN c b n ρ S ≠ .bad → whileN c b (n + k) ρ S = whileN c b n ρ S
  | 0, _, _, _, h => absurd rfl h
  | n + 1, ρ, S, k, h => by
    rw [Nat.add_right_comm]
    simp only [whileN] at h ⊢
    cases hc : c ρ S with
    | bad => rfl
    | exc x S1 => rfl
    | ok t S1 =>
      rw [hc] at h
      simp only [Res.bind_ok] at h ⊢
      cases t with
      | false => rfl
      | true =>
        simp only [if_true] at h ⊢
        cases hb : b ρ S1 with
        | bad => rfl
        | exc x S2 => rfl
        | ok f S2 =>
          rw [hb] at h
          simp only [Res.bind_ok] at h ⊢
          cases f with
          | nx ρ2 => exact whileN_mono k h
          | ct ρ2 => exact whileN_mono k h
          | bk ρ2 => rfl
          | rt d => rfl
theorem mWhile_eq {c : M Bool} {b : M Fl} {ρ : Fr} {S : Sto} (n : Nat) {r : Res Fl} (h : whileN c b n ρ S = r) (hr : r ≠ .bad) : mWhile c b ρ S = r := by
  have hex : ∃ n, whileN c b n ρ S ≠ .bad := ⟨n, by rw [h]; exact hr⟩
  unfold mWhile
  rw [dif_pos hex]
  have h2 := hex.choose_spec
  rw [← whileN_mono n h2, Nat.add_comm, whileN_mono _ (by rw [h]; exact hr), h]
theorem js_while {c : Expr} {body : List Stmt} {pos : Pos} {mc : M Bool} {mb : M Fl} (hc : JT G Γ c mc) (hb : JSs G Γ body mb) : JS G Γ (.While c body [] pos) (mWhile mc mb) := fun X W hx => by
  have p := hc X W hx
  have p2 := hb X W hx
  have po := hx.po
  obtain ⟨rfl⟩ := hx
  refine (ps_while po p p2).weak fun Dn σ H hl ⟨φ, Z, ρ, S, r, rf, q⟩ => ?_
  obtain ⟨n, hn⟩ := mWhile_some mc mb ρ S
  rw [hn] at q
  refine ⟨fun m σ H => ∃ φ ρ S, RepS X.K X.mw φ Z S H ∧ RF X.K φ Z H σ ρ ∧ EndG X.K X.mw W φ Z H (fun φ' H' f _ => PF X.K Dn φ' H' Z f) (whileN mc mb m ρ S), ⟨n, φ, ρ, S, r, rf, q⟩, ?_⟩
  rintro m σ H ⟨φ, ρ, S, r, rf, q⟩
  cases m with
  | zero => exact q.elim
  | succ m =>
    refine tG.seq r rf q fun φ1 H1 k S1 e1 r1 rf1 q1 => ?_
    cases k with
    | false => exact q1.at r1 σ rf1
    | true =>
      refine ⟨_, fun σ' H' h => h, ?_⟩
      refine tG.seq r1 rf1 q1 fun φ2 H2 f S2 e2 r2 rf2 q2 => ?_
      cases f with
      | nx ρ2 => exact fun σ' rf' => ⟨m, Nat.lt_succ_self m, φ2, ρ2, S2, r2, rf', q2⟩
      | ct ρ2 => exact fun σ' rf' => ⟨m, Nat.lt_succ_self m, φ2, ρ2, S2, r2, rf', q2⟩
      | bk ρ2 => exact q2.at r2
      | rt d => exact q2.at r2

/-! ### for -/
abbrev Guard := List (Nat × List D)
def gOk (g : Guard) (S : Sto) : Prop := ∀ p ∈ g, S[p.1]? = some (.lst p.2)
abbrev MI := M (List D × Guard)
def IterOk (K : PySem.W.Frag) (mg : Mg) (φ0 : List Addr) (H0 : Hp) (Z : List Addr) (J : It) (its : List D) (g : Guard) : Prop :=
  ∀ Y φ S H, (∀ y ∈ Y, H0 y = none) → Ex φ0 H0 φ H → RepS K mg φ (Y ++ Z) S H → gOk g S →
    (∀ i, i < its.length → J.go i H ∧ ∀ x H', J.yld i H x H' → Ex φ H φ H' ∧ RepS K mg φ (Y ++ Z) S H' ∧ ∃ d, its[i]? = some d ∧ RV K φ (Y ++ Z) H' x d) ∧ J.stop its.length H
def tI (K : PySem.W.Frag) (mg : Mg) (W : XK) (m : MI) : TI := fun σ H R => tG K mg W m σ H fun φ' H' Z p => ∀ J, IterOk K mg φ' H' Z J p.1 p.2 → R J H'
def JI (G : Gs) (Γ : Ctx) (tg e : Expr) (m : MI) : Prop := ∀ X W, XW G Γ X W → PI X tg e (tI G.K G.mw W m)
theorem _root_.L2.PI.weak {X : Cx} {tg e : Expr} {t t' : TI} (h : PI X tg e t) (f : ∀ σ H R, σ.length = X.N.length → t' σ H R → t σ H R) : PI X tg e t' := ⟨fun pins s σ H R I q => h.run pins s σ H R I (f σ H R I.len q)⟩
open Classical in
noncomputable def forL (gd : Guard) (g : TgD) (b : M Fl) : List D → M Fl
  | [] => fun ρ S => if gOk gd S then .ok (.nx ρ) S else .bad
  | d :: ds => fun ρ S => if gOk gd S then (g d ρ S).bind fun ρ1 S1 => (b ρ1 S1).bind fun f S2 => match f with
      | .nx ρ2 => forL gd g b ds ρ2 S2
      | .ct ρ2 => forL gd g b ds ρ2 S2
      | .bk ρ2 => .ok (.nx ρ2) S2
      | .rt d => .ok (.rt d) S2
    else .bad
noncomputable def mFor (it : MI) (g : TgD) (b : M Fl) : M Fl := fun ρ S => (it ρ S).bind fun p S1 => forL p.2 g b p.1 ρ S1
theorem js_for {tg iter : Expr} {body : List Stmt} {pos : Pos} {mi : MI} {g : TgD} {mb : M Fl} (hi : JI G Γ tg iter mi) (hg : JG G Γ tg g) (hb : JSs G Γ body mb) (hs : ∀ (env : Env) x, foldedSetIterable iter env x = pure x := by intro _ _; rfl) : JS G Γ (.For tg iter body [] pos) (mFor mi g mb) := fun X W hx => by
  have p := hi X W hx
  have pg := hg X W hx
  have p2 := hb X W hx
  have po := hx.po
  have hc := hx.calm
  obtain ⟨rfl⟩ := hx
  refine (ps_for po hc p pg p2 (hs _)).weak fun Dn σ H hl ⟨φ, Z, ρ, S, r, rf, q⟩ => ?_
  refine tG.seq r rf q fun φ0 H0 pr S0 e0 r0 rf0 q0 J hJ => ?_
  obtain ⟨its, gd⟩ := pr
  refine ⟨fun i m σ H => m = its.length - i ∧ i ≤ its.length ∧ ∃ φ ρ S, Ex φ0 H0 φ H ∧ RepS X.K X.mw φ Z S H ∧ RF X.K φ Z H σ ρ ∧ EndG X.K X.mw W φ Z H (fun φ' H' f _ => PF X.K Dn φ' H' Z f) (forL gd g mb (its.drop i) ρ S), ⟨its.length, rfl, Nat.zero_le _, φ0, ρ, S0, Ex.refl, r0, rf0, q0⟩, ?_⟩
  rintro i m σ H ⟨rfl, hle, φ, ρ, S, ex, r, rf, q⟩
  by_cases hlt : i < its.length
  · rw [List.drop_eq_getElem_cons hlt] at q
    simp only [forL] at q
    split at q
    · rename_i hgd
      obtain ⟨hgo, _⟩ := hJ [] φ S H (by simp) ex r hgd
      obtain ⟨h1, h2⟩ := hgo i hlt
      refine .inr ⟨h1, _, fun σ' H' h => h, fun x H' hy => ?_⟩
      obtain ⟨e1, r1, d, hd, rv⟩ := h2 x H' hy
      rw [List.getElem?_eq_getElem hlt] at hd
      cases hd
      refine ⟨φ, Z, ρ, S, _, r1, rf.mono r.nt e1, rv, (EndG.bind (EndG.from e1 q)).imp fun φ2 H2 ρ2 S2 e2 r2 q2 σ2 rf2 => ?_⟩
      have ex2 := (ex.trans e1).trans e2
      refine ⟨φ2, Z, ρ2, S2, r2, rf2, (EndG.bind q2).imp fun φ3 H3 f S3 e3 r3 q3 => ?_⟩
      cases f with
      | nx ρ3 => exact fun σ' rf' => ⟨_, by omega, rfl, hlt, φ3, ρ3, S3, ex2.trans e3, r3, rf', q3⟩
      | ct ρ3 => exact fun σ' rf' => ⟨_, by omega, rfl, hlt, φ3, ρ3, S3, ex2.trans e3, r3, rf', q3⟩
      | bk ρ3 => exact q3.at r3
      | rt d => exact q3.at r3
    · exact q.elim
  · have e : i = its.length := by omega
    subst e
    rw [List.drop_eq_nil_of_le (Nat.le_refl _)] at q
    simp only [forL] at q
    split at q
    · rename_i hgd
      obtain ⟨_, hst⟩ := hJ [] φ S H (by simp) ex r hgd
      exact .inl ⟨hst, q.at r σ rf⟩
    · exact q.elim
end
end MP

/-! MP, part d: operations on values. -/
namespace MP
open PySem L2

section
variable {K : PySem.W.Frag} {mg : Mg} {φ Z : List Addr} {H : Hp} {S : Sto}

/-! ### what a D reads -/
/-- a list that may be read: its items -/
def lstD (S : Sto) : D → Option (List D)
  | .lv l => some l
  | .ro l => some l
  | .ref n => match S[n]? with
    | some (.lst l) => some l
    | _ => none
  | _ => none
/-- a list of the program's own making -/
def ownD (S : Sto) : D → Option (List D)
  | .lv l => some l
  | .ref n => match S[n]? with
    | some (.lst l) => some l
    | _ => none
  | _ => none
theorem RepS.get (r : RepS K mg φ Z S H) {n : Nat} {o : Ob} (h : S[n]? = some o) : ∃ a : Addr, φ[n]? = some a ∧ RO K mg φ Z H a o := by
  obtain ⟨hn, _⟩ := List.getElem?_eq_some_iff.mp h
  have hf : n < φ.length := by rw [r.len]; exact hn
  exact ⟨φ[n], List.getElem?_eq_getElem hf, r.ob n _ o (List.getElem?_eq_getElem hf) h⟩
theorem RepS.getV (r : RepS K mg φ Z S H) {n : Nat} {o : Ob} {v : V} (rv : RV K φ Z H v (.ref n)) (h : S[n]? = some o) : ∃ a : Addr, v = .ref a ∧ φ[n]? = some a ∧ RO K mg φ Z H a o := by
  obtain ⟨a, ha, q⟩ := r.get h
  cases rv with
  | ref hb =>
    rw [hb] at ha
    cases ha
    exact ⟨_, rfl, hb, q⟩
theorem RV.own (r : RepS K mg φ Z S H) {v : V} {d : D} {l : List D} (rv : RV K φ Z H v d) (h : ownD S d = some l) : ∃ a xs, v = .ref a ∧ H a = some (.lst xs) ∧ RVs K φ Z H xs l := by
  cases d with
  | lv m =>
    cases h
    cases rv with
    | lv h1 h2 h3 h4 => exact ⟨_, _, rfl, h1, h4⟩
  | ref n =>
    simp only [ownD] at h
    split at h
    · rename_i e
      cases h
      obtain ⟨a, rfl, _, q⟩ := r.getV rv e
      cases q with
      | lst h1 h2 => exact ⟨a, _, rfl, h1, h2⟩
    · cases h
  | _ => cases h
theorem sqL_ro {a : Addr} {xs : List V} (h : (Rd H a (.lst xs) ∧ a ∉ φ ∧ a ∉ Z) ∨ SqL K (fun _ => none) a xs) : SqL K H a xs := by
  rcases h with h | h
  · exact .inl h.1
  · rcases h with (h | ⟨o, h⟩) | h
    · cases h
    · cases h
    · exact .inr h
theorem RV.lst (r : RepS K mg φ Z S H) {v : V} {d : D} {l : List D} (rv : RV K φ Z H v d) (h : lstD S d = some l) : ∃ a xs, v = .ref a ∧ SqL K H a xs ∧ RVs K φ Z H xs l := by
  cases d with
  | ro m =>
    cases h
    cases rv with
    | ro h1 h4 => exact ⟨_, _, rfl, sqL_ro h1, h4⟩
  | lv m =>
    obtain ⟨a, xs, e, q, w⟩ := rv.own r (d := .lv m) h
    exact ⟨a, xs, e, SqL.of q, w⟩
  | ref n =>
    obtain ⟨a, xs, e, q, w⟩ := rv.own r (d := .ref n) h
    exact ⟨a, xs, e, SqL.of q, w⟩
  | _ => cases h
/-- a tuple or a list: its items -/
def seqD (S : Sto) : D → Option (List D)
  | .tup l => some l
  | d => lstD S d
theorem RV.seq (r : RepS K mg φ Z S H) {v : V} {d : D} {l : List D} (rv : RV K φ Z H v d) (h : seqD S d = some l) : ∃ a xs, v = .ref a ∧ (SqL K H a xs ∨ SqT K H a xs) ∧ RVs K φ Z H xs l := by
  cases d with
  | tup m =>
    cases h
    cases rv with
    | tup h1 h2 => exact ⟨_, _, rfl, .inr h1.sq, h2⟩
  | lv m =>
    obtain ⟨a, xs, e, q, w⟩ := rv.lst r (d := .lv m) h
    exact ⟨a, xs, e, .inl q, w⟩
  | ro m =>
    obtain ⟨a, xs, e, q, w⟩ := rv.lst r (d := .ro m) h
    exact ⟨a, xs, e, .inl q, w⟩
  | ref n =>
    obtain ⟨a, xs, e, q, w⟩ := rv.lst r (d := .ref n) h
    exact ⟨a, xs, e, .inl q, w⟩
  | _ => cases h
theorem RV.seqE (r : RepS K mg φ Z S H) {v : V} {d : D} {l : List D} (rv : RV K φ Z H v d) (h : seqD S d = some l) : ∃ a xs, v = .ref a ∧ (SqL K H a xs ∨ TupE H a xs) ∧ RVs K φ Z H xs l := by
  cases d with
  | tup m =>
    cases h
    cases rv with
    | tup h1 h2 => exact ⟨_, _, rfl, .inr h1, h2⟩
  | lv m =>
    obtain ⟨a, xs, e, q, w⟩ := rv.lst r (d := .lv m) h
    exact ⟨a, xs, e, .inl q, w⟩
  | ro m =>
    obtain ⟨a, xs, e, q, w⟩ := rv.lst r (d := .ro m) h
    exact ⟨a, xs, e, .inl q, w⟩
  | ref n =>
    obtain ⟨a, xs, e, q, w⟩ := rv.lst r (d := .ref n) h
    exact ⟨a, xs, e, .inl q, w⟩
  | _ => cases h
theorem RV.intD {v : V} {i : Int} (rv : RV K φ Z H v (.int i)) : v = .int i := by cases rv; rfl
theorem RV.blD {v : V} {i : Bool} (rv : RV K φ Z H v (.bl i)) : v = .bl i := by cases rv; rfl
theorem RV.strD {v : V} {i : Str} (rv : RV K φ Z H v (.str i)) : v = .str i := by cases rv; rfl
theorem RV.nonD {v : V} (rv : RV K φ Z H v .non) : v = .non := by cases rv; rfl
theorem RV.tupD {v : V} {l : List D} (rv : RV K φ Z H v (.tup l)) : ∃ a xs, v = .ref a ∧ TupE H a xs ∧ RVs K φ Z H xs l := by cases rv with | tup a b => exact ⟨_, _, rfl, a, b⟩
/-- a tuple, a list laid new -/
theorem RVs.lay (r : RepS K mg φ Z S H) {p : Addr} {o : HO} (hp : H p = none) {vs : List V} {ds : List D} (h : RVs K φ Z H vs ds) : RVs K φ Z (upd H p o) vs ds := h.mono r.nt (Ex.of_same hp)
theorem RepS.lay (r : RepS K mg φ Z S H) {p : Addr} {o : HO} (hp : H p = none) : RepS K mg φ Z S (upd H p o) := by
  have e : Ex φ H φ (upd H p o) := Ex.of_same hp
  refine ⟨r.len, r.nd, fun n a ob h1 h2 => ?_, fun z hz => ?_⟩
  · have np : a ≠ p := fun q => r.there (List.mem_of_getElem? h1) (by rw [q]; exact hp)
    exact (r.ob n a ob h1 h2).imp (upd_ne np) fun v d q => q.mono r.nt e
  · obtain ⟨z1, z2⟩ := r.zs z hz
    refine ⟨z1, ?_⟩
    rw [upd_ne (fun q => z2 (by rw [q]; exact hp))]
    exact z2
theorem RV.newT (r : RepS K mg φ Z S H) {p : Addr} {o : Obj} (hp : H p = none) (ho : o.dict = none) {vs : List V} {ds : List D} (h : RVs K φ Z H vs ds) : RV K φ Z (upd H p (.frz o (.tup vs))) (.ref p) (.tup ds) :=
  .tup ⟨o, upd_same, ho⟩ (h.lay r hp)
theorem RV.newL (r : RepS K mg φ Z S H) {p : Addr} (hp : H p = none) {vs : List V} {ds : List D} (h : RVs K φ Z H vs ds) : RV K φ Z (upd H p (.lst vs)) (.ref p) (.lv ds) :=
  .lv upd_same (fun m => r.there m hp) (fun m => (r.zs p m).2 hp) (h.lay r hp)
end

theorem Res.bind_assoc {α β γ : Type} (a : Res α) (f : α → Sto → Res β) (g : β → Sto → Res γ) : (a.bind f).bind g = a.bind fun x S => (f x S).bind g := by
  cases a <;> rfl

/-! ### two-place operations that change nothing -/
abbrev Op2 := D → D → Sto → Option D
def rP (K : PySem.W.Frag) (mg : Mg) (f : Op2) : R2 := fun x y H Q => ∃ φ Z S dx dy d, RepS K mg φ Z S H ∧ RV K φ Z H x dx ∧ RV K φ Z H y dy ∧ f dx dy S = some d ∧ ∀ φ' v H', Ex φ H φ' H' → RepS K mg φ' Z S H' → RV K φ' Z H' v d → Q v H'
def optR {α : Type} (o : Option α) (S : Sto) : Res α := match o with
  | some d => .ok d S
  | none => .bad
@[simp] theorem optR_some {α : Type} {d : α} {S : Sto} : optR (some d) S = .ok d S := rfl
@[simp] theorem optR_none {α : Type} {S : Sto} : optR (none : Option α) S = .bad := rfl
def mOp (f : Op2) (a b : M D) : M D := fun ρ S => (a ρ S).bind fun x S1 => (b ρ S1).bind fun y S2 => optR (f x y S2) S2
section
variable {G : Gs} {Γ : Ctx}
def JOp (G : Gs) (Γ : Ctx) (f : Value → Value → Sem Value) (o : Op2) : Prop := ∀ X W, XW G Γ X W → OpR X f (rP G.K G.mw o)
/-- what an operation gives, from what its reading gives -/
theorem op_step {K : PySem.W.Frag} {mg : Mg} {W : XK} {φ Z : List Addr} {S : Sto} {H : Hp} {o : Option D} {Q : VK} (r : RepS K mg φ Z S H) (h : EndG K mg W φ Z H (fun φ' H' d _ => ∀ v, RV K φ' Z H' v d → Q v H') (optR o S)) :
    ∃ d, o = some d ∧ ∀ φ' v H', Ex φ H φ' H' → RepS K mg φ' Z S H' → RV K φ' Z H' v d → Q v H' := by
  cases o with
  | none => exact h.elim
  | some d => exact ⟨d, rfl, fun φ' v H' e r' rv => h φ' H' e r' v rv⟩
theorem je_op {op : Operator} {a b : Expr} {pos : Pos} {ma mb : M D} {o : Op2} (ho : JOp G Γ (binaryOp op) o) (ha : JE G Γ a ma) (hb : JE G Γ b mb) : JE G Γ (.BinOp a op b pos) (mOp o ma mb) := fun X W hx => by
  have p := ho X W hx
  have p1 := ha X W hx
  have p2 := hb X W hx
  obtain ⟨rfl⟩ := hx
  refine (pe_op p p1 p2).weak fun σ H Q hl ⟨φ, Z, ρ, S, r, rf, q⟩ => ?_
  refine tG.seq r rf q fun φ1 H1 dx S1 e1 r1 rf1 q1 x rx => tG.seq r1 rf1 q1 fun φ2 H2 dy S2 e2 r2 rf2 q2 y ry => ?_
  obtain ⟨d, hd, k⟩ := op_step r2 q2
  exact ⟨φ2, Z, S2, dx, dy, d, r2, rx.mono r1.nt e2, ry, hd, k⟩
theorem je_cmp {op : CmpOp} {a b : Expr} {pos : Pos} {ma mb : M D} {o : Op2} (ho : JOp G Γ (compareOp op) o) (ha : JE G Γ a ma) (hb : JE G Γ b mb) (hm : behindInMarks op b = false := by first | rfl | exact nomark _) : JE G Γ (.Compare a [op] [b] pos) (mOp o ma mb) := fun X W hx => by
  have p := ho X W hx
  have p1 := ha X W hx
  have p2 := hb X W hx
  obtain ⟨rfl⟩ := hx
  refine (pe_cmpR p p1 p2 hm).weak fun σ H Q hl ⟨φ, Z, ρ, S, r, rf, q⟩ => ?_
  refine tG.seq r rf q fun φ1 H1 dx S1 e1 r1 rf1 q1 x rx => tG.seq r1 rf1 q1 fun φ2 H2 dy S2 e2 r2 rf2 q2 y ry => ?_
  obtain ⟨d, hd, k⟩ := op_step r2 q2
  exact ⟨φ2, Z, S2, dx, dy, d, r2, rx.mono r1.nt e2, ry, hd, k⟩
theorem jt_cmp {op : CmpOp} {a b : Expr} {pos : Pos} {ma mb : M D} {o : Op2} (ho : JOp G Γ (compareOp op) o) (ha : JE G Γ a ma) (hb : JE G Γ b mb) (hm : behindInMarks op b = false := by first | rfl | exact nomark _) : JT G Γ (.Compare a [op] [b] pos) (mT (mOp o ma mb)) := fun X W hx => by
  have p := ho X W hx
  have p1 := ha X W hx
  have p2 := hb X W hx
  obtain ⟨rfl⟩ := hx
  refine (pt_cmpR p p1 p2 hm).weak fun σ H Q hl ⟨φ, Z, ρ, S, r, rf, q⟩ => ?_
  have q' : EndG X.K X.mw W φ Z H (fun φ' H' a _ => Q a H') ((ma ρ S).bind fun x S1 => (mb ρ S1).bind fun y S2 => (optR (o x y S2) S2).bind toB) := by
    have e : mT (mOp o ma mb) ρ S = (ma ρ S).bind fun x S1 => (mb ρ S1).bind fun y S2 => (optR (o x y S2) S2).bind toB := by
      simp only [mT, mOp, Res.bind_assoc]
    rw [← e]
    exact q
  refine tG.seq r rf q' fun φ1 H1 dx S1 e1 r1 rf1 q1 x rx => tG.seq r1 rf1 q1 fun φ2 H2 dy S2 e2 r2 rf2 q2 y ry => ?_
  cases hd : o dx dy S2 with
  | none => rw [hd] at q2; exact q2.elim
  | some d =>
    rw [hd] at q2
    refine ⟨φ2, Z, S2, dx, dy, d, r2, rx.mono r1.nt e2, ry, hd, fun φ3 v H3 e3 r3 rv => ?_⟩
    have q3 := EndG.from e3 q2
    cases rv with
    | bl b => exact ⟨b, rfl, q3.at r3⟩
    | _ => exact q3.elim

def dAdd : Op2 := fun x y S => match x, y with
  | .int i, .int j => some (.int (i + j))
  | .str a, .str b => if a.length + b.length ≤ sizeLine then some (.str (a ++ b)) else none
  | .tup a, .tup b => if a.length + b.length ≤ sizeLine then some (.tup (a ++ b)) else none
  | x, y => match ownD S x, ownD S y with
    | some a, some b => if a.length + b.length ≤ sizeLine then some (.lv (a ++ b)) else none
    | _, _ => none
theorem XW.un {X : Cx} {W : XK} (hx : XW G Γ X W) : X.A.units + 64 < cLine := hx.room.units
theorem XW.un5 {X : Cx} {W : XK} (hx : XW G Γ X W) : X.A.units + 65 < cLine := by have := hx.room.un; omega
theorem XW.un0 {X : Cx} {W : XK} (hx : XW G Γ X W) : X.A.units < cLine := hx.room.units0
/-- a value that was there, given back -/
theorem rP_back {K : PySem.W.Frag} {mg : Mg} {φ Z : List Addr} {S : Sto} {H : Hp} {v : V} {d : D} {Q : VK} (r : RepS K mg φ Z S H) (rv : RV K φ Z H v d) (k : ∀ φ' v H', Ex φ H φ' H' → RepS K mg φ' Z S H' → RV K φ' Z H' v d → Q v H') : Q v H := k φ v H Ex.refl r rv
theorem jo_add : JOp G Γ (binaryOp .Add) dAdd := fun X W hx => by
  obtain ⟨rfl⟩ := hx
  rintro pins s σ H x y v u Q I rx ry ⟨φ, Z, S, dx, dy, d, r, r1, r2, hd, k⟩
  have lists : ∀ a b, ownD S dx = some a → ownD S dy = some b → a.length + b.length ≤ sizeLine → d = .lv (a ++ b) → wpAny (model X.prog X.w) X.A (binaryOp .Add v u) (EP X pins σ Q) X.xe s := by
    intro a b ha hb hz e
    obtain ⟨p, xs, rfl, hp, rp⟩ := r1.own r ha
    obtain ⟨q, ys, rfl, hq, rq⟩ := r2.own r hb
    refine op_cat pins s σ H _ _ v u Q I rx ry ⟨p, q, xs, ys, rfl, rfl, hp, hq, by rw [rp.length, rq.length]; exact hz, fun t ht => ?_⟩
    rw [e] at k
    exact k φ _ _ (Ex.of_same ht) (r.lay ht) (RV.newL r ht (rp.append rq))
  unfold dAdd at hd
  split at hd
  · cases hd
    exact op_add pins s σ H _ _ v u Q I rx ry ⟨_, _, r1.intD, r2.intD, rP_back r (.int _) k⟩
  · split at hd
    · rename_i hz
      cases hd
      exact op_add_str pins s σ H _ _ v u Q I rx ry ⟨_, _, r1.strD, r2.strD, hz, rP_back r (.str _) k⟩
    · cases hd
  · split at hd
    · rename_i a b hz
      cases hd
      obtain ⟨p, xs, rfl, hp, rp⟩ := r1.tupD
      obtain ⟨q, ys, rfl, hq, rq⟩ := r2.tupD
      refine op_catE pins s σ H _ _ v u Q I rx ry ⟨p, q, xs, ys, rfl, rfl, hp.sq, hq.sq, by rw [rp.length, rq.length]; exact hz, fun e => ?_, fun _ e => ?_, fun _ _ t o ht ho => ?_⟩
      · subst e
        have := rp.length
        rw [List.length_nil] at this
        have ea : a = [] := List.eq_nil_of_length_eq_zero this.symm
        subst ea
        exact rP_back r r2 k
      · subst e
        have := rq.length
        rw [List.length_nil] at this
        have eb : b = [] := List.eq_nil_of_length_eq_zero this.symm
        subst eb
        rw [List.append_nil] at k
        exact rP_back r r1 k
      · exact k φ _ _ (Ex.of_same ht) (r.lay ht) (RV.newT r ht ho (rp.append rq))
    · cases hd
  · split at hd
    · rename_i h1 h2
      split at hd
      · rename_i hz
        cases hd
        exact lists _ _ h1 h2 hz rfl
      · cases hd
    · cases hd

/-! ### ints -/
def dSub : Op2 := fun x y _ => match x, y with
  | .int i, .int j => some (.int (i - j))
  | _, _ => none
theorem jo_sub : JOp G Γ (binaryOp .Sub) dSub := fun X W hx => by
  obtain ⟨rfl⟩ := hx
  rintro pins s σ H x y v u Q I rx ry ⟨φ, Z, S, dx, dy, d, r, r1, r2, hd, k⟩
  unfold dSub at hd
  split at hd
  · cases hd
    exact op_sub pins s σ H _ _ v u Q I rx ry ⟨_, _, r1.intD, r2.intD, rP_back r (.int _) k⟩
  · cases hd
def dMod : Op2 := fun x y _ => match x, y with
  | .int i, .int j => if 0 < j then some (.int (i % j)) else none
  | _, _ => none
theorem jo_mod : JOp G Γ (binaryOp .Mod) dMod := fun X W hx => by
  obtain ⟨rfl⟩ := hx
  rintro pins s σ H x y v u Q I rx ry ⟨φ, Z, S, dx, dy, d, r, r1, r2, hd, k⟩
  unfold dMod at hd
  split at hd
  · split at hd
    · rename_i hj
      cases hd
      exact op_mod pins s σ H _ _ v u Q I rx ry ⟨_, _, r1.intD, r2.intD, hj, rP_back r (.int _) k⟩
    · cases hd
  · cases hd
noncomputable def dFdiv : Op2 := fun x y _ => match x, y with
  | .int i, .int j => if DivOk j then some (.int (i / j)) else none
  | _, _ => none
theorem jdFdiv : JOp G Γ (binaryOp .FloorDiv) dFdiv := fun X W hx => by
  obtain ⟨rfl⟩ := hx
  rintro pins s σ H x y v u Q I rx ry ⟨φ, Z, S, dx, dy, d, r, r1, r2, hd, k⟩
  unfold dFdiv at hd
  split at hd
  · split at hd
    · rename_i i j hj
      cases hd
      exact op_fdivW pins s σ H _ _ v u Q I rx ry ⟨_, _, r1.intD, r2.intD, wide_div (b := 200) hj.1 (by have h2 : j < 2 ^ 200 := hj.2; have h1 : 0 < j := hj.1; omega) (by decide) (by decide), rP_back r (.int _) k⟩
    · cases hd
  · cases hd
noncomputable def dPow : Op2 := fun x y _ => match x, y with
  | .int i, .int j => if PowOk i j then some (.int (i ^ j.toNat)) else none
  | _, _ => none
theorem jdPow : JOp G Γ (binaryOp .Pow) dPow := fun X W hx => by
  obtain ⟨rfl⟩ := hx
  rintro pins s σ H x y v u Q I rx ry ⟨φ, Z, S, dx, dy, d, r, r1, r2, hd, k⟩
  unfold dPow at hd
  split at hd
  · split at hd
    · rename_i hj
      cases hd
      exact op_pow pins s σ H _ _ v u Q I rx ry ⟨_, _, r1.intD, r2.intD, hj, rP_back r (.int _) k⟩
    · cases hd
  · cases hd
def dLt : Op2 := fun x y _ => match x, y with
  | .int i, .int j => some (.bl (decide (i < j)))
  | _, _ => none
theorem jdLt : JOp G Γ (compareOp .Lt) dLt := fun X W hx => by
  obtain ⟨rfl⟩ := hx
  rintro pins s σ H x y v u Q I rx ry ⟨φ, Z, S, dx, dy, d, r, r1, r2, hd, k⟩
  unfold dLt at hd
  split at hd
  · cases hd
    exact op_lt pins s σ H _ _ v u Q I rx ry ⟨_, _, r1.intD, r2.intD, rP_back r (.bl _) k⟩
  · cases hd
def dLe : Op2 := fun x y _ => match x, y with
  | .int i, .int j => some (.bl (decide (i ≤ j)))
  | _, _ => none
theorem jdLe : JOp G Γ (compareOp .LtE) dLe := fun X W hx => by
  obtain ⟨rfl⟩ := hx
  rintro pins s σ H x y v u Q I rx ry ⟨φ, Z, S, dx, dy, d, r, r1, r2, hd, k⟩
  unfold dLe at hd
  split at hd
  · cases hd
    exact op_le pins s σ H _ _ v u Q I rx ry ⟨_, _, r1.intD, r2.intD, rP_back r (.bl _) k⟩
  · cases hd
def dGt : Op2 := fun x y _ => match x, y with
  | .int i, .int j => some (.bl (decide (j < i)))
  | _, _ => none
theorem jdGt : JOp G Γ (compareOp .Gt) dGt := fun X W hx => by
  obtain ⟨rfl⟩ := hx
  rintro pins s σ H x y v u Q I rx ry ⟨φ, Z, S, dx, dy, d, r, r1, r2, hd, k⟩
  unfold dGt at hd
  split at hd
  · cases hd
    exact op_gt pins s σ H _ _ v u Q I rx ry ⟨_, _, r1.intD, r2.intD, rP_back r (.bl _) k⟩
  · cases hd
def dGe : Op2 := fun x y _ => match x, y with
  | .int i, .int j => some (.bl (decide (j ≤ i)))
  | _, _ => none
theorem jdGe : JOp G Γ (compareOp .GtE) dGe := fun X W hx => by
  obtain ⟨rfl⟩ := hx
  rintro pins s σ H x y v u Q I rx ry ⟨φ, Z, S, dx, dy, d, r, r1, r2, hd, k⟩
  unfold dGe at hd
  split at hd
  · cases hd
    exact op_ge pins s σ H _ _ v u Q I rx ry ⟨_, _, r1.intD, r2.intD, rP_back r (.bl _) k⟩
  · cases hd

/-! ### == and != -/
def optAll {α β : Type} (f : α → Option β) : List α → Option (List β)
  | [] => some []
  | a :: l => match f a, optAll f l with
    | some x, some xs => some (x :: xs)
    | _, _ => none
/-- data, to so deep -/
def pd (S : Sto) : Nat → D → Option PyData
  | _, .non => some .none
  | _, .bl b => some (.bool b)
  | _, .int i => some (.int i)
  | _, .str s => if PyData.strOk s then some (.str s) else none
  | n + 1, .tup l => (optAll (pd S n) l).map .tuple
  | n + 1, .lv l => (optAll (pd S n) l).map .list
  | n + 1, .ro l => (optAll (pd S n) l).map .list
  | n + 1, .ref k => match S[k]? with
    | some (.lst l) => (optAll (pd S n) l).map .list
    | _ => none
  | 0, .tup _ => none
  | 0, .lv _ => none
  | 0, .ro _ => none
  | 0, .ref _ => none
theorem optAll_dp {K : PySem.W.Frag} {φ Z : List Addr} {H : Hp} {f : D → Option PyData} (ih : ∀ v d p, RV K φ Z H v d → f d = some p → Dp K H v p ∧ p.canLay0 = true) : ∀ {vs : List V} {ds : List D} {ps : List PyData}, RVs K φ Z H vs ds → optAll f ds = some ps → DpAll K H vs ps ∧ PyData.canLayAll0 ps = true
  | _, _, _, .nil, h => by
    cases h
    exact ⟨.nil, by simp [PyData.canLayAll0]⟩
  | _, _, _, .cons r q, h => by
    simp only [optAll] at h
    split at h
    · rename_i h1 h2
      cases h
      obtain ⟨a1, a2⟩ := ih _ _ _ r h1
      obtain ⟨b1, b2⟩ := optAll_dp ih q h2
      exact ⟨.cons a1 b1, by simp [PyData.canLayAll0, a2, b2]⟩
    · cases h
theorem pd_dp {K : PySem.W.Frag} {mg : Mg} {φ Z : List Addr} {H : Hp} {S : Sto} (r : RepS K mg φ Z S H) : ∀ (n : Nat) (v : V) (d : D) (p : PyData), RV K φ Z H v d → pd S n d = some p → Dp K H v p ∧ p.canLay0 = true := by
  intro n
  induction n with
  | zero =>
    intro v d p rv h
    cases rv with
    | str s =>
      simp only [pd] at h
      split at h
      · rename_i e
        cases h
        exact ⟨.str s, by simp [PyData.canLay0, e]⟩
      · cases h
    | _ => cases h <;> exact ⟨by constructor, by simp [PyData.canLay0]⟩
  | succ n ih =>
    intro v d p rv h
    have lists : ∀ a xs l, SqL K H a xs → RVs K φ Z H xs l → (optAll (pd S n) l).map PyData.list = some p → Dp K H (.ref a) p ∧ p.canLay0 = true := by
      intro a xs l h1 h2 h3
      cases e : optAll (pd S n) l with
      | none => rw [e] at h3; cases h3
      | some ps =>
        rw [e] at h3
        cases h3
        obtain ⟨q1, q2⟩ := optAll_dp ih h2 e
        exact ⟨.lst h1 q1, by simp [PyData.canLay0, q2]⟩
    cases rv with
    | str s =>
      simp only [pd] at h
      split at h
      · rename_i e
        cases h
        exact ⟨.str s, by simp [PyData.canLay0, e]⟩
      · cases h
    | tup h1 h2 =>
      simp only [pd] at h
      cases e : optAll (pd S n) _ with
      | none => rw [e] at h; cases h
      | some ps =>
        rw [e] at h
        cases h
        obtain ⟨q1, q2⟩ := optAll_dp ih h2 e
        exact ⟨.tup h1.sq q1, by simp [PyData.canLay0, q2]⟩
    | lv h1 _ _ h2 => exact lists _ _ _ (SqL.of h1) h2 h
    | ro h1 h2 => exact lists _ _ _ (sqL_ro h1) h2 h
    | ref h1 =>
      simp only [pd] at h
      split at h
      · rename_i k a _ e
        obtain ⟨b, hb, q⟩ := r.get e
        rw [h1] at hb
        cases hb
        cases q with
        | lst g1 g2 => exact lists _ _ _ (SqL.of g1) g2 h
      · cases h
    | _ => cases h <;> exact ⟨by constructor, by simp [PyData.canLay0]⟩
/-- how deep -/
theorem optAll_depth {n : Nat} {f : D → Option PyData} (ih : ∀ d p, f d = some p → p.depth ≤ n) : ∀ (l : List D) (ps : List PyData), optAll f l = some ps → PyData.depthAll ps ≤ n
  | [], ps, h => by
    cases h
    simp [PyData.depthAll]
  | d :: l, ps, h => by
    simp only [optAll] at h
    split at h
    · rename_i h1 h2
      cases h
      have a := ih _ _ h1
      have b := optAll_depth ih _ _ h2
      simp only [PyData.depthAll]
      omega
    · cases h
theorem pd_depth {S : Sto} : ∀ (n : Nat) (d : D) (p : PyData), pd S n d = some p → p.depth ≤ n := by
  intro n
  have str0 : ∀ (n : Nat) (s : Str) p, (if PyData.strOk s then some (PyData.str s) else none) = some p → p.depth ≤ n := by
    intro n s p h
    split at h
    · cases h; simp [PyData.depth]
    · cases h
  induction n with
  | zero =>
    intro d p h
    cases d with
    | str s => exact str0 _ s p h
    | _ => cases h <;> simp [PyData.depth]
  | succ n ih =>
    intro d p h
    cases d with
    | str s => exact str0 _ s p h
    | non => cases h; simp [PyData.depth]
    | bl => cases h; simp [PyData.depth]
    | int => cases h; simp [PyData.depth]
    | ref k =>
      simp only [pd] at h
      split at h
      · obtain ⟨ps, h1, rfl⟩ := Option.map_eq_some_iff.mp h
        have := optAll_depth ih _ _ h1
        simp only [PyData.depth]; omega
      · cases h
    | _ =>
      simp only [pd] at h
      obtain ⟨ps, h1, rfl⟩ := Option.map_eq_some_iff.mp h
      have := optAll_depth ih _ _ h1
      simp only [PyData.depth]; omega
theorem shaped_pd {S : Sto} {n : Nat} (hn : n ≤ 64) {d : D} {p : PyData} (h : pd S n d = some p) (c : p.canLay0 = true) : SeqAt.shaped p = true := by
  unfold SeqAt.shaped
  rw [c, decide_eq_true (Nat.le_trans (pd_depth n d p h) hn)]
  rfl
def dEqB (x y : D) (S : Sto) : Option Bool := match pd S 8 x, pd S 8 y with
  | some p, some q => some (PyData.eqv p q)
  | _, _ => none
def dEq : Op2 := fun x y S => (dEqB x y S).map .bl
def dNe : Op2 := fun x y S => (dEqB x y S).map fun b => .bl (!b)
section
variable {G : Gs} {Γ : Ctx}
theorem dEqB_some {x y : D} {S : Sto} {b : Bool} (h : dEqB x y S = some b) : ∃ p q, pd S 8 x = some p ∧ pd S 8 y = some q ∧ b = PyData.eqv p q := by
  unfold dEqB at h
  split at h
  · rename_i a b h1 h2
    cases h
    exact ⟨_, _, h1, h2, rfl⟩
  · cases h
theorem jo_eq : JOp G Γ (compareOp .Eq) dEq := fun X W hx => by
  have hu := hx.un
  obtain ⟨rfl⟩ := hx
  rintro pins s σ H x y v u Q I rx ry ⟨φ, Z, S, dx, dy, d, r, r1, r2, hd, k⟩
  obtain ⟨b, h1, rfl⟩ := Option.map_eq_some_iff.mp hd
  obtain ⟨p, q, hp, hq, rfl⟩ := dEqB_some h1
  obtain ⟨a1, a2⟩ := pd_dp r 8 _ _ _ r1 hp
  obtain ⟨b1, b2⟩ := pd_dp r 8 _ _ _ r2 hq
  exact op_eqD hu pins s σ H x y v u Q I rx ry ⟨p, q, a1, b1, shaped_pd (by decide) hp a2, shaped_pd (by decide) hq b2, rP_back r (.bl _) k⟩
theorem jo_ne : JOp G Γ (compareOp .NotEq) dNe := fun X W hx => by
  have hu := hx.un
  obtain ⟨rfl⟩ := hx
  rintro pins s σ H x y v u Q I rx ry ⟨φ, Z, S, dx, dy, d, r, r1, r2, hd, k⟩
  obtain ⟨b, h1, rfl⟩ := Option.map_eq_some_iff.mp hd
  obtain ⟨p, q, hp, hq, rfl⟩ := dEqB_some h1
  obtain ⟨a1, a2⟩ := pd_dp r 8 _ _ _ r1 hp
  obtain ⟨b1, b2⟩ := pd_dp r 8 _ _ _ r2 hq
  exact op_neD hu pins s σ H x y v u Q I rx ry ⟨p, q, a1, b1, shaped_pd (by decide) hp a2, shaped_pd (by decide) hq b2, rP_back r (.bl _) k⟩

/-! ### is -/
/-- x is None, x is True, x is False -/
def dIs : Op2 := fun x y _ => match x, y with
  | .non, .non => some (.bl true)
  | .bl _, .non => some (.bl false)
  | .int _, .non => some (.bl false)
  | .str _, .non => some (.bl false)
  | .tup _, .non => some (.bl false)
  | .lv _, .non => some (.bl false)
  | .ro _, .non => some (.bl false)
  | .ref _, .non => some (.bl false)
  | .bl a, .bl b => some (.bl (decide (a = b)))
  | _, _ => none
def dIsNot : Op2 := fun x y S => match dIs x y S with
  | some (.bl b) => some (.bl (!b))
  | _ => none
theorem isnon {K : PySem.W.Frag} {φ Z : List Addr} {H : Hp} {x : V} {dx d : D} {S : Sto} (r1 : RV K φ Z H x dx) (h : dIs dx .non S = some d) : d = .bl (decide (x = .non)) := by
  cases r1 <;> cases h <;> rfl
theorem jo_is : JOp G Γ (compareOp .Is) dIs := fun X W hx => by
  obtain ⟨rfl⟩ := hx
  rintro pins s σ H x y v u Q I rx ry ⟨φ, Z, S, dx, dy, d, r, r1, r2, hd, k⟩
  by_cases hy : dy = .non
  · subst hy
    have e := isnon r1 hd
    subst e
    exact op_isN pins s σ H x y v u Q I rx ry ⟨r2.nonD, rP_back r (.bl _) k⟩
  · have : ∃ a b, dx = .bl a ∧ dy = .bl b ∧ d = .bl (decide (a = b)) := by
      unfold dIs at hd
      split at hd <;> first | (exact absurd rfl hy) | (cases hd; exact ⟨_, _, rfl, rfl, rfl⟩) | cases hd
    obtain ⟨a, b, rfl, rfl, rfl⟩ := this
    exact op_isBl pins s σ H x y v u Q I rx ry ⟨a, b, r1.blD, r2.blD, rP_back r (.bl _) k⟩
theorem jo_isnot : JOp G Γ (compareOp .IsNot) dIsNot := fun X W hx => by
  obtain ⟨rfl⟩ := hx
  rintro pins s σ H x y v u Q I rx ry ⟨φ, Z, S, dx, dy, d, r, r1, r2, hd, k⟩
  unfold dIsNot at hd
  split at hd
  · rename_i c hc
    cases hd
    by_cases hy : dy = .non
    · subst hy
      have e := isnon r1 hc
      cases e
      exact op_notN pins s σ H x y v u Q I rx ry ⟨r2.nonD, rP_back r (.bl _) k⟩
    · have : ∃ a b, dx = .bl a ∧ dy = .bl b ∧ D.bl c = .bl (decide (a = b)) := by
        unfold dIs at hc
        split at hc <;> first | (exact absurd rfl hy) | (cases hc; exact ⟨_, _, rfl, rfl, rfl⟩) | cases hc
      obtain ⟨a, b, rfl, rfl, e⟩ := this
      cases e
      exact op_notBl pins s σ H x y v u Q I rx ry ⟨a, b, r1.blD, r2.blD, rP_back r (.bl _) k⟩
  · cases hd

/-! ### in, not in: lists and tuples of data -/
def dInB (x y : D) (S : Sto) : Option Bool := match pd S 8 x, lstD S y with
  | some p, some l => (optAll (pd S 8) l).map fun ps => ps.any fun z => PyData.eqv z p
  | _, _ => none
def dIn : Op2 := fun x y S => (dInB x y S).map .bl
def dNotIn : Op2 := fun x y S => (dInB x y S).map fun b => .bl (!b)
theorem dInB_some {x y : D} {S : Sto} {b : Bool} (h : dInB x y S = some b) : ∃ p l ps, pd S 8 x = some p ∧ lstD S y = some l ∧ optAll (pd S 8) l = some ps ∧ b = ps.any fun z => PyData.eqv z p := by
  unfold dInB at h
  split at h
  · rename_i a b h1 h2
    obtain ⟨ps, e, rfl⟩ := Option.map_eq_some_iff.mp h
    exact ⟨_, _, _, h1, h2, e, rfl⟩
  · cases h
theorem shaped_list {S : Sto} {l : List D} {ps : List PyData} (h : optAll (pd S 8) l = some ps) (c : PyData.canLayAll0 ps = true) : SeqAt.shaped (.list ps) = true := by
  unfold SeqAt.shaped
  have := optAll_depth (fun d p => pd_depth 8 d p) _ _ h
  have e : (PyData.list ps).depth ≤ 64 := by simp only [PyData.depth]; omega
  rw [decide_eq_true e]
  simp [PyData.canLay0, c]
theorem jo_in : JOp G Γ (compareOp .In) dIn := fun X W hx => by
  have hu := hx.un5
  obtain ⟨rfl⟩ := hx
  rintro pins s σ H x y v u Q I rx ry ⟨φ, Z, S, dx, dy, d, r, r1, r2, hd, k⟩
  obtain ⟨b, h1, rfl⟩ := Option.map_eq_some_iff.mp hd
  obtain ⟨p, l, ps, hp, hl, hps, rfl⟩ := dInB_some h1
  obtain ⟨a1, a2⟩ := pd_dp r 8 _ _ _ r1 hp
  obtain ⟨a, xs, rfl, q1, q2⟩ := r2.lst r hl
  obtain ⟨b1, b2⟩ := optAll_dp (pd_dp r 8) q2 hps
  exact op_inD hu pins s σ H x _ v u Q I rx ry ⟨p, ps, a1, .lst q1 b1, shaped_pd (by decide) hp a2, shaped_list hps b2, rP_back r (.bl _) k⟩
theorem jo_notin : JOp G Γ (compareOp .NotIn) dNotIn := fun X W hx => by
  have hu := hx.un5
  obtain ⟨rfl⟩ := hx
  rintro pins s σ H x y v u Q I rx ry ⟨φ, Z, S, dx, dy, d, r, r1, r2, hd, k⟩
  obtain ⟨b, h1, rfl⟩ := Option.map_eq_some_iff.mp hd
  obtain ⟨p, l, ps, hp, hl, hps, rfl⟩ := dInB_some h1
  obtain ⟨a1, a2⟩ := pd_dp r 8 _ _ _ r1 hp
  obtain ⟨a, xs, rfl, q1, q2⟩ := r2.lst r hl
  obtain ⟨b1, b2⟩ := optAll_dp (pd_dp r 8) q2 hps
  exact op_notInD hu pins s σ H x _ v u Q I rx ry ⟨p, ps, a1, .lst q1 b1, shaped_pd (by decide) hp a2, shaped_list hps b2, rP_back r (.bl _) k⟩
end
end
end MP

/-! MP, part e: new lists, displays, calls of built-ins, of defs. -/
namespace MP
open PySem L2
section
variable {K : PySem.W.Frag} {mg : Mg} {W : XK} {φ φ1 Z : List Addr} {H H1 : Hp} {S S1 : Sto}
theorem RepS.back (r : RepS K mg φ1 Z S1 H1) (e : Ex φ H φ1 H1) {a : Addr} (h : H1 a = none) : H a = none := by
  by_cases m : a ∈ φ
  · obtain ⟨t, rfl⟩ := e.pre
    exact absurd h (r.there (List.mem_append_left _ m))
  · cases q : H a with
    | none => rfl
    | some o => rw [e.keep a o q m] at h; cases h
theorem RepS.toφ {a : Addr} {xs : List V} {l : List D} (nz : a ∉ Z) (r : RepS K mg φ (a :: Z) S H) (h : H a = some (.lst xs)) (q : RVs K φ (a :: Z) H xs l) : RepS K mg (φ ++ [a]) Z (S ++ [.lst l]) H := by
  obtain ⟨na, _⟩ := r.zs a List.mem_cons_self
  refine ⟨by rw [List.length_append, List.length_append, r.len]; rfl, ?_, fun n b o h1 h2 => ?_, fun z hz => ?_⟩
  · rw [List.nodup_append]
    refine ⟨r.nd, by simp, fun x hx y hy => ?_⟩
    rw [List.mem_singleton.mp hy]
    exact fun e => na (by rw [← e]; exact hx)
  · by_cases hn : n < φ.length
    · rw [List.getElem?_append_left hn] at h1
      rw [List.getElem?_append_left (by rw [← r.len]; exact hn)] at h2
      exact (r.ob n b o h1 h2).imp rfl fun v d x => x.toφ
    · have hl := r.len
      obtain ⟨hm, _⟩ := List.getElem?_eq_some_iff.mp h1
      rw [List.length_append, List.length_singleton] at hm
      have en : n = φ.length := by omega
      subst en
      rw [List.getElem?_append_right (Nat.le_refl _), Nat.sub_self] at h1
      rw [hl, List.getElem?_append_right (Nat.le_refl _), Nat.sub_self] at h2
      cases h1
      cases h2
      exact .lst h q.toφ
  · obtain ⟨z1, z2⟩ := r.zs z (List.mem_cons_of_mem _ hz)
    refine ⟨fun m => ?_, z2⟩
    rcases List.mem_append.mp m with m | m
    · exact z1 m
    · exact nz (by rw [← List.mem_singleton.mp m]; exact hz)
theorem RepS.dropZ {a : Addr} (r : RepS K mg φ (a :: Z) S H) : RepS K mg φ Z S H :=
  ⟨r.len, r.nd, fun n b o h1 h2 => (r.ob n b o h1 h2).imp rfl fun v d q => q.dropZ, fun z hz => r.zs z (List.mem_cons_of_mem _ hz)⟩
/-- everything that is asked of a list laid new -/
theorem newL_give (r : RepS K mg φ Z S H) {p : Addr} (hp : H p = none) {vs : List V} {l : List D} (h : RVs K φ Z H vs l) :
    Ex φ H φ (upd H p (.lst vs)) ∧ RepS K mg φ Z S (upd H p (.lst vs)) ∧ RepS K mg φ (p :: Z) S (upd H p (.lst vs)) ∧ RVs K φ (p :: Z) (upd H p (.lst vs)) vs l :=
  ⟨Ex.of_same hp, r.lay hp, r.addZ hp, (h.addZ hp).mono r.nt (Ex.of_same hp)⟩
end
/-- what is asked of whoever lays a new list -/
def NewQ (K : PySem.W.Frag) (mg : Mg) (H : Hp) (Z : List Addr) (Q : VK) (φ' : List Addr) (H' : Hp) (l : List D) (S' : Sto) : Prop :=
  ∀ a xs, H a = none → H' a = some (.lst xs) → RepS K mg φ' (a :: Z) S' H' → RVs K φ' (a :: Z) H' xs l → Q (.ref a) H'

section
variable {G : Gs} {Γ : Ctx}
def mLv (m : M (List D)) : M D := fun ρ S => (m ρ S).bind fun l S1 => .ok (.lv l) S1
def mRef (m : M (List D)) : M D := fun ρ S => (m ρ S).bind fun l S1 => .ok (.ref S1.length) (S1 ++ [.lst l])
theorem jn_lv {e : Expr} {m : M (List D)} (h : JN G Γ e m) : JE G Γ e (mLv m) := fun X W hx => by
  have p := h X W hx
  refine p.weak fun σ H Q hl ⟨φ, Z, ρ, S, r, rf, q⟩ => ⟨φ, Z, ρ, S, r, rf, (EndG.bind q).imp fun φ1 H1 l S1 e1 r1 q1 a xs ha hH rz rvs => ?_⟩
  exact q1.at r1 _ (.lv hH (rz.zs a List.mem_cons_self).1 (fun hz => (r.zs a hz).2 ha) rvs.dropZ)
theorem jn_ref {e : Expr} {m : M (List D)} (h : JN G Γ e m) : JE G Γ e (mRef m) := fun X W hx => by
  have p := h X W hx
  refine p.weak fun σ H Q hl ⟨φ, Z, ρ, S, r, rf, q⟩ => ⟨φ, Z, ρ, S, r, rf, ?_⟩
  simp only [mRef] at q
  cases hm : m ρ S with
  | bad => rw [hm] at q; exact q
  | exc c S1 => rw [hm] at q; exact q
  | ok l S1 =>
    rw [hm] at q
    intro φ1 H1 e1 r1 a xs ha hH rz rvs
    have na : a ∉ φ1 := (rz.zs a List.mem_cons_self).1
    have nz : a ∉ Z := fun hz => (r.zs a hz).2 ha
    have e2 : Ex φ H (φ1 ++ [a]) H1 := ⟨e1.pre.trans (List.prefix_append _ _), fun b hb nb => by
      rcases List.mem_append.mp hb with hb | hb
      · exact e1.new b hb nb
      · rw [List.mem_singleton.mp hb]; exact ha, e1.keep⟩
    refine q (φ1 ++ [a]) H1 e2 (rz.toφ nz hH rvs) (.ref a) (.ref ?_)
    rw [← r1.len, List.getElem?_append_right (Nat.le_refl _), Nat.sub_self]
    rfl

/-! ### displays -/
def mTup (m : M (List D)) : M D := fun ρ S => (m ρ S).bind fun l S1 => if l.length ≤ sizeLine then .ok (.tup l) S1 else .bad
def mLst (m : M (List D)) : M (List D) := fun ρ S => (m ρ S).bind fun l S1 => if l.length ≤ sizeLine then .ok l S1 else .bad
theorem je_tup {es : List Expr} {k : Nat} {pos : Pos} {m : M (List D)} (h : JA G Γ es m) : JE G Γ (.Tuple es k pos) (mTup m) := fun X W hx => by
  have p := h X W hx
  obtain ⟨rfl⟩ := hx
  refine (pe_tupE p).weak fun σ H Q hl ⟨φ, Z, ρ, S, r, rf, q⟩ => ?_
  refine tG.seq r rf q fun φ1 H1 l S1 e1 r1 rf1 q1 vs rvs => ?_
  split at q1
  · rename_i hz
    refine ⟨by rw [rvs.length]; exact hz, fun t o ht ho => ?_⟩
    exact q1 φ1 _ (Ex.of_same ht) (r1.lay ht) _ (RV.newT r1 ht ho rvs)
  · exact q1.elim
theorem jn_lst {es : List Expr} {pos : Pos} {m : M (List D)} (h : JA G Γ es m) : JN G Γ (.List es pos) (mLst m) := fun X W hx => by
  have p := h X W hx
  obtain ⟨rfl⟩ := hx
  refine (pe_lst p).weak fun σ H Q hl ⟨φ, Z, ρ, S, r, rf, q⟩ => ?_
  refine tG.seq r rf q fun φ1 H1 l S1 e1 r1 rf1 q1 vs rvs => ?_
  split at q1
  · rename_i hz
    refine ⟨by rw [rvs.length]; exact hz, fun t ht => ?_⟩
    obtain ⟨g1, g2, g3, g4⟩ := newL_give r1 ht rvs
    exact q1 φ1 _ g1 g2 t vs (r1.back e1 ht) upd_same g3 g4
  · exact q1.elim

/-! ### calls of built-ins with values -/
abbrev OpN := List D → Sto → Option D
abbrev OpNL := List D → Sto → Option (List D)
def rC (K : PySem.W.Frag) (mg : Mg) (f : OpN) : List V → Hp → VK → Prop := fun vs H Q => ∃ φ Z S ds d, RepS K mg φ Z S H ∧ RVs K φ Z H vs ds ∧ f ds S = some d ∧ ∀ φ' v H', Ex φ H φ' H' → RepS K mg φ' Z S H' → RV K φ' Z H' v d → Q v H'
def rCN (K : PySem.W.Frag) (mg : Mg) (f : OpNL) : List V → Hp → VK → Prop := fun vs H Q => ∃ φ Z S ds l, RepS K mg φ Z S H ∧ RVs K φ Z H vs ds ∧ f ds S = some l ∧ ∀ φ' H', Ex φ H φ' H' → RepS K mg φ' Z S H' → NewQ K mg H Z Q φ' H' l S
def JB (G : Gs) (Γ : Ctx) (f : Value) (o : OpN) : Prop := ∀ X W, XW G Γ X W → CallR X f (rC G.K G.mw o)
def JBN (G : Gs) (Γ : Ctx) (f : Value) (o : OpNL) : Prop := ∀ X W, XW G Γ X W → CallR X f (rCN G.K G.mw o)
def mCB (f : OpN) (a : M (List D)) : M D := fun ρ S => (a ρ S).bind fun ds S1 => optR (f ds S1) S1
def mCBN (f : OpNL) (a : M (List D)) : M (List D) := fun ρ S => (a ρ S).bind fun ds S1 => optR (f ds S1) S1
theorem glOf {X : Cx} {W : XK} (hx : XW G Γ X W) {x : Str} (h : Γ.sc.names.lookup x = some .globalImplicit) : Gl X x := by
  show X.env.scope.names.lookup x = _
  rw [hx.sc]
  exact h
theorem call_weak {K : PySem.W.Frag} {mg : Mg} {W : XK} {f : OpN} {ma : M (List D)} : ∀ σ H Q, tE K mg W (mCB f ma) σ H Q → tCB (rC K mg f) (tA K mg W ma) σ H Q := fun σ H Q ⟨φ, Z, ρ, S, r, rf, q⟩ => by
  refine tG.seq r rf q fun φ1 H1 ds S1 e1 r1 rf1 q1 vs rvs => ?_
  obtain ⟨d, hd, k⟩ := op_step r1 q1
  exact ⟨φ1, Z, S1, ds, d, r1, rvs, hd, k⟩
theorem call_weakN {K : PySem.W.Frag} {mg : Mg} {W : XK} {f : OpNL} {ma : M (List D)} : ∀ σ H Q, tN K mg W (mCBN f ma) σ H Q → tCB (rCN K mg f) (tA K mg W ma) σ H Q := fun σ H Q ⟨φ, Z, ρ, S, r, rf, q⟩ => by
  refine tG.seq r rf q fun φ1 H1 ds S1 e1 r1 rf1 q1 vs rvs => ?_
  cases hd : f ds S1 with
  | none => rw [hd] at q1; exact q1.elim
  | some l =>
    rw [hd] at q1
    refine ⟨φ1, Z, S1, ds, l, r1, rvs, hd, fun φ' H' e' r' a xs ha hH rz rvs' => ?_⟩
    exact q1 φ' H' e' r' a xs (r1.back e1 ha) hH rz rvs'
theorem je_callB {id : String} {x : Str} {e : Expr} {es : List Expr} {p pos : Pos} {ma : M (List D)} {f : OpN} (hc : JB G Γ (.builtin id) f) (hv : bootBuiltins x = some (.builtin id)) (hm : G.mg x = none) (ha : JA G Γ (e :: es) ma) (hg : Γ.sc.names.lookup x = some .globalImplicit := by rfl)
    (hn : x ≠ "__name__" := by decide) (hdb : (x == ("__debug__" : Str)) = false := by decide) (he : ∀ env, starEach (e :: es) env = (false, eval e env) :: starEach es env := by intro _; rfl) (hpl : ∀ env, (backTo pos (starEach es env)).any (·.1) = false := by intro _; rfl) : JE G Γ (.Call (.Name x p) (e :: es) [] pos) (mCB f ma) := fun X W hx => by
  have q := hc X W hx
  have qa := ha X W hx
  have g := glOf hx hg
  obtain ⟨rfl⟩ := hx
  exact (pe_callB q g hm hv qa hn hdb (he _) (hpl _)).weak fun σ H Q _ h => call_weak σ H Q h
theorem jn_callB {id : String} {x : Str} {e : Expr} {es : List Expr} {p pos : Pos} {ma : M (List D)} {f : OpNL} (hc : JBN G Γ (.builtin id) f) (hv : bootBuiltins x = some (.builtin id)) (hm : G.mg x = none) (ha : JA G Γ (e :: es) ma) (hg : Γ.sc.names.lookup x = some .globalImplicit := by rfl)
    (hn : x ≠ "__name__" := by decide) (hdb : (x == ("__debug__" : Str)) = false := by decide) (he : ∀ env, starEach (e :: es) env = (false, eval e env) :: starEach es env := by intro _; rfl) (hpl : ∀ env, (backTo pos (starEach es env)).any (·.1) = false := by intro _; rfl) : JN G Γ (.Call (.Name x p) (e :: es) [] pos) (mCBN f ma) := fun X W hx => by
  have q := hc X W hx
  have qa := ha X W hx
  have g := glOf hx hg
  obtain ⟨rfl⟩ := hx
  exact (pe_callB q g hm hv qa hn hdb (he _) (hpl _)).weak fun σ H Q _ h => call_weakN σ H Q h
theorem je_callTy {T : String} {x : Str} {e : Expr} {es : List Expr} {p pos : Pos} {ma : M (List D)} {f : OpN} (hc : JB G Γ (.type T) f) (hv : bootBuiltins x = some (.type T)) (hm : G.mg x = none) (ha : JA G Γ (e :: es) ma) (hg : Γ.sc.names.lookup x = some .globalImplicit := by rfl)
    (hn : x ≠ "__name__" := by decide) (hdb : (x == ("__debug__" : Str)) = false := by decide) (he : ∀ env, starEach (e :: es) env = (false, eval e env) :: starEach es env := by intro _; rfl) (hpl : ∀ env, (backTo pos (starEach es env)).any (·.1) = false := by intro _; rfl) : JE G Γ (.Call (.Name x p) (e :: es) [] pos) (mCB f ma) := fun X W hx => by
  have q := hc X W hx
  have qa := ha X W hx
  have g := glOf hx hg
  obtain ⟨rfl⟩ := hx
  exact (pe_callTy q g hm hv qa hn hdb (he _) (hpl _)).weak fun σ H Q _ h => call_weak σ H Q h
theorem jn_callTy {T : String} {x : Str} {e : Expr} {es : List Expr} {p pos : Pos} {ma : M (List D)} {f : OpNL} (hc : JBN G Γ (.type T) f) (hv : bootBuiltins x = some (.type T)) (hm : G.mg x = none) (ha : JA G Γ (e :: es) ma) (hg : Γ.sc.names.lookup x = some .globalImplicit := by rfl)
    (hn : x ≠ "__name__" := by decide) (hdb : (x == ("__debug__" : Str)) = false := by decide) (he : ∀ env, starEach (e :: es) env = (false, eval e env) :: starEach es env := by intro _; rfl) (hpl : ∀ env, (backTo pos (starEach es env)).any (·.1) = false := by intro _; rfl) : JN G Γ (.Call (.Name x p) (e :: es) [] pos) (mCBN f ma) := fun X W hx => by
  have q := hc X W hx
  have qa := ha X W hx
  have g := glOf hx hg
  obtain ⟨rfl⟩ := hx
  exact (pe_callTy q g hm hv qa hn hdb (he _) (hpl _)).weak fun σ H Q _ h => call_weakN σ H Q h

/-! ### the built-ins -/
def fLen : OpN := fun ds S => match ds with
  | [.str s] => if s.length ≤ sizeLine then some (.int s.length) else none
  | [d] => (seqD S d).map fun l => .int l.length
  | _ => none
theorem jb_len : JB G Γ (.builtin "len") fLen := fun X W hx => by
  obtain ⟨rfl⟩ := hx
  rintro pins s σ H vs us Q I rv ⟨φ, Z, S, ds, d, r, r1, hd, k⟩
  unfold fLen at hd
  split at hd
  · split at hd
    · rename_i hz
      cases hd
      obtain ⟨v, rfl, rs⟩ := r1.oneD
      exact call_len_str pins s σ H _ us Q I rv ⟨_, by rw [rs.strD], hz, rP_back r (.int _) k⟩
    · cases hd
  · rename_i x _
    obtain ⟨l, hl, rfl⟩ := Option.map_eq_some_iff.mp hd
    obtain ⟨v, rfl, rs⟩ := r1.oneD
    obtain ⟨a, xs, rfl, h1, h2⟩ := rs.seq r hl
    refine call_len_seq pins s σ H _ us Q I rv ⟨a, xs, rfl, h1, ?_⟩
    rw [h2.length]
    exact rP_back r (.int _) k
  · cases hd
/-- list(x), new -/
def fList : OpNL := fun ds S => match ds with
  | [d] => seqD S d
  | _ => none
theorem jb_list : JBN G Γ (.type "list") fList := fun X W hx => by
  obtain ⟨rfl⟩ := hx
  rintro pins s σ H vs us Q I rv ⟨φ, Z, S, ds, d, r, r1, hd, k⟩
  unfold fList at hd
  split at hd
  · obtain ⟨v, rfl, rs⟩ := r1.oneD
    obtain ⟨a, xs, rfl, h1, h2⟩ := rs.seq r hd
    refine call_list_of pins s σ H _ us Q I rv ⟨a, xs, rfl, h1, fun l hl => ?_⟩
    obtain ⟨g1, g2, g3, g4⟩ := newL_give r hl h2
    exact k φ _ g1 g2 l xs hl upd_same g3 g4
  · cases hd
/-- tuple(x) -/
def fTuple : OpN := fun ds S => match ds with
  | [d] => (seqD S d).map .tup
  | _ => none
theorem jb_tuple : JB G Γ (.type "tuple") fTuple := fun X W hx => by
  obtain ⟨rfl⟩ := hx
  rintro pins s σ H vs us Q I rv ⟨φ, Z, S, ds, d, r, r1, hd, k⟩
  unfold fTuple at hd
  split at hd
  · obtain ⟨l, hl, rfl⟩ := Option.map_eq_some_iff.mp hd
    obtain ⟨v, rfl, rs⟩ := r1.oneD
    obtain ⟨a, xs, rfl, h1, h2⟩ := rs.seqE r hl
    refine call_tuple_ofE pins s σ H _ us Q I rv ⟨a, xs, rfl, ?_⟩
    rcases h1 with h1 | h1
    · exact .inl ⟨h1, fun t o ht ho => k φ _ _ (Ex.of_same ht) (r.lay ht) (RV.newT r ht ho h2)⟩
    · exact .inr ⟨h1.sq, k φ _ _ Ex.refl r (.tup h1 h2)⟩
  · cases hd
def fMin2 : OpN := fun ds _ => match ds with
  | [.int i, .int j] => some (.int (if j < i then j else i))
  | _ => none
theorem jb_min2 (hs : ∀ X : Cx, CallR X (.builtin "min") (fun xs H Q => ∃ i j, xs = [.int i, .int j] ∧ Q (.int (if j < i then j else i)) H)) : JB G Γ (.builtin "min") fMin2 := fun X W hx => by
  obtain ⟨rfl⟩ := hx
  rintro pins s σ H vs us Q I rv ⟨φ, Z, S, ds, d, r, r1, hd, k⟩
  unfold fMin2 at hd
  split at hd
  · cases hd
    obtain ⟨v, w, rfl, ra, rb⟩ := r1.twoD
    exact hs X pins s σ H _ us Q I rv ⟨_, _, by rw [ra.intD, rb.intD], rP_back r (.int _) k⟩
  · cases hd
/-- int(n), int(flag) -/
def fInt : OpN := fun ds _ => match ds with
  | [.int i] => some (.int i)
  | [.bl b] => some (.int (if b then 1 else 0))
  | _ => none
/-- all, any of truths -/
def truths : List D → Option (List Bool)
  | [] => some []
  | .bl b :: l => (truths l).map (b :: ·)
  | _ => none
theorem truths_rep {K : PySem.W.Frag} {φ Z : List Addr} {H : Hp} : ∀ {vs : List V} {l : List D} {bs : List Bool}, RVs K φ Z H vs l → truths l = some bs → vs = bs.map V.bl
  | _, _, _, .nil, h => by cases h; rfl
  | _, _, _, .cons r q, h => by
    cases r with
    | bl b =>
      simp only [truths] at h
      obtain ⟨bs, h1, rfl⟩ := Option.map_eq_some_iff.mp h
      rw [truths_rep q h1]
      rfl
    | _ => cases h
def fAll : OpN := fun ds S => match ds with
  | [d] => ((lstD S d).bind truths).map fun bs => .bl (bs.all id)
  | _ => none
def fAnyB : OpN := fun ds S => match ds with
  | [d] => ((lstD S d).bind truths).map fun bs => .bl (bs.any id)
  | _ => none
theorem jb_all : JB G Γ (.builtin "all") fAll := fun X W hx => by
  have hc := hx.calm
  obtain ⟨rfl⟩ := hx
  rintro pins s σ H vs us Q I rv ⟨φ, Z, S, ds, d, r, r1, hd, k⟩
  unfold fAll at hd
  split at hd
  · obtain ⟨bs, hb, rfl⟩ := Option.map_eq_some_iff.mp hd
    obtain ⟨l, hl, hb⟩ := Option.bind_eq_some_iff.mp hb
    obtain ⟨v, rfl, rs⟩ := r1.oneD
    obtain ⟨a, xs, rfl, h1, h2⟩ := rs.lst r hl
    have e := truths_rep h2 hb
    subst e
    exact cr_all hc pins s σ H _ us Q I rv ⟨a, bs, rfl, h1, rP_back r (.bl _) k⟩
  · cases hd
theorem jb_anyB : JB G Γ (.builtin "any") fAnyB := fun X W hx => by
  have hc := hx.calm
  obtain ⟨rfl⟩ := hx
  rintro pins s σ H vs us Q I rv ⟨φ, Z, S, ds, d, r, r1, hd, k⟩
  unfold fAnyB at hd
  split at hd
  · obtain ⟨bs, hb, rfl⟩ := Option.map_eq_some_iff.mp hd
    obtain ⟨l, hl, hb⟩ := Option.bind_eq_some_iff.mp hb
    obtain ⟨v, rfl, rs⟩ := r1.oneD
    obtain ⟨a, xs, rfl, h1, h2⟩ := rs.lst r hl
    have e := truths_rep h2 hb
    subst e
    exact cr_any hc pins s σ H _ us Q I rv ⟨a, bs, rfl, h1, rP_back r (.bl _) k⟩
  · cases hd
end
end MP

/-! MP, part f: subscripts, slices, methods of lists, stores, calls of defs. -/
namespace MP
open PySem L2
section
variable {G : Gs} {Γ : Ctx}
theorem jb_min : JB G Γ (.builtin "min") fMin2 := fun X W hx => by
  have hc := hx.calm
  obtain ⟨rfl⟩ := hx
  rintro pins s σ H vs us Q I rv ⟨φ, Z, S, ds, d, r, r1, hd, k⟩
  unfold fMin2 at hd
  split at hd
  · cases hd
    obtain ⟨v, w, rfl, ra, rb⟩ := r1.twoD
    exact call_min2 hc pins s σ H _ us Q I rv ⟨_, _, by rw [ra.intD, rb.intD], rP_back r (.int _) k⟩
  · cases hd
def fMax2 : OpN := fun ds _ => match ds with
  | [.int i, .int j] => some (.int (if j > i then j else i))
  | _ => none
theorem jb_max : JB G Γ (.builtin "max") fMax2 := fun X W hx => by
  have hc := hx.calm
  obtain ⟨rfl⟩ := hx
  rintro pins s σ H vs us Q I rv ⟨φ, Z, S, ds, d, r, r1, hd, k⟩
  unfold fMax2 at hd
  split at hd
  · cases hd
    obtain ⟨v, w, rfl, ra, rb⟩ := r1.twoD
    exact call_max2 hc pins s σ H _ us Q I rv ⟨_, _, by rw [ra.intD, rb.intD], rP_back r (.int _) k⟩
  · cases hd
theorem jb_int : JB G Γ (.type "int") fInt := fun X W hx => by
  obtain ⟨rfl⟩ := hx
  rintro pins s σ H vs us Q I rv ⟨φ, Z, S, ds, d, r, r1, hd, k⟩
  unfold fInt at hd
  split at hd
  · cases hd
    obtain ⟨v, rfl, ra⟩ := r1.oneD
    exact call_int1 pins s σ H _ us Q I rv (.inl ⟨_, by rw [ra.intD], rP_back r (.int _) k⟩)
  · cases hd
    obtain ⟨v, rfl, ra⟩ := r1.oneD
    exact call_int1 pins s σ H _ us Q I rv (.inr ⟨_, by rw [ra.blD], rP_back r (.int _) k⟩)
  · cases hd

/-! ### x[i] -/
def JIx (G : Gs) (Γ : Ctx) (o : Op2) : Prop := ∀ X W, XW G Γ X W → IxR X (rP G.K G.mw o)
theorem atI_rv {K : PySem.W.Frag} {φ Z : List Addr} {H : Hp} {xs : List V} {l : List D} {i : Int} {d : D} (r : RVs K φ Z H xs l) (h : atI l i = some d) : ∃ v, atI xs i = some v ∧ RV K φ Z H v d := by
  unfold atI at h ⊢
  rw [r.length]
  obtain ⟨j, h1, h2⟩ := Option.bind_eq_some_iff.mp h
  obtain ⟨v, h3, h4⟩ := r.getD h2
  exact ⟨v, by rw [h1]; exact h3, h4⟩
def dIx : Op2 := fun x y S => match x, y with
  | .str s, .int i => if s.length ≤ sizeLine then (atI s.cps.toList i).map fun c => .str ⟨#[c]⟩ else none
  | x, .int i => (seqD S x).bind fun l => atI l i
  | _, _ => none
theorem jix_seq : JIx G Γ dIx := fun X W hx => by
  obtain ⟨rfl⟩ := hx
  rintro value slice pins s σ H x y v u Q I rx ry ⟨φ, Z, S, dx, dy, d, r, r1, r2, hd, k⟩ hsb
  unfold dIx at hd
  split at hd
  · split at hd
    · rename_i hz
      obtain ⟨c, hc, rfl⟩ := Option.map_eq_some_iff.mp hd
      exact ix_str value slice pins s σ H x y v u Q I rx ry ⟨_, _, c, r1.strD, r2.intD, hz, hc, rP_back r (.str _) k⟩ hsb
    · cases hd
  · obtain ⟨l, h1, h2⟩ := Option.bind_eq_some_iff.mp hd
    obtain ⟨a, xs, rfl, g1, g2⟩ := r1.seq r h1
    obtain ⟨w, h3, h4⟩ := atI_rv g2 h2
    rcases g1 with g1 | g1
    · exact ix_list value slice pins s σ H _ y v u Q I rx ry ⟨a, xs, _, w, rfl, r2.intD, g1, h3, rP_back r h4 k⟩ hsb
    · exact ix_tup value slice pins s σ H _ y v u Q I rx ry ⟨a, xs, _, w, rfl, r2.intD, g1, h3, rP_back r h4 k⟩ hsb
  · cases hd
theorem je_ix {a b : Expr} {pos : Pos} {ma mb : M D} {o : Op2} (ho : JIx G Γ o) (ha : JE G Γ a ma) (hb : JE G Γ b mb) (hs : PlainIx b := by intro _ _; rfl) : JE G Γ (.Subscript a b pos) (mOp o ma mb) := fun X W hx => by
  have p := ho X W hx
  have p1 := ha X W hx
  have p2 := hb X W hx
  obtain ⟨rfl⟩ := hx
  refine (pe_ix p p1 p2 hs).weak fun σ H Q hl ⟨φ, Z, ρ, S, r, rf, q⟩ => ?_
  refine tG.seq r rf q fun φ1 H1 dx S1 e1 r1 rf1 q1 x rx => tG.seq r1 rf1 q1 fun φ2 H2 dy S2 e2 r2 rf2 q2 y ry => ?_
  obtain ⟨d, hd, k⟩ := op_step r2 q2
  exact ⟨φ2, Z, S2, dx, dy, d, r2, rx.mono r1.nt e2, ry, hd, k⟩

/-! ### x[lo:hi] -/
def JO (G : Gs) (Γ : Ctx) (e : Option Expr) (m : M (Option Int)) : Prop := ∀ X W, XW G Γ X W → PO X e (fun σ H Q => tG G.K G.mw W m σ H fun _ H' _ o => Q o H')
theorem _root_.L2.PO.weak {X : Cx} {e : Option Expr} {t t' : TO} (h : PO X e t) (f : ∀ σ H Q, σ.length = X.N.length → t' σ H Q → t σ H Q) : PO X e t' := ⟨fun pins s σ H Q I q => h.run pins s σ H Q I (f σ H Q I.len q)⟩
def mNoP : M (Option Int) := fun _ S => .ok none S
def mPart (e : M D) : M (Option Int) := fun ρ S => (e ρ S).bind fun d S1 => match d with
  | .int i => .ok (some i) S1
  | _ => .bad
theorem jo_none : JO G Γ none mNoP := fun X W hx => by
  obtain ⟨rfl⟩ := hx
  exact po_none.weak fun σ H Q hl ⟨φ, Z, ρ, S, r, rf, q⟩ => q.at r
theorem jo_some {e : Expr} {m : M D} (h : JE G Γ e m) : JO G Γ (some e) (mPart m) := fun X W hx => by
  have p := h X W hx
  obtain ⟨rfl⟩ := hx
  refine (po_some p).weak fun σ H Q hl ⟨φ, Z, ρ, S, r, rf, q⟩ => ?_
  refine tG.seq r rf q fun φ1 H1 d S1 e1 r1 rf1 q1 v rv => ?_
  cases rv with
  | int i => exact ⟨i, rfl, q1.at r1⟩
  | _ => exact q1.elim
def cutL {α : Type} (xs : List α) (lo hi : Option Int) : List α := (xs.drop (HT.sIx xs.length 0 lo)).take (HT.sIx xs.length xs.length hi - HT.sIx xs.length 0 lo)
theorem cut_rv {K : PySem.W.Frag} {φ Z : List Addr} {H : Hp} {xs : List V} {l : List D} (r : RVs K φ Z H xs l) (lo hi : Option Int) : RVs K φ Z H (cutV xs lo hi) (cutL l lo hi) := by
  unfold cutV cutL
  rw [r.length]
  exact (r.drop _).take _
theorem cut_all {α : Type} {l : List α} {lo hi : Option Int} (h : HT.sIx l.length 0 lo = 0 ∧ HT.sIx l.length l.length hi = l.length) : cutL l lo hi = l := by
  unfold cutL
  rw [h.1, h.2]
  simp
abbrev Op3 := D → Option Int → Option Int → Sto → Option D
def dSl : Op3 := fun x lo hi S => match x with
  | .tup l => some (.tup (cutL l lo hi))
  | x => (lstD S x).map fun l => .lv (cutL l lo hi)
def rP3 (K : PySem.W.Frag) (mg : Mg) (f : Op3) : V → Option Int → Option Int → Hp → VK → Prop := fun x lo hi H Q => ∃ φ Z S dx d, RepS K mg φ Z S H ∧ RV K φ Z H x dx ∧ f dx lo hi S = some d ∧ ∀ φ' v H', Ex φ H φ' H' → RepS K mg φ' Z S H' → RV K φ' Z H' v d → Q v H'
def JSl (G : Gs) (Γ : Ctx) (o : Op3) : Prop := ∀ X W, XW G Γ X W → SlR X (rP3 G.K G.mw o)
theorem jsl_seq : JSl G Γ dSl := fun X W hx => by
  obtain ⟨rfl⟩ := hx
  rintro pins s σ H x v vl vu lo hi sl Q I rx hs pl pu ⟨φ, Z, S, dx, d, r, r1, hd, k⟩
  unfold dSl at hd
  split at hd
  · cases hd
    obtain ⟨a, xs, rfl, h1, h2⟩ := r1.tupD
    refine sl_tupE pins s σ H _ v vl vu lo hi sl Q I rx hs pl pu ⟨a, xs, rfl, h1.sq, fun e => ?_, fun e t o ht ho => ?_⟩
    · rw [h2.length] at e
      rw [cut_all e] at k
      exact rP_back r r1 k
    · exact k φ _ _ (Ex.of_same ht) (r.lay ht) (RV.newT r ht ho (cut_rv h2 lo hi))
  · obtain ⟨l, hl, rfl⟩ := Option.map_eq_some_iff.mp hd
    obtain ⟨a, xs, rfl, h1, h2⟩ := r1.lst r hl
    refine sl_list pins s σ H _ v vl vu lo hi sl Q I rx hs pl pu ⟨a, xs, rfl, h1, fun t ht => ?_⟩
    exact k φ _ _ (Ex.of_same ht) (r.lay ht) (RV.newL r ht (cut_rv h2 lo hi))
def mSl (f : Op3) (e : M D) (lo hi : M (Option Int)) : M D := fun ρ S => (e ρ S).bind fun x S1 => (lo ρ S1).bind fun l S2 => (hi ρ S2).bind fun h S3 => optR (f x l h S3) S3
theorem je_slice {e : Expr} {lo hi : Option Expr} {p2 pos : Pos} {m : M D} {ml mh : M (Option Int)} {o : Op3} (ho : JSl G Γ o) (he : JE G Γ e m) (hl : JO G Γ lo ml) (hh : JO G Γ hi mh) : JE G Γ (.Subscript e (.Slice lo hi none p2) pos) (mSl o m ml mh) := fun X W hx => by
  have p := ho X W hx
  have p1 := he X W hx
  have pl := hl X W hx
  have ph := hh X W hx
  obtain ⟨rfl⟩ := hx
  refine (pe_slice p p1 pl ph).weak fun σ H Q hl ⟨φ, Z, ρ, S, r, rf, q⟩ => ?_
  refine tG.seq r rf q fun φ1 H1 dx S1 e1 r1 rf1 q1 x rx => tG.seq r1 rf1 q1 fun φ2 H2 l S2 e2 r2 rf2 q2 => tG.seq r2 rf2 q2 fun φ3 H3 h S3 e3 r3 rf3 q3 => ?_
  obtain ⟨d, hd, k⟩ := op_step r3 q3
  exact ⟨φ3, Z, S3, dx, d, r3, (rx.mono r1.nt e2).mono r2.nt e3, hd, k⟩

/-! ### lists that change -/
section
variable {K : PySem.W.Frag} {mg : Mg} {φ Z : List Addr} {H : Hp} {S : Sto}
theorem RepS.setO (r : RepS K mg φ Z S H) {n : Nat} {a : Addr} {o : Ob} {h : HO} (ha : φ[n]? = some a) (q : RO K mg φ Z (upd H a h) a o) : RepS K mg φ Z (S.set n o) (upd H a h) := by
  have am : a ∈ φ := List.mem_of_getElem? ha
  have e : Ex φ H φ (upd H a h) := Ex.at am
  refine ⟨by rw [List.length_set]; exact r.len, r.nd, fun m b ob h1 h2 => ?_, fun z hz => ?_⟩
  · by_cases mn : n = m
    · subst mn
      rw [ha] at h1
      cases h1
      have hn : n < S.length := by rw [← r.len]; exact (List.getElem?_eq_some_iff.mp ha).1
      rw [List.getElem?_set_self hn] at h2
      cases h2
      exact q
    · rw [List.getElem?_set_ne mn] at h2
      have nb : b ≠ a := by
        rintro rfl
        obtain ⟨x1, x2⟩ := List.getElem?_eq_some_iff.mp ha
        obtain ⟨y1, y2⟩ := List.getElem?_eq_some_iff.mp h1
        exact mn ((List.getElem_inj r.nd).mp (x2.trans y2.symm))
      exact (r.ob m b ob h1 h2).imp (upd_ne nb) fun v d x => x.mono r.nt e
  · obtain ⟨z1, z2⟩ := r.zs z hz
    exact ⟨z1, by rw [upd_ne (fun w => z1 (by rw [w]; exact am))]; exact z2⟩
theorem RepS.setL (r : RepS K mg φ Z S H) {n : Nat} {a : Addr} {xs : List V} {l : List D} (ha : φ[n]? = some a) (q : RVs K φ Z H xs l) : RepS K mg φ Z (S.set n (.lst l)) (upd H a (.lst xs)) :=
  r.setO ha (.lst upd_same (q.mono r.nt (Ex.at (List.mem_of_getElem? ha))))
end
/-- a method that may change its list -/
abbrev OpM := D → List D → Sto → Option (D × Sto)
def rMt (K : PySem.W.Frag) (mg : Mg) (f : OpM) : V → List V → Hp → VK → Prop := fun x vs H Q => ∃ φ Z S dx ds d S', RepS K mg φ Z S H ∧ RV K φ Z H x dx ∧ RVs K φ Z H vs ds ∧ f dx ds S = some (d, S') ∧ ∀ φ' v H', Ex φ H φ' H' → RepS K mg φ' Z S' H' → RV K φ' Z H' v d → Q v H'
def JMt (G : Gs) (Γ : Ctx) (id : String) (o : OpM) : Prop := ∀ X W, XW G Γ X W → MtR X id (rMt G.K G.mw o)
/-- what stands ahead of a method: the object is of the type -/
abbrev TyC := D → Sto → Bool
def TyOk (T : String) (c : TyC) : Prop := ∀ (K : PySem.W.Frag) (mg : Mg) (φ Z : List Addr) (S : Sto) (H : Hp) (v : V) (d : D), RepS K mg φ Z S H → RV K φ Z H v d → c d S = true → tyV K T v H
def mMt (c : TyC) (f : OpM) (o : M D) (a : M (List D)) : M D := fun ρ S => (o ρ S).bind fun x S1 => if c x S1 = true then (a ρ S1).bind fun ds S2 => match f x ds S2 with
    | some (d, S3) => .ok d S3
    | none => .bad
  else .bad
def isL : TyC := fun d S => (lstD S d).isSome
theorem tyOk_list : TyOk "list" isL := fun K mg φ Z S H v d r rv h => by
  obtain ⟨l, hl⟩ := Option.isSome_iff_exists.mp h
  obtain ⟨a, xs, rfl, h1, _⟩ := rv.lst r hl
  exact .inl ⟨rfl, xs, h1⟩
theorem je_mt {T id : String} {name : Str} {o e : Expr} {es : List Expr} {apos cpos : Pos} {mo : M D} {ma : M (List D)} {f : OpM} {c : TyC} (pa : PySem.PlainAttrs T) (slot : PySem.Slot T name id) (hty : typeOf (.builtin id) = pure (.type "method_descriptor")) (hc : TyOk T c) (hm : JMt G Γ id f) (ho : JE G Γ o mo) (ha : JA G Γ (e :: es) ma)
    (hbase : ∀ env, attributeBase o name env (eval o env) = eval o env := by intro _; rfl)
    (hfew : ∀ env, ((backTo cpos (starEach (e :: es) env)).all (fun x => !x.1) && (backToKw cpos (keywordEach [] env)).all (fun x => x.1.isSome)
      && decide ((e :: es).length + ([] : List Keyword).length + (if ([] : List Keyword).isEmpty then 0 else 1) < 30)) = true := by intro _; rfl)
    (hline : (apos.endLine == cpos.line) = true := by rfl) (hs : ∀ env, starEach (e :: es) env = (false, eval e env) :: starEach es env := by intro _; rfl) (hplain : ∀ env, (backTo cpos (starEach es env)).any (·.1) = false := by intro _; rfl) :
    JE G Γ (.Call (.Attribute o name apos) (e :: es) [] cpos) (mMt c f mo ma) := fun X W hx => by
  have p := hm X W hx
  have p1 := ho X W hx
  have p2 := ha X W hx
  obtain ⟨rfl⟩ := hx
  refine (pe_bm pa slot hty p p1 p2 (hbase _) (hfew _) hline (hs _) (hplain _)).weak fun σ H Q hl ⟨φ, Z, ρ, S, r, rf, q⟩ => ?_
  refine tG.seq r rf q fun φ1 H1 dx S1 e1 r1 rf1 q1 x rx => ?_
  split at q1
  · rename_i hct
    refine ⟨hc _ _ _ _ _ _ _ _ r1 rx hct, tG.seq r1 rf1 q1 fun φ2 H2 ds S2 e2 r2 rf2 q2 vs rvs => ?_⟩
    cases hd : f dx ds S2 with
    | none => rw [hd] at q2; exact q2.elim
    | some p =>
      rw [hd] at q2
      exact ⟨φ2, Z, S2, dx, ds, p.1, p.2, r2, rx.mono r1.nt e2, rvs, hd, fun φ' v H' e' r' rv => q2 φ' H' e' r' v rv⟩
  · exact q1.elim
theorem je_mt0 {T id : String} {name : Str} {o : Expr} {apos cpos : Pos} {mo : M D} {f : OpM} {c : TyC} (pa : PySem.PlainAttrs T) (slot : PySem.Slot T name id) (hty : typeOf (.builtin id) = pure (.type "method_descriptor")) (hc : TyOk T c) (hm : JMt G Γ id f) (ho : JE G Γ o mo)
    (hbase : ∀ env, attributeBase o name env (eval o env) = eval o env := by intro _; rfl) (hline : (apos.endLine == cpos.line) = true := by rfl) :
    JE G Γ (.Call (.Attribute o name apos) [] [] cpos) (mMt c f mo mNilA) := fun X W hx => by
  have p := hm X W hx
  have p1 := ho X W hx
  obtain ⟨rfl⟩ := hx
  refine (pe_bm0 pa slot hty p p1 (hbase _) hline).weak fun σ H Q hl ⟨φ, Z, ρ, S, r, rf, q⟩ => ?_
  refine tG.seq r rf q fun φ1 H1 dx S1 e1 r1 rf1 q1 x rx => ?_
  split at q1
  · rename_i hct
    refine ⟨hc _ _ _ _ _ _ _ _ r1 rx hct, ?_⟩
    simp only [mNilA, Res.bind_ok] at q1
    cases hd : f dx [] S1 with
    | none => rw [hd] at q1; exact q1.elim
    | some p =>
      rw [hd] at q1
      exact ⟨φ1, Z, S1, dx, [], p.1, p.2, r1, rx, .nil, hd, fun φ' v H' e' r' rv => q1 φ' H' e' r' v rv⟩
  · exact q1.elim
def fAppend : OpM := fun x ds S => match x, ds with
  | .ref n, [d] => match S[n]? with
    | some (.lst l) => if l.length < sizeLine then some (.non, S.set n (.lst (l ++ [d]))) else none
    | _ => none
  | _, _ => none
theorem RepS.getL {K : PySem.W.Frag} {mg : Mg} {φ Z : List Addr} {H : Hp} {S : Sto} (r : RepS K mg φ Z S H) {n : Nat} {l : List D} {v : V} (rv : RV K φ Z H v (.ref n)) (h : S[n]? = some (.lst l)) : ∃ a xs, v = .ref a ∧ φ[n]? = some a ∧ H a = some (.lst xs) ∧ RVs K φ Z H xs l := by
  obtain ⟨a, e, h1, q⟩ := r.getV rv h
  cases q with
  | lst q1 q2 => exact ⟨a, _, e, h1, q1, q2⟩
theorem jm_append : JMt G Γ "list.append" fAppend := fun X W hx => by
  obtain ⟨rfl⟩ := hx
  rintro pins s σ H x vs v us Q I rx rvs ⟨φ, Z, S, dx, ds, d, S', r, r1, r2, hd, k⟩
  unfold fAppend at hd
  split at hd
  · split at hd
    · rename_i hS
      split at hd
      · rename_i hz
        cases hd
        obtain ⟨a, xs, rfl, ha, hH, q⟩ := r.getL r1 hS
        obtain ⟨y, rfl, ry⟩ := r2.oneD
        refine mt_append pins s σ H _ _ v us Q I rx rvs ⟨a, xs, y, rfl, rfl, hH, by rw [q.length]; exact hz, ?_⟩
        exact k φ _ _ (Ex.at (List.mem_of_getElem? ha)) (r.setL ha (q.append (.cons ry .nil))) .non
      · cases hd
    · cases hd
  · cases hd
def fExtend : OpM := fun x ds S => match x, ds with
  | .ref n, [d] => match S[n]?, ownD S d with
    | some (.lst l), some m => if l.length + m.length ≤ sizeLine then some (.non, S.set n (.lst (l ++ m))) else none
    | _, _ => none
  | _, _ => none
theorem jm_extend : JMt G Γ "list.extend" fExtend := fun X W hx => by
  obtain ⟨rfl⟩ := hx
  rintro pins s σ H x vs v us Q I rx rvs ⟨φ, Z, S, dx, ds, d, S', r, r1, r2, hd, k⟩
  unfold fExtend at hd
  split at hd
  · split at hd
    · rename_i hS hm
      split at hd
      · rename_i hz
        cases hd
        obtain ⟨a, xs, rfl, ha, hH, q⟩ := r.getL r1 hS
        obtain ⟨y, rfl, ry⟩ := r2.oneD
        obtain ⟨b, zs, rfl, hb, q2⟩ := ry.own r hm
        refine mt_extend pins s σ H _ _ v us Q I rx rvs ⟨a, b, xs, zs, rfl, rfl, hH, hb, by rw [q.length, q2.length]; exact hz, ?_⟩
        exact k φ _ _ (Ex.at (List.mem_of_getElem? ha)) (r.setL ha (q.append q2)) .non
      · cases hd
    · cases hd
  · cases hd
def fPop : OpM := fun x ds S => match x, ds with
  | .ref n, [] => match S[n]? with
    | some (.lst l) => match l[l.length - 1]? with
      | some d => some (d, S.set n (.lst l.dropLast))
      | none => none
    | _ => none
  | _, _ => none
theorem jm_pop : JMt G Γ "list.pop" fPop := fun X W hx => by
  obtain ⟨rfl⟩ := hx
  rintro pins s σ H x vs v us Q I rx rvs ⟨φ, Z, S, dx, ds, d, S', r, r1, r2, hd, k⟩
  unfold fPop at hd
  split at hd
  · split at hd
    · rename_i hS
      split at hd
      · rename_i hl
        cases hd
        obtain ⟨a, xs, rfl, ha, hH, q⟩ := r.getL r1 hS
        obtain ⟨y, hy, ry⟩ := q.getD hl
        have e2 := r2.nilD
        subst e2
        rw [← q.length] at hy
        refine mt_pop pins s σ H _ _ v us Q I rx rvs ⟨a, xs, y, rfl, rfl, hH, hy, ?_⟩
        exact k φ _ _ (Ex.at (List.mem_of_getElem? ha)) (r.setL ha q.dropLast) (ry.mono r.nt (Ex.at (List.mem_of_getElem? ha)))
      · cases hd
    · cases hd
  · cases hd
def fClear : OpM := fun x ds S => match x, ds with
  | .ref n, [] => match S[n]? with
    | some (.lst l) => some (.non, S.set n (.lst []))
    | _ => none
  | _, _ => none
theorem jm_clear : JMt G Γ "list.clear" fClear := fun X W hx => by
  obtain ⟨rfl⟩ := hx
  rintro pins s σ H x vs v us Q I rx rvs ⟨φ, Z, S, dx, ds, d, S', r, r1, r2, hd, k⟩
  unfold fClear at hd
  split at hd
  · split at hd
    · rename_i hS
      cases hd
      obtain ⟨a, xs, rfl, ha, hH, q⟩ := r.getL r1 hS
      have e2 := r2.nilD
      subst e2
      refine mt_clear pins s σ H _ _ v us Q I rx rvs ⟨a, xs, rfl, rfl, hH, ?_⟩
      exact k φ _ _ (Ex.at (List.mem_of_getElem? ha)) (r.setL ha .nil) .non
    · cases hd
  · cases hd

/-! ### o[i] = e -/
abbrev OpS := D → D → D → Sto → Option Sto
def rPS (K : PySem.W.Frag) (mg : Mg) (f : OpS) : TSet := fun o i v H Q => ∃ φ Z S d0 di dv S', RepS K mg φ Z S H ∧ RV K φ Z H o d0 ∧ RV K φ Z H i di ∧ RV K φ Z H v dv ∧ f d0 di dv S = some S' ∧ ∀ φ' H', Ex φ H φ' H' → RepS K mg φ' Z S' H' → Q H'
def JSet (G : Gs) (Γ : Ctx) (o : OpS) : Prop := ∀ X W, XW G Γ X W → PSet X (rPS G.K G.mw o)
def gSubD (f : OpS) (o i : M D) : TgD := fun d ρ S => (o ρ S).bind fun x S1 => (i ρ S1).bind fun y S2 => match f x y d S2 with
  | some S3 => .ok ρ S3
  | none => .bad
theorem jg_sub {o i : Expr} {pos : Pos} {mo mi : M D} {f : OpS} (hs : JSet G Γ f) (ho : JE G Γ o mo) (hi : JE G Γ i mi)
    (ha : ∀ env v, assign (.Subscript o i pos) env v = (do
      let ov ← holding [v] (eval o env)
      let iv ← holding [v, ov] (eval i env)
      standAt pos
      holding [v, ov, iv] (setItem ov iv v)
      release [v, ov, iv] []) := by intro _ _; rfl) : JG G Γ (.Subscript o i pos) (gSubD f mo mi) := fun X W hx => by
  have p := hs X W hx
  have p1 := ho X W hx
  have p2 := hi X W hx
  obtain ⟨rfl⟩ := hx
  refine (pg_sub p1 p2 p (ha _)).weak fun v σ H Q hl ⟨φ, Z, ρ, S, d, r, rf, rv, q⟩ => ?_
  have q : EndG X.K X.mw W φ Z H _ ((mo ρ S).bind fun x S1 => (mi ρ S1).bind fun y S2 => match f x y d S2 with
    | some S3 => Res.ok ρ S3
    | none => .bad) := q
  refine ⟨φ, Z, ρ, S, r, rf, q.bind.imp fun φ1 H1 dx S1 e1 r1 q1 x rx => ?_⟩
  have rv1 := rv.mono r.nt e1
  have rf1 := rf.mono r.nt e1
  refine ⟨φ1, Z, ρ, S1, r1, rf1, q1.bind.imp fun φ2 H2 dy S2 e2 r2 q2 y ry => ?_⟩
  cases hd : f dx dy d S2 with
  | none => rw [hd] at q2; exact q2.elim
  | some S3 =>
    rw [hd] at q2
    exact ⟨φ2, Z, S2, dx, dy, d, S3, r2, rx.mono r1.nt e2, ry, rv1.mono r1.nt e2, hd, fun φ' H' e' r' => q2 φ' H' e' r' σ ((rf1.mono r1.nt e2).mono r2.nt e')⟩
def fSetL : OpS := fun o i v S => match o, i with
  | .ref n, .int k => match S[n]? with
    | some (.lst l) => (ixN l.length k).map fun j => S.set n (.lst (l.set j v))
    | _ => none
  | _, _ => none
theorem jset_list : JSet G Γ fSetL := fun X W hx => by
  obtain ⟨rfl⟩ := hx
  rintro pins s σ H o i v ov iv u Q I ro ri rv ⟨φ, Z, S, d0, di, dv, S', r, r0, r1, r2, hd, k⟩
  unfold fSetL at hd
  split at hd
  · split at hd
    · rename_i hS
      obtain ⟨j, hj, rfl⟩ := Option.map_eq_some_iff.mp hd
      obtain ⟨a, xs, rfl, ha, hH, q⟩ := r.getL r0 hS
      refine set_list pins s σ H _ i v ov iv u Q I ro ri rv ⟨a, xs, _, j, rfl, r1.intD, hH, by rw [q.length]; exact hj, ?_⟩
      exact k φ _ (Ex.at (List.mem_of_getElem? ha)) (r.setL ha (RVs.set r2 j q))
    · cases hd
  · cases hd

/-! ### calls of the text's own defs -/
def spD (K : PySem.W.Frag) (mg : Mg) (f : Fn) (n : Nat) : Sp := fun vs H Q E => vs.length = n ∧ ∃ φ Z S ds, RepS K mg φ Z S H ∧ RVs K φ Z H vs ds ∧ EndG K mg E φ Z H (fun φ' H' d _ => ∀ v, RV K φ' Z H' v d → Q v H') (f ds S)
structure Has (G : Gs) (k : Nat) (name : Str) (n : Nat) (f : Fn) : Prop where
  ex : ∃ (a : Addr) (fd : FuncData) (ps : List Str), G.mg name = some (.ref a) ∧ PySem.W.keepIn G.K (.ref a) = true ∧ Binds G.K fd ps [] ∧ FnG G.P G.w G.K G.mg G.base (L2.CX G.P G.w) k a fd ps (spD G.K G.mw f n)
theorem Has.mono {j k : Nat} {name : Str} {n : Nat} {f : Fn} (h : Has G j name n f) (hk : j ≤ k) : Has G k name n f := by
  obtain ⟨a, fd, ps, h1, h2, h3, h4⟩ := h
  exact ⟨a, fd, ps, h1, h2, h3, h4.mono hk⟩
def mCall (f : Fn) (a : M (List D)) : M D := fun ρ S => (a ρ S).bind fun ds S1 => f ds S1
theorem JA.len {es : List Expr} {ma : M (List D)} (h : JA G Γ es ma) : True := trivial
theorem je_call {name : Str} {f : Fn} {e : Expr} {es : List Expr} {p pos : Pos} {ma : M (List D)} {n : Nat} (h : Has G Γ.k name n f) (ha : JA G Γ (e :: es) ma) (hl : ∀ ρ S ds S', ma ρ S = .ok ds S' → ds.length = n) (hg : Γ.sc.names.lookup name = some .globalImplicit := by rfl)
    (hdb : (name == ("__debug__" : Str)) = false := by decide) (he : ∀ env, starEach (e :: es) env = (false, eval e env) :: starEach es env := by intro _; rfl) (hpl : ∀ env, (backTo pos (starEach es env)).any (·.1) = false := by intro _; rfl) : JE G Γ (.Call (.Name name p) (e :: es) [] pos) (mCall f ma) := fun X W hx => by
  have p2 := ha X W hx
  have g := glOf hx hg
  have hr := hx.room
  have gu := hx.gd
  have tk := hx.tk
  obtain ⟨a, fd, ps, h1, h2, h3, h4⟩ := h
  obtain ⟨rfl⟩ := hx
  refine (pg_call (E := fun c d H' => W c d H') h4 gu hr g h1 h2 h3 .nil (passes_call tk fun c d σ H' q => q) p2 hdb (he _) (hpl _)).weak fun σ H Q hl' ⟨φ, Z, ρ, S, r, rf, q⟩ => ?_
  have q : EndG X.K X.mw W φ Z H _ ((ma ρ S).bind fun ds S1 => f ds S1) := q
  refine ⟨φ, Z, ρ, S, r, rf, ?_⟩
  cases hm : ma ρ S with
  | bad => rw [hm] at q; exact q
  | exc c S1 => rw [hm] at q; exact q
  | ok ds S1 =>
    rw [hm] at q
    intro φ1 H1 e1 r1 vs rvs
    refine ⟨by rw [List.append_nil, rvs.length]; exact hl _ _ _ _ hm, φ1, Z, S1, ds, r1, by rw [List.append_nil]; exact rvs, EndG.from e1 q⟩
theorem je_call0 {name : Str} {f : Fn} {p pos : Pos} (h : Has G Γ.k name 0 f) (hg : Γ.sc.names.lookup name = some .globalImplicit := by rfl)
    (hdb : (name == ("__debug__" : Str)) = false := by decide) : JE G Γ (.Call (.Name name p) [] [] pos) (mCall f mNilA) := fun X W hx => by
  have g := glOf hx hg
  have hr := hx.room
  have gu := hx.gd
  have tk := hx.tk
  obtain ⟨a, fd, ps, h1, h2, h3, h4⟩ := h
  obtain ⟨rfl⟩ := hx
  refine (pg_call0 (E := fun c d H' => W c d H') h4 gu hr g h1 h2 h3 .nil (passes_call tk fun c d σ H' q => q) hdb).weak fun σ H Q hl' ⟨φ, Z, ρ, S, r, rf, q⟩ => ?_
  exact ⟨rfl, φ, Z, S, [], r, .nil, q⟩
/-- a def's meaning by its body: the parameters first, then the other names -/
def mkFn (n : Nat) (m : M Fl) : Fn := fun ds S => (m (ds.map some ++ List.replicate (n - ds.length) none) S).bind fun f S1 => match f with
  | .nx _ => .ok .non S1
  | .rt d => .ok d S1
  | _ => .bad
theorem RF.begins {K : PySem.W.Frag} {φ Z : List Addr} {H : Hp} {N : List Str} {vs : List V} {ds : List D} (h : RVs K φ Z H vs ds) : RF K φ Z H (L2.start N vs) (ds.map some ++ List.replicate (N.length - ds.length) none) := fun i d e => by
  unfold L2.start
  have hl := h.length
  by_cases hi : i < ds.length
  · rw [List.getElem?_append_left (by simpa using hi), List.getElem?_map] at e
    rw [List.getElem?_append_left (by simpa [hl] using hi), List.getElem?_map]
    obtain ⟨x, hx, e2⟩ := Option.map_eq_some_iff.mp e
    cases e2
    obtain ⟨v, hv, rv⟩ := h.getD hx
    exact ⟨v, by rw [hv]; rfl, rv⟩
  · rw [List.getElem?_append_right (by simpa using hi), List.getElem?_replicate] at e
    split at e <;> cases e
theorem fnok_def {name qual : Str} {st : Stmt} {a : Addr} {fd : FuncData} {N ps : List Str} {k : Nat} {m : M Fl} (F : Fun G.K name qual st a fd) (S : FnScope N ps (defScope st)) (hm : JSs G ⟨N, defScope st, k, fun _ => true⟩ (defBody st) m) : FnG G.P G.w G.K G.mg G.base (L2.CX G.P G.w) (k + 1) a fd ps (spD G.K G.mw (mkFn N.length m) ps.length) := by
  refine fun_okG F S (fun vs H Q E h => h.1) fun cdv A outer s H vs Q E gu hr h => ?_
  obtain ⟨hl, φ, Z, So, ds, r, rvs, q⟩ := h
  refine ⟨_, hm (cxOf (L2.CX G.P G.w) G.P G.w G.K G.mg G.base N qual (defScope st) a cdv A outer s H E) E ⟨rfl, rfl, rfl, S.nd, rfl, hr, takes_of rfl rfl rfl rfl, passes_of rfl, fun _ _ => rfl, gu⟩, ?_⟩
  refine ⟨φ, Z, _, So, r, RF.begins rvs, (EndG.bind q).imp fun φ1 H1 f S1 e1 r1 q1 => ?_⟩
  cases f with
  | nx ρ => exact fun σ' _ => q1.at r1 _ .non
  | rt d => exact q1.at r1
  | bk ρ => exact q1.elim
  | ct ρ => exact q1.elim
theorem has_def {name qual : Str} {st : Stmt} {a : Addr} {fd : FuncData} {N ps : List Str} {k : Nat} {m : M Fl} (F : Fun G.K name qual st a fd) (hg : G.mg name = some (.ref a)) (hb : Binds G.K fd ps []) (S : FnScope N ps (defScope st)) (hm : JSs G ⟨N, defScope st, k, fun _ => true⟩ (defBody st) m) : Has G (k + 1) name ps.length (mkFn N.length m) :=
  ⟨a, fd, ps, hg, F.kp, hb, fnok_def F S hm⟩
end
end MP

/-! MP, part g: what is walked: zip and enumerate of lists and tuples in any mix. -/
namespace MP
open PySem L2 PySem.Spec PyProof.Rows

/-- what a zip or an enumerate draws from: a list or a tuple -/
inductive Src where
  | L (a : Addr) | T (a : Addr)
def Src.addr : Src → Addr
  | .L a => a
  | .T a => a
def Src.Sq (K : PySem.W.Frag) (H : Hp) : Src → List V → Prop
  | .L a, xs => SqL K H a xs
  | .T a, xs => SqT K H a xs
def Src.Is (h : Heap) (vs : Array Value) : Src → Prop
  | .L a => h.IsList a vs
  | .T a => h.IsTuple a vs
def Src.Iter (h : Heap) (it : Addr) (i : Nat) : Src → Prop
  | .L a => h.IsListIter it a i
  | .T a => h.IsTupleIter it a i
def Src.obj : Src → Obj
  | .L a => { cls := .type "list_iterator", data := .fields #[.ref a, .int 0 0] }
  | .T a => { cls := .type "tuple_iterator", data := .fields #[.ref a, .int 0 0] }
section
variable {X : Cx} {pins : List (Addr × Obj)} {σ : L2.St} {H : Hp} {s : Shared} {c : Src} {xs ys : List V}
theorem Src.its (I : Inv X pins σ H s) (h : c.Sq X.K H xs) : ∃ its : List Value, Vals xs its ∧ c.Is s.heap its.toArray ∧ c.addr < s.heap.objs.size := by
  cases c with
  | L a =>
    obtain ⟨its, rv, p, _⟩ := I.list h
    exact ⟨its, rv, p.isList, p.lt⟩
  | T a =>
    obtain ⟨its, rv, p, _⟩ := I.tuple h
    obtain ⟨o, ho, _⟩ := id p
    exact ⟨its, rv, p, Heap.lt_size ho⟩
theorem Src.inj (I : Inv X pins σ H s) (h : c.Sq X.K H xs) (h' : c.Sq X.K H ys) : xs = ys := by
  cases c with
  | L a => exact I.list_inj h h'
  | T a => exact I.tuple_inj h h'
theorem Src.begins (c : Src) (vs : Array Value) : Begins (.ref c.addr) c.obj (c.Is · vs) := by
  cases c with
  | L a => exact begins_list a vs
  | T a => exact begins_tuple a vs
theorem Src.first {h : Heap} {it : Addr} (c : Src) (e : h.get? it = some c.obj) : c.Iter h it 0 := by
  cases c with
  | L a => exact ⟨_, e, rfl, rfl⟩
  | T a => exact ⟨_, e, rfl, rfl⟩
theorem Src.draws {prog : Program} {w : World} {A : Around} (hh : A.handled = none) (c : Src) (it : Addr) (ne : c.addr ≠ it) (vs : Array Value) :
    Draws prog w A it [it, c.addr] vs.size (fun i v => vs[i]? = some v) (fun i h => c.Iter h it i ∧ c.Is h vs) := by
  cases c with
  | L a => exact Draws.list hh it a ne vs
  | T a => exact Draws.tuple hh it a ne vs
theorem Src.there {h : Heap} {it : Addr} {i : Nat} (q : c.Iter h it i) : ∃ o, h.get? it = some o ∧ ∀ v, o.data ≠ .cell v := by
  cases c with
  | L a =>
    obtain ⟨o, e, _, d⟩ := q
    exact ⟨o, e, fun v z => by rw [d] at z; cases z⟩
  | T a =>
    obtain ⟨o, e, _, d⟩ := q
    exact ⟨o, e, fun v z => by rw [d] at z; cases z⟩
theorem Src.stay {h h' : Heap} {it : Addr} {i : Nat} (q : c.Iter h it i) (k : ∀ o, h.get? it = some o → h'.get? it = some o) : c.Iter h' it i := by
  cases c with
  | L a => exact Heap.IsListIter.at q k
  | T a => exact Heap.IsTupleIter.at q k
end
/-- pairs of what two sources hold -/
def ItP (K : PySem.W.Frag) (c d : Src) : It :=
  ⟨fun i H => ∃ (xs ys : List V) (x y : V), c.Sq K H xs ∧ d.Sq K H ys ∧ xs[i]? = some x ∧ ys[i]? = some y,
    fun i H v H' => ∃ T x y, v = .ref T ∧ H T = none ∧ (∃ o : Obj, o.dict = none ∧ H' = upd H T (.frz o (.tup [x, y]))) ∧ (∀ xs, c.Sq K H xs → xs[i]? = some x) ∧ ∀ ys, d.Sq K H ys → ys[i]? = some y,
    fun i H => ∃ xs ys : List V, c.Sq K H xs ∧ d.Sq K H ys ∧ i = min xs.length ys.length⟩
theorem turn_pairs {P : Program} {w : World} {K : PySem.W.Frag} {elts : List Expr} {kk : Nat} {tpos : Pos} {c d : Src} {N : Nat} (hc : c.addr < N) (hd : d.addr < N) :
    Turn P w K (.Tuple elts kk tpos) (ItP K c d) [N + 4, N + 2, N + 3, N, N + 1] (N + 4) (fun i h => IsZip h (N + 4) (N + 2) (N + 3) .none ∧ IsTupOf2 h (N + 2) (.ref N) (.ref (N + 1)) ∧ (∃ x y, IsTupOf2 h (N + 3) x y) ∧ c.Iter h N i ∧ d.Iter h (N + 1) i) where
  mem := by simp
  obj := fun i h st b hb => by
    obtain ⟨hz, hTI, ⟨x, y, hTO⟩, h1, h2⟩ := st
    have e' : b = N + 4 ∨ b = N + 2 ∨ b = N + 3 ∨ b = N ∨ b = N + 1 := by simpa using hb
    rcases e' with q | q | q | q | q
    · rw [q]; exact ⟨_, hz, fun v q => nomatch q⟩
    · rw [q]; exact ⟨_, hTI, fun v q => nomatch q⟩
    · rw [q]; exact ⟨_, hTO, fun v q => nomatch q⟩
    · rw [q]; exact Src.there h1
    · rw [q]; exact Src.there h2
  keep := fun i h h' st k => by
    obtain ⟨hz, hTI, ⟨x, y, hTO⟩, h1, h2⟩ := st
    exact ⟨k (N + 4) (by simp) _ hz, k (N + 2) (by simp) _ hTI, ⟨x, y, k (N + 3) (by simp) _ hTO⟩, Src.stay h1 fun o q => k N (by simp) o q, Src.stay h2 fun o q => k (N + 1) (by simp) o q⟩
  item := by
    intro X hP hw hK hcalm i pins s σ H E I hf st hg
    subst hP hw hK
    obtain ⟨hz, hTI, ⟨x0, y0, hTO⟩, h1, h2⟩ := st
    obtain ⟨xs, ys, x, y, hqx, hqy, hx, hy⟩ := hg
    obtain ⟨its, rv, p, _⟩ := Src.its I hqx
    obtain ⟨its2, rv2, p2, _⟩ := Src.its I hqy
    obtain ⟨u, hu, ru⟩ := rv.get hx
    obtain ⟨u2, hu2, ru2⟩ := rv2.get hy
    have hh : X.A.in1.handled = none := I.ok.hd hcalm
    have W := WalksT.zipD2 (prog := X.prog) (w := X.w) (A := X.A) (zip_sep2 (N := N) (fp1 := [c.addr]) (fp2 := [d.addr]) (by simpa using hc) (by simpa using hd))
      (Src.draws hh c N (Nat.ne_of_lt hc) its.toArray) (Src.draws hh d (N + 1) (Nat.ne_of_lt (Nat.lt_succ_of_lt hd)) its2.toArray)
    have li : i < its.toArray.size := by simpa using (List.getElem?_eq_some_iff.mp hu).1
    have li2 : i < its2.toArray.size := by simpa using (List.getElem?_eq_some_iff.mp hu2).1
    have small : ∀ b ∈ [N + 4, N + 2, N + 3, N, N + 1], b < s.heap.objs.size := fun b hb => by
      have e' : b = N + 4 ∨ b = N + 2 ∨ b = N + 3 ∨ b = N ∨ b = N + 1 := by simpa using hb
      rcases e' with q | q | q | q | q
      · rw [q]; exact Heap.lt_size hz
      · rw [q]; exact Heap.lt_size hTI
      · rw [q]; exact Heap.lt_size hTO
      · rw [q]; obtain ⟨_, e, _⟩ := Src.there h1; exact Heap.lt_size e
      · rw [q]; obtain ⟨_, e, _⟩ := Src.there h2; exact Heap.lt_size e
    have apart : s.heap.objs.size ∉ [N + 4, N + 3, N, N + 1] := fun z => by
      have := small s.heap.objs.size (by simp only [List.mem_cons, List.not_mem_nil, or_false] at z ⊢; rcases z with z | z | z | z <;> simp [z])
      exact Nat.lt_irrefl _ this
    have Sp := zip_sep2 (N := N) (fp1 := [c.addr]) (fp2 := [d.addr]) (by simpa using hc) (by simpa using hd)
    refine wpAny_pyNext_zipD2_item Sp (Src.draws hh c N (Nat.ne_of_lt hc) its.toArray) (Src.draws hh d (N + 1) (Nat.ne_of_lt (Nat.lt_succ_of_lt hd)) its2.toArray) hz hTI hTO ⟨h1, p⟩ ⟨h2, p2⟩ li li2 fun w1 w2 h' tk e1 e2 b1 b2 d1 d2 b5 b6 hk => ?_
    have hTI2 : IsTupOf2 h' (N + 2) (.ref N) (.ref (N + 1)) := hk _ _ Sp.TIz Sp.TITO Sp.TIi1 Sp.TIi2 hTI
    have nq := fun (z : Addr) (hz : z ∈ [N + 4, N + 3, N, N + 1]) => (fun e => apart (e ▸ hz) : s.heap.objs.size ≠ z)
    refine ⟨_, rfl, W.go elts kk tpos i s.heap.objs.size _ _ E ⟨b1, hTI2, ⟨_, _, b2⟩, d1, d2, nq _ (by simp), nq _ (by simp), nq _ (by simp), nq _ (by simp)⟩ fun h'' st'' hk2 => ?_⟩
    have hT : s.heap.objs.size ≤ s.heap.objs.size := Nat.le_refl _
    have ew1 : w1 = u := by
      have e1 : its.toArray[i]? = some w1 := e1
      rw [List.getElem?_toArray] at e1
      exact Option.some.inj (e1.symm.trans hu)
    have ew2 : w2 = u2 := by
      have e2 : its2.toArray[i]? = some w2 := e2
      rw [List.getElem?_toArray] at e2
      exact Option.some.inj (e2.symm.trans hu2)
    subst ew1 ew2
    have hT2 := hk2 s.heap.objs.size _ apart b5
    have new : ObjOk X.prog X.w (upd H s.heap.objs.size (.frz { cls := .type "tuple", data := .seq #[w1, w2] } (.tup [x, y]))) h'' s.heap.objs.size (.frz { cls := .type "tuple", data := .seq #[w1, w2] } (.tup [x, y])) :=
      ⟨hT2, by show 2 ≤ sizeLine; decide, [w1, w2], .cons ru (.cons ru2 .nil), ⟨_, hT2, rfl, _, rfl⟩⟩
    have I1 : Inv X pins σ (upd H s.heap.objs.size (.frz { cls := .type "tuple", data := .seq #[w1, w2] } (.tup [x, y]))) { s with heap := h'', toks := tk } :=
      I.turnedNew (ch := [N + 4, N + 2, N + 3, N, N + 1]) (fun b ob hb q => by
        have nb : b ∉ [N + 4, N + 3, N, N + 1] := fun z => hb (by
          simp only [List.mem_cons, List.not_mem_nil, or_false] at z ⊢
          rcases z with z | z | z | z <;> simp [z])
        simp only [List.mem_cons, List.not_mem_nil, or_false, not_or] at nb
        exact hk2 b ob (by simp [nb]) (hk b ob nb.1 nb.2.1 nb.2.2.1 nb.2.2.2 q)) hf hT new
    refine ⟨.ref s.heap.objs.size, _, I1, rfl, ⟨s.heap.objs.size, x, y, rfl, I.hok.fresh hT, ⟨_, rfl, rfl⟩, fun l hl => by rw [Src.inj I hl hqx]; exact hx, fun l hl => by rw [Src.inj I hl hqy]; exact hy⟩, ⟨st''.1, st''.2.1, st''.2.2.1, st''.2.2.2.1.1, st''.2.2.2.2.1⟩, fun b hb => ?_⟩
    rw [upd_ne (Nat.ne_of_lt (Nat.lt_of_lt_of_le (small b hb) hT))]
    exact (hf b hb).1
  done := by
    intro X hP hw hK hcalm i pins s σ H E I hf st hg
    subst hP hw hK
    obtain ⟨hz, hTI, ⟨x0, y0, hTO⟩, h1, h2⟩ := st
    obtain ⟨xs, ys, hqx, hqy, hend⟩ := hg
    obtain ⟨its, rv, p, _⟩ := Src.its I hqx
    obtain ⟨its2, rv2, p2, _⟩ := Src.its I hqy
    have hh : X.A.in1.handled = none := I.ok.hd hcalm
    have W := WalksT.zipD2 (prog := X.prog) (w := X.w) (A := X.A) (zip_sep2 (N := N) (fp1 := [c.addr]) (fp2 := [d.addr]) (by simpa using hc) (by simpa using hd))
      (Src.draws hh c N (Nat.ne_of_lt hc) its.toArray) (Src.draws hh d (N + 1) (Nat.ne_of_lt (Nat.lt_succ_of_lt hd)) its2.toArray)
    have en : min its.toArray.size its2.toArray.size = i := by
      rw [hend, rv.length, rv2.length]
      simp
    rw [en] at W
    refine W.done s _ E ⟨hz, hTI, ⟨x0, y0, hTO⟩, ⟨h1, p⟩, ⟨h2, p2⟩⟩ fun h' tk hk => ⟨rfl, ?_⟩
    exact I.turnedL (ch := [N + 4, N + 2, N + 3, N, N + 1]) (fun b ob hb q => hk b ob (fun z => hb (by
      simp only [List.mem_cons, List.not_mem_nil, or_false] at z ⊢
      rcases z with z | z | z | z <;> simp [z])) q) hf
  self := fun A i s Q E st h => wpAny_pyIter_zip st.1 h
/-- numbers and what a source holds -/
def ItE (K : PySem.W.Frag) (c : Src) : It :=
  ⟨fun i H => ∃ (xs : List V) (x : V), c.Sq K H xs ∧ xs[i]? = some x,
    fun i H v H' => ∃ T x, v = .ref T ∧ H T = none ∧ (∃ o : Obj, o.dict = none ∧ H' = upd H T (.frz o (.tup [.int (i : Nat), x]))) ∧ ∀ xs, c.Sq K H xs → xs[i]? = some x,
    fun i H => ∃ xs : List V, c.Sq K H xs ∧ i = xs.length⟩
theorem turn_numbered {P : Program} {w : World} {K : PySem.W.Frag} {elts : List Expr} {kk : Nat} {tpos : Pos} {c : Src} {N : Nat} (hc : c.addr < N) :
    Turn P w K (.Tuple elts kk tpos) (ItE K c) [N + 1, N] (N + 1) (fun i h => (∃ old, IsEnum h (N + 1) N ((0 : Int) + (i : Int)) old) ∧ c.Iter h N i) where
  mem := by simp
  obj := fun i h st b hb => by
    obtain ⟨⟨old, he⟩, h1⟩ := st
    have e' : b = N + 1 ∨ b = N := by simpa using hb
    rcases e' with q | q
    · rw [q]; exact ⟨_, he, fun v q => nomatch q⟩
    · rw [q]; exact Src.there h1
  keep := fun i h h' st k => by
    obtain ⟨⟨old, he⟩, h1⟩ := st
    exact ⟨⟨old, k (N + 1) (by simp) _ he⟩, Src.stay h1 fun o q => k N (by simp) o q⟩
  item := by
    intro X hP hw hK hcalm i pins s σ H E I hf st hg
    subst hP hw hK
    obtain ⟨⟨old, he⟩, h1⟩ := st
    obtain ⟨xs, x, hqx, hx⟩ := hg
    obtain ⟨its, rv, p, _⟩ := Src.its I hqx
    obtain ⟨u, hu, ru⟩ := rv.get hx
    have hh : X.A.in1.handled = none := I.ok.hd hcalm
    have nn : c.addr ≠ N + 1 := Nat.ne_of_lt (Nat.lt_succ_of_lt hc)
    have W := WalksT.enumFrom (prog := X.prog) (w := X.w) (A := X.A) 0 (Src.draws hh c N (Nat.ne_of_lt hc) its.toArray) (N + 1) (Nat.succ_ne_self N) (by simp; exact fun z => nn z.symm) (by simp)
    have li : i < its.toArray.size := by simpa using (List.getElem?_eq_some_iff.mp hu).1
    have small : ∀ b ∈ [N + 1, N], b < s.heap.objs.size := fun b hb => by
      have e' : b = N + 1 ∨ b = N := by simpa using hb
      rcases e' with q | q
      · rw [q]; exact Heap.lt_size he
      · rw [q]; obtain ⟨_, e, _⟩ := Src.there h1; exact Heap.lt_size e
    have apart : s.heap.objs.size ∉ [N + 1, N] := fun z => by
      have := small s.heap.objs.size z
      exact Nat.lt_irrefl _ this
    refine wpAny_pyNext_enum_itemC (Src.draws hh c N (Nat.ne_of_lt hc) its.toArray) he ⟨h1, p⟩ li (Nat.succ_ne_self N) (by simp; exact fun z => nn z.symm) fun w1 h' tk e1 ho d1 b5 b6 hk => ?_
    have nq := fun (z : Addr) (hz : z ∈ [N + 1, N]) => (fun e => apart (e ▸ hz) : s.heap.objs.size ≠ z)
    refine ⟨_, rfl, W.go elts kk tpos i s.heap.objs.size _ _ E ⟨⟨_, ho⟩, d1, nq _ (by simp), nq _ (by simp)⟩ fun h'' st'' hk2 => ?_⟩
    have hT : s.heap.objs.size ≤ s.heap.objs.size := Nat.le_refl _
    have ew1 : w1 = u := by
      have e1 : its.toArray[i]? = some w1 := e1
      rw [List.getElem?_toArray] at e1
      exact Option.some.inj (e1.symm.trans hu)
    subst ew1
    have hT2 := hk2 s.heap.objs.size _ apart b5
    have new : ObjOk X.prog X.w (upd H s.heap.objs.size (.frz { cls := .type "tuple", data := .seq #[.int ((0 : Int) + (i : Int)) tk, w1] } (.tup [.int (i : Nat), x]))) h'' s.heap.objs.size (.frz { cls := .type "tuple", data := .seq #[.int ((0 : Int) + (i : Int)) tk, w1] } (.tup [.int (i : Nat), x])) :=
      ⟨hT2, by show 2 ≤ sizeLine; decide, [.int ((0 : Int) + (i : Int)) tk, w1], .cons ⟨tk, by rw [Int.zero_add]⟩ (.cons ru .nil), ⟨_, hT2, rfl, _, rfl⟩⟩
    have I1 : Inv X pins σ (upd H s.heap.objs.size (.frz { cls := .type "tuple", data := .seq #[.int ((0 : Int) + (i : Int)) tk, w1] } (.tup [.int (i : Nat), x]))) { s with heap := h'', toks := tk + 1 } :=
      I.turnedNew (ch := [N + 1, N]) (fun b ob hb q => by
        have nb := hb
        simp only [List.mem_cons, List.not_mem_nil, or_false, not_or] at nb
        exact hk2 b ob hb (hk b ob nb.1 nb.2 q)) hf hT new
    refine ⟨.ref s.heap.objs.size, _, I1, rfl, ⟨s.heap.objs.size, x, rfl, I.hok.fresh hT, ⟨_, rfl, rfl⟩, fun l hl => by rw [Src.inj I hl hqx]; exact hx⟩, ⟨st''.1, st''.2.1⟩, fun b hb => ?_⟩
    rw [upd_ne (Nat.ne_of_lt (Nat.lt_of_lt_of_le (small b hb) hT))]
    exact (hf b hb).1
  done := by
    intro X hP hw hK hcalm i pins s σ H E I hf st hg
    subst hP hw hK
    obtain ⟨⟨old, he⟩, h1⟩ := st
    obtain ⟨xs, hqx, hend⟩ := hg
    obtain ⟨its, rv, p, _⟩ := Src.its I hqx
    have hh : X.A.in1.handled = none := I.ok.hd hcalm
    have nn : c.addr ≠ N + 1 := Nat.ne_of_lt (Nat.lt_succ_of_lt hc)
    have W := WalksT.enumFrom (prog := X.prog) (w := X.w) (A := X.A) 0 (Src.draws hh c N (Nat.ne_of_lt hc) its.toArray) (N + 1) (Nat.succ_ne_self N) (by simp; exact fun z => nn z.symm) (by simp)
    have en : its.toArray.size = i := by
      rw [hend, rv.length]
      simp
    rw [en] at W
    exact W.done s _ E ⟨⟨old, he⟩, ⟨h1, p⟩⟩ fun h' tk hk => ⟨rfl, I.turnedL (ch := [N + 1, N]) (fun b ob hb q => hk b ob hb q) hf⟩
  self := fun A i s Q E st h => by
    obtain ⟨⟨old, he⟩, h1⟩ := st
    exact wpAny_pyIter_enum he h
/-- a value that is a list or a tuple, as a source -/
def SrcV (K : PySem.W.Frag) (H : Hp) (v : V) (c : Src) (xs : List V) : Prop := v = .ref c.addr ∧ c.Sq K H xs
def iPairs (K : PySem.W.Frag) (ta : TA) : TI := fun σ H R => ta σ H fun vs H1 => ∃ c d xs ys, vs = [.ref c.addr, .ref d.addr] ∧ Src.Sq K H1 c xs ∧ Src.Sq K H1 d ys ∧ R (ItP K c d) H1
theorem pi_pairs {X : Cx} {e e2 : Expr} {ta : TA} {p pos tpos : Pos} {elts : List Expr} {kk : Nat} (hg : Gl X "zip") (hm : X.mg "zip" = none) (ha : PA X [e, e2] ta)
    (hs : starEach [e, e2] X.env = (false, eval e X.env) :: starEach [e2] X.env) (hpl : (backTo pos (starEach [e2] X.env)).any (·.1) = false) :
    PI X (.Tuple elts kk tpos) (.Call (.Name "zip" p) [e, e2] [] pos) (iPairs X.K ta) := by
  refine ⟨fun pins s σ H R I h => ?_⟩
  refine Call_ (ld_blt I hg hm PyProof.Rows.boot_zip (PyProof.Rows.callWith_type1 (thn (ha.run pos pins s σ H _ I h) fun us s1 ⟨vs, H1, I1, r1, q1⟩ => ?_) hs hpl))
  obtain ⟨c, d, xs, ys, ex, hqx, hqy, q⟩ := q1
  subst ex
  cases r1 with
  | cons r rr =>
    cases rr with
    | cons r' rr =>
      cases rr
      cases r
      cases r'
      obtain ⟨its, rv, p1, l1⟩ := Src.its I1 hqx
      obtain ⟨its2, rv2, p2, l2⟩ := Src.its I1 hqy
      refine zip_begins2 (c.begins its.toArray) (d.begins its2.toArray) p1 p2 fun h' hz hTI hTO h1 h2 hsz hk => wpAny_pyIter_zip hz ?_
      have I2 : Inv X pins σ H1 { s1 with heap := h' } := I1.kept (t' := s1.toks) hk
      refine ⟨s1.heap.objs.size + 4, _, _, ItP X.K c d, H1, rfl, I2, turn_pairs l1 l2, ⟨hz, hTI, ⟨_, _, hTO⟩, c.first h1, d.first h2⟩, fun b hb => ?_, q⟩
      have hle : s1.heap.objs.size ≤ b := by
        have e' : b = s1.heap.objs.size + 4 ∨ b = s1.heap.objs.size + 2 ∨ b = s1.heap.objs.size + 3 ∨ b = s1.heap.objs.size ∨ b = s1.heap.objs.size + 1 := by simpa using hb
        rcases e' with z | z | z | z | z <;> rw [z]
        · exact Nat.le_add_right _ _
        · exact Nat.le_add_right _ _
        · exact Nat.le_add_right _ _
        · exact Nat.le_refl _
        · exact Nat.le_add_right _ _
      exact I1.fpOk hle (I1.hok.fresh hle)
def iNumbered (K : PySem.W.Frag) (ta : TA) : TI := fun σ H R => ta σ H fun vs H1 => ∃ c xs, vs = [.ref c.addr] ∧ Src.Sq K H1 c xs ∧ R (ItE K c) H1

set_option maxHeartbeats 1000000 in
/-- enumerate of one thing, its iterator known -/
theorem enum_one_new {v : Value} {ob : Obj} {Ha : Heap → Prop} (B : Begins v ob Ha) :
    Meets (Builtin.«enumerate.__new__» ⟨[.type "enumerate", v], []⟩) (fun _ R s => Ha s.heap ∧
      R (.ok (.ret (.ref (s.heap.push ob).objs.size))) { s with heap := (s.heap.push ob).push { cls := .type "enumerate", data := .fields #[.none, .bool false, .ref s.heap.objs.size, rawInt 0, .none, .none] } }) :=
  .of_wp fun prog w A R s h => by
    obtain ⟨hp, gs, dr, tok, ops⟩ := s
    obtain ⟨hst, hend⟩ := h
    have hsub := sub_enumerate
    have itq : ∀ {A' : Around} {E : Value → Shared → Prop} {Q : Value → Shared → Prop}, Q (.ref hp.objs.size) ⟨hp.push ob, gs, dr, tok, ops⟩ → wpAny (model prog w) A' (pyIter v) Q E ⟨hp, gs, dr, tok, ops⟩ :=
      fun z => B.iter prog w _ _ ⟨hp, gs, dr, tok, ops⟩ _ hst z
    wp_walk using itq
    refine wpAny_stack_any fun st => wpAny_pure ?_
    split
    · rename_i c _ _ _ _ _
      cases (c == Value.type "enumerate")
      · wp_walk using itq
        exact ⟨_, rfl, hend⟩
      · wp_walk using itq
        exact ⟨_, rfl, hend⟩
    · wp_walk using itq
      exact ⟨_, rfl, hend⟩
section
variable {prog : Program} {w : World} {A : Around} {E : Value → Shared → Prop} {s : Shared}
theorem enum_one {v : Value} {ob : Obj} {Ha : Heap → Prop} {Q : Value → Shared → Prop} (B : Begins v ob Ha) (hst : Ha s.heap)
    (k : ∀ h', IsEnum h' (s.heap.objs.size + 1) s.heap.objs.size 0 .none → h'.get? s.heap.objs.size = some ob → (∀ b o, s.heap.get? b = some o → h'.get? b = some o) → Q (.ref (s.heap.objs.size + 1)) { s with heap := h' }) :
    wpAny (model prog w) A (call (.type "enumerate") [v]) Q E s := by
  refine callType_new F.called_enumerate (by decide) (F.typeCall_enumerate_1 _) (F.newCall_enumerate_1 _) (fun obj => F.args_object_init_2 obj _) F.entry_enumerate_new (enum_one_new B) ⟨hst, ?_⟩
  have sz : (s.heap.push ob).objs.size = s.heap.objs.size + 1 := Heap.size_push ..
  show _ ∧ _
  rw [sz]
  have en : IsEnum ((s.heap.push ob).push { cls := .type "enumerate", data := .fields #[.none, .bool false, .ref s.heap.objs.size, rawInt 0, .none, .none] }) (s.heap.objs.size + 1) s.heap.objs.size 0 .none := by
    have q := Heap.get?_push_size (s.heap.push ob) (o := { cls := .type "enumerate", data := .fields #[.none, .bool false, .ref s.heap.objs.size, rawInt 0, .none, .none] }) rfl
    rw [sz] at q
    exact q
  exact ⟨⟨_, en, rfl⟩, k _ en (Heap.get?_push_of_some _ (Heap.get?_push_size _ B.free)) fun b o x => Heap.get?_push_of_some _ (Heap.get?_push_of_some _ x)⟩
end
theorem pi_numbered {X : Cx} {e : Expr} {ta : TA} {p pos tpos : Pos} {elts : List Expr} {kk : Nat} (hg : Gl X "enumerate") (hm : X.mg "enumerate" = none) (ha : PA X [e] ta) (hs : starEach [e] X.env = [(false, eval e X.env)]) :
    PI X (.Tuple elts kk tpos) (.Call (.Name "enumerate" p) [e] [] pos) (iNumbered X.K ta) := by
  refine ⟨fun pins s σ H R I h => ?_⟩
  refine Call_ (ld_blt I hg hm boot_enumerate (PyProof.Rows.callWith_type1 (thn (ha.run pos pins s σ H _ I h) fun us s1 ⟨vs, H1, I1, r1, q1⟩ => ?_) hs rfl))
  obtain ⟨c, xs, ex, hqx, q⟩ := q1
  subst ex
  cases r1 with
  | cons r rr =>
    cases rr
    cases r
    obtain ⟨its, rv, p1, l1⟩ := Src.its I1 hqx
    refine enum_one (c.begins its.toArray) p1 fun h' he h1 hk => wpAny_pyIter_enum he ?_
    have I2 : Inv X pins σ H1 { s1 with heap := h' } := I1.kept (t' := s1.toks) hk
    refine ⟨s1.heap.objs.size + 1, _, _, ItE X.K c, H1, rfl, I2, turn_numbered l1, ⟨⟨.none, by rw [show (0 : Int) + ((0 : Nat) : Int) = 0 from rfl]; exact he⟩, c.first h1⟩, fun b hb => ?_, q⟩
    have hle : s1.heap.objs.size ≤ b := by
      have e' : b = s1.heap.objs.size + 1 ∨ b = s1.heap.objs.size := by simpa using hb
      rcases e' with z | z <;> rw [z]
      · exact Nat.le_add_right _ _
      · exact Nat.le_refl _
    exact I1.fpOk hle (I1.hok.fresh hle)
end MP

/-! MP, part h: what a for or a comprehension walks; list comprehensions. -/
namespace MP
open PySem L2

section
variable {K : PySem.W.Frag} {mg : Mg} {W : XK} {φ φ0 Z : List Addr} {H H0 : Hp} {S S0 : Sto}
theorem RVs.addZs {vs : List V} {ds : List D} (h : RVs K φ Z H vs ds) : ∀ Y : List Addr, (∀ y ∈ Y, H y = none) → RVs K φ (Y ++ Z) H vs ds
  | [], _ => h
  | y :: Y, hy => (RVs.addZs h Y fun z hz => hy z (List.mem_cons_of_mem _ hz)).addZ (hy y List.mem_cons_self)
/-- what an iterable gives, and what must stand meanwhile -/
def seqIt (S : Sto) : D → Option (List D × Guard)
  | .tup l => some (l, [])
  | .lv l => some (l, [])
  | .ro l => some (l, [])
  | .ref n => match S[n]? with
    | some (.lst l) => some (l, [(n, l)])
    | _ => none
  | _ => none
/-- a source from which l comes as long as g stands -/
def SrcOk (K : PySem.W.Frag) (mg : Mg) (φ0 : List Addr) (H0 : Hp) (Z : List Addr) (c : Src) (l : List D) (g : Guard) : Prop :=
  ∀ Y φ S H, (∀ y ∈ Y, H0 y = none) → Ex φ0 H0 φ H → RepS K mg φ (Y ++ Z) S H → gOk g S → ∃ xs, c.Sq K H xs ∧ RVs K φ (Y ++ Z) H xs l
theorem SrcOk.mono {φ1 : List Addr} {H1 : Hp} {S1 : Sto} {c : Src} {l : List D} {g : Guard} (r1 : RepS K mg φ1 Z S1 H1) (h : SrcOk K mg φ0 H0 Z c l g) (e : Ex φ0 H0 φ1 H1) : SrcOk K mg φ1 H1 Z c l g :=
  fun Y φ S H hY e1 r hg => h Y φ S H (fun y hy => r1.back e (hY y hy)) (e.trans e1) r hg
theorem srcOk (r0 : RepS K mg φ0 Z S0 H0) {v : V} {d : D} {l : List D} {g : Guard} (rv : RV K φ0 Z H0 v d) (h : seqIt S0 d = some (l, g)) : ∃ c : Src, v = .ref c.addr ∧ (c.Sq K H0 = fun xs => c.Sq K H0 xs) ∧ SrcOk K mg φ0 H0 Z c l g ∧ ((∃ m, d = .tup m) ↔ ∃ a, c = .T a) := by
  cases rv with
  | @tup a xs ds h1 h2 =>
    cases h
    exact ⟨.T a, rfl, rfl, fun Y φ S H hY e r hg => ⟨xs, r0.nt.sqT e h1.sq, (h2.addZs Y hY).mono r0.nt e⟩, ⟨fun _ => ⟨a, rfl⟩, fun _ => ⟨_, rfl⟩⟩⟩
  | @lv a xs ds h1 h2 h3 h4 =>
    cases h
    exact ⟨.L a, rfl, rfl, fun Y φ S H hY e r hg => ⟨xs, SqL.of (e.keep _ _ h1 h2), (h4.addZs Y hY).mono r0.nt e⟩, ⟨(fun ⟨_, q⟩ => by cases q), (fun ⟨_, q⟩ => by cases q)⟩⟩
  | @ro a xs ds h1 h4 =>
    cases h
    refine ⟨.L a, rfl, rfl, fun Y φ S H hY e r hg => ⟨xs, ?_, (h4.addZs Y hY).mono r0.nt e⟩, ⟨(fun ⟨_, q⟩ => by cases q), (fun ⟨_, q⟩ => by cases q)⟩⟩
    exact sqL_ro (h1.imp (fun ⟨x, b, c⟩ => ⟨e.rdL b x, e.notin b x, c⟩) id)
  | @ref n a h1 =>
    simp only [seqIt] at h
    split at h
    · cases h
      refine ⟨.L a, rfl, rfl, fun Y φ S H hY e r hg => ?_, ⟨(fun ⟨_, q⟩ => by cases q), (fun ⟨_, q⟩ => by cases q)⟩⟩
      have hS := hg _ List.mem_cons_self
      obtain ⟨b, hb, q⟩ := r.get hS
      rw [e.get h1] at hb
      cases hb
      cases q with
      | lst q1 q2 => exact ⟨_, SqL.of q1, q2⟩
    · cases h
  | _ => cases h
/-- the walk of a list, of a tuple -/
def Src.it (K : PySem.W.Frag) : Src → It
  | .L a => Itl K a
  | .T a => Itt K a
theorem iterOk_src {c : Src} {l : List D} {g : Guard} (h : SrcOk K mg φ0 H0 Z c l g) : IterOk K mg φ0 H0 Z (c.it K) l g := by
  intro Y φ S H hY e r hg
  obtain ⟨xs, h1, h2⟩ := h Y φ S H hY e r hg
  have hl := h2.length
  have W : Walk (c.it K) xs.length (fun H => c.Sq K H xs) (YAt xs) := by
    cases c with
    | L a => exact walk_list
    | T a => exact walk_tup
  refine ⟨fun i hi => ⟨W.goes i H (by omega) h1, fun x H' y => ?_⟩, by rw [← hl]; exact W.stops H h1⟩
  obtain ⟨rfl, hx⟩ := W.yields i H x H' (by omega) h1 y
  obtain ⟨d, hd, rv⟩ := h2.get hx
  exact ⟨Ex.refl, r, d, hd, rv⟩
def rangeD (lo : Int) (n : Nat) : List D := (List.range n).map fun (i : Nat) => .int (lo + (i : Int))
theorem iterOk_range {lo : Int} {n : Nat} : IterOk K mg φ0 H0 Z (Itr lo n) (rangeD lo n) [] := by
  intro Y φ S H hY e r hg
  have hl : (rangeD lo n).length = n := by simp [rangeD]
  rw [hl]
  refine ⟨fun i hi => ⟨hi, fun x H' y => ?_⟩, Nat.le_refl _⟩
  obtain ⟨rfl, rfl⟩ := y
  exact ⟨Ex.refl, r, .int (lo + i), by simp [rangeD, hi], .int _⟩
def zipD : List D → List D → List D := List.zipWith fun x y => .tup [x, y]
theorem gOk_app {g g' : Guard} (h : gOk (g ++ g') S) : gOk g S ∧ gOk g' S := ⟨fun p hp => h p (List.mem_append_left _ hp), fun p hp => h p (List.mem_append_right _ hp)⟩
theorem iterOk_pairs {c d : Src} {l m : List D} {g g' : Guard} (h : SrcOk K mg φ0 H0 Z c l g) (h' : SrcOk K mg φ0 H0 Z d m g') : IterOk K mg φ0 H0 Z (ItP K c d) (zipD l m) (g ++ g') := by
  intro Y φ S H hY e r hg
  obtain ⟨xs, h1, h2⟩ := h Y φ S H hY e r (gOk_app hg).1
  obtain ⟨ys, h3, h4⟩ := h' Y φ S H hY e r (gOk_app hg).2
  have l1 := h2.length
  have l2 := h4.length
  have ll : (zipD l m).length = min l.length m.length := List.length_zipWith
  rw [ll]
  refine ⟨fun i hi => ⟨⟨xs, ys, xs[i]'(by omega), ys[i]'(by omega), h1, h3, by simp, by simp⟩, fun x H' y => ?_⟩, ⟨xs, ys, h1, h3, by rw [l1, l2]⟩⟩
  obtain ⟨T, u, w, rfl, hT, ⟨oT, hoT, rfl⟩, q1, q2⟩ := y
  obtain ⟨du, hu, ru⟩ := h2.get (q1 xs h1)
  obtain ⟨dw, hw, rw'⟩ := h4.get (q2 ys h3)
  refine ⟨Ex.of_same hT, r.lay hT, .tup [du, dw], ?_, RV.newT r hT hoT (.cons ru (.cons rw' .nil))⟩
  simp [zipD, List.getElem?_zipWith, hu, hw]
def enumD : Nat → List D → List D
  | _, [] => []
  | k, x :: xs => .tup [.int (k : Int), x] :: enumD (k + 1) xs
theorem enumD_get : ∀ (l : List D) (k i : Nat) (d : D), l[i]? = some d → (enumD k l)[i]? = some (.tup [.int ((k + i : Nat) : Int), d])
  | [], _, _, _, h => by simp at h
  | x :: xs, k, 0, d, h => by simp at h; subst h; rfl
  | x :: xs, k, i + 1, d, h => by
    have := enumD_get xs (k + 1) i d (by simpa using h)
    simp only [enumD, List.getElem?_cons_succ, this]
    congr 4
    omega
theorem enumD_len : ∀ (l : List D) (k : Nat), (enumD k l).length = l.length
  | [], _ => rfl
  | _ :: xs, k => by simp [enumD, enumD_len xs]
theorem iterOk_enum {c : Src} {l : List D} {g : Guard} (h : SrcOk K mg φ0 H0 Z c l g) : IterOk K mg φ0 H0 Z (ItE K c) (enumD 0 l) g := by
  intro Y φ S H hY e r hg
  obtain ⟨xs, h1, h2⟩ := h Y φ S H hY e r hg
  have l1 := h2.length
  rw [enumD_len]
  refine ⟨fun i hi => ⟨⟨xs, xs[i]'(by omega), h1, by simp⟩, fun x H' y => ?_⟩, ⟨xs, h1, by rw [l1]⟩⟩
  obtain ⟨T, u, rfl, hT, ⟨oT, hoT, rfl⟩, q1⟩ := y
  obtain ⟨du, hu, ru⟩ := h2.get (q1 xs h1)
  refine ⟨Ex.of_same hT, r.lay hT, .tup [.int (i : Int), du], ?_, RV.newT r hT hoT (.cons (.int _) (.cons ru .nil))⟩
  rw [enumD_get l 0 i du hu, Nat.zero_add]
end

section
variable {G : Gs} {Γ : Ctx}
/-! ### iterables -/
def mIt (e : M D) : MI := fun ρ S => (e ρ S).bind fun d S1 => optR (seqIt S1 d) S1
theorem pi_or {X : Cx} {tg e : Expr} {t t' : TI} (h : PI X tg e t) (h' : PI X tg e t') : PI X tg e (fun σ H R => t σ H R ∨ t' σ H R) :=
  ⟨fun pins s σ H R I q => q.elim (h.run pins s σ H R I) (h'.run pins s σ H R I)⟩
theorem SrcOk.now {K : PySem.W.Frag} {mg : Mg} {φ0 Z : List Addr} {H0 : Hp} {S0 : Sto} {c : Src} {l : List D} {g : Guard} (h : SrcOk K mg φ0 H0 Z c l g) (r : RepS K mg φ0 Z S0 H0) (hg : gOk g S0) : ∃ xs, c.Sq K H0 xs := by
  obtain ⟨xs, q, _⟩ := h [] φ0 S0 H0 (by simp) Ex.refl r hg
  exact ⟨xs, q⟩
theorem seqIt_ok {S : Sto} {d : D} {l : List D} {g : Guard} (h : seqIt S d = some (l, g)) : gOk g S := by
  unfold seqIt at h
  split at h
  · cases h; intro p hp; cases hp
  · cases h; intro p hp; cases hp
  · cases h; intro p hp; cases hp
  · split at h
    · rename_i e
      cases h
      intro p hp
      rw [List.mem_singleton.mp hp]
      exact e
    · cases h
  · cases h
theorem ji_seq {tg e : Expr} {m : M D} (he : JE G Γ e m) : JI G Γ tg e (mIt m) := fun X W hx => by
  have p := he X W hx
  obtain ⟨rfl⟩ := hx
  refine (pi_or (pi_list (tg := tg) p) (pi_tup (tg := tg) p)).weak fun σ H R hl ⟨φ, Z, ρ, S, r, rf, q⟩ => ?_
  have q : EndG X.K X.mw W φ Z H _ ((m ρ S).bind fun d S1 => optR (seqIt S1 d) S1) := q
  cases hm : m ρ S with
  | bad => rw [hm] at q; exact q.elim
  | exc c S1 => exact .inl ⟨φ, Z, ρ, S, r, rf, by rw [hm] at q ⊢; exact q⟩
  | ok d S1 =>
    rw [hm] at q
    cases hd : seqIt S1 d with
    | none => rw [Res.bind_ok, hd] at q; exact q.elim
    | some pr =>
      rw [Res.bind_ok, hd] at q
      obtain ⟨l, g⟩ := pr
      by_cases ht : ∃ l', d = .tup l'
      · refine .inr ⟨φ, Z, ρ, S, r, rf, ?_⟩
        rw [hm]
        intro φ1 H1 e1 r1 v rv
        obtain ⟨c, rfl, _, so, hc⟩ := srcOk r1 rv hd
        obtain ⟨a, rfl⟩ := hc.mp ht
        exact ⟨a, rfl, so.now r1 (seqIt_ok hd), (EndG.from e1 q).at r1 _ (iterOk_src so)⟩
      · refine .inl ⟨φ, Z, ρ, S, r, rf, ?_⟩
        rw [hm]
        intro φ1 H1 e1 r1 v rv
        obtain ⟨c, rfl, _, so, hc⟩ := srcOk r1 rv hd
        cases c with
        | T a => exact absurd (hc.mpr ⟨a, rfl⟩) ht
        | L a => exact ⟨a, rfl, so.now r1 (seqIt_ok hd), (EndG.from e1 q).at r1 _ (iterOk_src so)⟩
noncomputable def rangeIt : List D → Option (List D × Guard)
  | [.int j] => if I62 j then some (rangeD 0 j.toNat, []) else none
  | [.int i, .int j] => if I62 i ∧ I62 j then some (rangeD i (j - i).toNat, []) else none
  | _ => none
noncomputable def mItR (a : M (List D)) : MI := fun ρ S => (a ρ S).bind fun ds S1 => optR (rangeIt ds) S1
theorem ji_range1 {tg a : Expr} {p pos : Pos} {ma : M (List D)} (hm : G.mg "range" = none) (ha : JA G Γ [a] ma) (hg : Γ.sc.names.lookup ("range" : Str) = some .globalImplicit := by rfl) (hs : ∀ env, starEach [a] env = [(false, eval a env)] := by intro _; rfl) (hn : ∀ ρ S ds S', ma ρ S = .ok ds S' → ds.length = 1) :
    JI G Γ tg (.Call (.Name "range" p) [a] [] pos) (mItR ma) := fun X W hx => by
  have q := ha X W hx
  have g := glOf hx hg
  obtain ⟨rfl⟩ := hx
  refine (pi_range1 g hm q (hs _)).weak fun σ H R hl ⟨φ, Z, ρ, S, r, rf, q⟩ => ?_
  have q : EndG X.K X.mw W φ Z H _ ((ma ρ S).bind fun ds S1 => optR (rangeIt ds) S1) := q
  refine ⟨φ, Z, ρ, S, r, rf, ?_⟩
  cases hma : ma ρ S with
  | bad => rw [hma] at q; exact q
  | exc c S1 => rw [hma] at q; exact q
  | ok ds S1 =>
    rw [hma] at q
    have hlen := hn _ _ _ _ hma
    intro φ1 H1 e1 r1 vs rvs
    have q1 := EndG.from e1 q
    match ds, hlen with
    | [d], _ =>
      obtain ⟨v, rfl, rv⟩ := rvs.oneD
      cases rv with
      | int j =>
        simp only [Res.bind_ok, rangeIt] at q1
        split at q1
        · rename_i hj
          exact ⟨j, rfl, hj.1, hj.2, q1.at r1 _ iterOk_range⟩
        · exact q1.elim
      | _ => exact q1.elim
theorem ji_range2 {tg a b : Expr} {p pos : Pos} {ma : M (List D)} (hm : G.mg "range" = none) (ha : JA G Γ [a, b] ma) (hg : Γ.sc.names.lookup ("range" : Str) = some .globalImplicit := by rfl) (hs : ∀ env, starEach [a, b] env = [(false, eval a env), (false, eval b env)] := by intro _; rfl) (hs2 : ∀ env, starEach [b] env = [(false, eval b env)] := by intro _; rfl) (hn : ∀ ρ S ds S', ma ρ S = .ok ds S' → ds.length = 2) :
    JI G Γ tg (.Call (.Name "range" p) [a, b] [] pos) (mItR ma) := fun X W hx => by
  have q := ha X W hx
  have g := glOf hx hg
  obtain ⟨rfl⟩ := hx
  refine (pi_range2 g hm q (hs _) (hs2 _)).weak fun σ H R hl ⟨φ, Z, ρ, S, r, rf, q⟩ => ?_
  have q : EndG X.K X.mw W φ Z H _ ((ma ρ S).bind fun ds S1 => optR (rangeIt ds) S1) := q
  refine ⟨φ, Z, ρ, S, r, rf, ?_⟩
  cases hma : ma ρ S with
  | bad => rw [hma] at q; exact q
  | exc c S1 => rw [hma] at q; exact q
  | ok ds S1 =>
    rw [hma] at q
    have hlen := hn _ _ _ _ hma
    intro φ1 H1 e1 r1 vs rvs
    have q1 := EndG.from e1 q
    match ds, hlen with
    | [c, d], _ =>
      obtain ⟨v, u, rfl, rv, ru⟩ := rvs.twoD
      cases rv with
      | int i =>
        cases ru with
        | int j =>
          simp only [Res.bind_ok, rangeIt] at q1
          split at q1
          · rename_i hj
            have hj : -(2 ^ 62) ≤ i ∧ i < 2 ^ 62 ∧ -(2 ^ 62) ≤ j ∧ j < 2 ^ 62 := ⟨hj.1.1, hj.1.2, hj.2.1, hj.2.2⟩
            exact ⟨i, j, rfl, hj, q1.at r1 _ iterOk_range⟩
          · exact q1.elim
        | _ => exact q1.elim
      | _ => exact q1.elim
def zipIt (S : Sto) : List D → Option (List D × Guard)
  | [x, y] => match seqIt S x, seqIt S y with
    | some (l, g), some (m, g') => some (zipD l m, g ++ g')
    | _, _ => none
  | _ => none
def mItZ (a : M (List D)) : MI := fun ρ S => (a ρ S).bind fun ds S1 => optR (zipIt S1 ds) S1
theorem ji_zip {elts : List Expr} {kk : Nat} {tpos : Pos} {a b : Expr} {p pos : Pos} {ma : M (List D)} (hm : G.mg "zip" = none) (ha : JA G Γ [a, b] ma) (hg : Γ.sc.names.lookup ("zip" : Str) = some .globalImplicit := by rfl) (hs : ∀ env, starEach [a, b] env = (false, eval a env) :: starEach [b] env := by intro _; rfl) (hpl : ∀ env, (backTo pos (starEach [b] env)).any (·.1) = false := by intro _; rfl) (hn : ∀ ρ S ds S', ma ρ S = .ok ds S' → ds.length = 2) :
    JI G Γ (.Tuple elts kk tpos) (.Call (.Name "zip" p) [a, b] [] pos) (mItZ ma) := fun X W hx => by
  have q := ha X W hx
  have g := glOf hx hg
  obtain ⟨rfl⟩ := hx
  refine (pi_pairs g hm q (hs _) (hpl _)).weak fun σ H R hl ⟨φ, Z, ρ, S, r, rf, q⟩ => ?_
  have q : EndG X.K X.mw W φ Z H _ ((ma ρ S).bind fun ds S1 => optR (zipIt S1 ds) S1) := q
  refine ⟨φ, Z, ρ, S, r, rf, ?_⟩
  cases hma : ma ρ S with
  | bad => rw [hma] at q; exact q
  | exc c S1 => rw [hma] at q; exact q
  | ok ds S1 =>
    rw [hma] at q
    have hlen := hn _ _ _ _ hma
    intro φ1 H1 e1 r1 vs rvs
    have q1 := EndG.from e1 q
    match ds, hlen with
    | [c, d], _ =>
      obtain ⟨v, u, rfl, rv, ru⟩ := rvs.twoD
      simp only [Res.bind_ok, zipIt] at q1
      split at q1
      · rename_i h1 h2
        obtain ⟨s1, rfl, _, so1, _⟩ := srcOk r1 rv h1
        obtain ⟨s2, rfl, _, so2, _⟩ := srcOk r1 ru h2
        obtain ⟨xs, hx⟩ := so1.now r1 (seqIt_ok h1)
        obtain ⟨ys, hy⟩ := so2.now r1 (seqIt_ok h2)
        exact ⟨s1, s2, xs, ys, rfl, hx, hy, q1.at r1 _ (iterOk_pairs so1 so2)⟩
      · exact q1.elim
def enumIt (S : Sto) : List D → Option (List D × Guard)
  | [x] => match seqIt S x with
    | some (l, g) => some (enumD 0 l, g)
    | _ => none
  | _ => none
def mItE (a : M (List D)) : MI := fun ρ S => (a ρ S).bind fun ds S1 => optR (enumIt S1 ds) S1
theorem ji_enum {elts : List Expr} {kk : Nat} {tpos : Pos} {a : Expr} {p pos : Pos} {ma : M (List D)} (hm : G.mg "enumerate" = none) (ha : JA G Γ [a] ma) (hg : Γ.sc.names.lookup ("enumerate" : Str) = some .globalImplicit := by rfl) (hs : ∀ env, starEach [a] env = [(false, eval a env)] := by intro _; rfl) (hn : ∀ ρ S ds S', ma ρ S = .ok ds S' → ds.length = 1) :
    JI G Γ (.Tuple elts kk tpos) (.Call (.Name "enumerate" p) [a] [] pos) (mItE ma) := fun X W hx => by
  have q := ha X W hx
  have g := glOf hx hg
  obtain ⟨rfl⟩ := hx
  refine (pi_numbered g hm q (hs _)).weak fun σ H R hl ⟨φ, Z, ρ, S, r, rf, q⟩ => ?_
  have q : EndG X.K X.mw W φ Z H _ ((ma ρ S).bind fun ds S1 => optR (enumIt S1 ds) S1) := q
  refine ⟨φ, Z, ρ, S, r, rf, ?_⟩
  cases hma : ma ρ S with
  | bad => rw [hma] at q; exact q
  | exc c S1 => rw [hma] at q; exact q
  | ok ds S1 =>
    rw [hma] at q
    have hlen := hn _ _ _ _ hma
    intro φ1 H1 e1 r1 vs rvs
    have q1 := EndG.from e1 q
    match ds, hlen with
    | [c], _ =>
      obtain ⟨v, rfl, rv⟩ := rvs.oneD
      simp only [Res.bind_ok, enumIt] at q1
      split at q1
      · rename_i h1
        obtain ⟨s1, rfl, _, so1, _⟩ := srcOk r1 rv h1
        obtain ⟨xs, hx⟩ := so1.now r1 (seqIt_ok h1)
        exact ⟨s1, xs, rfl, hx, q1.at r1 _ (iterOk_enum so1)⟩
      · exact q1.elim
end
end MP

/-! MP, part i: list comprehensions. -/
namespace MP
open PySem L2
def Res.nox {α : Type} : Res α → Res α
  | .exc _ _ => .bad
  | r => r
@[simp] theorem Res.nox_ok {α : Type} {a : α} {S : Sto} : (Res.ok a S).nox = .ok a S := rfl
@[simp] theorem Res.nox_bad {α : Type} : (Res.bad : Res α).nox = .bad := rfl
@[simp] theorem Res.nox_exc {α : Type} {c : Str} {S : Sto} : (Res.exc c S : Res α).nox = .bad := rfl
def wipeF (ρ : Fr) : List Nat → Fr
  | [] => ρ
  | v :: vs => (wipeF ρ vs).set v none
abbrev LcB := D → Fr → Option Fr
def lcB1 (i : Nat) : LcB := fun d ρ => some (ρ.set i (some d))
def lcB2 (i j : Nat) : LcB := fun d ρ => match d with
  | .tup [x, y] => some ((ρ.set i (some x)).set j (some y))
  | _ => none
open Classical in
noncomputable def lcGo (gd : Guard) (bd : LcB) (t : M Bool) (e : M D) (ρ : Fr) : List D → Sto → Res (List D)
  | [], S => if gOk gd S then .ok [] S else .bad
  | d :: ds, S => if gOk gd S then match bd d ρ with
      | some ρ1 => (t ρ1 S).nox.bind fun b S1 => if b = true then (e ρ1 S1).nox.bind fun x S2 => (lcGo gd bd t e ρ ds S2).bind fun l S3 => .ok (x :: l) S3 else lcGo gd bd t e ρ ds S1
      | none => .bad
    else .bad
noncomputable def mLc (own : List Nat) (it : MI) (bd : LcB) (t : M Bool) (e : M D) : M (List D) := fun ρ S => (it ρ S).bind fun p S1 => if p.1.length ≤ sizeLine then lcGo p.2 bd t e (wipeF ρ own) p.1 S1 else .bad
def mYes : M Bool := fun _ S => .ok true S
section
variable {K : PySem.W.Frag} {mg : Mg} {φ Z : List Addr} {H : Hp} {S : Sto}
theorem wipe_get {σ : L2.St} {i : Nat} : ∀ {vs : List Nat}, i ∉ vs → (wipe σ vs)[i]? = σ[i]?
  | [], _ => rfl
  | v :: vs, h => by
    unfold wipe
    rw [List.getElem?_set_ne (fun e => h (by rw [e]; exact List.mem_cons_self))]
    exact wipe_get fun m => h (List.mem_cons_of_mem _ m)
theorem wipeF_some {ρ : Fr} {i : Nat} {d : D} : ∀ {vs : List Nat}, (wipeF ρ vs)[i]? = some (some d) → ρ[i]? = some (some d) ∧ i ∉ vs
  | [], h => ⟨h, by simp⟩
  | v :: vs, h => by
    unfold wipeF at h
    by_cases hi : v = i
    · subst hi
      by_cases hv : v < (wipeF ρ vs).length
      · rw [List.getElem?_set_self hv] at h; cases h
      · rw [List.getElem?_eq_none (by simpa using hv)] at h; cases h
    · rw [List.getElem?_set_ne hi] at h
      obtain ⟨h1, h2⟩ := wipeF_some h
      refine ⟨h1, fun m => ?_⟩
      rcases List.mem_cons.mp m with m | m
      · exact hi m.symm
      · exact h2 m
theorem RF.wipe {σ : L2.St} {ρ : Fr} {vs : List Nat} (h : RF K φ Z H σ ρ) : RF K φ Z H (L2.wipe σ vs) (wipeF ρ vs) := fun i d e => by
  obtain ⟨h1, h2⟩ := wipeF_some e
  obtain ⟨v, a, b⟩ := h i d h1
  exact ⟨v, by rw [wipe_get h2]; exact a, b⟩
theorem wipe_in {σ : L2.St} {i : Nat} : ∀ {vs : List Nat}, i ∈ vs → ∀ x, L2.wipe (σ.set i x) vs = L2.wipe σ vs
  | v :: vs, h, x => by
    unfold L2.wipe
    by_cases hv : i ∈ vs
    · rw [wipe_in hv x]
    · have e : i = v := by
        rcases List.mem_cons.mp h with h | h
        · exact h
        · exact absurd h hv
      subst e
      have : ∀ (us : List Nat), i ∉ us → L2.wipe (σ.set i x) us = (L2.wipe σ us).set i x := by
        intro us
        induction us with
        | nil => intro _; rfl
        | cons u us ih =>
          intro hu
          unfold L2.wipe
          rw [ih fun m => hu (List.mem_cons_of_mem _ m), List.set_comm _ _ (fun e => hu (by rw [e]; exact List.mem_cons_self))]
      rw [this vs hv, List.set_set]
theorem wipe_wipe {σ : L2.St} {vs : List Nat} : L2.wipe (L2.wipe σ vs) vs = L2.wipe σ vs := by
  have : ∀ (us : List Nat), (∀ u ∈ us, u ∈ vs) → L2.wipe (L2.wipe σ us) vs = L2.wipe σ vs := by
    intro us
    induction us with
    | nil => intro _; rfl
    | cons u us ih =>
      intro hu
      show L2.wipe ((L2.wipe σ us).set u none) vs = _
      rw [wipe_in (hu u List.mem_cons_self), ih fun w hw => hu w (List.mem_cons_of_mem _ hw)]
  exact this vs fun _ h => h
/-! a list of a reserved address grows -/
mutual
theorem RV.updZ {a : Addr} {xs ys : List V} (hz : a ∈ Z) (h : H a = some (.lst xs)) : ∀ {v : V} {d : D}, RV K φ Z H v d → RV K φ Z (upd H a (.lst ys)) v d
  | _, _, .non => .non
  | _, _, .bl b => .bl b
  | _, _, .int i => .int i
  | _, _, .str s => .str s
  | _, _, .tup q r => .tup (by
      obtain ⟨o, q, d⟩ := q
      exact ⟨o, by rw [upd_ne (fun e => by rw [e, h] at q; cases q)]; exact q, d⟩) (RVs.updZ hz h r)
  | _, _, .lv q m z r => .lv (by rw [upd_ne (fun e => z (by rw [e]; exact hz))]; exact q) m z (RVs.updZ hz h r)
  | _, _, .ro q r => .ro (q.imp (fun ⟨x, b, c⟩ => ⟨by
      have ne : ∀ b, b ∉ Z → b ≠ a := fun b n e => n (by rw [e]; exact hz)
      rcases x with x | ⟨o, x⟩
      · exact .inl (by rw [upd_ne (ne _ c)]; exact x)
      · exact .inr ⟨o, by rw [upd_ne (ne _ c)]; exact x⟩, b, c⟩) id) (RVs.updZ hz h r)
  | _, _, .ref q => .ref q
theorem RVs.updZ {a : Addr} {xs ys : List V} (hz : a ∈ Z) (h : H a = some (.lst xs)) : ∀ {vs : List V} {ds : List D}, RVs K φ Z H vs ds → RVs K φ Z (upd H a (.lst ys)) vs ds
  | _, _, .nil => .nil
  | _, _, .cons p q => .cons (RV.updZ hz h p) (RVs.updZ hz h q)
end
theorem RepS.updZ {a : Addr} {xs ys : List V} (r : RepS K mg φ Z S H) (hz : a ∈ Z) (h : H a = some (.lst xs)) : RepS K mg φ Z S (upd H a (.lst ys)) := by
  refine ⟨r.len, r.nd, fun n b o h1 h2 => ?_, fun z hz' => ?_⟩
  · have nb : b ≠ a := fun e => (r.zs a hz).1 (by rw [← e]; exact List.mem_of_getElem? h1)
    exact (r.ob n b o h1 h2).imp (upd_ne nb) fun v d q => q.updZ hz h
  · refine ⟨(r.zs z hz').1, ?_⟩
    by_cases e : z = a
    · rw [e, upd_same]; simp
    · rw [upd_ne e]; exact (r.zs z hz').2
end
section
variable {G : Gs} {Γ : Ctx}
def Ctx.blk (Γ : Ctx) (sc : Scope) : Ctx := ⟨Γ.N, relS sc Γ.sc, Γ.k, fun x => sc.names.lookup x == some .cell⟩
theorem XW.blk {X : Cx} {W : XK} (hx : XW G Γ X W) (s : Shared) (H : Hp) (sc : Scope) (C : Addr) (cl : List (Str × Addr)) (fp : List Addr) : XW G (Γ.blk sc) (X.blk s H sc (compEnvC sc cl C X.env) fp) (fun _ _ _ => False) := by
  obtain ⟨e, h1, h2, h3, h4, h5, h6, h7, h8, h9⟩ := hx
  refine ⟨e, h1, ?_, h3, h4, h5, takes0, PassesOwn.never, fun x hx => hx, h9⟩
  show relabel sc X.env = relS sc Γ.sc
  rw [← h2]
  rfl
def JTs (G : Gs) (Γ : Ctx) (ifs : List Expr) (m : M Bool) : Prop := ∀ X W, XW G Γ X W → PTs X ifs (tT G.K G.mw W m)
theorem jts_nil : JTs G Γ [] mYes := fun X W hx => by
  obtain ⟨rfl⟩ := hx
  exact ⟨fun pins s σ H Q I ⟨φ, Z, ρ, S, r, rf, q⟩ => pts_nil.run pins s σ H Q I (q.at r)⟩
theorem jts_one {c : Expr} {m : M Bool} (h : JT G Γ c m) : JTs G Γ [c] m := fun X W hx => pts_one (h X W hx)
/-- what a target of a comprehension does -/
def LcTg (X : Cx) (own : List Nat) (g : TG) (bd : LcB) : Prop := ∀ (φ Z : List Addr) (S : Sto) (H : Hp) (σ : L2.St) (ρ ρ1 : Fr) (v : V) (d : D) (Q : L2.St → Hp → Prop), σ.length = X.N.length → RepS X.K X.mw φ Z S H → RF X.K φ Z H (L2.wipe σ own) ρ → RV X.K φ Z H v d → bd d ρ = some ρ1 →
  (∀ σ2, L2.wipe σ2 own = L2.wipe σ own → RF X.K φ Z H σ2 ρ1 → Q σ2 H) → g v (L2.wipe σ own) H Q
/-- a comprehension, as a value or as what a name is set to -/
def JLC (G : Gs) (Γ : Ctx) (elt tg iter : Expr) (ifs : List Expr) (sc : Scope) (m : M (List D)) : Prop := ∀ X W, XW G Γ X W → ∃ (own : List (Str × Nat)) (wi : TI) (g : TG) (tt : TT) (te : TE), PI X tg iter wi ∧ BlkOk X.N X.env.scope sc own ∧
  (∀ (s : Shared) (H : Hp) (C : Addr) (cl : List (Str × Addr)) (fp : List Addr), PG (X.blk s H sc (compEnvC sc cl C X.env) fp) tg g) ∧
  (∀ (s : Shared) (H : Hp) (C : Addr) (cl : List (Str × Addr)) (fp : List Addr), PTs (X.blk s H sc (compEnvC sc cl C X.env) fp) ifs tt) ∧
  (∀ (s : Shared) (H : Hp) (C : Addr) (cl : List (Str × Addr)) (fp : List Addr), PE (X.blk s H sc (compEnvC sc cl C X.env) fp) elt te) ∧
  (∀ x, foldedSetIterable iter X.env x = pure x) ∧ ∀ σ H Q, σ.length = X.N.length → tN G.K G.mw W m σ H Q → tLc wi g tt te (own.map (·.2)) σ H Q
theorem jn_lc {elt tg iter : Expr} {ifs : List Expr} {sc : Scope} {pos : Pos} {m : M (List D)} (h : JLC G Γ elt tg iter ifs sc m) : JN G Γ (.ListComp elt [⟨tg, iter, ifs, 0⟩] sc pos) m := fun X W hx => by
  obtain ⟨own, wi, g, tt, te, h1, h2, h3, h4, h5, h6, h7⟩ := h X W hx
  exact (pe_lc hx.calm hx.nd h1 h2 h3 h4 h5 h6).weak h7
theorem jlc {elt tg iter : Expr} {ifs : List Expr} {sc : Scope} {own : List (Str × Nat)} {mi : MI} {mt : M Bool} {me : M D} {bd : LcB} (g : TG) (hi : JI G Γ tg iter mi) (ok : blkC Γ.N Γ.sc sc own = true)
    (hg : ∀ X W, XW G Γ X W → (∀ (s : Shared) (H : Hp) (C : Addr) (cl : List (Str × Addr)) (fp : List Addr), PG (X.blk s H sc (compEnvC sc cl C X.env) fp) tg g) ∧ LcTg X (own.map (·.2)) g bd)
    (ht : JTs G (Γ.blk sc) ifs mt) (he : JE G (Γ.blk sc) elt me) (hs : ∀ (env : Env) x, foldedSetIterable iter env x = pure x) :
    JLC G Γ elt tg iter ifs sc (mLc (own.map (·.2)) mi bd mt me) := fun X W hx => by
  have p := hi X W hx
  have hb := fun (s : Shared) (H : Hp) (C : Addr) (cl : List (Str × Addr)) (fp : List Addr) => hx.blk s H sc C cl fp
  have pt := fun (s : Shared) (H : Hp) (C : Addr) (cl : List (Str × Addr)) (fp : List Addr) => ht _ _ (hb s H C cl fp)
  have pe := fun (s : Shared) (H : Hp) (C : Addr) (cl : List (Str × Addr)) (fp : List Addr) => he _ _ (hb s H C cl fp)
  obtain ⟨pg, ptg⟩ := hg X W hx
  have bok : BlkOk X.N X.env.scope sc own := blkOk_by (by rw [hx.N, hx.sc]; exact ok)
  have hc := hx.calm
  have nd := hx.nd
  obtain ⟨rfl⟩ := hx
  refine ⟨own, _, g, _, _, p, bok, pg, pt, pe, hs _, fun σ H Q hl ⟨φ, Z, ρ, S, r, rf, q⟩ => ?_⟩
  have q : EndG X.K X.mw W φ Z H (NewQ X.K X.mw H Z Q) ((mi ρ S).bind fun p S1 => if p.1.length ≤ sizeLine then lcGo p.2 bd mt me (wipeF ρ (own.map (·.2))) p.1 S1 else .bad) := q
  refine ⟨φ, Z, ρ, S, r, rf, ?_⟩
  cases hmi : mi ρ S with
  | bad => rw [hmi] at q; exact q
  | exc c S1 => rw [hmi] at q; exact q
  | ok pr S0 =>
    rw [hmi] at q
    obtain ⟨its, gd⟩ := pr
    simp only [Res.bind_ok] at q
    split at q
    · rename_i hsz
      intro φ0 H0 e0 r0 J hJ Dl hD
      have fact0 := EndG.from e0 q
      refine ⟨fun i m H1 => m = its.length - i ∧ i ≤ its.length ∧ ∃ φ1 S1 acc vs, Ex φ0 H0 φ1 H1 ∧ RepS X.K X.mw φ1 (Dl :: Z) S1 H1 ∧ H1 Dl = some (.lst vs) ∧ RVs X.K φ1 (Dl :: Z) H1 vs acc ∧ acc.length ≤ i ∧
        EndG X.K X.mw W φ0 Z H0 (NewQ X.K X.mw H Z Q) ((lcGo gd bd mt me (wipeF ρ (own.map (·.2))) (its.drop i) S1).bind fun l S' => .ok (acc ++ l) S'), ⟨its.length, rfl, Nat.zero_le _, φ0, S0, [], [], Ex.of_same hD, r0.addZ hD, upd_same, .nil, Nat.le_refl _, ?_⟩, ?_⟩
      · rw [List.drop_zero]
        have e : ((lcGo gd bd mt me (wipeF ρ (own.map (·.2))) its S0).bind fun l S' => Res.ok ([] ++ l) S') = lcGo gd bd mt me (wipeF ρ (own.map (·.2))) its S0 := by
          cases lcGo gd bd mt me (wipeF ρ (own.map (·.2))) its S0 <;> rfl
        rw [e]
        exact fact0
      · rintro i m H1 ⟨rfl, hle, φ1, S1, acc, vs, e1, r1, hDl, ra, hacc, fact⟩
        have Jn := hJ [Dl] φ1 S1 H1 (by intro y hy; rw [List.mem_singleton.mp hy]; exact hD) e1 r1
        by_cases hlt : i < its.length
        · rw [List.drop_eq_getElem_cons hlt] at fact
          simp only [lcGo] at fact
          split at fact
          · rename_i hgd
            obtain ⟨h1, h2⟩ := (Jn hgd).1 i hlt
            refine .inr ⟨h1, _, fun H' h => h, fun x H2 hy => ?_⟩
            obtain ⟨e2, r2, d, hd, rv⟩ := h2 x H2 hy
            rw [List.getElem?_eq_getElem hlt] at hd
            cases hd
            have e12 := e1.trans e2
            have hDl2 : H2 Dl = some (.lst vs) := e2.keep _ _ hDl (r1.zs Dl List.mem_cons_self).1
            have ra2 := ra.mono r1.nt e2
            cases hbd : bd its[i] (wipeF ρ (own.map (·.2))) with
            | none => rw [hbd] at fact; exact fact.elim
            | some ρ1 =>
              rw [hbd] at fact
              simp only at fact
              -- the frame at the block
              have rfw : RF X.K φ1 (Dl :: Z) H2 (L2.wipe σ (own.map (·.2))) (wipeF ρ (own.map (·.2))) := by
                have rf1 : RF X.K φ0 Z H0 σ ρ := rf.mono r.nt e0
                have rf2 : RF X.K φ0 (Dl :: Z) H0 σ ρ := fun j d hj => by
                  obtain ⟨v, a, b⟩ := rf1 j d hj
                  exact ⟨v, a, b.addZ hD⟩
                exact (rf2.mono r0.nt e12).wipe
              refine ptg φ1 (Dl :: Z) S1 H2 σ _ ρ1 x _ _ hl r2 rfw rv hbd fun σ2 hw rf2 => ⟨hw, ?_⟩
              cases hmt : mt ρ1 S1 with
              | bad => rw [hmt] at fact; exact fact.elim
              | exc c S2 => rw [hmt] at fact; exact fact.elim
              | ok b S2 =>
                rw [hmt] at fact
                simp only [Res.nox_ok, Res.bind_ok] at fact
                refine ⟨φ1, Dl :: Z, ρ1, S1, r2, rf2, ?_⟩
                rw [hmt]
                intro φ3 H3 e3 r3
                have hDl3 : H3 Dl = some (.lst vs) := e3.keep _ _ hDl2 (r2.zs Dl List.mem_cons_self).1
                have ra3 := ra2.mono r2.nt e3
                have e13 := e12.trans e3
                cases b with
                | false =>
                  exact ⟨_, by omega, rfl, hlt, φ3, S2, acc, vs, e13, r3, hDl3, ra3, by omega, fact⟩
                | true =>
                  simp only [if_true] at fact ⊢
                  cases hme : me ρ1 S2 with
                  | bad => rw [hme] at fact; exact fact.elim
                  | exc c S4 => rw [hme] at fact; exact fact.elim
                  | ok y S4 =>
                    rw [hme] at fact
                    simp only [Res.nox_ok, Res.bind_ok] at fact
                    refine ⟨φ3, Dl :: Z, ρ1, S2, r3, rf2.mono r2.nt e3, ?_⟩
                    rw [hme]
                    intro φ4 H4 e4 r4 w rw'
                    have hDl4 : H4 Dl = some (.lst vs) := e4.keep _ _ hDl3 (r3.zs Dl List.mem_cons_self).1
                    have ra4 := ra3.mono r3.nt e4
                    have e14 := e13.trans e4
                    refine ⟨vs, hDl4, by rw [ra4.length]; omega, _, by omega, rfl, hlt, φ4, S4, acc ++ [y], vs ++ [w], ?_, r4.updZ List.mem_cons_self hDl4, upd_same, ?_, by rw [List.length_append, List.length_singleton]; omega, ?_⟩
                    · refine ⟨e14.pre, e14.new, fun b o hb nb => ?_⟩
                      rw [upd_ne (fun z => by rw [z, hD] at hb; cases hb)]
                      exact e14.keep b o hb nb
                    · exact (ra4.append (.cons rw' .nil)).updZ List.mem_cons_self hDl4
                    · have e : ((lcGo gd bd mt me (wipeF ρ (own.map (·.2))) (its.drop (i + 1)) S4).bind fun l S3 => Res.ok (y :: l) S3).bind (fun l S' => Res.ok (acc ++ l) S') = (lcGo gd bd mt me (wipeF ρ (own.map (·.2))) (its.drop (i + 1)) S4).bind fun l S' => Res.ok (acc ++ [y] ++ l) S' := by
                        cases lcGo gd bd mt me (wipeF ρ (own.map (·.2))) (its.drop (i + 1)) S4 with
                        | bad => rfl
                        | exc c S => rfl
                        | ok l S => simp
                      rw [← e]
                      exact fact
          · exact fact.elim
        · have e : i = its.length := by omega
          subst e
          rw [List.drop_eq_nil_of_le (Nat.le_refl _)] at fact
          simp only [lcGo] at fact
          split at fact
          · rename_i hgd
            refine .inl ⟨(Jn hgd).2, ?_⟩
            simp only [Res.bind_ok, List.append_nil] at fact
            have hDs : H Dl = none := r0.back e0 hD
            exact fact φ1 H1 e1 r1.dropZ Dl vs hDs hDl r1 ra
          · exact fact.elim
    · exact q.elim
theorem lcTg1 {X : Cx} {own : List Nat} {i : Nat} (hi : i ∈ own) (hb : i < X.N.length) : LcTg X own (gName i) (lcB1 i) := fun φ Z S H σ ρ ρ1 v d Q hl r rf rv hbd k => by
  cases hbd
  exact k _ (by rw [wipe_in hi, wipe_wipe]) (rf.set (by rw [wipe_length, hl]; exact hb) rv)
theorem lcTg2 {X : Cx} {own : List Nat} {i j : Nat} (hi : i ∈ own) (hj : j ∈ own) (hb : i < X.N.length) (hb2 : j < X.N.length) : LcTg X own (gTup X.K 2 (gCons (gName i) (gCons (gName j) gNil))) (lcB2 i j) := fun φ Z S H σ ρ ρ1 v d Q hl r rf rv hbd k => by
  unfold lcB2 at hbd
  split at hbd
  · cases hbd
    obtain ⟨a, xs, rfl, h1, h2⟩ := rv.tupD
    obtain ⟨x, y, rfl, rx, ry⟩ := h2.twoD
    refine ⟨a, _, rfl, h1.sq, rfl, x, [y], rfl, y, [], rfl, rfl, ?_⟩
    exact k _ (by rw [wipe_in hj, wipe_in hi, wipe_wipe]) ((rf.set (by rw [wipe_length, hl]; exact hb) rx).set (by rw [List.length_set, wipe_length, hl]; exact hb2) ry)
  · cases hbd
theorem jlc1 {elt iter : Expr} {ifs : List Expr} {sc : Scope} {own : List (Str × Nat)} {tpos : Pos} {x : Str} {mi : MI} {mt : M Bool} {me : M D} (i : Nat) (hi : JI G Γ (.Name x tpos) iter mi) (ht : JTs G (Γ.blk sc) ifs mt) (he : JE G (Γ.blk sc) elt me)
    (ok : blkC Γ.N Γ.sc sc own = true := by rfl) (hN : Γ.N[i]? = some x := by rfl) (hv : locOk (Γ.blk sc) x = true := by rfl) (ho : (own.map (·.2)).contains i = true := by rfl) (hs : ∀ (env : Env) x, foldedSetIterable iter env x = pure x := by intro _ _; rfl) :
    JLC G Γ elt (.Name x tpos) iter ifs sc (mLc (own.map (·.2)) mi (lcB1 i) mt me) := by
  refine jlc (gName i) hi ok (fun X W hx => ⟨fun s H C cl fp => ?_, lcTg1 (by simpa using ho) (by rw [hx.N]; exact ix_lt hN)⟩) ht he hs
  have hb := hx.blk s H sc C cl fp
  obtain ⟨l1, l2⟩ := hb.lookup (x := x) hv
  exact pg_name hb.nd (by rw [hb.N]; exact hN) l1 l2
theorem jlc2 {elt iter : Expr} {ifs : List Expr} {sc : Scope} {own : List (Str × Nat)} {tpos px py : Pos} {kk : Nat} {x y : Str} {mi : MI} {mt : M Bool} {me : M D} (i j : Nat) (hi : JI G Γ (.Tuple [.Name x px, .Name y py] kk tpos) iter mi) (ht : JTs G (Γ.blk sc) ifs mt) (he : JE G (Γ.blk sc) elt me)
    (ok : blkC Γ.N Γ.sc sc own = true := by rfl) (hN : Γ.N[i]? = some x := by rfl) (hN2 : Γ.N[j]? = some y := by rfl) (hv : locOk (Γ.blk sc) x = true := by rfl) (hv2 : locOk (Γ.blk sc) y = true := by rfl) (ho : (own.map (·.2)).contains i = true := by rfl) (ho2 : (own.map (·.2)).contains j = true := by rfl) (hs : ∀ (env : Env) x, foldedSetIterable iter env x = pure x := by intro _ _; rfl) :
    JLC G Γ elt (.Tuple [.Name x px, .Name y py] kk tpos) iter ifs sc (mLc (own.map (·.2)) mi (lcB2 i j) mt me) := by
  refine jlc (gTup G.K 2 (gCons (gName i) (gCons (gName j) gNil))) hi ok (fun X W hx => ⟨fun s H C cl fp => ?_, ?_⟩) ht he hs
  · have hb := hx.blk s H sc C cl fp
    obtain ⟨l1, l2⟩ := hb.lookup (x := x) hv
    obtain ⟨l3, l4⟩ := hb.lookup (x := y) hv2
    have p1 := pg_name (pos := px) hb.nd (by rw [hb.N]; exact hN) l1 l2
    have p2 := pg_name (pos := py) hb.nd (by rw [hb.N]; exact hN2) l3 l4
    have e := hx.eq
    subst e
    exact pg_tup hb.calm (pgs_cons p1 (pgs_cons p2 pgs_nil))
  · have e := hx.eq
    have hN' := hx.N
    subst e
    exact lcTg2 (by simpa using ho) (by simpa using ho2) (by rw [hN']; exact ix_lt hN) (by rw [hN']; exact ix_lt hN2)
end
end MP

set_option maxHeartbeats 4000000
/-! MP, part j: products, slices backwards, any, isinstance, chains, in of tuples, constants of the module. -/
namespace MP
open PySem L2 PySem.Spec PyProof.Rows

/-! ### tuple * int -/
theorem tup_mul_same (l : Addr) (items : Array Value) (n : Nat) (dd : Option Addr) (sl : Array (Option Value)) (x : Int) (u : Tok) (a0 : (decide (x < -(2 ^ 63)) || decide (x ≥ 2 ^ 63)) = false) (a1 : (items.isEmpty || x == 1) = true) :
    Meets (Builtin.«tuple.__mul__» ⟨[.ref l, .int x u], []⟩) (fun _ R s => s.heap.get? l = some { cls := .type "tuple", dict := dd, data := .seq items n, slots := sl } ∧ R (.ok (.ret (.ref l))) s) :=
  .of_wp fun prog w A R s h => by
    obtain ⟨hp, gs, dr, tok, ops⟩ := s
    obtain ⟨lk, h⟩ := h
    have fi := AutoSeq1.idx_int
    wp_walk using AutoSeq1.wpAny_loadPart' lk
    repeat (first
      | (refine wpAny_ite_false (decide_eq_false (by rw [a0]; exact Bool.false_ne_true)) ?_; wp_walk using AutoSeq1.wpAny_loadPart' lk)
      | (refine wpAny_ite_true (decide_eq_true a1) ?_; wp_walk using AutoSeq1.wpAny_loadPart' lk))
    exact ⟨_, rfl, h⟩
theorem tup_mul_none (l : Addr) (items : Array Value) (n : Nat) (dd : Option Addr) (sl : Array (Option Value)) (x : Int) (u : Tok) (a0 : (decide (x < -(2 ^ 63)) || decide (x ≥ 2 ^ 63)) = false) (a1 : (items.isEmpty || x == 1) = false) (a2 : (decide (x ≤ 0) || items.isEmpty) = true) :
    Meets (Builtin.«tuple.__mul__» ⟨[.ref l, .int x u], []⟩) (fun _ R s => s.heap.get? l = some { cls := .type "tuple", dict := dd, data := .seq items n, slots := sl } ∧
      R (.ok (.ret (Value.ref s.heap.objs.size))) { s with heap := s.heap.push { cls := Value.type "tuple", data := Data.seq #[] }, toks := s.toks }) :=
  .of_wp fun prog w A R s h => by
    obtain ⟨hp, gs, dr, tok, ops⟩ := s
    obtain ⟨lk, h⟩ := h
    have fi := AutoSeq1.idx_int
    wp_walk using AutoSeq1.wpAny_loadPart' lk
    repeat (first
      | (refine wpAny_ite_false (decide_eq_false (by rw [a0]; exact Bool.false_ne_true)) ?_; wp_walk using AutoSeq1.wpAny_loadPart' lk)
      | (refine wpAny_ite_false (decide_eq_false (by rw [a1]; exact Bool.false_ne_true)) ?_; wp_walk using AutoSeq1.wpAny_loadPart' lk)
      | (refine wpAny_ite_true (decide_eq_true a2) ?_; wp_walk using AutoSeq1.wpAny_loadPart' lk))
    exact ⟨_, rfl, h⟩
section
variable {X : Cx}
def rRepA (K : PySem.W.Frag) : R2 := fun x y H Q => ∃ l k xs, x = .ref l ∧ y = .int k ∧ SqT K H l xs ∧ -1000 ≤ k ∧ k ≤ 1000 ∧ xs.length ≤ 1000 ∧ ((xs = [] ∨ k = 1) → Q (.ref l) H) ∧ (¬ (xs = [] ∨ k = 1) → NewT H Q (List.replicate k.toNat xs).flatten)
theorem op_repA : OpR X (binaryOp .Mult) (rRepA X.K) := by
  intro pins s σ H x y v u Q I rx ry h
  obtain ⟨l, k, xs, rfl, rfl, hT, h1, h2, hz, q1, q2⟩ := h
  by_cases hc : xs ≠ [] ∧ 2 ≤ k
  · exact op_repTE pins s σ H _ _ v u Q I rx ry ⟨l, k, xs, rfl, rfl, hT, hc.1, hc.2, h2, hz, q2 (by rintro (q | q); exact hc.1 q; omega)⟩
  · cases rx
    obtain ⟨t, rfl⟩ := ry
    obtain ⟨its, r, ⟨⟨cls, dd, data, sl⟩, ho, hcl, n, hd⟩, hs⟩ := I.tuple hT
    simp only at hcl hd
    subst hcl hd
    have a0 : (decide (k < -(2 ^ 63)) || decide (k ≥ 2 ^ 63)) = false := by
      rw [decide_eq_false (by omega), decide_eq_false (by omega)] <;> rfl
    have he : its.toArray.isEmpty = xs.isEmpty := by
      cases r <;> rfl
    by_cases hs1 : xs = [] ∨ k = 1
    · have a1 : (its.toArray.isEmpty || k == 1) = true := by
        rw [he]
        rcases hs1 with q | q
        · subst q; rfl
        · subst q; simp
      exact wpAny_binaryOp_repeat_ref (T := "tuple") (U := "int") (by decide) ⟨_, ho, rfl⟩ (fun s' => typeIs_int s' k t) noFill_tuple_mul F.fills_int_mul F.slot_int_rmul repeat_tuple F.slot_int_index.lookup
        (call_meets F.slot_int_rmul (typeIs_int s k t) F.entry_int_rmul (F.args_int_rmul_2 _ _) (int_rmul_tuple k t l its.toArray n dd sl)
          ⟨ho, rfl, ⟨_, ho, rfl⟩, call_meets F.slot_tuple_mul ⟨_, ho, rfl⟩ F.entry_tuple_mul (F.args_tuple_mul_2 _ _) (tup_mul_same l its.toArray n dd sl k t a0 a1) ⟨ho, .ref l, H, I, rfl, q1 hs1⟩⟩)
    · have hx : xs ≠ [] := fun q => hs1 (.inl q)
      have hk : k ≤ 0 := by
        have : ¬ 2 ≤ k := fun q => hc ⟨hx, q⟩
        have : k ≠ 1 := fun q => hs1 (.inr q)
        omega
      have hx' : xs.isEmpty = false := by
        cases xs with
        | nil => exact absurd rfl hx
        | cons _ _ => rfl
      have a1 : (its.toArray.isEmpty || k == 1) = false := by
        rw [he, hx', Bool.false_or]
        exact beq_eq_false_iff_ne.mpr fun q => hs1 (.inr q)
      have a2 : (decide (k ≤ 0) || its.toArray.isEmpty) = true := by rw [decide_eq_true hk]; rfl
      have e0 : (List.replicate k.toNat xs).flatten = [] := by
        rw [show k.toNat = 0 by omega]
        rfl
      have q3 := q2 hs1
      rw [e0] at q3
      exact wpAny_binaryOp_repeat_ref (T := "tuple") (U := "int") (by decide) ⟨_, ho, rfl⟩ (fun s' => typeIs_int s' k t) noFill_tuple_mul F.fills_int_mul F.slot_int_rmul repeat_tuple F.slot_int_index.lookup
        (call_meets F.slot_int_rmul (typeIs_int s k t) F.entry_int_rmul (F.args_int_rmul_2 _ _) (int_rmul_tuple k t l its.toArray n dd sl)
          ⟨ho, rfl, ⟨_, ho, rfl⟩, call_meets F.slot_tuple_mul ⟨_, ho, rfl⟩ F.entry_tuple_mul (F.args_tuple_mul_2 _ _) (tup_mul_none l its.toArray n dd sl k t a0 a1 a2)
            ⟨ho, .ref _, _, I.laid (t' := s.toks) (o := .frz { cls := .type "tuple", data := .seq ([] : List Value).toArray } (.tup [])) (fun b ob q => Heap.get?_push_of_some _ q) (Nat.le_refl _) ⟨Heap.get?_push_size _ rfl, Nat.zero_le _, [], .nil, IsTup.new _ _⟩, rfl, q3 _ _ (I.hok.fresh (Nat.le_refl _)) rfl⟩⟩)
end

/-! ### t[::-1] -/
section
variable {prog : Program} {w : World} {A : Around} {E : Value → Shared → Prop} {s : Shared}
theorem back_places (n : Nat) : Builtin.Slice.slicePlaces ((n : Int) - 1) (-1) (-1) = n := by
  unfold Builtin.Slice.slicePlaces
  simp only [show ¬ ((-1 : Int) > 0) by decide, if_false]
  split
  · rw [show -(-1 : Int) = 1 from rfl, Int.ediv_one]
    omega
  · omega
theorem filterMap_all {α β : Type} {f : α → Option β} {g : α → β} : ∀ (l : List α), (∀ m ∈ l, f m = some (g m)) → l.filterMap f = l.map g
  | [], _ => rfl
  | a :: l, h => by
    rw [List.filterMap_cons_some (h a List.mem_cons_self), List.map_cons, filterMap_all l fun m hm => h m (List.mem_cons_of_mem _ hm)]
theorem back_pick (xs : Array Value) : ((List.range xs.size).filterMap fun (m : Nat) => xs[((xs.size : Int) - 1 + (m : Int) * (-1)).toNat]?).toArray = xs.toList.reverse.toArray := by
  congr 1
  rw [filterMap_all (g := fun m => (xs.toList.reverse)[m]?.getD Value.none) _ fun m hm => ?_]
  · apply List.ext_getElem?
    intro i
    rw [List.getElem?_map]
    by_cases hi : i < xs.size
    · rw [List.getElem?_range hi]
      have : i < xs.toList.reverse.length := by simpa using hi
      simp only [Option.map_some, List.getElem?_eq_getElem this, Option.getD_some]
    · rw [List.getElem?_eq_none (by simpa using hi), List.getElem?_eq_none (by simpa using hi)]
      rfl
  · rw [List.mem_range] at hm
    have e1 : ((xs.size : Int) - 1 + (m : Int) * (-1)).toNat = xs.size - 1 - m := by omega
    have hl : xs.toList.length = xs.size := Array.length_toList
    have hm' : m < xs.toList.length := by omega
    rw [e1, List.getElem?_reverse hm', hl, Array.getElem?_toList]
    have : xs.size - 1 - m < xs.size := by omega
    rw [Array.getElem?_eq_getElem this]
    rfl
theorem tup_back {t sl : Addr} {items : Array Value} {vl vu vs : Value} {Q : Value → Shared → Prop} (ht : IsTup s.heap t items) (hs : s.heap.IsSliceOf sl vl vu vs) (pl : IsPart vl none) (pu : IsPart vu none) (ps : IsPart vs (some (-1)))
    (h : Q (.ref s.heap.objs.size) { s with heap := s.heap.push { cls := .type "tuple", data := .seq items.toList.reverse.toArray } })
    (hsz : items.size ≤ sizeLine) : wpAny (model prog w) A (getItem (.ref t) (.ref sl)) Q E s := by
  have hr : sizeOk (.seq items.toList.reverse.toArray) := by
    show items.toList.reverse.toArray.size ≤ sizeLine
    rw [List.size_toArray, List.length_reverse, Array.length_toList]
    exact hsz
  obtain ⟨os, hos, hcs, hds⟩ := id hs
  have hTs : s.TypeIs (.ref sl) "slice" := ⟨os, hos, hcs⟩
  unfold getItem
  try with_reducible refine wpAny_holding ?_
  first | refine wpAny_bind (wpAny_pure ?_) | skip
  refine wpAny_bind (wpAny_sequenceKey ht.typeIs (by decide) ?_)
  refine wpAny_bind (wpAny_callSpecial?_slot (name := Str.ofString "__getitem__") ht.typeIs slot_tuple_getitem (wpAny_call_entry slot_tuple_getitem ht.typeIs entry_tuple_getitem ?_ (args_tuple_getitem _ _)))
  show wpAny _ _ (Builtin.Tuple.tupleItemsOf (.ref t) >>= _) _ _ s
  refine wpAny_bind (tupleItemsOf_ ht ?_)
  refine wpAny_bind (wpAny_typeOf hTs ?_)
  rw [if_pos (by decide)]
  have app : ∀ {A' : Around} {E' : Value → Shared → Prop} {Q' : Int × Int × Nat → Shared → Prop}, Q' ((items.size : Int) - 1, -1, items.size) s → wpAny (model prog w) A' (Builtin.Slice.sliceApplied (.ref sl) (pure (items.size : Int))) Q' E' s := by
    intro A' E' Q' hq
    unfold Builtin.Slice.sliceApplied Builtin.Slice.sliceFields
    refine wpAny_bind (wpAny_bind (wpAny_field hos hds (x := vl) rfl (wpAny_bind (wpAny_field hos hds (x := vu) rfl (wpAny_bind (wpAny_field hos hds (x := vs) rfl (wpAny_pure ?_)))))))
    refine wpAny_bind (HT.slicePart_ ps ?_)
    show wpAny _ _ (if ((-1 : Int) == 0) = true then _ else _) _ _ s
    rw [if_neg (by decide)]
    refine wpAny_bind (HT.slicePart_ pl (wpAny_bind (HT.slicePart_ pu (wpAny_bind (wpAny_pure ?_)))))
    show wpAny _ _ (pure ((items.size : Int) - 1, (-1 : Int), Builtin.Slice.slicePlaces ((items.size : Int) - 1) (-1) (-1))) _ _ s
    rw [back_places]
    exact wpAny_pure hq
  refine wpAny_bind (app ?_)
  have hno : ¬ ((((items.size : Int) - 1) == 0 && (-1 : Int) == 1 && items.size == items.size) = true) := by simp
  show wpAny _ _ (if (((items.size : Int) - 1) == 0 && (-1 : Int) == 1 && items.size == items.size) = true then _ else _) _ _ s
  rw [if_neg hno, back_pick]
  first
    | exact wpAny_bind (m := Builtin.Tuple.tupleExact _) (wpAny_newObj_type (wpAny_pure ⟨_, rfl, wpAny_pure h⟩) hr)
    | exact wpAny_bind (m := Builtin.Tuple.tupleExact _) (wpAny_newObj_type (wpAny_bind (wpAny_pure (wpAny_pure ⟨_, rfl, wpAny_pure h⟩))) hr)
    | exact wpAny_bind (wpAny_bind (m := Builtin.Tuple.tupleExact _) (wpAny_newObj_type (wpAny_pure (wpAny_pure ⟨_, rfl, wpAny_pure h⟩)) hr))
    | exact wpAny_bind (wpAny_bind (m := Builtin.Tuple.tupleExact _) (wpAny_newObj_type (wpAny_pure ⟨_, rfl, wpAny_pure h⟩) hr))
end
section
variable {X : Cx}
def tRevA (K : PySem.W.Frag) (te : TE) : TE := fun σ H Q => te σ H fun x H1 => ∃ a xs, x = .ref a ∧ ((SqL K H1 a xs ∧ ∀ p, H1 p = none → Q (.ref p) (upd H1 p (.lst xs.reverse))) ∨ (SqT K H1 a xs ∧ NewT H1 Q xs.reverse))
theorem pe_revS {e : Expr} {te : TE} {k : Nat} {p1 p2 p3 pos : Pos} (he : PE X e te) : PE X (.Subscript e (.Slice none none (some (.UnaryOp .USub (.Constant (.int 1) k p1) p2)) p3) pos) (tRevA X.K te) := by
  refine ⟨fun pins s σ H Q I h => ?_⟩
  refine Subscript_ (thn (he.run pins s σ H _ I h) fun v s1 ⟨x, H1, I1, r1, q1⟩ => ?_)
  obtain ⟨a, xs, ex, q⟩ := q1
  subst ex
  cases r1
  have hst : PO X (some (.UnaryOp .USub (.Constant (.int 1) k p1) p2)) (tPart (tUn (rU fun i => .int (-i)) (tC (.int 1)))) := po_some (pe_un un_neg pe_int)
  refine wpAny_Slice (thn (po_none.run pins s1 σ H1 (fun o H2 => o = none ∧ H2 = H1) I1 ⟨rfl, rfl⟩) fun vl s2 ⟨l, H2, I2, pl, el, e2⟩ => ?_)
  subst el e2
  refine thn (po_none.run pins s2 σ H2 (fun o H3 => o = none ∧ H3 = H2) I2 ⟨rfl, rfl⟩) fun vu s3 ⟨u, H3, I3, pu, eu, e3⟩ => ?_
  subst eu e3
  refine thn (hst.run pins s3 σ H3 (fun o H4 => o = some (-1) ∧ H4 = H3) I3 ⟨1, rfl, -1, rfl, rfl, rfl⟩) fun vs s4 ⟨o, H4, I4, ps, eo, e4⟩ => ?_
  subst eo e4
  have I5 : Inv X pins σ H4 { s4 with heap := s4.heap.push { cls := .type "slice", data := .fields #[vl, vu, vs] } } := I4.kept (t' := s4.toks) fun b ob q => Heap.get?_push_of_some _ q
  rcases q with ⟨hx, q⟩ | ⟨hx, q⟩
  · obtain ⟨its, r, ht, hz⟩ := I5.list hx
    have hlen := r.length
    show wpAny (model X.prog X.w) X.A (subscriptTail e (.Slice none none (some (.UnaryOp .USub (.Constant (.int 1) k p1) p2)) p3) (.ref a) (.ref s4.heap.objs.size)) (EP X pins σ Q) X.xe { s4 with heap := s4.heap.push { cls := .type "slice", data := .fields #[vl, vu, vs] } }
    refine tail_any (ops := [.ref a, .ref s4.heap.objs.size]) ht.isList.typeIs (PySem.slot_list_getitem.lookup) ?_ (by with_unfolding_all rfl)
    refine wpAny_getItem_list_slice ht.isList (Heap.IsSliceOf.new _ vl vu vs) pl pu ps (by decide) ?_ (by rw [List.size_toArray]; omega)
    rw [PySem.W.krv_pick]
    refine ⟨.ref _, _, I5.laid (t' := s4.toks) (o := .lst xs.reverse) (fun b ob q => Heap.get?_push_of_some _ q) (Nat.le_refl _) ?_, rfl, q _ (I5.hok.fresh (Nat.le_refl _))⟩
    exact ⟨by rw [List.length_reverse]; exact hz, _, 0, r.reverse, Heap.get?_push_size _ rfl⟩
  · obtain ⟨its, r, ht, hz⟩ := I5.tuple hx
    have hlen := r.length
    show wpAny (model X.prog X.w) X.A (subscriptTail e (.Slice none none (some (.UnaryOp .USub (.Constant (.int 1) k p1) p2)) p3) (.ref a) (.ref s4.heap.objs.size)) (EP X pins σ Q) X.xe { s4 with heap := s4.heap.push { cls := .type "slice", data := .fields #[vl, vu, vs] } }
    refine tail_any (ops := [.ref a, .ref s4.heap.objs.size]) ht.typeIs (slot_tuple_getitem.lookup) ?_ (by with_unfolding_all rfl)
    refine tup_back ht (Heap.IsSliceOf.new _ vl vu vs) pl pu ps ?_ (by rw [List.size_toArray]; omega)
    refine ⟨.ref _, _, I5.laid (t' := s4.toks) (o := .frz { cls := .type "tuple", data := .seq its.toArray.toList.reverse.toArray } (.tup xs.reverse)) (fun b ob q => Heap.get?_push_of_some _ q) (Nat.le_refl _) ?_, rfl, q _ _ (I5.hok.fresh (Nat.le_refl _)) rfl⟩
    exact ⟨Heap.get?_push_size _ rfl, by rw [List.length_reverse]; exact hz, its.reverse, r.reverse, ⟨_, Heap.get?_push_size _ rfl, rfl, 0, rfl⟩⟩
end

section
variable {G : Gs} {Γ : Ctx}
/-- x[::-1] -/
def dBack (x : D) (S : Sto) : Option D := match x with
  | .tup l => some (.tup l.reverse)
  | x => (lstD S x).map fun l => .lv l.reverse
def mBack (e : M D) : M D := fun ρ S => (e ρ S).bind fun x S1 => optR (dBack x S1) S1
theorem je_back {e : Expr} {m : M D} {k : Nat} {p1 p2 p3 pos : Pos} (he : JE G Γ e m) : JE G Γ (.Subscript e (.Slice none none (some (.UnaryOp .USub (.Constant (.int 1) k p1) p2)) p3) pos) (mBack m) := fun X W hx => by
  have p := he X W hx
  obtain ⟨rfl⟩ := hx
  refine (pe_revS p).weak fun σ H Q hl ⟨φ, Z, ρ, S, r, rf, q⟩ => ?_
  refine tG.seq r rf q fun φ1 H1 d S1 e1 r1 rf1 q1 v rv => ?_
  obtain ⟨x, hx, k⟩ := op_step r1 q1
  unfold dBack at hx
  split at hx
  · cases hx
    obtain ⟨a, xs, rfl, h1, h2⟩ := rv.tupD
    exact ⟨a, xs, rfl, .inr ⟨h1.sq, fun p o hp ho => k φ1 _ _ (Ex.of_same hp) (r1.lay hp) (RV.newT r1 hp ho h2.rev)⟩⟩
  · obtain ⟨l, h1, rfl⟩ := Option.map_eq_some_iff.mp hx
    obtain ⟨a, xs, rfl, h2, h3⟩ := rv.lst r1 h1
    exact ⟨a, xs, rfl, .inl ⟨h2, fun p hp => k φ1 _ _ (Ex.of_same hp) (r1.lay hp) (RV.newL r1 hp h3.rev)⟩⟩
/-- x * y -/
noncomputable def dMul : Op2 := fun x y _ => match x, y with
  | .int i, .int j => if I64 i ∨ I64 j then some (.int (i * j)) else none
  | .tup l, .int k => if RepOk k l.length then some (.tup (List.replicate k.toNat l).flatten) else none
  | _, _ => none
theorem RVs.rep {K : PySem.W.Frag} {φ Z : List Addr} {H : Hp} {xs : List V} {l : List D} (h : RVs K φ Z H xs l) : ∀ n : Nat, RVs K φ Z H (List.replicate n xs).flatten (List.replicate n l).flatten
  | 0 => .nil
  | n + 1 => by
    rw [List.replicate_succ, List.replicate_succ, List.flatten_cons, List.flatten_cons]
    exact h.append (RVs.rep h n)
theorem jo_mul : JOp G Γ (binaryOp .Mult) dMul := fun X W hx => by
  obtain ⟨rfl⟩ := hx
  rintro pins s σ H x y v u Q I rx ry ⟨φ, Z, S, dx, dy, d, r, r1, r2, hd, k⟩
  unfold dMul at hd
  split at hd
  · split at hd
    · rename_i hj
      cases hd
      exact op_mul pins s σ H _ _ v u Q I rx ry ⟨_, _, r1.intD, r2.intD, hj, rP_back r (.int _) k⟩
    · cases hd
  · split at hd
    · rename_i l j hj
      cases hd
      obtain ⟨a, xs, rfl, h1, h2⟩ := r1.tupD
      have e := r2.intD
      subst e
      refine op_repA pins s σ H _ _ v u Q I rx ry ⟨a, j, xs, rfl, rfl, h1.sq, hj.1, hj.2.1, by rw [h2.length]; exact hj.2.2, fun q => ?_, fun q t o ht ho => ?_⟩
      · rcases q with q | q
        · subst q
          have := h2.length
          have el : l = [] := List.eq_nil_of_length_eq_zero (by rw [← this]; rfl)
          subst el
          have e0 : (List.replicate j.toNat ([] : List D)).flatten = [] := by simp
          rw [e0] at k
          exact rP_back r r1 k
        · subst q
          have e0 : (List.replicate (1 : Int).toNat l).flatten = l := by simp
          rw [e0] at k
          exact rP_back r r1 k
      · exact k φ _ _ (Ex.of_same ht) (r.lay ht) (RV.newT r ht ho (h2.rep _))
    · cases hd
  · cases hd
end
end MP

/-! MP, part k: any of anything, isinstance, chains, in of tuples, constants of the module. -/
namespace MP
open PySem L2 PySem.Spec PyProof.Rows

/-! ### any(x), x a list or a tuple of numbers and truths -/
def truD : D → Option Bool
  | .bl b => some b
  | .int i => some (i != 0)
  | _ => none
section
variable {K : PySem.W.Frag} {mg : Mg} {φ Z : List Addr} {H : Hp} {S : Sto}
def truV : V → Option Bool
  | .bl b => some b
  | .int i => some (i != 0)
  | _ => none
theorem truth_of {prog : Program} {w : World} {A : Around} {xs : List V} {its : List Value} {bs : List Bool} (rv : Vals xs its) (h : optAll truV xs = some bs) :
    TruthOf prog w A (fun i v => its.toArray[i]? = some v) (fun i => bs.getD i false) := fun i v s Q E hv hq => by
  have key : ∀ {xs : List V} {its : List Value} {bs : List Bool}, Vals xs its → optAll truV xs = some bs → ∀ (i : Nat) (v : Value), its[i]? = some v → ∃ x b, RelV x v ∧ truV x = some b ∧ bs[i]? = some b := by
    intro xs its bs rv
    induction rv generalizing bs with
    | nil => intro _ i v h; simp at h
    | @cons x u xs us r t ih =>
      intro h i v hv
      simp only [optAll] at h
      split at h
      · rename_i h1 h2
        cases h
        cases i with
        | zero =>
          simp at hv
          subst hv
          exact ⟨x, _, r, h1, rfl⟩
        | succ i => exact ih h2 i v (by simpa using hv)
      · cases h
  obtain ⟨x, b, rx, hb, hbs⟩ := key rv h i v (by simpa using hv)
  have hg : bs.getD i false = b := by rw [List.getD_eq_getElem?_getD, hbs] <;> rfl
  have hq' : Q (bs.getD i false) s := hq
  rw [hg] at hq'
  cases x with
  | bl c =>
    have rx : v = Value.bool c := rx
    subst rx
    cases hb
    exact wpAny_truthy_bool hq'
  | int j =>
    cases hb
    obtain ⟨t, rfl⟩ := rx
    exact PyProof.Rows.truthy_int hq'
  | _ => cases hb
theorem truV_rep {xs : List V} {l : List D} {bs : List Bool} (h : RVs K φ Z H xs l) (q : optAll truD l = some bs) : optAll truV xs = some bs := by
  induction xs generalizing l bs with
  | nil => cases h; exact q
  | cons x xs ih =>
    cases h with
    | cons r t =>
      simp only [optAll] at q ⊢
      split at q
      · rename_i h1 h2
        cases q
        rw [ih t h2]
        cases r with
        | bl c => cases h1; rfl
        | int c => cases h1; rfl
        | _ => cases h1
      · cases q
end
section
variable {X : Cx}
theorem cr_anyT (hc : X.calm = true) : CallR X (.builtin "any") (fun vs H Q => ∃ a xs bs, vs = [V.ref a] ∧ (SqL X.K H a xs ∨ SqT X.K H a xs) ∧ optAll truV xs = some bs ∧ Q (.bl (bs.any id)) H) := by
  intro pins s σ H vs us Q I r h
  obtain ⟨a, xs, bs, rfl, hs, hb, q⟩ := h
  rw [Vals.ref1 r]
  have hlen : ∀ (xs : List V) (bs : List Bool), optAll truV xs = some bs → xs.length = bs.length := by
    intro xs
    induction xs with
    | nil => intro bs h; cases h; rfl
    | cons x xs ih =>
      intro bs h
      simp only [optAll] at h
      split at h
      · rename_i h1 h2
        cases h
        simp [ih _ h2]
      · cases h
  have fin : ∀ (ob : Obj) (h' : Heap) (tk : Tok) (its : List Value), xs.length = its.length → (∀ b o, b ∉ [s.heap.objs.size] → (s.heap.push ob).get? b = some o → h'.get? b = some o) →
      EP X pins σ Q (.bool ((List.range its.toArray.size).any fun i => bs.getD i false)) { s with heap := h', toks := tk } := by
    intro ob h' tk its hl hk
    refine ⟨.bl _, H, I.kept fun b o eo => hk b o (fun hmem => ?_) (Heap.get?_push_of_some _ eo), ?_, q⟩
    · exact absurd ((List.mem_singleton.mp hmem) ▸ Heap.lt_size eo) (Nat.lt_irrefl _)
    · show Value.bool _ = Value.bool _
      rw [← L2.any_range, List.size_toArray, ← hl, hlen xs bs hb]
  rcases hs with hs | hs
  · obtain ⟨its, rv, hl, _⟩ := I.list hs
    have hlt : a < s.heap.objs.size := hl.lt
    refine call_any_walk (wpAny_pyIter_list hl.isList ?_)
    refine ⟨_, _, _, _, _, _, _, rfl, Walks.list (A := X.A.in1) (I.ok.hd hc) _ a (Nat.ne_of_lt hlt) its.toArray, ⟨⟨_, Heap.get?_push_size _ rfl, rfl, rfl⟩, hl.isList.push _⟩, truth_of rv hb, fun h' tk hk => ?_⟩
    exact fin _ h' tk its rv.length hk
  · obtain ⟨its, rv, hl, _⟩ := I.tuple hs
    obtain ⟨o, ho, _⟩ := id hl
    have hlt : a < s.heap.objs.size := Heap.lt_size ho
    refine call_any_walk (wpAny_pyIter_tuple (show s.heap.IsTuple a its.toArray from hl) ?_)
    refine ⟨_, _, _, _, _, _, _, rfl, Walks.tuple (A := X.A.in1) (I.ok.hd hc) _ a (Nat.ne_of_lt hlt) its.toArray, ⟨⟨_, Heap.get?_push_size _ rfl, rfl, rfl⟩, ?_⟩, truth_of rv hb, fun h' tk hk => ?_⟩
    · obtain ⟨o, ho, hc, n, hd⟩ := hl
      exact ⟨o, Heap.get?_push_of_some _ ho, hc, n, hd⟩
    · exact fin _ h' tk its rv.length hk
end
section
variable {G : Gs} {Γ : Ctx}
def fAny : OpN := fun ds S => match ds with
  | [d] => ((seqD S d).bind (optAll truD)).map fun bs => .bl (bs.any id)
  | _ => none
theorem jb_any : JB G Γ (.builtin "any") fAny := fun X W hx => by
  have hc := hx.calm
  obtain ⟨rfl⟩ := hx
  rintro pins s σ H vs us Q I rv ⟨φ, Z, S, ds, d, r, r1, hd, k⟩
  unfold fAny at hd
  split at hd
  · obtain ⟨bs, hb, rfl⟩ := Option.map_eq_some_iff.mp hd
    obtain ⟨l, hl, hb⟩ := Option.bind_eq_some_iff.mp hb
    obtain ⟨v, rfl, rs⟩ := r1.oneD
    obtain ⟨a, xs, rfl, h1, h2⟩ := rs.seq r hl
    exact cr_anyT hc pins s σ H _ us Q I rv ⟨a, xs, bs, rfl, h1, truV_rep h2 hb, rP_back r (.bl _) k⟩
  · cases hd

/-! ### isinstance(x, T), T a built-in class -/
def tyD (S : Sto) : D → Option String
  | .non => some "NoneType"
  | .bl _ => some "bool"
  | .int _ => some "int"
  | .str _ => some "str"
  | .tup _ => some "tuple"
  | .lv _ => some "list"
  | .ro _ => some "list"
  | .ref n => match S[n]? with
    | some (.lst _) => some "list"
    | some (.dct []) => some "dict"
    | _ => none
theorem tyx_T {K : PySem.W.Frag} {H : Hp} {a : Addr} {xs : List V} (h : SqT K H a xs) : TyX K H (.ref a) (.type "tuple") := by
  rcases h with (h | ⟨o, h⟩) | ⟨o, its, n, h1, h2, _⟩
  · exact .base (.tup h)
  · exact .fTuple h
  · exact .kTuple h1 h2
theorem tyx_L {K : PySem.W.Frag} {H : Hp} {a : Addr} {xs : List V} (h : SqL K H a xs) : TyX K H (.ref a) (.type "list") := by
  rcases h with (h | ⟨o, h⟩) | ⟨o, its, n, h1, h2, _⟩
  · exact .base (.lst h)
  · exact .base (.frz h)
  · exact .kList h1 h2
theorem tyx_D {K : PySem.W.Frag} {mg : Mg} {φ Z : List Addr} {H : Hp} {S : Sto} (r : RepS K mg φ Z S H) {v : V} {d : D} {t : String} (rv : RV K φ Z H v d) (h : tyD S d = some t) : TyX K H v (.type t) := by
  cases rv with
  | non => cases h; exact .base .non
  | bl b => cases h; exact .base (.bl b)
  | int i => cases h; exact .base (.int i)
  | str s => cases h; exact .base (.str s)
  | tup q _ => cases h; exact tyx_T (K := K) q.sq
  | lv q _ _ _ => cases h; exact tyx_L (SqL.of q)
  | ro q _ => cases h; exact tyx_L (sqL_ro q)
  | ref q =>
    simp only [tyD] at h
    split at h
    · rename_i e
      cases h
      obtain ⟨b, hb, ro⟩ := r.get e
      rw [q] at hb
      cases hb
      cases ro with
      | lst q1 _ => exact tyx_L (SqL.of q1)
    · rename_i e
      cases h
      obtain ⟨b, hb, ro⟩ := r.get e
      rw [q] at hb
      cases hb
      cases ro with
      | dk q1 _ => exact .base (.dK q1)
      | dt _ _ _ _ _ _ _ q1 _ => exact absurd rfl q1
    · cases h
def isT (T t : String) : Bool := t == T || (t == "bool" && T == "int")
def KitOk (T : String) : Prop := ∀ t ∈ ["NoneType", "bool", "int", "str", "tuple", "list", "dict"], kitB t T = some (isT T t)
theorem tyD_in {S : Sto} {d : D} {t : String} (h : tyD S d = some t) : t ∈ ["NoneType", "bool", "int", "str", "tuple", "list", "dict"] := by
  cases d with
  | ref n =>
    simp only [tyD] at h
    split at h <;> cases h <;> simp
  | _ => cases h <;> simp
def mIsi (T : String) (e : M D) : M D := fun ρ S => (e ρ S).bind fun d S1 => optR ((tyD S1 d).map fun t => .bl (isT T t)) S1
theorem je_isi {T : String} {x : Str} {e : Expr} {p p2 pos : Pos} {m : M D} (hk : KitOk T) (hv : bootBuiltins x = some (.type T)) (hm : G.mg "isinstance" = none) (hm2 : G.mg x = none) (he : JE G Γ e m) (hg : Γ.sc.names.lookup ("isinstance" : Str) = some .globalImplicit := by rfl) (hg2 : Γ.sc.names.lookup x = some .globalImplicit := by rfl)
    (hn : x ≠ "__name__" := by decide) (hdb : (x == ("__debug__" : Str)) = false := by decide) (hs : ∀ env, starEach [e, .Name x p2] env = (false, eval e env) :: starEach [.Name x p2] env := by intro _; rfl) : JE G Γ (.Call (.Name "isinstance" p) [e, .Name x p2] [] pos) (mIsi T m) := fun X W hx => by
  have q1 := he X W hx
  have g := glOf hx hg
  have g2 := glOf hx hg2
  obtain ⟨rfl⟩ := hx
  refine (pe_callB call_isi g hm boot_isinstance (pa_cons q1 (pa_cons (pe_bltn (v := .ty T) g2 hm2 hv rfl hn hdb) pa_nil) (hs _)) (by decide) (by decide) (hs _)).weak fun σ H Q hl ⟨φ, Z, ρ, S, r, rf, q⟩ => ?_
  refine tG.seq r rf q fun φ1 H1 d S1 e1 r1 rf1 q1 v rv => ?_
  obtain ⟨y, hy, k⟩ := op_step r1 q1
  obtain ⟨t, ht, rfl⟩ := Option.map_eq_some_iff.mp hy
  exact ⟨v, .ty T, .type t, .type T, isT T t, rfl, .ty T, tyx_D r1 rv ht, kit_ty (hk t (tyD_in ht)), rP_back r1 (.bl _) k⟩

/-! ### a < b <= c -/
def mChain (f g : Op2) (a b c : M D) : M D := fun ρ S => (a ρ S).bind fun x S1 => (b ρ S1).bind fun y S2 => (optR (f x y S2) S2).bind fun d S3 => (toB d S3).bind fun k S4 => if k = true then (c ρ S4).bind fun z S5 => optR (g y z S5) S5 else .ok (.bl false) S4
theorem chain_weak {K : PySem.W.Frag} {mg : Mg} {W : XK} {f g : Op2} {ma mb mc : M D} : ∀ σ H Q, tE K mg W (mChain f g ma mb mc) σ H Q → tChain (rP K mg f) (rP K mg g) (tE K mg W ma) (tE K mg W mb) (tE K mg W mc) σ H Q := fun σ H Q ⟨φ, Z, ρ, S, r, rf, q⟩ => by
  refine tG.seq r rf q fun φ1 H1 dx S1 e1 r1 rf1 q1 x rx => tG.seq r1 rf1 q1 fun φ2 H2 dy S2 e2 r2 rf2 q2 y ry => ?_
  cases hf : f dx dy S2 with
  | none => rw [hf] at q2; exact q2.elim
  | some d =>
    rw [hf] at q2
    refine ⟨φ2, Z, S2, dx, dy, d, r2, rx.mono r1.nt e2, ry, hf, fun φ3 v H3 e3 r3 rv => ?_⟩
    obtain ⟨k, rfl, rfl, q3⟩ := toB_bl rv (EndG.from e3 q2)
    refine ⟨k, rfl, ?_⟩
    cases k with
    | false => exact q3.at r3 _ (.bl false)
    | true =>
      refine tG.seq r3 (rf2.mono r2.nt e3) q3 fun φ4 H4 dz S4 e4 r4 rf4 q4 z rz => ?_
      obtain ⟨d, hd, kk⟩ := op_step r4 q4
      exact ⟨φ4, Z, S4, dy, dz, d, r4, (ry.mono r2.nt e3).mono r3.nt e4, rz, hd, kk⟩
theorem je_chain {op op' : CmpOp} {a b c : Expr} {pos : Pos} {f g : Op2} {ma mb mc : M D} (hf : JOp G Γ (compareOp op) f) (hg : JOp G Γ (compareOp op') g) (ha : JE G Γ a ma) (hb : JE G Γ b mb) (hc : JE G Γ c mc)
    (hm : lastMarks [op, op'] [b, c] = false := by with_unfolding_all rfl) : JE G Γ (.Compare a [op, op'] [b, c] pos) (mChain f g ma mb mc) := fun X W hx => by
  have pf := hf X W hx
  have pg := hg X W hx
  have p1 := ha X W hx
  have p2 := hb X W hx
  have p3 := hc X W hx
  obtain ⟨rfl⟩ := hx
  exact (pe_chain pf pg p1 p2 p3 hm).weak fun σ H Q _ h => chain_weak σ H Q h
theorem jt_chain {op op' : CmpOp} {a b c : Expr} {pos : Pos} {f g : Op2} {ma mb mc : M D} (hf : JOp G Γ (compareOp op) f) (hg : JOp G Γ (compareOp op') g) (ha : JE G Γ a ma) (hb : JE G Γ b mb) (hc : JE G Γ c mc)
    (hm : lastMarks [op, op'] [b, c] = false := by with_unfolding_all rfl) : JT G Γ (.Compare a [op, op'] [b, c] pos) (mT (mChain f g ma mb mc)) := fun X W hx => by
  have pf := hf X W hx
  have pg := hg X W hx
  have p1 := ha X W hx
  have p2 := hb X W hx
  have p3 := hc X W hx
  obtain ⟨rfl⟩ := hx
  refine (pt_chain pf pg p1 p2 p3 hm).weak fun σ H Q hl ⟨φ, Z, ρ, S, r, rf, q⟩ => ?_
  refine chain_weak σ H _ ⟨φ, Z, ρ, S, r, rf, ?_⟩
  refine (EndG.bind q).imp fun φ1 H1 d S1 e1 r1 q1 v rv => ?_
  cases rv with
  | bl b => exact ⟨b, rfl, q1.at r1⟩
  | _ => exact q1.elim

/-! ### x in (a, b): flat values -/
def flatD : D → Option PyData
  | .non => some .none
  | .bl b => some (.bool b)
  | .int i => some (.int i)
  | .str s => some (.str s)
  | _ => none
theorem flat_eq {K : PySem.W.Frag} {φ Z : List Addr} {H : Hp} {v u : V} {x y : D} {p q : PyData} (rx : RV K φ Z H v x) (ry : RV K φ Z H u y) (hx : flatD x = some p) (hy : flatD y = some q) : flatV v = true ∧ eqV u v = PyData.eqv q p := by
  cases rx <;> cases hx <;> cases ry <;> cases hy <;> exact ⟨rfl, by simp [eqV, PyData.eqv]⟩
theorem flat_all {K : PySem.W.Frag} {φ Z : List Addr} {H : Hp} {v : V} {x : D} {p : PyData} (rx : RV K φ Z H v x) (hx : flatD x = some p) : ∀ {us : List V} {l : List D} {ps : List PyData}, RVs K φ Z H us l → optAll flatD l = some ps → us.all flatV = true ∧ inV v us = ps.any fun z => PyData.eqv z p
  | _, _, _, .nil, h => by cases h; exact ⟨rfl, rfl⟩
  | _, _, _, .cons r t, h => by
    simp only [optAll] at h
    split at h
    · rename_i h1 h2
      cases h
      obtain ⟨a1, a2⟩ := flat_all rx hx t h2
      obtain ⟨b1, b2⟩ := flat_eq rx r hx h1
      obtain ⟨c1, _⟩ := flat_eq r rx h1 hx
      refine ⟨by rw [List.all_cons, c1, a1]; rfl, ?_⟩
      show (eqV _ v || inV v _) = _
      rw [b2, a2]
      rfl
    · cases h
def dInTB (x y : D) : Option Bool := match flatD x, y with
  | some p, .tup l => (optAll flatD l).map fun ps => ps.any fun z => PyData.eqv z p
  | _, _ => none
def dInT : Op2 := fun x y _ => (dInTB x y).map .bl
theorem jo_inT : JOp G Γ (compareOp .In) dInT := fun X W hx => by
  obtain ⟨rfl⟩ := hx
  rintro pins s σ H x y v u Q I rx ry ⟨φ, Z, S, dx, dy, d, r, r1, r2, hd, k⟩
  obtain ⟨b, h1, rfl⟩ := Option.map_eq_some_iff.mp hd
  unfold dInTB at h1
  split at h1
  · rename_i p l hp
    obtain ⟨ps, h2, rfl⟩ := Option.map_eq_some_iff.mp h1
    obtain ⟨a, xs, rfl, q1, q2⟩ := r2.tupD
    obtain ⟨f1, f2⟩ := flat_all r1 hp q2 h2
    refine op_in_seq pins s σ H x _ v u Q I rx ry ⟨a, xs, rfl, .inr q1.sq, ?_, f1, ?_⟩
    · cases r1 <;> first | rfl | cases hp
    · show Q (.bl (inV x xs)) H
      rw [f2]
      exact rP_back r (.bl _) k
  · cases h1

/-! ### constants of the module -/
theorem je_globI {x : Str} {i : Int} {t : Tok} {pos : Pos} (hm : G.mg x = some (.int i t)) (hg : Γ.sc.names.lookup x = some .globalImplicit := by rfl) (hd : (x == ("__debug__" : Str)) = false := by decide) : JE G Γ (.Name x pos) (mC (.int i)) := fun X W hx => by
  have g := glOf hx hg
  obtain ⟨rfl⟩ := hx
  exact PE.ofOk (pe_glob (v := .int i) g hm ⟨t, rfl⟩ hd) fun φ Z ρ S σ H Q hl r rf q => q.at r _ (.int i)
theorem je_globS {x : Str} {i : Str} {t : Tok} {pos : Pos} (hm : G.mg x = some (.str i t)) (hg : Γ.sc.names.lookup x = some .globalImplicit := by rfl) (hd : (x == ("__debug__" : Str)) = false := by decide) : JE G Γ (.Name x pos) (mC (.str i)) := fun X W hx => by
  have g := glOf hx hg
  obtain ⟨rfl⟩ := hx
  exact PE.ofOk (pe_glob (v := .str i) g hm ⟨t, rfl⟩ hd) fun φ Z ρ S σ H Q hl r rf q => q.at r _ (.str i)
/-- -a -/
def mNeg (e : M D) : M D := fun ρ S => (e ρ S).bind fun d S1 => match d with
  | .int i => .ok (.int (-i)) S1
  | _ => .bad
theorem je_neg {e : Expr} {pos : Pos} {m : M D} (he : JE G Γ e m) : JE G Γ (.UnaryOp .USub e pos) (mNeg m) := fun X W hx => by
  have p := he X W hx
  obtain ⟨rfl⟩ := hx
  refine (pe_un un_neg p).weak fun σ H Q hl ⟨φ, Z, ρ, S, r, rf, q⟩ => ?_
  refine tG.seq r rf q fun φ1 H1 d S1 e1 r1 rf1 q1 v rv => ?_
  cases rv with
  | int i => exact ⟨i, rfl, q1.at r1 _ (.int _)⟩
  | _ => exact q1.elim
end
end MP

/-! MP, part l: dicts whose keys are tuples (nested), ints, texts. -/
namespace MP
open PySem L2 PySem.Spec PyProof.Rows

/-! ### what a dict reads -/
def kvGet : List (D × D) → NestedKey → Option D
  | [], _ => none
  | (c, d) :: r, k => if keyN c = some k then some d else kvGet r k
def kvRep : List (D × D) → NestedKey → D → List (D × D)
  | [], _, _ => []
  | (c, d) :: r, k, e => if keyN c = some k then (c, e) :: kvRep r k e else (c, d) :: kvRep r k e
def kvPut (kv : List (D × D)) (c : D) (k : NestedKey) (e : D) : List (D × D) := if (kvGet kv k).isSome then kvRep kv k e else kv ++ [(c, e)]
section
variable {K : PySem.W.Frag} {mg : Mg} {φ Z : List Addr} {H : Hp} {S : Sto} {xs : List (NestedKey × Addr × Value)} {kv : List (D × D)} {k : NestedKey}
theorem atKey_cons {x : NestedKey × Addr × Value} : atKey (x :: xs) k = if x.1 = k then some x.2 else atKey xs k := by
  unfold atKey
  rw [List.find?_cons]
  by_cases h : x.1 = k
  · simp [h]
  · simp [h]
theorem RTs.get (h : RTs K φ Z H xs kv) : (kvGet kv k = none → atKey xs k = none) ∧ ∀ d, kvGet kv k = some d → ∃ p, atKey xs k = some p ∧ ∃ v, RelV v p.2 ∧ RV K φ Z H v d := by
  induction h with
  | nil => exact ⟨fun _ => rfl, fun _ q => by cases q⟩
  | @cons k' a u v c d xs ds h1 h2 h3 h4 h5 _ ih =>
    rw [atKey_cons]
    simp only [kvGet, h1]
    by_cases e : k' = k
    · subst e
      simp only [if_true]
      exact ⟨fun q => (by cases q), fun d' q => (by cases q; exact ⟨_, rfl, v, h4, h5⟩)⟩
    · rw [if_neg (fun q => e (Option.some.inj q)), if_neg e]
      exact ih
theorem RTs.length (h : RTs K φ Z H xs kv) : xs.length = kv.length := by
  induction h with
  | nil => rfl
  | cons _ _ _ _ _ _ ih => simp [ih]
theorem RTs.rep (h : RTs K φ Z H xs kv) {v : V} {u : Value} {e : D} (r : RelV v u) (rv : RV K φ Z H v e) : RTs K φ Z H (xs.map (putAt k u)) (kvRep kv k e) := by
  induction h with
  | nil => exact .nil
  | @cons k' a u' v' c d xs ds h1 h2 h3 h4 h5 _ ih =>
    simp only [List.map_cons, kvRep, h1, putAt]
    by_cases eq : k' = k
    · subst eq
      simp only [if_true]
      exact .cons h1 h2 h3 r rv ih
    · rw [if_neg eq, if_neg (fun q => eq (Option.some.inj q))]
      exact .cons h1 h2 h3 h4 h5 ih
theorem RTs.snoc (h : RTs K φ Z H xs kv) {a : Addr} {v : V} {u : Value} {c e : D} (hk : keyN c = some k) (hd : k.depth ≤ 8) (rc : RV K φ Z H (.ref a) c) (r : RelV v u) (rv : RV K φ Z H v e) : RTs K φ Z H (xs ++ [(k, a, u)]) (kv ++ [(c, e)]) := by
  induction h with
  | nil => exact .cons hk hd rc r rv .nil
  | cons h1 h2 h3 h4 h5 _ ih => exact .cons h1 h2 h3 h4 h5 ih
theorem RTs.put (h : RTs K φ Z H xs kv) {a : Addr} {v : V} {u : Value} {c e : D} (hk : keyN c = some k) (hd : k.depth ≤ 8) (rc : RV K φ Z H (.ref a) c) (r : RelV v u) (rv : RV K φ Z H v e) : RTs K φ Z H (storedH xs k a u) (kvPut kv c k e) := by
  obtain ⟨g1, g2⟩ := h.get (k := k)
  unfold kvPut
  cases q : kvGet kv k with
  | none =>
    rw [storedH_new (g1 q)]
    exact h.snoc hk hd rc r rv
  | some d =>
    obtain ⟨p, hp, _⟩ := g2 d q
    rw [storedH_old hp]
    exact h.rep r rv
end
section
variable {X : Cx} {pins : List (Addr × Obj)} {σ : L2.St} {H : Hp} {s : Shared} {φ Z : List Addr}
mutual
theorem nested_of (I : Inv X pins σ H s) : ∀ {v : V} {c : D} {u : Value} {k : NestedKey}, RV X.K φ Z H v c → RelV v u → keyN c = some k → NestedIs s.heap k u
  | _, _, _, _, .non, r, h => by
    cases h
    cases r
    exact .none
  | _, _, _, _, .bl b, r, h => by
    cases h
    cases r
    exact .bool rfl
  | _, _, _, _, .int i, r, h => by
    cases h
    obtain ⟨t, rfl⟩ := r
    exact .int i t
  | _, _, _, _, .str x, r, h => by
    cases h
    obtain ⟨t, rfl⟩ := r
    exact .text x t
  | _, _, _, _, .tup q1 q2, r, h => by
    simp only [keyN] at h
    obtain ⟨ks, h1, rfl⟩ := Option.map_eq_some_iff.mp h
    cases r
    obtain ⟨its, rv, ⟨o, ho, hc, n, hd⟩, _⟩ := I.tuple q1.sq
    exact .tup ho hc hd (nested_all I q2 rv h1)
  | _, _, _, _, .lv _ _ _ _, _, h => by cases h
  | _, _, _, _, .ro _ _, _, h => by cases h
  | _, _, _, _, .ref _, _, h => by cases h
theorem nested_all (I : Inv X pins σ H s) : ∀ {vs : List V} {cs : List D} {us : List Value} {ks : List NestedKey}, RVs X.K φ Z H vs cs → Vals vs us → keyNs cs = some ks → NestedAll s.heap ks us
  | _, _, _, _, .nil, r, h => by
    cases h
    cases r
    exact .nil
  | _, _, _, _, .cons q1 q2, r, h => by
    simp only [keyNs] at h
    split at h
    · rename_i h1 h2
      cases h
      cases r with
      | cons r1 r2 => exact .cons (nested_of I q1 r1 h1) (nested_all I q2 r2 h2)
    · cases h
end
/-- a dict that bears such pairs, as the library tells it -/
def DAt (H : Hp) (a : Addr) (X : Cx) (φ Z : List Addr) (kv : List (D × D)) : Prop := RO X.K X.mw φ Z H a (.dct kv)
theorem dictH (I : Inv X pins σ H s) {a : Addr} {kv : List (D × D)} (h : RO X.K X.mw φ Z H a (.dct kv)) (ht : kv = [] ∨ ∃ o, H a = some (.ext o)) :
    ∃ xs, s.heap.DictOfH (nestedKind X.prog X.w) a xs ∧ RTs X.K φ Z H xs kv ∧ (a == sysModules) = false ∧ xs.length ≤ sizeLine ∧ Mut (H a) := by
  cases h with
  | @dk kvs kv q1 q2 =>
    rcases ht with rfl | ⟨o, e⟩
    · cases q2
      obtain ⟨z, hd, vs, rel, dd⟩ := dk_of I.hok q1
      cases rel
      obtain ⟨o, es, ep, h1, h2, h3, _, h5, _⟩ := dd
      refine ⟨[], ⟨o, es, ep, h1, h2, h3, ?_, fun _ q => (by cases q), List.nodup_nil⟩, .nil, hd, Nat.zero_le _, by rw [q1]; exact True.intro⟩
      cases he : es.toList with
      | nil => rfl
      | cons e r => rw [he] at h5; cases h5
    · rw [q1] at e; cases e
  | @dt o es ep xs kv q1 q2 q3 q4 q5 q6 q7 q8 q9 =>
    obtain ⟨ho, _, _⟩ := I.hok a _ q1
    refine ⟨xs, ⟨o, es, ep, ho, q2, q3, q4, fun x hx => ?_, q5⟩, q9, q7, q6, by rw [q1]; exact True.intro⟩
    have key : ∀ {xs : List (NestedKey × Addr × Value)} {kv : List (D × D)}, RTs X.K φ Z H xs kv → ∀ x ∈ xs, NestedIs s.heap x.1 (.ref x.2.1) ∧ x.1.depth ≤ 8 := by
      intro xs kv h
      induction h with
      | nil => intro x hx; cases hx
      | cons h1 h2 h3 _ _ _ ih =>
        intro x hx
        rcases List.mem_cons.mp hx with rfl | hx
        · exact ⟨nested_of I h3 rfl h1, h2⟩
        · exact ih x hx
    exact key q9 x hx
end
/-- a key that is a tuple: its key, not too deep -/
def tupKey (c : D) : Option NestedKey := match c with
  | .tup l => match keyN (.tup l) with
    | some k => if k.depth ≤ 8 then some k else none
    | none => none
  | _ => none
theorem tupKey_some {c : D} {k : NestedKey} (h : tupKey c = some k) : (∃ l, c = .tup l) ∧ keyN c = some k ∧ k.depth ≤ 8 := by
  unfold tupKey at h
  split at h
  · split at h
    · split at h
      · rename_i h1 h2
        cases h
        exact ⟨⟨_, rfl⟩, h1, h2⟩
      · cases h
    · cases h
  · cases h
/-- the dict at d, all of its keys tuples -/
def dctT (S : Sto) (d : D) : Option (List (D × D)) := match d with
  | .ref n => match S[n]? with
    | some (.dct kv) => if kv.all (fun p => isTup p.1) then some kv else none
    | _ => none
  | _ => none
where isTup : D → Bool
  | .tup _ => true
  | _ => false
theorem keys_ext {K : PySem.W.Frag} {mg : Mg} {φ Z : List Addr} {H : Hp} {a : Addr} {kv : List (D × D)} (h : RO K mg φ Z H a (.dct kv)) (q : kv.all (fun p => dctT.isTup p.1) = true) : kv = [] ∨ ∃ o, H a = some (.ext o) := by
  cases h with
  | dk q1 q2 =>
    cases q2 with
    | nil => exact .inl rfl
    | cons hk _ _ =>
      rw [List.all_cons, Bool.and_eq_true] at q
      have q' := q.1
      simp only at q'
      unfold dctT.isTup at q'
      split at q'
      · cases hk
      · cases q'
  | dt q1 _ _ _ _ _ _ _ _ => exact .inr ⟨_, q1⟩
theorem dctT_some {S : Sto} {d : D} {kv : List (D × D)} (h : dctT S d = some kv) : ∃ n, d = .ref n ∧ S[n]? = some (.dct kv) ∧ kv.all (fun p => dctT.isTup p.1) = true := by
  unfold dctT at h
  split at h
  · split at h
    · split at h
      · rename_i h1 h2
        cases h
        exact ⟨_, rfl, h1, h2⟩
      · cases h
    · cases h
  · cases h
section
variable {G : Gs} {Γ : Ctx}
theorem XW.un8 {X : Cx} {W : XK} (hx : XW G Γ X W) : X.A.in1.units + 8 < cLine := by
  have := hx.room.un
  have e : X.A.in1.units = X.A.units + 1 := rfl
  omega
def dGetT : Op2 := fun x y S => match dctT S x, tupKey y with
  | some kv, some k => kvGet kv k
  | _, _ => none
theorem jix_dictT : JIx G Γ dGetT := fun X W hx => by
  have hu := hx.un8
  obtain ⟨rfl⟩ := hx
  rintro value slice pins s σ H x y v u Q I rx ry ⟨φ, Z, S, dx, dy, d, r, r1, r2, hd, k⟩ hsb
  unfold dGetT at hd
  split at hd
  · rename_i kv key h1 h2
    obtain ⟨n, rfl, hS, hall⟩ := dctT_some h1
    obtain ⟨⟨l, rfl⟩, hk, hdep⟩ := tupKey_some h2
    obtain ⟨a, rfl, ha, ro⟩ := r.getV r1 hS
    obtain ⟨xs, hm, rts, hsm, hlen, _⟩ := dictH I ro (keys_ext ro hall)
    obtain ⟨p, hp, w, rw1, rw2⟩ := (rts.get (k := key)).2 d hd
    cases rx
    have hn := nested_of I r2 ry hk
    cases r2 with
    | tup t1 t2 =>
      cases ry
      exact tail_any hm.typeIs PySem.F.slot_dict_getitem.lookup (wpAny_getItem_heap (knd := nestedKind X.prog X.w) hu ⟨hn, hdep⟩ hm hp ⟨w, H, I.tok _, rw1, rP_back r rw2 k⟩) hsb
  · cases hd
def dInKT : Op2 := fun x y S => match dctT S y, tupKey x with
  | some kv, some k => some (.bl (kvGet kv k).isSome)
  | _, _ => none
def dNotInKT : Op2 := fun x y S => match dctT S y, tupKey x with
  | some kv, some k => some (.bl (!(kvGet kv k).isSome))
  | _, _ => none
theorem RTs.isSome {K : PySem.W.Frag} {φ Z : List Addr} {H : Hp} {xs : List (NestedKey × Addr × Value)} {kv : List (D × D)} {k : NestedKey} (h : RTs K φ Z H xs kv) : (atKey xs k).isSome = (kvGet kv k).isSome := by
  obtain ⟨g1, g2⟩ := h.get (k := k)
  cases q : kvGet kv k with
  | none => rw [g1 q]; rfl
  | some d =>
    obtain ⟨p, hp, _⟩ := g2 d q
    rw [hp]; rfl
theorem jo_inKT : JOp G Γ (compareOp .In) dInKT := fun X W hx => by
  have hu := hx.un8
  obtain ⟨rfl⟩ := hx
  rintro pins s σ H x y v u Q I rx ry ⟨φ, Z, S, dx, dy, d, r, r1, r2, hd, k⟩
  unfold dInKT at hd
  split at hd
  · rename_i kv key h1 h2
    cases hd
    obtain ⟨n, rfl, hS, hall⟩ := dctT_some h1
    obtain ⟨⟨l, rfl⟩, hk, hdep⟩ := tupKey_some h2
    obtain ⟨a, rfl, ha, ro⟩ := r.getV r2 hS
    obtain ⟨xs, hm, rts, hsm, hlen, _⟩ := dictH I ro (keys_ext ro hall)
    cases ry
    have hn := nested_of I r1 rx hk
    cases r1 with
    | tup t1 t2 =>
      cases rx
      refine wpAny_in_heap (knd := nestedKind X.prog X.w) hu ⟨hn, hdep⟩ hsm hm ⟨.bl _, H, I.tok _, ?_, rP_back r (.bl _) k⟩
      rw [rts.isSome]
      rfl
  · cases hd
theorem jo_notinKT : JOp G Γ (compareOp .NotIn) dNotInKT := fun X W hx => by
  have hu := hx.un8
  obtain ⟨rfl⟩ := hx
  rintro pins s σ H x y v u Q I rx ry ⟨φ, Z, S, dx, dy, d, r, r1, r2, hd, k⟩
  unfold dNotInKT at hd
  split at hd
  · rename_i kv key h1 h2
    cases hd
    obtain ⟨n, rfl, hS, hall⟩ := dctT_some h1
    obtain ⟨⟨l, rfl⟩, hk, hdep⟩ := tupKey_some h2
    obtain ⟨a, rfl, ha, ro⟩ := r.getV r2 hS
    obtain ⟨xs, hm, rts, hsm, hlen, _⟩ := dictH I ro (keys_ext ro hall)
    cases ry
    have hn := nested_of I r1 rx hk
    cases r1 with
    | tup t1 t2 =>
      cases rx
      refine notIn_keyed (knd := nestedKind X.prog X.w) hu ⟨hn, hdep⟩ hsm ⟨xs, hm, rfl⟩ ⟨.bl _, H, I.tok _, ?_, rP_back r (.bl _) k⟩
      rw [valueAt_pairsH, Option.isSome_map, rts.isSome]
      rfl
  · cases hd
/-- d[k] = v, the key a tuple -/
def refOf : D → Nat
  | .ref n => n
  | _ => 0
def fSetT : OpS := fun o i v S => match dctT S o, tupKey i with
  | some kv, some k => if kv.length < sizeLine then some (S.set (refOf o) (.dct (kvPut kv i k v))) else none
  | _, _ => none
theorem storedH_len (xs : List (NestedKey × Addr × Value)) (k : NestedKey) (a : Addr) (u : Value) : (storedH xs k a u).length ≤ xs.length + 1 := by
  unfold storedH
  split <;> simp
theorem kvPut_ne {kv : List (D × D)} {c : D} {k : NestedKey} {e : D} : kvPut kv c k e ≠ [] := by
  unfold kvPut
  split
  · rename_i h
    cases kv with
    | nil => cases h
    | cons p r =>
      obtain ⟨a, b⟩ := p
      simp only [kvRep]
      split <;> simp
  · simp
theorem jset_dictT : JSet G Γ fSetT := fun X W hx => by
  have hu := hx.un8
  obtain ⟨rfl⟩ := hx
  rintro pins s σ H o i v ov iv u Q I ro ri rv ⟨φ, Z, S, d0, di, dv, S', r, r0, r1, r2, hd, k⟩
  unfold fSetT at hd
  split at hd
  · rename_i kv key h2 h1
    split at hd
    · rename_i hz
      cases hd
      obtain ⟨n, rfl, hS, hall⟩ := dctT_some h2
      obtain ⟨⟨l, rfl⟩, hk, hdep⟩ := tupKey_some h1
      obtain ⟨a, rfl, ha, rO⟩ := r.getV r0 hS
      obtain ⟨xs, hm, rts, hsm, hlen, hmut⟩ := dictH I rO (keys_ext rO hall)
      cases ro
      have hn := nested_of I r1 ri hk
      have am : a ∈ φ := List.mem_of_getElem? ha
      have hlx := rts.length
      cases r1 with
      | @tup b ys ds t1 t2 =>
        cases ri
        refine wpAny_setItem_heap (knd := nestedKind X.prog X.w) (hsz := by omega) hu ⟨hn, hdep⟩ hm fun h' hm' hs => ?_
        obtain ⟨ob, es, ep, g1, g2, g3, g4, g5, g6⟩ := id hm'
        have new : ObjOk X.prog X.w (upd H a (.ext fun h => h.get? a = some ob)) h' a (.ext fun h => h.get? a = some ob) := ⟨g1, ⟨ob, g1⟩, fun h1 h2 q1 q2 => q2 _ q1⟩
        refine ⟨_, d_write I hmut hs ⟨ob, g1⟩ new, k φ _ (Ex.at am) (r.setO ha ?_)⟩
        have ex : Ex φ H φ (upd H a (.ext fun h => h.get? a = some ob)) := Ex.at am
        refine .dt upd_same g2 g3 g4 g6 ?_ hsm kvPut_ne ((rts.put hk hdep (.tup t1 t2) rv r2).imp fun v d q => q.mono r.nt ex)
        have := storedH_len xs key b u
        omega
    · cases hd
  · cases hd

/-! ### {} -/
theorem RepS.toφO {K : PySem.W.Frag} {mg : Mg} {φ Z : List Addr} {H : Hp} {S : Sto} {a : Addr} {o : Ob} (nz : a ∉ Z) (r : RepS K mg φ (a :: Z) S H) (q : RO K mg (φ ++ [a]) Z H a o) : RepS K mg (φ ++ [a]) Z (S ++ [o]) H := by
  obtain ⟨na, _⟩ := r.zs a List.mem_cons_self
  have hl := r.len
  refine ⟨by rw [List.length_append, List.length_append, r.len]; rfl, ?_, fun n b ob h1 h2 => ?_, fun z hz => ?_⟩
  · rw [List.nodup_append]
    refine ⟨r.nd, by simp, fun x hx y hy => ?_⟩
    rw [List.mem_singleton.mp hy]
    exact fun e => na (by rw [← e]; exact hx)
  · by_cases hn : n < φ.length
    · rw [List.getElem?_append_left hn] at h1
      rw [List.getElem?_append_left (by rw [← hl]; exact hn)] at h2
      exact (r.ob n b ob h1 h2).imp rfl fun v d x => x.toφ
    · obtain ⟨hm, _⟩ := List.getElem?_eq_some_iff.mp h1
      rw [List.length_append, List.length_singleton] at hm
      have en : n = φ.length := by omega
      subst en
      rw [List.getElem?_append_right (Nat.le_refl _), Nat.sub_self] at h1
      rw [hl, List.getElem?_append_right (Nat.le_refl _), Nat.sub_self] at h2
      cases h1
      cases h2
      exact q
  · obtain ⟨z1, z2⟩ := r.zs z (List.mem_cons_of_mem _ hz)
    refine ⟨fun m => ?_, z2⟩
    rcases List.mem_append.mp m with m | m
    · exact z1 m
    · exact nz (by rw [← List.mem_singleton.mp m]; exact hz)
def mNewD : M D := fun _ S => .ok (.ref S.length) (S ++ [.dct []])
theorem je_dict0 {pos : Pos} : JE G Γ (.Dict [] [] pos) mNewD := fun X W hx => by
  obtain ⟨rfl⟩ := hx
  refine pe_dnewK.weak fun σ H Q hl ⟨φ, Z, ρ, S, r, rf, q⟩ p hp => ?_
  have nz : p ∉ Z := fun hz => (r.zs p hz).2 hp
  have rz := r.addZ (o := .dK []) hp
  refine q (φ ++ [p]) _ (Ex.push hp) (RepS.toφO nz rz (.dk upd_same .nil)) _ (.ref ?_)
  rw [← r.len, List.getElem?_append_right (Nat.le_refl _), Nat.sub_self]
  rfl

/-! ### d.get(k), d.get(k, x) -/
theorem pe_bmE {X : Cx} {o e : Expr} {es : List Expr} {to : TE} {t : TA} {name : Str} {apos cpos : Pos} {T id : String} {ty : V → Hp → Prop} {r : V → List V → Hp → VK → Prop} (pa : PlainAttrs T) (slot : Slot T name id) (hty : typeOf (.builtin id) = pure (.type "method_descriptor"))
    (htc : ∀ (pins : List (Addr × Obj)) (σ : L2.St) (H : Hp) (s : Shared) (x : V) (v : Value), Inv X pins σ H s → RelV x v → ty x H → s.TypeIs v T ∧ ∀ a, v = .ref a → ∃ ob, s.heap.get? a = some ob ∧ ob.dict = none)
    (hm : MtR X id r) (ho : PE X o to) (ha : PA X (e :: es) t) (hb : attributeBase o name X.env (eval o X.env) = eval o X.env)
    (hf : ((backTo cpos (starEach (e :: es) X.env)).all (fun x => !x.1) && (backToKw cpos (keywordEach [] X.env)).all (fun x => x.1.isSome) && decide ((e :: es).length + ([] : List Keyword).length + (if ([] : List Keyword).isEmpty then 0 else 1) < 30)) = true)
    (hln : (apos.endLine == cpos.line) = true) (hst : starEach (e :: es) X.env = (false, eval e X.env) :: starEach es X.env) (hpl : (backTo cpos (starEach es X.env)).any (·.1) = false) :
    PE X (.Call (.Attribute o name apos) (e :: es) [] cpos) (fun σ H Q => to σ H fun x H1 => ty x H1 ∧ t σ H1 fun xs H2 => r x xs H2 Q) := by
  refine ⟨fun pins s σ H Q I h => ?_⟩
  refine wpAny_Call_method_late hb hf hln rfl (thn (ho.run pins s σ H _ I h) fun v s1 ⟨x, H1, I1, r1, tyx, q1⟩ => ?_)
  obtain ⟨t1, t2⟩ := htc pins σ H1 s1 x v I1 r1 tyx
  refine ⟨T, id, pa, slot, hty, t1, t2, ?_⟩
  have args := ha.run cpos pins s1 σ H1 _ I1 q1
  rw [hst] at args ⊢
  refine Calls.callWith_builtin (by show (false || (backTo cpos (starEach es X.env)).any (·.1)) = false; rw [hpl] <;> rfl) (Calls.evalArgs_plain ?_)
  exact thn args fun us s2 ⟨vs, H2, I2, r2, q2⟩ => hm pins s2 σ H2 x vs v us Q I2 r1 r2 q2
/-- the type's word ahead of a method, told by what stands in the store -/
def isDT : TyC := fun d S => (dctT S d).isSome
def tyDT (X : Cx) (v : V) (H : Hp) : Prop := ∃ φ Z a kv, v = .ref a ∧ RO X.K X.mw φ Z H a (.dct kv)
theorem je_mtD {id : String} {name : Str} {o e : Expr} {es : List Expr} {apos cpos : Pos} {mo : M D} {ma : M (List D)} {f : OpM} (slot : Slot "dict" name id) (hty : typeOf (.builtin id) = pure (.type "method_descriptor")) (hm : JMt G Γ id f) (ho : JE G Γ o mo) (ha : JA G Γ (e :: es) ma)
    (hbase : ∀ env, attributeBase o name env (eval o env) = eval o env := by intro _; rfl)
    (hfew : ∀ env, ((backTo cpos (starEach (e :: es) env)).all (fun x => !x.1) && (backToKw cpos (keywordEach [] env)).all (fun x => x.1.isSome)
      && decide ((e :: es).length + ([] : List Keyword).length + (if ([] : List Keyword).isEmpty then 0 else 1) < 30)) = true := by intro _; rfl)
    (hline : (apos.endLine == cpos.line) = true := by rfl) (hs : ∀ env, starEach (e :: es) env = (false, eval e env) :: starEach es env := by intro _; rfl) (hplain : ∀ env, (backTo cpos (starEach es env)).any (·.1) = false := by intro _; rfl) :
    JE G Γ (.Call (.Attribute o name apos) (e :: es) [] cpos) (mMt isDT f mo ma) := fun X W hx => by
  have p := hm X W hx
  have p1 := ho X W hx
  have p2 := ha X W hx
  obtain ⟨rfl⟩ := hx
  refine (pe_bmE (ty := tyDT X) PySem.F.plainAttrs_dict slot hty (fun pins σ H s x v I rx ⟨φ, Z, a, kv, ex, ro⟩ => ?_) p p1 p2 (hbase _) (hfew _) hline (hs _) (hplain _)).weak fun σ H Q hl ⟨φ, Z, ρ, S, r, rf, q⟩ => ?_
  · subst ex
    cases rx
    cases ro with
    | dk q1 q2 =>
      obtain ⟨_, _, vs, _, ob, _, _, h1, h2, _⟩ := dk_of I.hok q1
      exact ⟨⟨ob, h1, h2.1⟩, fun b e => by cases e; exact ⟨ob, h1, h2.2.1⟩⟩
    | dt q1 q2 q3 q4 q5 q6 q7 q8 q9 =>
      obtain ⟨g1, _, _⟩ := I.hok _ _ q1
      exact ⟨⟨_, g1, q2.1⟩, fun b e => by cases e; exact ⟨_, g1, q2.2.1⟩⟩
  · refine tG.seq r rf q fun φ1 H1 dx S1 e1 r1 rf1 q1 x rx => ?_
    split at q1
    · rename_i hct
      obtain ⟨kv, hkv⟩ := Option.isSome_iff_exists.mp hct
      obtain ⟨n, rfl, hS, _⟩ := dctT_some hkv
      obtain ⟨a, rfl, ha', ro⟩ := r1.getV rx hS
      refine ⟨⟨φ1, Z, a, kv, rfl, ro⟩, tG.seq r1 rf1 q1 fun φ2 H2 ds S2 e2 r2 rf2 q2 vs rvs => ?_⟩
      cases hd : f (.ref n) ds S2 with
      | none => rw [hd] at q2; exact q2.elim
      | some p =>
        rw [hd] at q2
        exact ⟨φ2, Z, S2, .ref n, ds, p.1, p.2, r2, rx.mono r1.nt e2, rvs, hd, fun φ' v H' e' r' rv => q2 φ' H' e' r' v rv⟩
    · exact q1.elim
def fGetT : OpM := fun x ds S => match dctT S x, ds with
  | some kv, [y] => match tupKey y with
    | some k => some ((kvGet kv k).getD .non, S)
    | none => none
  | some kv, [y, z] => match tupKey y with
    | some k => some ((kvGet kv k).getD z, S)
    | none => none
  | _, _ => none
theorem jm_getT : JMt G Γ "dict.get" fGetT := fun X W hx => by
  have hu := hx.un8
  obtain ⟨rfl⟩ := hx
  rintro pins s σ H x vs v us Q I rx rvs ⟨φ, Z, S, dx, ds, d, S', r, r1, r2, hd, k⟩
  unfold fGetT at hd
  split at hd
  · rename_i kv y h1
    split at hd
    · rename_i key h2
      cases hd
      obtain ⟨n, rfl, hS, hall⟩ := dctT_some h1
      obtain ⟨⟨l, rfl⟩, hk, hdep⟩ := tupKey_some h2
      obtain ⟨a, rfl, ha, ro⟩ := r.getV r1 hS
      obtain ⟨xs, hm, rts, hsm, hlen, _⟩ := dictH I ro (keys_ext ro hall)
      obtain ⟨w, rfl, ry⟩ := r2.oneD
      cases rx
      obtain ⟨u, rfl, ru⟩ := Vals.one rvs
      have hn := nested_of I ry ru hk
      cases ry with
      | tup t1 t2 =>
        cases ru
        refine get_keyed (knd := nestedKind X.prog X.w) hu ⟨hn, hdep⟩ hsm ⟨xs, hm, rfl⟩ ?_
        rw [valueAt_pairsH]
        obtain ⟨g1, g2⟩ := rts.get (k := key)
        cases q : kvGet kv key with
        | none =>
          rw [g1 q]
          rw [q] at k
          exact ⟨.non, H, I.tok _, rfl, rP_back r .non k⟩
        | some d =>
          obtain ⟨p, hp, w, rw1, rw2⟩ := g2 d q
          rw [hp]
          rw [q] at k
          exact ⟨w, H, I.tok _, rw1, rP_back r rw2 k⟩
    · cases hd
  · rename_i kv y z h1
    split at hd
    · rename_i key h2
      cases hd
      obtain ⟨n, rfl, hS, hall⟩ := dctT_some h1
      obtain ⟨⟨l, rfl⟩, hk, hdep⟩ := tupKey_some h2
      obtain ⟨a, rfl, ha, ro⟩ := r.getV r1 hS
      obtain ⟨xs, hm, rts, hsm, hlen, _⟩ := dictH I ro (keys_ext ro hall)
      obtain ⟨w, w', rfl, ry, rz⟩ := r2.twoD
      cases rx
      obtain ⟨u, u', rfl, ru, ru'⟩ := Vals.two rvs
      have hn := nested_of I ry ru hk
      cases ry with
      | tup t1 t2 =>
        cases ru
        refine getOr_keyed (knd := nestedKind X.prog X.w) hu ⟨hn, hdep⟩ hsm ⟨xs, hm, rfl⟩ ?_
        rw [valueAt_pairsH]
        obtain ⟨g1, g2⟩ := rts.get (k := key)
        cases q : kvGet kv key with
        | none =>
          rw [g1 q]
          rw [q] at k
          exact ⟨w', H, I.tok _, ru', rP_back r rz k⟩
        | some d =>
          obtain ⟨p, hp, w, rw1, rw2⟩ := g2 d q
          rw [hp]
          rw [q] at k
          exact ⟨w, H, I.tok _, rw1, rP_back r rw2 k⟩
    · cases hd
  · cases hd
/-- x[i] of a list, a tuple, a text, a dict with tuples for keys -/
def dIxA : Op2 := fun x y S => match dctT S x with
  | some _ => dGetT x y S
  | none => dIx x y S
theorem jix_any : JIx G Γ dIxA := fun X W hx => by
  have p1 := jix_seq X W hx
  have p2 := jix_dictT X W hx
  rintro value slice pins s σ H x y v u Q I rx ry ⟨φ, Z, S, dx, dy, d, r, r1, r2, hd, k⟩ hsb
  unfold dIxA at hd
  split at hd
  · exact p2 value slice pins s σ H x y v u Q I rx ry ⟨φ, Z, S, dx, dy, d, r, r1, r2, hd, k⟩ hsb
  · exact p1 value slice pins s σ H x y v u Q I rx ry ⟨φ, Z, S, dx, dy, d, r, r1, r2, hd, k⟩ hsb
/-- x in y: lists of data, tuples of flat values, dicts with tuples for keys -/
def dInA : Op2 := fun x y S => match y with
  | .tup _ => dInT x y S
  | y => match dctT S y with
    | some _ => dInKT x y S
    | none => dIn x y S
def dNotInA : Op2 := fun x y S => match dctT S y with
    | some _ => dNotInKT x y S
    | none => dNotIn x y S
theorem jo_inA : JOp G Γ (compareOp .In) dInA := fun X W hx => by
  have p1 := jo_inT X W hx
  have p2 := jo_inKT X W hx
  have p3 := jo_in X W hx
  rintro pins s σ H x y v u Q I rx ry ⟨φ, Z, S, dx, dy, d, r, r1, r2, hd, k⟩
  unfold dInA at hd
  split at hd
  · exact p1 pins s σ H x y v u Q I rx ry ⟨φ, Z, S, dx, _, d, r, r1, r2, hd, k⟩
  · split at hd
    · exact p2 pins s σ H x y v u Q I rx ry ⟨φ, Z, S, dx, dy, d, r, r1, r2, hd, k⟩
    · exact p3 pins s σ H x y v u Q I rx ry ⟨φ, Z, S, dx, dy, d, r, r1, r2, hd, k⟩
theorem jo_notinA : JOp G Γ (compareOp .NotIn) dNotInA := fun X W hx => by
  have p2 := jo_notinKT X W hx
  have p3 := jo_notin X W hx
  rintro pins s σ H x y v u Q I rx ry ⟨φ, Z, S, dx, dy, d, r, r1, r2, hd, k⟩
  unfold dNotInA at hd
  split at hd
  · exact p2 pins s σ H x y v u Q I rx ry ⟨φ, Z, S, dx, dy, d, r, r1, r2, hd, k⟩
  · exact p3 pins s σ H x y v u Q I rx ry ⟨φ, Z, S, dx, dy, d, r, r1, r2, hd, k⟩
/-- o[i] = v: lists, dicts with tuples for keys -/
def fSetA : OpS := fun o i v S => match dctT S o with
  | some _ => fSetT o i v S
  | none => fSetL o i v S
theorem jset_any : JSet G Γ fSetA := fun X W hx => by
  have p1 := jset_list X W hx
  have p2 := jset_dictT X W hx
  rintro pins s σ H o i v ov iv u Q I ro ri rv ⟨φ, Z, S, d0, di, dv, S', r, r0, r1, r2, hd, k⟩
  unfold fSetA at hd
  split at hd
  · exact p2 pins s σ H o i v ov iv u Q I ro ri rv ⟨φ, Z, S, d0, di, dv, S', r, r0, r1, r2, hd, k⟩
  · exact p1 pins s σ H o i v ov iv u Q I ro ri rv ⟨φ, Z, S, d0, di, dv, S', r, r0, r1, r2, hd, k⟩
end
end MP

/-! MP, part m: what a def has made for itself alone is dropped when it ends; lists that it hands back are frozen. -/
namespace MP
open PySem L2

mutual
def lowD (b : Nat) : D → Bool
  | .tup l => lowDs b l
  | .lv l => lowDs b l
  | .ro l => lowDs b l
  | .ref n => decide (n < b)
  | .non => true
  | .bl _ => true
  | .int _ => true
  | .str _ => true
def lowDs (b : Nat) : List D → Bool
  | [] => true
  | d :: ds => lowD b d && lowDs b ds
end
def lowO (b : Nat) : Ob → Bool
  | .lst l => lowDs b l
  | .dct kv => kv.all fun p => lowD b p.1 && lowD b p.2
  | .ins _ fs => fs.all fun p => lowD b p.2
/-- lists of addresses from b on become values -/
def frz (b : Nat) (S : Sto) : Nat → D → D
  | n + 1, .tup l => .tup (l.map (frz b S n))
  | n + 1, .lv l => .lv (l.map (frz b S n))
  | n + 1, .ref k => if k < b then .ref k else match S[k]? with
    | some (.lst l) => .lv (l.map (frz b S n))
    | _ => .ref k
  | _, d => d
section
variable {K : PySem.W.Frag} {mg : Mg} {φ Z : List Addr} {H : Hp} {S : Sto}
mutual
theorem RV.lowD : ∀ {v : V} {d : D}, RV K φ Z H v d → lowD φ.length d = true
  | _, _, .non => rfl
  | _, _, .bl _ => rfl
  | _, _, .int _ => rfl
  | _, _, .str _ => rfl
  | _, _, .tup _ q => by simp only [MP.lowD]; exact RVs.lowDs q
  | _, _, .lv _ _ _ q => by simp only [MP.lowD]; exact RVs.lowDs q
  | _, _, .ro _ q => by simp only [MP.lowD]; exact RVs.lowDs q
  | _, _, .ref h => by simp only [MP.lowD, decide_eq_true_eq]; exact (List.getElem?_eq_some_iff.mp h).1
theorem RVs.lowDs : ∀ {vs : List V} {ds : List D}, RVs K φ Z H vs ds → lowDs φ.length ds = true
  | _, _, .nil => rfl
  | _, _, .cons a q => by simp only [MP.lowDs, Bool.and_eq_true]; exact ⟨RV.lowD a, RVs.lowDs q⟩
end
mutual
theorem RV.less {b : Nat} : ∀ {v : V} {d : D}, RV K φ Z H v d → lowD b d = true → RV K (φ.take b) Z H v d
  | _, _, .non, _ => .non
  | _, _, .bl x, _ => .bl x
  | _, _, .int x, _ => .int x
  | _, _, .str x, _ => .str x
  | _, _, .tup h q, e => .tup h (RVs.less q (by simpa only [MP.lowD] using e))
  | _, _, .lv h m z q, e => .lv h (fun k => m (List.mem_of_mem_take k)) z (RVs.less q (by simpa only [MP.lowD] using e))
  | _, _, .ro h q, e => .ro (h.imp (fun ⟨x, m, z⟩ => ⟨x, fun k => m (List.mem_of_mem_take k), z⟩) id) (RVs.less q (by simpa only [MP.lowD] using e))
  | _, _, .ref h, e => .ref (by
      simp only [MP.lowD, decide_eq_true_eq] at e
      rw [List.getElem?_take_of_lt e]
      exact h)
theorem RVs.less {b : Nat} : ∀ {vs : List V} {ds : List D}, RVs K φ Z H vs ds → lowDs b ds = true → RVs K (φ.take b) Z H vs ds
  | _, _, .nil, _ => .nil
  | _, _, .cons a q, e => by
    simp only [MP.lowDs, Bool.and_eq_true] at e
    exact .cons (RV.less a e.1) (RVs.less q e.2)
end
theorem RKs.less {b : Nat} {vs : List (Key × V)} {kv : List (D × D)} (h : RKs K φ Z H vs kv) (e : kv.all (fun p => lowD b p.1 && lowD b p.2) = true) : RKs K (φ.take b) Z H vs kv := by
  induction h with
  | nil => exact .nil
  | cons k a _ ih =>
    simp only [List.all_cons, Bool.and_eq_true] at e
    exact .cons k (a.less e.1.2) (ih e.2)
theorem RFs.less {b : Nat} {vs : List (Str × V)} {fs : List (Str × D)} (h : RFs K φ Z H vs fs) (e : fs.all (fun p => lowD b p.2) = true) : RFs K (φ.take b) Z H vs fs := by
  induction h with
  | nil => exact .nil
  | cons a _ ih =>
    simp only [List.all_cons, Bool.and_eq_true] at e
    exact .cons (a.less e.1) (ih e.2)
theorem RTs.less {b : Nat} {xs : List (NestedKey × Addr × Value)} {kv : List (D × D)} (h : RTs K φ Z H xs kv) (e : kv.all (fun p => lowD b p.1 && lowD b p.2) = true) : RTs K (φ.take b) Z H xs kv := by
  induction h with
  | nil => exact .nil
  | cons k kd a r c _ ih =>
    simp only [List.all_cons, Bool.and_eq_true] at e
    exact .cons k kd (a.less e.1.1) r (c.less e.1.2) (ih e.2)
theorem RO.less {b : Nat} {a : Addr} {o : Ob} (h : RO K mg φ Z H a o) (e : lowO b o = true) : RO K mg (φ.take b) Z H a o := by
  cases h with
  | lst x q => exact .lst x (q.less e)
  | dk x q => exact .dk x (q.less e)
  | dt x q1 q2 q3 q4 q5 q6 q7 q8 => exact .dt x q1 q2 q3 q4 q5 q6 q7 (q8.less e)
  | ins c x q => exact .ins c x (q.less e)
theorem RO.lowD {a : Addr} {o : Ob} (h : RO K mg φ Z H a o) : lowO φ.length o = true := by
  cases h with
  | lst x q => exact q.lowDs
  | dk x q =>
    clear x
    induction q with
    | nil => rfl
    | cons k a _ ih =>
      simp only [lowO, List.all_cons, Bool.and_eq_true] at ih ⊢
      refine ⟨⟨?_, a.lowD⟩, ih⟩
      unfold keyOf at k
      split at k
      · rfl
      · rfl
      · cases k
  | dt x q1 q2 q3 q4 q5 q6 q7 q8 =>
    clear q7 x q3 q4 q5
    induction q8 with
    | nil => rfl
    | cons k kd a r c _ ih =>
      simp only [lowO, List.all_cons, Bool.and_eq_true] at ih ⊢
      exact ⟨⟨a.lowD, c.lowD⟩, ih⟩
  | ins c x q =>
    clear x
    induction q with
    | nil => rfl
    | cons a _ ih =>
      simp only [lowO, List.all_cons, Bool.and_eq_true] at ih ⊢
      exact ⟨a.lowD, ih⟩
theorem map_frz {φ2 : List Addr} {f : D → D} {b : Nat} (ih : ∀ v d, RV K φ Z H v d → lowD b (f d) = true → RV K φ2 Z H v (f d)) : ∀ {vs : List V} {ds : List D}, RVs K φ Z H vs ds → lowDs b (ds.map f) = true → RVs K φ2 Z H vs (ds.map f)
  | _, _, .nil, _ => .nil
  | _, _, .cons a q, e => by
    simp only [List.map_cons, MP.lowDs, Bool.and_eq_true] at e
    exact .cons (ih _ _ a e.1) (map_frz ih q e.2)
theorem frz_rv (r : RepS K mg φ Z S H) (b : Nat) : ∀ (n : Nat) (v : V) (d : D), RV K φ Z H v d → lowD b (frz b S n d) = true → RV K (φ.take b) Z H v (frz b S n d) := by
  intro n
  induction n with
  | zero =>
    intro v d h e
    have : frz b S 0 d = d := by cases d <;> rfl
    rw [this] at e ⊢
    exact h.less e
  | succ n ih =>
    intro v d h e
    cases h with
    | tup x q =>
      simp only [frz, MP.lowD] at e ⊢
      exact .tup x (map_frz ih q e)
    | lv x m z q =>
      simp only [frz, MP.lowD] at e ⊢
      exact .lv x (fun k => m (List.mem_of_mem_take k)) z (map_frz ih q e)
    | @ref k a x =>
      simp only [frz] at e ⊢
      split
      · rename_i hk
        exact .ref (by rw [List.getElem?_take_of_lt hk]; exact x)
      · rename_i hk
        rw [if_neg hk] at e
        split
        · rename_i l hl
          rw [hl] at e
          simp only [MP.lowD] at e
          obtain ⟨b', hb', q⟩ := r.get hl
          rw [x] at hb'
          cases hb'
          cases q with
          | lst q1 q2 =>
            refine .lv q1 (fun m => ?_) (fun m => (r.zs _ m).1 (List.mem_of_getElem? x)) (map_frz ih q2 e)
            obtain ⟨j, hj, ej⟩ := List.getElem_of_mem m
            have hj2 : j < b := by
              rw [List.length_take] at hj
              omega
            have hjl : j < φ.length := by
              rw [List.length_take] at hj
              omega
            rw [List.getElem_take] at ej
            obtain ⟨kl, ek⟩ := List.getElem?_eq_some_iff.mp x
            have := (List.getElem_inj r.nd (h₀ := hjl) (h₁ := kl)).mp (ej.trans ek.symm)
            omega
        · rename_i hno
          exfalso
          split at e
          · rename_i l hl
            exact hno l hl
          · simp only [MP.lowD, decide_eq_true_eq] at e
            exact hk e
    | non => exact .non
    | bl x => exact .bl x
    | int x => exact .int x
    | str x => exact .str x
    | @ro a xs ds x q => exact RV.less (RV.ro x q) e
end
/-- what stood ahead stands, or has no new things within -/
def Good (S S' : Sto) : Prop := S.length ≤ S'.length ∧ ∀ (m : Nat) (o : Ob), m < S.length → S'[m]? = some o → S[m]? = some o ∨ lowO S.length o = true
open Classical in
noncomputable def trunc (f : Fn) : Fn := fun ds S => match f ds S with
  | .ok d S' => if Good S S' ∧ lowD S.length (frz S.length S' 8 d) = true then .ok (frz S.length S' 8 d) (S'.take S.length) else .bad
  | .exc c S' => if Good S S' then .exc c (S'.take S.length) else .bad
  | .bad => .bad
section
variable {G : Gs}
theorem RepS.trunc {K : PySem.W.Frag} {mg : Mg} {φ φ' Z : List Addr} {H H' : Hp} {S S' : Sto} (r : RepS K mg φ Z S H) (e : Ex φ H φ' H') (r' : RepS K mg φ' Z S' H') (g : Good S S') : RepS K mg φ Z (S'.take S.length) H' ∧ Ex φ H φ H' ∧ φ'.take S.length = φ := by
  have et : φ'.take S.length = φ := by
    obtain ⟨t, rfl⟩ := e.pre
    rw [← r.len, List.take_left']
    rfl
  refine ⟨⟨?_, r.nd, fun n a o h1 h2 => ?_, fun z hz => ?_⟩, ⟨List.prefix_rfl, fun a h n => absurd h n, e.keep⟩, et⟩
  · rw [List.length_take, r.len]
    have := g.1
    omega
  · have hn : n < S.length := by
      rw [← r.len]
      exact (List.getElem?_eq_some_iff.mp h1).1
    rw [List.getElem?_take_of_lt hn] at h2
    have ro := r'.ob n a o (e.get h1) h2
    have bo : lowO S.length o = true := by
      rcases g.2 n o hn h2 with q | q
      · have := (r.ob n a o h1 q).lowD
        rw [r.len] at this
        exact this
      · exact q
    have := ro.less bo
    rw [et] at this
    exact this
  · obtain ⟨z1, z2⟩ := r.zs z hz
    obtain ⟨_, z3⟩ := r'.zs z hz
    exact ⟨z1, z3⟩
theorem Has.trunc {k n : Nat} {name : Str} {f : Fn} (h : Has G k name n f) : Has G k name n (trunc f) := by
  obtain ⟨a, fd, ps, h1, h2, h3, h4⟩ := h
  refine ⟨a, fd, ps, h1, h2, h3, h4.imp fun vs H Q E ⟨hl, φ, Z, S, ds, r, rvs, q⟩ => ⟨hl, φ, Z, S, ds, r, rvs, ?_⟩⟩
  unfold MP.trunc at q
  cases hf : f ds S with
  | bad => rw [hf] at q; exact q
  | exc c S' =>
    rw [hf] at q
    simp only at q
    split at q
    · rename_i g
      intro φ' H' e r'
      obtain ⟨t1, t2, _⟩ := r.trunc e r' g
      exact q φ H' t2 t1
    · exact q.elim
  | ok d S' =>
    rw [hf] at q
    simp only at q
    split at q
    · rename_i g
      intro φ' H' e r' v rv
      obtain ⟨t1, t2, t3⟩ := r.trunc e r' g.1
      have := frz_rv r' S.length 8 v d rv g.2
      rw [t3] at this
      exact q φ H' t2 t1 v this
    · exact q.elim
end
end MP

/-! MP, part n: a name set to a comprehension; how many arguments; lists taken apart. -/
namespace MP
open PySem L2
section
variable {K : PySem.W.Frag} {mg : Mg} {W : XK}
theorem lv_weak {m : M (List D)} {σ : L2.St} {H : Hp} {Q : VK} (h : tE K mg W (mLv m) σ H Q) : tN K mg W m σ H Q := by
  obtain ⟨φ, Z, ρ, S, r, rf, q⟩ := h
  refine ⟨φ, Z, ρ, S, r, rf, (EndG.bind q).imp fun φ1 H1 l S1 e1 r1 q1 a xs ha hH rz rvs => ?_⟩
  exact q1.at r1 _ (.lv hH (rz.zs a List.mem_cons_self).1 (fun hz => (r.zs a hz).2 ha) rvs.dropZ)
theorem ref_weak {m : M (List D)} {σ : L2.St} {H : Hp} {Q : VK} (h : tE K mg W (mRef m) σ H Q) : tN K mg W m σ H Q := by
  obtain ⟨φ, Z, ρ, S, r, rf, q⟩ := h
  refine ⟨φ, Z, ρ, S, r, rf, ?_⟩
  simp only [mRef] at q
  cases hm : m ρ S with
  | bad => rw [hm] at q; exact q
  | exc c S1 => rw [hm] at q; exact q
  | ok l S1 =>
    rw [hm] at q
    intro φ1 H1 e1 r1 a xs ha hH rz rvs
    have nz : a ∉ Z := fun hz => (r.zs a hz).2 ha
    have e2 : Ex φ H (φ1 ++ [a]) H1 := ⟨e1.pre.trans (List.prefix_append _ _), fun b hb nb => by
      rcases List.mem_append.mp hb with hb | hb
      · exact e1.new b hb nb
      · rw [List.mem_singleton.mp hb]; exact ha, e1.keep⟩
    refine q (φ1 ++ [a]) H1 e2 (rz.toφ nz hH rvs) (.ref a) (.ref ?_)
    rw [← r1.len, List.getElem?_append_right (Nat.le_refl _), Nat.sub_self]
    rfl
theorem set_weak {m : M D} {i n : Nat} {Dn : Ends} {σ : L2.St} {H : Hp} (hi : i < n) (hl : σ.length = n) (h : tS K mg W (mSet i m) Dn σ H) : tE K mg W m σ H (fun x H1 => gName i x σ H1 Dn.nx) := by
  obtain ⟨φ, Z, ρ, S, r, rf, q⟩ := h
  refine tG.seq r rf q fun φ1 H1 d S1 e1 r1 rf1 q1 v rv => ?_
  exact q1.at r1 _ (rf1.set (by rw [hl]; exact hi) rv)
end
section
variable {G : Gs} {Γ : Ctx}
theorem js_lc {y : Str} {py : Pos} {elt tg iter : Expr} {ifs : List Expr} {sc : Scope} {pos spos : Pos} {m : M (List D)} {mm : M D} (i : Nat) (h : JLC G Γ elt tg iter ifs sc m) (hw : ∀ K mg W σ H Q, tE K mg W mm σ H Q → tN K mg W m σ H Q) (hN : Γ.N[i]? = some y) (hk : Γ.sc.kind = .function) (hv : Γ.sc.names.lookup y = some .local) (hl : (py.line == pos.line) = true)
    (ha : (sc.names.any fun (n, k) => n == y && (k == .local || k == .cell)) = false) : JS G Γ (.Assign [.Name y py] (.ListComp elt [⟨tg, iter, ifs, 0⟩] sc pos) spos) (mSet i mm) := fun X W hx => by
  obtain ⟨own, wi, g, tt, te, h1, h2, h3, h4, h5, h6, h7⟩ := h X W hx
  have e1 : X.env.scope.kind = .function := by rw [hx.sc]; exact hk
  have e2 : X.env.scope.names.lookup y = some .local := by rw [hx.sc]; exact hv
  refine (ps_setLc hx.calm hx.nd (by rw [hx.N]; exact hN) e2 (sw_true e1 e2 hl ha) h1 h2 h3 h4 h5 h6).weak fun Dn σ H hl q => ?_
  exact h7 σ H _ hl (hw _ _ _ _ _ _ (set_weak (by rw [hx.N]; exact ix_lt hN) hl q))
theorem js_lcLv {y : Str} {py : Pos} {elt tg iter : Expr} {ifs : List Expr} {sc : Scope} {pos spos : Pos} {m : M (List D)} (i : Nat) (h : JLC G Γ elt tg iter ifs sc m) (hN : Γ.N[i]? = some y := by rfl) (hk : Γ.sc.kind = .function := by rfl) (hv : Γ.sc.names.lookup y = some .local := by rfl) (hl : (py.line == pos.line) = true := by rfl)
    (ha : (sc.names.any fun (n, k) => n == y && (k == .local || k == .cell)) = false := by rfl) : JS G Γ (.Assign [.Name y py] (.ListComp elt [⟨tg, iter, ifs, 0⟩] sc pos) spos) (mSet i (mLv m)) := js_lc i h (fun _ _ _ _ _ _ q => lv_weak q) hN hk hv hl ha
theorem js_lcRef {y : Str} {py : Pos} {elt tg iter : Expr} {ifs : List Expr} {sc : Scope} {pos spos : Pos} {m : M (List D)} (i : Nat) (h : JLC G Γ elt tg iter ifs sc m) (hN : Γ.N[i]? = some y := by rfl) (hk : Γ.sc.kind = .function := by rfl) (hv : Γ.sc.names.lookup y = some .local := by rfl) (hl : (py.line == pos.line) = true := by rfl)
    (ha : (sc.names.any fun (n, k) => n == y && (k == .local || k == .cell)) = false := by rfl) : JS G Γ (.Assign [.Name y py] (.ListComp elt [⟨tg, iter, ifs, 0⟩] sc pos) spos) (mSet i (mRef m)) := js_lc i h (fun _ _ _ _ _ _ q => ref_weak q) hN hk hv hl ha

/-- a cell's name set to a comprehension: nothing is exchanged -/
theorem sw_false {elt : Expr} {gs : List Comprehension} {scope : Scope} {pos py : Pos} {y : Str} {l : Nat} {env : Env} (hy : env.scope.names.lookup y = some .cell) : swapsWith (.ListComp elt gs scope pos) (some (.Name y py)) l env = pure false := by
  have ky : env.kindOf y = some .cell := hy
  unfold swapsWith
  simp only [ky, show (some NameKind.cell == some NameKind.local) = false from by decide, Bool.and_false, Bool.false_and]

/-! ### how many -/
def LenA (m : M (List D)) (n : Nat) : Prop := ∀ ρ S ds S', m ρ S = .ok ds S' → ds.length = n
theorem lenA_nil : LenA mNilA 0 := fun ρ S ds S' h => by cases h; rfl
theorem lenA_cons {a : M D} {b : M (List D)} {n : Nat} (hb : LenA b n) : LenA (mConsA a b) (n + 1) := fun ρ S ds S' h => by
  simp only [mConsA] at h
  cases ha : a ρ S with
  | bad => rw [ha] at h; cases h
  | exc c S1 => rw [ha] at h; cases h
  | ok d S1 =>
    rw [ha] at h
    simp only [Res.bind_ok] at h
    cases hb' : b ρ S1 with
    | bad => rw [hb'] at h; cases h
    | exc c S2 => rw [hb'] at h; cases h
    | ok ds2 S2 =>
      rw [hb'] at h
      cases h
      rw [List.length_cons, hb _ _ _ _ hb']
end
end MP

/-! MP, part o: the law's end. -/
namespace MP
open PySem L2
theorem kitOk_int : KitOk "int" := by unfold KitOk; decide +kernel
theorem kitOk_bool : KitOk "bool" := by unfold KitOk; decide +kernel
theorem kitOk_str : KitOk "str" := by unfold KitOk; decide +kernel
theorem kitOk_tuple : KitOk "tuple" := by unfold KitOk; decide +kernel
theorem kitOk_list : KitOk "list" := by unfold KitOk; decide +kernel
theorem kitOk_dict : KitOk "dict" := by unfold KitOk; decide +kernel
/-- what is to be shown of a law -/
def LawOk (f : Fn) : Prop := ∀ ns : List Int, ns.length ≤ 63 → ∃ S, f [.ro (ns.map D.int)] [] = .ok (.bl true) S
def spLawU (K : PySem.W.Frag) : Sp := fun vs H Q _ => ∃ (a : Addr) (ns : List Int), vs = [.ref a] ∧ SqL K H a (ns.map V.int) ∧ ns.length ≤ 63 ∧ ∀ H', Q (.bl true) H'
theorem rvs_ints {K : PySem.W.Frag} {φ Z : List Addr} {H : Hp} : ∀ ns : List Int, RVs K φ Z H (ns.map V.int) (ns.map D.int)
  | [] => .nil
  | n :: ns => .cons (.int n) (rvs_ints ns)
theorem sp_of_law {K : PySem.W.Frag} {mg : Mg} {f : Fn} (h : LawOk f) (vs : List V) (H : Hp) (Q : VK) (E : XK) (q : spLawU K vs H Q E) : spD K mg f 1 vs H Q E := by
  obtain ⟨a, ns, rfl, hS, hl, k⟩ := q
  obtain ⟨S, hf⟩ := h ns hl
  refine ⟨rfl, [], [], [], [.ro (ns.map D.int)], ⟨rfl, List.nodup_nil, fun n a o h _ => by simp at h, fun z hz => by simp at hz⟩, .cons (.ro ?_ (rvs_ints ns)) .nil, ?_⟩
  · rcases hS with hS | hS
    · exact .inl ⟨hS, by simp, by simp⟩
    · exact .inr (.inr hS)
  · rw [hf]
    intro φ' H' _ _ v rv
    rw [rv.blD]
    exact k H'
structure DefH (K : PySem.W.Frag) (x : Str) (st : Stmt) : Prop where
  ex : ∃ (f : Addr) (fd : FuncData), PySem.W.nsIn K mainGlobals x = some (some (.ref f)) ∧ Fun K x x st f fd
theorem def_h {K : PySem.W.Frag} {x : Str} {st : Stmt} {f : Addr} {oc : Value} {od an : Option Addr} {osl : Array (Option Value)} {kV doc pm cdv ct : Value} (a : PySem.W.nsIn K mainGlobals x = some (some (.ref f)))
    (l : K.lookup f = some ⟨oc, od, .func (PySem.W.fnOf x x (defArgs st) (defBody st) (defScope st) .none kV doc pm an cdv ct), osl⟩) (c : PySem.W.codeIn K cdv x = true) (k : PySem.W.keepIn K (.ref f) = true) : DefH K x st := ⟨_, _, a, fun_mk l c k⟩
/-- what the law's own def gives for the head -/
def LawAt (P : Program) (w : World) (K : PySem.W.Frag) (mg : Str → Option Value) (fa : Addr) (k : Nat) (x : Str) : Prop :=
  ∃ fd : FuncData, (∀ (s : Shared) (u : Value), BindsTo s fd ⟨[u], []⟩ [(x, u)]) ∧ ∀ base : Heap, K.In base → base.Ns mainGlobals mg → FnG P w K mg base (L2.CX P w) k fa fd [x] (spLawU K)
theorem walk {l : PySem.W.OpenLaw} {k : Nat} {q : Program} {loose : List Str} {XP : (Str → Option Value) → Heap → Prop} {YP : World → Heap → Prop} {d : DefRec} {K : Params → PySem.W.Frag} {x : Str} (hn : l.most = some 63) (hdf : d.params.defaults = []) (hr : Room k callerA)
    (hY : ∀ (w : World) (h : Heap), YP w h → (K w.params).In h)
    (F : ∀ (w : World) (mg : Str → Option Value) (fa : Addr) (h : Heap), (K w.params).In h → h.Ns mainGlobals mg → mg d.name = some (.ref fa) → LawAt l.prog w (K w.params) mg fa k x) :
    PySem.W.WalkO q loose XP YP l.row.toRowW d [] (fun f vs => PySem.call f vs) :=
  walk_ofG (n := 63) (k := k) (x := x) (CX := fun w => L2.CX l.prog w) (sp := fun w => spLawU (K w.params)) hn (by decide) hdf hr hY F (fun _ _ a ns hl _ hS => ⟨a, ns, rfl, hS, hl, fun _ => rfl⟩) fun _ _ _ _ _ ⟨_, _, _, _, _, _, _, _, _, _, _, _, h⟩ => h
end MP

/-! MP, part p: own classes: fields, methods, new instances. -/
namespace MP
open PySem L2
section
variable {K : PySem.W.Frag} {mg : Mg} {φ Z : List Addr} {H : Hp} {S : Sto}
theorem RFs.look {f : Str} : ∀ {vs : List (Str × V)} {fs : List (Str × D)}, RFs K φ Z H vs fs → (fs.lookup f = none → vs.lookup f = none) ∧ ∀ d, fs.lookup f = some d → ∃ v, vs.lookup f = some v ∧ RV K φ Z H v d
  | _, _, .nil => ⟨fun _ => rfl, fun d (h : (none : Option D) = some d) => (nomatch h)⟩
  | _, _, .cons (x := x) r t => by
    have ih := RFs.look (f := f) t
    simp only [List.lookup]
    cases hb : f == x with
    | true => exact ⟨(fun h => by cases h), (fun d h => by cases h; exact ⟨_, rfl, r⟩)⟩
    | false => exact ih
theorem RFs.len {vs : List (Str × V)} {fs : List (Str × D)} (h : RFs K φ Z H vs fs) : vs.length = fs.length := by
  induction h with
  | nil => rfl
  | cons _ _ ih => rw [List.length_cons, List.length_cons, ih]
def putFs (f : Str) (y : D) : List (Str × D) → List (Str × D)
  | [] => [(f, y)]
  | (g, x) :: r => if g = f then (g, y) :: r else (g, x) :: putFs f y r
theorem RFs.put {f : Str} {v : V} {y : D} (rv : RV K φ Z H v y) : ∀ {vs : List (Str × V)} {fs : List (Str × D)}, RFs K φ Z H vs fs → RFs K φ Z H (putF f v vs) (putFs f y fs)
  | _, _, .nil => .cons rv .nil
  | _, _, .cons (x := x) r t => by
    simp only [putF, putFs]
    split
    · exact .cons rv t
    · exact .cons r (RFs.put rv t)
end
/-- an own class, some names that it has not -/
structure HasC (G : Gs) (c : Str) (fl : List Str) : Prop where
  ex : ∃ C : Addr, G.mg c = some (.ref C) ∧ Cls G.K C ∧ ∀ f ∈ fl, NoAttr G.K C f
/-- a method -/
structure HasM (G : Gs) (k : Nat) (c name : Str) (n : Nat) (f : MP.Fn) : Prop where
  ex : ∃ (C a : Addr) (fd : FuncData) (ps : List Str), G.mg c = some (.ref C) ∧ Cls G.K C ∧ Meth G.K C name a ∧ Binds G.K fd ps [] ∧ FnG G.P G.w G.K G.mg G.base (L2.CX G.P G.w) k a fd ps (spD G.K G.mw f n)
/-- a class that can be made -/
structure HasI (G : Gs) (k : Nat) (c : Str) (n : Nat) (f : MP.Fn) : Prop where
  ex : ∃ (C a : Addr) (fd : FuncData) (ps : List Str), G.mg c = some (.ref C) ∧ Mk G.K C a ∧ Binds G.K fd ps [] ∧ FnG G.P G.w G.K G.mg G.base (L2.CX G.P G.w) k a fd ps (spD G.K G.mw f n)
theorem HasM.mono {G : Gs} {j k : Nat} {c name : Str} {n : Nat} {f : MP.Fn} (h : HasM G j c name n f) (hk : j ≤ k) : HasM G k c name n f := by
  obtain ⟨C, a, fd, ps, h1, h2, h3, h4, h5⟩ := h
  exact ⟨C, a, fd, ps, h1, h2, h3, h4, h5.mono hk⟩
theorem HasI.mono {G : Gs} {j k : Nat} {c : Str} {n : Nat} {f : MP.Fn} (h : HasI G j c n f) (hk : j ≤ k) : HasI G k c n f := by
  obtain ⟨C, a, fd, ps, h1, h2, h3, h4⟩ := h
  exact ⟨C, a, fd, ps, h1, h2, h3, h4.mono hk⟩
theorem HasM.trunc {G : Gs} {k n : Nat} {c name : Str} {f : MP.Fn} (h : HasM G k c name n f) : HasM G k c name n (MP.trunc f) := by
  obtain ⟨C, a, fd, ps, h1, h2, h3, h4, h5⟩ := h
  refine ⟨C, a, fd, ps, h1, h2, h3, h4, h5.imp fun vs H Q E ⟨hl, φ, Z, S, ds, r, rvs, q⟩ => ⟨hl, φ, Z, S, ds, r, rvs, ?_⟩⟩
  unfold MP.trunc at q
  cases hf : f ds S with
  | bad => rw [hf] at q; exact q
  | exc c S' =>
    rw [hf] at q
    simp only at q
    split at q
    · rename_i g
      intro φ' H' e r'
      obtain ⟨t1, t2, _⟩ := r.trunc e r' g
      exact q φ H' t2 t1
    · exact q.elim
  | ok d S' =>
    rw [hf] at q
    simp only at q
    split at q
    · rename_i g
      intro φ' H' e r' v rv
      obtain ⟨t1, t2, t3⟩ := r.trunc e r' g.1
      have := frz_rv r' S.length 8 v d rv g.2
      rw [t3] at this
      exact q φ H' t2 t1 v this
    · exact q.elim
/-- the fields of what stands there -/
def insOf (c : Str) (d : D) (S : Sto) : Option (List (Str × D)) := match d with
  | .ref n => match S[n]? with
    | some (.ins c' fs) => if c' = c then some fs else none
    | _ => none
  | _ => none
theorem insOf_some {c : Str} {d : D} {S : Sto} {fs : List (Str × D)} (h : insOf c d S = some fs) : ∃ n, d = .ref n ∧ S[n]? = some (.ins c fs) := by
  unfold insOf at h
  split at h
  · split at h
    · rename_i n c' fs' e
      split at h
      · rename_i hc
        cases h
        subst hc
        exact ⟨_, rfl, e⟩
      · cases h
    · cases h
  · cases h
def fldOf (c f : Str) (d : D) (S : Sto) : Option D := (insOf c d S).bind fun fs => fs.lookup f
def mFld (c f : Str) (e : M D) : M D := fun ρ S => (e ρ S).bind fun d S1 => optR (fldOf c f d S1) S1
section
variable {G : Gs} {Γ : Ctx}
theorem je_fld {c f : Str} {fl : List Str} {o : Expr} {pos : Pos} {m : M D} (hc : HasC G c fl) (hf : f ∈ fl) (he : JE G Γ o m) (hb : ∀ env, attributeBase o f env (eval o env) = eval o env := by intro _; rfl) : JE G Γ (.Attribute o f pos) (mFld c f m) := fun X W hx => by
  have p := he X W hx
  obtain ⟨C, h1, h2, h3⟩ := hc
  obtain ⟨rfl⟩ := hx
  refine (pe_fld p (hb _)).weak fun σ H Q hl ⟨φ, Z, ρ, S, r, rf, q⟩ => ?_
  refine tG.seq r rf q fun φ1 H1 d S1 e1 r1 rf1 q1 v rv => ?_
  cases hd : fldOf c f d S1 with
  | none => rw [hd] at q1; exact q1.elim
  | some y =>
    rw [hd] at q1
    unfold fldOf at hd
    obtain ⟨fs, hi, hl2⟩ := Option.bind_eq_some_iff.mp hd
    obtain ⟨n, rfl, hS⟩ := insOf_some hi
    obtain ⟨a, rfl, ha, rO⟩ := r1.getV rv hS
    cases rO with
    | ins g1 g2 g3 =>
      cases h1.symm.trans g1
      obtain ⟨u, hu, ru⟩ := g3.look.2 _ hl2
      exact ⟨a, C, _, _, u, rfl, g2, h2, h3 f hf, hu, q1.at r1 u ru⟩
def mSetF (c f : Str) (o v : M D) : M Fl := fun ρ S => (v ρ S).bind fun y S1 => (o ρ S1).bind fun x S2 => match x with
  | .ref n => match insOf c x S2 with
    | some fs => if fs.length < 1000 then .ok (.nx ρ) (S2.set n (.ins c (putFs f y fs))) else .bad
    | none => .bad
  | _ => .bad
theorem js_setF {c f : Str} {fl : List Str} {o v : Expr} {pos pos' : Pos} {mo mv : M D} (hc : HasC G c fl) (hf : f ∈ fl) (ho : JE G Γ o mo) (hv : JE G Γ v mv) (hs : ∀ env : Env, env.scope = Γ.sc → swapsWith v (some (.Attribute o f pos')) pos.line env = pure false := by intro _ _; rfl) : JS G Γ (.Assign [.Attribute o f pos'] v pos) (mSetF c f mo mv) := fun X W hx => by
  have p := ho X W hx
  have pv := hv X W hx
  have hsc := hx.sc
  obtain ⟨C, h1, h2, h3⟩ := hc
  obtain ⟨rfl⟩ := hx
  refine (ps_fld p pv (hs _ hsc)).weak fun Dn σ H hl ⟨φ, Z, ρ, S, r, rf, q⟩ => ?_
  refine tG.seq r rf q fun φ1 H1 y S1 e1 r1 rf1 q1 v rv => ?_
  refine tG.seq r1 rf1 q1 fun φ2 H2 x S2 e2 r2 rf2 q2 vx rx => ?_
  cases x with
  | ref n =>
    cases hi : insOf c (.ref n) S2 with
    | none => simp only [hi] at q2; exact q2.elim
    | some fs =>
      simp only [hi] at q2
      split at q2
      · rename_i hlen
        obtain ⟨n', hn', hS⟩ := insOf_some hi
        cases hn'
        obtain ⟨a, rfl, ha, rO⟩ := r2.getV rx hS
        cases rO with
        | @ins _ C' dx vs _ g1 g2 g3 =>
          cases h1.symm.trans g1
          have hl2 := g3.len
          refine ⟨a, C, dx, vs, rfl, g2, h2, h3 f hf, by omega, ?_⟩
          have ex : Ex φ2 H2 φ2 (upd H2 a (.ins C dx (putF f v vs))) := Ex.at (List.mem_of_getElem? ha)
          refine q2 φ2 _ ex (r2.setO ha (.ins g1 upd_same ?_)) σ ?_
          · exact (RFs.put (rv.mono r1.nt e2) g3).imp fun v d q => q.mono r2.nt ex
          · exact rf2.mono r2.nt ex
      · exact q2.elim
  | _ => exact q2.elim
def mMeth (c : Str) (name : Str) (f : MP.Fn) (o : M D) (a : M (List D)) : M D := fun ρ S => (o ρ S).bind fun x S1 => match insOf c x S1 with
  | some fs => if fs.lookup name = none then (a ρ S1).bind fun ds S2 => f (x :: ds) S2 else .bad
  | none => .bad
theorem je_meth {c name : Str} {f : MP.Fn} {o e : Expr} {es : List Expr} {apos pos : Pos} {mo : M D} {ma : M (List D)} {n : Nat} (h : HasM G Γ.k c name (n + 1) f) (ho : JE G Γ o mo) (ha : JA G Γ (e :: es) ma) (hl : ∀ ρ S ds S', ma ρ S = .ok ds S' → ds.length = n) {pl : Env → Sem Bool}
    (hst : ∀ env, starEach (e :: es) env = (false, eval e env) :: starEach es env := by intro _; rfl) (hpl : ∀ env, (backTo pos (starEach es env)).any (·.1) = false := by intro _; rfl)
    (ht : ∀ env, eval (.Call (.Attribute o name apos) (e :: es) [] pos) env = (do
      let ov ← eval o env
      standAt apos.atName
      let (f, first) ← holding [ov] (getMethod ov name (pl env))
      callWith pos f first (backTo pos (starEach (e :: es) env)) (backToKw pos (keywordEach [] env))) := by intro _; rfl) : JE G Γ (.Call (.Attribute o name apos) (e :: es) [] pos) (mMeth c name f mo ma) := fun X W hx => by
  have p1 := ho X W hx
  have p2 := ha X W hx
  have hr := hx.room
  have gu := hx.gd
  have tk := hx.tk
  obtain ⟨C, a, fd, ps, h1, h2, h3, h4, h5⟩ := h
  obtain ⟨rfl⟩ := hx
  refine (pg_meth (E := fun c d H' => W c d H') p1 h2 h3 h5 gu hr h4 .nil (passes_call tk fun c d σ H' q => q) p2 (hst _) (hpl _) (ht _)).weak fun σ H Q hl' ⟨φ, Z, ρ, S, r, rf, q⟩ => ?_
  refine tG.seq r rf q fun φ1 H1 x S1 e1 r1 rf1 q1 v rv => ?_
  cases hi : insOf c x S1 with
  | none => simp only [hi] at q1; exact q1.elim
  | some fs =>
    simp only [hi] at q1
    split at q1
    · rename_i hno
      obtain ⟨n', rfl, hS⟩ := insOf_some hi
      obtain ⟨b, rfl, hb, rO⟩ := r1.getV rv hS
      cases rO with
      | ins g1 g2 g3 =>
        cases h1.symm.trans g1
        refine ⟨b, _, _, rfl, g2, g3.look.1 hno, φ1, Z, ρ, S1, r1, rf1, ?_⟩
        cases hm : ma ρ S1 with
        | bad => rw [hm] at q1; exact q1
        | exc c S2 => rw [hm] at q1; exact q1
        | ok ds S2 =>
          rw [hm] at q1
          intro φ2 H2 e2 r2 vs rvs
          refine ⟨by rw [List.append_nil, List.length_cons, rvs.length, hl _ _ _ _ hm], φ2, Z, S2, _ :: ds, r2, by rw [List.append_nil]; exact .cons (rv.mono r1.nt e2) rvs, EndG.from e2 q1⟩
    · exact q1.elim
def mkEnd (n : Nat) (d : D) (S : Sto) : Res D := match d with
  | .non => .ok (.ref n) S
  | _ => .bad
def mMake (c : Str) (f : MP.Fn) (a : M (List D)) : M D := fun ρ S => (a ρ S).bind fun ds S1 => (f (.ref S1.length :: ds) (S1 ++ [.ins c []])).bind (mkEnd S1.length)
theorem je_make {c : Str} {f : MP.Fn} {e : Expr} {es : List Expr} {p pos : Pos} {ma : M (List D)} {n k : Nat} (h : HasI G k c (n + 1) f) (hk : k + 1 ≤ Γ.k) (ha : JA G Γ (e :: es) ma) (hl : ∀ ρ S ds S', ma ρ S = .ok ds S' → ds.length = n) (hg : Γ.sc.names.lookup c = some .globalImplicit := by rfl)
    (hdb : (c == ("__debug__" : Str)) = false := by decide) (he : ∀ env, starEach (e :: es) env = (false, eval e env) :: starEach es env := by intro _; rfl) (hpl : ∀ env, (backTo pos (starEach es env)).any (·.1) = false := by intro _; rfl) : JE G Γ (.Call (.Name c p) (e :: es) [] pos) (mMake c f ma) := fun X W hx => by
  have p2 := ha X W hx
  have g := glOf hx hg
  have hr := hx.room
  have gu := hx.gd
  have tk := hx.tk
  obtain ⟨C, a, fd, ps, h1, h2, h3, h4⟩ := h
  obtain ⟨rfl⟩ := hx
  refine (pg_make (E := fun c d H' => W c d H') h2 h4 gu (hr.mono hk) g h1 h3 .nil (passes_call tk fun c d σ H' q => q) p2 hdb (he _) (hpl _)).weak fun σ H Q hl' ⟨φ, Z, ρ, S, r, rf, q⟩ => ?_
  have q : EndG X.K X.mw W φ Z H _ ((ma ρ S).bind fun ds S1 => (f (D.ref S1.length :: ds) (S1 ++ [.ins c []])).bind (mkEnd S1.length)) := q
  refine ⟨φ, Z, ρ, S, r, rf, ?_⟩
  cases hm : ma ρ S with
  | bad => rw [hm] at q; exact q
  | exc c S1 => rw [hm] at q; exact q
  | ok ds S1 =>
    rw [hm] at q
    intro φ1 H1 e1 r1 vs rvs x dx nx ndx nex
    have r2 : RepS X.K X.mw φ1 Z S1 (upd H1 dx (.own x)) := r1.lay ndx
    have nx2 : (upd H1 dx (.own x)) x = none := by rw [upd_ne (fun e => nex e.symm)]; exact nx
    have ex2 : Ex φ1 H1 φ1 (upd H1 dx (.own x)) := Ex.of_same ndx
    have nz : x ∉ Z := fun hz => (r2.zs x hz).2 nx2
    have rz := r2.addZ (o := .ins C dx []) nx2
    have r3 : RepS X.K X.mw (φ1 ++ [x]) Z (S1 ++ [.ins c []]) (upd (upd H1 dx (.own x)) x (.ins C dx [])) := RepS.toφO nz rz (.ins h1 upd_same .nil)
    have ex3 : Ex φ1 H1 (φ1 ++ [x]) (upd (upd H1 dx (.own x)) x (.ins C dx [])) := ex2.trans (Ex.push nx2)
    have hx : (φ1 ++ [x])[S1.length]? = some x := by
      rw [← r1.len, List.getElem?_append_right (Nat.le_refl _), Nat.sub_self]
      rfl
    refine ⟨by rw [List.append_nil, List.length_cons, rvs.length, hl _ _ _ _ hm], φ1 ++ [x], Z, S1 ++ [.ins c []], .ref S1.length :: ds, r3, by rw [List.append_nil]; exact .cons (.ref hx) (rvs.mono r1.nt ex3), ?_⟩
    have q1 : EndG X.K X.mw W φ Z H _ ((f (D.ref S1.length :: ds) (S1 ++ [.ins c []])).bind (mkEnd S1.length)) := q
    refine (EndG.bind (EndG.from (e1.trans ex3) q1)).imp fun φ2 H2 d S2 e2 r2 q2 v rv => ?_
    cases d with
    | non =>
      cases rv
      exact ⟨rfl, q2.at r2 _ (.ref (e2.get hx))⟩
    | _ => exact q2.elim
end
/-! ### a method's body -/
theorem has_meth {G : Gs} {c name qual : Str} {st : Stmt} {C a : Addr} {fd : FuncData} {N ps : List Str} {k : Nat} {m : M Fl} (F : Fun G.K name qual st a fd) (hc : G.mg c = some (.ref C)) (cl : Cls G.K C) (me : Meth G.K C name a) (hb : Binds G.K fd ps []) (Sc : FnScope N ps (defScope st)) (hm : JSs G ⟨N, defScope st, k, fun _ => true⟩ (defBody st) m) : HasM G (k + 1) c name ps.length (mkFn N.length m) :=
  ⟨C, a, fd, ps, hc, cl, me, hb, fnok_def F Sc hm⟩
theorem has_init {G : Gs} {c qual : Str} {st : Stmt} {C a : Addr} {fd : FuncData} {N ps : List Str} {k : Nat} {m : M Fl} (F : Fun G.K "__init__" qual st a fd) (hc : G.mg c = some (.ref C)) (mk : Mk G.K C a) (hb : Binds G.K fd ps []) (Sc : FnScope N ps (defScope st)) (hm : JSs G ⟨N, defScope st, k, fun _ => true⟩ (defBody st) m) : HasI G (k + 1) c ps.length (mkFn N.length m) :=
  ⟨C, a, fd, ps, hc, mk, hb, fnok_def F Sc hm⟩
/-! ### the facts of a class -/
def NoAttrs (K : PySem.W.Frag) (C : Addr) : List Str → Prop
  | [] => True
  | f :: fl => NoAttr K C f ∧ NoAttrs K C fl
theorem NoAttrs.all {K : PySem.W.Frag} {C : Addr} : ∀ {fl : List Str}, NoAttrs K C fl → ∀ f ∈ fl, NoAttr K C f
  | [], _, f, h => by cases h
  | g :: fl, h, f, hf => by
    rcases List.mem_cons.mp hf with rfl | hf
    · exact h.1
    · exact NoAttrs.all h.2 f hf
structure ClsH (K : PySem.W.Frag) (c : Str) (fl : List Str) : Prop where
  ex : ∃ C : Addr, PySem.W.nsIn K mainGlobals c = some (some (.ref C)) ∧ Cls K C ∧ NoAttrs K C fl
theorem cls_h {K : PySem.W.Frag} {c : Str} {fl : List Str} {C : Addr} (a : PySem.W.nsIn K mainGlobals c = some (some (.ref C))) (pg : PySem.W.plainGet K C Str.empty = true) (hd : PySem.W.hasDictIn K C = true) (po : PySem.W.plainOver K C = true) (sa : PySem.W.findIn K (.ref C) "__setattr__" = some (some (.builtin "object.__setattr__"))) (na : NoAttrs K C fl) : ClsH K c fl := ⟨C, a, ⟨pg, hd, po, sa⟩, na⟩
structure MethH (K : PySem.W.Frag) (c x qual : Str) (st : Stmt) : Prop where
  ex : ∃ (C f : Addr) (fd : FuncData), PySem.W.nsIn K mainGlobals c = some (some (.ref C)) ∧ Meth K C x f ∧ Fun K x qual st f fd
theorem meth_h {K : PySem.W.Frag} {c x qual : Str} {st : Stmt} {C f : Addr} {oc : Value} {od an : Option Addr} {osl : Array (Option Value)} {kV doc pm cdv ct : Value} (n : PySem.W.nsIn K mainGlobals c = some (some (.ref C))) (a : PySem.W.findIn K (.ref C) x = some (some (.ref f))) (i : PySem.W.isFn K (.ref f) = true)
    (l : K.lookup f = some ⟨oc, od, .func (PySem.W.fnOf x qual (defArgs st) (defBody st) (defScope st) .none kV doc pm an cdv ct), osl⟩) (co : PySem.W.codeIn K cdv qual = true) (k : PySem.W.keepIn K (.ref f) = true) : MethH K c x qual st := ⟨C, f, _, n, ⟨a, i, k⟩, fun_mk l co k⟩
structure InitH (K : PySem.W.Frag) (c qual : Str) (st : Stmt) : Prop where
  ex : ∃ (C f : Addr) (fd : FuncData), PySem.W.nsIn K mainGlobals c = some (some (.ref C)) ∧ Mk K C f ∧ Fun K "__init__" qual st f fd
theorem init_h {K : PySem.W.Frag} {c qual : Str} {st : Stmt} {C f : Addr} {oc : Value} {od an : Option Addr} {osl : Array (Option Value)} {kV doc pm cdv ct : Value} (n : PySem.W.nsIn K mainGlobals c = some (some (.ref C))) (m : PySem.W.makesIn K C = true) (kc : PySem.W.keepIn K (.ref C) = true) (a : PySem.W.findIn K (.ref C) "__init__" = some (some (.ref f))) (i : PySem.W.isFn K (.ref f) = true)
    (l : K.lookup f = some ⟨oc, od, .func (PySem.W.fnOf "__init__" qual (defArgs st) (defBody st) (defScope st) .none kV doc pm an cdv ct), osl⟩) (co : PySem.W.codeIn K cdv qual = true) (k : PySem.W.keepIn K (.ref f) = true) : InitH K c qual st := ⟨C, f, _, n, ⟨m, a, i, kc⟩, fun_mk l co k⟩
theorem hasC_of {G : Gs} {c : Str} {fl : List Str} {C : Addr} (a : G.mg c = some (.ref C)) (cl : Cls G.K C) (na : NoAttrs G.K C fl) : HasC G c fl := ⟨C, a, cl, na.all⟩
end MP

/-! MP, part q: max of a list, a list so often, how often a thing stands, values shown, texts compared, a list made longer by a tuple. -/
namespace MP
open PySem L2
/-! ### max of a list of numbers -/
def numsD : List D → Option (List Int)
  | [] => some []
  | .int i :: l => (numsD l).map (i :: ·)
  | _ => none
theorem numsD_rep {K : PySem.W.Frag} {φ Z : List Addr} {H : Hp} : ∀ {vs : List V} {l : List D} {ns : List Int}, RVs K φ Z H vs l → numsD l = some ns → vs = ns.map V.int
  | _, _, _, .nil, h => by cases h; rfl
  | _, _, _, .cons r q, h => by
    cases r with
    | int i =>
      simp only [numsD] at h
      obtain ⟨ns, h1, rfl⟩ := Option.map_eq_some_iff.mp h
      rw [numsD_rep q h1]
      rfl
    | _ => cases h
def mostI : List Int → Option Int
  | [] => none
  | i :: l => match mostI l with
    | none => some i
    | some m => some (if i > m then i else m)
theorem mostI_some : ∀ {ns : List Int} {m : Int}, mostI ns = some m → m ∈ ns ∧ ∀ y ∈ ns, y ≤ m
  | [], m, h => by cases h
  | i :: l, m, h => by
    simp only [mostI] at h
    cases e : mostI l with
    | none =>
      rw [e] at h
      cases h
      have : l = [] := by
        cases l with
        | nil => rfl
        | cons x l =>
          simp only [mostI] at e
          split at e <;> cases e
      subst this
      simp
    | some k =>
      rw [e] at h
      obtain ⟨h1, h2⟩ := mostI_some e
      simp only [Option.some.injEq] at h
      subst h
      split
      · rename_i hk
        refine ⟨List.mem_cons_self, fun y hy => ?_⟩
        rcases List.mem_cons.mp hy with rfl | hy
        · exact Int.le_refl _
        · have := h2 y hy
          omega
      · rename_i hk
        refine ⟨List.mem_cons_of_mem _ h1, fun y hy => ?_⟩
        rcases List.mem_cons.mp hy with rfl | hy
        · omega
        · exact h2 y hy
section
variable {G : Gs} {Γ : Ctx}
def fMaxL : OpN := fun ds S => match ds with
  | [d] => ((lstD S d).bind numsD).bind fun ns => (mostI ns).map .int
  | _ => none
theorem jb_maxL : JB G Γ (.builtin "max") fMaxL := fun X W hx => by
  have hc := hx.calm
  obtain ⟨rfl⟩ := hx
  rintro pins s σ H vs us Q I rv ⟨φ, Z, S, ds, d, r, r1, hd, k⟩
  unfold fMaxL at hd
  split at hd
  · obtain ⟨ns, hb, hm0⟩ := Option.bind_eq_some_iff.mp hd
    obtain ⟨m, hm, rfl⟩ := Option.map_eq_some_iff.mp hm0
    obtain ⟨l, hl, hb⟩ := Option.bind_eq_some_iff.mp hb
    obtain ⟨v, rfl, rs⟩ := r1.oneD
    obtain ⟨a, xs, rfl, h1, h2⟩ := rs.lst r hl
    have e := numsD_rep h2 hb
    subst e
    obtain ⟨g1, g2⟩ := mostI_some hm
    refine cr_max hc pins s σ H _ us Q I rv ⟨a, ns, rfl, h1, List.length_pos_of_mem g1, fun m2 q1 q2 => ?_⟩
    have : m2 = m := by
      have := g2 m2 q1
      have := q2 m g1
      omega
    subst this
    exact rP_back r (.int _) k
  · cases hd

/-! ### operations that give a new list -/
def rPN (K : PySem.W.Frag) (mg : Mg) (f : D → D → Sto → Option (List D)) : R2 := fun x y H Q => ∃ φ Z S dx dy l, RepS K mg φ Z S H ∧ RV K φ Z H x dx ∧ RV K φ Z H y dy ∧ f dx dy S = some l ∧ ∀ φ' H', Ex φ H φ' H' → RepS K mg φ' Z S H' → NewQ K mg H Z Q φ' H' l S
def mOpN (f : D → D → Sto → Option (List D)) (ma mb : M D) : M (List D) := fun ρ S => (ma ρ S).bind fun x S1 => (mb ρ S1).bind fun y S2 => optR (f x y S2) S2
theorem jn_op {op : Operator} {a b : Expr} {pos : Pos} {ma mb : M D} {f : D → D → Sto → Option (List D)} (hf : ∀ X W, XW G Γ X W → OpR X (binaryOp op) (rPN G.K G.mw f)) (ha : JE G Γ a ma) (hb : JE G Γ b mb) : JN G Γ (.BinOp a op b pos) (mOpN f ma mb) := fun X W hx => by
  have p := hf X W hx
  have p1 := ha X W hx
  have p2 := hb X W hx
  obtain ⟨rfl⟩ := hx
  refine (pe_op p p1 p2).weak fun σ H Q hl ⟨φ, Z, ρ, S, r, rf, q⟩ => ?_
  refine tG.seq r rf q fun φ1 H1 x S1 e1 r1 rf1 q1 v rv => tG.seq r1 rf1 q1 fun φ2 H2 y S2 e2 r2 rf2 q2 u ru => ?_
  cases hd : f x y S2 with
  | none => rw [hd] at q2; exact q2.elim
  | some l =>
    rw [hd] at q2
    exact ⟨φ2, Z, S2, x, y, l, r2, rv.mono r1.nt e2, ru, hd, fun φ' H' e' r' a xs ha hH rz rvs' => q2 φ' H' e' r' a xs (r1.back e1 (r2.back e2 ha)) hH rz rvs'⟩
noncomputable def fRepL (x y : D) (S : Sto) : Option (List D) := match x, y with
  | .lv l, .int k => if RepOk k l.length then some (List.replicate k.toNat l).flatten else none
  | _, _ => none
theorem jo_repL (X : Cx) (W : XK) (hx : XW G Γ X W) : OpR X (binaryOp .Mult) (rPN G.K G.mw fRepL) := by
  obtain ⟨rfl⟩ := hx
  rintro pins s σ H x y v u Q I rx ry ⟨φ, Z, S, dx, dy, l, r, r1, r2, hd, k⟩
  unfold fRepL at hd
  split at hd
  · rename_i xs j
    split at hd
    · rename_i hz
      cases hd
      obtain ⟨z1, z2, z3⟩ := hz
      cases r1 with
      | @lv a ys _ h1 h2 h3 h4 =>
        have hl := h4.length
        have e2 := r2.intD
        subst e2
        have sz : ys.length * j.toNat ≤ sizeLine := by
          have : ys.length * j.toNat ≤ 1000 * 1000 := Nat.mul_le_mul (by omega) (by omega)
          exact Nat.le_trans this (by decide)
        refine op_rep pins s σ H _ _ v u Q I rx ry ⟨a, j, ys, rfl, rfl, h1, Int.le_trans (by decide) z1, Int.lt_of_le_of_lt z2 (by decide), sz, fun p hp => ?_⟩
        obtain ⟨g1, g2, g3, g4⟩ := newL_give r hp (h4.rep j.toNat)
        exact k φ _ g1 g2 p _ hp upd_same g3 g4
    · cases hd
  · cases hd

/-! ### t.count(x) -/
def isTupD : TyC := fun d _ => match d with
  | .tup _ => true
  | _ => false
theorem je_mtT {id : String} {name : Str} {o e : Expr} {es : List Expr} {apos cpos : Pos} {mo : M D} {ma : M (List D)} {f : OpM} (pa : PlainAttrs "tuple") (slot : Slot "tuple" name id) (hty : typeOf (.builtin id) = pure (.type "method_descriptor")) (hm : JMt G Γ id f) (ho : JE G Γ o mo) (ha : JA G Γ (e :: es) ma)
    (hbase : ∀ env, attributeBase o name env (eval o env) = eval o env := by intro _; rfl)
    (hfew : ∀ env, ((backTo cpos (starEach (e :: es) env)).all (fun x => !x.1) && (backToKw cpos (keywordEach [] env)).all (fun x => x.1.isSome)
      && decide ((e :: es).length + ([] : List Keyword).length + (if ([] : List Keyword).isEmpty then 0 else 1) < 30)) = true := by intro _; rfl)
    (hline : (apos.endLine == cpos.line) = true := by rfl) (hs : ∀ env, starEach (e :: es) env = (false, eval e env) :: starEach es env := by intro _; rfl) (hplain : ∀ env, (backTo cpos (starEach es env)).any (·.1) = false := by intro _; rfl) :
    JE G Γ (.Call (.Attribute o name apos) (e :: es) [] cpos) (mMt isTupD f mo ma) := fun X W hx => by
  have p := hm X W hx
  have p1 := ho X W hx
  have p2 := ha X W hx
  obtain ⟨rfl⟩ := hx
  refine (pe_bmE (ty := fun v H => ∃ a xs, v = .ref a ∧ TupE H a xs) pa slot hty (fun pins σ H s x v I rx ⟨a, xs, ex, sq⟩ => ?_) p p1 p2 (hbase _) (hfew _) hline (hs _) (hplain _)).weak fun σ H Q hl ⟨φ, Z, ρ, S, r, rf, q⟩ => ?_
  · subst ex
    cases rx
    obtain ⟨its, rv, ⟨ob, h1, h2, n, h3⟩, _⟩ := I.tuple (sq.sq (K := X.K))
    refine ⟨⟨ob, h1, h2⟩, fun b e => ?_⟩
    cases e
    obtain ⟨o, g1, g2⟩ := sq
    exact ⟨o, (I.hok _ _ g1).1, g2⟩
  · refine tG.seq r rf q fun φ1 H1 dx S1 e1 r1 rf1 q1 x rx => ?_
    cases dx with
    | tup l =>
      cases rx with
      | @tup a xs _ t1 t2 =>
        refine ⟨⟨a, xs, rfl, t1⟩, tG.seq r1 rf1 q1 fun φ2 H2 ds S2 e2 r2 rf2 q2 vs rvs => ?_⟩
        cases hd : f (.tup l) ds S2 with
        | none => rw [hd] at q2; exact q2.elim
        | some p =>
          rw [hd] at q2
          exact ⟨φ2, Z, S2, .tup l, ds, p.1, p.2, r2, (RV.tup t1 t2).mono r1.nt e2, rvs, hd, fun φ' v H' e' r' rv => q2 φ' H' e' r' v rv⟩
    | _ => exact q1.elim
def fCnt : OpM := fun x ds S => match ds with
  | [y] => match pd S 8 x, pd S 8 y with
    | some (.tuple xs), some q => some (.int ((xs.countP fun z => PyData.eqv z q : Nat) : Int), S)
    | _, _ => none
  | _ => none
theorem pd_plain {K : PySem.W.Frag} {mg : Mg} {φ Z : List Addr} {H : Hp} {S : Sto} (r : RepS K mg φ Z S H) {n : Nat} {v : V} {d : D} {p : PyData} (rv : RV K φ Z H v d) (h : pd S n d = some p) : p.plain = true := PyData.plain_of_canLay0 p (pd_dp r n v d p rv h).2
theorem jm_tcount : JMt G Γ "tuple.count" fCnt := fun X W hx => by
  have hu := hx.un
  obtain ⟨rfl⟩ := hx
  rintro pins s σ H x vs v us Q I rx rvs ⟨φ, Z, S, dx, ds, d, S', r, r1, r2, hd, k⟩
  unfold fCnt at hd
  split at hd
  · rename_i y
    obtain ⟨w, rfl, ry⟩ := r2.oneD
    obtain ⟨uw, rfl, ruw⟩ := Vals.one rvs
    split at hd
    · rename_i xs q e1 e2
      cases hd
      have p1 := pd_dp r 8 _ _ _ r1 e1
      have p2 := pd_dp r 8 _ _ _ ry e2
      have n1 := pd_depth 8 _ _ e1
      have n2 := pd_plain r r1 e1
      have n3 := pd_plain r ry e2
      simp only [PyData.depth] at n1
      simp only [PyData.plain] at n2
      obtain ⟨bs, g2⟩ := Dp.reads I _ _ _ p2.1 ruw
      cases p1.1 with
      | tup sq da =>
        cases rx
        obtain ⟨its, rv, ht, _⟩ := I.tuple sq
        obtain ⟨as, g1⟩ := Dp.readsAll I _ _ _ da rv
        refine SeqAt.count_tuple_data (vs := its.toArray) ht (by simpa using g1) g2 n2 n3 (by omega) ?_
        exact ⟨.int _, H, I.tok _, ⟨_, rfl⟩, rP_back r (.int _) k⟩
    · cases hd
  · cases hd
def fCntL : OpM := fun x ds S => match ds with
  | [y] => match pd S 8 x, pd S 8 y with
    | some (.list xs), some q => some (.int ((xs.countP fun z => PyData.eqv z q : Nat) : Int), S)
    | _, _ => none
  | _ => none
theorem jm_lcount : JMt G Γ "list.count" fCntL := fun X W hx => by
  have hu := hx.un
  obtain ⟨rfl⟩ := hx
  rintro pins s σ H x vs v us Q I rx rvs ⟨φ, Z, S, dx, ds, d, S', r, r1, r2, hd, k⟩
  unfold fCntL at hd
  split at hd
  · rename_i y
    obtain ⟨w, rfl, ry⟩ := r2.oneD
    obtain ⟨uw, rfl, ruw⟩ := Vals.one rvs
    split at hd
    · rename_i xs q e1 e2
      cases hd
      have p1 := pd_dp r 8 _ _ _ r1 e1
      have p2 := pd_dp r 8 _ _ _ ry e2
      have n1 := pd_depth 8 _ _ e1
      have n2 := pd_plain r r1 e1
      have n3 := pd_plain r ry e2
      simp only [PyData.depth] at n1
      simp only [PyData.plain] at n2
      obtain ⟨bs, g2⟩ := Dp.reads I _ _ _ p2.1 ruw
      cases p1.1 with
      | lst sq da =>
        cases rx
        obtain ⟨its, rv, ht, _⟩ := I.list sq
        obtain ⟨as, g1⟩ := Dp.readsAll I _ _ _ da rv
        refine SeqAt.count_list_data (vs := its.toArray) ht.isList (by simpa using g1) g2 n2 n3 (by omega) ?_
        exact ⟨.int _, H, I.tok _, ⟨_, rfl⟩, rP_back r (.int _) k⟩
    · cases hd
  · cases hd

/-! ### repr(x) -/
def showsD : D → Bool
  | .bl _ => true
  | .int _ => true
  | .tup _ => true
  | .lv _ => true
  | .ro _ => true
  | .ref _ => true
  | .non => true
  | _ => false
def fRepr : OpN := fun ds S => match ds with
  | [d] => match pd S 8 d with
    | some p => if (showsD d && p.showable && !p.hasDict) = true ∧ p.shown.length ≤ sizeLine then some (.str p.shown) else none
    | none => none
  | _ => none
theorem jb_repr : JB G Γ (.builtin "repr") fRepr := fun X W hx => by
  have hu := hx.un
  have gu := hx.gd
  obtain ⟨rfl⟩ := hx
  rintro pins s σ H vs us Q I rv ⟨φ, Z, S, ds, d, r, r1, hd, k⟩
  unfold fRepr at hd
  split at hd
  · rename_i d0
    obtain ⟨v, rfl, rs⟩ := r1.oneD
    obtain ⟨u, rfl, ru⟩ := Vals.one rv
    split at hd
    · rename_i p hp
      split at hd
      · rename_i hc
        cases hd
        obtain ⟨hc1, hc2⟩ := hc
        simp only [Bool.and_eq_true, Bool.not_eq_true'] at hc1
        obtain ⟨⟨c1, c2⟩, c3⟩ := hc1
        have n1 := pd_depth 8 _ _ hp
        obtain ⟨q1, _⟩ := pd_dp r 8 _ _ _ rs hp
        obtain ⟨as, g⟩ := Dp.reads I _ _ _ q1 ru
        have big : ∀ a, u = .ref a → wpAny (model X.prog X.w) X.A (call (.builtin "repr") [u]) (EP X pins σ Q) X.xe s := fun a e => by
          subst e
          refine repr_of_reads' g c2 (fun h => by rw [c3] at h; cases h) gu (by omega) (fun b o z => z) (fun h' t tk hk => ?_) hc2
          exact ⟨.str _, H, I.kept hk, ⟨_, rfl⟩, rP_back r (.str _) k⟩
        cases rs with
        | non =>
          cases hp
          cases ru
          exact PySem.P.repr_of_none ⟨.str _, H, I.tok _, ⟨_, rfl⟩, rP_back r (.str _) k⟩
        | int i =>
          cases hp
          obtain ⟨t, rfl⟩ := ru
          have c4 : i.natAbs.log2 < 1920 := by simpa [PyData.showable] using c2
          exact PySem.P.repr_of_int c4 ⟨.str _, H, I.tok _, ⟨_, rfl⟩, rP_back r (.str _) k⟩
        | bl b =>
          cases hp
          cases ru
          exact PySem.P.repr_of_bool ⟨.str _, H, I.tok _, ⟨_, rfl⟩, rP_back r (.str _) k⟩
        | str x => cases c1
        | tup h1 h2 => exact big _ ru
        | lv h1 h2 h3 h4 => exact big _ ru
        | ro h1 h2 => exact big _ ru
        | ref h1 => exact big _ ru
      · cases hd
    · cases hd
  · cases hd
/-! ### texts compared -/
def dEqS : Op2 := fun x y _ => match x, y with
  | .str a, .str b => some (.bl (a == b))
  | _, _ => none
theorem jo_eqS : JOp G Γ (compareOp .Eq) dEqS := fun X W hx => by
  obtain ⟨rfl⟩ := hx
  rintro pins s σ H x y v u Q I rx ry ⟨φ, Z, S, dx, dy, d, r, r1, r2, hd, k⟩
  unfold dEqS at hd
  split at hd
  · cases hd
    have e1 := r1.strD
    have e2 := r2.strD
    subst e1 e2
    obtain ⟨t, rfl⟩ := rx
    obtain ⟨t2, rfl⟩ := ry
    exact PyProof.Rows.eq_str ⟨.bl _, H, I, rfl, rP_back r (.bl _) k⟩
  · cases hd
/-! ### xs.extend(t), t a list or a tuple -/
theorem list_extend_tupleX (l : Addr) (items : Array Value) (n : Nat) (b : Addr) (items2 : Array Value) (n2 : Nat) (dd : Option Addr) (sl : Array (Option Value)) (hs0 : ¬(!items.isEmpty && Builtin.List.listTooLong (items.size + items2.size)) = true) (hs1 : items.size ≤ sizeLine) (hs2 : items.size + items2.size ≤ sizeLine + 1) :
    Meets (Builtin.«list.extend» ⟨[.ref l, .ref b], []⟩) (fun _ R s => s.heap.get? l = some { cls := .type "list", dict := none, data := .seq items n, slots := #[] } ∧ s.heap.get? b = some { cls := .type "tuple", dict := dd, data := .seq items2 n2, slots := sl } ∧ R (.ok (.ret Value.none)) { s with heap := s.heap.update l (Obj.mapSeq fun x => x ++ items2), toks := s.toks }) :=
  .of_wp fun prog w A R s h => by
    obtain ⟨hp, g, d, tk, os⟩ := s
    obtain ⟨hl, hb, h⟩ := h
    have f1 := AutoSeq1.idx_int
    have f2 := AutoSeq1.sub_tuple_tuple
    have f3 := AutoSeq1.sub_list_list
    have f4 := AutoSeq1.sub_tuple_list
    have f5 := AutoSeq1.sub_list_tuple
    have hz' : (items ++ items2).size ≤ sizeLine + 1 := by rw [Array.size_append]; exact hs2
    wp_walk using (wpAny_updateSeq hl rfl (hz := hs1) (_hz' := hz')), AutoSeq1.wpAny_loadPart' hl, AutoSeq1.wpAny_loadPart' hb
    exact ⟨_, rfl, h⟩
def fExtA : OpM := fun x ds S => match x, ds with
  | .ref n, [.tup m] => match S[n]? with
    | some (.lst l) => if l.length + m.length ≤ sizeLine then some (.non, S.set n (.lst (l ++ m))) else none
    | _ => none
  | x, ds => fExtend x ds S
theorem jm_extA : JMt G Γ "list.extend" fExtA := fun X W hx => by
  have old := jm_extend (G := G) (Γ := Γ) X W hx
  obtain ⟨rfl⟩ := hx
  rintro pins s σ H x vs v us Q I rx rvs ⟨φ, Z, S, dx, ds, d, S', r, r1, r2, hd, k⟩
  unfold fExtA at hd
  split at hd
  · split at hd
    · rename_i hS
      split at hd
      · rename_i hz
        cases hd
        obtain ⟨a, xs, rfl, ha, hH, q⟩ := r.getL r1 hS
        obtain ⟨y, rfl, ry⟩ := r2.oneD
        obtain ⟨b, ys, rfl, sq, q2⟩ := ry.tupD
        cases rx
        obtain ⟨u, rfl, ru⟩ := Vals.one rvs
        cases ru
        obtain ⟨z, its, n0, rr, hl, e⟩ := I.lstM hH
        obtain ⟨its2, rr2, ⟨⟨cls, dd, data, sl⟩, ho, hc, n2, hd2⟩, hz2⟩ := I.tuple (sq.sq (K := X.K))
        simp only at hc hd2
        subst hc hd2
        have l1 := q.length
        have l2 := q2.length
        have l3 := rr2.length
        have hsz : its.toArray.size + its2.toArray.size ≤ sizeLine := by rw [List.size_toArray, List.size_toArray]; omega
        have hlong : ¬ (!its.toArray.isEmpty && Builtin.List.listTooLong (its.toArray.size + its2.toArray.size)) = true := by
          rw [notLongL hsz, Bool.and_false]
          exact Bool.false_ne_true
        refine call_meets PySem.F.slot_list_extend ⟨_, e, rfl⟩ PySem.F.entry_list_extend (PySem.F.args_list_extend_2 _ _)
          (list_extend_tupleX a its.toArray n0 b its2.toArray n2 dd sl hlong (by rw [List.size_toArray]; omega) (by omega)) ⟨e, ho, ?_⟩
        refine ⟨.non, _, I.lset (its' := its ++ its2) hH e (by simp) (rr.append rr2) ?_, rfl, k φ _ _ (Ex.at (List.mem_of_getElem? ha)) (r.setL ha (q.append q2)) .non⟩
        rw [List.length_append]
        omega
      · cases hd
    · cases hd
  · exact old pins s σ H x vs v us Q I rx rvs ⟨φ, Z, S, dx, ds, d, S', r, r1, r2, hd, k⟩
/-! ### (a, b, ..) = a list -/
def gTupL (n : Nat) (g : TgsD) : TgD := fun d ρ S => match d with
  | .lv ds => if ds.length = n then g ds ρ S else .bad
  | _ => .bad
theorem jg_tupL {es : List Expr} {k : Nat} {pos : Pos} {g : TgsD} (n : Nat) (h : JGs G Γ es g) (hn : ∀ env, (assignEach es env).length = n := by intro _; rfl) (hst : ∀ env, (assignEach es env).findIdx? (·.1) = none := by intro _; rfl) : JG G Γ (.Tuple es k pos) (gTupL n g) := fun X W hx => by
  have p := h X W hx
  have hc := hx.calm
  obtain ⟨rfl⟩ := hx
  refine (pg_unl hc p (hn _) (hst _)).weak fun v σ H Q hl ⟨φ, Z, ρ, S, d, r, rf, rv, q⟩ => ?_
  cases rv with
  | @lv a1 xs ds a b c d =>
    simp only [gTupL] at q
    split at q
    · rename_i e
      exact ⟨_, _, rfl, SqL.of a, by rw [d.length, e], φ, Z, ρ, S, ds, r, rf, d, q⟩
    · exact q.elim
  | _ => exact q.elim
end
end MP

/-! MP, part r: dict(zip(x, y)). -/
namespace MP
open PySem L2
section
variable {prog : Program} {w : World} {A : Around} {E : Value → Shared → Prop} {s : Shared} {z TI TO i1 i2 T : Addr} {fp1 fp2 : List Addr} {n1 n2 i : Nat} {P1 P2 : Nat → Value → Prop} {St1 St2 : Nat → Heap → Prop} {f : Bool} {oT : Obj}
/-- the next pair, while the one before is still out -/
theorem zipH_item {Q : Value → Shared → Prop} (S : ZipSep2 z TI TO i1 i2 fp1 fp2) (D1 : Draws prog w A i1 fp1 n1 P1 St1) (D2 : Draws prog w A i2 fp2 n2 P2 St2)
    (hz : IsZipHeld s.heap z TI TO T f) (hT : s.heap.get? T = some oT) (hTI : IsTupOf2 s.heap TI (.ref i1) (.ref i2)) (st1 : St1 i s.heap) (st2 : St2 i s.heap) (lt1 : i < n1) (lt2 : i < n2)
    (hQ : ∀ x1 x2 h' tk, P1 i x1 → P2 i x2 → IsZipHeld h' z TI TO T true → St1 (i + 1) h' → St2 (i + 1) h' → IsTupOf2 h' s.heap.objs.size x1 x2 → h'.objs.size = s.heap.objs.size + 1 →
      (∀ c o, c ≠ z → c ≠ i1 → c ≠ i2 → s.heap.get? c = some o → h'.get? c = some o) → Q (.ref s.heap.objs.size) { s with heap := h', toks := tk }) :
    wpAny (model prog w) A (Builtin.«zip.__next__» ⟨[.ref z], []⟩) (fun fin s' => ∃ v, fin = .done (.ret v) ∧ Q v s') E s := by
  obtain ⟨hp, g, d, tk0, os⟩ := s
  show wpAny _ _ (field (.ref z) 2 >>= _) _ _ _
  refine wpAny_bind (wpAny_field hz rfl (x := .bool false) rfl ?_)
  show wpAny _ _ (field (.ref z) 3 >>= _) _ _ _
  refine wpAny_bind (wpAny_field hz rfl (x := .ref TI) rfl ?_)
  refine wpAny_bind (wpAny_seqItems hTI rfl ?_)
  show wpAny _ _ (Builtin.SmallTypes.ownedTupleIsFree (.ref z) >>= _) _ _ _
  refine wpAny_bind (wpAny_tupleHeld_zip hz hT fun g1 hz1 hs1 => ?_)
  replace hz1 : IsZipHeld g1 z TI TO T true := hz1
  replace hs1 : Heap.SameBut z hp g1 := hs1
  simp only [Bool.false_eq_true, if_false]
  refine wpAny_bind ?_
  rw [← Array.forIn_toList]
  simp only [List.forIn_cons, List.forIn_nil]
  refine wpAny_bind (wpAny_bind (wpAny_holding ?_))
  show wpAny _ _ (Builtin.SmallTypes.nextOf (.ref i1) >>= _) _ _ ⟨g1, g, d, tk0, os⟩
  refine wpAny_bind (D1.item i _ _ _ lt1 (D1.over st1 hs1 S.zf1) fun x1 p1 tk1 hx1 sn1 hp1 => wpAny_pure ?_)
  replace hp1 : Heap.SameBut i1 g1 p1 := hp1
  refine wpAny_pure ?_
  refine wpAny_bind (wpAny_bind (wpAny_holding ?_))
  show wpAny _ _ (Builtin.SmallTypes.nextOf (.ref i2) >>= _) _ _ ⟨p1, g, d, tk1, os⟩
  refine wpAny_bind (D2.item i _ _ _ lt2 (D2.over (D2.over st2 hs1 S.zf2) hp1 S.sep1_2) fun x2 p2 tk2 hx2 sn2 hp2 => wpAny_pure ?_)
  replace hp2 : Heap.SameBut i2 p1 p2 := hp2
  refine wpAny_pure (wpAny_pure ?_)
  show wpAny _ _ (newTuple [x1, x2] >>= _) _ _ ⟨p2, g, d, tk2, os⟩
  refine wpAny_bind (wpAny_newTuple ?_)
  have hsz : p2.objs.size = hp.objs.size := by rw [hp2.1, hp1.1, hs1.1]
  have hz3 : IsZipHeld p2 z TI TO T true := hp2.extBut _ _ S.zi2 (hp1.extBut _ _ S.zi1 hz1)
  have hk : ∀ c o, c ≠ z → c ≠ i1 → c ≠ i2 → hp.get? c = some o → p2.get? c = some o := fun c o c1 c2 c3 e => hp2.extBut _ _ c3 (hp1.extBut _ _ c2 (hs1.extBut _ _ c1 e))
  have sn1' : St1 (i + 1) p2 := D1.over sn1 hp2 S.sep2_1
  refine wpAny_pure ⟨_, rfl, ?_⟩
  show Q (.ref p2.objs.size) _
  have hpr : IsTupOf2 (p2.push { cls := .type "tuple", data := .seq #[x1, x2] }) p2.objs.size x1 x2 := Heap.get?_push_size _ rfl
  have hz4 : (p2.push { cls := .type "tuple", data := .seq #[x1, x2] }).objs.size = p2.objs.size + 1 := Heap.size_push ..
  rw [hsz] at hpr hz4 ⊢
  exact hQ x1 x2 _ tk2 hx1 hx2 (Heap.get?_push_of_some _ hz3) (D1.frame _ _ _ sn1' fun b _ o e => Heap.get?_push_of_some _ e) (D2.frame _ _ _ sn2 fun b _ o e => Heap.get?_push_of_some _ e) hpr hz4 fun c o c1 c2 c3 e => Heap.get?_push_of_some _ (hk c o c1 c2 c3 e)
theorem zipH_end {Q : Fin → Shared → Prop} (S : ZipSep2 z TI TO i1 i2 fp1 fp2) (D1 : Draws prog w A i1 fp1 n1 P1 St1) (D2 : Draws prog w A i2 fp2 n2 P2 St2)
    (hz : IsZipHeld s.heap z TI TO T f) (hT : s.heap.get? T = some oT) (hTI : IsTupOf2 s.heap TI (.ref i1) (.ref i2)) (st1 : St1 i s.heap) (st2 : St2 i s.heap) (le1 : i ≤ n1) (le2 : i ≤ n2) (hend : i = n1 ∨ i = n2)
    (hE : ∀ h' tk e, (∀ c o, c ≠ z → c ≠ i1 → c ≠ i2 → s.heap.get? c = some o → h'.get? c = some o) → (∃ o, h'.get? e = some o ∧ o.cls = .type "StopIteration") → E (.ref e) { s with heap := h', toks := tk }) :
    wpAny (model prog w) A (Builtin.«zip.__next__» ⟨[.ref z], []⟩) Q E s := by
  obtain ⟨hp, g, d, tk0, os⟩ := s
  show wpAny _ _ (field (.ref z) 2 >>= _) _ _ _
  refine wpAny_bind (wpAny_field hz rfl (x := .bool false) rfl ?_)
  show wpAny _ _ (field (.ref z) 3 >>= _) _ _ _
  refine wpAny_bind (wpAny_field hz rfl (x := .ref TI) rfl ?_)
  refine wpAny_bind (wpAny_seqItems hTI rfl ?_)
  show wpAny _ _ (Builtin.SmallTypes.ownedTupleIsFree (.ref z) >>= _) _ _ _
  refine wpAny_bind (wpAny_tupleHeld_zip hz hT fun g1 hz1 hs1 => ?_)
  replace hs1 : Heap.SameBut z hp g1 := hs1
  simp only [Bool.false_eq_true, if_false]
  refine wpAny_bind ?_
  rw [← Array.forIn_toList]
  simp only [List.forIn_cons, List.forIn_nil]
  refine wpAny_bind (wpAny_bind (wpAny_holding ?_))
  show wpAny _ _ (Builtin.SmallTypes.nextOf (.ref i1) >>= _) _ _ ⟨g1, g, d, tk0, os⟩
  by_cases h1 : i = n1
  · refine wpAny_bind (D1.done ⟨g1, g, d, tk0, os⟩ _ _ (by rw [← h1]; exact D1.over st1 hs1 S.zf1) fun h2 e he hx => ?_)
    exact hE h2 tk0 e (fun c o c1 c2 _ y => he _ _ c2 (hs1.extBut _ _ c1 y)) hx
  · have h2 : i = n2 := hend.resolve_left h1
    refine wpAny_bind (D1.item i _ _ _ (by omega) (D1.over st1 hs1 S.zf1) fun x1 p1 tk1 hx1 sn1 hp1 => wpAny_pure ?_)
    replace hp1 : Heap.SameBut i1 g1 p1 := hp1
    refine wpAny_pure ?_
    refine wpAny_bind (wpAny_bind (wpAny_holding ?_))
    show wpAny _ _ (Builtin.SmallTypes.nextOf (.ref i2) >>= _) _ _ ⟨p1, g, d, tk1, os⟩
    refine wpAny_bind (D2.done ⟨p1, g, d, tk1, os⟩ _ _ (by rw [← h2]; exact D2.over (D2.over st2 hs1 S.zf2) hp1 S.sep1_2) fun h3 e he hx => ?_)
    exact hE h3 tk1 e (fun c o c1 c2 c3 y => he _ _ c3 (hp1.extBut _ _ c2 (hs1.extBut _ _ c1 y))) hx
theorem nextH_item {Q : Option Value → Shared → Prop} (S : ZipSep2 z TI TO i1 i2 fp1 fp2) (D1 : Draws prog w A.in1 i1 fp1 n1 P1 St1) (D2 : Draws prog w A.in1 i2 fp2 n2 P2 St2)
    (hz : IsZipHeld s.heap z TI TO T f) (hT : s.heap.get? T = some oT) (hTI : IsTupOf2 s.heap TI (.ref i1) (.ref i2)) (st1 : St1 i s.heap) (st2 : St2 i s.heap) (lt1 : i < n1) (lt2 : i < n2)
    (hQ : ∀ x1 x2 h' tk, P1 i x1 → P2 i x2 → IsZipHeld h' z TI TO T true → St1 (i + 1) h' → St2 (i + 1) h' → IsTupOf2 h' s.heap.objs.size x1 x2 → h'.objs.size = s.heap.objs.size + 1 →
      (∀ c o, c ≠ z → c ≠ i1 → c ≠ i2 → s.heap.get? c = some o → h'.get? c = some o) → Q (some (.ref s.heap.objs.size)) { s with heap := h', toks := tk }) : wpAny (model prog w) A (pyNext (.ref z)) Q E s := by
  have ty : s.TypeIs (.ref z) "zip" := ⟨_, hz, rfl⟩
  unfold pyNext
  exact wpAny_bind (wpAny_attempt (wpAny_callSpecial?_slot (name := Str.ofString "__next__") ty F.slot_zip_next
    (wpAny_call_entry F.slot_zip_next ty F.entry_zip_next (zipH_item S D1 D2 hz hT hTI st1 st2 lt1 lt2 fun x1 x2 h' tk a1 a2 a3 a4 a5 a6 a7 a8 => wpAny_pure (hQ x1 x2 h' tk a1 a2 a3 a4 a5 a6 a7 a8)) (F.args_zip_next_1 _))))
theorem nextH_end {Q : Option Value → Shared → Prop} (S : ZipSep2 z TI TO i1 i2 fp1 fp2) (D1 : Draws prog w A.in1 i1 fp1 n1 P1 St1) (D2 : Draws prog w A.in1 i2 fp2 n2 P2 St2)
    (hz : IsZipHeld s.heap z TI TO T f) (hT : s.heap.get? T = some oT) (hTI : IsTupOf2 s.heap TI (.ref i1) (.ref i2)) (st1 : St1 i s.heap) (st2 : St2 i s.heap) (le1 : i ≤ n1) (le2 : i ≤ n2) (hend : i = n1 ∨ i = n2)
    (hQ : ∀ h' tk, (∀ c o, c ≠ z → c ≠ i1 → c ≠ i2 → s.heap.get? c = some o → h'.get? c = some o) → Q none { s with heap := h', toks := tk }) : wpAny (model prog w) A (pyNext (.ref z)) Q E s := by
  have ty : s.TypeIs (.ref z) "zip" := ⟨_, hz, rfl⟩
  unfold pyNext
  refine wpAny_bind (wpAny_attempt (wpAny_callSpecial?_slot (name := Str.ofString "__next__") ty F.slot_zip_next
    (wpAny_call_entry F.slot_zip_next ty F.entry_zip_next (zipH_end S D1 D2 hz hT hTI st1 st2 le1 le2 hend fun h' tk e hk he => ?_) (F.args_zip_next_1 _))))
  obtain ⟨o, ho, hc⟩ := he
  refine wpAny_bind (wpAny_isInstance (T := "StopIteration") (b := true) ⟨o, ho, hc⟩ isSubtype_stop ?_)
  exact wpAny_pure (hQ _ _ hk)
end
/-- a zip of two sources, as the argument of dict -/
theorem argZip {prog : Program} {w : World} {c d : Src} {N : Nat} (hc : c.addr < N) (hd : d.addr < N) (xs ys : Array Value) :
    PairArg prog w "zip" (N + 4) [N + 4, N + 2, N + 3, N, N + 1, c.addr, d.addr] [N + 4, N + 3, N, N + 1] (min xs.size ys.size) (fun i k v => xs[i]? = some k ∧ ys[i]? = some v)
      (fun h => IsZip h (N + 4) (N + 2) (N + 3) .none ∧ IsTupOf2 h (N + 2) (.ref N) (.ref (N + 1)) ∧ (∃ x y, IsTupOf2 h (N + 3) x y) ∧ (c.Iter h N 0 ∧ c.Is h xs) ∧ (d.Iter h (N + 1) 0 ∧ d.Is h ys)) where
  type := fun s ok => ⟨_, ok.1, rfl⟩
  notDict := by decide
  keep := fun h h' ok hk => by
    obtain ⟨hz, hTI, ⟨x, y, hTO⟩, st1, st2⟩ := ok
    refine ⟨hk _ _ hz, hk _ _ hTI, ⟨x, y, hk _ _ hTO⟩, ?_, ?_⟩
    · exact (Src.draws (prog := prog) (w := w) (A := callerA) rfl c N (Nat.ne_of_lt hc) xs).frame _ _ _ st1 fun b _ o e => hk b o e
    · exact (Src.draws (prog := prog) (w := w) (A := callerA) rfl d (N + 1) (Nat.ne_of_lt (Nat.lt_succ_of_lt hd)) ys).frame _ _ _ st2 fun b _ o e => hk b o e
  there := fun h ok b hb => by
    obtain ⟨hz, hTI, ⟨x, y, hTO⟩, ⟨h1, p1⟩, ⟨h2, p2⟩⟩ := ok
    have isThere : ∀ (c : Src) (vs : Array Value), c.Is h vs → ∃ o, h.get? c.addr = some o := fun c vs p => by
      cases c with
      | L a => obtain ⟨o, e, _⟩ := p; exact ⟨o, e⟩
      | T a => obtain ⟨o, e, _⟩ := p; exact ⟨o, e⟩
    simp only [List.mem_cons, List.not_mem_nil, or_false] at hb
    rcases hb with rfl | rfl | rfl | rfl | rfl | rfl | rfl
    · exact ⟨_, hz⟩
    · exact ⟨_, hTI⟩
    · exact ⟨_, hTO⟩
    · obtain ⟨o, e, _⟩ := Src.there h1; exact ⟨o, e⟩
    · obtain ⟨o, e, _⟩ := Src.there h2; exact ⟨o, e⟩
    · exact isThere c xs p1
    · exact isThere d ys p2
  sub := fun b hb => by
    simp only [List.mem_cons, List.not_mem_nil, or_false] at hb ⊢
    rcases hb with rfl | rfl | rfl | rfl <;> simp
  noKeys := fun A s Q E hA ok h => getAttrOr_miss_zip ok.1 rfl rfl rfl zip_no_keys (by decide +kernel) hA h
  iter := fun A s D Q E hA ok hD hDf h => by
    obtain ⟨hz, hTI, ⟨x, y, hTO⟩, st1, st2⟩ := ok
    simp only [List.mem_cons, List.not_mem_nil, or_false, not_or] at hDf
    obtain ⟨dz, dTI, dTO, di1, di2, dc, dd⟩ := hDf
    have Sp := zip_sep2 (N := N) (fp1 := [c.addr]) (fp2 := [d.addr]) (by simpa using hc) (by simpa using hd)
    have hA1 : A.in1.handled = none := hA
    have D1 := Src.draws (prog := prog) (w := w) (A := A.in1) hA1 c N (Nat.ne_of_lt hc) xs
    have D2 := Src.draws (prog := prog) (w := w) (A := A.in1) hA1 d (N + 1) (Nat.ne_of_lt (Nat.lt_succ_of_lt hd)) ys
    refine wpAny_pyIter_zip hz (h (N + 4) [N + 4, N + 3, N, N + 1] (fun i h => IsTupOf2 h (N + 2) (.ref N) (.ref (N + 1)) ∧ (c.Iter h N i ∧ c.Is h xs) ∧ (d.Iter h (N + 1) i ∧ d.Is h ys) ∧
      ((IsZip h (N + 4) (N + 2) (N + 3) .none ∧ ∃ x y, IsTupOf2 h (N + 3) x y) ∨ ∃ T f oT, IsZipHeld h (N + 4) (N + 2) (N + 3) T f ∧ h.get? T = some oT ∧ T ≠ N + 4 ∧ T ≠ N ∧ T ≠ N + 1 ∧ T ≠ D)) s.heap s.toks ?_
      ⟨hTI, st1, st2, .inl ⟨hz, x, y, hTO⟩⟩ (fun _ _ e => e) fun b hb => .inl hb)
    have fr : ∀ {i : Nat} {h₁ h₂ : Heap}, (c.Iter h₁ N i ∧ c.Is h₁ xs) → (d.Iter h₁ (N + 1) i ∧ d.Is h₁ ys) → (∀ b ∈ [N, c.addr, N + 1, d.addr], ∀ o, h₁.get? b = some o → h₂.get? b = some o) → (c.Iter h₂ N i ∧ c.Is h₂ xs) ∧ (d.Iter h₂ (N + 1) i ∧ d.Is h₂ ys) := fun s1 s2 hk =>
      ⟨D1.frame _ _ _ s1 fun b hb o e => hk b (by simp only [List.mem_cons, List.not_mem_nil, or_false] at hb ⊢; rcases hb with z | z <;> simp [z]) o e, D2.frame _ _ _ s2 fun b hb o e => hk b (by simp only [List.mem_cons, List.not_mem_nil, or_false] at hb ⊢; rcases hb with z | z <;> simp [z]) o e⟩
    exact {
      off := fun hm => by
        simp only [List.mem_cons, List.not_mem_nil, or_false] at hm
        rcases hm with e | e | e | e
        · exact dz e
        · exact dTO e
        · exact di1 e
        · exact di2 e
      frame := fun i h₁ h₂ st hk => by
        obtain ⟨hTI, s1, s2, hz⟩ := st
        obtain ⟨g1, g2⟩ := fr (h₂ := h₂) s1 s2 fun b hb o e => hk b o (fun q => by
          simp only [List.mem_cons, List.not_mem_nil, or_false] at hb
          rw [q] at hb
          rcases hb with z | z | z | z
          · exact di1 z
          · exact dc z
          · exact di2 z
          · exact dd z) e
        refine ⟨hk _ _ (Ne.symm dTI) hTI, g1, g2, ?_⟩
        rcases hz with ⟨hz, x, y, hTO⟩ | ⟨T, f, oT, hz, hT, r1, r2, r3, r4⟩
        · exact .inl ⟨hk _ _ (Ne.symm dz) hz, x, y, hk _ _ (Ne.symm dTO) hTO⟩
        · exact .inr ⟨T, f, oT, hk _ _ (Ne.symm dz) hz, hk _ _ r4 hT, r1, r2, r3, r4⟩
      item := fun i s₁ Q₁ E₁ hi st hds hQ => by
        obtain ⟨hTI, s1, s2, hz⟩ := st
        have lx : i < xs.size := Nat.lt_of_lt_of_le hi (Nat.min_le_left ..)
        have ly : i < ys.size := Nat.lt_of_lt_of_le hi (Nat.min_le_right ..)
        have lt : ∀ {b o}, s₁.heap.get? b = some o → s₁.heap.objs.size ≠ b := fun e => Nat.ne_of_gt (Heap.lt_size e)
        have m1 : s₁.heap.objs.size ≠ N := by obtain ⟨_, e, _⟩ := Src.there s1.1; exact lt e
        have m2 : s₁.heap.objs.size ≠ N + 1 := by obtain ⟨_, e, _⟩ := Src.there s2.1; exact lt e
        rcases hz with ⟨hz, x, y, hTO⟩ | ⟨T, f, oT, hz, hT, r1, r2, r3, r4⟩
        · refine wpAny_pyNext_zipD2_item Sp D1 D2 hz hTI hTO s1 s2 lx ly fun x1 x2 h' tk e1 e2 b1 b2 d1 d2 b5 b6 hk => ?_
          exact hQ s₁.heap.objs.size _ _ h' tk ⟨e1, e2⟩ (.inl ⟨_, b5, rfl, _, rfl⟩)
            ⟨hk _ _ Sp.TIz Sp.TITO Sp.TIi1 Sp.TIi2 hTI, d1, d2, .inr ⟨s₁.heap.objs.size, false, _, b1, b5, lt hz, m1, m2, Nat.ne_of_gt hds⟩⟩
            fun b o hb e => hk b o (fun q => hb (by simp [q])) (fun q => hb (by simp [q])) (fun q => hb (by simp [q])) (fun q => hb (by simp [q])) e
        · refine nextH_item Sp D1 D2 hz hT hTI s1 s2 lx ly fun x1 x2 h' tk e1 e2 b1 d1 d2 b5 b6 hk => ?_
          exact hQ s₁.heap.objs.size _ _ h' tk ⟨e1, e2⟩ (.inl ⟨_, b5, rfl, _, rfl⟩)
            ⟨hk _ _ Sp.TIz Sp.TIi1 Sp.TIi2 hTI, d1, d2, .inr ⟨T, true, oT, b1, hk _ _ r1 r2 r3 hT, r1, r2, r3, r4⟩⟩
            fun b o hb e => hk b o (fun q => hb (by simp [q])) (fun q => hb (by simp [q])) (fun q => hb (by simp [q])) e
      done := fun s₁ Q₁ E₁ st hQ => by
        obtain ⟨hTI, s1, s2, hz⟩ := st
        rcases hz with ⟨hz, x, y, hTO⟩ | ⟨T, f, oT, hz, hT, r1, r2, r3, r4⟩
        · exact wpAny_pyNext_zipD2_end Sp D1 D2 hz hTI hTO s1 s2 (by omega) (by omega) (by omega) fun h' tk hk => hQ h' tk fun b o hb e => hk b o (fun q => hb (by simp [q])) (fun q => hb (by simp [q])) (fun q => hb (by simp [q])) (fun q => hb (by simp [q])) e
        · exact nextH_end Sp D1 D2 hz hT hTI s1 s2 (by omega) (by omega) (by omega) fun h' tk hk => hQ h' tk fun b o hb e => hk b o (fun q => hb (by simp [q])) (fun q => hb (by simp [q])) (fun q => hb (by simp [q])) e }
end MP

/-! MP, part s: dict(zip(x, y)), the rule. -/
namespace MP
open PySem L2 PySem.Spec PyProof.Rows
def keysOf (kv : List (D × D)) : Option (List NestedKey) := optAll (fun p => tupKey p.1) kv
open Classical in
noncomputable def dzOf (S : Sto) (ds : List D) : Option (List (D × D)) := match ds with
  | [x, y] => match seqD S x, seqD S y with
    | some l, some m => if l.length ≤ 1000 ∧ ∃ ks, keysOf (l.zip m) = some ks ∧ ks.Nodup then some (l.zip m) else none
    | _, _ => none
  | _ => none
noncomputable def mDictZ (ma : M (List D)) : M D := fun ρ S => (ma ρ S).bind fun ds S1 => match dzOf S1 ds with
  | some kv => .ok (.ref S1.length) (S1 ++ [.dct kv])
  | none => .bad
theorem dz_ps {X : Cx} {pins : List (Addr × Obj)} {σ : L2.St} {H : Hp} {s : Shared} {φ Z : List Addr} (I : Inv X pins σ H s) : ∀ {us vs : List V} {l m : List D} {its its2 : List Value} {ks : List NestedKey}, RVs X.K φ Z H us l → RVs X.K φ Z H vs m → Vals us its → Vals vs its2 → keysOf (l.zip m) = some ks →
    ∃ ps : List (NestedKey × Addr × Value), RTs X.K φ Z H ps (l.zip m) ∧ ps.map (·.1) = ks ∧ ps.length = min its.length its2.length ∧ (∀ (i : Nat) (key v : Value), its[i]? = some key → its2[i]? = some v → ∃ k b, ps[i]? = some (k, b, v) ∧ key = .ref b) ∧ ∀ x ∈ ps, NestedIs s.heap x.1 (.ref x.2.1) ∧ x.1.depth ≤ 8
  | _, _, _, _, _, _, _, .nil, _, .nil, _, h => by
    cases h
    exact ⟨[], .nil, rfl, by simp, fun i key v e => by simp at e, fun x hx => by cases hx⟩
  | _, _, _, _, _, _, _, .cons _ _, .nil, .cons _ _, .nil, h => by
    cases h
    exact ⟨[], .nil, rfl, by simp, fun i key v _ e => by simp at e, fun x hx => by cases hx⟩
  | _, _, _, _, _, _, _, .cons (d := c) r1 q1, .cons r2 q2, .cons v1 w1, .cons v2 w2, h => by
    simp only [List.zip_cons_cons, keysOf, optAll] at h
    split at h
    · rename_i k ks' h1 h2
      cases h
      obtain ⟨ps, a1, a2, a3, a4, a5⟩ := dz_ps I q1 q2 w1 w2 h2
      obtain ⟨⟨l, rfl⟩, hk, hdep⟩ := tupKey_some h1
      have hn := nested_of I r1 v1 hk
      cases r1 with
      | @tup a xs _ t1 t2 =>
        cases v1
        refine ⟨(k, a, _) :: ps, .cons hk hdep (.tup t1 t2) v2 r2 a1, by rw [List.map_cons, a2], by simp only [List.length_cons, a3]; omega, fun i key v e1 e2 => ?_, fun x hx => ?_⟩
        · cases i with
          | zero =>
            simp only [List.getElem?_cons_zero, Option.some.injEq] at e1 e2
            subst e1 e2
            exact ⟨k, a, rfl, rfl⟩
          | succ i =>
            simp only [List.getElem?_cons_succ] at e1 e2 ⊢
            exact a4 i key v e1 e2
        · rcases List.mem_cons.mp hx with rfl | hx
          · exact ⟨hn, hdep⟩
          · exact a5 x hx
    · cases h
theorem atKey_no : ∀ {xs : List (NestedKey × Addr × Value)} {k : NestedKey}, k ∉ xs.map (·.1) → atKey xs k = none
  | [], _, _ => rfl
  | x :: xs, k, h => by
    rw [List.map_cons, List.mem_cons, not_or] at h
    rw [atKey_cons, if_neg fun e => h.1 e.symm]
    exact atKey_no h.2
theorem st_all : ∀ {ps xs : List (NestedKey × Addr × Value)}, ((xs ++ ps).map (·.1)).Nodup → storedAllH xs ps = xs ++ ps
  | [], xs, _ => by simp [storedAllH]
  | p :: ps, xs, h => by
    have hn : p.1 ∉ xs.map (·.1) := by
      rw [List.map_append, List.map_cons, List.nodup_append] at h
      exact fun hm => h.2.2 _ hm _ List.mem_cons_self rfl
    have e : storedAllH xs (p :: ps) = storedAllH (xs ++ [p]) ps := by
      show storedAllH (storedH xs p.1 p.2.1 p.2.2) ps = _
      rw [storedH_new (atKey_no hn)]
    rw [e, st_all (ps := ps) (xs := xs ++ [p]) (by simpa using h)]
    simp
section
variable {G : Gs} {Γ : Ctx}
theorem je_dictzip {e1 e2 : Expr} {p pos p2 pos2 : Pos} {ma : M (List D)} (hm1 : G.mg "dict" = none) (hm2 : G.mg "zip" = none) (ha : JA G Γ [e1, e2] ma) (hg1 : Γ.sc.names.lookup ("dict" : Str) = some .globalImplicit := by rfl) (hg2 : Γ.sc.names.lookup ("zip" : Str) = some .globalImplicit := by rfl)
    (hs : ∀ env, starEach [e1, e2] env = (false, eval e1 env) :: starEach [e2] env := by intro _; rfl) (hpl : ∀ env, (backTo pos2 (starEach [e2] env)).any (·.1) = false := by intro _; rfl) :
    JE G Γ (.Call (.Name "dict" p) [.Call (.Name "zip" p2) [e1, e2] [] pos2] [] pos) (mDictZ ma) := fun X W hx => by
  have pa := ha X W hx
  have g1 := glOf hx hg1
  have g2 := glOf hx hg2
  have un := hx.room.un
  have calm := hx.calm
  obtain ⟨rfl⟩ := hx
  refine ⟨fun pins s σ H Q I ⟨φ, Z, ρ, S, r, rf, q⟩ => ?_⟩
  refine Call_ (ld_blt I g1 hm1 (show bootBuiltins "dict" = some (.type "dict") by decide +kernel) (PyProof.Rows.callWith_type1 ?_ (by rfl) (by rfl)))
  show wpAny _ _ (spliced ((false, eval (.Call (.Name "zip" p2) [e1, e2] [] pos2) X.env) :: backTo pos (starEach [] X.env))) _ _ s
  refine Calls.spliced_cons ?_
  have hA : tA X.K X.mw W ma σ H (fun vs H1 => ∃ φ1 ds S1, RepS X.K X.mw φ1 Z S1 H1 ∧ RVs X.K φ1 Z H1 vs ds ∧ EndG X.K X.mw W φ1 Z H1 (fun φ' H' d _ => ∀ v, RV X.K φ' Z H' v d → Q v H') (match dzOf S1 ds with
      | some kv => .ok (D.ref S1.length) (S1 ++ [.dct kv])
      | none => .bad)) := tG.seq r rf q fun φ1 H1 ds S1 e1 r1 rf1 q1 vs rvs => ⟨φ1, ds, S1, r1, rvs, q1⟩
  refine Call_ (ld_blt I g2 hm2 PyProof.Rows.boot_zip (PyProof.Rows.callWith_type1 (thn (pa.run pos2 pins s σ H _ I hA) fun us s1 ⟨vs, H1, I1, rv, φ1, ds, S1, r1, rvs, q1⟩ => ?_) (hs _) (hpl _)))
  unfold dzOf at q1
  split at q1
  · rename_i kv hkv
    split at hkv
    · rename_i x y
      split at hkv
      · rename_i l m hl hm
        split at hkv
        · rename_i hc
          cases hkv
          obtain ⟨few, ks, hks, hnd⟩ := hc
          obtain ⟨vx, vy, rfl, rx, ry⟩ := rvs.twoD
          obtain ⟨ux, uy, rfl, rux, ruy⟩ := Vals.two rv
          obtain ⟨a, xs, rfl, sx, rxs⟩ := rx.seq r1 hl
          obtain ⟨b, ys, rfl, sy, rys⟩ := ry.seq r1 hm
          cases rux
          cases ruy
          obtain ⟨c, rfl, hcs⟩ : ∃ c : Src, a = c.addr ∧ c.Sq X.K H1 xs := by
            rcases sx with h | h
            · exact ⟨.L a, rfl, h⟩
            · exact ⟨.T a, rfl, h⟩
          obtain ⟨d, rfl, hds⟩ : ∃ d : Src, b = d.addr ∧ d.Sq X.K H1 ys := by
            rcases sy with h | h
            · exact ⟨.L b, rfl, h⟩
            · exact ⟨.T b, rfl, h⟩
          obtain ⟨its, rv1, p1, l1⟩ := Src.its I1 hcs
          obtain ⟨its2, rv2, p3, l2⟩ := Src.its I1 hds
          obtain ⟨ps, a1, a2, a3, a4, a5⟩ := dz_ps I1 rxs rys rv1 rv2 hks
          refine zip_begins2 (c.begins its.toArray) (d.begins its2.toArray) p1 p3 fun h' hz hTI hTO h1 h2 hsz hk => ?_
          show wpAny _ _ (spliced []) _ _ _
          refine Calls.spliced_nil ?_
          have kin : ∀ (c : Src) (vs : Array Value), c.Is s1.heap vs → c.Is h' vs := fun c vs p => by
            cases c with
            | L a => exact Heap.IsList.at p fun o e => hk _ o e
            | T a => obtain ⟨o, e, rest⟩ := p; exact ⟨o, hk _ _ e, rest⟩
          have lt : ∀ {z o}, s1.heap.get? z = some o → z < s1.heap.objs.size := fun e => Heap.lt_size e
          have notw : ∀ {z o}, s1.heap.get? z = some o → z ∉ [s1.heap.objs.size + 4, s1.heap.objs.size + 3, s1.heap.objs.size, s1.heap.objs.size + 1] := fun {z o} e hm => by
            have := lt e
            simp only [List.mem_cons, List.not_mem_nil, or_false] at hm
            rcases hm with q | q | q | q <;> (rw [q] at this; exact absurd this (by simp only [Nat.not_lt]; first | exact Nat.le_refl _ | exact Nat.le_add_right _ _))
          have len : its.length ≤ 1000 := by rw [← rv1.length, rxs.length]; exact few
          refine call_dict_pairsH (knd := nestedKind X.prog X.w) (ps := ps) (argZip l1 l2 its.toArray its2.toArray) (I1.ok.hd calm) (by show X.A.units + 1 + 1 + 8 < cLine; omega) ⟨hz, hTI, ⟨_, _, hTO⟩, ⟨c.first h1, kin c _ p1⟩, ⟨d.first h2, kin d _ p3⟩⟩ ⟨by simp [a3], fun i key v e => a4 i key v (by simpa using e.1) (by simpa using e.2)⟩ (fun h'' hk2 z hz2 => ?_) (by simp only [List.size_toArray]; exact Nat.le_trans (Nat.min_le_left _ _) (Nat.le_trans len (by decide))) fun h'' tk hd2 hk2 => ?_
          · have is1 : (nestedKind X.prog X.w).is s1.heap z.1 z.2.1 := a5 z hz2
            refine nestedKind_stays.stays (fun b o vs n e _ => ?_) is1
            exact hk2 b o (Nat.ne_of_lt (Nat.lt_of_lt_of_le (lt e) (by show s1.heap.objs.size ≤ h'.objs.size; omega))) (notw e) (hk _ _ e)
          · have keep : ∀ b o, s1.heap.get? b = some o → h''.get? b = some o := fun b o e => hk2 b o (notw e) (hk _ _ e)
            rw [st_all (xs := []) (by rw [List.nil_append, a2]; exact hnd), List.nil_append] at hd2
            obtain ⟨o, es, ep, b1, b2, b3, b4, b5, b6⟩ := hd2
            replace b1 : h''.get? h'.objs.size = some o := b1
            have hle : s1.heap.objs.size ≤ h'.objs.size := by omega
            have fresh : H1 h'.objs.size = none := I1.hok.fresh hle
            have nz : h'.objs.size ∉ Z := fun hz => (r1.zs _ hz).2 fresh
            have tk0 : ∀ (u : HO), ObjOk X.prog X.w (upd H1 h'.objs.size u) h'' h'.objs.size u → Inv X pins σ (upd H1 h'.objs.size u) { s1 with heap := h'', toks := tk } := fun u new => I1.laid keep hle new
            have rvu : ∀ (u : HO) v d, RV X.K φ1 Z H1 v d → RV X.K (φ1 ++ [h'.objs.size]) Z (upd H1 h'.objs.size u) v d := fun u v d q => RV.toφ ((q.addZ fresh).mono r1.nt (Ex.of_same fresh))
            have fin : ∀ (u : HO), RO X.K X.mw (φ1 ++ [h'.objs.size]) Z (upd H1 h'.objs.size u) h'.objs.size (.dct (l.zip m)) → Q (.ref h'.objs.size) (upd H1 h'.objs.size u) := fun u ro => by
              have rz := r1.addZ (o := u) fresh
              refine q1 (φ1 ++ [h'.objs.size]) _ (Ex.push fresh) (RepS.toφO nz rz ro) _ (.ref ?_)
              rw [← r1.len, List.getElem?_append_right (Nat.le_refl _), Nat.sub_self]
              rfl
            have nsys : (h'.objs.size == sysModules) = false := beq_eq_false_iff_ne.mpr (Ne.symm (Nat.ne_of_lt (Nat.lt_of_lt_of_le I1.big hle)))
            by_cases hkv0 : l.zip m = []
            · refine ⟨.ref h'.objs.size, _, tk0 (.dK []) ?_, rfl, fin (.dK []) ?_⟩
              · have ps0 : ps = [] := by
                  rw [hkv0] at a1
                  cases a1
                  rfl
                subst ps0
                have es0 : es = #[] := Array.toList_inj.mp (by simpa using b4)
                subst es0
                obtain ⟨o2, es2, ep2, c1, c2, c3, c4, c5, c6⟩ := Heap.DictOf.new (knd := mixKind X.prog X.w) s1.heap
                exact ⟨Nat.zero_le _, nsys, [], .nil, o, #[], ep, b1, b2, b3, (by first | exact True.intro | (intro e he; simp at he) | simp [KeysOf]), (by first | exact .nil | rfl | simp [Pairs]), List.nodup_nil⟩
              · rw [hkv0]
                exact .dk upd_same .nil
            · refine ⟨.ref h'.objs.size, _, tk0 (.ext fun h => h.get? h'.objs.size = some o) ⟨b1, ⟨o, b1⟩, fun h1 h2 q1 q2 => q2 _ q1⟩, rfl, fin _ ?_⟩
              refine .dt upd_same b2 b3 b4 b6 ?_ nsys hkv0 (a1.imp fun v d q => rvu _ v d q)
              rw [a3]
              exact Nat.le_trans (Nat.min_le_left _ _) (Nat.le_trans len (by decide))
        · cases hkv
      · cases hkv
    · cases hkv
  · exact q1.elim
end
end MP

/-! MP, part t: what is not reached; methods without arguments; sorted lists of tuples of numbers. -/
namespace MP
open PySem L2 PySem.Spec PyProof.Rows
def mBadS : M Fl := fun _ _ => .bad
def mBadE : M D := fun _ _ => .bad
section
variable {G : Gs} {Γ : Ctx}
theorem js_bad {st : Stmt} : JS G Γ st mBadS := fun X W hx => by
  obtain ⟨rfl⟩ := hx
  exact ⟨fun pins s σ H Dn I ⟨φ, Z, ρ, S, r, rf, q⟩ => q.elim⟩
theorem je_bad {e : Expr} : JE G Γ e mBadE := fun X W hx => by
  obtain ⟨rfl⟩ := hx
  exact ⟨fun pins s σ H Q I ⟨φ, Z, ρ, S, r, rf, q⟩ => q.elim⟩
theorem je_meth0 {c name : Str} {f : MP.Fn} {o : Expr} {apos pos : Pos} {mo : M D} (h : HasM G Γ.k c name 1 f) (ho : JE G Γ o mo) {pl : Env → Sem Bool}
    (ht : ∀ env, eval (.Call (.Attribute o name apos) [] [] pos) env = (do
      let ov ← eval o env
      standAt apos.atName
      let (f, first) ← holding [ov] (getMethod ov name (pl env))
      callWith pos f first (backTo pos (starEach [] env)) (backToKw pos (keywordEach [] env))) := by intro _; rfl) : JE G Γ (.Call (.Attribute o name apos) [] [] pos) (mMeth c name f mo mNilA) := fun X W hx => by
  have p1 := ho X W hx
  have hr := hx.room
  have gu := hx.gd
  have tk := hx.tk
  obtain ⟨C, a, fd, ps, h1, h2, h3, h4, h5⟩ := h
  obtain ⟨rfl⟩ := hx
  refine (pg_meth0 (E := fun c d H' => W c d H') p1 h2 h3 h5 gu hr h4 .nil (passes_call tk fun c d σ H' q => q) (ht _)).weak fun σ H Q hl' ⟨φ, Z, ρ, S, r, rf, q⟩ => ?_
  refine tG.seq r rf q fun φ1 H1 x S1 e1 r1 rf1 q1 v rv => ?_
  cases hi : insOf c x S1 with
  | none => simp only [hi] at q1; exact q1.elim
  | some fs =>
    simp only [hi] at q1
    split at q1
    · rename_i hno
      obtain ⟨n', rfl, hS⟩ := insOf_some hi
      obtain ⟨b, rfl, hb, rO⟩ := r1.getV rv hS
      cases rO with
      | ins g1 g2 g3 =>
        cases h1.symm.trans g1
        refine ⟨b, _, _, rfl, g2, g3.look.1 hno, ?_⟩
        exact ⟨rfl, φ1, Z, S1, [_], r1, .cons rv .nil, q1⟩
    · exact q1.elim
end
/-! ### sorted lists -/
def numD : D → Option Int
  | .int i => some i
  | _ => none
def intsZ : D → Option (List Int)
  | .tup l => optAll numD l
  | _ => none
theorem intsZ_some {x : D} {ns : List Int} (h : intsZ x = some ns) : x = .tup (ns.map D.int) := by
  unfold intsZ at h
  split at h
  · rename_i l
    congr 1
    induction l generalizing ns with
    | nil => cases h; rfl
    | cons d l ih =>
      simp only [optAll] at h
      split at h
      · rename_i a as h1 h2
        cases h
        rw [List.map_cons, ← ih h2]
        cases d with
        | int i => cases h1; rfl
        | _ => cases h1
      · cases h
  · cases h
structure SortOk (l : List D) : Prop where
  few : l.length < 64
  ex : ∃ d, 1 ≤ d ∧ ∀ x ∈ l, ∃ ns, intsZ x = some ns ∧ ns.length = d ∧ TS.Bd 1000 ns
def codeD (x : D) : Int := TS.code 1000 ((intsZ x).getD [])
def insD (x : D) : List D → List D
  | [] => [x]
  | y :: l => if codeD x ≤ codeD y then x :: y :: l else y :: insD x l
def sortD : List D → List D
  | [] => []
  | x :: l => insD x (sortD l)
theorem insD_perm {x : D} : ∀ {l : List D}, (insD x l).Perm (x :: l)
  | [] => .refl _
  | y :: l => by
    simp only [insD]
    split
    · exact .refl _
    · exact (insD_perm.cons y).trans (.swap x y l)
theorem sortD_perm : ∀ {l : List D}, (sortD l).Perm l
  | [] => .refl _
  | x :: l => insD_perm.trans (sortD_perm.cons x)
abbrev LeD (x y : D) : Prop := codeD x ≤ codeD y
theorem insD_sorted {x : D} : ∀ {l : List D}, l.Pairwise LeD → (insD x l).Pairwise LeD
  | [], _ => by simp [insD]
  | y :: l, h => by
    rw [List.pairwise_cons] at h
    simp only [insD]
    split
    · rename_i c
      rw [List.pairwise_cons, List.pairwise_cons]
      exact ⟨fun z hz => by
        rcases List.mem_cons.mp hz with rfl | hz
        · exact c
        · exact Int.le_trans c (h.1 z hz), h⟩
    · rename_i c
      rw [List.pairwise_cons]
      refine ⟨fun z hz => ?_, insD_sorted h.2⟩
      rcases List.mem_cons.mp (insD_perm.mem_iff.mp hz) with rfl | hz
      · show codeD y ≤ codeD z
        omega
      · exact h.1 z hz
theorem sortD_sorted : ∀ {l : List D}, (sortD l).Pairwise LeD
  | [] => .nil
  | x :: l => insD_sorted sortD_sorted
theorem code_inj {B : Int} : ∀ {n m : List Int}, n.length = m.length → TS.Bd B n → TS.Bd B m → TS.code B n = TS.code B m → n = m
  | [], [], _, _, _, _ => rfl
  | [], _ :: _, h, _, _, _ => by simp at h
  | _ :: _, [], h, _, _, _ => by simp at h
  | x :: n, y :: m, h, hn, hm, e => by
    have hl : n.length = m.length := by simpa using h
    have exy : x = y := by
      rcases Int.lt_trichotomy x y with c | c | c
      · have := TS.code_lt hl hn.tail hm.tail c
        omega
      · exact c
      · have := TS.code_lt hl.symm hm.tail hn.tail c
        omega
    subst exy
    have e2 : TS.code B n = TS.code B m := by
      have e3 : x * B ^ n.length + TS.code B n = x * B ^ m.length + TS.code B m := e
      rw [hl] at e3
      omega
    rw [code_inj hl hn.tail hm.tail e2]
theorem SortOk.inj {l : List D} (h : SortOk l) {x y : D} (hx : x ∈ l) (hy : y ∈ l) (e : codeD x = codeD y) : x = y := by
  obtain ⟨d, _, hd⟩ := h.ex
  obtain ⟨n, n1, n2, n3⟩ := hd x hx
  obtain ⟨m, m1, m2, m3⟩ := hd y hy
  unfold codeD at e
  rw [n1, m1] at e
  rw [intsZ_some n1, intsZ_some m1, code_inj (n2.trans m2.symm) n3 m3 e]
theorem sorted_uniq : ∀ {l m : List D}, l.Perm m → l.Pairwise LeD → m.Pairwise LeD → (∀ x ∈ l, ∀ y ∈ l, codeD x = codeD y → x = y) → l = m
  | [], m, p, _, _, _ => p.nil_eq
  | x :: l, [], p, _, _, _ => absurd p.length_eq (by simp)
  | x :: l, y :: m, p, h1, h2, inj => by
    have hx : y ∈ x :: l := p.mem_iff.mpr List.mem_cons_self
    have hy : x ∈ y :: m := p.mem_iff.mp List.mem_cons_self
    rw [List.pairwise_cons] at h1 h2
    have le1 : codeD x ≤ codeD y := by
      rcases List.mem_cons.mp hx with e | hx
      · rw [e]; exact Int.le_refl _
      · exact h1.1 y hx
    have le2 : codeD y ≤ codeD x := by
      rcases List.mem_cons.mp hy with e | hy
      · rw [e]; exact Int.le_refl _
      · exact h2.1 x hy
    have e : x = y := inj x List.mem_cons_self y hx (by omega)
    subst e
    rw [sorted_uniq p.cons_inv h1.2 h2.2 fun a ha b hb => inj a (List.mem_cons_of_mem _ ha) b (List.mem_cons_of_mem _ hb)]
section
variable {K : PySem.W.Frag} {φ Z : List Addr} {H : Hp}
theorem RVs.perm {xs ys : List V} (p : ys.Perm xs) : ∀ {l : List D}, RVs K φ Z H xs l → ∃ m : List D, m.Perm l ∧ RVs K φ Z H ys m := by
  have key : ∀ {xs ys : List V}, xs.Perm ys → ∀ {l : List D}, RVs K φ Z H xs l → ∃ m : List D, l.Perm m ∧ RVs K φ Z H ys m := by
    intro xs ys p
    induction p with
    | nil => exact fun r => ⟨_, .refl _, r⟩
    | cons x _ ih =>
      intro l r
      cases r with
      | cons r1 r2 =>
        obtain ⟨m, h1, h2⟩ := ih r2
        exact ⟨_, h1.cons _, .cons r1 h2⟩
    | swap x y l =>
      intro l r
      cases r with
      | cons r1 r2 =>
        cases r2 with
        | cons r2 r3 => exact ⟨_, .swap _ _ _, .cons r2 (.cons r1 r3)⟩
    | trans _ _ ih1 ih2 =>
      intro l r
      obtain ⟨m, h1, h2⟩ := ih1 r
      obtain ⟨n, g1, g2⟩ := ih2 h2
      exact ⟨n, h1.trans g1, g2⟩
  intro l r
  obtain ⟨m, h1, h2⟩ := key p.symm r
  exact ⟨m, h1.symm, h2⟩
theorem RVs.memD : ∀ {xs : List V} {l : List D}, RVs K φ Z H xs l → ∀ x ∈ xs, ∃ d ∈ l, RV K φ Z H x d
  | _, _, .nil, x, hx => by cases hx
  | _, _, .cons r1 r2, x, hx => by
    rcases List.mem_cons.mp hx with rfl | hx
    · exact ⟨_, List.mem_cons_self, r1⟩
    · obtain ⟨d, h1, h2⟩ := r2.memD x hx
      exact ⟨d, List.mem_cons_of_mem _ h1, h2⟩
theorem RVs.memV : ∀ {xs : List V} {l : List D}, RVs K φ Z H xs l → ∀ d ∈ l, ∃ x ∈ xs, RV K φ Z H x d
  | _, _, .nil, d, hd => by cases hd
  | _, _, .cons r1 r2, d, hd => by
    rcases List.mem_cons.mp hd with rfl | hd
    · exact ⟨_, List.mem_cons_self, r1⟩
    · obtain ⟨x, h1, h2⟩ := r2.memV d hd
      exact ⟨x, List.mem_cons_of_mem _ h1, h2⟩
theorem RVs.pair {R : V → V → Prop} {R' : D → D → Prop} : ∀ {xs : List V} {l : List D}, RVs K φ Z H xs l → xs.Pairwise R → (∀ x y a b, a ∈ l → b ∈ l → RV K φ Z H x a → RV K φ Z H y b → R x y → R' a b) → l.Pairwise R'
  | _, _, .nil, _, _ => .nil
  | _, _, .cons r1 r2, hp, h => by
    rw [List.pairwise_cons] at hp ⊢
    refine ⟨fun b hb => ?_, r2.pair hp.2 fun x y a b ha hb => h x y a b (List.mem_cons_of_mem _ ha) (List.mem_cons_of_mem _ hb)⟩
    obtain ⟨y, hy, ry⟩ := r2.memV b hb
    exact h _ y _ b List.mem_cons_self (List.mem_cons_of_mem _ hb) r1 ry (hp.1 y hy)
theorem rvs_nums : ∀ {ns : List Int} {us : List V}, RVs K φ Z H us (ns.map D.int) → us = ns.map V.int
  | [], _, r => by cases r; rfl
  | n :: ns, _, r => by
    cases r with
    | cons r1 r2 =>
      cases r1
      rw [List.map_cons, ← rvs_nums r2]
theorem RV.tupI {x : V} {d : D} {ns : List Int} (r : RV K φ Z H x d) (h : intsZ d = some ns) : TupI K H x ns := by
  have e := intsZ_some h
  subst e
  cases r with
  | tup h1 h2 =>
    have := rvs_nums h2
    subst this
    exact ⟨_, rfl, h1.sq⟩
end
open Classical in
/-- sorted(x): a list of tuples of numbers, as many in each -/
noncomputable def fSorted : OpNL := fun ds S => match ds with
  | [x] => match lstD S x with
    | some l => if SortOk l then some (sortD l) else none
    | none => none
  | _ => none
theorem jb_sorted {G : Gs} {Γ : Ctx} : JBN G Γ (.builtin "sorted") fSorted := fun X W hx => by
  obtain ⟨rfl⟩ := hx
  rintro pins s σ H vs us Q I rv ⟨φ, Z, S, ds, l', r, r1, hd, k⟩
  unfold fSorted at hd
  split at hd
  · rename_i x
    split at hd
    · rename_i l hl
      split at hd
      · rename_i hs
        cases hd
        obtain ⟨v, rfl, rx⟩ := r1.oneD
        obtain ⟨a, xs, rfl, h1, h2⟩ := rx.lst r hl
        obtain ⟨d, hd1, hdx⟩ := hs.ex
        refine cr_sortT (d := d) (B := 1000) hd1 pins s σ H _ us Q I rv ⟨a, xs, rfl, h1, by rw [h2.length]; exact hs.few, fun x hx => ?_, fun ys p hp hpw hn => ?_⟩
        · obtain ⟨dx, m1, m2⟩ := h2.memD x hx
          obtain ⟨ns, n1, n2, n3⟩ := hdx dx m1
          exact ⟨ns, m2.tupI n1, n2, n3⟩
        · obtain ⟨m, pm, rm⟩ := h2.perm hp
          have sm : m.Pairwise LeD := rm.pair hpw fun x y a b ha hb rx ry hR => by
            obtain ⟨n, n1, _⟩ := hdx a (pm.mem_iff.mp ha)
            obtain ⟨n', n1', _⟩ := hdx b (pm.mem_iff.mp hb)
            have := hR n n' (rx.tupI n1) (ry.tupI n1')
            show codeD a ≤ codeD b
            unfold codeD
            rw [n1, n1']
            exact this
          have e : m = sortD l := sorted_uniq (pm.trans sortD_perm.symm) sm sortD_sorted fun x hx y hy => hs.inj (pm.mem_iff.mp hx) (pm.mem_iff.mp hy)
          subst e
          obtain ⟨g1, g2, g3, g4⟩ := newL_give r hn rm
          exact k φ _ g1 g2 p ys hn upd_same g3 g4
      · cases hd
    · cases hd
  · cases hd
end MP

/-! MP, part u: sorted(set(x)), x a list of tuples of numbers. -/
namespace MP
open PySem L2 PySem.Spec PyProof.Rows
def insS (x : D) : List D → List D
  | [] => [x]
  | y :: l => if codeD x < codeD y then x :: y :: l else if codeD x = codeD y then y :: l else y :: insS x l
def sortS : List D → List D
  | [] => []
  | x :: l => insS x (sortS l)
abbrev LtD (x y : D) : Prop := codeD x < codeD y
theorem insS_mem {x z : D} : ∀ {l : List D}, (∀ y ∈ l, codeD x = codeD y → x = y) → (z ∈ insS x l ↔ z = x ∨ z ∈ l)
  | [], _ => by simp [insS]
  | y :: l, h => by
    have ih := insS_mem (x := x) (z := z) (l := l) fun y hy => h y (List.mem_cons_of_mem _ hy)
    simp only [insS]
    split
    · simp
    · split
      · rename_i c
        have := h y List.mem_cons_self c
        subst this
        simp
      · rw [List.mem_cons, ih, List.mem_cons]
        constructor
        · rintro (h | h | h)
          · exact .inr (.inl h)
          · exact .inl h
          · exact .inr (.inr h)
        · rintro (h | h | h)
          · exact .inr (.inl h)
          · exact .inl h
          · exact .inr (.inr h)
theorem insS_sorted {x : D} : ∀ {l : List D}, (∀ y ∈ l, codeD x = codeD y → x = y) → l.Pairwise LtD → (insS x l).Pairwise LtD
  | [], _, _ => by simp [insS]
  | y :: l, hi, h => by
    have h0 := h
    rw [List.pairwise_cons] at h
    simp only [insS]
    split
    · rename_i c
      rw [List.pairwise_cons]
      exact ⟨fun z hz => by
        rcases List.mem_cons.mp hz with rfl | hz
        · exact c
        · exact Int.lt_trans c (h.1 z hz), h0⟩
    · split
      · exact h0
      · rename_i c1 c2
        rw [List.pairwise_cons]
        have hi2 : ∀ y ∈ l, codeD x = codeD y → x = y := fun y hy => hi y (List.mem_cons_of_mem _ hy)
        refine ⟨fun z hz => ?_, insS_sorted hi2 h.2⟩
        rcases (insS_mem hi2).mp hz with rfl | hz
        · show codeD y < codeD z
          omega
        · exact h.1 z hz
theorem sortS_mem : ∀ {l : List D}, (∀ x ∈ l, ∀ y ∈ l, codeD x = codeD y → x = y) → ∀ {z}, z ∈ sortS l ↔ z ∈ l
  | [], _, z => by simp [sortS]
  | x :: l, h, z => by
    have ih : ∀ {z}, z ∈ sortS l ↔ z ∈ l := sortS_mem fun a ha b hb => h a (List.mem_cons_of_mem _ ha) b (List.mem_cons_of_mem _ hb)
    simp only [sortS]
    rw [insS_mem fun y hy => h x List.mem_cons_self y (List.mem_cons_of_mem _ (ih.mp hy)), ih, List.mem_cons]
theorem sortS_sorted : ∀ {l : List D}, (∀ x ∈ l, ∀ y ∈ l, codeD x = codeD y → x = y) → (sortS l).Pairwise LtD
  | [], _ => .nil
  | x :: l, h => by
    have h2 : ∀ a ∈ l, ∀ b ∈ l, codeD a = codeD b → a = b := fun a ha b hb => h a (List.mem_cons_of_mem _ ha) b (List.mem_cons_of_mem _ hb)
    exact insS_sorted (fun y hy => h x List.mem_cons_self y (List.mem_cons_of_mem _ ((sortS_mem h2).mp hy))) (sortS_sorted h2)
theorem strict_uniq : ∀ {l m : List D}, l.Pairwise LtD → m.Pairwise LtD → (∀ x, x ∈ l ↔ x ∈ m) → l = m
  | [], [], _, _, _ => rfl
  | [], y :: m, _, _, h => absurd ((h y).mpr List.mem_cons_self) (by simp)
  | x :: l, [], _, _, h => absurd ((h x).mp List.mem_cons_self) (by simp)
  | x :: l, y :: m, h1, h2, h => by
    rw [List.pairwise_cons] at h1 h2
    have e : x = y := by
      rcases List.mem_cons.mp ((h x).mp List.mem_cons_self) with e | hx
      · exact e
      · rcases List.mem_cons.mp ((h y).mpr List.mem_cons_self) with e | hy
        · exact e.symm
        · have a := h2.1 x hx
          have b := h1.1 y hy
          have a' : codeD y < codeD x := a
          have b' : codeD x < codeD y := b
          omega
    subst e
    rw [strict_uniq h1.2 h2.2 fun z => ?_]
    constructor
    · intro hz
      rcases List.mem_cons.mp ((h z).mp (List.mem_cons_of_mem _ hz)) with e | hm
      · have a : codeD x < codeD z := h1.1 z hz
        rw [e] at a
        omega
      · exact hm
    · intro hz
      rcases List.mem_cons.mp ((h z).mpr (List.mem_cons_of_mem _ hz)) with e | hm
      · have a : codeD x < codeD z := h2.1 z hz
        rw [e] at a
        omega
      · exact hm
open Classical in
/-- sorted(set(x)) -/
noncomputable def fSortSet : OpNL := fun ds S => match ds with
  | [x] => match lstD S x with
    | some l => if SortOk l then some (sortS l) else none
    | none => none
  | _ => none
def tupD (p : Addr × List Int) : D := .tup (p.2.map D.int)
section
variable {K : PySem.W.Frag} {φ Z : List Addr} {H : Hp}
theorem ks_of : ∀ {xs : List V} {l : List D}, RVs K φ Z H xs l → (∀ x ∈ l, ∃ ns, intsZ x = some ns) → ∃ ks : List (Addr × List Int), xs = (ks.map fun p => V.ref p.1) ∧ l = ks.map tupD ∧ ∀ p ∈ ks, RV K φ Z H (.ref p.1) (tupD p)
  | _, _, .nil, _ => ⟨[], rfl, rfl, fun p hp => by cases hp⟩
  | _, _, .cons r1 r2, h => by
    obtain ⟨ks, h1, h2, h3⟩ := ks_of r2 fun x hx => h x (List.mem_cons_of_mem _ hx)
    obtain ⟨ns, hn⟩ := h _ List.mem_cons_self
    have e := intsZ_some hn
    subst e
    cases r1 with
    | @tup a xs ds t1 t2 =>
      refine ⟨(a, ns) :: ks, by rw [h1]; rfl, by rw [h2]; rfl, fun p hp => ?_⟩
      rcases List.mem_cons.mp hp with rfl | hp
      · exact .tup t1 t2
      · exact h3 p hp
theorem rvs_of : ∀ {ks : List (Addr × List Int)}, (∀ p ∈ ks, RV K φ Z H (.ref p.1) (tupD p)) → RVs K φ Z H (ks.map fun p => V.ref p.1) (ks.map tupD)
  | [], _ => .nil
  | p :: ks, h => .cons (h p List.mem_cons_self) (rvs_of fun q hq => h q (List.mem_cons_of_mem _ hq))
end
theorem optAll_num {ns : List Int} : optAll numD (ns.map D.int) = some ns := by
  induction ns with
  | nil => rfl
  | cons n ns ih => simp only [List.map_cons, optAll, numD, ih]
theorem intsZ_tupD {p : Addr × List Int} : intsZ (tupD p) = some p.2 := by
  unfold tupD intsZ
  exact optAll_num
theorem tupD_sq {K : PySem.W.Frag} {φ Z : List Addr} {H : Hp} {p : Addr × List Int} (r : RV K φ Z H (.ref p.1) (tupD p)) : SqT K H p.1 (p.2.map V.int) := by
  obtain ⟨t, e, h⟩ := r.tupI intsZ_tupD
  cases e
  exact h
section
variable {G : Gs} {Γ : Ctx}
theorem jn_sortset {e : Expr} {p pos p2 pos2 : Pos} {ma : M (List D)} (hm1 : G.mg "sorted" = none) (hm2 : G.mg "set" = none) (ha : JA G Γ [e] ma) (hg1 : Γ.sc.names.lookup ("sorted" : Str) = some .globalImplicit := by rfl) (hg2 : Γ.sc.names.lookup ("set" : Str) = some .globalImplicit := by rfl)
    (hs : ∀ env, starEach [e] env = (false, eval e env) :: starEach [] env := by intro _; rfl) :
    JN G Γ (.Call (.Name "sorted" p) [.Call (.Name "set" p2) [e] [] pos2] [] pos) (mCBN fSortSet ma) := fun X W hx => by
  have pa := ha X W hx
  have g1 := glOf hx hg1
  have g2 := glOf hx hg2
  have un := hx.room.un
  have calm := hx.calm
  obtain ⟨rfl⟩ := hx
  have q1 : PE X (.Call (.Name "set" p2) [e] [] pos2) (tCB (rSetOfT X.K X.prog X.w) (tA X.K X.mw W ma)) := pe_callTy (cr_setOfT calm (by omega)) g2 hm2 (by decide +kernel) pa (by decide) (by decide) (hs _) rfl
  have q2 : PA X [.Call (.Name "set" p2) [e] [] pos2] (tCons (tCB (rSetOfT X.K X.prog X.w) (tA X.K X.mw W ma)) tNil) := pa_cons q1 pa_nil rfl
  refine (pe_callB (r := rSortedT X.K X.prog X.w) (cr_sortedT calm) g1 hm1 (by decide +kernel) q2 (by decide) (by decide) rfl rfl).weak fun σ H Q _ ⟨φ, Z, ρ, S, r, rf, q⟩ => ?_
  refine tG.seq r rf q fun φ1 H1 ds S1 e1 r1 rf1 q1 vs rvs => ?_
  unfold fSortSet at q1
  split at q1
  · rename_i x
    split at q1
    · rename_i l hl
      split at q1
      · rename_i hso
        obtain ⟨v, rfl, rx⟩ := rvs.oneD
        obtain ⟨a, xs, rfl, h1, h2⟩ := rx.lst r1 hl
        obtain ⟨d, hd1, hdx⟩ := hso.ex
        obtain ⟨ks, rfl, rfl, hk⟩ := ks_of h2 fun x hx => by obtain ⟨ns, n1, _⟩ := hdx x hx; exact ⟨ns, n1⟩
        refine ⟨a, ks, rfl, h1, fun p hp => tupD_sq (hk p hp), by have := hso.few; simpa using this, fun b L hb hL1 hL2 => ?_⟩
        have r2 : RepS X.K X.mw φ1 Z S1 (upd H1 b (SetTO X.prog X.w b L)) := r1.lay hb
        have ex2 : Ex φ1 H1 φ1 (upd H1 b (SetTO X.prog X.w b L)) := Ex.of_same hb
        have hk2 : ∀ p ∈ ks, RV X.K φ1 Z (upd H1 b (SetTO X.prog X.w b L)) (.ref p.1) (tupD p) := fun p hp => (hk p hp).mono r1.nt ex2
        refine ⟨b, L, d, 1000, rfl, upd_same, fun p hp => tupD_sq (hk2 p (hL1 p hp)), hd1, fun p hp => ?_, fun L' c pm nd few pw hc => ?_⟩
        · obtain ⟨ns, n1, n2, n3⟩ := hdx (tupD p) (List.mem_map.mpr ⟨p, hL1 p hp, rfl⟩)
          rw [intsZ_tupD] at n1
          cases n1
          exact ⟨n2, n3⟩
        · have rL : RVs X.K φ1 Z (upd H1 b (SetTO X.prog X.w b L)) (L'.map fun p => V.ref p.1) (L'.map tupD) := rvs_of fun p hp => hk2 p (hL1 p (pm.mem_iff.mp hp))
          have es : L'.map tupD = sortS (ks.map tupD) := by
            refine strict_uniq ?_ (sortS_sorted fun x hx y hy => hso.inj hx hy) fun z => ?_
            · rw [List.pairwise_map]
              have nd' : L'.Pairwise (fun p q => p.2 ≠ q.2) := List.pairwise_map.mp nd
              refine (List.Pairwise.and_mem.mp (nd'.and pw)).imp ?_
              intro p q ⟨hp, hq, hne, hle⟩
              show codeD (tupD p) < codeD (tupD q)
              unfold codeD
              rw [intsZ_tupD, intsZ_tupD]
              simp only [Option.getD_some]
              obtain ⟨ns, n1, n2, n3⟩ := hdx (tupD p) (List.mem_map.mpr ⟨p, hL1 p (pm.mem_iff.mp hp), rfl⟩)
              obtain ⟨ms, m1, m2, m3⟩ := hdx (tupD q) (List.mem_map.mpr ⟨q, hL1 q (pm.mem_iff.mp hq), rfl⟩)
              rw [intsZ_tupD] at n1 m1
              cases n1
              cases m1
              have : TS.code 1000 p.2 ≠ TS.code 1000 q.2 := fun e => hne (code_inj (n2.trans m2.symm) n3 m3 e)
              omega
            · rw [sortS_mem fun x hx y hy => hso.inj hx hy]
              constructor
              · intro hz
                obtain ⟨p, hp, rfl⟩ := List.mem_map.mp hz
                exact List.mem_map.mpr ⟨p, hL1 p (pm.mem_iff.mp hp), rfl⟩
              · intro hz
                obtain ⟨p, hp, rfl⟩ := List.mem_map.mp hz
                obtain ⟨q, hq, e⟩ := List.mem_map.mp (hL2 p hp)
                refine List.mem_map.mpr ⟨q, pm.mem_iff.mpr hq, ?_⟩
                unfold tupD
                rw [e]
          rw [es] at rL
          have hc1 : H1 c = none := by
            by_cases e : c = b
            · rw [e, upd_same] at hc
              cases hc
            · rwa [upd_ne e] at hc
          obtain ⟨k1, k2, k3, k4⟩ := newL_give r2 hc rL
          exact q1 φ1 _ (ex2.trans k1) k2 c _ (r1.back e1 hc1) upd_same k3 k4
      · exact q1.elim
    · exact q1.elim
  · exact q1.elim
end
end MP

/-! MP, part v: two names set at once. -/
namespace MP
open PySem L2
section
variable {G : Gs} {Γ : Ctx}
theorem js_par {x y : Str} {a b : Expr} {px py pt pt2 pos : Pos} {kt k2 : Nat} {ma : M (List D)} (i j : Nat) (ha : JA G Γ [a, b] ma) (hi : Γ.N[i]? = some x := by rfl) (hj : Γ.N[j]? = some y := by rfl) (hij : i ≠ j := by decide)
    (hx : Γ.sc.names.lookup x = some .local := by rfl) (hy : Γ.sc.names.lookup y = some .local := by rfl)
    (hw : ∀ env : Env, env.scope = Γ.sc → swappedStores [.Tuple [.Name x px, .Name y py] kt pt] (.Tuple [a, b] k2 pt2) env = pure (some [x, y]) := by intro env h; unfold swappedStores Env.blockKind Env.kindOf; simp only [h]; rfl)
    (hs : ∀ env : Env, env.scope = Γ.sc → swapsWithSole [.Tuple [.Name x px, .Name y py] kt pt] (.Tuple [a, b] k2 pt2) pos.line env = pure false := by intro _ _; rfl) :
    JS G Γ (.Assign [.Tuple [.Name x px, .Name y py] kt pt] (.Tuple [a, b] k2 pt2) pos) (mAsg (mTup ma) (gTupD 2 (gConsD (gN i) (gConsD (gN j) gNilD)))) := fun X W hx0 => by
  have p := ha X W hx0
  have hsc := hx0.sc
  have nd := hx0.nd
  have calm := hx0.calm
  have hi' : X.N[i]? = some x := by rw [hx0.N]; exact hi
  have hj' : X.N[j]? = some y := by rw [hx0.N]; exact hj
  have hx' : X.env.scope.names.lookup x = some .local := by rw [hsc]; exact hx
  have hy' : X.env.scope.names.lookup y = some .local := by rw [hsc]; exact hy
  obtain ⟨rfl⟩ := hx0
  refine (ps_par calm nd hi' hj' hij hx' hy' p (hw _ hsc) (hs _ hsc)).weak fun Dn σ H hl ⟨φ, Z, ρ, S, r, rf, q⟩ => ?_
  refine ⟨φ, Z, ρ, S, r, rf, ?_⟩
  cases hm : ma ρ S with
  | bad =>
    unfold mAsg mTup at q
    rw [hm] at q
    exact q
  | exc c S1 =>
    unfold mAsg mTup at q
    rw [hm] at q
    exact q
  | ok ds S1 =>
    unfold mAsg mTup at q
    rw [hm] at q
    intro φ1 H1 e1 r1 vs rvs
    simp only [Res.bind_ok] at q
    split at q
    · simp only [Res.bind_ok, gTupD] at q
      split at q
      · rename_i h2
        match ds, h2, rvs with
        | [d1, d2], _, rvs =>
          obtain ⟨v, w, rfl, rv, rw'⟩ := rvs.twoD
          simp only [gConsD, gN, gNilD, Res.bind_ok] at q
          have q1 := q φ1 H1 e1 r1
          have rf1 : RF _ φ1 Z H1 σ ρ := rf.mono r.nt e1
          refine ⟨v, w, rfl, q1 _ ?_⟩
          exact (rf1.set (by rw [hl]; exact ix_lt hi') rv).set (by rw [List.length_set, hl]; exact ix_lt hj') rw'
      · exact q.elim
    · exact q.elim
end
end MP

/-! Q, part a: what a meaning gives, reckoned: rows for simp, loops, the end of a def. -/
namespace MP
open PySem L2
/-- ends well, with P -/
structure Ok {α : Type} (r : Res α) (P : α → Sto → Prop) : Prop where
  eq : ∃ a S, r = .ok a S ∧ P a S
@[simp] theorem ok_ok {α : Type} {a : α} {S : Sto} {P : α → Sto → Prop} : Ok (.ok a S) P ↔ P a S := ⟨fun ⟨b, T, h, p⟩ => by cases h; exact p, fun p => ⟨a, S, rfl, p⟩⟩
@[simp] theorem ok_bad {α : Type} {P : α → Sto → Prop} : Ok (.bad : Res α) P ↔ False := ⟨(fun ⟨_, _, h, _⟩ => nomatch h), fun p => False.elim p⟩
@[simp] theorem ok_exc {α : Type} {c : Str} {S : Sto} {P : α → Sto → Prop} : Ok (.exc c S : Res α) P ↔ False := ⟨(fun ⟨_, _, h, _⟩ => nomatch h), fun p => False.elim p⟩
theorem Ok.imp {α : Type} {r : Res α} {P Q : α → Sto → Prop} (h : Ok r P) (f : ∀ a S, P a S → Q a S) : Ok r Q := by
  obtain ⟨a, S, e, p⟩ := h
  exact ⟨a, S, e, f a S p⟩
@[simp] theorem ok_bind {α β : Type} {r : Res α} {f : α → Sto → Res β} {P : β → Sto → Prop} : Ok (r.bind f) P ↔ Ok r fun a S => Ok (f a S) P := by cases r <;> simp
theorem Ok.bind {α β : Type} {r : Res α} {f : α → Sto → Res β} {P : β → Sto → Prop} {Q : α → Sto → Prop} (h : Ok r Q) (k : ∀ a S, Q a S → Ok (f a S) P) : Ok (r.bind f) P := ok_bind.mpr (h.imp k)
theorem Ok.of {α : Type} {r : Res α} {a : α} {S : Sto} (h : r = .ok a S) {P : α → Sto → Prop} (p : P a S) : Ok r P := ⟨a, S, h, p⟩
theorem ok_eq {α : Type} {r : Res α} {a : α} {S : Sto} (h : Ok r fun x T => x = a ∧ T = S) : r = .ok a S := by
  obtain ⟨x, T, e, rfl, rfl⟩ := h.eq
  exact e
@[simp] theorem ok_nox {α : Type} {r : Res α} {P : α → Sto → Prop} : Ok r.nox P ↔ Ok r P := by cases r <;> simp

/-- not too long -/
def gate {α : Type} (n : Nat) (r : Res α) : Res α := if n ≤ sizeLine then r else .bad
theorem le_size {n : Nat} (h : n ≤ 1000000) : n ≤ sizeLine := Nat.le_trans h (by decide)
@[simp] theorem gate_ok {α : Type} {n : Nat} {r : Res α} (h : n ≤ 1000000) : gate n r = r := if_pos (le_size h)

/-! ### rows -/
section
variable {ρ : Fr} {S : Sto}
@[simp] theorem mVar_z {d : D} : mVar 0 (some d :: ρ) S = .ok d S := rfl
@[simp] theorem mVar_s {i : Nat} {x : Option D} : mVar (i + 1) (x :: ρ) S = mVar i ρ S := rfl
@[simp] theorem mC_ap {d : D} : mC d ρ S = .ok d S := rfl
@[simp] theorem mNilA_ap : mNilA ρ S = .ok [] S := rfl
@[simp] theorem mConsA_ap {a : M D} {b : M (List D)} : mConsA a b ρ S = (a ρ S).bind fun d S1 => (b ρ S1).bind fun ds S2 => .ok (d :: ds) S2 := rfl
@[simp] theorem gN_ap {i : Nat} {d : D} : gN i d ρ S = .ok (ρ.set i (some d)) S := rfl
@[simp] theorem gNilD_ap : gNilD [] ρ S = .ok ρ S := rfl
@[simp] theorem gConsD_ap {g : TgD} {h : TgsD} {d : D} {ds : List D} : gConsD g h (d :: ds) ρ S = (g d ρ S).bind fun ρ1 S1 => h ds ρ1 S1 := rfl
@[simp] theorem gTupD_ap {n : Nat} {g : TgsD} {ds : List D} : gTupD n g (.tup ds) ρ S = if ds.length = n then g ds ρ S else .bad := rfl
@[simp] theorem gTupL_ap {n : Nat} {g : TgsD} {ds : List D} : gTupL n g (.lv ds) ρ S = if ds.length = n then g ds ρ S else .bad := rfl
@[simp] theorem mFld_ap {c f : Str} {e : M D} : mFld c f e ρ S = (e ρ S).bind fun d S1 => optR (fldOf c f d S1) S1 := rfl
@[simp] theorem mMeth_ap {c name : Str} {f : Fn} {o : M D} {a : M (List D)} : mMeth c name f o a ρ S = (o ρ S).bind fun x S1 => match insOf c x S1 with
  | some fs => if fs.lookup name = none then (a ρ S1).bind fun ds S2 => f (x :: ds) S2 else .bad
  | none => .bad := rfl
@[simp] theorem mMake_ap {c : Str} {f : Fn} {a : M (List D)} : mMake c f a ρ S = (a ρ S).bind fun ds S1 => (f (.ref S1.length :: ds) (S1 ++ [.ins c []])).bind (mkEnd S1.length) := rfl
@[simp] theorem mkEnd_ap {n : Nat} : mkEnd n .non S = .ok (.ref n) S := rfl
@[simp] theorem mOpN_ap {f : D → D → Sto → Option (List D)} {a b : M D} : mOpN f a b ρ S = (a ρ S).bind fun x S1 => (b ρ S1).bind fun y S2 => optR (f x y S2) S2 := rfl
@[simp] theorem mDictZ_ap {a : M (List D)} : mDictZ a ρ S = (a ρ S).bind fun ds S1 => match dzOf S1 ds with
  | some kv => .ok (.ref S1.length) (S1 ++ [.dct kv])
  | none => .bad := rfl
@[simp] theorem mSetF_ap {c f : Str} {o v : M D} : mSetF c f o v ρ S = (v ρ S).bind fun y S1 => (o ρ S1).bind fun x S2 => match x with
  | .ref n => match insOf c x S2 with
    | some fs => if fs.length < 1000 then .ok (.nx ρ) (S2.set n (.ins c (putFs f y fs))) else .bad
    | none => .bad
  | _ => .bad := rfl
@[simp] theorem mSeq_ap {a b : M Fl} : mSeq a b ρ S = (a ρ S).bind fun f S1 => match f with
  | .nx ρ1 => b ρ1 S1
  | f => .ok f S1 := rfl
@[simp] theorem mSkip_ap : mSkip ρ S = .ok (.nx ρ) S := rfl
@[simp] theorem mAsg_ap {e : M D} {g : TgD} : mAsg e g ρ S = (e ρ S).bind fun d S1 => (g d ρ S1).bind fun ρ' S2 => .ok (.nx ρ') S2 := rfl
@[simp] theorem mSet_ap {i : Nat} {e : M D} : mSet i e ρ S = (e ρ S).bind fun d S1 => .ok (.nx (ρ.set i (some d))) S1 := rfl
@[simp] theorem mBadS_ap : mBadS ρ S = .bad := rfl
@[simp] theorem mBadE_ap : mBadE ρ S = .bad := rfl
@[simp] theorem mRet_ap {e : M D} : mRet e ρ S = (e ρ S).bind fun d S1 => .ok (.rt d) S1 := rfl
@[simp] theorem mRetN_ap : mRetN ρ S = .ok (.rt .non) S := rfl
@[simp] theorem mDo_ap {e : M D} : mDo e ρ S = (e ρ S).bind fun _ S1 => .ok (.nx ρ) S1 := rfl
@[simp] theorem mIf_ap {c : M Bool} {a b : M Fl} : mIf c a b ρ S = (c ρ S).bind fun k S1 => if k = true then a ρ S1 else b ρ S1 := rfl
@[simp] theorem toB_ap {b : Bool} : toB (.bl b) S = .ok b S := rfl
@[simp] theorem mT_ap {e : M D} : mT e ρ S = (e ρ S).bind toB := rfl
@[simp] theorem mAndT_ap {a b : M Bool} : mAndT a b ρ S = (a ρ S).bind fun k S1 => if k = true then b ρ S1 else .ok false S1 := rfl
@[simp] theorem mOrT_ap {a b : M Bool} : mOrT a b ρ S = (a ρ S).bind fun k S1 => if k = true then .ok true S1 else b ρ S1 := rfl
@[simp] theorem mNotT_ap {a : M Bool} : mNotT a ρ S = (a ρ S).bind fun k S1 => .ok (!k) S1 := rfl
@[simp] theorem mAndV_ap {a b : M D} : mAndV a b ρ S = (a ρ S).bind fun d S1 => (toB d S1).bind fun k S1 => if k = true then b ρ S1 else .ok (.bl false) S1 := rfl
@[simp] theorem mOrV_ap {a b : M D} : mOrV a b ρ S = (a ρ S).bind fun d S1 => (toB d S1).bind fun k S1 => if k = true then .ok (.bl true) S1 else b ρ S1 := rfl
@[simp] theorem mNotV_ap {a : M D} : mNotV a ρ S = (a ρ S).bind fun d S1 => (toB d S1).bind fun k S1 => .ok (.bl (!k)) S1 := rfl
@[simp] theorem mIfE_ap {c : M Bool} {a b : M D} : mIfE c a b ρ S = (c ρ S).bind fun k S1 => if k = true then a ρ S1 else b ρ S1 := rfl
@[simp] theorem mFor_ap {it : MI} {g : TgD} {b : M Fl} : mFor it g b ρ S = (it ρ S).bind fun p S1 => forL p.2 g b p.1 ρ S1 := rfl
@[simp] theorem mOp_ap {f : Op2} {a b : M D} : mOp f a b ρ S = (a ρ S).bind fun x S1 => (b ρ S1).bind fun y S2 => optR (f x y S2) S2 := rfl
@[simp] theorem mLv_ap {m : M (List D)} : mLv m ρ S = (m ρ S).bind fun l S1 => .ok (.lv l) S1 := rfl
@[simp] theorem mRef_ap {m : M (List D)} : mRef m ρ S = (m ρ S).bind fun l S1 => .ok (.ref S1.length) (S1 ++ [.lst l]) := rfl
@[simp] theorem mTup_ap {m : M (List D)} : mTup m ρ S = (m ρ S).bind fun l S1 => gate l.length (.ok (.tup l) S1) := rfl
@[simp] theorem mLst_ap {m : M (List D)} : mLst m ρ S = (m ρ S).bind fun l S1 => gate l.length (.ok l S1) := rfl
@[simp] theorem mCB_ap {f : OpN} {a : M (List D)} : mCB f a ρ S = (a ρ S).bind fun ds S1 => optR (f ds S1) S1 := rfl
@[simp] theorem mCBN_ap {f : OpNL} {a : M (List D)} : mCBN f a ρ S = (a ρ S).bind fun ds S1 => optR (f ds S1) S1 := rfl
@[simp] theorem mNoP_ap : mNoP ρ S = .ok none S := rfl
@[simp] theorem mPart_ap {e : M D} : mPart e ρ S = (e ρ S).bind fun d S1 => match d with
  | .int i => .ok (some i) S1
  | _ => .bad := rfl
@[simp] theorem mSl_ap {f : Op3} {e : M D} {lo hi : M (Option Int)} : mSl f e lo hi ρ S = (e ρ S).bind fun x S1 => (lo ρ S1).bind fun l S2 => (hi ρ S2).bind fun h S3 => optR (f x l h S3) S3 := rfl
@[simp] theorem mMt_ap {c : TyC} {f : OpM} {o : M D} {a : M (List D)} : mMt c f o a ρ S = (o ρ S).bind fun x S1 => if c x S1 = true then (a ρ S1).bind fun ds S2 => match f x ds S2 with
    | some (d, S3) => .ok d S3
    | none => .bad
  else .bad := rfl
@[simp] theorem gSubD_ap {f : OpS} {o i : M D} {d : D} : gSubD f o i d ρ S = (o ρ S).bind fun x S1 => (i ρ S1).bind fun y S2 => match f x y d S2 with
  | some S3 => .ok ρ S3
  | none => .bad := rfl
@[simp] theorem mCall_ap {f : Fn} {a : M (List D)} : mCall f a ρ S = (a ρ S).bind fun ds S1 => f ds S1 := rfl
@[simp] theorem mIt_ap {e : M D} : mIt e ρ S = (e ρ S).bind fun d S1 => optR (seqIt S1 d) S1 := rfl
@[simp] theorem mItR_ap {a : M (List D)} : mItR a ρ S = (a ρ S).bind fun ds S1 => optR (rangeIt ds) S1 := rfl
@[simp] theorem mItZ_ap {a : M (List D)} : mItZ a ρ S = (a ρ S).bind fun ds S1 => optR (zipIt S1 ds) S1 := rfl
@[simp] theorem mItE_ap {a : M (List D)} : mItE a ρ S = (a ρ S).bind fun ds S1 => optR (enumIt S1 ds) S1 := rfl
@[simp] theorem mYes_ap : mYes ρ S = .ok true S := rfl
@[simp] theorem mLc_ap {own : List Nat} {it : MI} {bd : LcB} {t : M Bool} {e : M D} : mLc own it bd t e ρ S = (it ρ S).bind fun p S1 => gate p.1.length (lcGo p.2 bd t e (wipeF ρ own) p.1 S1) := rfl
@[simp] theorem mBack_ap {e : M D} : mBack e ρ S = (e ρ S).bind fun x S1 => optR (dBack x S1) S1 := rfl
@[simp] theorem mIsi_ap {T : String} {e : M D} : mIsi T e ρ S = (e ρ S).bind fun d S1 => optR ((tyD S1 d).map fun t => .bl (isT T t)) S1 := rfl
@[simp] theorem mChain_ap {f g : Op2} {a b c : M D} : mChain f g a b c ρ S = (a ρ S).bind fun x S1 => (b ρ S1).bind fun y S2 => (optR (f x y S2) S2).bind fun d S3 => (toB d S3).bind fun k S4 => if k = true then (c ρ S4).bind fun z S5 => optR (g y z S5) S5 else .ok (.bl false) S4 := rfl
@[simp] theorem mNeg_ap {e : M D} : mNeg e ρ S = (e ρ S).bind fun d S1 => match d with
  | .int i => .ok (.int (-i)) S1
  | _ => .bad := rfl
@[simp] theorem mNewD_ap : mNewD ρ S = .ok (.ref S.length) (S ++ [.dct []]) := rfl
theorem mkFn_ap {n : Nat} {m : M Fl} {ds : List D} : mkFn n m ds S = (m (ds.map some ++ List.replicate (n - ds.length) none) S).bind fun f S1 => match f with
  | .nx _ => .ok .non S1
  | .rt d => .ok d S1
  | _ => .bad := rfl
@[simp] theorem wipeF_nil : wipeF ρ [] = ρ := rfl
@[simp] theorem wipeF_cons {v : Nat} {vs : List Nat} : wipeF ρ (v :: vs) = (wipeF ρ vs).set v none := rfl
@[simp] theorem lcB1_ap {i : Nat} {d : D} : lcB1 i d ρ = some (ρ.set i (some d)) := rfl
@[simp] theorem lcB2_ap {i j : Nat} {x y : D} : lcB2 i j (.tup [x, y]) ρ = some ((ρ.set i (some x)).set j (some y)) := rfl
/-! the operations -/
variable {i j : Int}
@[simp] theorem dAdd_i : dAdd (.int i) (.int j) S = some (.int (i + j)) := rfl
@[simp] theorem dAdd_t {a b : List D} (h : a.length + b.length ≤ 1000000) : dAdd (.tup a) (.tup b) S = some (.tup (a ++ b)) := if_pos (le_size h)
@[simp] theorem dAdd_l {a b : List D} (h : a.length + b.length ≤ 1000000) : dAdd (.lv a) (.lv b) S = some (.lv (a ++ b)) := if_pos (le_size h)
@[simp] theorem dSub_i : dSub (.int i) (.int j) S = some (.int (i - j)) := rfl
theorem dMul_i (h : (-(2 ^ 64) < i ∧ i < 2 ^ 64) ∨ (-(2 ^ 64) < j ∧ j < 2 ^ 64)) : dMul (.int i) (.int j) S = some (.int (i * j)) := if_pos h
@[simp] theorem dMul_r (h : -2147483648 ≤ j) (h1 : j ≤ 2147483648) : dMul (.int i) (.int j) S = some (.int (i * j)) := if_pos (.inr ⟨Int.lt_of_lt_of_le (by decide) h, Int.lt_of_le_of_lt h1 (by decide)⟩)
@[simp] theorem dMul_l (h : -2147483648 ≤ i) (h1 : i ≤ 2147483648) : dMul (.int i) (.int j) S = some (.int (i * j)) := if_pos (.inl ⟨Int.lt_of_lt_of_le (by decide) h, Int.lt_of_le_of_lt h1 (by decide)⟩)
@[simp] theorem dMul_t {l : List D} (h : -1000 ≤ j) (h1 : j ≤ 1000) (h2 : l.length ≤ 1000) : dMul (.tup l) (.int j) S = some (.tup (List.replicate j.toNat l).flatten) := if_pos ⟨h, h1, h2⟩
@[simp] theorem dMod_i (h : 0 < j) : dMod (.int i) (.int j) S = some (.int (i % j)) := if_pos h
@[simp] theorem dFdiv_i (h : 0 < j) (h1 : j ≤ 2147483648) : dFdiv (.int i) (.int j) S = some (.int (i / j)) := if_pos ⟨h, Int.lt_of_le_of_lt h1 (by decide)⟩
@[simp] theorem dLt_i : dLt (.int i) (.int j) S = some (.bl (decide (i < j))) := rfl
@[simp] theorem dLe_i : dLe (.int i) (.int j) S = some (.bl (decide (i ≤ j))) := rfl
@[simp] theorem dGt_i : dGt (.int i) (.int j) S = some (.bl (decide (j < i))) := rfl
@[simp] theorem dGe_i : dGe (.int i) (.int j) S = some (.bl (decide (j ≤ i))) := rfl
@[simp] theorem dEq_i : dEq (.int i) (.int j) S = some (.bl (decide (i = j))) := by
  simp only [dEq, dEqB, pd, PyData.eqv, Option.map_some]
  congr 2
@[simp] theorem dNe_i : dNe (.int i) (.int j) S = some (.bl (decide (i ≠ j))) := by
  simp only [dNe, dEqB, pd, PyData.eqv, Option.map_some]
  congr 2
  by_cases h : i = j <;> simp [h]
theorem dPow_i (h : 0 ≤ j) (h1 : j ≤ 1000000) (h2 : i.natAbs < 2 ^ 64) : dPow (.int i) (.int j) S = some (.int (i ^ j.toNat)) := if_pos ⟨h, h1, h2⟩
@[simp] theorem dPow_10_18 : dPow (.int 10) (.int 18) S = some (.int 1000000000000000000) := by
  rw [dPow_i (by decide) (by decide) (by decide)]
  rfl
@[simp] theorem fLen_t {l : List D} : fLen [.tup l] S = some (.int l.length) := rfl
@[simp] theorem fLen_l {l : List D} : fLen [.lv l] S = some (.int l.length) := rfl
@[simp] theorem fLen_r {l : List D} : fLen [.ro l] S = some (.int l.length) := rfl
theorem fLen_ref {n : Nat} {l : List D} (h : S[n]? = some (.lst l)) : fLen [.ref n] S = some (.int l.length) := by
  simp [fLen, seqD, lstD, h]
@[simp] theorem fTuple_t {l : List D} : fTuple [.tup l] S = some (.tup l) := rfl
@[simp] theorem fTuple_l {l : List D} : fTuple [.lv l] S = some (.tup l) := rfl
@[simp] theorem fTuple_r {l : List D} : fTuple [.ro l] S = some (.tup l) := rfl
theorem fTuple_ref {n : Nat} {l : List D} (h : S[n]? = some (.lst l)) : fTuple [.ref n] S = some (.tup l) := by
  simp [fTuple, seqD, lstD, h]
@[simp] theorem fList_t {l : List D} : fList [.tup l] S = some l := rfl
@[simp] theorem fList_l {l : List D} : fList [.lv l] S = some l := rfl
@[simp] theorem fInt_i : fInt [.int i] S = some (.int i) := rfl
@[simp] theorem fInt_b {b : Bool} : fInt [.bl b] S = some (.int (if b then 1 else 0)) := rfl
@[simp] theorem fMin2_i : fMin2 [.int i, .int j] S = some (.int (min i j)) := by
  show some (D.int (if j < i then j else i)) = _
  congr 2
  split <;> omega
@[simp] theorem fMax2_i : fMax2 [.int i, .int j] S = some (.int (max i j)) := by
  show some (D.int (if j > i then j else i)) = _
  congr 2
  split <;> omega
@[simp] theorem seqIt_t {l : List D} : seqIt S (.tup l) = some (l, []) := rfl
@[simp] theorem seqIt_l {l : List D} : seqIt S (.lv l) = some (l, []) := rfl
@[simp] theorem seqIt_r {l : List D} : seqIt S (.ro l) = some (l, []) := rfl
theorem seqIt_ref {n : Nat} {l : List D} (h : S[n]? = some (.lst l)) : seqIt S (.ref n) = some (l, [(n, l)]) := by simp [seqIt, h]
theorem rangeIt_1 (h : -(2 ^ 62) ≤ j ∧ j < 2 ^ 62) : rangeIt [.int j] = some (rangeD 0 j.toNat, []) := if_pos h
theorem rangeIt_2 (h : -(2 ^ 62) ≤ i ∧ i < 2 ^ 62 ∧ -(2 ^ 62) ≤ j ∧ j < 2 ^ 62) : rangeIt [.int i, .int j] = some (rangeD i (j - i).toNat, []) := if_pos ⟨⟨h.1, h.2.1⟩, h.2.2⟩
/-- an index that is a number within -/
theorem atI_nat {α : Type} {l : List α} {k : Nat} (h : k < l.length) : atI l (k : Int) = l[k]? := by
  unfold atI ixN
  rw [if_pos (by omega), if_pos (by omega)]
  rfl
theorem atI_some {α : Type} {l : List α} {k : Nat} {d : α} (h : l[k]? = some d) : atI l (k : Int) = some d := by
  rw [atI_nat (List.getElem?_eq_some_iff.mp h).1, h]
theorem dIx_t {l : List D} : dIx (.tup l) (.int i) S = atI l i := rfl
theorem dIx_l {l : List D} : dIx (.lv l) (.int i) S = atI l i := rfl
theorem dIx_r {l : List D} : dIx (.ro l) (.int i) S = atI l i := rfl
theorem dIx_ref {n : Nat} {l : List D} (h : S[n]? = some (.lst l)) : dIx (.ref n) (.int i) S = atI l i := by
  simp [dIx, seqD, lstD, h]
@[simp] theorem atI_0 {α : Type} {x : α} {l : List α} : atI (x :: l) 0 = some x := by
  rw [show (0 : Int) = ((0 : Nat) : Int) from rfl, atI_nat (by simp)]
  rfl
@[simp] theorem atI_1 {α : Type} {x y : α} {l : List α} : atI (x :: y :: l) 1 = some y := by
  rw [show (1 : Int) = ((1 : Nat) : Int) from rfl, atI_nat (by simp)]
  rfl
@[simp] theorem atI_2 {α : Type} {x y z : α} {l : List α} : atI (x :: y :: z :: l) 2 = some z := by
  rw [show (2 : Int) = ((2 : Nat) : Int) from rfl, atI_nat (by simp)]
  rfl
@[simp] theorem gOk_nil : gOk [] S := fun p h => by cases h
theorem gOk_one {n : Nat} {l : List D} (h : S[n]? = some (.lst l)) : gOk [(n, l)] S := fun p hp => by
  rw [List.mem_singleton.mp hp]
  exact h
end

/-! ### stores -/
theorem fSetL_nat {S : Sto} {n k : Nat} {l : List D} {d : D} (h : S[n]? = some (.lst l)) (hk : k < l.length) : fSetL (.ref n) (.int (k : Int)) d S = some (S.set n (.lst (l.set k d))) := by
  unfold fSetL
  simp only [h, ixN]
  rw [if_pos (by omega), if_pos (by omega)]
  rfl
theorem fSetL_0 {S : Sto} {n : Nat} {x : D} {l : List D} {d : D} (h : S[n]? = some (.lst (x :: l))) : fSetL (.ref n) (.int 0) d S = some (S.set n (.lst (d :: l))) := fSetL_nat (k := 0) h (by simp)

section
variable {S X : Sto} {n j : Nat} {o : Ob}
@[simp] theorem sto_at : (S ++ X)[S.length + j]? = X[j]? := by rw [List.getElem?_append_right (Nat.le_add_right _ _), Nat.add_sub_cancel_left]
@[simp] theorem sto_at0 : (S ++ X)[S.length]? = X[0]? := sto_at (j := 0)
@[simp] theorem sto_set : (S ++ X).set (S.length + j) o = S ++ X.set j o := by rw [List.set_append_right _ _ (Nat.le_add_right _ _), Nat.add_sub_cancel_left]
@[simp] theorem sto_set0 : (S ++ X).set S.length o = S ++ X.set 0 o := sto_set (j := 0)
theorem sto_lo (h : n < S.length) : (S ++ X)[n]? = S[n]? := List.getElem?_append_left h
theorem sto_slo (h : n < S.length) : (S ++ X).set n o = S.set n o ++ X := List.set_append_left _ _ h
end

theorem isL_ref {S : Sto} {n : Nat} {l : List D} (h : S[n]? = some (.lst l)) : isL (.ref n) S = true := by simp [isL, lstD, h]
theorem fAppend_ref {S : Sto} {n : Nat} {l : List D} {d : D} (h : S[n]? = some (.lst l)) (hz : l.length < 1000000) : fAppend (.ref n) [d] S = some (.non, S.set n (.lst (l ++ [d]))) := by
  simp only [fAppend, h]
  rw [if_pos (Nat.lt_trans hz (by decide))]
theorem fExtend_lv {S : Sto} {n : Nat} {l m : List D} (h : S[n]? = some (.lst l)) (hz : l.length + m.length ≤ 1000000) : fExtend (.ref n) [.lv m] S = some (.non, S.set n (.lst (l ++ m))) := by
  simp only [fExtend, h, ownD]
  rw [if_pos (Nat.le_trans hz (by decide))]
/-! the same for what has just been laid -/
section
variable {S : Sto} {l m : List D} {d : D}
@[simp] theorem isL_1 : isL (.ref S.length) (S ++ [.lst l]) = true := isL_ref (l := l) (by simp)
theorem fAppend_1 (hz : l.length < 1000000) : fAppend (.ref S.length) [d] (S ++ [.lst l]) = some (.non, S ++ [.lst (l ++ [d])]) := by
  rw [fAppend_ref (l := l) (by simp) hz]
  simp
theorem fExtend_1 (hz : l.length + m.length ≤ 1000000) : fExtend (.ref S.length) [.lv m] (S ++ [.lst l]) = some (.non, S ++ [.lst (l ++ m)]) := by
  rw [fExtend_lv (l := l) (by simp) hz]
  simp
@[simp] theorem fTuple_1 : fTuple [.ref S.length] (S ++ [.lst l]) = some (.tup l) := fTuple_ref (by simp)
@[simp] theorem fLen_1 : fLen [.ref S.length] (S ++ [.lst l]) = some (.int l.length) := fLen_ref (by simp)
@[simp] theorem seqIt_1 : seqIt (S ++ [.lst l]) (.ref S.length) = some (l, [(S.length, l)]) := seqIt_ref (by simp)
@[simp] theorem gOk_1 : gOk [(S.length, l)] (S ++ [.lst l]) := gOk_one (by simp)
end

/-! the same behind a store in which one thing has been changed -/
section
variable {S X : Sto} {n j : Nat} {o o' : Ob} {l m : List D} {d : D}
@[simp] theorem sto_at2 : (S.set n o ++ X)[S.length + j]? = X[j]? := by
  have := sto_at (S := S.set n o) (X := X) (j := j)
  simpa using this
@[simp] theorem sto_at20 : (S.set n o ++ X)[S.length]? = X[0]? := sto_at2 (j := 0)
@[simp] theorem sto_set2 : (S.set n o ++ X).set (S.length + j) o' = S.set n o ++ X.set j o' := by
  have := sto_set (S := S.set n o) (X := X) (j := j) (o := o')
  simpa using this
@[simp] theorem sto_set20 : (S.set n o ++ X).set S.length o' = S.set n o ++ X.set 0 o' := sto_set2 (j := 0)
theorem sto_re (h : n < S.length) : (S.set n o ++ X).set n o' = S.set n o' ++ X := by
  rw [sto_slo (by simpa using h), List.set_set]
@[simp] theorem isL_2 : isL (.ref S.length) (S.set n o ++ [.lst l]) = true := isL_ref (l := l) (by simp)
theorem fAppend_2 (hz : l.length < 1000000) : fAppend (.ref S.length) [d] (S.set n o ++ [.lst l]) = some (.non, S.set n o ++ [.lst (l ++ [d])]) := by
  rw [fAppend_ref (l := l) (by simp) hz]
  simp
theorem fExtend_2 (hz : l.length + m.length ≤ 1000000) : fExtend (.ref S.length) [.lv m] (S.set n o ++ [.lst l]) = some (.non, S.set n o ++ [.lst (l ++ m)]) := by
  rw [fExtend_lv (l := l) (by simp) hz]
  simp
@[simp] theorem fTuple_2 : fTuple [.ref S.length] (S.set n o ++ [.lst l]) = some (.tup l) := fTuple_ref (by simp)
@[simp] theorem fLen_2 : fLen [.ref S.length] (S.set n o ++ [.lst l]) = some (.int l.length) := fLen_ref (by simp)
@[simp] theorem seqIt_2 : seqIt (S.set n o ++ [.lst l]) (.ref S.length) = some (l, [(S.length, l)]) := seqIt_ref (by simp)
@[simp] theorem gOk_2 : gOk [(S.length, l)] (S.set n o ++ [.lst l]) := gOk_one (by simp)
end

/-! ### loops -/
section
variable {gd : Guard} {g : TgD} {b : M Fl}
theorem forL_ok {P : Fl → Sto → Prop} {ds : List D} {ρ : Fr} {S : Sto} (I : Nat → Fr → Sto → Prop) (h0 : I 0 ρ S) (hg : ∀ i ρ S, I i ρ S → gOk gd S)
    (step : ∀ i d ρ S, ds[i]? = some d → I i ρ S → Ok (g d ρ S) fun ρ1 S1 => Ok (b ρ1 S1) fun f S2 => match f with
      | .nx ρ2 => I (i + 1) ρ2 S2
      | .ct ρ2 => I (i + 1) ρ2 S2
      | .bk ρ2 => P (.nx ρ2) S2
      | .rt d => P (.rt d) S2) (fin : ∀ ρ S, I ds.length ρ S → P (.nx ρ) S) : Ok (forL gd g b ds ρ S) P := by
  have key : ∀ (rest : List D) (i : Nat) (ρ : Fr) (S : Sto), ds.drop i = rest → I i ρ S → i ≤ ds.length → Ok (forL gd g b rest ρ S) P := by
    intro rest
    induction rest with
    | nil =>
      intro i ρ S hd hI hi
      have : ds.length ≤ i := List.drop_eq_nil_iff.mp hd
      have e : i = ds.length := by omega
      subst e
      simp only [forL]
      rw [if_pos (hg _ _ _ hI), ok_ok]
      exact fin _ _ hI
    | cons d rest ih =>
      intro i ρ S hd hI hi
      have hlt : i < ds.length := by
        by_cases hlt : i < ds.length
        · exact hlt
        · rw [List.drop_eq_nil_of_le (by omega)] at hd
          cases hd
      rw [List.drop_eq_getElem_cons hlt] at hd
      obtain ⟨hd1, hd2⟩ := List.cons.inj hd
      simp only [forL]
      rw [if_pos (hg _ _ _ hI)]
      have st := step i d ρ S (by rw [List.getElem?_eq_getElem hlt, hd1]) hI
      refine ok_bind.mpr (st.imp fun ρ1 S1 h1 => ok_bind.mpr (h1.imp fun f S2 h2 => ?_))
      cases f with
      | nx ρ2 => exact ih (i + 1) ρ2 S2 hd2 h2 hlt
      | ct ρ2 => exact ih (i + 1) ρ2 S2 hd2 h2 hlt
      | bk ρ2 => exact ok_ok.mpr h2
      | rt d => exact ok_ok.mpr h2
  exact key ds 0 ρ S rfl h0 (Nat.zero_le _)
theorem lcGo_ok {bd : LcB} {t : M Bool} {e : M D} {ρ : Fr} {P : List D → Sto → Prop} {ds : List D} {S : Sto} (I : Nat → List D → Sto → Prop) (h0 : I 0 [] S) (hg : ∀ i l S, I i l S → gOk gd S)
    (step : ∀ i d l S, ds[i]? = some d → I i l S → ∃ ρ1, bd d ρ = some ρ1 ∧ Ok (t ρ1 S) fun k S1 => if k = true then Ok (e ρ1 S1) fun x S2 => I (i + 1) (l ++ [x]) S2 else I (i + 1) l S1)
    (fin : ∀ l S, I ds.length l S → P l S) : Ok (lcGo gd bd t e ρ ds S) P := by
  have key : ∀ (rest : List D) (i : Nat) (l : List D) (S : Sto), ds.drop i = rest → I i l S → i ≤ ds.length → Ok (lcGo gd bd t e ρ rest S) fun m S' => P (l ++ m) S' := by
    intro rest
    induction rest with
    | nil =>
      intro i l S hd hI hi
      have : ds.length ≤ i := List.drop_eq_nil_iff.mp hd
      have e : i = ds.length := by omega
      subst e
      simp only [lcGo]
      rw [if_pos (hg _ _ _ hI), ok_ok, List.append_nil]
      exact fin _ _ hI
    | cons d rest ih =>
      intro i l S hd hI hi
      have hlt : i < ds.length := by
        by_cases hlt : i < ds.length
        · exact hlt
        · rw [List.drop_eq_nil_of_le (by omega)] at hd
          cases hd
      rw [List.drop_eq_getElem_cons hlt] at hd
      obtain ⟨hd1, hd2⟩ := List.cons.inj hd
      simp only [lcGo]
      rw [if_pos (hg _ _ _ hI)]
      obtain ⟨ρ1, hb, st⟩ := step i d l S (by rw [List.getElem?_eq_getElem hlt, hd1]) hI
      rw [hb]
      simp only [ok_bind, ok_nox]
      refine st.imp fun k S1 h1 => ?_
      cases k with
      | true =>
        simp only [if_true, ok_bind, ok_nox] at h1 ⊢
        refine h1.imp fun x S2 h2 => ?_
        refine (ih (i + 1) _ S2 hd2 h2 hlt).imp fun m S' h3 => ?_
        rw [ok_ok]
        simpa using h3
      | false =>
        simp only [Bool.false_eq_true, if_false] at h1 ⊢
        exact ih (i + 1) _ S1 hd2 h1 hlt
  exact (key ds 0 [] S rfl h0 (Nat.zero_le _)).imp fun m S' h => by simpa using h
/-- each by itself, the store stays -/
theorem lcGo_map {bd : LcB} {t : M Bool} {e : M D} {ρ : Fr} {S : Sto} (f : D → D) (hg : gOk gd S) : ∀ {ds : List D}, (∀ d ∈ ds, ∃ ρ1, bd d ρ = some ρ1 ∧ t ρ1 S = .ok true S ∧ e ρ1 S = .ok (f d) S) → lcGo gd bd t e ρ ds S = .ok (ds.map f) S
  | [], _ => by simp only [lcGo]; rw [if_pos hg]; rfl
  | d :: ds, h => by
    obtain ⟨ρ1, h1, h2, h3⟩ := h d List.mem_cons_self
    simp only [lcGo]
    rw [if_pos hg, h1]
    simp only [h2, h3, Res.nox_ok, Res.bind_ok, if_true, lcGo_map f hg fun d hd => h d (List.mem_cons_of_mem _ hd)]
    rfl
theorem lcGo_filter {bd : LcB} {t : M Bool} {e : M D} {ρ : Fr} {S : Sto} (p : D → Bool) (f : D → D) (hg : gOk gd S) : ∀ {ds : List D}, (∀ d ∈ ds, ∃ ρ1, bd d ρ = some ρ1 ∧ t ρ1 S = .ok (p d) S ∧ (p d = true → e ρ1 S = .ok (f d) S)) → lcGo gd bd t e ρ ds S = .ok ((ds.filter p).map f) S
  | [], _ => by simp only [lcGo]; rw [if_pos hg]; rfl
  | d :: ds, h => by
    obtain ⟨ρ1, h1, h2, h3⟩ := h d List.mem_cons_self
    have ih := lcGo_filter (ds := ds) p f hg fun x hx => h x (List.mem_cons_of_mem _ hx)
    simp only [lcGo]
    rw [if_pos hg, h1]
    cases hp : p d with
    | true =>
      simp only [h2, hp, h3 hp, Res.nox_ok, Res.bind_ok, if_true, ih, List.filter_cons, List.map_cons]
    | false =>
      simp only [h2, hp, Res.nox_ok, Res.bind_ok, ih, List.filter_cons]
      simp
end

/-! ### the end of a def -/
mutual
theorem lowD_mono {b c : Nat} (h : b ≤ c) : ∀ {d : D}, lowD b d = true → lowD c d = true
  | .tup l, e => by simp only [lowD] at e ⊢; exact lowDs_mono h e
  | .lv l, e => by simp only [lowD] at e ⊢; exact lowDs_mono h e
  | .ro l, e => by simp only [lowD] at e ⊢; exact lowDs_mono h e
  | .ref n, e => by simp only [lowD, decide_eq_true_eq] at e ⊢; omega
  | .non, _ => rfl
  | .bl _, _ => rfl
  | .int _, _ => rfl
  | .str _, _ => rfl
theorem lowDs_mono {b c : Nat} (h : b ≤ c) : ∀ {l : List D}, lowDs b l = true → lowDs c l = true
  | [], _ => rfl
  | d :: l, e => by
    simp only [lowDs, Bool.and_eq_true] at e ⊢
    exact ⟨lowD_mono h e.1, lowDs_mono h e.2⟩
end
theorem lowDs_iff {b : Nat} {l : List D} : lowDs b l = true ↔ ∀ d ∈ l, lowD b d = true := by
  induction l with
  | nil => simp [lowDs]
  | cons d l ih => simp [lowDs, ih]
theorem map_id_of {f : D → D} {l : List D} (h : ∀ d ∈ l, f d = d) : l.map f = l := by
  induction l with
  | nil => rfl
  | cons d l ih => rw [List.map_cons, h d List.mem_cons_self, ih fun x hx => h x (List.mem_cons_of_mem _ hx)]
theorem frz_low {b : Nat} {S : Sto} : ∀ (n : Nat) {d : D}, lowD b d = true → frz b S n d = d
  | 0, d, _ => by cases d <;> rfl
  | n + 1, d, h => by
    cases d with
    | tup l =>
      simp only [lowD, lowDs_iff] at h
      simp only [frz]
      rw [map_id_of fun d hd => frz_low n (h d hd)]
    | lv l =>
      simp only [lowD, lowDs_iff] at h
      simp only [frz]
      rw [map_id_of fun d hd => frz_low n (h d hd)]
    | ref k =>
      simp only [lowD, decide_eq_true_eq] at h
      simp only [frz]
      rw [if_pos h]
    | non => rfl
    | bl _ => rfl
    | int _ => rfl
    | str _ => rfl
    | ro l => rfl
theorem good_app {S X : Sto} : Good S (S ++ X) := ⟨by simp, fun m o h e => .inl (by rwa [sto_lo h] at e)⟩
theorem good_refl {S : Sto} : Good S S := ⟨Nat.le_refl _, fun m o h e => .inl e⟩
theorem good_set {S X : Sto} {n : Nat} {o : Ob} (ho : lowO S.length o = true) : Good S (S.set n o ++ X) := ⟨by simp, fun m p h e => by
  rw [sto_lo (by simpa using h)] at e
  by_cases hn : n = m
  · subst hn
    rw [List.getElem?_set_self h] at e
    cases e
    exact .inr ho
  · rw [List.getElem?_set_ne hn] at e
    exact .inl e⟩
open Classical in
/-- a value without anything new -/
theorem trunc_val {f : Fn} {ds : List D} {S S' : Sto} {d : D} (h : f ds S = .ok d S') (g : Good S S') (c : lowD S.length d = true) : trunc f ds S = .ok d (S'.take S.length) := by
  unfold trunc
  rw [h]
  have e : frz S.length S' 8 d = d := frz_low _ c
  show (if Good S S' ∧ lowD S.length (frz S.length S' 8 d) = true then Res.ok (frz S.length S' 8 d) (S'.take S.length) else .bad) = _
  rw [if_pos ⟨g, by rw [e]; exact c⟩, e]
theorem take_app {S X : Sto} : (S ++ X).take S.length = S := by simp
theorem trunc_eq {f : Fn} {ds : List D} {S X : Sto} {d : D} (h : f ds S = .ok d (S ++ X)) (c : lowD S.length d = true) : trunc f ds S = .ok d S := by
  rw [trunc_val h good_app c, take_app]
theorem trunc_eq0 {f : Fn} {ds : List D} {S : Sto} {d : D} (h : f ds S = .ok d S) (c : lowD S.length d = true) : trunc f ds S = .ok d S := by
  rw [trunc_val h good_refl c, List.take_length]
open Classical in
/-- a new list is handed back -/
theorem trunc_list {f : Fn} {ds : List D} {S X : Sto} {j : Nat} {l : List D} (h : f ds S = .ok (.ref (S.length + j)) (S ++ X)) (hj : X[j]? = some (.lst l)) (c : lowDs S.length l = true) : trunc f ds S = .ok (.lv l) S := by
  have e : frz S.length (S ++ X) 8 (.ref (S.length + j)) = .lv l := by
    simp only [frz]
    rw [if_neg (by omega), sto_at, hj]
    simp only
    rw [map_id_of fun d hd => frz_low 7 (lowDs_iff.mp c d hd)]
  unfold trunc
  rw [h]
  show (if Good S (S ++ X) ∧ lowD S.length (frz S.length (S ++ X) 8 (.ref (S.length + j))) = true then Res.ok (frz S.length (S ++ X) 8 (.ref (S.length + j))) ((S ++ X).take S.length) else .bad) = _
  rw [if_pos ⟨good_app, by rw [e]; simp only [lowD]; exact c⟩, e, take_app]
theorem trunc_ok {f : Fn} {ds : List D} {S : Sto} {P : D → Sto → Prop} (h : Ok (f ds S) fun d S' => Good S S' ∧ lowD S.length d = true ∧ P d (S'.take S.length)) : Ok (trunc f ds S) P := by
  obtain ⟨d, S', e, g, c, p⟩ := h.eq
  rw [trunc_val e g c, ok_ok]
  exact p
end MP

namespace MP
open PySem L2
/-! product_of: 0 sizes, 1 found, 2 size -/
noncomputable def m_product_of : M Fl :=
 (mSeq (mSet 1 (mC (.int 1)))
 (mSeq (mFor (mIt (mVar 0)) (gN 2)
 (mSet 1 (mOp dMul (mVar 1) (mVar 2))))
 (mRet (mVar 1))))
noncomputable def f_product_of : Fn := trunc (mkFn 3 m_product_of)
/-! pairs_of: 0 many, 1 found, 2 one, 3 other -/
noncomputable def m_pairs_of : M Fl :=
 (mSeq (mSet 1 (mRef (mLst mNilA)))
 (mSeq (mFor (mItR (mConsA (mVar 0) mNilA)) (gN 2)
 (mDo (mMt isL fExtend (mVar 1) (mConsA (mLv (mLc [3] (mItR (mConsA (mOp dAdd (mVar 2) (mC (.int 1))) (mConsA (mVar 0) mNilA))) (lcB1 3) mYes (mTup (mConsA (mVar 2) (mConsA (mVar 3) mNilA))))) mNilA))))
 (mRet (mVar 1))))
noncomputable def f_pairs_of : Fn := trunc (mkFn 4 m_pairs_of)
/-! _law_cell_at: 0 _law_script, 1 _law_k -/
noncomputable def m_law_cell_at : M Fl :=
 (mSeq (mIf (mT (mOp dLt (mVar 1) (mCB fLen (mConsA (mVar 0) mNilA))))
 (mRet (mOp dIx (mVar 0) (mVar 1)))
 mSkip)
 (mRet (mC (.int 0))))
noncomputable def f_law_cell_at : Fn := trunc (mkFn 2 m_law_cell_at)
/-! _law_take: 0 _law_state_here, 1 _law_many, 2 _law_found, 3 _law_mixed -/
noncomputable def m_law_take : M Fl :=
 (mSeq (mIf (mT (mOp dIx (mVar 0) (mC (.int 1))))
 (mSeq (mSet 2 (mOp dMod (mOp dIx (mVar 0) (mC (.int 0))) (mVar 1)))
 (mSeq (mAsg (mOp dFdiv (mOp dIx (mVar 0) (mC (.int 0))) (mVar 1)) (gSubD fSetL (mVar 0) (mC (.int 0))))
 (mRet (mVar 2))))
 mSkip)
 (mSeq (mAsg (mOp dMod (mOp dAdd (mOp dMul (mOp dIx (mVar 0) (mC (.int 0))) (mC (.int 48271))) (mC (.int 29))) (mC (.int 2147483647))) (gSubD fSetL (mVar 0) (mC (.int 0))))
 (mSeq (mSet 3 (mOp dMod (mOp dAdd (mOp dAdd (mOp dMul (mOp dIx (mVar 0) (mC (.int 0))) (mOp dIx (mVar 0) (mC (.int 0)))) (mOp dMul (mC (.int 39373)) (mOp dIx (mVar 0) (mC (.int 0))))) (mC (.int 7))) (mC (.int 2147483629))))
 (mSeq (mSet 3 (mOp dMod (mOp dAdd (mOp dMul (mVar 3) (mVar 3)) (mOp dMul (mC (.int 16807)) (mVar 3))) (mC (.int 2147483587))))
 (mRet (mOp dMod (mOp dFdiv (mVar 3) (mC (.int 8))) (mVar 1)))))))
noncomputable def f_law_take : Fn := trunc (mkFn 4 m_law_take)
/-! _law_alone: 0 _law_many, 1 _law_letter, 2 _law_often, 3 _law_one -/
noncomputable def m_law_alone : M Fl :=
 (mRet (mCB fTuple (mConsA (mLv (mLc [3] (mItR (mConsA (mVar 0) mNilA)) (lcB1 3) mYes (mOp dMul (mVar 2) (mCB fInt (mConsA (mOp dEq (mVar 3) (mVar 1)) mNilA))))) mNilA)))
noncomputable def f_law_alone : Fn := trunc (mkFn 4 m_law_alone)
/-! _law_taken: 0 _law_wide, 1 _law_by, 2 _law_often, 3 _law_found, 4 _law_turn -/
noncomputable def m_law_taken : M Fl :=
 (mSeq (mSet 3 (mOp dMod (mC (.int 1)) (mVar 0)))
 (mSeq (mFor (mItR (mConsA (mVar 2) mNilA)) (gN 4)
 (mSet 3 (mOp dMod (mOp dMul (mVar 3) (mVar 1)) (mVar 0))))
 (mRet (mVar 3))))
noncomputable def f_law_taken : Fn := trunc (mkFn 5 m_law_taken)
/-! _law_state: 0 _law_script, 1 _law_k, 2 _law_cell -/
noncomputable def m_law_state : M Fl :=
 (mSeq (mSet 2 (mCall f_law_cell_at (mConsA (mVar 0) (mConsA (mVar 1) mNilA))))
 (mSeq (mIf (mT (mOp dGe (mVar 2) (mOp dPow (mC (.int 10)) (mC (.int 18)))))
 (mRet (mRef (mLst (mConsA (mOp dSub (mVar 2) (mOp dPow (mC (.int 10)) (mC (.int 18)))) (mConsA (mC (.bl true)) mNilA)))))
 mSkip)
 (mRet (mRef (mLst (mConsA (mOp dMod (mVar 2) (mC (.int 2147483647))) (mConsA (mC (.bl false)) mNilA)))))))
noncomputable def f_law_state : Fn := mkFn 3 m_law_state
/-! _law_sizes: 0 _law_state_here, 1 _law_most, 2 _law_found, 3 _law_turn, 4 _law_left -/
noncomputable def m_law_sizes : M Fl :=
 (mSeq (mSet 2 (mRef (mLst (mConsA (mOp dAdd (mC (.int 2)) (mCall f_law_take (mConsA (mVar 0) (mConsA (mCB fMin2 (mConsA (mC (.int 6)) (mConsA (mOp dSub (mVar 1) (mC (.int 1))) mNilA))) mNilA)))) mNilA))))
 (mSeq (mFor (mItR (mConsA (mC (.int 4)) mNilA)) (gN 3)
 (mSeq (mSet 4 (mOp dFdiv (mVar 1) (mCall f_product_of (mConsA (mVar 2) mNilA))))
 (mIf (mAndT (mT (mOp dGt (mVar 4) (mC (.int 1)))) (mT (mOp dGt (mCall f_law_take (mConsA (mVar 0) (mConsA (mC (.int 4)) mNilA))) (mC (.int 0)))))
 (mDo (mMt isL fAppend (mVar 2) (mConsA (mOp dAdd (mC (.int 2)) (mCall f_law_take (mConsA (mVar 0) (mConsA (mCB fMin2 (mConsA (mC (.int 6)) (mConsA (mOp dSub (mVar 4) (mC (.int 1))) mNilA))) mNilA)))) mNilA)))
 mSkip)))
 (mRet (mCB fTuple (mConsA (mVar 2) mNilA)))))
noncomputable def f_law_sizes : Fn := trunc (mkFn 5 m_law_sizes)
/-! _law_plain_rules: 0 _law_state_here, 1 _law_sizes_here, 2 _law_many, 3 _law_powers, 4 _law_letter, 5 _law_form, 6 _law_later, 7 _law_pair -/
noncomputable def m_law_plain_rules : M Fl :=
 (mSeq (mSet 2 (mCB fLen (mConsA (mVar 1) mNilA)))
 (mSeq (mSet 3 (mRef (mLst mNilA)))
 (mSeq (mFor (mItR (mConsA (mVar 2) mNilA)) (gN 4)
 (mSeq (mSet 5 (mOp dMul (mTup (mConsA (mC (.int 0)) mNilA)) (mVar 2)))
 (mSeq (mIf (mAndT (mT (mOp dLt (mOp dAdd (mVar 4) (mC (.int 1))) (mVar 2))) (mT (mOp dEq (mCall f_law_take (mConsA (mVar 0) (mConsA (mC (.int 2)) mNilA))) (mC (.int 0)))))
 (mSeq (mSet 6 (mOp dAdd (mOp dAdd (mVar 4) (mC (.int 1))) (mCall f_law_take (mConsA (mVar 0) (mConsA (mOp dSub (mOp dSub (mVar 2) (mVar 4)) (mC (.int 1))) mNilA)))))
 (mSet 5 (mCall f_law_alone (mConsA (mVar 2) (mConsA (mVar 6) (mConsA (mCall f_law_take (mConsA (mVar 0) (mConsA (mOp dIx (mVar 1) (mVar 6)) mNilA))) mNilA))))))
 mSkip)
 (mDo (mMt isL fAppend (mVar 3) (mConsA (mVar 5) mNilA))))))
 (mRet (mTup (mConsA (mVar 1) (mConsA (mCB fTuple (mConsA (mVar 3) mNilA)) (mConsA (mCB fTuple (mConsA (mLv (mLc [7] (mIt (mCall f_pairs_of (mConsA (mVar 2) mNilA))) (lcB1 7) mYes (mCall f_law_alone (mConsA (mVar 2) (mConsA (mOp dIx (mVar 7) (mC (.int 1))) (mConsA (mC (.int 1)) mNilA)))))) mNilA)) mNilA))))))))
noncomputable def f_law_plain_rules : Fn := trunc (mkFn 8 m_law_plain_rules)
/-! _law_turning: 0 _law_state_here, 1 _law_most, 2 _law_wide, 3 _law_good, 4 _law_size, 5 _law_by, 6 _law_stays, 7 _law_power, 8 _law_number -/
noncomputable def m_law_turning : M Fl :=
 (mSeq (mSet 2 (mOp dAdd (mC (.int 3)) (mCall f_law_take (mConsA (mVar 0) (mConsA (mCB fMin2 (mConsA (mC (.int 5)) (mConsA (mOp dSub (mOp dFdiv (mVar 1) (mC (.int 2))) (mC (.int 2))) mNilA))) mNilA)))))
 (mSeq (mSet 3 (mRef (mLst mNilA)))
 (mSeq (mFor (mItR (mConsA (mC (.int 2)) (mConsA (mOp dAdd (mC (.int 1)) (mCB fMin2 (mConsA (mC (.int 7)) (mConsA (mOp dFdiv (mVar 1) (mVar 2)) mNilA)))) mNilA))) (gN 4)
 (mFor (mItR (mConsA (mC (.int 1)) (mConsA (mVar 2) mNilA))) (gN 5)
 (mIf (mT (mOp dEq (mCall f_law_taken (mConsA (mVar 2) (mConsA (mVar 5) (mConsA (mVar 4) mNilA)))) (mC (.int 1))))
 (mDo (mMt isL fAppend (mVar 3) (mConsA (mTup (mConsA (mVar 4) (mConsA (mVar 5) mNilA))) mNilA)))
 mSkip)))
 (mSeq (mAsg (mOp dIx (mVar 3) (mCall f_law_take (mConsA (mVar 0) (mConsA (mCB fLen (mConsA (mVar 3) mNilA)) mNilA)))) (gTupD 2 (gConsD (gN 4) (gConsD (gN 5) gNilD))))
 (mSeq (mSet 6 (mLv (mLc [8] (mItR (mConsA (mVar 2) mNilA)) (lcB1 8) (mT (mOp dEq (mOp dMod (mOp dMul (mVar 8) (mOp dSub (mVar 5) (mC (.int 1)))) (mVar 2)) (mC (.int 0)))) (mVar 8))))
 (mSeq (mSet 7 (mOp dIx (mVar 6) (mCall f_law_take (mConsA (mVar 0) (mConsA (mCB fLen (mConsA (mVar 6) mNilA)) mNilA)))))
 (mRet (mTup (mConsA (mTup (mConsA (mVar 4) (mConsA (mVar 2) mNilA))) (mConsA (mTup (mConsA (mTup (mConsA (mC (.int 0)) (mConsA (mVar 7) mNilA))) (mConsA (mTup (mConsA (mC (.int 0)) (mConsA (mC (.int 0)) mNilA))) mNilA))) (mConsA (mTup (mConsA (mTup (mConsA (mC (.int 0)) (mConsA (mVar 5) mNilA))) mNilA)) mNilA)))))))))))
noncomputable def f_law_turning : Fn := trunc (mkFn 9 m_law_turning)
/-! _law_meeting: 0 _law_state_here, 1 _law_most, 2 _law_size, 3 _law_powers -/
noncomputable def m_law_meeting : M Fl :=
 (mSeq (mSet 2 (mOp dIx (mLv (mLst (mConsA (mC (.int 2)) (mConsA (mC (.int 3)) mNilA)))) (mCall f_law_take (mConsA (mVar 0) (mConsA (mC (.int 2)) mNilA)))))
 (mSeq (mIf (mT (mOp dLt (mVar 1) (mC (.int 27))))
 (mSet 2 (mC (.int 2)))
 mSkip)
 (mSeq (mSet 3 (mTup (mConsA (mTup (mConsA (mC (.int 0)) (mConsA (mC (.int 0)) (mConsA (mCall f_law_take (mConsA (mVar 0) (mConsA (mVar 2) mNilA))) mNilA)))) (mConsA (mTup (mConsA (mC (.int 0)) (mConsA (mC (.int 0)) (mConsA (mCall f_law_take (mConsA (mVar 0) (mConsA (mVar 2) mNilA))) mNilA)))) (mConsA (mTup (mConsA (mC (.int 0)) (mConsA (mC (.int 0)) (mConsA (mC (.int 0)) mNilA)))) mNilA)))))
 (mRet (mTup (mConsA (mOp dMul (mTup (mConsA (mVar 2) mNilA)) (mC (.int 3))) (mConsA (mVar 3) (mConsA (mTup (mConsA (mTup (mConsA (mC (.int 0)) (mConsA (mC (.int 1)) (mConsA (mOp dAdd (mC (.int 1)) (mCall f_law_take (mConsA (mVar 0) (mConsA (mOp dSub (mVar 2) (mC (.int 1))) mNilA)))) mNilA)))) (mConsA (mTup (mConsA (mC (.int 0)) (mConsA (mC (.int 0)) (mConsA (mC (.int 1)) mNilA)))) (mConsA (mTup (mConsA (mC (.int 0)) (mConsA (mC (.int 0)) (mConsA (mC (.int 1)) mNilA)))) mNilA)))) mNilA))))))))
noncomputable def f_law_meeting : Fn := trunc (mkFn 4 m_law_meeting)
/-! _law_beside: 0 _law_one, 1 _law_other, 2 _law_left, 3 _law_right, 4 _law_powers, 5 _law_known, 6 _law_pair, 7 _law_form, 8 _law_many, 9 _law_exchanges -/
noncomputable def m_law_beside : M Fl :=
 (mSeq (mSet 2 (mCB fLen (mConsA (mOp dIx (mVar 0) (mC (.int 0))) mNilA)))
 (mSeq (mSet 3 (mCB fLen (mConsA (mOp dIx (mVar 1) (mC (.int 0))) mNilA)))
 (mSeq (mSet 4 (mOp dAdd (mLv (mLc [7] (mIt (mOp dIx (mVar 0) (mC (.int 1)))) (lcB1 7) mYes (mOp dAdd (mVar 7) (mOp dMul (mTup (mConsA (mC (.int 0)) mNilA)) (mVar 3))))) (mLv (mLc [7] (mIt (mOp dIx (mVar 1) (mC (.int 1)))) (lcB1 7) mYes (mOp dAdd (mOp dMul (mTup (mConsA (mC (.int 0)) mNilA)) (mVar 2)) (mVar 7))))))
 (mSeq (mSet 5 mNewD)
 (mSeq (mFor (mItZ (mConsA (mCall f_pairs_of (mConsA (mVar 2) mNilA)) (mConsA (mOp dIx (mVar 0) (mC (.int 2))) mNilA))) (gTupD 2 (gConsD (gN 6) (gConsD (gN 7) gNilD)))
 (mAsg (mOp dAdd (mVar 7) (mOp dMul (mTup (mConsA (mC (.int 0)) mNilA)) (mVar 3))) (gSubD fSetA (mVar 5) (mVar 6))))
 (mSeq (mFor (mItZ (mConsA (mCall f_pairs_of (mConsA (mVar 3) mNilA)) (mConsA (mOp dIx (mVar 1) (mC (.int 2))) mNilA))) (gTupD 2 (gConsD (gN 6) (gConsD (gN 7) gNilD)))
 (mAsg (mOp dAdd (mOp dMul (mTup (mConsA (mC (.int 0)) mNilA)) (mVar 2)) (mVar 7)) (gSubD fSetA (mVar 5) (mTup (mConsA (mOp dAdd (mOp dIx (mVar 6) (mC (.int 0))) (mVar 2)) (mConsA (mOp dAdd (mOp dIx (mVar 6) (mC (.int 1))) (mVar 2)) mNilA))))))
 (mSeq (mSet 8 (mOp dAdd (mVar 2) (mVar 3)))
 (mSeq (mSet 9 (mLv (mLc [6] (mIt (mCall f_pairs_of (mConsA (mVar 8) mNilA))) (lcB1 6) mYes (mMt isDT fGetT (mVar 5) (mConsA (mVar 6) (mConsA (mCall f_law_alone (mConsA (mVar 8) (mConsA (mOp dIx (mVar 6) (mC (.int 1))) (mConsA (mC (.int 1)) mNilA)))) mNilA))))))
 (mRet (mTup (mConsA (mOp dAdd (mOp dIx (mVar 0) (mC (.int 0))) (mOp dIx (mVar 1) (mC (.int 0)))) (mConsA (mCB fTuple (mConsA (mVar 4) mNilA)) (mConsA (mCB fTuple (mConsA (mVar 9) mNilA)) mNilA)))))))))))))
noncomputable def f_law_beside : Fn := trunc (mkFn 10 m_law_beside)
/-! _law_rules: 0 _law_state_here, 1 _law_most, 2 _law_kind, 3 _law_found, 4 _law_left -/
noncomputable def m_law_rules : M Fl :=
 (mSeq (mSet 2 (mCall f_law_take (mConsA (mVar 0) (mConsA (mC (.int 6)) mNilA))))
 (mSeq (mSet 3 (mCall f_law_plain_rules (mConsA (mVar 0) (mConsA (mCall f_law_sizes (mConsA (mVar 0) (mConsA (mVar 1) mNilA))) mNilA))))
 (mSeq (mIf (mT (mOp dInT (mVar 2) (mTup (mConsA (mC (.int 1)) (mConsA (mC (.int 2)) mNilA)))))
 (mSet 3 (mCall f_law_turning (mConsA (mVar 0) (mConsA (mVar 1) mNilA))))
 mSkip)
 (mSeq (mIf (mT (mOp dInT (mVar 2) (mTup (mConsA (mC (.int 3)) (mConsA (mC (.int 4)) mNilA)))))
 (mSet 3 (mCall f_law_meeting (mConsA (mVar 0) (mConsA (mVar 1) mNilA))))
 mSkip)
 (mSeq (mIf (mAndT (mT (mOp dGt (mVar 2) (mC (.int 1)))) (mT (mOp dEq (mCall f_law_take (mConsA (mVar 0) (mConsA (mC (.int 2)) mNilA))) (mC (.int 0)))))
 (mSeq (mSet 4 (mOp dFdiv (mVar 1) (mCall f_product_of (mConsA (mOp dIx (mVar 3) (mC (.int 0))) mNilA))))
 (mIf (mAndT (mT (mOp dGt (mVar 4) (mC (.int 1)))) (mT (mOp dLt (mCB fLen (mConsA (mOp dIx (mVar 3) (mC (.int 0))) mNilA)) (mC (.int 5)))))
 (mSet 3 (mCall f_law_beside (mConsA (mVar 3) (mConsA (mTup (mConsA (mTup (mConsA (mOp dAdd (mC (.int 2)) (mCall f_law_take (mConsA (mVar 0) (mConsA (mCB fMin2 (mConsA (mC (.int 6)) (mConsA (mOp dSub (mVar 4) (mC (.int 1))) mNilA))) mNilA)))) mNilA)) (mConsA (mTup (mConsA (mTup (mConsA (mC (.int 0)) mNilA)) mNilA)) (mConsA (mTup mNilA) mNilA)))) mNilA))))
 mSkip))
 mSkip)
 (mRet (mVar 3)))))))
noncomputable def f_law_rules : Fn := trunc (mkFn 5 m_law_rules)
end MP

/-! Q, part d: what is drawn. -/
namespace MP
open PySem L2
/-- a state's list -/
def StO (o : Ob) : Prop := ∃ (x : Int) (b : Bool), o = .lst [.int x, .bl b]
def St (S : Sto) (n : Nat) : Prop := ∃ o, S[n]? = some o ∧ StO o
theorem St.lt {S : Sto} {n : Nat} (h : St S n) : n < S.length := by
  obtain ⟨o, h, _⟩ := h
  exact (List.getElem?_eq_some_iff.mp h).1
theorem St.set {S : Sto} {n : Nat} (h : St S n) {o : Ob} (ho : StO o) : St (S.set n o) n := ⟨o, List.getElem?_set_self h.lt, ho⟩
theorem St.app {S X : Sto} {n : Nat} (h : St S n) : St (S ++ X) n := by
  obtain ⟨o, h, ho⟩ := h
  exact ⟨o, by rw [List.getElem?_append_left (List.getElem?_eq_some_iff.mp h).1]; exact h, ho⟩
theorem StO.low {o : Ob} (h : StO o) {b : Nat} : lowO b o = true := by
  obtain ⟨x, c, rfl⟩ := h
  rfl
/-- a def that draws from the state at n, and gives d with P, the rest as it was -/
def Dr (S : Sto) (n : Nat) (r : Res D) (P : D → Prop) : Prop := ∃ d o, StO o ∧ P d ∧ r = .ok d (S.set n o)
theorem good_setS {S : Sto} {n : Nat} {o : Ob} (ho : lowO S.length o = true) : Good S (S.set n o) := by
  have := good_set (S := S) (X := []) (n := n) ho
  simpa using this
theorem trunc_dr {f : Fn} {ds : List D} {S X : Sto} {n : Nat} {d : D} {o : Ob} (h : f ds S = .ok d (S.set n o ++ X)) (ho : StO o) (c : lowD S.length d = true) : trunc f ds S = .ok d (S.set n o) := by
  rw [trunc_val h (good_set ho.low) c]
  rw [show S.length = (S.set n o).length by simp, take_app]
theorem take_ok {S : Sto} {n : Nat} {m : Int} (h : St S n) (h0 : 0 < m) (h1 : m ≤ 2147483648) : Dr S n (f_law_take [.ref n, .int m] S) fun d => ∃ r : Int, d = .int r ∧ 0 ≤ r ∧ r < m := by
  obtain ⟨o, hS, x, b, rfl⟩ := h
  have hn := (List.getElem?_eq_some_iff.mp hS).1
  cases b with
  | true =>
    refine ⟨.int (x % m), .lst [.int (x / m), .bl true], ⟨_, _, rfl⟩, ⟨_, rfl, Int.emod_nonneg _ (by omega), Int.emod_lt_of_pos _ h0⟩, ?_⟩
    unfold f_law_take
    refine trunc_dr (X := []) ?_ ⟨_, _, rfl⟩ rfl
    rw [mkFn_ap]
    simp [m_law_take, dIx_ref hS, h0, h1, fSetL_0 hS]
  | false =>
    obtain ⟨z, hz⟩ : ∃ z : Int, z = (x * 48271 + 29) % 2147483647 := ⟨_, rfl⟩
    have hz0 : 0 ≤ z := by rw [hz]; exact Int.emod_nonneg _ (by decide)
    have hz1 : z < 2147483647 := by rw [hz]; exact Int.emod_lt_of_pos _ (by decide)
    obtain ⟨u, hu⟩ : ∃ u : Int, u = (z * z + 39373 * z + 7) % 2147483629 := ⟨_, rfl⟩
    have hu0 : 0 ≤ u := by rw [hu]; exact Int.emod_nonneg _ (by decide)
    have hu1 : u < 2147483629 := by rw [hu]; exact Int.emod_lt_of_pos _ (by decide)
    have hS2 : (S.set n (.lst [.int z, .bl false]))[n]? = some (.lst [.int z, .bl false]) := List.getElem?_set_self hn
    refine ⟨.int ((u * u + 16807 * u) % 2147483587 / 8 % m), .lst [.int z, .bl false], ⟨_, _, rfl⟩, ⟨_, rfl, Int.emod_nonneg _ (by omega), Int.emod_lt_of_pos _ h0⟩, ?_⟩
    unfold f_law_take
    refine trunc_dr (X := []) ?_ ⟨_, _, rfl⟩ rfl
    rw [mkFn_ap]
    have a1 : -2147483648 ≤ z := by omega
    have a2 : z ≤ 2147483648 := by omega
    have a3 : -2147483648 ≤ u := by omega
    have a4 : u ≤ 2147483648 := by omega
    simp [m_law_take, dIx_ref hS, h0, h1, fSetL_0 hS, ← hz, dIx_ref hS2, a1, a2, ← hu, a3, a4]
/-! ### numbers, tuples of numbers -/
abbrev iD (n : Nat) : D := .int (n : Int)
def nT (l : List Nat) : D := .tup (l.map iD)
def prodN (l : List Nat) : Nat := l.foldl (· * ·) 1
theorem prodN_cons_aux (l : List Nat) : ∀ a b : Nat, l.foldl (· * ·) (a * b) = a * l.foldl (· * ·) b := by
  induction l with
  | nil => intro a b; rfl
  | cons x l ih => intro a b; rw [List.foldl_cons, List.foldl_cons, Nat.mul_assoc, ih]
@[simp] theorem prodN_nil : prodN [] = 1 := rfl
@[simp] theorem prodN_cons {x : Nat} {l : List Nat} : prodN (x :: l) = x * prodN l := by
  show l.foldl (· * ·) (1 * x) = _
  rw [Nat.one_mul, show x = x * 1 from (Nat.mul_one x).symm, prodN_cons_aux, Nat.mul_one]
  rfl
@[simp] theorem prodN_append {l m : List Nat} : prodN (l ++ m) = prodN l * prodN m := by
  induction l with
  | nil => simp
  | cons x l ih => simp [ih, Nat.mul_assoc]
theorem low_iD {b : Nat} {l : List Nat} : lowDs b (l.map iD) = true := lowDs_iff.mpr fun d hd => by
  obtain ⟨n, _, rfl⟩ := List.mem_map.mp hd
  rfl
@[simp] theorem low_nT {b : Nat} {l : List Nat} : lowD b (nT l) = true := by
  unfold nT
  simp only [lowD]
  exact low_iD
@[simp] theorem low_int {b : Nat} {i : Int} : lowD b (.int i) = true := rfl
@[simp] theorem low_bl {b : Nat} {i : Bool} : lowD b (.bl i) = true := rfl
@[simp] theorem low_non {b : Nat} : lowD b .non = true := rfl
@[simp] theorem low_str {b : Nat} {s : Str} : lowD b (.str s) = true := rfl
@[simp] theorem low_tup {b : Nat} {l : List D} : lowD b (.tup l) = lowDs b l := rfl
@[simp] theorem low_lv {b : Nat} {l : List D} : lowD b (.lv l) = lowDs b l := rfl
@[simp] theorem lows_nil {b : Nat} : lowDs b [] = true := rfl
@[simp] theorem lows_cons {b : Nat} {d : D} {l : List D} : lowDs b (d :: l) = (lowD b d && lowDs b l) := rfl
theorem lows_app {b : Nat} {l m : List D} : lowDs b (l ++ m) = (lowDs b l && lowDs b m) := by
  induction l with
  | nil => rfl
  | cons d l ih => simp [ih, Bool.and_assoc]
theorem seqIt_ok' {S : Sto} {d : D} {l : List D} {g : Guard} (h : seqIt S d = some (l, g)) : gOk g S := seqIt_ok h
theorem product_ok {d : D} {l : List Nat} {g : Guard} {S : Sto} (h : seqIt S d = some (l.map iD, g)) (hb : ∀ x ∈ l, x ≤ 2147483648) : f_product_of [d] S = .ok (.int (prodN l : Nat)) S := by
  refine trunc_eq0 (ok_eq ?_) rfl
  rw [mkFn_ap]
  simp [m_product_of, h]
  refine forL_ok (fun i ρ S' => S' = S ∧ ∃ x, ρ = [some d, some (.int (prodN (l.take i) : Nat)), x]) ⟨rfl, none, rfl⟩ (fun i ρ S' hI => ?_) (fun i e ρ S' he hI => ?_) (fun ρ S' hI => ?_)
  · rw [hI.1]
    exact seqIt_ok h
  · obtain ⟨rfl, x, rfl⟩ := hI
    rw [List.getElem?_map] at he
    obtain ⟨n, hn, rfl⟩ := Option.map_eq_some_iff.mp he
    have hm := hb n (List.mem_of_getElem? hn)
    have b1 : (-2147483648 : Int) ≤ (n : Int) := by omega
    have b2 : (n : Int) ≤ 2147483648 := by omega
    simp [b1, b2]
    rw [List.take_add_one, hn]
    simp
  · obtain ⟨rfl, x, rfl⟩ := hI
    simp
/-! ### pairs -/
def pairsL (k : Nat) : List (Nat × Nat) := (List.range k).flatMap fun i => (List.range (k - (i + 1))).map fun j => (i, i + 1 + j)
def pD (p : Nat × Nat) : D := .tup [iD p.1, iD p.2]
theorem pairsTo_len (k : Nat) : ∀ i, i ≤ k → ((List.range i).flatMap fun i => (List.range (k - (i + 1))).map fun j => (i, i + 1 + j)).length ≤ i * k
  | 0, _ => by simp
  | i + 1, h => by
    have := pairsTo_len k i (by omega)
    simp only [List.range_succ, List.flatMap_append, List.flatMap_singleton, List.length_append, List.length_map, List.length_range, Nat.succ_mul]
    omega
theorem rangeD_get {lo : Int} {n i : Nat} {d : D} (h : (rangeD lo n)[i]? = some d) : i < n ∧ d = .int (lo + (i : Int)) := by
  unfold rangeD at h
  rw [List.getElem?_map] at h
  obtain ⟨j, hj, rfl⟩ := Option.map_eq_some_iff.mp h
  obtain ⟨h1, h2⟩ := List.getElem?_eq_some_iff.mp hj
  rw [List.getElem_range] at h2
  subst h2
  exact ⟨by simpa using h1, rfl⟩
@[simp] theorem rangeD_len {lo : Int} {n : Nat} : (rangeD lo n).length = n := by simp [rangeD]
theorem low_pD {b : Nat} {l : List (Nat × Nat)} : lowDs b (l.map pD) = true := lowDs_iff.mpr fun d hd => by
  obtain ⟨n, _, rfl⟩ := List.mem_map.mp hd
  rfl
theorem pairs_ok {k : Nat} {S : Sto} (hk : k ≤ 100) : f_pairs_of [iD k] S = .ok (.lv ((pairsL k).map pD)) S := by
  refine trunc_list (j := 0) (X := [.lst ((pairsL k).map pD)]) (ok_eq ?_) rfl low_pD
  rw [mkFn_ap]
  have r1 : rangeIt [iD k] = some (rangeD 0 k, []) := by
    have := rangeIt_1 (j := (k : Int)) (by omega)
    simpa using this
  simp [m_pairs_of, r1]
  refine forL_ok (fun i ρ S' => (∃ x, ρ = [some (iD k), some (.ref S.length), x, none]) ∧ S' = S ++ [.lst (((List.range i).flatMap fun i => (List.range (k - (i + 1))).map fun j => (i, i + 1 + j)).map pD)]) ⟨⟨none, rfl⟩, rfl⟩ (fun i ρ S' hI => by simp) (fun i e ρ S' he hI => ?_) (fun ρ S' hI => ?_)
  · obtain ⟨⟨x, rfl⟩, rfl⟩ := hI
    obtain ⟨hi, rfl⟩ := rangeD_get he
    have r2 : rangeIt [.int ((i : Int) + 1), .int (k : Int)] = some (rangeD ((i : Int) + 1) (k - (i + 1)), []) := by
      rw [rangeIt_2 (by omega)]
      rw [show ((k : Int) - ((i : Int) + 1)).toNat = k - (i + 1) by omega]
    have hl := pairsTo_len k i (by omega)
    have hik : i * k ≤ 100 * 100 := Nat.mul_le_mul (by omega) (by omega)
    simp [r2, gate_ok (n := k - (i + 1)) (by omega)]
    rw [lcGo_map (fun d => .tup [iD i, d]) (by simp) (fun d hd => ?_)]
    · simp only [ok_ok]
      rw [fExtend_1 (by simp only [List.length_map, rangeD_len]; omega)]
      simp [List.range_succ, rangeD, pD]
    · simp
  · obtain ⟨⟨x, rfl⟩, rfl⟩ := hI
    simp [pairsL]
/-! ### cells, states -/
theorem cell_ok {ns : List Int} {k : Nat} {S : Sto} : f_law_cell_at [.ro (ns.map D.int), iD k] S = .ok (.int (ns.getD k 0)) S := by
  refine trunc_eq0 (ok_eq ?_) rfl
  rw [mkFn_ap]
  by_cases h : k < ns.length
  · have h2 : dIx (.ro (ns.map D.int)) (iD k) S = some (.int (ns.getD k 0)) := by
      rw [dIx_r]
      refine atI_some ?_
      simp [h]
    simp [m_law_cell_at, h, h2]
  · simp [m_law_cell_at, h]
theorem state_ok {ns : List Int} {k : Nat} {S : Sto} : ∃ o, StO o ∧ f_law_state [.ro (ns.map D.int), iD k] S = .ok (.ref S.length) (S ++ [o]) := by
  by_cases h : 1000000000000000000 ≤ ns.getD k 0
  · refine ⟨.lst [.int (ns.getD k 0 - 1000000000000000000), .bl true], ⟨_, _, rfl⟩, ?_⟩
    refine ok_eq ?_
    unfold f_law_state
    rw [mkFn_ap]
    simp only [List.getD_eq_getElem?_getD] at h
    simp [m_law_state, cell_ok, h]
  · refine ⟨.lst [.int (ns.getD k 0 % 2147483647), .bl false], ⟨_, _, rfl⟩, ?_⟩
    refine ok_eq ?_
    unfold f_law_state
    rw [mkFn_ap]
    simp only [List.getD_eq_getElem?_getD] at h
    simp [m_law_state, cell_ok, h]
/-! ### one letter alone; a letter taken so often -/
def aloneL (k j o : Nat) : List Nat := (List.range k).map fun i => if i = j then o else 0
@[simp] theorem aloneL_len {k j o : Nat} : (aloneL k j o).length = k := by simp [aloneL]
theorem alone_ok {k j o : Nat} {S : Sto} (hk : k ≤ 1000) : f_law_alone [iD k, iD j, iD o] S = .ok (nT (aloneL k j o)) S := by
  refine trunc_eq0 (ok_eq ?_) (by simp)
  rw [mkFn_ap]
  have r1 : rangeIt [iD k] = some (rangeD 0 k, []) := by
    have := rangeIt_1 (j := (k : Int)) (by omega)
    simpa using this
  have hk2 : k ≤ 1000000 := by omega
  simp [m_law_alone, r1, hk2]
  rw [lcGo_map (fun d => match d with
    | .int i => .int (if i = (j : Int) then (o : Int) else 0)
    | _ => .non) gOk_nil (fun d hd => ?_)]
  · simp [nT, aloneL, rangeD]
    intro i hi
    by_cases h : i = j
    · simp [h]
    · simp [h]
      omega
  · obtain ⟨i, hi, rfl⟩ := List.mem_map.mp hd
    refine ⟨_, rfl, rfl, ?_⟩
    by_cases h : i = j
    · subst h
      simp
    · have : ¬ ((i : Int) = (j : Int)) := by omega
      simp [this]
theorem taken_ok {w b o : Nat} {S : Sto} (hw : 0 < w) (hw2 : w ≤ 1000) (hb : b ≤ 1000) (ho : o ≤ 1000) : f_law_taken [iD w, iD b, iD o] S = .ok (iD (b ^ o % w)) S := by
  refine trunc_eq0 (ok_eq ?_) rfl
  rw [mkFn_ap]
  have r1 : rangeIt [iD o] = some (rangeD 0 o, []) := by
    have := rangeIt_1 (j := (o : Int)) (by omega)
    simpa using this
  have w0 : (0 : Int) < (w : Int) := by omega
  have b1 : (-2147483648 : Int) ≤ (b : Int) := by omega
  have b2 : (b : Int) ≤ 2147483648 := by omega
  simp [m_law_taken, r1, hw]
  refine forL_ok (fun i ρ S' => S' = S ∧ ∃ x, ρ = [some (iD w), some (iD b), some (iD o), some (iD (b ^ i % w)), x]) ?_ (fun i ρ S' hI => gOk_nil) (fun i e ρ S' he hI => ?_) (fun ρ S' hI => ?_)
  · exact ⟨rfl, none, by simp⟩
  · obtain ⟨rfl, x, rfl⟩ := hI
    simp [b1, b2, hw]
    rw [Int.mul_emod, Int.emod_emod_of_dvd _ (Int.dvd_refl _), ← Int.mul_emod, Int.pow_succ]
  · obtain ⟨rfl, x, rfl⟩ := hI
    simp
/-! ### drawn numbers -/
theorem take_nat {S : Sto} {n : Nat} {m : Int} {k : Nat} (h : St S n) (hm : m = (k : Int)) (h0 : 0 < k) (h1 : k ≤ 2147483648) : ∃ (r : Nat) (o : Ob), StO o ∧ r < k ∧ f_law_take [.ref n, .int m] S = .ok (iD r) (S.set n o) := by
  obtain ⟨d, o, ho, ⟨r, rfl, r0, r1⟩, e⟩ := take_ok (S := S) (n := n) (m := m) h (by omega) (by omega)
  refine ⟨r.toNat, o, ho, by omega, ?_⟩
  rw [e]
  show Res.ok (D.int r) _ = Res.ok (D.int (r.toNat : Int)) _
  rw [Int.toNat_of_nonneg r0]
/-- the sizes of drawn rules -/
structure Szs (sz : List Nat) : Prop where
  ge : ∀ s ∈ sz, 2 ≤ s
  lt : ∀ s ∈ sz, s < 8
  ne : sz ≠ []
  len : sz.length ≤ 5
theorem prodN_pos {l : List Nat} (h : ∀ s ∈ l, 0 < s) : 0 < prodN l := by
  induction l with
  | nil => simp
  | cons x l ih =>
    rw [prodN_cons]
    exact Nat.mul_pos (h x List.mem_cons_self) (ih fun s hs => h s (List.mem_cons_of_mem _ hs))
theorem sizes_ok {S : Sto} {n m : Nat} (h : St S n) (h2 : 2 ≤ m) (hm : m ≤ 64) : Dr S n (f_law_sizes [.ref n, iD m] S) fun d => ∃ sz, d = nT sz ∧ Szs sz ∧ prodN sz ≤ m := by
  have hn := h.lt
  suffices hs : Ok (mkFn 5 m_law_sizes [.ref n, iD m] S) fun d S' => ∃ o sz X, StO o ∧ d = nT sz ∧ Szs sz ∧ prodN sz ≤ m ∧ S' = S.set n o ++ X by
    obtain ⟨d, S', e, o, sz, X, ho, rfl, hz, hp, rfl⟩ := hs.eq
    exact ⟨_, o, ho, ⟨sz, rfl, hz, hp⟩, trunc_dr e ho (by simp)⟩
  rw [mkFn_ap]
  obtain ⟨r, o, ho, hr, e⟩ := take_nat (m := min 6 ((m : Int) - 1)) (k := min 6 (m - 1)) h (by omega) (by omega) (by omega)
  have r1 : rangeIt [.int 4] = some (rangeD 0 4, []) := rangeIt_1 (by decide)
  simp [m_law_sizes, e, r1]
  obtain ⟨I, hI⟩ : ∃ I : Nat → Fr → Sto → Prop, ∀ i ρ S', I i ρ S' ↔ ∃ o sz x3 x4, StO o ∧ ρ = [some (.ref n), some (iD m), some (.ref S.length), x3, x4] ∧ S' = S.set n o ++ [.lst (sz.map iD)] ∧ (∀ s ∈ sz, 2 ≤ s) ∧ (∀ s ∈ sz, s < 8) ∧ sz ≠ [] ∧ sz.length ≤ i + 1 ∧ prodN sz ≤ m := ⟨_, fun _ _ _ => Iff.rfl⟩
  refine forL_ok I ((hI _ _ _).mpr ?_) (fun i ρ S' hJ => gOk_nil) (fun i e ρ S' he hJ => ?_) (fun ρ S' hJ => ?_)
  · refine ⟨o, [2 + r], none, none, ho, rfl, by simp, ?_, ?_, by simp, by simp, ?_⟩
    · simp
    · simp; omega
    · simp; omega
  · obtain ⟨o, sz, x3, x4, ho, rfl, rfl, g1, g2, g3, g4, g5⟩ := (hI _ _ _).mp hJ
    have hi : i < 4 := (rangeD_get he).1
    have hp0 : 0 < prodN sz := prodN_pos fun s hs => Nat.lt_of_lt_of_le (by decide) (g1 s hs)
    have pe : f_product_of [.ref S.length] (S.set n o ++ [.lst (sz.map iD)]) = .ok (.int (prodN sz : Nat)) (S.set n o ++ [.lst (sz.map iD)]) := product_ok seqIt_2 fun x hx => by
      have := g2 x hx
      omega
    have q1 : ((prodN sz : Nat) : Int) ≤ 2147483648 := by omega
    have hlt : n < (S.set n o ++ [.lst (sz.map iD)] : Sto).length := by simp; omega
    have st1 : St (S.set n o ++ [.lst (sz.map iD)]) n := (h.set ho).app
    simp [pe, hp0, q1]
    by_cases hd : 1 < (m : Int) / (prodN sz : Nat)
    · obtain ⟨r2, o2, ho2, hr2, e2⟩ := take_nat (m := 4) (k := 4) st1 rfl (by decide) (by decide)
      rw [sto_re hn] at e2
      simp [hd, e2]
      by_cases h0 : 0 < r2
      · have st2 : St (S.set n o2 ++ [.lst (sz.map iD)]) n := (h.set ho2).app
        have hd2 : 1 < m / prodN sz := by omega
        obtain ⟨r3, o3, ho3, hr3, e3⟩ := take_nat (m := min 6 ((m : Int) / (prodN sz : Nat) - 1)) (k := min 6 (m / prodN sz - 1)) st2 (by omega) (by omega) (by omega)
        rw [sto_re hn] at e3
        simp [h0, e3]
        rw [fAppend_2 (by simp; omega)]
        simp
        refine (hI _ _ _).mpr ⟨o3, sz ++ [2 + r3], _, _, ho3, rfl, by simp, ?_, ?_, by simp, by simp; omega, ?_⟩
        · intro s hs
          rcases List.mem_append.mp hs with hs | hs
          · exact g1 s hs
          · rw [List.mem_singleton.mp hs]; omega
        · intro s hs
          rcases List.mem_append.mp hs with hs | hs
          · exact g2 s hs
          · rw [List.mem_singleton.mp hs]; omega
        · rw [prodN_append, prodN_cons, prodN_nil, Nat.mul_one]
          have : 2 + r3 ≤ m / prodN sz := by omega
          exact Nat.le_trans (Nat.mul_le_mul_left _ this) (Nat.mul_div_le _ _)
      · simp [h0]
        exact (hI _ _ _).mpr ⟨o2, sz, _, _, ho2, rfl, rfl, g1, g2, g3, by omega, g5⟩
    · simp [hd]
      exact (hI _ _ _).mpr ⟨o, sz, _, _, ho, rfl, rfl, g1, g2, g3, by omega, g5⟩
  · obtain ⟨o, sz, x3, x4, ho, rfl, rfl, g1, g2, g3, g4, g5⟩ := (hI _ _ _).mp hJ
    simp
    exact ⟨o, ho, sz, rfl, ⟨g1, g2, g3, by simpa using g4⟩, g5, _, rfl⟩
end MP

/-! Q, part e: the rules that are drawn. -/
namespace MP
open PySem L2
structure Ru where
  sz : List Nat
  pw : List (List Nat)
  ex : List (List Nat)
def ruD (r : Ru) : D := .tup [nT r.sz, .tup (r.pw.map nT), .tup (r.ex.map nT)]
theorem low_nTs {b : Nat} {l : List (List Nat)} : lowDs b (l.map nT) = true := lowDs_iff.mpr fun d hd => by
  obtain ⟨n, _, rfl⟩ := List.mem_map.mp hd
  exact low_nT
@[simp] theorem low_ruD {b : Nat} {r : Ru} : lowD b (ruD r) = true := by simp [ruD, low_nTs]
theorem St.self {S : Sto} {n : Nat} (h : St S n) : ∃ o, StO o ∧ S = S.set n o := by
  obtain ⟨o, h, ho⟩ := h
  obtain ⟨hn, e⟩ := List.getElem?_eq_some_iff.mp h
  exact ⟨o, ho, by rw [← e, List.set_getElem_self]⟩
theorem tup_zeros {k : Nat} : D.tup (List.replicate k (D.int 0)) = nT (List.replicate k 0) := by simp [nT, iD]
theorem map_range_get {l : List Nat} {i : Nat} {S : Sto} (h : i < l.length) : dIx (nT l) (iD i) S = some (iD (l.getD i 0)) := by
  show atI (l.map iD) (i : Int) = _
  refine atI_some ?_
  simp [h]
/-- a plain power: noughts, or a later letter so often -/
def PlainPw (sz : List Nat) (i : Nat) (f : List Nat) : Prop := f = List.replicate sz.length 0 ∨ ∃ later often, i < later ∧ later < sz.length ∧ often < sz.getD later 0 ∧ f = aloneL sz.length later often
def plainEx (k : Nat) : List (List Nat) := (pairsL k).map fun p => aloneL k p.2 1
theorem plain_ok {S : Sto} {n : Nat} {sz : List Nat} (h : St S n) (hz : Szs sz) : Dr S n (f_law_plain_rules [.ref n, nT sz] S) fun d => ∃ pw : List (List Nat), d = ruD ⟨sz, pw, plainEx sz.length⟩ ∧ pw.length = sz.length ∧ ∀ i f, pw[i]? = some f → PlainPw sz i f := by
  have hn := h.lt
  obtain ⟨P, hP⟩ : ∃ P : D → Sto → Prop, ∀ d S', P d S' ↔ ∃ (o : Ob) (pw : List (List Nat)) (X : Sto), StO o ∧ d = ruD ⟨sz, pw, plainEx sz.length⟩ ∧ pw.length = sz.length ∧ (∀ i f, pw[i]? = some f → PlainPw sz i f) ∧ S' = S.set n o ++ X := ⟨_, fun _ _ => Iff.rfl⟩
  suffices hs : Ok (mkFn 8 m_law_plain_rules [.ref n, nT sz] S) P by
    obtain ⟨d, S', e, p⟩ := hs.eq
    obtain ⟨o, pw, X, ho, rfl, hl, hp, rfl⟩ := (hP _ _).mp p
    exact ⟨_, o, ho, ⟨pw, rfl, hl, hp⟩, trunc_dr e ho (by simp)⟩
  rw [mkFn_ap]
  have hk := hz.len
  obtain ⟨k, ek⟩ : ∃ k, sz.length = k := ⟨_, rfl⟩
  have r1 : rangeIt [iD k] = some (rangeD 0 k, []) := by
    have := rangeIt_1 (j := (k : Int)) (by omega)
    simpa using this
  have fl : ∀ T, fLen [nT sz] T = some (iD k) := fun T => by simp [nT, ek]
  simp [m_law_plain_rules, fl, r1]
  obtain ⟨I, hI⟩ : ∃ I : Nat → Fr → Sto → Prop, ∀ i ρ S', I i ρ S' ↔ ∃ (o : Ob) (pw : List (List Nat)) (x4 x5 x6 : Option D), StO o ∧ ρ = [some (.ref n), some (nT sz), some (iD k), some (.ref S.length), x4, x5, x6, none] ∧ S' = S.set n o ++ [.lst (pw.map nT)] ∧ pw.length = i ∧ (∀ i f, pw[i]? = some f → PlainPw sz i f) := ⟨_, fun _ _ _ => Iff.rfl⟩
  refine forL_ok I ((hI _ _ _).mpr ?_) (fun i ρ S' hJ => gOk_nil) (fun i e ρ S' he hJ => ?_) (fun ρ S' hJ => ?_)
  · obtain ⟨o, ho, e⟩ := h.self
    exact ⟨o, [], none, none, none, ho, rfl, by rw [← e]; rfl, rfl, by simp⟩
  · obtain ⟨o, pw, x4, x5, x6, ho, rfl, rfl, hl, hp⟩ := (hI _ _ _).mp hJ
    obtain ⟨hi, rfl⟩ := rangeD_get he
    have hlt : n < S.length := hn
    have st1 : St (S.set n o ++ [.lst (pw.map nT)]) n := (h.set ho).app
    have k1 : (-1000 : Int) ≤ (k : Int) := by omega
    have k2 : (k : Int) ≤ 1000 := by omega
    have fin : ∀ (f : List Nat) (o : Ob) x6, StO o → PlainPw sz i f → I (i + 1) [some (.ref n), some (nT sz), some (iD k), some (.ref S.length), some (.int (0 + (i : Int))), some (nT f), x6, none] (S.set n o ++ [.lst ((pw ++ [f]).map nT)]) := fun f o x6 ho hf => by
      refine (hI _ _ _).mpr ⟨o, pw ++ [f], _, _, _, ho, rfl, rfl, by simp [hl], fun j g hg => ?_⟩
      by_cases hj : j < pw.length
      · rw [List.getElem?_append_left hj] at hg
        exact hp j g hg
      · rw [List.getElem?_append_right (by omega)] at hg
        by_cases hj2 : j = pw.length
        · subst hj2
          simp at hg
          rw [← hg, hl]
          exact hf
        · rw [List.getElem?_eq_none (by simp; omega)] at hg
          cases hg
    have zf : PlainPw sz i (List.replicate k 0) := .inl (by rw [ek])
    have ap : ∀ (o : Ob) (f : List Nat), fAppend (.ref S.length) [nT f] (S.set n o ++ [.lst (pw.map nT)]) = some (.non, S.set n o ++ [.lst ((pw ++ [f]).map nT)]) := fun o f => by
      rw [fAppend_2 (by simp; omega)]
      simp
    simp [k1, k2, tup_zeros]
    by_cases h1 : (i : Int) + 1 < (k : Int)
    · obtain ⟨r, o2, ho2, hr, e2⟩ := take_nat (m := 2) (k := 2) st1 rfl (by decide) (by decide)
      rw [sto_re hn] at e2
      simp [h1, e2]
      by_cases h0 : r = 0
      · have st2 : St (S.set n o2 ++ [.lst (pw.map nT)]) n := (h.set ho2).app
        obtain ⟨r3, o3, ho3, hr3, e3⟩ := take_nat (m := (k : Int) - (i : Int) - 1) (k := k - i - 1) st2 (by omega) (by omega) (by omega)
        rw [sto_re hn] at e3
        have st3 : St (S.set n o3 ++ [.lst (pw.map nT)]) n := (h.set ho3).app
        have lt : i + 1 + r3 < sz.length := by omega
        have ix : ∀ T, dIx (nT sz) (.int ((i : Int) + 1 + (r3 : Int))) T = some (iD (sz.getD (i + 1 + r3) 0)) := fun T => by
          have := map_range_get (S := T) lt
          simpa [iD] using this
        have gs : sz.getD (i + 1 + r3) 0 ∈ sz := by
          rw [List.getD_eq_getElem?_getD, List.getElem?_eq_getElem lt]
          exact List.getElem_mem lt
        have g2 := hz.ge _ gs
        have g8 := hz.lt _ gs
        obtain ⟨r4, o4, ho4, hr4, e4⟩ := take_nat (m := ((sz.getD (i + 1 + r3) 0 : Nat) : Int)) (k := sz.getD (i + 1 + r3) 0) st3 rfl (by omega) (by omega)
        rw [sto_re hn] at e4
        have al := alone_ok (k := k) (j := i + 1 + r3) (o := r4) (S := S.set n o4 ++ [.lst (pw.map nT)]) (by omega)
        have al2 : f_law_alone [iD k, .int ((i : Int) + 1 + (r3 : Int)), iD r4] (S.set n o4 ++ [.lst (pw.map nT)]) = .ok (nT (aloneL k (i + 1 + r3) r4)) (S.set n o4 ++ [.lst (pw.map nT)]) := by
          rw [← al]
          simp [iD]
        simp only [List.getD_eq_getElem?_getD, iD] at ix e4
        simp [h0, e3, ix, e4, al2, ap]
        have := fin (aloneL k (i + 1 + r3) r4) o4 (some (.int ((i : Int) + 1 + (r3 : Int)))) ho4 (.inr ⟨i + 1 + r3, r4, by omega, lt, hr4, by rw [ek]⟩)
        simpa using this
      · simp [h0, ap]
        have := fin _ o2 x6 ho2 zf
        simpa using this
    · simp [h1, ap]
      have := fin _ o x6 ho zf
      simpa using this
  · obtain ⟨o, pw, x4, x5, x6, ho, rfl, rfl, hl, hp⟩ := (hI _ _ _).mp hJ
    have pe : ∀ T, f_pairs_of [iD k] T = .ok (.lv ((pairsL k).map pD)) T := fun T => pairs_ok (by omega)
    have pl : (pairsL k).length ≤ 1000000 := by
      have := pairsTo_len k k (Nat.le_refl _)
      have h25 : k * k ≤ 5 * 5 := Nat.mul_le_mul (by omega) (by omega)
      unfold pairsL
      omega
    simp [pe, pl]
    rw [lcGo_map (fun d => match d with
      | .tup [_, .int j] => nT (aloneL k j.toNat 1)
      | _ => .non) gOk_nil (fun d hd => ?_)]
    · simp
      refine (hP _ _).mpr ⟨o, pw, _, ho, ?_, by simpa using hl.trans (by simp [ek]), hp, rfl⟩
      simp [ruD, plainEx, ek]
      intro a b hab
      simp [pD]
    · obtain ⟨p, hp2, rfl⟩ := List.mem_map.mp hd
      have al := alone_ok (k := k) (j := p.2) (o := 1) (S := S.set n o ++ [.lst (pw.map nT)]) (by omega)
      refine ⟨_, rfl, rfl, ?_⟩
      simp [pD, dIx_t]
      simpa [iD] using al
theorem atI_mem {α : Type} {l : List α} {r : Nat} (h : r < l.length) : ∃ d, atI l (r : Int) = some d ∧ d ∈ l := by
  rw [atI_nat h, List.getElem?_eq_getElem h]
  exact ⟨_, rfl, List.getElem_mem h⟩
structure TurnOk (s w b p : Nat) : Prop where
  s2 : 2 ≤ s
  s7 : s ≤ 7
  w3 : 3 ≤ w
  w7 : w ≤ 7
  b1 : 1 ≤ b
  bw : b < w
  one : b ^ s % w = 1
  pw : p < w
  fix : p * (b - 1) % w = 0
theorem turning_ok {S : Sto} {n m : Nat} (h : St S n) (h8 : 8 ≤ m) (hm : m ≤ 64) : Dr S n (f_law_turning [.ref n, iD m] S) fun d => ∃ s w b p, d = ruD ⟨[s, w], [[0, p], [0, 0]], [[0, b]]⟩ ∧ TurnOk s w b p ∧ s * w ≤ m := by
  have hn := h.lt
  obtain ⟨P, hP⟩ : ∃ P : D → Sto → Prop, ∀ d S', P d S' ↔ ∃ (o : Ob) (s w b p : Nat) (X : Sto), StO o ∧ d = ruD ⟨[s, w], [[0, p], [0, 0]], [[0, b]]⟩ ∧ TurnOk s w b p ∧ s * w ≤ m ∧ S' = S.set n o ++ X := ⟨_, fun _ _ => Iff.rfl⟩
  suffices hs : Ok (mkFn 9 m_law_turning [.ref n, iD m] S) P by
    obtain ⟨d, S', e, pp⟩ := hs.eq
    obtain ⟨o, s, w, b, p, X, ho, rfl, ht, hp, rfl⟩ := (hP _ _).mp pp
    exact ⟨_, o, ho, ⟨s, w, b, p, rfl, ht, hp⟩, trunc_dr e ho (by simp)⟩
  rw [mkFn_ap]
  obtain ⟨r, o, ho, hr, e⟩ := take_nat (m := min 5 ((m : Int) / 2 - 2)) (k := min 5 (m / 2 - 2)) h (by omega) (by omega) (by omega)
  obtain ⟨w, hw⟩ : ∃ w, 3 + r = w := ⟨_, rfl⟩
  have w3 : 3 ≤ w := by omega
  have w7 : w ≤ 7 := by omega
  have mw : 2 ≤ m / w := by
    rw [Nat.le_div_iff_mul_le (by omega)]
    omega
  have hwI : (3 : Int) + (r : Int) = (w : Int) := by omega
  have w0 : 0 < w := by omega
  have wB : (w : Int) ≤ 2147483648 := by omega
  obtain ⟨t, ht⟩ : ∃ t, min 7 (m / w) = t := ⟨_, rfl⟩
  have htI : (1 : Int) + min 7 ((m : Int) / (w : Int)) = ((1 + t : Nat) : Int) := by
    rw [← ht]
    omega
  have r1 : rangeIt [.int 2, .int (1 + min 7 ((m : Int) / (w : Int)))] = some (rangeD 2 (t - 1), []) := by
    rw [htI, rangeIt_2 (by omega)]
    rw [show (((1 + t : Nat) : Int) - 2).toNat = t - 1 by omega]
  have r2 : rangeIt [.int 1, iD w] = some (rangeD 1 (w - 1), []) := by
    rw [rangeIt_2 (by omega)]
    rw [show ((w : Int) - 1).toNat = w - 1 by omega]
  have tw : ∀ s, s ≤ t → s * w ≤ m := fun s hs => by
    have : s ≤ m / w := by omega
    exact Nat.le_trans (Nat.mul_le_mul_right _ this) (Nat.div_mul_le_self _ _)
  simp [m_law_turning, e, hwI, w0, wB, r1]
  obtain ⟨G, hG⟩ : ∃ G : Nat × Nat → Prop, ∀ p, G p ↔ 2 ≤ p.1 ∧ p.1 ≤ t ∧ 1 ≤ p.2 ∧ p.2 < w ∧ p.2 ^ p.1 % w = 1 := ⟨_, fun _ => Iff.rfl⟩
  obtain ⟨I, hI⟩ : ∃ I : Nat → Fr → Sto → Prop, ∀ i ρ S', I i ρ S' ↔ ∃ (gs : List (Nat × Nat)) (x4 x5 : Option D), ρ = [some (.ref n), some (iD m), some (iD w), some (.ref S.length), x4, x5, none, none, none] ∧ S' = S.set n o ++ [.lst (gs.map pD)] ∧ (∀ p ∈ gs, G p) ∧ gs.length ≤ i * 7 ∧ (1 ≤ i → gs ≠ []) := ⟨_, fun _ _ _ => Iff.rfl⟩
  refine forL_ok I ((hI _ _ _).mpr ?_) (fun i ρ S' hJ => gOk_nil) (fun i e ρ S' he hJ => ?_) (fun ρ S' hJ => ?_)
  · exact ⟨[], none, none, rfl, by simp, by simp, by simp, by simp⟩
  · obtain ⟨gs, x4, x5, rfl, rfl, hg, hl, hne⟩ := (hI _ _ _).mp hJ
    obtain ⟨hi, rfl⟩ := rangeD_get he
    simp [r2]
    obtain ⟨J, hJJ⟩ : ∃ J : Nat → Fr → Sto → Prop, ∀ j ρ S', J j ρ S' ↔ ∃ (g2 : List (Nat × Nat)) (x5 : Option D), ρ = [some (.ref n), some (iD m), some (iD w), some (.ref S.length), some (.int (2 + (i : Int))), x5, none, none, none] ∧ S' = S.set n o ++ [.lst (g2.map pD)] ∧ (∀ p ∈ g2, G p) ∧ g2.length ≤ i * 7 + j ∧ (1 ≤ j → g2 ≠ []) := ⟨_, fun _ _ _ => Iff.rfl⟩
    refine forL_ok J ((hJJ _ _ _).mpr ?_) (fun i ρ S' hJ => gOk_nil) (fun j e ρ S' he hJ => ?_) (fun ρ S' hJ => ?_)
    · exact ⟨gs, _, rfl, rfl, hg, by simpa using hl, by simp⟩
    · obtain ⟨g2, x5, rfl, rfl, hg, hl, hne⟩ := (hJJ _ _ _).mp hJ
      obtain ⟨hj, rfl⟩ := rangeD_get he
      have tk : f_law_taken [iD w, .int (1 + (j : Int)), .int (2 + (i : Int))] (S.set n o ++ [.lst (g2.map pD)]) = .ok (iD ((1 + j) ^ (2 + i) % w)) (S.set n o ++ [.lst (g2.map pD)]) := by
        rw [← taken_ok (w := w) (b := 1 + j) (o := 2 + i) w0 (by omega) (by omega) (by omega)]
        simp [iD]
      simp only [gN_ap, ok_ok, List.set_cons_succ, List.set_cons_zero, mIf_ap, mT_ap, mOp_ap, mCall_ap, mConsA_ap, mVar_s, mVar_z, Res.bind_ok, mNilA_ap, tk, mC_ap, dEq_i, optR_some, toB_ap]
      by_cases h1 : (1 + j) ^ (2 + i) % w = 1
      · have h1I : (((1 + j) ^ (2 + i) % w : Nat) : Int) = 1 := by omega
        rw [if_pos (decide_eq_true h1I)]
        simp
        rw [fAppend_2 (by simp; omega)]
        simp
        refine (hJJ _ _ _).mpr ⟨g2 ++ [(2 + i, 1 + j)], _, rfl, by simp [pD, iD], fun p hp => ?_, by simp; omega, by simp⟩
        rcases List.mem_append.mp hp with hp | hp
        · exact hg p hp
        · rw [List.mem_singleton.mp hp]
          exact (hG _).mpr ⟨by simp, by simp; omega, by simp, by simp; omega, h1⟩
      · have h1I : ¬ (((1 + j) ^ (2 + i) % w : Nat) : Int) = 1 := by omega
        rw [if_neg (by simpa using h1I)]
        simp
        refine (hJJ _ _ _).mpr ⟨g2, _, rfl, rfl, hg, by omega, fun hj1 => ?_⟩
        by_cases hj0 : j = 0
        · subst hj0
          exfalso
          apply h1
          rw [Nat.add_zero, Nat.one_pow]
          exact Nat.mod_eq_of_lt (by omega)
        · exact hne (by omega)
    · obtain ⟨g2, x5, rfl, rfl, hg, hl, hne⟩ := (hJJ _ _ _).mp hJ
      rw [rangeD_len] at hl hne
      refine (hI _ _ _).mpr ⟨g2, _, _, rfl, rfl, hg, by omega, fun _ => hne (by omega)⟩
  · obtain ⟨gs, x4, x5, rfl, rfl, hg, hl, hne⟩ := (hI _ _ _).mp hJ
    rw [rangeD_len] at hl hne
    have gne := hne (by omega)
    have gl : 0 < gs.length := List.length_pos_iff.mpr gne
    have st1 : St (S.set n o ++ [.lst (gs.map pD)]) n := (h.set ho).app
    obtain ⟨r2, o2, ho2, hr2, e2⟩ := take_nat (m := ((gs.length : Nat) : Int)) (k := gs.length) st1 rfl gl (by omega)
    rw [sto_re hn] at e2
    have g0 : gs[r2]? = some gs[r2] := List.getElem?_eq_getElem hr2
    obtain ⟨p, hp⟩ : ∃ p, gs[r2] = p := ⟨_, rfl⟩
    have pm : p ∈ gs := hp ▸ List.getElem_mem hr2
    rw [hp] at g0
    obtain ⟨q1, q2, q3, q4, q5⟩ := (hG _).mp (hg p pm)
    have ix : dIx (.ref S.length) (iD r2) (S.set n o2 ++ [.lst (gs.map pD)]) = some (pD p) := by
      rw [dIx_ref (l := gs.map pD) (by simp)]
      refine atI_some ?_
      rw [List.getElem?_map, g0]
      rfl
    have r3 : rangeIt [iD w] = some (rangeD 0 w, []) := by
      have := rangeIt_1 (j := (w : Int)) (by omega)
      simpa using this
    have w6 : w ≤ 1000000 := by omega
    simp [e2, ix, pD, r3, w6]
    have cp : (p.2 : Int) - 1 = ((p.2 - 1 : Nat) : Int) := by omega
    rw [lcGo_filter (fun d => match d with
      | .int i => decide (i * ((p.2 - 1 : Nat) : Int) % (w : Int) = 0)
      | _ => false) id gOk_nil (fun d hd => ?_)]
    · rw [ok_ok, List.map_id]
      obtain ⟨L, hL⟩ : ∃ L, List.filter (fun d => match d with
        | D.int i => decide (i * ((p.2 - 1 : Nat) : Int) % (w : Int) = 0)
        | _ => false) (rangeD 0 w) = L := ⟨_, rfl⟩
      rw [hL]
      have L0 : 0 < L.length := by
        have : D.int 0 ∈ L := by
          rw [← hL]
          refine List.mem_filter.mpr ⟨List.mem_map.mpr ⟨0, by simpa using w0, rfl⟩, by simp⟩
        exact List.length_pos_of_mem this
      have Lw : L.length ≤ w := by
        rw [← hL]
        exact Nat.le_trans (List.length_filter_le _ _) (by simp)
      have st2 : St (S.set n o2 ++ [.lst (gs.map pD)]) n := (h.set ho2).app
      obtain ⟨r4, o4, ho4, hr4, e4⟩ := take_nat (m := ((L.length : Nat) : Int)) (k := L.length) st2 rfl L0 (by omega)
      rw [sto_re hn] at e4
      obtain ⟨d, d1, d2⟩ := atI_mem hr4
      rw [← hL] at d2
      obtain ⟨d3, d4⟩ := List.mem_filter.mp d2
      obtain ⟨x, hx, rfl⟩ := List.mem_map.mp d3
      have hxw : x < w := by simpa using hx
      have d5 : x * (p.2 - 1) % w = 0 := by
        have := of_decide_eq_true d4
        simp only [Int.zero_add] at this
        exact_mod_cast this
      rw [e4, ok_ok, dIx_l, d1, optR_some, ok_ok]
      refine (hP _ _).mpr ⟨o4, p.1, w, p.2, x, _, ho4, by simp [ruD, nT, iD], ⟨q1, by omega, w3, w7, q3, q4, q5, hxw, d5⟩, tw _ q2, rfl⟩
    · obtain ⟨x, hx, rfl⟩ := List.mem_map.mp hd
      have hxw : x < w := by simpa using hx
      have x1 : (-2147483648 : Int) ≤ (x : Int) := by omega
      have x2 : (x : Int) ≤ 2147483648 := by omega
      refine ⟨_, rfl, ?_, fun _ => ?_⟩
      · simp [cp, x1, x2, w0]
      · simp
theorem meeting_ok {S : Sto} {n m : Nat} (h : St S n) (h8 : 8 ≤ m) : Dr S n (f_law_meeting [.ref n, iD m] S) fun d => ∃ s a b c, d = ruD ⟨[s, s, s], [[0, 0, a], [0, 0, b], [0, 0, 0]], [[0, 1, c], [0, 0, 1], [0, 0, 1]]⟩ ∧ (s = 2 ∨ s = 3) ∧ a < s ∧ b < s ∧ 1 ≤ c ∧ c < s ∧ s * s * s ≤ m := by
  have hn := h.lt
  obtain ⟨P, hP⟩ : ∃ P : D → Sto → Prop, ∀ d S', P d S' ↔ ∃ (o : Ob) (s a b c : Nat), StO o ∧ d = ruD ⟨[s, s, s], [[0, 0, a], [0, 0, b], [0, 0, 0]], [[0, 1, c], [0, 0, 1], [0, 0, 1]]⟩ ∧ (s = 2 ∨ s = 3) ∧ a < s ∧ b < s ∧ 1 ≤ c ∧ c < s ∧ s * s * s ≤ m ∧ S' = S.set n o := ⟨_, fun _ _ => Iff.rfl⟩
  suffices hs : Ok (mkFn 4 m_law_meeting [.ref n, iD m] S) P by
    obtain ⟨d, S', e, pp⟩ := hs.eq
    obtain ⟨o, s, a, b, c, ho, rfl, q1, q2, q3, q4, q5, q6, rfl⟩ := (hP _ _).mp pp
    exact ⟨_, o, ho, ⟨s, a, b, c, rfl, q1, q2, q3, q4, q5, q6⟩, trunc_dr (X := []) (by rw [e, List.append_nil]) ho (by simp)⟩
  rw [mkFn_ap]
  obtain ⟨r, o, ho, hr, e⟩ := take_nat (m := 2) (k := 2) h rfl (by decide) (by decide)
  have main : ∀ s : Nat, (s = 2 ∨ s = 3) → s * s * s ≤ m → Ok ((mSet 3 (mTup (mConsA (mTup (mConsA (mC (.int 0)) (mConsA (mC (.int 0)) (mConsA (mCall f_law_take (mConsA (mVar 0) (mConsA (mVar 2) mNilA))) mNilA)))) (mConsA (mTup (mConsA (mC (.int 0)) (mConsA (mC (.int 0)) (mConsA (mCall f_law_take (mConsA (mVar 0) (mConsA (mVar 2) mNilA))) mNilA)))) (mConsA (mTup (mConsA (mC (.int 0)) (mConsA (mC (.int 0)) (mConsA (mC (.int 0)) mNilA)))) mNilA))))) [some (.ref n), some (iD m), some (iD s), none] (S.set n o)) fun f S' => ∃ (a b : Nat) (o : Ob), a < s ∧ b < s ∧ StO o ∧ S' = S.set n o ∧ f = .nx [some (.ref n), some (iD m), some (iD s), some (.tup [nT [0, 0, a], nT [0, 0, b], nT [0, 0, 0]])] := fun s hs _ => by
    obtain ⟨a, o2, ho2, ha, e2⟩ := take_nat (m := (s : Int)) (k := s) (h.set ho) rfl (by omega) (by omega)
    obtain ⟨b, o3, ho3, hb, e3⟩ := take_nat (m := (s : Int)) (k := s) (h.set ho2) rfl (by omega) (by omega)
    rw [List.set_set] at e2 e3
    simp [e2, e3]
    exact ⟨a, ha, b, hb, o3, ho3, rfl, by simp [nT, iD]⟩
  have fin : ∀ (s a b : Nat) (o : Ob), (s = 2 ∨ s = 3) → s * s * s ≤ m → a < s → b < s → StO o → Ok ((mRet (mTup (mConsA (mOp dMul (mTup (mConsA (mVar 2) mNilA)) (mC (.int 3))) (mConsA (mVar 3) (mConsA (mTup (mConsA (mTup (mConsA (mC (.int 0)) (mConsA (mC (.int 1)) (mConsA (mOp dAdd (mC (.int 1)) (mCall f_law_take (mConsA (mVar 0) (mConsA (mOp dSub (mVar 2) (mC (.int 1))) mNilA)))) mNilA)))) (mConsA (mTup (mConsA (mC (.int 0)) (mConsA (mC (.int 0)) (mConsA (mC (.int 1)) mNilA)))) (mConsA (mTup (mConsA (mC (.int 0)) (mConsA (mC (.int 0)) (mConsA (mC (.int 1)) mNilA)))) mNilA)))) mNilA))))) [some (.ref n), some (iD m), some (iD s), some (.tup [nT [0, 0, a], nT [0, 0, b], nT [0, 0, 0]])] (S.set n o)) fun f S' => ∃ d, f = .rt d ∧ P d S' := fun s a b o hs hm ha hb ho => by
    obtain ⟨c, o2, ho2, hc, e2⟩ := take_nat (m := (s : Int) - 1) (k := s - 1) (h.set ho) (by omega) (by omega) (by omega)
    rw [List.set_set] at e2
    simp [e2]
    refine (hP _ _).mpr ⟨o2, s, a, b, 1 + c, ho2, ?_, hs, ha, hb, by omega, by omega, hm, rfl⟩
    simp [ruD, nT, iD, List.replicate]
  have all : ∀ s : Nat, (s = 2 ∨ s = 3) → s * s * s ≤ m → Ok ((mSeq (mSet 3 (mTup (mConsA (mTup (mConsA (mC (.int 0)) (mConsA (mC (.int 0)) (mConsA (mCall f_law_take (mConsA (mVar 0) (mConsA (mVar 2) mNilA))) mNilA)))) (mConsA (mTup (mConsA (mC (.int 0)) (mConsA (mC (.int 0)) (mConsA (mCall f_law_take (mConsA (mVar 0) (mConsA (mVar 2) mNilA))) mNilA)))) (mConsA (mTup (mConsA (mC (.int 0)) (mConsA (mC (.int 0)) (mConsA (mC (.int 0)) mNilA)))) mNilA)))))
 (mRet (mTup (mConsA (mOp dMul (mTup (mConsA (mVar 2) mNilA)) (mC (.int 3))) (mConsA (mVar 3) (mConsA (mTup (mConsA (mTup (mConsA (mC (.int 0)) (mConsA (mC (.int 1)) (mConsA (mOp dAdd (mC (.int 1)) (mCall f_law_take (mConsA (mVar 0) (mConsA (mOp dSub (mVar 2) (mC (.int 1))) mNilA)))) mNilA)))) (mConsA (mTup (mConsA (mC (.int 0)) (mConsA (mC (.int 0)) (mConsA (mC (.int 1)) mNilA)))) (mConsA (mTup (mConsA (mC (.int 0)) (mConsA (mC (.int 0)) (mConsA (mC (.int 1)) mNilA)))) mNilA)))) mNilA)))))) [some (.ref n), some (iD m), some (iD s), none] (S.set n o)) fun f S' => ∃ d, f = .rt d ∧ P d S' := fun s hs hm => by
    rw [mSeq_ap, ok_bind]
    refine (main s hs hm).imp fun f S' ⟨a, b, o, ha, hb, ho, e1, e2⟩ => ?_
    subst e1 e2
    exact fin s a b o hs hm ha hb ho
  have ix : ∀ T, dIx (.lv [.int 2, .int 3]) (iD r) T = some (iD (2 + r)) := fun T => by
    rw [dIx_l]
    have : r = 0 ∨ r = 1 := by omega
    rcases this with rfl | rfl
    · exact atI_some rfl
    · exact atI_some rfl
  by_cases h27 : (m : Int) < 27
  · have := all 2 (.inl rfl) (by omega)
    simp only [m_law_meeting, mSeq_ap (a := mSet 2 _), mSeq_ap (a := mIf _ _ _)]
    simp [e, ix, h27, -mSeq_ap]
    refine this.imp fun f S' ⟨d, e1, p⟩ => ?_
    subst e1
    simpa using p
  · have := all (2 + r) (by omega) (by
      have : r = 0 ∨ r = 1 := by omega
      rcases this with rfl | rfl <;> omega)
    simp only [m_law_meeting, mSeq_ap (a := mSet 2 _), mSeq_ap (a := mIf _ _ _)]
    simp [e, ix, h27, -mSeq_ap]
    refine this.imp fun f S' ⟨d, e1, p⟩ => ?_
    subst e1
    simpa using p
end MP

/-! Q, part f: rules side by side; all rules that are drawn. -/
namespace MP
open PySem L2
theorem pairsL_mem {k : Nat} {p : Nat × Nat} : p ∈ pairsL k ↔ p.1 < p.2 ∧ p.2 < k := by
  simp only [pairsL, List.mem_flatMap, List.mem_range, List.mem_map]
  constructor
  · rintro ⟨a, ha, j, hj, rfl⟩
    simp
    omega
  · rintro ⟨h1, h2⟩
    exact ⟨p.1, by omega, p.2 - p.1 - 1, by omega, Prod.ext rfl (by show p.1 + 1 + (p.2 - p.1 - 1) = p.2; omega)⟩
theorem pairsL_nodup (k : Nat) : (pairsL k).Nodup := by
  unfold pairsL
  rw [List.nodup_iff_pairwise_ne, List.pairwise_flatMap]
  refine ⟨fun a ha => ?_, ?_⟩
  · rw [List.pairwise_map]
    refine (List.nodup_iff_pairwise_ne.mp List.nodup_range).imp fun h e => h ?_
    have := congrArg Prod.snd e
    simp at this
    exact this
  · refine (List.nodup_iff_pairwise_ne.mp List.nodup_range).imp fun h x hx y hy e => h ?_
    obtain ⟨_, _, rfl⟩ := List.mem_map.mp hx
    obtain ⟨_, _, rfl⟩ := List.mem_map.mp hy
    exact congrArg Prod.fst e
theorem nodup_at {α : Type} {l : List α} (h : l.Nodup) {i j : Nat} {a : α} (hi : l[i]? = some a) (hj : l[j]? = some a) : i = j := by
  obtain ⟨i1, e1⟩ := List.getElem?_eq_some_iff.mp hi
  obtain ⟨j1, e2⟩ := List.getElem?_eq_some_iff.mp hj
  exact (List.getElem_inj h (h₀ := i1) (h₁ := j1)).mp (e1.trans e2.symm)
/-! a dict of pairs -/
abbrev Al := List ((Nat × Nat) × List Nat)
def kvD (al : Al) : List (D × D) := al.map fun x => (pD x.1, nT x.2)
def keyP (p : Nat × Nat) : NestedKey := .tup [.num p.1, .num p.2]
theorem keyN_pD (p : Nat × Nat) : keyN (pD p) = some (keyP p) := by simp [pD, keyN, keyNs, keyP]
theorem keyP_inj {p q : Nat × Nat} (h : keyP p = keyP q) : p = q := by
  unfold keyP at h
  simp at h
  exact Prod.ext (by omega) (by omega)
theorem tupKey_pD (p : Nat × Nat) : tupKey (pD p) = some (keyP p) := by
  have h := keyN_pD p
  unfold tupKey
  unfold pD at h ⊢
  simp only [h]
  rfl
theorem kvGet_al {al : Al} {p : Nat × Nat} : kvGet (kvD al) (keyP p) = (al.lookup p).map nT := by
  induction al with
  | nil => rfl
  | cons x al ih =>
    obtain ⟨q, f⟩ := x
    simp only [kvD, List.map_cons, kvGet, keyN_pD, List.lookup_cons]
    by_cases h : q = p
    · subst h
      simp
    · have h1 : ¬ keyP q = keyP p := fun e => h (keyP_inj e)
      have h2 : (p == q) = false := by simpa using fun e => h e.symm
      simp only [h1, Option.some.injEq, if_false, h2]
      exact ih
theorem kvPut_al {al : Al} {p : Nat × Nat} {f : List Nat} (h : al.lookup p = none) : kvPut (kvD al) (pD p) (keyP p) (nT f) = kvD (al ++ [(p, f)]) := by
  unfold kvPut
  rw [kvGet_al, h]
  simp [kvD]
theorem lookup_none_of {al : Al} {p : Nat × Nat} (h : ∀ x ∈ al, x.1 ≠ p) : al.lookup p = none := by
  induction al with
  | nil => rfl
  | cons x al ih =>
    have h1 : (p == x.1) = false := by simpa using fun e => h x List.mem_cons_self e.symm
    rw [List.lookup_cons, h1]
    exact ih fun y hy => h y (List.mem_cons_of_mem _ hy)
theorem dctT_at {S : Sto} {al : Al} {n : Nat} (h : S[n]? = some (.dct (kvD al))) : dctT S (.ref n) = some (kvD al) := by
  unfold dctT
  simp only [h]
  rw [if_pos]
  rw [List.all_eq_true]
  intro x hx
  obtain ⟨y, _, rfl⟩ := List.mem_map.mp hx
  rfl
theorem fSetA_al {S : Sto} {al : Al} {n : Nat} {p : Nat × Nat} {f : List Nat} (h : S[n]? = some (.dct (kvD al))) (hl : al.length < 1000000) (hn : al.lookup p = none) : fSetA (.ref n) (pD p) (nT f) S = some (S.set n (.dct (kvD (al ++ [(p, f)])))) := by
  unfold fSetA
  rw [dctT_at h]
  simp only [fSetT, dctT_at h, tupKey_pD, refOf]
  rw [if_pos (by simp [kvD]; exact Nat.lt_trans hl (by decide)), kvPut_al hn]
theorem fGetT_al {S : Sto} {al : Al} {n : Nat} {p : Nat × Nat} {f : List Nat} (h : S[n]? = some (.dct (kvD al))) : fGetT (.ref n) [pD p, nT f] S = some (nT ((al.lookup p).getD f), S) := by
  unfold fGetT
  simp only [dctT_at h, tupKey_pD, kvGet_al]
  cases al.lookup p <;> rfl
theorem isDT_al {S : Sto} {al : Al} {n : Nat} (h : S[n]? = some (.dct (kvD al))) : isDT (.ref n) S = true := by
  unfold isDT
  rw [dctT_at h]
  rfl
/-! side by side -/
/-- of the right shape -/
structure Ru.Sh (r : Ru) : Prop where
  sz : r.sz.length ≤ 50
  pl : r.pw.length = r.sz.length
  el : r.ex.length = (pairsL r.sz.length).length
  pf : ∀ f ∈ r.pw, f.length = r.sz.length
  ef : ∀ f ∈ r.ex, f.length = r.sz.length
def zs (k : Nat) : List Nat := List.replicate k 0
def shiftP (n : Nat) (p : Nat × Nat) : Nat × Nat := (p.1 + n, p.2 + n)
def knownL (r q : Ru) : Al := (pairsL r.sz.length).zip (r.ex.map (· ++ zs q.sz.length)) ++ ((pairsL q.sz.length).map (shiftP r.sz.length)).zip (q.ex.map (zs r.sz.length ++ ·))
def besideR (r q : Ru) : Ru where
  sz := r.sz ++ q.sz
  pw := r.pw.map (· ++ zs q.sz.length) ++ q.pw.map (zs r.sz.length ++ ·)
  ex := (pairsL (r.sz.length + q.sz.length)).map fun p => ((knownL r q).lookup p).getD (aloneL (r.sz.length + q.sz.length) p.2 1)
theorem nT_app {a b : List Nat} (h : a.length + b.length ≤ 1000000) {S : Sto} : dAdd (nT a) (nT b) S = some (nT (a ++ b)) := by
  unfold nT
  rw [dAdd_t (by simpa using h), List.map_append]
theorem zs_ap {k : Nat} {S : Sto} (h : k ≤ 1000) : dMul (.tup [.int 0]) (iD k) S = some (nT (zs k)) := by
  rw [dMul_t (by omega) (by omega) (by simp)]
  simp [nT, zs, iD]
theorem zipD_get {l m : List D} {i : Nat} {d : D} (h : (zipD l m)[i]? = some d) : ∃ a b, l[i]? = some a ∧ m[i]? = some b ∧ d = .tup [a, b] := by
  unfold zipD at h
  rw [List.getElem?_zipWith] at h
  cases ha : l[i]? with
  | none => rw [ha] at h; cases h
  | some a =>
    cases hb : m[i]? with
    | none => rw [ha, hb] at h; cases h
    | some b =>
      rw [ha, hb] at h
      cases h
      exact ⟨a, b, rfl, rfl, rfl⟩
theorem beside_ok {S : Sto} {r q : Ru} (hr : r.Sh) (hq : q.Sh) : f_law_beside [ruD r, ruD q] S = .ok (ruD (besideR r q)) S := by
  obtain ⟨n, en⟩ : ∃ n, r.sz.length = n := ⟨_, rfl⟩
  obtain ⟨m, em⟩ : ∃ m, q.sz.length = m := ⟨_, rfl⟩
  have hn := hr.sz
  have hm := hq.sz
  have plen : ∀ k, k ≤ 100 → (pairsL k).length ≤ 10000 := fun k hk => by
    have := pairsTo_len k k (Nat.le_refl _)
    have h25 : k * k ≤ 100 * 100 := Nat.mul_le_mul hk hk
    unfold pairsL
    omega
  have rp := hr.pl
  have re := hr.el
  have qp := hq.pl
  have qe := hq.el
  have rf := hr.pf
  have qf := hq.pf
  have rx := hr.ef
  have qx := hq.ef
  rw [en] at hn rp re rf rx
  rw [em] at hm qp qe qf qx
  have pn := plen n (by omega)
  have pm := plen m (by omega)
  have pnm := plen (n + m) (by omega)
  refine trunc_eq (X := [.dct (kvD (knownL r q))]) (ok_eq ?_) (by simp)
  rw [mkFn_ap]
  have i0 : ∀ (r : Ru) T, dIx (ruD r) (.int 0) T = some (nT r.sz) := fun r T => by rw [ruD, dIx_t, atI_0]
  have i1 : ∀ (r : Ru) T, dIx (ruD r) (.int 1) T = some (.tup (r.pw.map nT)) := fun r T => by rw [ruD, dIx_t, atI_1]
  have i2 : ∀ (r : Ru) T, dIx (ruD r) (.int 2) T = some (.tup (r.ex.map nT)) := fun r T => by rw [ruD, dIx_t, atI_2]
  have fl : ∀ (l : List Nat) T, fLen [nT l] T = some (iD l.length) := fun l T => by simp [nT]
  have z1 : ∀ T, dMul (.tup [.int 0]) (iD m) T = some (nT (zs m)) := fun T => zs_ap (by omega)
  have z2 : ∀ T, dMul (.tup [.int 0]) (iD n) T = some (nT (zs n)) := fun T => zs_ap (by omega)
  have g1 : r.pw.length ≤ 1000000 := by omega
  have g2 : q.pw.length ≤ 1000000 := by omega
  simp only [m_law_beside, mSeq_ap, mSet_ap, mCB_ap, mConsA_ap, mOp_ap, mVar_z, mVar_s, mC_ap, Res.bind_ok, i0, i1, i2, optR_some, mNilA_ap, fl, en, em, List.map_cons, List.map_nil, List.length_cons, List.length_nil, List.replicate, List.set_cons_zero, List.set_cons_succ, List.cons_append, List.nil_append, Nat.reduceAdd, Nat.reduceSub, mLv_ap, mLc_ap, mIt_ap, seqIt_t, List.length_map, gate_ok g1, wipeF_cons, wipeF_nil]
  rw [lcGo_map (fun d => match d with
    | .tup l => .tup (l ++ (zs m).map iD)
    | _ => .non) gOk_nil (fun d hd => ?_)]
  rotate_left
  · obtain ⟨f, hf, rfl⟩ := List.mem_map.mp hd
    refine ⟨_, rfl, rfl, ?_⟩
    have := rf f hf
    simp [z1, nT_app (a := f) (b := zs m) (by simp [zs]; omega)]
    simp [nT]
  simp only [Res.bind_ok, gate_ok g2]
  rw [lcGo_map (fun d => match d with
    | .tup l => .tup ((zs n).map iD ++ l)
    | _ => .non) gOk_nil (fun d hd => ?_)]
  rotate_left
  · obtain ⟨f, hf, rfl⟩ := List.mem_map.mp hd
    refine ⟨_, rfl, rfl, ?_⟩
    have := qf f hf
    simp [z2, nT_app (a := zs n) (b := f) (by simp [zs]; omega)]
    simp [nT]
  rw [Res.bind_ok, Res.bind_ok, dAdd_l (by simp; omega), optR_some]
  have epw : List.map (fun d => match d with
    | .tup l => .tup (l ++ (zs m).map iD)
    | _ => D.non) (List.map nT r.pw) ++ List.map (fun d => match d with
    | .tup l => .tup ((zs n).map iD ++ l)
    | _ => D.non) (List.map nT q.pw) = (besideR r q).pw.map nT := by
    simp only [besideR, en, em, List.map_append, List.map_map]
    congr 1
    · exact List.map_congr_left fun f _ => by simp [nT]
    · exact List.map_congr_left fun f _ => by simp [nT]
  rw [epw]
  have pe : ∀ k T, k ≤ 100 → f_pairs_of [iD k] T = .ok (.lv ((pairsL k).map pD)) T := fun k T hk => pairs_ok hk
  have zi1 : ∀ T, zipIt T [.lv ((pairsL n).map pD), .tup (r.ex.map nT)] = some (zipD ((pairsL n).map pD) (r.ex.map nT), []) := fun T => rfl
  have zi2 : ∀ T, zipIt T [.lv ((pairsL m).map pD), .tup (q.ex.map nT)] = some (zipD ((pairsL m).map pD) (q.ex.map nT), []) := fun T => rfl
  simp only [Res.bind_ok, mNewD_ap, List.set_cons_zero, List.set_cons_succ, mFor_ap, mItZ_ap, mConsA_ap, mCall_ap, mVar_z, mVar_s, mNilA_ap, pe n _ (by omega), i2, mOp_ap, mC_ap, optR_some, zi1, ok_bind]
  obtain ⟨k1, hk1⟩ : ∃ k1 : Al, k1 = (pairsL n).zip (r.ex.map (· ++ zs m)) := ⟨_, rfl⟩
  obtain ⟨k2, hk2⟩ : ∃ k2 : Al, k2 = ((pairsL m).map (shiftP n)).zip (q.ex.map (zs n ++ ·)) := ⟨_, rfl⟩
  have kn : knownL r q = k1 ++ k2 := by rw [hk1, hk2, knownL, en, em]
  have l1 : k1.length = (pairsL n).length := by rw [hk1, List.length_zip, List.length_map]; omega
  have l2 : k2.length = (pairsL m).length := by rw [hk2, List.length_zip, List.length_map, List.length_map]; omega
  obtain ⟨I, hI⟩ : ∃ I : Nat → Fr → Sto → Prop, ∀ i ρ S', I i ρ S' ↔ ∃ (x6 x7 : Option D), ρ = [some (ruD r), some (ruD q), some (iD n), some (iD m), some (.lv ((besideR r q).pw.map nT)), some (.ref S.length), x6, x7, none, none] ∧ S' = S ++ [.dct (kvD (k1.take i))] := ⟨_, fun _ _ _ => Iff.rfl⟩
  refine forL_ok I ((hI _ _ _).mpr ?_) (fun i ρ S' hJ => gOk_nil) (fun i e ρ S' he hJ => ?_) (fun ρ S' hJ => ?_)
  · exact ⟨none, none, rfl, by simp [kvD]⟩
  · obtain ⟨x6, x7, rfl, rfl⟩ := (hI _ _ _).mp hJ
    obtain ⟨a, b, ha, hb, rfl⟩ := zipD_get he
    rw [List.getElem?_map] at ha hb
    obtain ⟨p, hp, rfl⟩ := Option.map_eq_some_iff.mp ha
    obtain ⟨f, hf, rfl⟩ := Option.map_eq_some_iff.mp hb
    have k1i : k1[i]? = some (p, f ++ zs m) := by
      rw [hk1, List.getElem?_zip_eq_some]
      exact ⟨hp, by rw [List.getElem?_map, hf]; rfl⟩
    have hi : i < k1.length := (List.getElem?_eq_some_iff.mp k1i).1
    have no : (k1.take i).lookup p = none := lookup_none_of fun x hx hxp => by
      obtain ⟨j, hj, e⟩ := List.getElem_of_mem hx
      rw [List.getElem_take] at e
      rw [List.length_take] at hj
      have hj2 : k1[j]? = some x := by rw [List.getElem?_eq_getElem (by omega), e]
      obtain ⟨y1, y2⟩ := x
      rw [hk1, List.getElem?_zip_eq_some] at hj2
      simp only at hxp
      subst hxp
      have := nodup_at (pairsL_nodup n) hj2.1 hp
      omega
    have fl2 := rx f (List.mem_of_getElem? hf)
    have sa := fSetA_al (S := S ++ [.dct (kvD (k1.take i))]) (n := S.length) (al := k1.take i) (p := p) (f := f ++ zs m) (by simp) (by rw [List.length_take]; omega) no
    have tk : k1.take (i + 1) = k1.take i ++ [(p, f ++ zs m)] := by rw [List.take_add_one, k1i]; rfl
    simp [z1, nT_app (a := f) (b := zs m) (by simp [zs]; omega), sa]
    exact (hI _ _ _).mpr ⟨_, _, rfl, by rw [tk]⟩
  · obtain ⟨x6, x7, rfl, rfl⟩ := (hI _ _ _).mp hJ
    have lz : (zipD ((pairsL n).map pD) (r.ex.map nT)).length = k1.length := by
      simp [zipD, l1]
      omega
    rw [lz, List.take_length]
    simp only [ok_bind, ok_ok, mItZ_ap, mConsA_ap, mCall_ap, mVar_z, mVar_s, mNilA_ap, Res.bind_ok, pe m _ (by omega), i2, mOp_ap, mC_ap, optR_some, zi2, mSeq_ap, mFor_ap]
    obtain ⟨I2, hI2⟩ : ∃ I : Nat → Fr → Sto → Prop, ∀ i ρ S', I i ρ S' ↔ ∃ (x6 x7 : Option D), ρ = [some (ruD r), some (ruD q), some (iD n), some (iD m), some (.lv ((besideR r q).pw.map nT)), some (.ref S.length), x6, x7, none, none] ∧ S' = S ++ [.dct (kvD (k1 ++ k2.take i))] := ⟨_, fun _ _ _ => Iff.rfl⟩
    refine forL_ok I2 ((hI2 _ _ _).mpr ?_) (fun i ρ S' hJ => gOk_nil) (fun i e ρ S' he hJ => ?_) (fun ρ S' hJ => ?_)
    · exact ⟨_, _, rfl, by simp⟩
    · obtain ⟨x6, x7, rfl, rfl⟩ := (hI2 _ _ _).mp hJ
      obtain ⟨a, b, ha, hb, rfl⟩ := zipD_get he
      rw [List.getElem?_map] at ha hb
      obtain ⟨p, hp, rfl⟩ := Option.map_eq_some_iff.mp ha
      obtain ⟨f, hf, rfl⟩ := Option.map_eq_some_iff.mp hb
      have k2i : k2[i]? = some (shiftP n p, zs n ++ f) := by
        rw [hk2, List.getElem?_zip_eq_some]
        exact ⟨by rw [List.getElem?_map, hp]; rfl, by rw [List.getElem?_map, hf]; rfl⟩
      have hi : i < k2.length := (List.getElem?_eq_some_iff.mp k2i).1
      have no : (k1 ++ k2.take i).lookup (shiftP n p) = none := lookup_none_of fun x hx hxp => by
        rcases List.mem_append.mp hx with hx | hx
        · rw [hk1] at hx
          have := (pairsL_mem.mp (List.of_mem_zip (a := x.1) (b := x.2) hx).1).2
          rw [hxp] at this
          simp [shiftP] at this
          omega
        · obtain ⟨j, hj, e⟩ := List.getElem_of_mem hx
          rw [List.getElem_take] at e
          rw [List.length_take] at hj
          have hj2 : k2[j]? = some x := by rw [List.getElem?_eq_getElem (by omega), e]
          obtain ⟨y1, y2⟩ := x
          rw [hk2, List.getElem?_zip_eq_some, List.getElem?_map] at hj2
          obtain ⟨y, hy, hy2⟩ := Option.map_eq_some_iff.mp hj2.1
          simp only at hxp
          rw [hxp] at hy2
          have : y = p := by
            simp only [shiftP, Prod.mk.injEq] at hy2
            exact Prod.ext (by omega) (by omega)
          subst this
          have := nodup_at (pairsL_nodup m) hy hp
          omega
      have fl2 := qx f (List.mem_of_getElem? hf)
      have sa := fSetA_al (S := S ++ [.dct (kvD (k1 ++ k2.take i))]) (n := S.length) (al := k1 ++ k2.take i) (p := shiftP n p) (f := zs n ++ f) (by simp) (by rw [List.length_append, List.length_take]; omega) no
      have tk : k1 ++ k2.take (i + 1) = k1 ++ k2.take i ++ [(shiftP n p, zs n ++ f)] := by rw [List.take_add_one, k2i, List.append_assoc]; rfl
      have sp : D.tup [.int ((p.1 : Int) + (n : Int)), .int ((p.2 : Int) + (n : Int))] = pD (shiftP n p) := by simp [pD, shiftP, iD]
      have x0 : ∀ T, dIx (pD p) (.int 0) T = some (iD p.1) := fun T => by rw [pD, dIx_t, atI_0]
      have x1 : ∀ T, dIx (pD p) (.int 1) T = some (iD p.2) := fun T => by rw [pD, dIx_t, atI_1]
      simp [z2, nT_app (a := zs n) (b := f) (by simp [zs]; omega), x0, x1, sp, sa]
      exact (hI2 _ _ _).mpr ⟨_, _, rfl, by rw [tk, List.append_assoc]⟩
    · obtain ⟨x6, x7, rfl, rfl⟩ := (hI2 _ _ _).mp hJ
      have lz : (zipD ((pairsL m).map pD) (q.ex.map nT)).length = k2.length := by
        simp [zipD, l2]
        omega
      rw [lz, List.take_length]
      have al : ∀ (p : Nat × Nat) T, f_law_alone [iD (n + m), iD p.2, .int 1] T = .ok (nT (aloneL (n + m) p.2 1)) T := fun p T => alone_ok (k := n + m) (j := p.2) (o := 1) (by omega)
      have pnm2 : (pairsL (n + m)).length ≤ 1000000 := by omega
      have nm : D.int ((n : Int) + (m : Int)) = iD (n + m) := by simp [iD]
      simp [nm, pe (n + m) _ (by omega), pnm2]
      rw [lcGo_map (fun d => match d with
        | .tup [.int i, .int j] => nT (((knownL r q).lookup (i.toNat, j.toNat)).getD (aloneL (n + m) j.toNat 1))
        | _ => .non) gOk_nil (fun d hd => ?_)]
      · have q1 : (besideR r q).pw.length ≤ 1000000 := by simp [besideR]; omega
        simp [i0, nT_app (a := r.sz) (b := q.sz) (by omega), kn]
        simp only [besideR, ruD, kn, en, em, List.map_map, List.map_append, nT]
        simp [pD, nT]
      · obtain ⟨p, hp, rfl⟩ := List.mem_map.mp hd
        have x1 : ∀ T, dIx (pD p) (.int 1) T = some (iD p.2) := fun T => by rw [pD, dIx_t, atI_1]
        refine ⟨_, rfl, rfl, ?_⟩
        have gt := fGetT_al (S := S ++ [.dct (kvD (k1 ++ k2))]) (n := S.length) (al := k1 ++ k2) (p := p) (f := aloneL (n + m) p.2 1) (by simp)
        have it := isDT_al (S := S ++ [.dct (kvD (k1 ++ k2))]) (n := S.length) (al := k1 ++ k2) (by simp)
        simp [it, x1, al, gt, kn]
        simp [pD]
/-- the rules that are drawn -/
inductive Drawn : Ru → Prop
  | plain (sz : List Nat) (pw : List (List Nat)) : Szs sz → pw.length = sz.length → (∀ i f, pw[i]? = some f → PlainPw sz i f) → Drawn ⟨sz, pw, plainEx sz.length⟩
  | turn (s w b p : Nat) : TurnOk s w b p → Drawn ⟨[s, w], [[0, p], [0, 0]], [[0, b]]⟩
  | meet (s a b c : Nat) : (s = 2 ∨ s = 3) → a < s → b < s → 1 ≤ c → c < s → Drawn ⟨[s, s, s], [[0, 0, a], [0, 0, b], [0, 0, 0]], [[0, 1, c], [0, 0, 1], [0, 0, 1]]⟩
  | beside (r : Ru) (w : Nat) : Drawn r → 2 ≤ w → w ≤ 7 → r.sz.length < 5 → Drawn (besideR r ⟨[w], [[0]], []⟩)
theorem sh_one (w : Nat) : (⟨[w], [[0]], []⟩ : Ru).Sh := ⟨by simp, by simp, rfl, by simp, by simp⟩
theorem knownL_len {r q : Ru} (hr : r.Sh) (hq : q.Sh) : ∀ x ∈ knownL r q, x.2.length = r.sz.length + q.sz.length := fun x hx => by
  rcases List.mem_append.mp hx with hx | hx
  · obtain ⟨_, h⟩ := List.of_mem_zip (a := x.1) (b := x.2) hx
    obtain ⟨f, hf, e⟩ := List.mem_map.mp h
    rw [← e, List.length_append, hr.ef f hf]
    simp [zs]
  · obtain ⟨_, h⟩ := List.of_mem_zip (a := x.1) (b := x.2) hx
    obtain ⟨f, hf, e⟩ := List.mem_map.mp h
    rw [← e, List.length_append, hq.ef f hf]
    simp [zs]
theorem lookup_mem {al : Al} {p : Nat × Nat} {f : List Nat} (h : al.lookup p = some f) : (p, f) ∈ al := by
  induction al with
  | nil => cases h
  | cons x al ih =>
    obtain ⟨q, g⟩ := x
    rw [List.lookup_cons] at h
    split at h
    · rename_i hb
      have : p = q := by simpa using hb
      cases h
      rw [this]
      exact List.mem_cons_self
    · exact List.mem_cons_of_mem _ (ih h)
theorem sh_beside {r q : Ru} (hr : r.Sh) (hq : q.Sh) (h : r.sz.length + q.sz.length ≤ 50) : (besideR r q).Sh := by
  refine ⟨by simpa [besideR] using h, by simp [besideR, hr.pl, hq.pl], by simp [besideR], fun f hf => ?_, fun f hf => ?_⟩
  · rcases List.mem_append.mp hf with hf | hf
    · obtain ⟨g, hg, rfl⟩ := List.mem_map.mp hf
      simp [besideR, hr.pf g hg, zs]
    · obtain ⟨g, hg, rfl⟩ := List.mem_map.mp hf
      simp [besideR, hq.pf g hg, zs]
  · obtain ⟨p, hp, rfl⟩ := List.mem_map.mp hf
    have e : (besideR r q).sz.length = r.sz.length + q.sz.length := by simp [besideR]
    rw [e]
    cases hl : (knownL r q).lookup p with
    | none => simp
    | some f => exact knownL_len hr hq _ (lookup_mem hl)
theorem Drawn.szs {r : Ru} (h : Drawn r) : Szs r.sz := by
  induction h with
  | plain sz pw h _ _ => exact h
  | turn s w b p h =>
    have := h.s2; have := h.s7; have := h.w3; have := h.w7
    exact ⟨by simp; omega, by simp; omega, by simp, by simp⟩
  | meet s a b c h _ _ _ _ => exact ⟨by simp; omega, by simp; omega, by simp, by simp⟩
  | beside r w _ h2 h7 hl ih =>
    refine ⟨fun s hs => ?_, fun s hs => ?_, by simp [besideR], by simp [besideR]; omega⟩
    · rcases List.mem_append.mp hs with hs | hs
      · exact ih.ge s hs
      · rw [List.mem_singleton.mp hs]; exact h2
    · rcases List.mem_append.mp hs with hs | hs
      · exact ih.lt s hs
      · rw [List.mem_singleton.mp hs]; omega
theorem Drawn.sh {r : Ru} (h : Drawn r) : r.Sh := by
  induction h with
  | plain sz pw h hl hp =>
    refine ⟨by have := h.len; show sz.length ≤ 50; omega, hl, by simp [plainEx], fun f hf => ?_, fun f hf => ?_⟩
    · obtain ⟨i, hi, e⟩ := List.getElem_of_mem hf
      rcases hp i f (by rw [List.getElem?_eq_getElem hi, e]) with rfl | ⟨_, _, _, _, _, rfl⟩ <;> simp
    · obtain ⟨p, _, rfl⟩ := List.mem_map.mp hf
      simp
  | turn s w b p h => exact ⟨by simp, by simp, rfl, by simp, by simp⟩
  | meet s a b c h _ _ _ _ => exact ⟨by simp, by simp, rfl, by simp, by simp⟩
  | beside r w _ h2 h7 hl ih => exact sh_beside ih (sh_one w) (by show r.sz.length + 1 ≤ 50; omega)
theorem beq_swap (a i : Int) : (a == i) = decide (i = a) := by
  rw [Bool.eq_iff_iff, beq_iff_eq, decide_eq_true_eq]
  exact eq_comm
theorem dInT_2 {i a b : Int} {S : Sto} : dInT (.int i) (.tup [.int a, .int b]) S = some (.bl (decide (i = a) || decide (i = b))) := by
  simp [dInT, dInTB, flatD, optAll, PyData.eqv]
  rw [beq_swap, beq_swap]
theorem rules_ok {S : Sto} {n m : Nat} (h : St S n) (h8 : 8 ≤ m) (hm : m ≤ 64) : Dr S n (f_law_rules [.ref n, iD m] S) fun d => ∃ r, d = ruD r ∧ Drawn r ∧ prodN r.sz ≤ m := by
  have hn := h.lt
  obtain ⟨P, hP⟩ : ∃ P : D → Sto → Prop, ∀ d S', P d S' ↔ ∃ (o : Ob) (r : Ru), StO o ∧ d = ruD r ∧ Drawn r ∧ prodN r.sz ≤ m ∧ S' = S.set n o := ⟨_, fun _ _ => Iff.rfl⟩
  suffices hs : Ok (mkFn 5 m_law_rules [.ref n, iD m] S) P by
    obtain ⟨d, S', e, pp⟩ := hs.eq
    obtain ⟨o, r, ho, rfl, q1, q2, rfl⟩ := (hP _ _).mp pp
    exact ⟨_, o, ho, ⟨r, rfl, q1, q2⟩, trunc_dr (X := []) (by rw [e, List.append_nil]) ho (by simp)⟩
  rw [mkFn_ap]
  obtain ⟨k, o, ho, hk, e⟩ := take_nat (m := 6) (k := 6) h rfl (by decide) (by decide)
  obtain ⟨_, o2, ho2, ⟨sz, rfl, hz, hp⟩, e2⟩ := sizes_ok (m := m) (h.set ho) (by omega) hm
  obtain ⟨_, o3, ho3, ⟨pw, rfl, q1, q2⟩, e3⟩ := plain_ok ((h.set ho).set ho2) hz
  rw [List.set_set] at e2 e3
  rw [List.set_set] at e3
  obtain ⟨R, hR⟩ : ∃ R : Fl → Sto → Prop, ∀ f S', R f S' ↔ ∃ (o : Ob) (r : Ru), StO o ∧ Drawn r ∧ prodN r.sz ≤ m ∧ S' = S.set n o ∧ f = .nx [some (.ref n), some (iD m), some (iD k), some (ruD r), none] := ⟨_, fun _ _ => Iff.rfl⟩
  have s1 : ∀ (o : Ob) (r : Ru), StO o → Drawn r → prodN r.sz ≤ m → Ok (mIf (mT (mOp dInT (mVar 2) (mTup (mConsA (mC (.int 1)) (mConsA (mC (.int 2)) mNilA)))))
 (mSet 3 (mCall f_law_turning (mConsA (mVar 0) (mConsA (mVar 1) mNilA))))
 mSkip [some (.ref n), some (iD m), some (iD k), some (ruD r), none] (S.set n o)) R := fun o r ho hd hp => by
    obtain ⟨_, o4, ho4, ⟨s, w, b, p, rfl, ht, hsw⟩, e4⟩ := turning_ok (h.set ho) h8 hm
    rw [List.set_set] at e4
    simp only [mIf_ap, mT_ap, mOp_ap, mVar_s, mVar_z, mTup_ap, mConsA_ap, mC_ap, mNilA_ap, Res.bind_ok, List.length_cons, List.length_nil, gate_ok (n := 0 + 1 + 1) (by decide), dInT_2, optR_some, toB_ap]
    by_cases hc : (decide ((k : Int) = 1) || decide ((k : Int) = 2)) = true
    · rw [if_pos hc]
      simp [e4]
      exact (hR _ _).mpr ⟨o4, _, ho4, .turn s w b p ht, by simpa using hsw, rfl, rfl⟩
    · rw [if_neg hc]
      simp
      exact (hR _ _).mpr ⟨o, r, ho, hd, hp, rfl, rfl⟩
  have s2 : ∀ (o : Ob) (r : Ru), StO o → Drawn r → prodN r.sz ≤ m → Ok (mIf (mT (mOp dInT (mVar 2) (mTup (mConsA (mC (.int 3)) (mConsA (mC (.int 4)) mNilA)))))
 (mSet 3 (mCall f_law_meeting (mConsA (mVar 0) (mConsA (mVar 1) mNilA))))
 mSkip [some (.ref n), some (iD m), some (iD k), some (ruD r), none] (S.set n o)) R := fun o r ho hd hp => by
    obtain ⟨_, o4, ho4, ⟨s, a, b, c, rfl, hs, ha, hb, hc1, hc2, hsp⟩, e4⟩ := meeting_ok (h.set ho) h8
    rw [List.set_set] at e4
    simp only [mIf_ap, mT_ap, mOp_ap, mVar_s, mVar_z, mTup_ap, mConsA_ap, mC_ap, mNilA_ap, Res.bind_ok, List.length_cons, List.length_nil, gate_ok (n := 0 + 1 + 1) (by decide), dInT_2, optR_some, toB_ap]
    by_cases hc : (decide ((k : Int) = 3) || decide ((k : Int) = 4)) = true
    · rw [if_pos hc]
      simp [e4]
      exact (hR _ _).mpr ⟨o4, _, ho4, .meet s a b c hs ha hb hc1 hc2, by simpa [Nat.mul_assoc] using hsp, rfl, rfl⟩
    · rw [if_neg hc]
      simp
      exact (hR _ _).mpr ⟨o, r, ho, hd, hp, rfl, rfl⟩
  have fin : ∀ (o : Ob) (r : Ru) x, StO o → Drawn r → prodN r.sz ≤ m → Ok ((mRet (mVar 3)) [some (.ref n), some (iD m), some (iD k), some (ruD r), x] (S.set n o)) fun f S' => ∃ d, f = .rt d ∧ P d S' := fun o r x ho hd hp => by
    simp
    exact (hP _ _).mpr ⟨o, r, ho, rfl, hd, hp, rfl⟩
  have s3 : ∀ (o : Ob) (r : Ru), StO o → Drawn r → prodN r.sz ≤ m → Ok ((mIf (mAndT (mT (mOp dGt (mVar 2) (mC (.int 1)))) (mT (mOp dEq (mCall f_law_take (mConsA (mVar 0) (mConsA (mC (.int 2)) mNilA))) (mC (.int 0)))))
 (mSeq (mSet 4 (mOp dFdiv (mVar 1) (mCall f_product_of (mConsA (mOp dIx (mVar 3) (mC (.int 0))) mNilA))))
 (mIf (mAndT (mT (mOp dGt (mVar 4) (mC (.int 1)))) (mT (mOp dLt (mCB fLen (mConsA (mOp dIx (mVar 3) (mC (.int 0))) mNilA)) (mC (.int 5)))))
 (mSet 3 (mCall f_law_beside (mConsA (mVar 3) (mConsA (mTup (mConsA (mTup (mConsA (mOp dAdd (mC (.int 2)) (mCall f_law_take (mConsA (mVar 0) (mConsA (mCB fMin2 (mConsA (mC (.int 6)) (mConsA (mOp dSub (mVar 4) (mC (.int 1))) mNilA))) mNilA)))) mNilA)) (mConsA (mTup (mConsA (mTup (mConsA (mC (.int 0)) mNilA)) mNilA)) (mConsA (mTup mNilA) mNilA)))) mNilA))))
 mSkip))
 mSkip) [some (.ref n), some (iD m), some (iD k), some (ruD r), none] (S.set n o)) fun f S' => ∃ (o : Ob) (r : Ru) (x : Option D), StO o ∧ Drawn r ∧ prodN r.sz ≤ m ∧ S' = S.set n o ∧ f = .nx [some (.ref n), some (iD m), some (iD k), some (ruD r), x] := fun o r ho hd hp => by
    obtain ⟨t, o4, ho4, ht, e4⟩ := take_nat (m := 2) (k := 2) (h.set ho) rfl (by decide) (by decide)
    rw [List.set_set] at e4
    obtain ⟨T, hT⟩ : ∃ T : Fl → Sto → Prop, ∀ f S', T f S' ↔ ∃ (o : Ob) (r : Ru) (x : Option D), StO o ∧ Drawn r ∧ prodN r.sz ≤ m ∧ S' = S.set n o ∧ f = .nx [some (.ref n), some (iD m), some (iD k), some (ruD r), x] := ⟨_, fun _ _ => Iff.rfl⟩
    suffices hh : Ok _ T from hh.imp fun f S' q => (hT f S').mp q
    have i0 : ∀ T, dIx (ruD r) (.int 0) T = some (nT r.sz) := fun T => by rw [ruD, dIx_t, atI_0]
    have p0 : 0 < prodN r.sz := prodN_pos fun s hs => by have := hd.szs.ge s hs; omega
    have pB : ((prodN r.sz : Nat) : Int) ≤ 2147483648 := by omega
    have pe : ∀ T, f_product_of [nT r.sz] T = .ok (.int (prodN r.sz : Nat)) T := fun T => product_ok (l := r.sz) (g := []) rfl fun x hx => by have := hd.szs.lt x hx; omega
    have fl : ∀ T, fLen [nT r.sz] T = some (iD r.sz.length) := fun T => by simp [nT]
    by_cases h1 : 1 < (k : Int)
    · by_cases h2 : t = 0
      · subst h2
        simp [h1, e4, i0, pe, p0, pB, fl]
        by_cases h3 : 1 < (m : Int) / (prodN r.sz : Nat)
        · by_cases h4 : (r.sz.length : Int) < 5
          · have h3' : 1 < m / prodN r.sz := by omega
            obtain ⟨t2, o5, ho5, ht2, e5⟩ := take_nat (m := min 6 ((m : Int) / (prodN r.sz : Nat) - 1)) (k := min 6 (m / prodN r.sz - 1)) (h.set ho4) (by omega) (by omega) (by omega)
            rw [List.set_set] at e5
            have bo := beside_ok (S := S.set n o5) hd.sh (sh_one (2 + t2))
            have ee : ruD ⟨[2 + t2], [[0]], []⟩ = .tup [.tup [.int (2 + (t2 : Int))], .tup [.tup [.int 0]], .tup []] := by simp [ruD, nT, iD]
            rw [ee] at bo
            simp [h3, h4, e5, bo]
            refine (hT _ _).mpr ⟨o5, _, _, ho5, .beside r (2 + t2) hd (by omega) (by omega) (by omega), ?_, rfl, rfl⟩
            show prodN (r.sz ++ [2 + t2]) ≤ m
            rw [prodN_append, prodN_cons, prodN_nil, Nat.mul_one]
            have : 2 + t2 ≤ m / prodN r.sz := by omega
            exact Nat.le_trans (Nat.mul_le_mul_left _ this) (Nat.mul_div_le _ _)
          · simp [h3, h4]
            exact (hT _ _).mpr ⟨o4, r, _, ho4, hd, hp, rfl, rfl⟩
        · simp [h3]
          exact (hT _ _).mpr ⟨o4, r, _, ho4, hd, hp, rfl, rfl⟩
      · simp [h1, e4, h2]
        exact (hT _ _).mpr ⟨o4, r, _, ho4, hd, hp, rfl, rfl⟩
    · simp [h1]
      exact (hT _ _).mpr ⟨o, r, _, ho, hd, hp, rfl, rfl⟩
  simp only [m_law_rules, ok_bind, mSeq_ap, ok_ok, mSet_ap, mCall_ap, mConsA_ap, mVar_z, mVar_s, mNilA_ap, mC_ap, Res.bind_ok, e, e2, e3, List.map_cons, List.map_nil, List.length_cons, List.length_nil, List.replicate, List.set_cons_zero, List.set_cons_succ, List.cons_append, List.nil_append, Nat.reduceAdd, Nat.reduceSub]
  refine (s1 o3 _ ho3 (.plain sz pw hz q1 q2) hp).imp fun f S' hf => ?_
  obtain ⟨o, r, ho, hd, hp, rfl, rfl⟩ := (hR _ _).mp hf
  simp only [ok_bind]
  refine (s2 o r ho hd hp).imp fun f S' hf => ?_
  obtain ⟨o, r, ho, hd, hp, rfl, rfl⟩ := (hR _ _).mp hf
  simp only [ok_bind]
  refine (s3 o r ho hd hp).imp fun f S' hf => ?_
  obtain ⟨o, r, x, ho, hd, hp, rfl, rfl⟩ := hf
  simp only
  refine (fin o r x ho hd hp).imp fun f S' hf => ?_
  obtain ⟨d, rfl, p⟩ := hf
  simpa using p
end MP

namespace MP
open PySem L2
/-! is_number: 0 thing, 1 least, 2 below -/
noncomputable def m_is_number : M Fl :=
 (mRet (mAndV (mIsi "int" (mVar 0)) (mAndV (mNotV (mIsi "bool" (mVar 0))) (mChain dLe dLt (mVar 1) (mVar 0) (mVar 2)))))
noncomputable def f_is_number : Fn := trunc (mkFn 3 m_is_number)
/-! is_form: 0 sizes, 1 thing, 2 ahead, 3 one, 4 size -/
noncomputable def m_is_form : M Fl :=
 (mSeq (mIf (mOrT (mNotT (mT (mIsi "tuple" (mVar 1)))) (mT (mOp dNe (mCB fLen (mConsA (mVar 1) mNilA)) (mCB fLen (mConsA (mVar 0) mNilA)))))
 (mRet (mC (.bl false)))
 mSkip)
 (mSeq (mIf (mNotT (mT (mCB fAll (mConsA (mLv (mLc [3, 4] (mItZ (mConsA (mVar 1) (mConsA (mVar 0) mNilA))) (lcB2 3 4) mYes (mCall f_is_number (mConsA (mVar 3) (mConsA (mC (.int 0)) (mConsA (mVar 4) mNilA)))))) mNilA))))
 (mRet (mC (.bl false)))
 mSkip)
 (mRet (mNotV (mCB fAny (mConsA (mSl dSl (mVar 1) mNoP (mPart (mVar 2))) mNilA))))))
noncomputable def f_is_form : Fn := trunc (mkFn 5 m_is_form)
/-! are_sizes: 0 thing, 1 one -/
noncomputable def m_are_sizes : M Fl :=
 (mSeq (mIf (mOrT (mNotT (mT (mIsi "tuple" (mVar 0)))) (mNotT (mT (mChain dLe dLe (mC (.int 1)) (mCB fLen (mConsA (mVar 0) mNilA)) (mC (.int 5))))))
 (mRet (mC (.bl false)))
 mSkip)
 (mRet (mAndV (mCB fAll (mConsA (mLv (mLc [1] (mIt (mVar 0)) (lcB1 1) mYes (mCall f_is_number (mConsA (mVar 1) (mConsA (mC (.int 2)) (mConsA (mC (.int 8)) mNilA)))))) mNilA)) (mOp dLe (mCall f_product_of (mConsA (mVar 0) mNilA)) (mC (.int 64))))))
noncomputable def f_are_sizes : Fn := trunc (mkFn 2 m_are_sizes)
/-! _law_is_form: 0 _law_sizes_here, 1 _law_thing, 2 _law_ahead, 3 _law_k -/
noncomputable def m_law_is_form : M Fl :=
 (mSeq (mIf (mOrT (mNotT (mT (mIsi "tuple" (mVar 1)))) (mT (mOp dNe (mCB fLen (mConsA (mVar 1) mNilA)) (mCB fLen (mConsA (mVar 0) mNilA)))))
 (mRet (mC (.bl false)))
 mSkip)
 (mSeq (mFor (mItR (mConsA (mCB fLen (mConsA (mVar 0) mNilA)) mNilA)) (gN 3)
 (mIf (mOrT (mNotT (mT (mCall f_is_number (mConsA (mOp dIx (mVar 1) (mVar 3)) (mConsA (mC (.int 0)) (mConsA (mOp dIx (mVar 0) (mVar 3)) mNilA)))))) (mAndT (mT (mOp dLt (mVar 3) (mVar 2))) (mT (mOp dNe (mOp dIx (mVar 1) (mVar 3)) (mC (.int 0))))))
 (mRet (mC (.bl false)))
 mSkip))
 (mRet (mC (.bl true)))))
noncomputable def f_law_is_form : Fn := trunc (mkFn 4 m_law_is_form)
/-! is_rules: 0 thing, 1 sizes, 2 powers, 3 exchanges, 4 pairs, 5 letter, 6 form, 7 pair -/
noncomputable def m_is_rules : M Fl :=
 (mSeq (mIf (mOrT (mNotT (mT (mIsi "tuple" (mVar 0)))) (mOrT (mT (mOp dNe (mCB fLen (mConsA (mVar 0) mNilA)) (mC (.int 3)))) (mNotT (mT (mCall f_are_sizes (mConsA (mOp dIx (mVar 0) (mC (.int 0))) mNilA))))))
 (mRet (mC (.bl false)))
 mSkip)
 (mSeq (mAsg (mVar 0) (gTupD 3 (gConsD (gN 1) (gConsD (gN 2) (gConsD (gN 3) gNilD)))))
 (mSeq (mSet 4 (mCall f_pairs_of (mConsA (mCB fLen (mConsA (mVar 1) mNilA)) mNilA)))
 (mSeq (mIf (mOrT (mNotT (mT (mIsi "tuple" (mVar 2)))) (mT (mOp dNe (mCB fLen (mConsA (mVar 2) mNilA)) (mCB fLen (mConsA (mVar 1) mNilA)))))
 (mRet (mC (.bl false)))
 mSkip)
 (mSeq (mIf (mOrT (mNotT (mT (mIsi "tuple" (mVar 3)))) (mT (mOp dNe (mCB fLen (mConsA (mVar 3) mNilA)) (mCB fLen (mConsA (mVar 4) mNilA)))))
 (mRet (mC (.bl false)))
 mSkip)
 (mSeq (mIf (mNotT (mT (mCB fAll (mConsA (mLv (mLc [5, 6] (mItE (mConsA (mVar 2) mNilA)) (lcB2 5 6) mYes (mCall f_is_form (mConsA (mVar 1) (mConsA (mVar 6) (mConsA (mOp dAdd (mVar 5) (mC (.int 1))) mNilA)))))) mNilA))))
 (mRet (mC (.bl false)))
 mSkip)
 (mRet (mCB fAll (mConsA (mLv (mLc [7, 6] (mItZ (mConsA (mVar 4) (mConsA (mVar 3) mNilA))) (lcB2 7 6) mYes (mCall f_is_form (mConsA (mVar 1) (mConsA (mVar 6) (mConsA (mOp dAdd (mOp dIx (mVar 7) (mC (.int 0))) (mC (.int 1))) mNilA)))))) mNilA)))))))))
noncomputable def f_is_rules : Fn := trunc (mkFn 8 m_is_rules)
/-! _law_due: 0 _law_thing, 1 _law_sizes_here, 2 _law_powers, 3 _law_exchanges, 4 _law_pairs_here, 5 _law_size, 6 _law_k -/
noncomputable def m_law_due : M Fl :=
 (mSeq (mIf (mOrT (mNotT (mT (mIsi "tuple" (mVar 0)))) (mOrT (mT (mOp dNe (mCB fLen (mConsA (mVar 0) mNilA)) (mC (.int 3)))) (mNotT (mT (mIsi "tuple" (mOp dIx (mVar 0) (mC (.int 0))))))))
 (mRet (mC (.bl false)))
 mSkip)
 (mSeq (mAsg (mVar 0) (gTupD 3 (gConsD (gN 1) (gConsD (gN 2) (gConsD (gN 3) gNilD)))))
 (mSeq (mIf (mOrT (mNotT (mT (mChain dLe dLe (mC (.int 1)) (mCB fLen (mConsA (mVar 1) mNilA)) (mC (.int 5))))) (mOrT (mNotT (mT (mCB fAll (mConsA (mLv (mLc [5] (mIt (mVar 1)) (lcB1 5) mYes (mCall f_is_number (mConsA (mVar 5) (mConsA (mC (.int 2)) (mConsA (mC (.int 8)) mNilA)))))) mNilA)))) (mT (mOp dGt (mCall f_product_of (mConsA (mVar 1) mNilA)) (mC (.int 64))))))
 (mRet (mC (.bl false)))
 mSkip)
 (mSeq (mSet 4 (mCall f_pairs_of (mConsA (mCB fLen (mConsA (mVar 1) mNilA)) mNilA)))
 (mSeq (mIf (mOrT (mNotT (mT (mIsi "tuple" (mVar 2)))) (mNotT (mT (mIsi "tuple" (mVar 3)))))
 (mRet (mC (.bl false)))
 mSkip)
 (mSeq (mIf (mOrT (mT (mOp dNe (mCB fLen (mConsA (mVar 2) mNilA)) (mCB fLen (mConsA (mVar 1) mNilA)))) (mT (mOp dNe (mCB fLen (mConsA (mVar 3) mNilA)) (mCB fLen (mConsA (mVar 4) mNilA)))))
 (mRet (mC (.bl false)))
 mSkip)
 (mSeq (mIf (mNotT (mT (mCB fAll (mConsA (mLv (mLc [6] (mItR (mConsA (mCB fLen (mConsA (mVar 1) mNilA)) mNilA)) (lcB1 6) mYes (mCall f_law_is_form (mConsA (mVar 1) (mConsA (mOp dIx (mVar 2) (mVar 6)) (mConsA (mOp dAdd (mVar 6) (mC (.int 1))) mNilA)))))) mNilA))))
 (mRet (mC (.bl false)))
 mSkip)
 (mRet (mCB fAll (mConsA (mLv (mLc [6] (mItR (mConsA (mCB fLen (mConsA (mVar 4) mNilA)) mNilA)) (lcB1 6) mYes (mCall f_law_is_form (mConsA (mVar 1) (mConsA (mOp dIx (mVar 3) (mVar 6)) (mConsA (mOp dAdd (mOp dIx (mOp dIx (mVar 4) (mVar 6)) (mC (.int 0))) (mC (.int 1))) mNilA)))))) mNilA))))))))))
noncomputable def f_law_due : Fn := trunc (mkFn 7 m_law_due)
end MP

/-! Q, part g: whether a thing is rules. -/
namespace MP
open PySem L2
section
variable {S : Sto} {ρ : Fr}
@[simp] theorem tyD_int {i : Int} : tyD S (.int i) = some "int" := rfl
@[simp] theorem tyD_bl {b : Bool} : tyD S (.bl b) = some "bool" := rfl
@[simp] theorem tyD_non : tyD S .non = some "NoneType" := rfl
@[simp] theorem tyD_str {s : Str} : tyD S (.str s) = some "str" := rfl
@[simp] theorem tyD_tup {l : List D} : tyD S (.tup l) = some "tuple" := rfl
@[simp] theorem tyD_lv {l : List D} : tyD S (.lv l) = some "list" := rfl
@[simp] theorem tyD_ro {l : List D} : tyD S (.ro l) = some "list" := rfl
@[simp] theorem isT_ii : isT "int" "int" = true := by decide
@[simp] theorem isT_bi : isT "int" "bool" = true := by decide
@[simp] theorem isT_ni : isT "int" "NoneType" = false := by decide
@[simp] theorem isT_si : isT "int" "str" = false := by decide
@[simp] theorem isT_ti : isT "int" "tuple" = false := by decide
@[simp] theorem isT_li : isT "int" "list" = false := by decide
@[simp] theorem isT_ib : isT "bool" "int" = false := by decide
@[simp] theorem isT_bb : isT "bool" "bool" = true := by decide
@[simp] theorem isT_it : isT "tuple" "int" = false := by decide
@[simp] theorem isT_bt : isT "tuple" "bool" = false := by decide
@[simp] theorem isT_nt : isT "tuple" "NoneType" = false := by decide
@[simp] theorem isT_st : isT "tuple" "str" = false := by decide
@[simp] theorem isT_tt : isT "tuple" "tuple" = true := by decide
@[simp] theorem isT_lt : isT "tuple" "list" = false := by decide
@[simp] theorem isT_dt : isT "tuple" "dict" = false := by decide
end
/-- without refs -/
abbrev Cl (d : D) : Prop := lowD 0 d = true
theorem Cl.mem {l : List D} (h : lowDs 0 l = true) {d : D} (hd : d ∈ l) : Cl d := lowDs_iff.mp h d hd
theorem Cl.tup {l : List D} (h : Cl (.tup l)) {d : D} (hd : d ∈ l) : Cl d := Cl.mem (by simpa [Cl] using h) hd
def isNum (d : D) (lo hi : Int) : Bool := match d with
  | .int i => decide (lo ≤ i) && decide (i < hi)
  | _ => false
theorem number_ok {d : D} {lo hi : Int} {S : Sto} (h : Cl d) : f_is_number [d, .int lo, .int hi] S = .ok (.bl (isNum d lo hi)) S := by
  refine trunc_eq0 (ok_eq ?_) rfl
  rw [mkFn_ap]
  cases d with
  | ref n => simp [Cl, lowD] at h
  | int i =>
    by_cases h1 : lo ≤ i <;> simp [m_is_number, isNum, h1]
  | _ => simp [m_is_number, isNum]
/-- truths of numbers -/
@[simp] theorem fAll_lv {l : List Bool} {S : Sto} : fAll [.lv (l.map D.bl)] S = some (.bl (l.all id)) := by
  have : truths (l.map D.bl) = some l := by
    induction l with
    | nil => rfl
    | cons b l ih => simp [truths, ih]
  simp [fAll, lstD, this]
theorem fAny_ints {l : List Int} {S : Sto} : fAny [.tup (l.map D.int)] S = some (.bl (l.any (· != 0))) := by
  have : optAll truD (l.map D.int) = some (l.map (· != 0)) := by
    induction l with
    | nil => rfl
    | cons b l ih => simp [optAll, ih, truD]
  simp [fAny, seqD, this]
def asInt : D → Int
  | .int i => i
  | _ => 0
theorem isNum_int {d : D} {lo hi : Int} (h : isNum d lo hi = true) : d = .int (asInt d) ∧ lo ≤ asInt d ∧ asInt d < hi := by
  cases d with
  | int i => simpa [isNum, asInt] using h
  | _ => cases h
/-- the parts of a form -/
def isForm (sz : List Nat) (d : D) (a : Nat) : Bool := match d with
  | .tup l => decide (l.length = sz.length) && (l.zip sz).all (fun p => isNum p.1 0 p.2) && (l.take a).all fun x => decide (asInt x = 0)
  | _ => false
theorem cut_take {l : List D} {a : Nat} : cutL l none (some (a : Int)) = l.take a := by
  unfold cutL
  rw [HT.sIx_nat, HT.sIx_none]
  simp
theorem ints_of {l : List D} (h : ∀ d ∈ l, d = .int (asInt d)) : l = (l.map asInt).map D.int := by
  rw [List.map_map]
  exact (map_id_of fun d hd => (h d hd).symm).symm
theorem zip_num {l : List D} {sz : List Nat} (hl : l.length = sz.length) (h : (l.zip sz).all (fun p => isNum p.1 0 p.2) = true) : ∀ d ∈ l, d = .int (asInt d) := fun d hd => by
  obtain ⟨i, hi, e⟩ := List.getElem_of_mem hd
  have : (l.zip sz)[i]? = some (d, sz[i]'(by omega)) := by
    rw [List.getElem?_zip_eq_some]
    exact ⟨by rw [List.getElem?_eq_getElem hi, e], List.getElem?_eq_getElem _⟩
  have := List.all_eq_true.mp h _ (List.mem_of_getElem? this)
  exact (isNum_int this).1
theorem form_ok {sz : List Nat} {d : D} {a : Nat} {S : Sto} (h : Cl d) (hs : sz.length ≤ 1000) (ha : a ≤ 1000) : f_is_form [nT sz, d, iD a] S = .ok (.bl (isForm sz d a)) S := by
  refine trunc_eq0 (ok_eq ?_) rfl
  rw [mkFn_ap]
  have fl : ∀ (l : List Nat) T, fLen [nT l] T = some (iD l.length) := fun l T => by simp [nT]
  cases d with
  | ref n => simp [Cl, lowD] at h
  | tup l =>
    by_cases hl : l.length = sz.length
    · have hlI : (l.length : Int) = (sz.length : Int) := by omega
      have zi : ∀ T, zipIt T [.tup l, nT sz] = some (zipD l (sz.map iD), []) := fun T => rfl
      have zl : (zipD l (sz.map iD)).length ≤ 1000000 := by simp [zipD]; omega
      simp [m_is_form, isForm, fl, hlI, hl, zi, zl]
      have ez : zipD l (sz.map iD) = (l.zip sz).map fun p => .tup [p.1, iD p.2] := by
        unfold zipD
        rw [List.zip, List.map_zipWith, List.zipWith_map_right]
      rw [lcGo_map (fun d => match d with
        | .tup [x, .int s] => .bl (isNum x 0 s)
        | _ => .non) gOk_nil (fun e he => ?_)]
      · have em : List.map (fun d => match d with
          | .tup [x, .int s] => D.bl (isNum x 0 s)
          | _ => .non) (zipD l (sz.map iD)) = ((l.zip sz).map fun p => isNum p.1 0 p.2).map D.bl := by
          rw [ez, List.map_map, List.map_map]
          rfl
        rw [em]
        simp only [ok_ok, fAll_lv, optR_some, ok_bind, toB_ap]
        have ea : ((l.zip sz).map fun p => isNum p.1 0 p.2).all id = (l.zip sz).all fun p => isNum p.1 0 p.2 := by
          rw [List.all_map]
          rfl
        rw [ea]
        by_cases hall : (l.zip sz).all (fun p => isNum p.1 0 p.2) = true
        · rw [hall]
          have ei := ints_of (l := l.take a) fun d hd => zip_num hl hall d (List.mem_of_mem_take hd)
          have fa : fAny [.tup (l.take a)] S = some (.bl (((l.take a).map asInt).any (· != 0))) := by
            conv => lhs; rw [ei]
            exact fAny_ints
          simp [dSl, cut_take, fa]
          rw [Bool.eq_iff_iff]
          simp
          constructor
          · rintro ⟨x, hx, h0⟩
            rw [← List.map_take] at hx
            obtain ⟨y, hy, rfl⟩ := List.mem_map.mp hx
            exact ⟨y, hy, h0⟩
          · rintro ⟨y, hy, h0⟩
            exact ⟨asInt y, by rw [← List.map_take]; exact List.mem_map.mpr ⟨y, hy, rfl⟩, h0⟩
        · simp [hall]
      · rw [ez] at he
        obtain ⟨p, hp, rfl⟩ := List.mem_map.mp he
        have hc : Cl p.1 := h.tup (List.of_mem_zip (a := p.1) (b := p.2) hp).1
        refine ⟨_, rfl, rfl, ?_⟩
        simp [number_ok hc]
    · have hlI : ¬ (l.length : Int) = (sz.length : Int) := by omega
      simp [m_is_form, isForm, fl, hlI, hl]
  | _ => simp [m_is_form, isForm]
theorem lawform_ok {sz : List Nat} {d : D} {a : Nat} {S : Sto} (h : Cl d) (hs : sz.length ≤ 1000) (ha : a ≤ 1000) : f_law_is_form [nT sz, d, iD a] S = .ok (.bl (isForm sz d a)) S := by
  refine trunc_eq0 (ok_eq ?_) rfl
  rw [mkFn_ap]
  have fl : ∀ (l : List Nat) T, fLen [nT l] T = some (iD l.length) := fun l T => by simp [nT]
  cases d with
  | ref n => simp [Cl, lowD] at h
  | tup l =>
    by_cases hl : l.length = sz.length
    · have hlI : (l.length : Int) = (sz.length : Int) := by omega
      have r1 : rangeIt [iD sz.length] = some (rangeD 0 sz.length, []) := by
        have := rangeIt_1 (j := (sz.length : Int)) (by omega)
        simpa using this
      simp [m_law_is_form, fl, hlI, r1]
      obtain ⟨good, hgd⟩ : ∃ good : Nat → Bool, ∀ i, good i = ((l[i]?.map fun d => isNum d 0 (sz.getD i 0 : Nat)).getD false && (decide (a ≤ i) || decide (asInt (l[i]?.getD .non) = 0))) := ⟨_, fun _ => rfl⟩
      have fin : isForm sz (.tup l) a = (List.range sz.length).all good := by
        rw [Bool.eq_iff_iff]
        simp only [isForm, hl, decide_true, Bool.true_and, Bool.and_eq_true, List.all_eq_true, hgd, List.mem_range]
        constructor
        · rintro ⟨h1, h2⟩ i hi
          have hi2 : i < l.length := by omega
          have m1 : (l[i], sz[i]) ∈ l.zip sz := by
            refine List.mem_of_getElem? (i := i) ?_
            rw [List.getElem?_zip_eq_some]
            exact ⟨List.getElem?_eq_getElem hi2, List.getElem?_eq_getElem hi⟩
          have g1 := h1 _ m1
          simp only [List.getElem?_eq_getElem hi2, Option.map_some, Option.getD_some, List.getD_eq_getElem?_getD, List.getElem?_eq_getElem hi]
          refine ⟨g1, ?_⟩
          by_cases hia : a ≤ i
          · simp [hia]
          · have := h2 l[i] (List.mem_of_getElem? (i := i) (by rw [List.getElem?_take_of_lt (by omega), List.getElem?_eq_getElem hi2]))
            simp only [decide_eq_true_eq] at this
            simp [this]
        · intro hg
          refine ⟨fun p hp => ?_, fun x hx => ?_⟩
          · obtain ⟨i, hi, e⟩ := List.getElem_of_mem hp
            have hz : (l.zip sz)[i]? = some p := by rw [List.getElem?_eq_getElem hi, e]
            obtain ⟨p1, p2⟩ := p
            rw [List.getElem?_zip_eq_some] at hz
            have := (hg i (List.getElem?_eq_some_iff.mp hz.2).1).1
            simpa [hz.1, hz.2] using this
          · obtain ⟨i, hi, e⟩ := List.getElem_of_mem hx
            rw [List.length_take] at hi
            rw [List.getElem_take] at e
            have := (hg i (by omega)).2
            have hl2 : l[i]? = some x := by rw [List.getElem?_eq_getElem (by omega), e]
            simp [hl2] at this
            simp
            omega
      obtain ⟨I, hI⟩ : ∃ I : Nat → Fr → Sto → Prop, ∀ i ρ S', I i ρ S' ↔ ∃ x3 : Option D, ρ = [some (nT sz), some (.tup l), some (iD a), x3] ∧ S' = S ∧ (List.range i).all good = true := ⟨_, fun _ _ _ => Iff.rfl⟩
      refine forL_ok I ((hI _ _ _).mpr ?_) (fun i ρ S' hJ => gOk_nil) (fun i e ρ S' he hJ => ?_) (fun ρ S' hJ => ?_)
      · exact ⟨none, rfl, rfl, by simp⟩
      · obtain ⟨x3, rfl, rfl, hg⟩ := (hI _ _ _).mp hJ
        obtain ⟨hi, rfl⟩ := rangeD_get he
        have hi2 : i < l.length := by omega
        have x1 : dIx (.tup l) (.int (i : Int)) S' = some l[i] := by
          rw [dIx_t]
          exact atI_some (List.getElem?_eq_getElem hi2)
        have x2 : dIx (nT sz) (.int (i : Int)) S' = some (iD sz[i]) := by
          have := map_range_get (S := S') hi
          simpa [hi] using this
        have hc : Cl l[i] := h.tup (List.getElem_mem hi2)
        have gi : good i = (isNum l[i] 0 (sz[i] : Nat) && (decide (a ≤ i) || decide (asInt l[i] = 0))) := by
          rw [hgd]
          simp [hi2, hi]
        have bad : good i = false → false = isForm sz (.tup l) a := fun hb => by
          rw [fin]
          symm
          rw [Bool.eq_false_iff]
          intro hh
          have := List.all_eq_true.mp hh i (by simpa using hi)
          rw [hb] at this
          cases this
        have go : good i = true → I (i + 1) [some (nT sz), some (.tup l), some (iD a), some (.int (i : Int))] S' := fun hb => (hI _ _ _).mpr ⟨_, rfl, rfl, by rw [List.range_succ, List.all_append, hg]; simp [hb]⟩
        simp [x1, x2, number_ok hc]
        by_cases hn : isNum l[i] 0 (sz[i] : Nat) = true
        · obtain ⟨en, _, _⟩ := isNum_int hn
          obtain ⟨z, hz⟩ : ∃ z, asInt l[i] = z := ⟨_, rfl⟩
          rw [hz] at en
          by_cases hia : i < a
          · by_cases h0 : z = 0
            · have := go (by rw [gi, hn, hz, h0]; simp)
              rw [h0] at en
              rw [en] at hn
              simp [hn, hia, en]
              exact this
            · have := bad (by rw [gi, hn, hz]; simp [h0]; omega)
              rw [en] at hn
              simp [hn, hia, en, h0]
              exact this.symm
          · have := go (by rw [gi, hn]; simp; omega)
            simp [hn, hia]
            exact this
        · have hn' : isNum l[i] 0 (sz[i] : Nat) = false := by simpa using hn
          have := bad (by rw [gi, hn']; rfl)
          simp [hn']
          exact this.symm
      · obtain ⟨x3, rfl, rfl, hg⟩ := (hI _ _ _).mp hJ
        simp
        rw [rangeD_len] at hg
        rw [fin, hg]
    · have hlI : ¬ (l.length : Int) = (sz.length : Int) := by omega
      simp [m_law_is_form, isForm, fl, hlI, hl]
  | _ => simp [m_law_is_form, isForm]
theorem lcGo_at {gd : Guard} {bd : LcB} {t : M Bool} {e : M D} {ρ : Fr} {S : Sto} (F : Nat → D) (hg : gOk gd S) {ds : List D} (h : ∀ k d, ds[k]? = some d → ∃ ρ1, bd d ρ = some ρ1 ∧ t ρ1 S = .ok true S ∧ e ρ1 S = .ok (F k) S) : lcGo gd bd t e ρ ds S = .ok ((List.range ds.length).map F) S := by
  induction ds generalizing F with
  | nil => simp only [lcGo]; rw [if_pos hg]; rfl
  | cons d ds ih =>
    obtain ⟨ρ1, h1, h2, h3⟩ := h 0 d rfl
    have := ih (fun k => F (k + 1)) fun k d hk => h (k + 1) d (by simpa using hk)
    simp only [lcGo]
    rw [if_pos hg, h1]
    simp only [h2, h3, Res.nox_ok, Res.bind_ok, if_true, this]
    rw [List.length_cons, List.range_succ_eq_map, List.map_cons, List.map_map]
    rfl
def sizesOf (d : D) : Option (List Nat) := match d with
  | .tup l => if (decide (1 ≤ l.length) && decide (l.length ≤ 5) && l.all (isNum · 2 8) && decide (prodN (l.map fun d => (asInt d).toNat) ≤ 64)) = true then some (l.map fun d => (asInt d).toNat) else none
  | _ => none
theorem nums_nT {l : List D} {lo hi : Int} (h0 : 0 ≤ lo) (h : l.all (isNum · lo hi) = true) : D.tup l = nT (l.map fun d => (asInt d).toNat) := by
  unfold nT
  rw [List.map_map]
  congr 1
  symm
  refine map_id_of fun d hd => ?_
  obtain ⟨e, h1, _⟩ := isNum_int (List.all_eq_true.mp h d hd)
  show D.int (((asInt d).toNat : Nat) : Int) = d
  rw [Int.toNat_of_nonneg (by omega)]
  exact e.symm
theorem sizesOf_some {d : D} {sz : List Nat} (h : sizesOf d = some sz) : d = nT sz ∧ Szs sz ∧ prodN sz ≤ 64 := by
  unfold sizesOf at h
  split at h
  · rename_i l
    split at h
    · rename_i hc
      cases h
      simp only [Bool.and_eq_true, decide_eq_true_eq] at hc
      obtain ⟨⟨⟨h1, h2⟩, h3⟩, h4⟩ := hc
      refine ⟨nums_nT (by decide) h3, ⟨fun s hs => ?_, fun s hs => ?_, fun e => ?_, by simpa using h2⟩, h4⟩
      · obtain ⟨d, hd, rfl⟩ := List.mem_map.mp hs
        obtain ⟨_, g1, g2⟩ := isNum_int (List.all_eq_true.mp h3 d hd)
        omega
      · obtain ⟨d, hd, rfl⟩ := List.mem_map.mp hs
        obtain ⟨_, g1, g2⟩ := isNum_int (List.all_eq_true.mp h3 d hd)
        omega
      · have := congrArg List.length e
        simp at this
        rw [this] at h1
        simp at h1
    · cases h
  · cases h
theorem alls_ok {l : List D} {lo hi : Int} {S : Sto} {ρ : Fr} {i : Nat} {b : M (List D)} (hc : ∀ d ∈ l, Cl d) (hb : ∀ d, b (ρ.set i (some d)) S = .ok [d, .int lo, .int hi] S) : lcGo [] (lcB1 i) mYes (mCall f_is_number b) ρ l S = .ok ((l.map fun d => isNum d lo hi).map D.bl) S := by
  rw [lcGo_map (fun d => .bl (isNum d lo hi)) gOk_nil (fun d hd => ⟨ρ.set i (some d), rfl, rfl, by rw [mCall_ap, hb, Res.bind_ok, number_ok (hc d hd)]⟩), List.map_map]
  rfl
theorem sizes_look {d : D} {S : Sto} (h : Cl d) : f_are_sizes [d] S = .ok (.bl (sizesOf d).isSome) S := by
  refine trunc_eq0 (ok_eq ?_) rfl
  rw [mkFn_ap]
  cases d with
  | ref n => simp [Cl, lowD] at h
  | tup l =>
    by_cases h1 : 1 ≤ l.length
    · by_cases h5 : l.length ≤ 5
      · have g1 : (1 : Int) ≤ (l.length : Int) := by omega
        have g5 : (l.length : Int) ≤ 5 := by omega
        have g6 : l.length ≤ 1000000 := by omega
        simp [m_are_sizes, sizesOf, g1, g5, h1, h5, g6]
        rw [alls_ok (lo := 2) (hi := 8) (fun d hd => h.tup hd) (fun d => by simp)]
        simp only [ok_ok, fAll_lv, optR_some, ok_bind, toB_ap, List.all_map]
        by_cases ha : l.all (isNum · 2 8) = true
        · have ha2 : l.all (id ∘ fun d => isNum d 2 8) = true := ha
          have pe := product_ok (d := .tup l) (l := l.map fun d => (asInt d).toNat) (g := []) (S := S) (by rw [nums_nT (by decide) ha]; rfl) fun x hx => by
            obtain ⟨d, hd, rfl⟩ := List.mem_map.mp hx
            obtain ⟨_, g1, g2⟩ := isNum_int (List.all_eq_true.mp ha d hd)
            omega
          rw [ha2]
          simp [pe, ha]
          by_cases hp : prodN (l.map fun d => (asInt d).toNat) ≤ 64
          · have : ((prodN (l.map fun d => (asInt d).toNat) : Nat) : Int) ≤ 64 := by omega
            simp [hp, this]
            exact List.all_eq_true.mp ha
          · have : ¬ ((prodN (l.map fun d => (asInt d).toNat) : Nat) : Int) ≤ 64 := by omega
            simp [hp, this]
        · have ha2 : l.all (id ∘ fun d => isNum d 2 8) = false := by simpa using ha
          rw [ha2]
          simp
          exact fun hh => absurd (List.all_eq_true.mpr hh) ha
      · have g1 : (1 : Int) ≤ (l.length : Int) := by omega
        have g5 : ¬ (l.length : Int) ≤ 5 := by omega
        simp [m_are_sizes, sizesOf, g1, g5, h1, h5]
    · have g1 : ¬ (1 : Int) ≤ (l.length : Int) := by omega
      simp [m_are_sizes, sizesOf, g1, h1]
  | _ => simp [m_are_sizes, sizesOf]
def formsOk (sz ah : List Nat) (d : D) : Bool := match d with
  | .tup l => decide (l.length = ah.length) && (List.range ah.length).all fun k => isForm sz (l.getD k .non) (ah.getD k 0)
  | _ => false
def ahP (n : Nat) : List Nat := (List.range n).map (· + 1)
def ahE (n : Nat) : List Nat := (pairsL n).map fun p => p.1 + 1
@[simp] theorem ahP_len {n : Nat} : (ahP n).length = n := by simp [ahP]
@[simp] theorem ahE_len {n : Nat} : (ahE n).length = (pairsL n).length := by simp [ahE]
def isR (d : D) : Bool := match d with
  | .tup [s, p, e] => match sizesOf s with
    | some sz => formsOk sz (ahP sz.length) p && formsOk sz (ahE sz.length) e
    | none => false
  | _ => false
theorem isR_len {l : List D} (h : l.length ≠ 3) : isR (.tup l) = false := by
  match l with
  | [] => rfl
  | [_] => rfl
  | [_, _] => rfl
  | [_, _, _] => exact absurd rfl h
  | _ :: _ :: _ :: _ :: _ => rfl
theorem three {l : List D} (h : l.length = 3) : ∃ s p e, l = [s, p, e] := by
  match l, h with
  | [s, p, e], _ => exact ⟨s, p, e, rfl⟩
theorem all_bl {n : Nat} {F : Nat → Bool} {S : Sto} : fAll [.lv ((List.range n).map fun k => D.bl (F k))] S = some (.bl ((List.range n).all F)) := by
  have : (List.range n).map (fun k => D.bl (F k)) = ((List.range n).map F).map D.bl := by rw [List.map_map]; rfl
  rw [this, fAll_lv, List.all_map]
  rfl
theorem enumD_at {l : List D} {k : Nat} {d : D} (h : (enumD 0 l)[k]? = some d) : ∃ x, l[k]? = some x ∧ d = .tup [iD k, x] := by
  have hk : k < l.length := by
    have := (List.getElem?_eq_some_iff.mp h).1
    rwa [enumD_len] at this
  have e := enumD_get l 0 k l[k] (List.getElem?_eq_getElem hk)
  rw [h] at e
  cases e
  exact ⟨_, List.getElem?_eq_getElem hk, by simp [iD]⟩
theorem pairsL_small {n : Nat} (h : n ≤ 5) : (pairsL n).length ≤ 10 := by
  have : ∀ n, n ≤ 5 → (pairsL n).length ≤ 10 := by decide
  exact this n h
theorem rules_look {d : D} {S : Sto} (h : Cl d) : f_is_rules [d] S = .ok (.bl (isR d)) S := by
  refine trunc_eq0 (ok_eq ?_) rfl
  rw [mkFn_ap]
  cases d with
  | ref n => simp [Cl, lowD] at h
  | tup l =>
    by_cases hl : l.length = 3
    · obtain ⟨s, p, e, rfl⟩ := three hl
      have hs : Cl s := h.tup (by simp)
      have hp : Cl p := h.tup (by simp)
      have he : Cl e := h.tup (by simp)
      have x0 : ∀ T, dIx (.tup [s, p, e]) (.int 0) T = some s := fun T => by rw [dIx_t, atI_0]
      cases hz : sizesOf s with
      | none => simp [m_is_rules, x0, sizes_look hs, hz, isR]
      | some sz =>
        obtain ⟨rfl, hsz, hpr⟩ := sizesOf_some hz
        obtain ⟨n, en⟩ : ∃ n, sz.length = n := ⟨_, rfl⟩
        have n5 : n ≤ 5 := by rw [← en]; exact hsz.len
        have fl : ∀ (l : List Nat) T, fLen [nT l] T = some (iD l.length) := fun l T => by simp [nT]
        have pe : ∀ T, f_pairs_of [iD n] T = .ok (.lv ((pairsL n).map pD)) T := fun T => pairs_ok (by omega)
        have pl := pairsL_small n5
        simp [m_is_rules, x0, sizes_look hs, hz, isR, fl, en, pe]
        cases p with
        | ref k => simp [Cl, lowD] at hp
        | tup pl1 =>
          by_cases hpl : pl1.length = n
          · have hplI : (pl1.length : Int) = (n : Int) := by omega
            simp [hplI]
            cases e with
            | ref k => simp [Cl, lowD] at he
            | tup el =>
              by_cases hel : el.length = (pairsL n).length
              · have helI : (el.length : Int) = ((pairsL n).length : Int) := by omega
                have ei : ∀ T, enumIt T [.tup pl1] = some (enumD 0 pl1, []) := fun T => rfl
                have eg : (enumD 0 pl1).length ≤ 1000000 := by rw [enumD_len]; omega
                have zi : ∀ T, zipIt T [.lv ((pairsL n).map pD), .tup el] = some (zipD ((pairsL n).map pD) el, []) := fun T => rfl
                have zg : (zipD ((pairsL n).map pD) el).length ≤ 1000000 := by simp [zipD]; omega
                have zl : (zipD ((pairsL n).map pD) el).length = (pairsL n).length := by simp [zipD]; omega
                simp [helI, ei, eg]
                rw [lcGo_at (fun k => .bl (isForm sz (pl1.getD k .non) ((ahP n).getD k 0))) gOk_nil (fun k d hk => ?_)]
                · rw [enumD_len, hpl]
                  simp only [ok_ok, all_bl, optR_some, ok_bind, toB_ap]
                  have f1 : formsOk sz (ahP n) (.tup pl1) = (List.range n).all fun k => isForm sz (pl1.getD k .non) ((ahP n).getD k 0) := by
                    simp [formsOk, hpl]
                  rw [← f1]
                  by_cases hf : formsOk sz (ahP n) (.tup pl1) = true
                  · simp [hf, zi, zg]
                    rw [lcGo_at (fun k => .bl (isForm sz (el.getD k .non) ((ahE n).getD k 0))) gOk_nil (fun k d hk => ?_)]
                    · rw [zl]
                      simp only [ok_ok, all_bl, optR_some, ok_bind]
                      simp [formsOk, hel]
                    · obtain ⟨a, b, ha, hb, rfl⟩ := zipD_get hk
                      rw [List.getElem?_map] at ha
                      obtain ⟨q, hq, rfl⟩ := Option.map_eq_some_iff.mp ha
                      refine ⟨_, rfl, rfl, ?_⟩
                      have q0 : ∀ T, dIx (pD q) (.int 0) T = some (iD q.1) := fun T => by rw [pD, dIx_t, atI_0]
                      have hq2 : q.1 < n := by
                        have := pairsL_mem.mp (List.mem_of_getElem? hq)
                        omega
                      have fo := form_ok (sz := sz) (d := b) (a := q.1 + 1) (S := S) (he.tup (List.mem_of_getElem? hb)) (by omega) (by omega)
                      have fo' : f_is_form [nT sz, b, .int ((q.1 : Int) + 1)] S = .ok (.bl (isForm sz b (q.1 + 1))) S := by rw [← fo]; simp [iD]
                      simp [q0, fo', hb, ahE, hq]
                  · simp [hf]
                · obtain ⟨x, hx, rfl⟩ := enumD_at hk
                  refine ⟨_, rfl, rfl, ?_⟩
                  have hkn : k < n := by
                    have := (List.getElem?_eq_some_iff.mp hx).1
                    omega
                  have fo := form_ok (sz := sz) (d := x) (a := k + 1) (S := S) (hp.tup (List.mem_of_getElem? hx)) (by omega) (by omega)
                  have fo' : f_is_form [nT sz, x, .int ((k : Int) + 1)] S = .ok (.bl (isForm sz x (k + 1))) S := by rw [← fo]; simp [iD]
                  simp [fo', hx, ahP, hkn]
              · have helI : ¬ (el.length : Int) = ((pairsL n).length : Int) := by omega
                simp [helI, formsOk, hel]
            | _ => simp [formsOk]
          · have hplI : ¬ (pl1.length : Int) = (n : Int) := by omega
            simp [hplI, formsOk, hpl]
        | _ => simp [formsOk]
    · have hlI : ¬ (l.length : Int) = 3 := by omega
      rw [isR_len hl]
      simp [m_is_rules, hlI]
  | _ => simp [m_is_rules, isR]
theorem range_is {n : Nat} (h : n ≤ 1000) : rangeIt [iD n] = some (rangeD 0 n, []) := by
  have := rangeIt_1 (j := (n : Int)) (by omega)
  simpa using this
theorem due_ok {d : D} {S : Sto} (h : Cl d) : f_law_due [d] S = .ok (.bl (isR d)) S := by
  refine trunc_eq0 (ok_eq ?_) rfl
  rw [mkFn_ap]
  cases d with
  | ref n => simp [Cl, lowD] at h
  | tup l =>
    by_cases hl : l.length = 3
    · obtain ⟨s, p, e, rfl⟩ := three hl
      have hs : Cl s := h.tup (by simp)
      have hp : Cl p := h.tup (by simp)
      have he : Cl e := h.tup (by simp)
      have x0 : ∀ T, dIx (.tup [s, p, e]) (.int 0) T = some s := fun T => by rw [dIx_t, atI_0]
      cases s with
      | ref n => simp [Cl, lowD] at hs
      | tup sl =>
        by_cases h1 : 1 ≤ sl.length
        · by_cases h5 : sl.length ≤ 5
          · have g1 : (1 : Int) ≤ (sl.length : Int) := by omega
            have g5 : (sl.length : Int) ≤ 5 := by omega
            have g6 : sl.length ≤ 1000000 := by omega
            simp [m_law_due, x0, isR, g1, g5, g6]
            rw [alls_ok (lo := 2) (hi := 8) (fun d hd => hs.tup hd) (fun d => by simp)]
            simp only [ok_ok, fAll_lv, optR_some, ok_bind, toB_ap, List.all_map]
            by_cases ha : sl.all (isNum · 2 8) = true
            · have ha2 : sl.all (id ∘ fun d => isNum d 2 8) = true := ha
              have pe := product_ok (d := .tup sl) (l := sl.map fun d => (asInt d).toNat) (g := []) (S := S) (by rw [nums_nT (by decide) ha]; rfl) fun x hx => by
                obtain ⟨d, hd, rfl⟩ := List.mem_map.mp hx
                obtain ⟨_, g1, g2⟩ := isNum_int (List.all_eq_true.mp ha d hd)
                omega
              rw [ha2]
              by_cases hpr : prodN (sl.map fun d => (asInt d).toNat) ≤ 64
              · have hprI : ¬ 64 < ((prodN (sl.map fun d => (asInt d).toNat) : Nat) : Int) := by omega
                have hz : sizesOf (.tup sl) = some (sl.map fun d => (asInt d).toNat) := by
                  unfold sizesOf
                  simp only [h1, h5, ha, hpr, decide_true, Bool.and_self, if_true]
                simp [pe, hprI, hz]
                obtain ⟨esl, hsz, _⟩ := sizesOf_some hz
                obtain ⟨sz, hszz⟩ : ∃ sz, (sl.map fun d => (asInt d).toNat) = sz := ⟨_, rfl⟩
                rw [hszz] at esl hsz
                rw [hszz]
                obtain ⟨n, en⟩ : ∃ n, sl.length = n := ⟨_, rfl⟩
                have enz : sz.length = n := by rw [← hszz, List.length_map, en]
                have n5 : n ≤ 5 := by omega
                have pe : ∀ T, f_pairs_of [iD n] T = .ok (.lv ((pairsL n).map pD)) T := fun T => pairs_ok (by omega)
                have pl := pairsL_small n5
                simp [en, pe]
                cases p with
                | ref k => simp [Cl, lowD] at hp
                | tup pl1 =>
                  cases e with
                  | ref k => simp [Cl, lowD] at he
                  | tup el =>
                    by_cases hpl : pl1.length = n
                    · have hplI : (pl1.length : Int) = (n : Int) := by omega
                      by_cases hel : el.length = (pairsL n).length
                      · have helI : (el.length : Int) = ((pairsL n).length : Int) := by omega
                        have n6 : n ≤ 1000000 := by omega
                        have pl6 : (pairsL n).length ≤ 1000000 := by omega
                        have r1 := range_is (n := n) (by omega)
                        have r2 := range_is (n := (pairsL n).length) (by omega)
                        simp [hplI, helI, r1, n6, en]
                        rw [lcGo_at (fun k => .bl (isForm sz (pl1.getD k .non) ((ahP n).getD k 0))) gOk_nil (fun k d hk => ?_)]
                        · rw [rangeD_len]
                          simp only [ok_ok, all_bl, optR_some, ok_bind, toB_ap]
                          have f1 : formsOk sz (ahP n) (.tup pl1) = (List.range n).all fun k => isForm sz (pl1.getD k .non) ((ahP n).getD k 0) := by
                            simp [formsOk, hpl]
                          rw [← f1]
                          by_cases hf : formsOk sz (ahP n) (.tup pl1) = true
                          · simp [hf, r2, pl6, en]
                            rw [lcGo_at (fun k => .bl (isForm sz (el.getD k .non) ((ahE n).getD k 0))) gOk_nil (fun k d hk => ?_)]
                            · rw [rangeD_len]
                              simp only [ok_ok, all_bl, optR_some, ok_bind]
                              simp [formsOk, hel, enz, hf]
                            · obtain ⟨hk1, rfl⟩ := rangeD_get hk
                              have hk2 : k < el.length := by omega
                              refine ⟨_, rfl, rfl, ?_⟩
                              obtain ⟨q, hq⟩ : ∃ q, (pairsL n)[k]? = some q := ⟨_, List.getElem?_eq_getElem hk1⟩
                              have q0 : ∀ T, dIx (pD q) (.int 0) T = some (iD q.1) := fun T => by rw [pD, dIx_t, atI_0]
                              have y1 : ∀ T, dIx (.tup el) (.int (k : Int)) T = some el[k] := fun T => by
                                rw [dIx_t]
                                exact atI_some (List.getElem?_eq_getElem hk2)
                              have y2 : ∀ T, dIx (.lv ((pairsL n).map pD)) (.int (k : Int)) T = some (pD q) := fun T => by
                                rw [dIx_l]
                                exact atI_some (by rw [List.getElem?_map, hq]; rfl)
                              have hq2 : q.1 < n := by
                                have := pairsL_mem.mp (List.mem_of_getElem? hq)
                                omega
                              have fo := lawform_ok (sz := sz) (d := el[k]) (a := q.1 + 1) (S := S) (he.tup (List.getElem_mem hk2)) (by omega) (by omega)
                              have fo' : f_law_is_form [.tup sl, el[k], .int ((q.1 : Int) + 1)] S = .ok (.bl (isForm sz el[k] (q.1 + 1))) S := by rw [← fo, esl]; simp [iD]
                              simp [y1, y2, q0, fo', ahE, hq, hk2]
                          · have : formsOk sz (ahP n) (.tup pl1) = false := by simpa using hf
                            simp [this, enz]
                        · obtain ⟨hk1, rfl⟩ := rangeD_get hk
                          have hk2 : k < pl1.length := by omega
                          refine ⟨_, rfl, rfl, ?_⟩
                          have y1 : ∀ T, dIx (.tup pl1) (.int (k : Int)) T = some pl1[k] := fun T => by
                            rw [dIx_t]
                            exact atI_some (List.getElem?_eq_getElem hk2)
                          have fo := lawform_ok (sz := sz) (d := pl1[k]) (a := k + 1) (S := S) (hp.tup (List.getElem_mem hk2)) (by omega) (by omega)
                          have fo' : f_law_is_form [.tup sl, pl1[k], .int ((k : Int) + 1)] S = .ok (.bl (isForm sz pl1[k] (k + 1))) S := by rw [← fo, esl]; simp [iD]
                          simp [y1, fo', ahP, hk1, hk2]
                      · have helI : ¬ (el.length : Int) = ((pairsL n).length : Int) := by omega
                        simp [hplI, helI, formsOk, hel, enz, en]
                    · have hplI : ¬ (pl1.length : Int) = (n : Int) := by omega
                      simp [hplI, formsOk, hpl, enz, en]
                  | _ => simp [formsOk]
                | _ => simp [formsOk]
              · have hprI : 64 < ((prodN (sl.map fun d => (asInt d).toNat) : Nat) : Int) := by omega
                simp [pe, hprI, sizesOf, hpr]
            · have ha2 : sl.all (id ∘ fun d => isNum d 2 8) = false := by simpa using ha
              have hz : sizesOf (.tup sl) = none := by
                have : sl.all (isNum · 2 8) = false := by simpa using ha
                unfold sizesOf
                simp only [this, Bool.and_false, Bool.false_and]
                rfl
              rw [ha2]
              simp [hz]
          · have g1 : (1 : Int) ≤ (sl.length : Int) := by omega
            have g5 : ¬ (sl.length : Int) ≤ 5 := by omega
            simp [m_law_due, x0, isR, g1, g5, sizesOf, h5]
        · have g1 : ¬ (1 : Int) ≤ (sl.length : Int) := by omega
          simp [m_law_due, x0, isR, g1, sizesOf, h1]
      | _ => simp [m_law_due, x0, isR, sizesOf]
    · have hlI : ¬ (l.length : Int) = 3 := by omega
      rw [isR_len hl]
      simp [m_law_due, hlI]
  | _ => simp [m_law_due, isR]
end MP

/-! Q, part h: drawn rules are rules. -/
namespace MP
open PySem L2
def FmOk (sz : List Nat) (a : Nat) (f : List Nat) : Prop := f.length = sz.length ∧ ∀ i, i < sz.length → f.getD i 0 < sz.getD i 0 ∧ (i < a → f.getD i 0 = 0)
theorem asInt_iD {n : Nat} : asInt (iD n) = n := rfl
theorem isForm_nT {sz f : List Nat} {a : Nat} : isForm sz (nT f) a = true ↔ FmOk sz a f := by
  unfold isForm nT FmOk
  simp only [Bool.and_eq_true, decide_eq_true_eq, List.length_map, List.all_eq_true]
  constructor
  · rintro ⟨⟨h1, h2⟩, h3⟩
    refine ⟨h1, fun i hi => ?_⟩
    have hf : f[i]? = some f[i] := List.getElem?_eq_getElem (by omega)
    have hs : sz[i]? = some sz[i] := List.getElem?_eq_getElem hi
    simp only [List.getD_eq_getElem?_getD, hf, hs, Option.getD_some]
    have m1 : (iD f[i], sz[i]) ∈ (f.map iD).zip sz := by
      refine List.mem_of_getElem? (i := i) ?_
      rw [List.getElem?_zip_eq_some]
      exact ⟨by rw [List.getElem?_map, hf]; rfl, hs⟩
    have := h2 _ m1
    simp [isNum] at this
    refine ⟨by omega, fun hia => ?_⟩
    have := h3 (iD f[i]) (List.mem_of_getElem? (i := i) (by rw [List.getElem?_take_of_lt hia, List.getElem?_map, hf]; rfl))
    simp [asInt] at this
    exact this
  · rintro ⟨h1, h2⟩
    refine ⟨⟨h1, fun p hp => ?_⟩, fun x hx => ?_⟩
    · obtain ⟨i, hi, e⟩ := List.getElem_of_mem hp
      have hz : ((f.map iD).zip sz)[i]? = some p := by rw [List.getElem?_eq_getElem hi, e]
      obtain ⟨p1, p2⟩ := p
      rw [List.getElem?_zip_eq_some, List.getElem?_map] at hz
      obtain ⟨y, hy, rfl⟩ := Option.map_eq_some_iff.mp hz.1
      have := (h2 i (List.getElem?_eq_some_iff.mp hz.2).1).1
      simp only [List.getD_eq_getElem?_getD, hy, hz.2, Option.getD_some] at this
      simp [isNum]
      omega
    · obtain ⟨i, hi, e⟩ := List.getElem_of_mem hx
      rw [List.length_take, List.length_map] at hi
      rw [List.getElem_take, List.getElem_map] at e
      subst e
      have := (h2 i (by omega)).2 (by omega)
      rw [List.getD_eq_getElem?_getD, List.getElem?_eq_getElem (by omega)] at this
      simp only [Option.getD_some] at this
      simp [asInt, this]
/-- rules -/
structure Vd (r : Ru) : Prop where
  sz : Szs r.sz
  pr : prodN r.sz ≤ 64
  pl : r.pw.length = r.sz.length
  el : r.ex.length = (pairsL r.sz.length).length
  pw : ∀ (k : Nat) (f : List Nat), r.pw[k]? = some f → FmOk r.sz (k + 1) f
  ex : ∀ (k : Nat) (f : List Nat) (p : Nat × Nat), r.ex[k]? = some f → (pairsL r.sz.length)[k]? = some p → FmOk r.sz (p.1 + 1) f
theorem sizesOf_nT {sz : List Nat} (h : Szs sz) (hp : prodN sz ≤ 64) : sizesOf (nT sz) = some sz := by
  have e1 : (sz.map iD).map (fun d => (asInt d).toNat) = sz := by
    rw [List.map_map]
    have : ((fun d => (asInt d).toNat) ∘ iD) = id := by funext n; simp [asInt]
    rw [this, List.map_id]
  have e2 : (sz.map iD).all (isNum · 2 8) = true := List.all_eq_true.mpr fun d hd => by
    obtain ⟨n, hn, rfl⟩ := List.mem_map.mp hd
    have := h.ge n hn
    have := h.lt n hn
    simp [isNum]
    omega
  have e3 : 1 ≤ sz.length := List.length_pos_iff.mpr h.ne
  have e4 := h.len
  unfold sizesOf nT
  simp only [e1, e2, List.length_map, e3, e4, hp, decide_true, Bool.and_self, if_true]
theorem formsOk_of {sz ah : List Nat} {l : List (List Nat)} (hl : l.length = ah.length) (h : ∀ k f, l[k]? = some f → FmOk sz (ah.getD k 0) f) : formsOk sz ah (.tup (l.map nT)) = true := by
  unfold formsOk
  simp only [List.length_map, hl, decide_true, Bool.true_and, List.all_eq_true, List.mem_range]
  intro k hk
  have hk2 : k < l.length := by omega
  rw [List.getD_eq_getElem?_getD, List.getElem?_map, List.getElem?_eq_getElem hk2]
  exact isForm_nT.mpr (h k _ (List.getElem?_eq_getElem hk2))
theorem Vd.isR {r : Ru} (h : Vd r) : isR (ruD r) = true := by
  unfold ruD MP.isR
  simp only [sizesOf_nT h.sz h.pr]
  rw [formsOk_of (by simp [h.pl]) (fun k f hf => ?_), formsOk_of (by simp [h.el]) (fun k f hf => ?_)]
  · rfl
  · have hk : k < (pairsL r.sz.length).length := by rw [← h.el]; exact (List.getElem?_eq_some_iff.mp hf).1
    have := h.ex k f _ hf (List.getElem?_eq_getElem hk)
    simpa [ahE, hk] using this
  · have hk : k < r.sz.length := by rw [← h.pl]; exact (List.getElem?_eq_some_iff.mp hf).1
    have := h.pw k f hf
    simpa [ahP, hk] using this
theorem Szs.pos {sz : List Nat} (h : Szs sz) {i : Nat} (hi : i < sz.length) : 2 ≤ sz.getD i 0 := by
  rw [List.getD_eq_getElem?_getD, List.getElem?_eq_getElem hi]
  exact h.ge _ (List.getElem_mem hi)
theorem fm_zero {sz : List Nat} {a : Nat} (h : ∀ i, i < sz.length → 0 < sz.getD i 0) : FmOk sz a (List.replicate sz.length 0) := by
  refine ⟨by simp, fun i hi => ?_⟩
  have e : (List.replicate sz.length 0).getD i 0 = 0 := by
    rw [List.getD_eq_getElem?_getD, List.getElem?_replicate]
    simp [hi]
  rw [e]
  exact ⟨h i hi, fun _ => rfl⟩
theorem aloneL_get {n j o i : Nat} (hi : i < n) : (aloneL n j o).getD i 0 = if i = j then o else 0 := by
  rw [List.getD_eq_getElem?_getD, aloneL, List.getElem?_map, List.getElem?_range hi]
  rfl
theorem fm_alone {sz : List Nat} {a j o : Nat} (h : ∀ i, i < sz.length → 0 < sz.getD i 0) (ha : a ≤ j) (ho : o < sz.getD j 0) : FmOk sz a (aloneL sz.length j o) := by
  refine ⟨by simp, fun i hi => ?_⟩
  rw [aloneL_get hi]
  split
  · rename_i e
    subst e
    exact ⟨ho, fun hh => by omega⟩
  · exact ⟨h i hi, fun _ => rfl⟩
theorem getD_app {l m : List Nat} {i : Nat} : (l ++ m).getD i 0 = if i < l.length then l.getD i 0 else m.getD (i - l.length) 0 := by
  rw [List.getD_eq_getElem?_getD]
  split
  · rename_i h
    rw [List.getElem?_append_left h, List.getD_eq_getElem?_getD]
  · rename_i h
    rw [List.getElem?_append_right (by omega), List.getD_eq_getElem?_getD]
theorem zs_get {k i : Nat} : (zs k).getD i 0 = 0 := by
  rw [zs, List.getD_eq_getElem?_getD, List.getElem?_replicate]
  split <;> rfl
theorem FmOk.right {sz sz' : List Nat} {a : Nat} {f : List Nat} (h : FmOk sz a f) (h' : Szs sz') : FmOk (sz ++ sz') a (f ++ zs sz'.length) := by
  obtain ⟨h1, h2⟩ := h
  refine ⟨by simp [h1, zs], fun i hi => ?_⟩
  rw [getD_app, getD_app, h1]
  split
  · rename_i hlt
    exact h2 i hlt
  · rename_i hlt
    rw [zs_get]
    have := h'.pos (i := i - sz.length) (by rw [List.length_append] at hi; omega)
    exact ⟨by omega, fun _ => rfl⟩
theorem FmOk.left {sz sz' : List Nat} {a : Nat} {f : List Nat} (h : FmOk sz' a f) (h' : Szs sz) : FmOk (sz ++ sz') (sz.length + a) (zs sz.length ++ f) := by
  obtain ⟨h1, h2⟩ := h
  have zl : (zs sz.length).length = sz.length := by simp [zs]
  refine ⟨by simp [h1, zs], fun i hi => ?_⟩
  rw [getD_app, getD_app, zl]
  split
  · rename_i hlt
    rw [zs_get]
    have := h'.pos hlt
    exact ⟨by omega, fun _ => rfl⟩
  · rename_i hlt
    have := h2 (i - sz.length) (by rw [List.length_append] at hi; omega)
    exact ⟨this.1, fun hh => this.2 (by omega)⟩
theorem FmOk.less {sz : List Nat} {a b : Nat} {f : List Nat} (h : FmOk sz a f) (hb : b ≤ a) : FmOk sz b f := ⟨h.1, fun i hi => ⟨(h.2 i hi).1, fun hh => (h.2 i hi).2 (by omega)⟩⟩
theorem Vd.sh {r : Ru} (h : Vd r) : r.Sh := by
  have h5 := h.sz.len
  refine ⟨by omega, h.pl, h.el, fun f hf => ?_, fun f hf => ?_⟩
  · obtain ⟨i, hi, e⟩ := List.getElem_of_mem hf
    exact (h.pw i f (by rw [List.getElem?_eq_getElem hi, e])).1
  · obtain ⟨i, hi, e⟩ := List.getElem_of_mem hf
    have hk : i < (pairsL r.sz.length).length := by rw [← h.el]; exact hi
    exact (h.ex i f _ (by rw [List.getElem?_eq_getElem hi, e]) (List.getElem?_eq_getElem hk)).1
theorem Vd.beside {r q : Ru} (h : Vd r) (g : Vd q) (hl : r.sz.length + q.sz.length ≤ 5) (hp : prodN r.sz * prodN q.sz ≤ 64) : Vd (besideR r q) := by
  have e : (besideR r q).sz = r.sz ++ q.sz := rfl
  have el : (besideR r q).sz.length = r.sz.length + q.sz.length := by rw [e, List.length_append]
  have hz : Szs (r.sz ++ q.sz) := by
    refine ⟨fun s hs => ?_, fun s hs => ?_, ?_, by simpa using hl⟩
    · rcases List.mem_append.mp hs with hs | hs
      · exact h.sz.ge s hs
      · exact g.sz.ge s hs
    · rcases List.mem_append.mp hs with hs | hs
      · exact h.sz.lt s hs
      · exact g.sz.lt s hs
    · intro e
      exact h.sz.ne (List.append_eq_nil_iff.mp e).1
  refine ⟨hz, by rw [e, prodN_append]; exact hp, by simp [besideR, h.pl, g.pl], by simp [besideR], fun k f hf => ?_, fun k f p hf hk => ?_⟩
  · rw [e]
    by_cases hk : k < r.pw.length
    · have : (besideR r q).pw[k]? = (r.pw.map (· ++ zs q.sz.length))[k]? := List.getElem?_append_left (by simpa using hk)
      rw [this, List.getElem?_map] at hf
      obtain ⟨x, hx, rfl⟩ := Option.map_eq_some_iff.mp hf
      exact (h.pw k x hx).right g.sz
    · have : (besideR r q).pw[k]? = (q.pw.map (zs r.sz.length ++ ·))[k - r.pw.length]? := by
        show (r.pw.map (· ++ zs q.sz.length) ++ _)[k]? = _
        rw [List.getElem?_append_right (by simpa using hk), List.length_map]
      rw [this, List.getElem?_map] at hf
      obtain ⟨x, hx, rfl⟩ := Option.map_eq_some_iff.mp hf
      exact ((g.pw _ x hx).left h.sz).less (by have := h.pl; omega)
  · rw [el] at hk
    have hf2 : ((pairsL (r.sz.length + q.sz.length)).map fun p => ((knownL r q).lookup p).getD (aloneL (r.sz.length + q.sz.length) p.2 1))[k]? = some f := hf
    rw [List.getElem?_map, hk] at hf2
    simp only [Option.map_some, Option.some.injEq] at hf2
    have hp2 := pairsL_mem.mp (List.mem_of_getElem? hk)
    subst hf2
    rw [e]
    cases hlk : (knownL r q).lookup p with
    | none =>
      simp only [Option.getD_none]
      have := fm_alone (sz := r.sz ++ q.sz) (a := p.1 + 1) (j := p.2) (o := 1) (fun i hi => by have := hz.pos hi; omega) (by omega) (by
        have := hz.pos (i := p.2) (by rw [List.length_append]; omega)
        omega)
      simpa using this
    | some f =>
      simp only [Option.getD_some]
      have hm := lookup_mem hlk
      rcases List.mem_append.mp hm with hm | hm
      · obtain ⟨i, hi, e⟩ := List.getElem_of_mem hm
        have hz : ((pairsL r.sz.length).zip (r.ex.map (· ++ zs q.sz.length)))[i]? = some (p, f) := by rw [List.getElem?_eq_getElem hi, e]
        rw [List.getElem?_zip_eq_some, List.getElem?_map] at hz
        obtain ⟨x, hx, rfl⟩ := Option.map_eq_some_iff.mp hz.2
        exact (h.ex i x p hx hz.1).right g.sz
      · obtain ⟨i, hi, e⟩ := List.getElem_of_mem hm
        have hz : (((pairsL q.sz.length).map (shiftP r.sz.length)).zip (q.ex.map (zs r.sz.length ++ ·)))[i]? = some (p, f) := by rw [List.getElem?_eq_getElem hi, e]
        rw [List.getElem?_zip_eq_some, List.getElem?_map, List.getElem?_map] at hz
        obtain ⟨x, hx, rfl⟩ := Option.map_eq_some_iff.mp hz.2
        obtain ⟨y, hy, rfl⟩ := Option.map_eq_some_iff.mp hz.1
        exact ((g.ex i x y hx hy).left h.sz).less (by simp [shiftP]; omega)
theorem vd_one {w : Nat} (h2 : 2 ≤ w) (h7 : w ≤ 7) : Vd ⟨[w], [[0]], []⟩ := by
  refine ⟨⟨by simp; omega, by simp; omega, by simp, by simp⟩, by simp; omega, rfl, rfl, fun k f hf => ?_, fun k f p hf => by simp at hf⟩
  cases k with
  | zero =>
    cases hf
    refine ⟨rfl, fun i hi => ?_⟩
    have : i = 0 := by simpa using hi
    subst this
    simp
    omega
  | succ k => simp at hf
theorem Drawn.vd {r : Ru} (h : Drawn r) (hp : prodN r.sz ≤ 64) : Vd r := by
  induction h with
  | plain sz pw hz hl hpw =>
    have z : ∀ i, i < sz.length → 0 < sz.getD i 0 := fun i hi => by have := hz.pos hi; omega
    refine ⟨hz, hp, hl, by simp [plainEx], fun k f hf => ?_, fun k f p hf hk => ?_⟩
    · rcases hpw k f hf with rfl | ⟨later, often, h1, h2, h3, rfl⟩
      · exact fm_zero z
      · exact fm_alone z (by omega) h3
    · have hf2 : ((pairsL sz.length).map fun p => aloneL sz.length p.2 1)[k]? = some f := hf
      have hk2 : (pairsL sz.length)[k]? = some p := hk
      rw [List.getElem?_map, hk2] at hf2
      simp only [Option.map_some, Option.some.injEq] at hf2
      subst hf2
      have hp2 := pairsL_mem.mp (List.mem_of_getElem? hk2)
      exact fm_alone z (by omega) (by
        have := hz.pos hp2.2
        show 1 < sz.getD p.2 0
        omega)
  | turn s w b p ht =>
    obtain ⟨s2, s7, w3, w7, b1, bw, one, pw, fix⟩ := ht
    have fm : ∀ (a x : Nat), a ≤ 1 → x < w → FmOk [s, w] a [0, x] := fun a x ha hx => ⟨rfl, fun i hi => by
      have : i = 0 ∨ i = 1 := by simp at hi; omega
      rcases this with rfl | rfl
      · simp; omega
      · simp; omega⟩
    refine ⟨(Drawn.turn s w b p ⟨s2, s7, w3, w7, b1, bw, one, pw, fix⟩).szs, hp, rfl, rfl, fun k f hf => ?_, fun k f p hf hk => ?_⟩
    · match k, hf with
      | 0, hf => cases hf; exact fm 1 p (by omega) pw
      | 1, hf =>
        cases hf
        refine ⟨rfl, fun i hi => ?_⟩
        have : i = 0 ∨ i = 1 := by simp at hi; omega
        rcases this with rfl | rfl
        · simp; omega
        · simp; omega
      | k + 2, hf => simp at hf
    · match k, hf with
      | 0, hf =>
        cases hf
        have : p = (0, 1) := by
          have h0 : (pairsL 2)[0]? = some p := hk
          have : (pairsL 2)[0]? = some (0, 1) := by decide
          rw [this] at h0
          exact (Option.some.inj h0).symm
        subst this
        exact fm 1 b (by omega) bw
      | k + 1, hf => simp at hf
  | meet s a b c hs ha hb hc1 hc2 =>
    have fm3 : ∀ (a x y z : Nat), x < s → y < s → z < s → (0 < a → x = 0) → (1 < a → y = 0) → (2 < a → z = 0) → FmOk [s, s, s] a [x, y, z] := fun a x y z hx hy hz g0 g1 g2 => ⟨rfl, fun i hi => by
      have : i = 0 ∨ i = 1 ∨ i = 2 := by simp at hi; omega
      rcases this with rfl | rfl | rfl
      · exact ⟨hx, g0⟩
      · exact ⟨hy, g1⟩
      · exact ⟨hz, g2⟩⟩
    refine ⟨(Drawn.meet s a b c hs ha hb hc1 hc2).szs, hp, rfl, rfl, fun k f hf => ?_, fun k f p hf hk => ?_⟩
    · match k, hf with
      | 0, hf => cases hf; exact fm3 _ _ _ _ (by omega) (by omega) ha (by simp) (by simp) (by simp)
      | 1, hf => cases hf; exact fm3 _ _ _ _ (by omega) (by omega) hb (by simp) (by simp) (by simp)
      | 2, hf => cases hf; exact fm3 _ _ _ _ (by omega) (by omega) (by omega) (by simp) (by simp) (by simp)
      | k + 3, hf => simp at hf
    · have at3 : ∀ (k : Nat) (q : Nat × Nat), (pairsL 3)[k]? = some q → (pairsL 3)[k]? = some p → p = q := fun k q h1 h2 => by
        rw [h1] at h2
        exact (Option.some.inj h2).symm
      match k, hf with
      | 0, hf =>
        cases hf
        have := at3 0 (0, 1) (by decide) hk
        subst this
        exact fm3 _ _ _ _ (by omega) (by omega) hc2 (by simp) (by simp) (by simp)
      | 1, hf =>
        cases hf
        have := at3 1 (0, 2) (by decide) hk
        subst this
        exact fm3 _ _ _ _ (by omega) (by omega) (by omega) (by simp) (by simp) (by simp)
      | 2, hf =>
        cases hf
        have := at3 2 (1, 2) (by decide) hk
        subst this
        exact fm3 _ _ _ _ (by omega) (by omega) (by omega) (by simp) (by simp) (by simp)
      | k + 3, hf => simp at hf
  | beside r w hr h2 h7 hl ih =>
    have hp2 : prodN r.sz * w ≤ 64 := by
      have : prodN (r.sz ++ [w]) ≤ 64 := hp
      simpa using this
    have hr64 : prodN r.sz ≤ 64 := Nat.le_trans (Nat.le_mul_of_pos_right _ (by omega)) hp2
    exact (ih hr64).beside (vd_one h2 h7) (by show r.sz.length + 1 ≤ 5; omega) (by simpa using hp2)
end MP

/-! Q, part i: forms that are drawn. -/
namespace MP
open PySem L2
theorem drawn_list {n i : Nat} {ρ : Fr} {b : M (List D)} (hb : ∀ d T, b (ρ.set i (some d)) T = .ok [.ref n, d] T) : ∀ {sz : List Nat} {S : Sto}, St S n → (∀ s ∈ sz, 0 < s ∧ s ≤ 1000) → ∃ (o : Ob) (vals : List Nat), StO o ∧ vals.length = sz.length ∧ (∀ j, j < sz.length → vals.getD j 0 < sz.getD j 0) ∧ lcGo [] (lcB1 i) mYes (mCall f_law_take b) ρ (sz.map iD) S = .ok (vals.map iD) (S.set n o)
  | [], S, h, _ => by
    obtain ⟨o, ho, e⟩ := h.self
    refine ⟨o, [], ho, rfl, fun j hj => by simp at hj, ?_⟩
    rw [← e]
    show lcGo [] (lcB1 i) mYes (mCall f_law_take b) ρ [] S = _
    simp only [lcGo]
    rw [if_pos gOk_nil]
    rfl
  | s :: sz, S, h, hs => by
    have s0 := hs s List.mem_cons_self
    obtain ⟨r, o, ho, hr, e⟩ := take_nat (m := (s : Int)) (k := s) h rfl s0.1 (by omega)
    obtain ⟨o2, vals, ho2, hl, hv, e2⟩ := drawn_list hb (sz := sz) (h.set ho) fun x hx => hs x (List.mem_cons_of_mem _ hx)
    rw [List.set_set] at e2
    refine ⟨o2, r :: vals, ho2, by simp [hl], fun j hj => ?_, ?_⟩
    · cases j with
      | zero => exact hr
      | succ j => exact hv j (by simpa using hj)
    · show lcGo [] (lcB1 i) mYes (mCall f_law_take b) ρ (iD s :: sz.map iD) S = _
      simp only [lcGo]
      rw [if_pos gOk_nil]
      simp only [lcB1_ap, mYes_ap, Res.nox_ok, Res.bind_ok, if_true, mCall_ap, hb]
      rw [e]
      simp only [Res.nox_ok, Res.bind_ok, e2, List.map_cons]
end MP

/-! Q, part m: words, steps of words, a measure that each step lessens. -/
namespace MP
open PySem L2
/-! ### the word of a form -/
def wordF (k : Nat) : List Nat → List Nat
  | [] => []
  | x :: f => List.replicate x k ++ wordF (k + 1) f
def wordL (f : List Nat) : List Nat := wordF 0 f
theorem wordF_mem {x : Nat} : ∀ {f : List Nat} {k : Nat}, x ∈ wordF k f → ∃ i, i < f.length ∧ x = k + i ∧ 0 < f.getD i 0
  | [], k, h => by simp [wordF] at h
  | y :: f, k, h => by
    simp only [wordF, List.mem_append, List.mem_replicate] at h
    rcases h with ⟨h1, rfl⟩ | h
    · exact ⟨0, by simp, by simp, by simpa using Nat.pos_of_ne_zero h1⟩
    · obtain ⟨i, h1, rfl, h2⟩ := wordF_mem h
      exact ⟨i + 1, by simp; omega, by omega, by simpa using h2⟩
theorem wordF_zero : ∀ {f : List Nat} {k : Nat}, (∀ i, i < f.length → f.getD i 0 = 0) → wordF k f = []
  | [], _, _ => rfl
  | x :: f, k, h => by
    have h0 := h 0 (by simp)
    simp only [List.getD_cons_zero] at h0
    subst h0
    simp only [wordF, List.replicate_zero, List.nil_append]
    exact wordF_zero fun i hi => by
      have := h (i + 1) (by simp; omega)
      simpa using this
theorem wordF_set : ∀ {f : List Nat} {k h : Nat} (x : Nat), h < f.length → (∀ i, h < i → i < f.length → f.getD i 0 = 0) → wordF k (f.set h x) = wordF k (f.set h 0) ++ List.replicate x (k + h)
  | [], _, _, _, h, _ => by simp at h
  | y :: f, k, 0, x, _, hz => by
    have : wordF (k + 1) f = [] := wordF_zero fun i hi => by
      have := hz (i + 1) (by omega) (by simp; omega)
      simpa using this
    simp [wordF, this]
  | y :: f, k, h + 1, x, hl, hz => by
    have ih := wordF_set (f := f) (k := k + 1) (h := h) x (by simpa using hl) fun i h1 h2 => by
      have := hz (i + 1) (by omega) (by simp; omega)
      simpa using this
    simp only [List.set_cons_succ, wordF, ih, List.append_assoc]
    rw [show k + 1 + h = k + (h + 1) by omega]
theorem set_self {f : List Nat} {h : Nat} : f.set h (f.getD h 0) = f := by
  by_cases hl : h < f.length
  · rw [List.getD_eq_getElem?_getD, List.getElem?_eq_getElem hl, Option.getD_some, List.set_getElem_self]
  · rw [List.set_eq_of_length_le (by omega)]
theorem wordF_top {f : List Nat} {k h : Nat} (hl : h < f.length) (hz : ∀ i, h < i → i < f.length → f.getD i 0 = 0) : wordF k f = wordF k (f.set h 0) ++ List.replicate (f.getD h 0) (k + h) := by
  have := wordF_set (k := k) (f.getD h 0) hl hz
  rwa [set_self] at this
theorem wordF_count : ∀ {f : List Nat} {k i : Nat}, (wordF k f).count (k + i) = f.getD i 0
  | [], _, _ => by simp [wordF]
  | x :: f, k, 0 => by
    have : (wordF (k + 1) f).count k = 0 := List.count_eq_zero.mpr fun h => by
      obtain ⟨i, _, e, _⟩ := wordF_mem h
      omega
    simp [wordF, List.count_append, List.count_replicate, this]
  | x :: f, k, i + 1 => by
    have ih := wordF_count (f := f) (k := k + 1) (i := i)
    rw [show k + (i + 1) = k + 1 + i by omega]
    simp only [wordF, List.count_append, List.count_replicate, ih, List.getD_cons_succ]
    rw [if_neg (by simp; omega)]
    omega
theorem wordF_len : ∀ {f : List Nat} {k : Nat}, (∀ i, i < f.length → f.getD i 0 ≤ 7) → (wordF k f).length ≤ 7 * f.length
  | [], _, _ => by simp [wordF]
  | x :: f, k, h => by
    have ih := wordF_len (f := f) (k := k + 1) fun i hi => by
      have := h (i + 1) (by simp; omega)
      simpa using this
    have h0 := h 0 (by simp)
    simp only [List.getD_cons_zero] at h0
    simp only [wordF, List.length_append, List.length_replicate, List.length_cons]
    omega

/-! ### the rules' words -/
def pwF (r : Ru) (i : Nat) : List Nat := r.pw.getD i []
def exF (r : Ru) (i j : Nat) : List Nat := (((pairsL r.sz.length).zip r.ex).lookup (i, j)).getD []
theorem Vd.pwOk {r : Ru} (h : Vd r) {i : Nat} (hi : i < r.sz.length) : FmOk r.sz (i + 1) (pwF r i) := by
  have hi2 : i < r.pw.length := by rw [h.pl]; exact hi
  refine h.pw i _ ?_
  simp [pwF, hi2]
theorem lookup_zip {α β : Type} [BEq α] [LawfulBEq α] : ∀ {l : List α} {m : List β} {a : α}, l.length = m.length → a ∈ l → ∃ (k : Nat) (b : β), l[k]? = some a ∧ m[k]? = some b ∧ (l.zip m).lookup a = some b
  | [], _, _, _, h => by simp at h
  | x :: l, [], _, h, _ => by simp at h
  | x :: l, y :: m, a, h, ha => by
    by_cases e : a = x
    · subst e
      exact ⟨0, y, rfl, rfl, by simp⟩
    · have : a ∈ l := by
        rcases List.mem_cons.mp ha with h | h
        · exact absurd h e
        · exact h
      obtain ⟨k, b, h1, h2, h3⟩ := lookup_zip (l := l) (m := m) (by simpa using h) this
      refine ⟨k + 1, b, by simpa using h1, by simpa using h2, ?_⟩
      rw [List.zip_cons_cons, List.lookup_cons]
      rw [show (a == x) = false by simpa using e]
      exact h3
theorem Vd.exLook {r : Ru} (h : Vd r) {i j : Nat} (hij : i < j) (hj : j < r.sz.length) : ∃ k : Nat, (pairsL r.sz.length)[k]? = some (i, j) ∧ r.ex[k]? = some (exF r i j) := by
  obtain ⟨k, b, h1, h2, h3⟩ := lookup_zip (l := pairsL r.sz.length) (m := r.ex) (a := (i, j)) h.el.symm (pairsL_mem.mpr ⟨hij, hj⟩)
  refine ⟨k, h1, ?_⟩
  rw [h2]
  simp [exF, h3]
theorem Vd.exOk {r : Ru} (h : Vd r) {i j : Nat} (hij : i < j) (hj : j < r.sz.length) : FmOk r.sz (i + 1) (exF r i j) := by
  obtain ⟨k, h1, h2⟩ := h.exLook hij hj
  exact h.ex k _ _ h2 h1
theorem FmOk.word {sz f : List Nat} {a x : Nat} (h : FmOk sz a f) (hx : x ∈ wordL f) : a ≤ x ∧ x < sz.length := by
  obtain ⟨i, h1, rfl, h2⟩ := wordF_mem hx
  rw [h.1] at h1
  have := (h.2 i h1).2
  refine ⟨?_, by omega⟩
  by_cases hi : i < a
  · have := this hi
    omega
  · omega
theorem FmOk.wlen {sz f : List Nat} {a : Nat} (h : FmOk sz a f) (hz : Szs sz) : (wordL f).length ≤ 35 := by
  have h1 := wordF_len (f := f) (k := 0) fun i hi => by
    have hi2 : i < sz.length := by rw [← h.1]; exact hi
    have g1 := (h.2 i hi2).1
    have g2 : sz.getD i 0 < 8 := by
      rw [List.getD_eq_getElem?_getD, List.getElem?_eq_getElem hi2, Option.getD_some]
      exact hz.lt _ (List.getElem_mem hi2)
    omega
  have h2 := hz.len
  rw [h.1] at h1
  show (wordF 0 f).length ≤ 35
  omega

/-! ### steps -/
inductive StepW (r : Ru) : List Nat → List Nat → Prop
  | pw (u v : List Nat) (i : Nat) (hi : i < r.sz.length) : StepW r (u ++ List.replicate (r.sz.getD i 0) i ++ v) (u ++ wordL (pwF r i) ++ v)
  | ex (u v : List Nat) (i j : Nat) (hij : i < j) (hj : j < r.sz.length) : StepW r (u ++ [j, i] ++ v) (u ++ i :: wordL (exF r i j) ++ v)
def itr (f : Nat → Nat) : Nat → Nat → Nat
  | 0, x => x
  | k + 1, x => f (itr f k x)
theorem itr_add {f : Nat → Nat} {a x : Nat} : ∀ {b : Nat}, itr f (b + a) x = itr f b (itr f a x)
  | 0 => by simp [itr]
  | b + 1 => by rw [Nat.add_right_comm]; simp only [itr]; rw [itr_add]
/-- rises, and is more than what it is of -/
structure Ris (f : Nat → Nat) : Prop where
  gt : ∀ x, x < f x
  mo : ∀ x y, x < y → f x < f y
theorem Ris.le {f : Nat → Nat} (h : Ris f) {x y : Nat} (e : x ≤ y) : f x ≤ f y := by
  rcases Nat.lt_or_eq_of_le e with e | e
  · exact Nat.le_of_lt (h.mo _ _ e)
  · rw [e]; exact Nat.le_refl _
theorem Ris.itr_ge {f : Nat → Nat} (h : Ris f) {x : Nat} : ∀ {k : Nat}, x ≤ itr f k x
  | 0 => Nat.le_refl _
  | k + 1 => Nat.le_trans (h.itr_ge (k := k)) (Nat.le_of_lt (h.gt _))
theorem Ris.itr_mo {f : Nat → Nat} (h : Ris f) {x y : Nat} (e : x < y) : ∀ {k : Nat}, itr f k x < itr f k y
  | 0 => e
  | k + 1 => h.mo _ _ (h.itr_mo e (k := k))
theorem Ris.itr_le {f : Nat → Nat} (h : Ris f) {x : Nat} {a b : Nat} (e : a ≤ b) : itr f a x ≤ itr f b x := by
  obtain ⟨c, rfl⟩ := Nat.exists_eq_add_of_le e
  rw [Nat.add_comm, itr_add]
  exact h.itr_ge
def gw : Nat → Nat → Nat
  | 0, x => x + 1
  | h + 1, x => itr (gw h) (40 * (x + 1)) x
theorem gw_ris : ∀ h, Ris (gw h)
  | 0 => ⟨fun x => Nat.lt_succ_self x, fun x y e => Nat.succ_lt_succ e⟩
  | h + 1 => by
    have ih := gw_ris h
    refine ⟨fun x => ?_, fun x y e => ?_⟩
    · show x < itr (gw h) (40 * (x + 1)) x
      rw [show 40 * (x + 1) = (40 * x + 39) + 1 by omega]
      exact Nat.lt_of_le_of_lt (ih.itr_ge (k := 40 * x + 39)) (ih.gt _)
    · show itr (gw h) (40 * (x + 1)) x < itr (gw h) (40 * (y + 1)) y
      exact Nat.lt_of_lt_of_le (ih.itr_mo e) (ih.itr_le (by omega))
theorem gw_up {x : Nat} : ∀ {h}, gw h x ≤ gw (h + 1) x := fun {h} => by
  have := (gw_ris h).itr_le (x := x) (show 1 ≤ 40 * (x + 1) by omega)
  exact this
theorem gw_mono {x : Nat} {a b : Nat} (e : a ≤ b) : gw a x ≤ gw b x := by
  induction b with
  | zero => rw [Nat.le_zero.mp e]; exact Nat.le_refl _
  | succ b ih =>
    rcases Nat.lt_or_eq_of_le e with e | e
    · exact Nat.le_trans (ih (by omega)) gw_up
    · rw [e]; exact Nat.le_refl _
/-- the measure -/
def muF (n : Nat) (w : List Nat) (x : Nat) : Nat := w.foldl (fun x i => gw (n - 1 - i) x) x
theorem muF_app {n : Nat} {u v : List Nat} {x : Nat} : muF n (u ++ v) x = muF n v (muF n u x) := by simp [muF]
theorem muF_mo {n : Nat} : ∀ {w : List Nat} {x y : Nat}, x < y → muF n w x < muF n w y
  | [], _, _, h => h
  | i :: w, x, y, h => muF_mo (w := w) ((gw_ris _).mo _ _ h)
/-- words of higher letters -/
theorem muF_le {n h : Nat} : ∀ {w : List Nat} {x k : Nat}, (∀ i ∈ w, n - 1 - i ≤ h) → w.length ≤ k → muF n w x ≤ itr (gw h) k x
  | [], x, k, _, _ => (gw_ris h).itr_ge
  | i :: w, x, 0, _, hk => by simp at hk
  | i :: w, x, k + 1, hw, hk => by
    have ih := muF_le (n := n) (h := h) (w := w) (x := gw (n - 1 - i) x) (k := k) (fun j hj => hw j (List.mem_cons_of_mem _ hj)) (by simpa using hk)
    refine Nat.le_trans ih ?_
    rw [itr_add (b := k) (a := 1)]
    have e1 : gw (n - 1 - i) x ≤ gw h x := gw_mono (hw i List.mem_cons_self)
    rcases Nat.lt_or_eq_of_le e1 with e | e
    · exact Nat.le_of_lt ((gw_ris h).itr_mo e)
    · rw [e]; exact Nat.le_refl _
theorem gw_jump {h x : Nat} : itr (gw h) 40 (gw (h + 1) x) < gw (h + 1) (x + 1) := by
  show itr (gw h) 40 (itr (gw h) (40 * (x + 1)) x) < itr (gw h) (40 * (x + 1 + 1)) (x + 1)
  rw [show 40 * (x + 1 + 1) = 40 + 40 * (x + 1) by omega, itr_add]
  exact (gw_ris h).itr_mo ((gw_ris h).itr_mo (Nat.lt_succ_self x))
theorem muF_rep {n i x : Nat} : ∀ {k : Nat}, muF n (List.replicate k i) x = itr (gw (n - 1 - i)) k x
  | 0 => rfl
  | k + 1 => by
    have ih := muF_rep (n := n) (i := i) (x := x) (k := k)
    rw [List.replicate_succ', muF_app, ih]
    rfl
theorem mu_step {r : Ru} (hv : Vd r) {w w' : List Nat} (h : StepW r w w') (x : Nat) : muF r.sz.length w' x < muF r.sz.length w x := by
  obtain ⟨n, hn⟩ : ∃ n, n = r.sz.length := ⟨_, rfl⟩
  cases h with
  | pw u v i hi =>
    rw [← hn, muF_app, muF_app, muF_app, muF_app]
    refine muF_mo ?_
    generalize muF n u x = y
    rw [muF_rep]
    have f := hv.pwOk hi
    have fl := f.wlen hv.sz
    have s2 := hv.sz.pos hi
    obtain ⟨s, hs⟩ : ∃ s, r.sz.getD i 0 = s + 2 := ⟨r.sz.getD i 0 - 2, by omega⟩
    rw [hs]
    by_cases hl : i + 1 = n
    · have : wordL (pwF r i) = [] := List.eq_nil_iff_forall_not_mem.mpr fun z hz => by
        have := f.word hz
        omega
      rw [this]
      exact Nat.lt_of_le_of_lt ((gw_ris _).itr_ge (k := s + 1)) ((gw_ris _).gt _)
    · obtain ⟨h, hh⟩ : ∃ h, n - 1 - i = h + 1 := ⟨n - 2 - i, by omega⟩
      rw [hh]
      have g1 : muF n (wordL (pwF r i)) y ≤ itr (gw h) 40 y := muF_le (fun z hz => by
        have := f.word hz
        omega) (by omega)
      have g2 : itr (gw h) 40 y ≤ itr (gw h) 40 (gw (h + 1) y) := Nat.le_of_lt ((gw_ris h).itr_mo ((gw_ris (h + 1)).gt y))
      have g3 := gw_jump (h := h) (x := y)
      have g4 : gw (h + 1) (y + 1) ≤ itr (gw (h + 1)) 2 y := (gw_ris (h + 1)).le ((gw_ris (h + 1)).gt y)
      have g5 : itr (gw (h + 1)) 2 y ≤ itr (gw (h + 1)) (s + 2) y := (gw_ris (h + 1)).itr_le (by omega)
      omega
  | ex u v i j hij hj =>
    rw [← hn, muF_app, muF_app, muF_app, muF_app]
    refine muF_mo ?_
    generalize muF n u x = y
    have f := hv.exOk hij hj
    have fl := f.wlen hv.sz
    obtain ⟨h, hh⟩ : ∃ h, n - 1 - i = h + 1 := ⟨n - 2 - i, by omega⟩
    have e1 : muF n [j, i] y = gw (h + 1) (gw (n - 1 - j) y) := by rw [← hh]; rfl
    have e2 : muF n (i :: wordL (exF r i j)) y = muF n (wordL (exF r i j)) (gw (h + 1) y) := by rw [← hh]; rfl
    rw [e1, e2]
    have g1 : muF n (wordL (exF r i j)) (gw (h + 1) y) ≤ itr (gw h) 40 (gw (h + 1) y) := muF_le (fun z hz => by
      have := f.word hz
      omega) (by omega)
    have g3 := gw_jump (h := h) (x := y)
    have g4 : gw (h + 1) (y + 1) ≤ gw (h + 1) (gw (n - 1 - j) y) := (gw_ris (h + 1)).le ((gw_ris _).gt y)
    omega
end MP

/-! Q, part n: rules that hold of all forms (a model); letters put behind a form; plain words. -/
namespace MP
open PySem L2
def acts (act : List Nat → Nat → List Nat) (f w : List Nat) : List Nat := w.foldl act f
section
variable {act : List Nat → Nat → List Nat} {f u v w : List Nat}
@[simp] theorem acts_nil : acts act f [] = f := rfl
@[simp] theorem acts_cons {i : Nat} : acts act f (i :: w) = acts act (act f i) w := rfl
@[simp] theorem acts_app : acts act f (u ++ v) = acts act (acts act f u) v := by simp [acts]
end
abbrev Fm (r : Ru) (f : List Nat) : Prop := FmOk r.sz 0 f
def Lt (r : Ru) (w : List Nat) : Prop := ∀ i ∈ w, i < r.sz.length
structure Mdl (r : Ru) (act : List Nat → Nat → List Nat) : Prop where
  cl : ∀ f i, Fm r f → i < r.sz.length → Fm r (act f i)
  pw : ∀ f i, Fm r f → i < r.sz.length → acts act f (List.replicate (r.sz.getD i 0) i) = acts act f (wordL (pwF r i))
  ex : ∀ f i j, Fm r f → i < j → j < r.sz.length → acts act f [j, i] = acts act f (i :: wordL (exF r i j))
  pl : ∀ f, Fm r f → acts act (zs r.sz.length) (wordL f) = f
section
variable {r : Ru} {act : List Nat → Nat → List Nat}
theorem Lt.app {u v : List Nat} : Lt r (u ++ v) ↔ Lt r u ∧ Lt r v := by
  simp only [Lt, List.mem_append]
  exact ⟨fun h => ⟨fun i hi => h i (.inl hi), fun i hi => h i (.inr hi)⟩, fun h i hi => hi.elim (h.1 i) (h.2 i)⟩
theorem Lt.cons {x : Nat} {v : List Nat} : Lt r (x :: v) ↔ x < r.sz.length ∧ Lt r v := by
  simp [Lt]
theorem Lt.nil : Lt r [] := fun i hi => by cases hi
theorem FmOk.lt {f : List Nat} {a : Nat} (h : FmOk r.sz a f) : Lt r (wordL f) := fun i hi => (h.word hi).2
theorem FmOk.fm {f : List Nat} {a : Nat} (h : FmOk r.sz a f) : Fm r f := h.less (Nat.zero_le _)
theorem Vd.zero (hv : Vd r) : Fm r (zs r.sz.length) := fm_zero fun i hi => by
  have := hv.sz.pos hi
  omega
theorem Mdl.fm (m : Mdl r act) : ∀ {w f : List Nat}, Fm r f → Lt r w → Fm r (acts act f w)
  | [], f, hf, _ => hf
  | i :: w, f, hf, hw => m.fm (w := w) (f := act f i) (m.cl f i hf (Lt.cons.mp hw).1) (Lt.cons.mp hw).2
theorem Lt.rep {i k : Nat} (h : i < r.sz.length) : Lt r (List.replicate k i) := fun j hj => by rw [(List.mem_replicate.mp hj).2]; exact h
theorem StepW.lt (hv : Vd r) {w w' : List Nat} (h : StepW r w w') (hl : Lt r w) : Lt r w' := by
  cases h with
  | pw u v i hi =>
    rw [Lt.app, Lt.app] at hl ⊢
    exact ⟨⟨hl.1.1, (hv.pwOk hi).lt⟩, hl.2⟩
  | ex u v i j hij hj =>
    rw [Lt.app, Lt.app] at hl ⊢
    exact ⟨⟨hl.1.1, Lt.cons.mpr ⟨by omega, (hv.exOk hij hj).lt⟩⟩, hl.2⟩
theorem Mdl.step (m : Mdl r act) {w w' f : List Nat} (h : StepW r w w') (hf : Fm r f) (hl : Lt r w) : acts act f w = acts act f w' := by
  cases h with
  | pw u v i hi =>
    rw [Lt.app, Lt.app] at hl
    simp only [acts_app]
    rw [m.pw _ i (m.fm hf hl.1.1) hi]
  | ex u v i j hij hj =>
    rw [Lt.app, Lt.app] at hl
    simp only [acts_app]
    rw [m.ex _ i j (m.fm hf hl.1.1) hij hj]

/-! ### letters put behind a form -/
def TopZ (f : List Nat) (h : Nat) : Prop := ∀ i, h < i → i < f.length → f.getD i 0 = 0
theorem top_or (f : List Nat) (h : Nat) : TopZ f h ∨ ∃ l, h < l ∧ l < f.length ∧ 0 < f.getD l 0 ∧ TopZ f l := by
  have key : ∀ k, k ≤ f.length → (∀ i, f.length - k ≤ i → i < f.length → f.getD i 0 = 0) ∨ ∃ l, f.length - k ≤ l ∧ l < f.length ∧ 0 < f.getD l 0 ∧ TopZ f l := by
    intro k
    induction k with
    | zero => exact fun _ => .inl fun i h1 h2 => by omega
    | succ k ih =>
      intro hk
      rcases ih (by omega) with h1 | ⟨l, g1, g2, g3, g4⟩
      · by_cases hz : f.getD (f.length - (k + 1)) 0 = 0
        · refine .inl fun i h2 h3 => ?_
          by_cases e : i = f.length - (k + 1)
          · rw [e]; exact hz
          · exact h1 i (by omega) h3
        · exact .inr ⟨f.length - (k + 1), Nat.le_refl _, by omega, Nat.pos_of_ne_zero hz, fun i h2 h3 => h1 i (by omega) h3⟩
      · exact .inr ⟨l, by omega, g2, g3, g4⟩
  by_cases hh : h + 1 ≤ f.length
  · rcases key (f.length - (h + 1)) (by omega) with h1 | ⟨l, g1, g2, g3, g4⟩
    · exact .inl fun i h2 h3 => h1 i (by omega) h3
    · exact .inr ⟨l, by omega, g2, g3, g4⟩
  · exact .inl fun i h2 h3 => by omega
theorem TopZ.not {f : List Nat} {h l : Nat} (z : TopZ f h) (h1 : h < l) (h2 : l < f.length) (h3 : 0 < f.getD l 0) : False := by
  have := z l h1 h2
  omega
inductive MSt (r : Ru) : List Nat → List Nat → List Nat → List Nat → Prop
  | exch (f t : List Nat) (l h : Nat) (hl : l < f.length) (h0 : 0 < f.getD l 0) (hz : TopZ f l) (hh : h < l) : MSt r f (h :: t) (f.set l (f.getD l 0 - 1)) (h :: wordL (exF r h l) ++ t)
  | place (f t : List Nat) (h : Nat) (hz : TopZ f h) (hs : f.getD h 0 + 1 ≠ r.sz.getD h 0) : MSt r f (h :: t) (f.set h (f.getD h 0 + 1)) t
  | power (f t : List Nat) (h : Nat) (hz : TopZ f h) (hs : f.getD h 0 + 1 = r.sz.getD h 0) : MSt r f (h :: t) (f.set h 0) (wordL (pwF r h) ++ t)
theorem getD_set {f : List Nat} {i j x : Nat} : (f.set i x).getD j 0 = if i = j ∧ j < f.length then x else f.getD j 0 := by
  simp only [List.getD_eq_getElem?_getD, List.getElem?_set]
  by_cases e : i = j
  · subst e
    by_cases hl : i < f.length
    · simp [hl]
    · simp [hl]
  · simp [e]
theorem FmOk.set {sz f : List Nat} {h x : Nat} (hf : FmOk sz 0 f) (hx : h < sz.length → x < sz.getD h 0) : FmOk sz 0 (f.set h x) := by
  refine ⟨by simpa using hf.1, fun i hi => ⟨?_, fun h => by omega⟩⟩
  rw [getD_set]
  split
  · rename_i e
    obtain ⟨rfl, _⟩ := e
    exact hx hi
  · exact (hf.2 i hi).1
theorem MSt.ok (hv : Vd r) {f t f1 t1 : List Nat} (h : MSt r f t f1 t1) (hf : Fm r f) (ht : Lt r t) : Fm r f1 ∧ Lt r t1 := by
  cases h with
  | exch t l h hl h0 hz hh =>
    rw [Lt.cons] at ht
    have hl2 : l < r.sz.length := by rw [← hf.1]; exact hl
    refine ⟨hf.set fun hx => ?_, Lt.app.mpr ⟨Lt.cons.mpr ⟨ht.1, (hv.exOk hh hl2).lt⟩, ht.2⟩⟩
    have := (hf.2 l hx).1
    omega
  | place _ h hz hs =>
    rw [Lt.cons] at ht
    refine ⟨hf.set fun hx => ?_, ht.2⟩
    have := (hf.2 h hx).1
    omega
  | power t h hz hs =>
    rw [Lt.cons] at ht
    refine ⟨hf.set fun hx => ?_, Lt.app.mpr ⟨(hv.pwOk ht.1).lt, ht.2⟩⟩
    have := (hf.2 h hx).1
    omega
/-- the whole word changes by a step, or the rest of it gets shorter -/
theorem MSt.word {f t f1 t1 : List Nat} (h : MSt r f t f1 t1) (hf : Fm r f) (ht : Lt r t) : StepW r (wordL f ++ t) (wordL f1 ++ t1) ∨ (wordL f ++ t = wordL f1 ++ t1 ∧ t1.length < t.length) := by
  cases h with
  | exch t l h hl h0 hz hh =>
    left
    have hl2 : l < r.sz.length := by rw [← hf.1]; exact hl
    have e1 := wordF_top (k := 0) hl hz
    have e2 := wordF_set (k := 0) (f.getD l 0 - 1) hl hz
    obtain ⟨c, hc⟩ : ∃ c, f.getD l 0 = c + 1 := ⟨f.getD l 0 - 1, by omega⟩
    rw [hc] at e1 e2 ⊢
    have s := StepW.ex (r := r) (wordL (f.set l (c + 1 - 1))) t h l hh hl2
    have e3 : wordL f ++ h :: t = wordL (f.set l (c + 1 - 1)) ++ [l, h] ++ t := by
      show wordF 0 f ++ h :: t = wordF 0 (f.set l (c + 1 - 1)) ++ [l, h] ++ t
      rw [e1, e2]
      simp [List.replicate_succ']
    rw [e3]
    simpa using s
  | place _ h hz hs =>
    right
    have hl : h < f.length := by rw [hf.1]; exact (Lt.cons.mp ht).1
    have e1 := wordF_top (k := 0) hl hz
    have e2 := wordF_set (k := 0) (f.getD h 0 + 1) hl hz
    refine ⟨?_, by simp⟩
    show wordF 0 f ++ h :: t1 = wordF 0 (f.set h (f.getD h 0 + 1)) ++ t1
    rw [e1, e2]
    simp [List.replicate_succ']
  | power t h hz hs =>
    left
    have hn := (Lt.cons.mp ht).1
    have hl : h < f.length := by rw [hf.1]; exact hn
    have e1 := wordF_top (k := 0) hl hz
    have s := StepW.pw (r := r) (wordL (f.set h 0)) t h hn
    have e3 : wordL f ++ h :: t = wordL (f.set h 0) ++ List.replicate (r.sz.getD h 0) h ++ t := by
      show wordF 0 f ++ h :: t = wordF 0 (f.set h 0) ++ List.replicate (r.sz.getD h 0) h ++ t
      rw [e1, ← hs]
      simp [List.replicate_succ']
    rw [e3]
    simpa using s
theorem MSt.mk (f t : List Nat) (h : Nat) : ∃ f1 t1, MSt r f (h :: t) f1 t1 := by
  rcases top_or f h with z | ⟨l, h1, h2, h3, h4⟩
  · by_cases hs : f.getD h 0 + 1 = r.sz.getD h 0
    · exact ⟨_, _, .power f t h z hs⟩
    · exact ⟨_, _, .place f t h z hs⟩
  · exact ⟨_, _, .exch f t l h h2 h3 h4 h1⟩
theorem MSt.det {f t f1 t1 f2 t2 : List Nat} (a : MSt r f t f1 t1) (b : MSt r f t f2 t2) : f1 = f2 ∧ t1 = t2 := by
  cases a with
  | exch t l h hl h0 hz hh =>
    cases b with
    | exch _ l2 _ hl2 h02 hz2 hh2 =>
      have : l = l2 := by
        rcases Nat.lt_trichotomy l l2 with e | e | e
        · exact (hz.not e hl2 h02).elim
        · exact e
        · exact (hz2.not e hl h0).elim
      subst this
      exact ⟨rfl, rfl⟩
    | place _ _ hz2 hs => exact (hz2.not hh hl h0).elim
    | power _ _ hz2 hs => exact (hz2.not hh hl h0).elim
  | place _ h hz hs =>
    cases b with
    | exch _ l2 _ hl2 h02 hz2 hh2 => exact (hz.not hh2 hl2 h02).elim
    | place _ _ hz2 hs2 => exact ⟨rfl, rfl⟩
    | power _ _ hz2 hs2 => exact absurd hs2 hs
  | power t h hz hs =>
    cases b with
    | exch _ l2 _ hl2 h02 hz2 hh2 => exact (hz.not hh2 hl2 h02).elim
    | place _ _ hz2 hs2 => exact absurd hs hs2
    | power _ _ hz2 hs2 => exact ⟨rfl, rfl⟩
/-- what is less than what -/
def MLt (a b : Nat × Nat) : Prop := Prod.Lex (· < ·) (· < ·) a b
theorem mlt_wf : WellFounded MLt := (Prod.lex ⟨(· < ·), Nat.lt_wfRel.wf⟩ ⟨(· < ·), Nat.lt_wfRel.wf⟩).wf
def mMu (r : Ru) (f t : List Nat) : Nat × Nat := (muF r.sz.length (wordL f ++ t) 0, t.length)
theorem MSt.less (hv : Vd r) {f t f1 t1 : List Nat} (h : MSt r f t f1 t1) (hf : Fm r f) (ht : Lt r t) : MLt (mMu r f1 t1) (mMu r f t) := by
  rcases h.word hf ht with s | ⟨s1, s2⟩
  · exact .left _ _ (mu_step hv s 0)
  · unfold mMu
    rw [s1]
    exact .right _ s2
inductive RunTo (r : Ru) : List Nat → List Nat → List Nat → Prop
  | done (f : List Nat) : RunTo r f [] f
  | step {f t f1 t1 g : List Nat} (a : MSt r f t f1 t1) (b : RunTo r f1 t1 g) : RunTo r f t g
theorem runTo_mk (hv : Vd r) : ∀ (f t : List Nat), Fm r f → Lt r t → ∃ g, RunTo r f t g ∧ Fm r g := by
  have key : ∀ (m : Nat × Nat) (f t : List Nat), mMu r f t = m → Fm r f → Lt r t → ∃ g, RunTo r f t g ∧ Fm r g := by
    intro m
    induction m using mlt_wf.induction with
    | _ m ih =>
      intro f t hm hf ht
      cases t with
      | nil => exact ⟨f, .done f, hf⟩
      | cons h t =>
        obtain ⟨f1, t1, s⟩ := MSt.mk (r := r) f t h
        have ok := s.ok hv hf ht
        obtain ⟨g, h1, h2⟩ := ih _ (by rw [← hm]; exact s.less hv hf ht) f1 t1 rfl ok.1 ok.2
        exact ⟨g, .step s h1, h2⟩
  exact fun f t => key _ f t rfl
theorem RunTo.det {f t g g2 : List Nat} (a : RunTo r f t g) (b : RunTo r f t g2) : g = g2 := by
  induction a with
  | done f =>
    cases b with
    | done => rfl
    | step a _ => cases a
  | step a _ ih =>
    cases b with
    | done => cases a
    | step a2 b2 =>
      obtain ⟨rfl, rfl⟩ := a.det a2
      exact ih b2
theorem Mdl.word_t (m : Mdl r act) {f t : List Nat} (hf : Fm r f) : acts act (zs r.sz.length) (wordL f ++ t) = acts act f t := by
  rw [acts_app, m.pl f hf]
theorem RunTo.acts (hv : Vd r) (m : Mdl r act) {f t g : List Nat} (h : RunTo r f t g) (hf : Fm r f) (ht : Lt r t) : acts act f t = g := by
  induction h with
  | done f => rfl
  | @step f t f1 t1 g a b ih =>
    have ok := a.ok hv hf ht
    rw [← ih ok.1 ok.2, ← m.word_t hf, ← m.word_t ok.1]
    rcases a.word hf ht with s | ⟨s, _⟩
    · exact m.step s hv.zero (Lt.app.mpr ⟨hf.lt, ht⟩)
    · rw [s]
theorem Mdl.run (hv : Vd r) (m : Mdl r act) {f t : List Nat} (hf : Fm r f) (ht : Lt r t) : RunTo r f t (MP.acts act f t) := by
  obtain ⟨g, h, _⟩ := runTo_mk hv f t hf ht
  rw [h.acts hv m hf ht]
  exact h

/-! ### plain words -/
def NoStep (r : Ru) (w : List Nat) : Prop := ∀ w', ¬ StepW r w w'
theorem NoStep.left {u v : List Nat} (h : NoStep r (u ++ v)) : NoStep r u := fun w' s => by
  cases s with
  | pw a b i hi => exact h _ (by rw [List.append_assoc]; exact .pw a (b ++ v) i hi)
  | ex a b i j hij hj => exact h _ (by rw [List.append_assoc]; exact .ex a (b ++ v) i j hij hj)
theorem plain_of (hv : Vd r) : ∀ {w : List Nat}, Lt r w → NoStep r w → ∃ f, Fm r f ∧ w = wordL f := by
  intro w
  induction hk : w.length generalizing w with
  | zero =>
    intro _ _
    refine ⟨_, hv.zero, ?_⟩
    rw [List.length_eq_zero_iff.mp hk]
    exact (wordF_zero fun i hi => zs_get).symm
  | succ k ih =>
    intro hl hn
    obtain ⟨u, h, rfl⟩ : ∃ u h, w = u ++ [h] := by
      rcases List.eq_nil_or_concat w with e | ⟨u, h, e⟩
      · rw [e] at hk
        cases hk
      · exact ⟨u, h, by simpa using e⟩
    rw [Lt.app] at hl
    obtain ⟨f, hf, rfl⟩ := ih (by simpa using hk) hl.1 hn.left
    obtain ⟨f1, t1, s⟩ := MSt.mk (r := r) f [] h
    have ht : Lt r [h] := hl.2
    have ok := s.ok hv hf ht
    rcases s.word hf ht with e | ⟨e, e2⟩
    · exact (hn _ e).elim
    · have : t1 = [] := List.length_eq_zero_iff.mp (by simpa using e2)
      subst this
      exact ⟨f1, ok.1, by rw [e, List.append_nil]⟩
theorem wordL_count {f : List Nat} {i : Nat} : (wordL f).count i = f.getD i 0 := by
  have := wordF_count (f := f) (k := 0) (i := i)
  rwa [Nat.zero_add] at this
theorem count_wordL {f : List Nat} : (List.range f.length).map (fun i => (wordL f).count i) = f := by
  refine List.ext_getElem (by simp) fun i h1 h2 => ?_
  simp only [List.getElem_map, List.getElem_range, wordL_count]
  rw [List.getD_eq_getElem?_getD, List.getElem?_eq_getElem h2, Option.getD_some]
end
end MP

/-! Q, part o: forms taken together; a letter put ahead. -/
namespace MP
open PySem L2
section
variable {r : Ru} {act : List Nat → Nat → List Nat}
theorem RunTo.inv (hv : Vd r) {α : Type} (Φ : List Nat → α) (hΦ : ∀ w w', Lt r w → StepW r w w' → Φ w = Φ w') {f t g : List Nat} (h : RunTo r f t g) (hf : Fm r f) (ht : Lt r t) : Φ (wordL f ++ t) = Φ (wordL g) := by
  induction h with
  | done f => rw [List.append_nil]
  | @step f t f1 t1 g a b ih =>
    have ok := a.ok hv hf ht
    rw [← ih ok.1 ok.2]
    rcases a.word hf ht with s | ⟨s, _⟩
    · exact hΦ _ _ (Lt.app.mpr ⟨hf.lt, ht⟩) s
    · rw [s]
theorem word_zs {n : Nat} : wordL (zs n) = [] := wordF_zero fun i hi => zs_get
/-- what a word comes to says all of it -/
theorem Mdl.inv (hv : Vd r) (m : Mdl r act) {α : Type} (Φ : List Nat → α) (hΦ : ∀ w w', Lt r w → StepW r w w' → Φ w = Φ w') {u : List Nat} (hu : Lt r u) : Φ u = Φ (wordL (acts act (zs r.sz.length) u)) := by
  have h := (m.run hv hv.zero hu).inv hv Φ hΦ hv.zero hu
  rwa [word_zs, List.nil_append] at h
theorem Mdl.come (hv : Vd r) (m : Mdl r act) {f u : List Nat} (hf : Fm r f) (hu : Lt r u) : acts act f (wordL (acts act (zs r.sz.length) u)) = acts act f u :=
  (m.inv hv (fun w => acts act f w) (fun w w' hl s => m.step s hf hl) hu).symm
def mulF (act : List Nat → Nat → List Nat) (a b : List Nat) : List Nat := acts act a (wordL b)
theorem Mdl.mul_fm (m : Mdl r act) {a b : List Nat} (ha : Fm r a) (hb : Fm r b) : Fm r (mulF act a b) := m.fm ha hb.lt
theorem Mdl.mul_acts (hv : Vd r) (m : Mdl r act) {a b u : List Nat} (ha : Fm r a) (hb : Fm r b) (hu : Lt r u) : mulF act a (acts act b u) = acts act (mulF act a b) u := by
  have e : acts act b u = acts act (zs r.sz.length) (wordL b ++ u) := by rw [acts_app, m.pl b hb]
  rw [mulF, e, m.come hv ha (Lt.app.mpr ⟨hb.lt, hu⟩), acts_app]
  rfl
theorem Mdl.mul_assoc (hv : Vd r) (m : Mdl r act) {a b c : List Nat} (ha : Fm r a) (hb : Fm r b) (hc : Fm r c) : mulF act (mulF act a b) c = mulF act a (mulF act b c) := (m.mul_acts hv ha hb hc.lt).symm
theorem mul_zs {a : List Nat} {n : Nat} : mulF act a (zs n) = a := by rw [mulF, word_zs]; rfl
theorem Mdl.zs_mul (m : Mdl r act) {a : List Nat} (ha : Fm r a) : mulF act (zs r.sz.length) a = a := m.pl a ha

/-! ### pairs of one letter more -/
theorem pairsL_succ {n : Nat} : pairsL (n + 1) = ((List.range n).map fun j => (0, j + 1)) ++ (pairsL n).map fun p => (p.1 + 1, p.2 + 1) := by
  unfold pairsL
  rw [List.range_succ_eq_map, List.flatMap_cons, List.flatMap_map, List.map_flatMap]
  congr 1
  · simp
    intro a _
    omega
  · rw [List.flatMap_def, List.flatMap_def]
    congr 1
    refine List.map_congr_left fun i _ => ?_
    rw [List.map_map]
    rw [show n + 1 - (i + 1 + 1) = n - (i + 1) by omega]
    refine List.map_congr_left fun j _ => ?_
    simp
    omega
theorem exF_at {r : Ru} (hl : r.ex.length = (pairsL r.sz.length).length) {k i j : Nat} {g : List Nat} (h1 : (pairsL r.sz.length)[k]? = some (i, j)) (h2 : r.ex[k]? = some g) : exF r i j = g := by
  obtain ⟨k2, b, g1, g2, g3⟩ := lookup_zip (l := pairsL r.sz.length) (m := r.ex) (a := (i, j)) hl.symm (List.mem_of_getElem? h1)
  have e := nodup_at (pairsL_nodup _) h1 g1
  subst e
  rw [h2] at g2
  cases g2
  simp [exF, g3]
/-- a letter of size s ahead: it turns letter j into img j, taken s times it is p -/
def aheadR (s : Nat) (r : Ru) (img : List (List Nat)) (p : List Nat) : Ru where
  sz := s :: r.sz
  pw := (0 :: p) :: r.pw.map (0 :: ·)
  ex := img.map (0 :: ·) ++ r.ex.map (0 :: ·)
theorem wordF_succ : ∀ {f : List Nat} {k : Nat}, wordF (k + 1) f = (wordF k f).map (· + 1)
  | [], _ => rfl
  | x :: f, k => by simp [wordF, wordF_succ (f := f)]
theorem wordL_zcons {f : List Nat} : wordL (0 :: f) = (wordL f).map (· + 1) := by
  show List.replicate 0 0 ++ wordF 1 f = _
  rw [wordF_succ]
  rfl
theorem wordL_cons {x : Nat} {f : List Nat} : wordL (x :: f) = List.replicate x 0 ++ (wordL f).map (· + 1) := by
  show List.replicate x 0 ++ wordF 1 f = _
  rw [wordF_succ]
  rfl
section
variable {s : Nat} {img : List (List Nat)} {p : List Nat}
theorem ahead_pw0 : pwF (aheadR s r img p) 0 = 0 :: p := rfl
theorem ahead_pwS {i : Nat} (hi : i < r.pw.length) : pwF (aheadR s r img p) (i + 1) = 0 :: pwF r i := by
  simp [pwF, aheadR, hi]
theorem ahead_ex0 (hi : img.length = r.sz.length) (he : r.ex.length = (pairsL r.sz.length).length) {j : Nat} (hj : j < r.sz.length) : exF (aheadR s r img p) 0 (j + 1) = 0 :: img.getD j [] := by
  refine exF_at (k := j) ?_ ?_ ?_
  · simp [aheadR, pairsL_succ, hi, he]
  · simp only [aheadR, List.length_cons]
    rw [pairsL_succ, List.getElem?_append_left (by simpa using hj)]
    simp [hj]
  · simp only [aheadR]
    rw [List.getElem?_append_left (by simpa [hi] using hj)]
    simp [hi, hj]
theorem ahead_exS (hi : img.length = r.sz.length) (he : r.ex.length = (pairsL r.sz.length).length) {i j : Nat} (hij : i < j) (hj : j < r.sz.length) : exF (aheadR s r img p) (i + 1) (j + 1) = 0 :: exF r i j := by
  obtain ⟨k, b, g1, g2, g3⟩ := lookup_zip (l := pairsL r.sz.length) (m := r.ex) (a := (i, j)) he.symm (pairsL_mem.mpr ⟨hij, hj⟩)
  have e := exF_at he g1 g2
  refine exF_at (k := r.sz.length + k) ?_ ?_ ?_
  · simp [aheadR, pairsL_succ, hi, he]
  · simp only [aheadR, List.length_cons]
    rw [pairsL_succ, List.getElem?_append_right (by simp)]
    simp [g1]
  · simp only [aheadR]
    rw [List.getElem?_append_right (by simp [hi])]
    simp [hi, g2, e]
end
/-! ### what the letter ahead does -/
def sub (img : List (List Nat)) (w : List Nat) : List Nat := w.flatMap fun j => wordL (img.getD j [])
def sig (r : Ru) (act : List Nat → Nat → List Nat) (img : List (List Nat)) (g : List Nat) : List Nat := acts act (zs r.sz.length) (sub img (wordL g))
theorem sub_app {img : List (List Nat)} {u v : List Nat} : sub img (u ++ v) = sub img u ++ sub img v := by simp [sub]
theorem sub_cons {img : List (List Nat)} {j : Nat} {v : List Nat} : sub img (j :: v) = wordL (img.getD j []) ++ sub img v := by simp [sub]
theorem sub_nil {img : List (List Nat)} : sub img [] = [] := rfl
def sigN (r : Ru) (act : List Nat → Nat → List Nat) (img : List (List Nat)) : Nat → List Nat → List Nat
  | 0, g => g
  | k + 1, g => sig r act img (sigN r act img k g)
/-- what must hold for the letter ahead -/
structure AhOk (s : Nat) (r : Ru) (act : List Nat → Nat → List Nat) (img : List (List Nat)) (p : List Nat) : Prop where
  il : img.length = r.sz.length
  im : ∀ j, j < r.sz.length → Fm r (img.getD j [])
  pf : Fm r p
  r1 : ∀ j, j < r.sz.length → acts act (zs r.sz.length) (sub img (List.replicate (r.sz.getD j 0) j)) = acts act (zs r.sz.length) (sub img (wordL (pwF r j)))
  r2 : ∀ i j, i < j → j < r.sz.length → acts act (zs r.sz.length) (sub img [j, i]) = acts act (zs r.sz.length) (sub img (i :: wordL (exF r i j)))
  h3 : sig r act img p = p
  h2 : ∀ j, j < r.sz.length → mulF act p (sigN r act img s (act (zs r.sz.length) j)) = acts act (act (zs r.sz.length) j) (wordL p)
section
variable {s : Nat} {img : List (List Nat)} {p : List Nat}
theorem AhOk.lt (A : AhOk s r act img p) {w : List Nat} (hw : Lt r w) : Lt r (sub img w) := fun x hx => by
  obtain ⟨j, hj, h⟩ := List.mem_flatMap.mp hx
  exact (A.im j (hw j hj)).lt x h
theorem AhOk.sub_step (hv : Vd r) (m : Mdl r act) (A : AhOk s r act img p) {w w' : List Nat} (hl : Lt r w) (h : StepW r w w') : acts act (zs r.sz.length) (sub img w) = acts act (zs r.sz.length) (sub img w') := by
  have mid : ∀ (u a b : List Nat), Lt r u → Lt r a → Lt r b → acts act (zs r.sz.length) (sub img a) = acts act (zs r.sz.length) (sub img b) → acts act (acts act (zs r.sz.length) (sub img u)) (sub img a) = acts act (acts act (zs r.sz.length) (sub img u)) (sub img b) := fun u a b hu ha hb e => by
    have hf := m.fm hv.zero (A.lt hu)
    rw [← m.come hv hf (A.lt ha), ← m.come hv hf (A.lt hb), e]
  cases h with
  | pw u v i hi =>
    rw [Lt.app, Lt.app] at hl
    simp only [sub_app, acts_app]
    rw [mid u _ _ hl.1.1 (Lt.rep hi) (hv.pwOk hi).lt (A.r1 i hi)]
  | ex u v i j hij hj =>
    rw [Lt.app, Lt.app] at hl
    simp only [sub_app, acts_app]
    rw [mid u _ _ hl.1.1 hl.1.2 (Lt.cons.mpr ⟨by omega, (hv.exOk hij hj).lt⟩) (A.r2 i j hij hj)]
theorem AhOk.sig_word (hv : Vd r) (m : Mdl r act) (A : AhOk s r act img p) {u : List Nat} (hu : Lt r u) : sig r act img (acts act (zs r.sz.length) u) = acts act (zs r.sz.length) (sub img u) :=
  (m.inv hv (fun w => acts act (zs r.sz.length) (sub img w)) (fun w w' hl s => A.sub_step hv m hl s) hu).symm
theorem AhOk.sig_fm (hv : Vd r) (m : Mdl r act) (A : AhOk s r act img p) {g : List Nat} (hg : Fm r g) : Fm r (sig r act img g) := m.fm hv.zero (A.lt hg.lt)
theorem AhOk.sigN_fm (hv : Vd r) (m : Mdl r act) (A : AhOk s r act img p) {g : List Nat} (hg : Fm r g) : ∀ {k}, Fm r (sigN r act img k g)
  | 0 => hg
  | k + 1 => A.sig_fm hv m (A.sigN_fm hv m hg)
theorem AhOk.sig_acts (hv : Vd r) (m : Mdl r act) (A : AhOk s r act img p) {g u : List Nat} (hg : Fm r g) (hu : Lt r u) : sig r act img (acts act g u) = acts act (sig r act img g) (sub img u) := by
  have e : acts act g u = acts act (zs r.sz.length) (wordL g ++ u) := by rw [acts_app, m.pl g hg]
  rw [e, A.sig_word hv m (Lt.app.mpr ⟨hg.lt, hu⟩), sub_app, acts_app]
  rfl
theorem AhOk.sig_mul (hv : Vd r) (m : Mdl r act) (A : AhOk s r act img p) {a b : List Nat} (ha : Fm r a) (hb : Fm r b) : sig r act img (mulF act a b) = mulF act (sig r act img a) (sig r act img b) := by
  rw [mulF, A.sig_acts hv m ha hb.lt]
  exact (m.come hv (A.sig_fm hv m ha) (A.lt hb.lt)).symm
theorem AhOk.sigN_mul (hv : Vd r) (m : Mdl r act) (A : AhOk s r act img p) {a b : List Nat} (ha : Fm r a) (hb : Fm r b) : ∀ {k}, sigN r act img k (mulF act a b) = mulF act (sigN r act img k a) (sigN r act img k b)
  | 0 => rfl
  | k + 1 => by
    simp only [sigN]
    rw [A.sigN_mul hv m ha hb, A.sig_mul hv m (A.sigN_fm hv m ha) (A.sigN_fm hv m hb)]
theorem AhOk.sigN_p (hv : Vd r) (m : Mdl r act) (A : AhOk s r act img p) {h : List Nat} (hh : Fm r h) : ∀ {k}, sigN r act img k (mulF act p h) = mulF act p (sigN r act img k h)
  | 0 => rfl
  | k + 1 => by
    simp only [sigN]
    rw [A.sigN_p hv m hh, A.sig_mul hv m A.pf (A.sigN_fm hv m hh), A.h3]
theorem sigN_add {g : List Nat} {a : Nat} : ∀ {b}, sigN r act img (b + a) g = sigN r act img b (sigN r act img a g)
  | 0 => by rw [Nat.zero_add]; rfl
  | b + 1 => by
    rw [Nat.add_right_comm]
    simp only [sigN]
    rw [sigN_add]
theorem act_mul {g : List Nat} {j : Nat} (hv : Vd r) (m : Mdl r act) (hg : Fm r g) (hj : j < r.sz.length) : act g j = mulF act g (act (zs r.sz.length) j) := by
  have := m.come hv hg (u := [j]) (Lt.cons.mpr ⟨hj, Lt.nil⟩)
  exact this.symm
theorem sig_zs : sig r act img (zs r.sz.length) = zs r.sz.length := by
  unfold sig
  rw [word_zs]
  rfl
theorem sigN_zs : ∀ {k}, sigN r act img k (zs r.sz.length) = zs r.sz.length
  | 0 => rfl
  | k + 1 => by simp only [sigN]; rw [sigN_zs, sig_zs]
theorem AhOk.turn (hv : Vd r) (m : Mdl r act) (A : AhOk s r act img p) : ∀ {u : List Nat}, Lt r u → mulF act p (sigN r act img s (acts act (zs r.sz.length) u)) = mulF act (acts act (zs r.sz.length) u) p := by
  intro u
  induction hk : u.length generalizing u with
  | zero =>
    intro _
    rw [List.length_eq_zero_iff.mp hk]
    show mulF act p (sigN r act img s (zs r.sz.length)) = mulF act (zs r.sz.length) p
    rw [sigN_zs, mul_zs, m.zs_mul A.pf]
  | succ k ih =>
    intro hu
    obtain ⟨v, j, rfl⟩ : ∃ v j, u = v ++ [j] := by
      rcases List.eq_nil_or_concat u with e | ⟨v, h, e⟩
      · rw [e] at hk
        cases hk
      · exact ⟨v, h, by simpa using e⟩
    rw [Lt.app] at hu
    have ih := ih (u := v) (by simpa using hk) hu.1
    have hj : j < r.sz.length := hu.2 j List.mem_cons_self
    have fz := hv.zero
    have fe : Fm r (act (zs r.sz.length) j) := m.cl _ j fz hj
    have fv := m.fm fz hu.1
    obtain ⟨g, hg⟩ : ∃ g, g = acts act (zs r.sz.length) v := ⟨_, rfl⟩
    obtain ⟨e, he⟩ : ∃ e, e = act (zs r.sz.length) j := ⟨_, rfl⟩
    rw [acts_app]
    show mulF act p (sigN r act img s (act (acts act (zs r.sz.length) v) j)) = mulF act (act (acts act (zs r.sz.length) v) j) p
    rw [← hg] at ih fv ⊢
    rw [act_mul hv m fv hj]
    have h2 := A.h2 j hj
    rw [← he] at h2 fe ⊢
    have f1 := A.sigN_fm hv m fv (k := s)
    have f2 := A.sigN_fm hv m fe (k := s)
    rw [A.sigN_mul hv m fv fe, ← m.mul_assoc hv A.pf f1 f2, ih, m.mul_assoc hv fv A.pf f2, h2]
    rw [m.mul_assoc hv fv fe A.pf]
    rfl
theorem AhOk.turn2 (hv : Vd r) (m : Mdl r act) (A : AhOk s r act img p) {g : List Nat} (hg : Fm r g) : mulF act p (sigN r act img s g) = mulF act g p := by
  have := A.turn hv m hg.lt
  rwa [m.pl g hg] at this
/-- the forms with the letter ahead -/
def actA (s : Nat) (r : Ru) (act : List Nat → Nat → List Nat) (img : List (List Nat)) (p : List Nat) : List Nat → Nat → List Nat
  | [], _ => []
  | x :: g, 0 => if x + 1 = s then 0 :: mulF act p (sig r act img g) else (x + 1) :: sig r act img g
  | x :: g, i + 1 => x :: act g i
theorem actA_map {x : Nat} : ∀ {w g : List Nat}, acts (actA s r act img p) (x :: g) (w.map (· + 1)) = x :: acts act g w
  | [], g => rfl
  | i :: w, g => by
    simp only [List.map_cons, acts_cons, actA]
    exact actA_map
theorem actA_rep {x : Nat} : ∀ {k : Nat} {g : List Nat}, x + k < s → acts (actA s r act img p) (x :: g) (List.replicate k 0) = (x + k) :: sigN r act img k g
  | 0, g, _ => rfl
  | k + 1, g, h => by
    rw [List.replicate_succ', acts_app, actA_rep (by omega)]
    simp only [acts_cons, acts_nil, actA]
    rw [if_neg (by omega)]
    rfl
theorem fm_cons {s x : Nat} {sz g : List Nat} : FmOk (s :: sz) 0 (x :: g) ↔ x < s ∧ FmOk sz 0 g := by
  constructor
  · rintro ⟨h1, h2⟩
    refine ⟨by simpa using (h2 0 (by simp)).1, by simpa using h1, fun i hi => ⟨?_, fun h => by omega⟩⟩
    have := (h2 (i + 1) (by simpa using hi)).1
    simpa using this
  · rintro ⟨h1, h2, h3⟩
    refine ⟨by simpa using h2, fun i hi => ⟨?_, fun h => by omega⟩⟩
    cases i with
    | zero => simpa using h1
    | succ i =>
      have := (h3 i (by simpa using hi)).1
      simpa using this
theorem fm_shape {s : Nat} {sz f : List Nat} (h : FmOk (s :: sz) 0 f) : ∃ x g, f = x :: g ∧ x < s ∧ FmOk sz 0 g := by
  cases f with
  | nil =>
    have := h.1
    simp at this
  | cons x g => exact ⟨x, g, rfl, fm_cons.mp h⟩
theorem ahead_mdl (hv : Vd r) (m : Mdl r act) (A : AhOk s r act img p) (hs : 2 ≤ s) : Mdl (aheadR s r img p) (actA s r act img p) := by
  have hpl : r.pw.length = r.sz.length := hv.pl
  have hel : r.ex.length = (pairsL r.sz.length).length := hv.el
  have zc : zs (aheadR s r img p).sz.length = 0 :: zs r.sz.length := rfl
  refine ⟨fun f i hf hi => ?_, fun f i hf hi => ?_, fun f i j hf hij hj => ?_, fun f hf => ?_⟩
  · obtain ⟨x, g, rfl, hx, hg⟩ := fm_shape hf
    cases i with
    | zero =>
      simp only [actA]
      split
      · exact fm_cons.mpr ⟨by omega, m.mul_fm A.pf (A.sig_fm hv m hg)⟩
      · exact fm_cons.mpr ⟨by omega, A.sig_fm hv m hg⟩
    | succ i => exact fm_cons.mpr ⟨hx, m.cl g i hg (by simpa [aheadR] using hi)⟩
  · obtain ⟨x, g, rfl, hx, hg⟩ := fm_shape hf
    cases i with
    | zero =>
      rw [ahead_pw0, wordL_zcons, actA_map]
      show acts (actA s r act img p) (x :: g) (List.replicate s 0) = _
      obtain ⟨k, hk⟩ : ∃ k, s = (k + 1) + x := ⟨s - 1 - x, by omega⟩
      have e1 : List.replicate s 0 = List.replicate k 0 ++ [0] ++ List.replicate x 0 := by
        rw [hk, ← List.replicate_append_replicate, List.replicate_succ']
      rw [e1, acts_app, acts_app, actA_rep (by omega)]
      simp only [acts_cons, acts_nil, actA]
      rw [if_pos (by omega), actA_rep (by omega), Nat.zero_add]
      have f1 := A.sigN_fm hv m hg (k := k)
      have f2 := A.sig_fm hv m f1
      rw [A.sigN_p hv m f2]
      have e2 : sigN r act img x (sig r act img (sigN r act img k g)) = sigN r act img s g := by
        rw [hk, Nat.add_comm (k + 1) x, sigN_add]
        rfl
      rw [e2, A.turn2 hv m hg]
      rfl
    | succ i =>
      have hi2 : i < r.sz.length := by simpa [aheadR] using hi
      rw [ahead_pwS (by omega), wordL_zcons, actA_map]
      have e1 : List.replicate ((aheadR s r img p).sz.getD (i + 1) 0) (i + 1) = (List.replicate (r.sz.getD i 0) i).map (· + 1) := by
        simp [aheadR]
      rw [e1, actA_map, m.pw g i hg hi2]
  · obtain ⟨x, g, rfl, hx, hg⟩ := fm_shape hf
    cases j with
    | zero => omega
    | succ j =>
      have hj2 : j < r.sz.length := by simpa [aheadR] using hj
      cases i with
      | zero =>
        rw [ahead_ex0 A.il hel hj2, wordL_zcons]
        have f1 := A.sig_fm hv m hg
        have f3 := A.im j hj2
        have h1 : sig r act img (act g j) = acts act (sig r act img g) (wordL (img.getD j [])) := by
          have := A.sig_acts hv m hg (u := [j]) (Lt.cons.mpr ⟨hj2, Lt.nil⟩)
          rw [sub_cons, sub_nil, List.append_nil] at this
          exact this
        simp only [acts_cons, acts_nil, actA]
        split
        · rw [actA_map, h1, m.mul_acts hv A.pf f1 f3.lt]
        · rw [actA_map, h1]
      | succ i =>
        rw [ahead_exS A.il hel (by omega) hj2, wordL_zcons]
        have e1 : (i + 1) :: (wordL (exF r i j)).map (· + 1) = (i :: wordL (exF r i j)).map (· + 1) := rfl
        have e2 : [j + 1, i + 1] = [j, i].map (· + 1) := rfl
        rw [e1, e2, actA_map, actA_map, m.ex g i j hg (by omega) hj2]
  · obtain ⟨x, g, rfl, hx, hg⟩ := fm_shape hf
    rw [wordL_cons, acts_app, zc, actA_rep (by omega), Nat.zero_add, sigN_zs, actA_map, m.pl g hg]
end
end
end MP

/-! Q, part p: the rules that are drawn hold of all forms. -/
namespace MP
open PySem L2
/-! ### a clock -/
abbrev clk (w : Nat) : Ru := ⟨[w], [[0]], []⟩
def actC (w : Nat) (f : List Nat) (i : Nat) : List Nat := [(f.getD 0 0 + 1) % w]
theorem fm_one {w : Nat} {f : List Nat} : FmOk [w] 0 f ↔ ∃ x, f = [x] ∧ x < w := by
  constructor
  · intro h
    obtain ⟨x, g, rfl, hx, hg⟩ := fm_shape h
    have : g = [] := List.length_eq_zero_iff.mp hg.1
    subst this
    exact ⟨x, rfl, hx⟩
  · rintro ⟨x, rfl, hx⟩
    exact fm_cons.mpr ⟨hx, ⟨rfl, fun i hi => by simp at hi⟩⟩
theorem actsC_rep {w x i : Nat} (hx : x < w) : ∀ {k : Nat}, acts (actC w) [x] (List.replicate k i) = [(x + k) % w]
  | 0 => by simp [Nat.mod_eq_of_lt hx]
  | k + 1 => by
    rw [List.replicate_succ', acts_app, actsC_rep hx]
    simp [actC, Nat.add_assoc]
theorem wordL_one {x : Nat} : wordL [x] = List.replicate x 0 := by
  rw [wordL_cons]
  simp [wordL, wordF]
theorem clk_mdl {w : Nat} (hw : 2 ≤ w) : Mdl (clk w) (actC w) := by
  refine ⟨fun f i hf hi => ?_, fun f i hf hi => ?_, fun f i j hf hij hj => ?_, fun f hf => ?_⟩
  · exact fm_one.mpr ⟨_, rfl, Nat.mod_lt _ (by omega)⟩
  · obtain ⟨x, rfl, hx⟩ := fm_one.mp hf
    have hi : i = 0 := by simpa using hi
    subst hi
    show acts (actC w) [x] (List.replicate w 0) = acts (actC w) [x] (wordL [0])
    rw [actsC_rep hx, wordL_one, Nat.add_mod_right, Nat.mod_eq_of_lt hx]
    rfl
  · simp at hj
    omega
  · obtain ⟨x, rfl, hx⟩ := fm_one.mp hf
    show acts (actC w) [0] (wordL [x]) = [x]
    rw [wordL_one, actsC_rep (by omega), Nat.zero_add, Nat.mod_eq_of_lt hx]
/-! ### a letter that turns a clock -/
theorem sub_rep {b k : Nat} : sub [[b]] (List.replicate k 0) = List.replicate (b * k) 0 := by
  induction k with
  | zero => rfl
  | succ k ih =>
    rw [List.replicate_succ, sub_cons, ih]
    show wordL [b] ++ _ = _
    rw [wordL_one, List.replicate_append_replicate]
    congr 1
    rw [Nat.mul_succ]
    omega
theorem sig_clk {w b x : Nat} (hw : 2 ≤ w) : sig (clk w) (actC w) [[b]] [x] = [x * b % w] := by
  show acts (actC w) [0] (sub [[b]] (wordL [x])) = _
  rw [wordL_one, sub_rep, actsC_rep (by omega), Nat.zero_add, Nat.mul_comm]
theorem sigN_clk {w b x : Nat} (hw : 2 ≤ w) (hx : x < w) : ∀ {k}, sigN (clk w) (actC w) [[b]] k [x] = [x * b ^ k % w]
  | 0 => by simp [sigN, Nat.mod_eq_of_lt hx]
  | k + 1 => by
    simp only [sigN]
    rw [sigN_clk hw hx, sig_clk hw, Nat.mod_mul_mod, Nat.mul_assoc, ← Nat.pow_succ]
theorem turn_ok {s w b p : Nat} (hw : 2 ≤ w) (hb : b < w) (hp : p < w) (h1 : b ^ s % w = 1) (h3 : p * b % w = p) : AhOk s (clk w) (actC w) [[b]] [p] := by
  refine ⟨rfl, fun j hj => ?_, fm_one.mpr ⟨p, rfl, hp⟩, fun j hj => ?_, fun i j hij hj => ?_, ?_, fun j hj => ?_⟩
  · have hj : j = 0 := by simpa using hj
    subst hj
    exact fm_one.mpr ⟨b, rfl, hb⟩
  · have hj : j = 0 := by simpa using hj
    subst hj
    show acts (actC w) [0] (sub [[b]] (List.replicate w 0)) = acts (actC w) [0] (sub [[b]] (wordL [0]))
    rw [sub_rep, actsC_rep (by omega), wordL_one, sub_rep, actsC_rep (by omega)]
    simp
  · simp at hj
    omega
  · rw [sig_clk hw, h3]
  · have hj : j = 0 := by simpa using hj
    subst hj
    show mulF (actC w) [p] (sigN (clk w) (actC w) [[b]] s [(0 + 1) % w]) = acts (actC w) [(0 + 1) % w] (wordL [p])
    have e : (0 + 1) % w = 1 := Nat.mod_eq_of_lt (by omega)
    rw [e, sigN_clk hw (by omega), Nat.one_mul, h1, mulF, wordL_one, wordL_one, actsC_rep hp, actsC_rep (by omega), Nat.add_comm]
/-! ### letters that go with one another -/
theorem wordL_alone {n j o : Nat} (hj : j < n) : wordL (aloneL n j o) = List.replicate o j := by
  have e : aloneL n j o = (zs n).set j o := by
    refine List.ext_getElem (by simp [zs]) fun i h1 h2 => ?_
    simp only [aloneL, List.getElem_map, List.getElem_range, List.getElem_set, zs, List.getElem_replicate]
    by_cases h : j = i
    · simp [h]
    · rw [if_neg h, if_neg (fun e => h e.symm)]
  have h := wordF_set (f := zs n) (k := 0) (h := j) o (by simpa [zs] using hj) (fun i h1 h2 => zs_get)
  have z : (zs n).set j 0 = zs n := by
    have := set_self (f := zs n) (h := j)
    rwa [zs_get] at this
  show wordF 0 _ = _
  rw [e, h, z]
  have : wordF 0 (zs n) = [] := word_zs
  rw [this]
  simp
theorem swap_act {r : Ru} {act : List Nat → Nat → List Nat} (m : Mdl r act) (hx : ∀ i j, i < j → j < r.sz.length → exF r i j = aloneL r.sz.length j 1) {f : List Nat} {i j : Nat} (hf : Fm r f) (hi : i < r.sz.length) (hj : j < r.sz.length) : act (act f i) j = act (act f j) i := by
  have key : ∀ i j, i < j → j < r.sz.length → act (act f j) i = act (act f i) j := fun i j hij hj => by
    have := m.ex f i j hf hij hj
    rw [hx i j hij hj, wordL_alone hj] at this
    exact this
  rcases Nat.lt_trichotomy i j with h | h | h
  · exact (key i j h hj).symm
  · rw [h]
  · exact key j i h hi
theorem swap_acts {r : Ru} {act : List Nat → Nat → List Nat} (m : Mdl r act) (hx : ∀ i j, i < j → j < r.sz.length → exF r i j = aloneL r.sz.length j 1) {j : Nat} (hj : j < r.sz.length) : ∀ {w f : List Nat}, Fm r f → Lt r w → acts act (act f j) w = act (acts act f w) j
  | [], f, _, _ => rfl
  | i :: w, f, hf, hw => by
    rw [Lt.cons] at hw
    simp only [acts_cons]
    rw [swap_act m hx hf hj hw.1, swap_acts m hx hj (w := w) (f := act f i) (m.cl f i hf hw.1) hw.2]
theorem fm_tail {s a : Nat} {sz f : List Nat} (h : FmOk (s :: sz) (a + 1) f) : f = 0 :: f.tail ∧ FmOk sz a f.tail := by
  cases f with
  | nil =>
    have := h.1
    simp at this
  | cons x g =>
    have h0 := (h.2 0 (by simp)).2 (by omega)
    simp only [List.getD_cons_zero] at h0
    subst h0
    refine ⟨rfl, by simpa using h.1, fun i hi => ?_⟩
    have := h.2 (i + 1) (by simpa using hi)
    simp only [List.getD_cons_succ] at this
    exact ⟨this.1, fun e => this.2 (by omega)⟩
theorem alone_succ {n j : Nat} : aloneL (n + 1) (j + 1) 1 = 0 :: aloneL n j 1 := by
  simp [aloneL, List.range_succ_eq_map]
theorem plainEx_succ {n : Nat} : plainEx (n + 1) = ((List.range n).map fun j => aloneL n j 1).map (0 :: ·) ++ (plainEx n).map (0 :: ·) := by
  simp only [plainEx, pairsL_succ, List.map_append, List.map_map]
  congr 1
  · refine List.map_congr_left fun j _ => ?_
    simp [alone_succ]
  · refine List.map_congr_left fun p _ => ?_
    simp [alone_succ]
theorem plain_exF {sz : List Nat} {pw : List (List Nat)} {i j : Nat} (hij : i < j) (hj : j < sz.length) : exF ⟨sz, pw, plainEx sz.length⟩ i j = aloneL sz.length j 1 := by
  obtain ⟨k, hk, e⟩ := List.getElem_of_mem ((pairsL_mem (k := sz.length) (p := (i, j))).mpr ⟨hij, hj⟩)
  have hk1 : (pairsL sz.length)[k]? = some (i, j) := by rw [List.getElem?_eq_getElem hk, e]
  exact exF_at (r := ⟨sz, pw, plainEx sz.length⟩) (by simp [plainEx]) (k := k) hk1 (by
    show (plainEx sz.length)[k]? = _
    rw [plainEx, List.getElem?_map, hk1]
    rfl)
theorem plain_ahead {s : Nat} {sz : List Nat} {pw : List (List Nat)} (hv : Vd ⟨s :: sz, pw, plainEx (sz.length + 1)⟩) (hne : sz ≠ []) :
    ∃ (q : List (List Nat)) (p : List Nat), (⟨s :: sz, pw, plainEx (sz.length + 1)⟩ : Ru) = aheadR s ⟨sz, q, plainEx sz.length⟩ ((List.range sz.length).map fun j => aloneL sz.length j 1) p ∧ Vd ⟨sz, q, plainEx sz.length⟩ ∧ FmOk sz 0 p := by
  have hl : pw.length = sz.length + 1 := hv.pl
  obtain ⟨f0, pw', rfl⟩ : ∃ f0 pw', pw = f0 :: pw' := by
    cases pw with
    | nil => simp at hl
    | cons a b => exact ⟨a, b, rfl⟩
  obtain ⟨e0, h0⟩ := fm_tail (hv.pw 0 f0 rfl)
  have hk : ∀ k f, pw'[k]? = some f → f = 0 :: f.tail ∧ FmOk sz (k + 1) f.tail := fun k f hf => fm_tail (hv.pw (k + 1) f (by simpa using hf))
  refine ⟨pw'.map List.tail, f0.tail, ?_, ?_, h0⟩
  · unfold aheadR
    rw [plainEx_succ]
    congr 1
    rw [← e0]
    congr 1
    rw [List.map_map]
    refine (List.ext_getElem (by simp) fun i h1 h2 => ?_)
    have := (hk i pw'[i] (List.getElem?_eq_getElem h1)).1
    simp only [List.getElem_map, Function.comp]
    exact this
  · have hz := hv.sz
    refine ⟨⟨fun x hx => hz.ge x (List.mem_cons_of_mem _ hx), fun x hx => hz.lt x (List.mem_cons_of_mem _ hx), hne, by
      have := hz.len
      simp only [List.length_cons] at this
      show sz.length ≤ 5
      omega⟩, ?_, by simpa using hl, by simp [plainEx], fun k f hf => ?_, fun k f p hf hp => ?_⟩
    · have h1 := hv.pr
      have h2 := hz.ge s List.mem_cons_self
      simp only [prodN_cons] at h1
      show prodN sz ≤ 64
      have : 1 * prodN sz ≤ s * prodN sz := Nat.mul_le_mul_right _ (by omega)
      omega
    · have hf2 : (pw'.map List.tail)[k]? = some f := hf
      rw [List.getElem?_map] at hf2
      obtain ⟨g, hg, rfl⟩ := Option.map_eq_some_iff.mp hf2
      exact (hk k g hg).2
    · have hf2 : (plainEx sz.length)[k]? = some f := hf
      have hp2 : (pairsL sz.length)[k]? = some p := hp
      rw [plainEx, List.getElem?_map, hp2] at hf2
      cases hf2
      have hm := pairsL_mem.mp (List.mem_of_getElem? hp2)
      have hz2 : ∀ i, i < sz.length → 2 ≤ sz.getD i 0 := fun i hi => by
        have := hz.pos (i := i + 1) (by simpa using hi)
        simpa using this
      exact fm_alone (sz := sz) (fun i hi => by have := hz2 i hi; omega) (by omega) (by have := hz2 p.2 hm.2; omega)
theorem sub_id {r : Ru} {w : List Nat} (hw : Lt r w) : sub ((List.range r.sz.length).map fun j => aloneL r.sz.length j 1) w = w := by
  induction w with
  | nil => rfl
  | cons j w ih =>
    rw [Lt.cons] at hw
    rw [sub_cons, ih hw.2]
    have : ((List.range r.sz.length).map fun j => aloneL r.sz.length j 1).getD j [] = aloneL r.sz.length j 1 := by simp [hw.1]
    rw [this, wordL_alone hw.1]
    rfl
theorem plain_mdl : ∀ {sz : List Nat} {pw : List (List Nat)}, Vd ⟨sz, pw, plainEx sz.length⟩ → ∃ act, Mdl ⟨sz, pw, plainEx sz.length⟩ act
  | [], pw, hv => absurd rfl hv.sz.ne
  | [w], pw, hv => by
    have hl : pw.length = 1 := hv.pl
    obtain ⟨f, rfl⟩ := List.length_eq_one_iff.mp hl
    obtain ⟨e, h⟩ := fm_tail (hv.pw 0 f rfl)
    have : f.tail = [] := List.length_eq_zero_iff.mp h.1
    rw [this] at e
    subst e
    exact ⟨actC w, clk_mdl (by have := hv.sz.ge w List.mem_cons_self; omega)⟩
  | s :: s2 :: sz, pw, hv => by
    obtain ⟨q, p, e, hv2, hp⟩ := plain_ahead (s := s) (sz := s2 :: sz) hv (by simp)
    obtain ⟨act, m⟩ := plain_mdl (sz := s2 :: sz) hv2
    have hs := hv.sz.ge s List.mem_cons_self
    show ∃ act, Mdl ⟨s :: s2 :: sz, pw, plainEx ((s2 :: sz).length + 1)⟩ act
    rw [e]
    obtain ⟨r, hr⟩ : ∃ r, r = (⟨s2 :: sz, q, plainEx (s2 :: sz).length⟩ : Ru) := ⟨_, rfl⟩
    have hsz : r.sz = s2 :: sz := by rw [hr]
    have hx : ∀ i j, i < j → j < r.sz.length → exF r i j = aloneL r.sz.length j 1 := fun i j h1 h2 => by
      rw [hr] at h2 ⊢
      exact plain_exF h1 h2
    rw [← hsz] at hp
    rw [show (s2 :: sz).length = r.sz.length by rw [hsz]]
    rw [show (⟨s2 :: sz, q, plainEx r.sz.length⟩ : Ru) = r by rw [hr]]
    rw [← hr] at m hv2
    refine ⟨_, ahead_mdl hv2 m ⟨by simp, fun j hj => ?_, hp, fun j hj => ?_, fun i j hij hj => ?_, ?_, fun j hj => ?_⟩ hs⟩
    · have z : ((List.range r.sz.length).map fun j => aloneL r.sz.length j 1).getD j [] = aloneL r.sz.length j 1 := by simp [hj]
      rw [z]
      exact fm_alone (fun i hi => by have := hv2.sz.pos hi; omega) (Nat.zero_le _) (by have := hv2.sz.pos hj; omega)
    · rw [sub_id (Lt.rep hj), sub_id (hv2.pwOk hj).lt]
      exact m.pw _ j hv2.zero hj
    · rw [sub_id (Lt.cons.mpr ⟨hj, Lt.cons.mpr ⟨by omega, Lt.nil⟩⟩), sub_id (Lt.cons.mpr ⟨by omega, (hv2.exOk hij hj).lt⟩)]
      exact m.ex _ i j hv2.zero hij hj
    · unfold sig
      rw [sub_id (FmOk.lt hp)]
      exact m.pl p hp
    · have si : ∀ g, Fm r g → sig r act ((List.range r.sz.length).map fun j => aloneL r.sz.length j 1) g = g := fun g hg => by
        unfold sig
        rw [sub_id hg.lt]
        exact m.pl g hg
      have fe := m.cl _ j hv2.zero hj
      have sn : ∀ k, sigN r act ((List.range r.sz.length).map fun j => aloneL r.sz.length j 1) k (act (zs r.sz.length) j) = act (zs r.sz.length) j := fun k => by
        induction k with
        | zero => rfl
        | succ k ih =>
          simp only [sigN]
          rw [ih, si _ fe]
      rw [sn, ← act_mul hv2 m hp hj, swap_acts m hx hj hv2.zero (FmOk.lt hp), m.pl p hp]
/-! ### two letters whose meet is a third one -/
abbrev M2 (s b : Nat) := actA s (clk s) (actC s) [[1]] [b]
def MeetOk (s a b c : Nat) : Prop := (∀ j, j < 2 → acts (M2 s b) (zs 2) (sub [[1, c], [0, 1]] (List.replicate ([s, s].getD j 0) j)) = acts (M2 s b) (zs 2) (sub [[1, c], [0, 1]] (wordL (pwF (aheadR s (clk s) [[1]] [b]) j)))) ∧
        acts (M2 s b) (zs 2) (sub [[1, c], [0, 1]] [1, 0]) = acts (M2 s b) (zs 2) (sub [[1, c], [0, 1]] (0 :: wordL (exF (aheadR s (clk s) [[1]] [b]) 0 1))) ∧
        sig (aheadR s (clk s) [[1]] [b]) (M2 s b) [[1, c], [0, 1]] [0, a] = [0, a] ∧
        ∀ j, j < 2 → mulF (M2 s b) [0, a] (sigN (aheadR s (clk s) [[1]] [b]) (M2 s b) [[1, c], [0, 1]] s (M2 s b (zs 2) j)) = acts (M2 s b) (M2 s b (zs 2) j) (wordL [0, a])
instance {s a b c : Nat} : Decidable (MeetOk s a b c) := by unfold MeetOk; infer_instance
theorem meet2 : ∀ a, a < 2 → ∀ b, b < 2 → MeetOk 2 a b 1 := by decide
theorem meet3 : ∀ a, a < 3 → ∀ b, b < 3 → ∀ c, c < 3 → 1 ≤ c → MeetOk 3 a b c := by decide
theorem meet_mdl {s a b c : Nat} (h : s = 2 ∨ s = 3) (ha : a < s) (hb : b < s) (hc1 : 1 ≤ c) (hc : c < s) : ∃ act, Mdl ⟨[s, s, s], [[0, 0, a], [0, 0, b], [0, 0, 0]], [[0, 1, c], [0, 0, 1], [0, 0, 1]]⟩ act := by
  have m1 : Mdl (aheadR s (clk s) [[1]] [b]) (actA s (clk s) (actC s) [[1]] [b]) := ahead_mdl (vd_one (by omega) (by omega)) (clk_mdl (by omega)) (turn_ok (by omega) (by omega) hb (by rw [Nat.one_pow]; exact Nat.mod_eq_of_lt (by omega)) (by rw [Nat.mul_one]; exact Nat.mod_eq_of_lt hb)) (by omega)
  have hv1 : Vd (aheadR s (clk s) [[1]] [b]) := by
    have d : Drawn ⟨[s, s], [[0, b], [0, 0]], plainEx 2⟩ := .plain [s, s] [[0, b], [0, 0]] ⟨by simp; omega, by simp; omega, by simp, by simp⟩ rfl fun i f hf => by
      match i, hf with
      | 0, hf =>
        cases hf
        exact .inr ⟨1, b, by omega, by simp, by simpa using hb, rfl⟩
      | 1, hf =>
        cases hf
        exact .inl rfl
    exact d.vd (by
      show prodN [s, s] ≤ 64
      rcases h with rfl | rfl <;> decide)
  have A : AhOk s (aheadR s (clk s) [[1]] [b]) (actA s (clk s) (actC s) [[1]] [b]) [[1, c], [0, 1]] [0, a] := by
    have i1 : Fm (aheadR s (clk s) [[1]] [b]) [1, c] := fm_cons.mpr ⟨by omega, fm_one.mpr ⟨c, rfl, hc⟩⟩
    have i2 : Fm (aheadR s (clk s) [[1]] [b]) [0, 1] := fm_cons.mpr ⟨by omega, fm_one.mpr ⟨1, rfl, by omega⟩⟩
    have i3 : Fm (aheadR s (clk s) [[1]] [b]) [0, a] := fm_cons.mpr ⟨by omega, fm_one.mpr ⟨a, rfl, ha⟩⟩
    have key : (∀ j, j < 2 → acts (M2 s b) (zs 2) (sub [[1, c], [0, 1]] (List.replicate ([s, s].getD j 0) j)) = acts (M2 s b) (zs 2) (sub [[1, c], [0, 1]] (wordL (pwF (aheadR s (clk s) [[1]] [b]) j)))) ∧
        acts (M2 s b) (zs 2) (sub [[1, c], [0, 1]] [1, 0]) = acts (M2 s b) (zs 2) (sub [[1, c], [0, 1]] (0 :: wordL (exF (aheadR s (clk s) [[1]] [b]) 0 1))) ∧
        sig (aheadR s (clk s) [[1]] [b]) (M2 s b) [[1, c], [0, 1]] [0, a] = [0, a] ∧
        ∀ j, j < 2 → mulF (M2 s b) [0, a] (sigN (aheadR s (clk s) [[1]] [b]) (M2 s b) [[1, c], [0, 1]] s (M2 s b (zs 2) j)) = acts (M2 s b) (M2 s b (zs 2) j) (wordL [0, a]) := by
      rcases h with rfl | rfl
      · have : c = 1 := by omega
        subst this
        have k2 := meet2
        exact k2 a ha b hb
      · have k3 := meet3
        exact k3 a ha b hb c hc hc1
    obtain ⟨k1, k2, k3, k4⟩ := key
    refine ⟨rfl, fun j hj => ?_, i3, k1, fun i j hij hj => ?_, k3, k4⟩
    · match j, hj with
      | 0, _ => exact i1
      | 1, _ => exact i2
    · have hj2 : j < 2 := hj
      have e0 : i = 0 := by omega
      have e1 : j = 1 := by omega
      subst e0 e1
      exact k2
  exact ⟨_, ahead_mdl hv1 m1 A (by omega)⟩
end MP

/-! Q, part r: side by side; all drawn rules hold of all forms. -/
namespace MP
open PySem L2
section
variable {r q : Ru} {a b : List Nat → Nat → List Nat}
theorem lookup_shift {n : Nat} : ∀ {l : List (Nat × Nat)} {m : List (List Nat)} {i j : Nat}, ((l.map (shiftP n)).zip m).lookup (i + n, j + n) = (l.zip m).lookup (i, j)
  | [], _, _, _ => rfl
  | _ :: _, [], _, _ => rfl
  | p :: l, x :: m, i, j => by
    simp only [List.map_cons, List.zip_cons_cons, List.lookup_cons]
    have : ((i + n, j + n) == shiftP n p) = ((i, j) == p) := by
      rw [Bool.eq_iff_iff, beq_iff_eq, beq_iff_eq]
      constructor
      · intro h
        simp only [shiftP, Prod.mk.injEq] at h
        exact Prod.ext (by simp; omega) (by simp; omega)
      · rintro rfl
        rfl
    rw [this, lookup_shift]
theorem beside_sz : (besideR r q).sz.length = r.sz.length + q.sz.length := by simp [besideR]
theorem exF_beside {i j : Nat} (hij : i < j) (hj : j < r.sz.length + q.sz.length) : exF (besideR r q) i j = ((knownL r q).lookup (i, j)).getD (aloneL (r.sz.length + q.sz.length) j 1) := by
  obtain ⟨k, hk, e⟩ := List.getElem_of_mem ((pairsL_mem (k := r.sz.length + q.sz.length) (p := (i, j))).mpr ⟨hij, hj⟩)
  have hk1 : (pairsL (r.sz.length + q.sz.length))[k]? = some (i, j) := by rw [List.getElem?_eq_getElem hk, e]
  refine exF_at (k := k) (by rw [beside_sz]; simp [besideR]) (by rw [beside_sz]; exact hk1) ?_
  simp only [besideR]
  rw [List.getElem?_map, hk1]
  rfl
theorem look1 (hv : Vd r) {i j : Nat} (hij : i < j) (hj : j < r.sz.length) : (knownL r q).lookup (i, j) = some (exF r i j ++ zs q.sz.length) := by
  obtain ⟨k, c, g1, g2, g3⟩ := lookup_zip (l := pairsL r.sz.length) (m := r.ex.map (· ++ zs q.sz.length)) (a := (i, j)) (by rw [List.length_map]; exact hv.el.symm) (pairsL_mem.mpr ⟨hij, hj⟩)
  rw [List.getElem?_map] at g2
  obtain ⟨x, hx, rfl⟩ := Option.map_eq_some_iff.mp g2
  rw [exF_at hv.el g1 hx]
  unfold knownL
  rw [List.lookup_append, g3]
  rfl
theorem look2 (hv : Vd q) {i j : Nat} (hij : i < j) (hj : j < q.sz.length) : (knownL r q).lookup (i + r.sz.length, j + r.sz.length) = some (zs r.sz.length ++ exF q i j) := by
  have none1 : ((pairsL r.sz.length).zip (r.ex.map (· ++ zs q.sz.length))).lookup (i + r.sz.length, j + r.sz.length) = none := lookup_none_of fun x hx e => by
    have h1 := (List.of_mem_zip (a := x.1) (b := x.2) hx).1
    rw [e] at h1
    have := pairsL_mem.mp h1
    simp only at this
    omega
  obtain ⟨k, c, g1, g2, g3⟩ := lookup_zip (l := pairsL q.sz.length) (m := q.ex.map (zs r.sz.length ++ ·)) (a := (i, j)) (by rw [List.length_map]; exact hv.el.symm) (pairsL_mem.mpr ⟨hij, hj⟩)
  rw [List.getElem?_map] at g2
  obtain ⟨x, hx, rfl⟩ := Option.map_eq_some_iff.mp g2
  rw [exF_at hv.el g1 hx]
  unfold knownL
  rw [List.lookup_append, none1, lookup_shift, g3]
  rfl
theorem look3 {i j : Nat} (hi : i < r.sz.length) (hj : r.sz.length ≤ j) : (knownL r q).lookup (i, j) = none := lookup_none_of fun x hx e => by
  rcases List.mem_append.mp hx with hx | hx
  · have h1 := (List.of_mem_zip (a := x.1) (b := x.2) hx).1
    rw [e] at h1
    have := pairsL_mem.mp h1
    simp only at this
    omega
  · have h1 := (List.of_mem_zip (a := x.1) (b := x.2) hx).1
    rw [e] at h1
    obtain ⟨y, _, hy⟩ := List.mem_map.mp h1
    simp only [shiftP, Prod.mk.injEq] at hy
    omega
theorem pwF_b1 {i : Nat} (hv : Vd r) (hi : i < r.sz.length) : pwF (besideR r q) i = pwF r i ++ zs q.sz.length := by
  have hi2 : i < r.pw.length := by rw [hv.pl]; exact hi
  simp only [pwF, besideR]
  rw [List.getD_eq_getElem?_getD, List.getElem?_append_left (by simpa using hi2)]
  simp [hi2]
theorem pwF_b2 {i : Nat} (hv : Vd r) (hw : Vd q) (hi : i < q.sz.length) : pwF (besideR r q) (i + r.sz.length) = zs r.sz.length ++ pwF q i := by
  have hi2 : i < q.pw.length := by rw [hw.pl]; exact hi
  have hl := hv.pl
  simp only [pwF, besideR]
  rw [List.getD_eq_getElem?_getD, List.getElem?_append_right (by simp; omega)]
  simp [hl, hi2]
theorem wordF_app : ∀ {f g : List Nat} {k : Nat}, wordF k (f ++ g) = wordF k f ++ wordF (k + f.length) g
  | [], g, k => rfl
  | x :: f, g, k => by
    simp only [List.cons_append, wordF, List.length_cons, wordF_app (f := f), List.append_assoc]
    rw [show k + 1 + f.length = k + (f.length + 1) by omega]
theorem wordF_shift {n : Nat} : ∀ {f : List Nat} {k : Nat}, wordF (k + n) f = (wordF k f).map (· + n)
  | [], _ => rfl
  | x :: f, k => by
    simp only [wordF, List.map_append, List.map_replicate]
    rw [show k + n + 1 = k + 1 + n by omega, wordF_shift]
theorem wordL_zr {f : List Nat} {n : Nat} : wordL (f ++ zs n) = wordL f := by
  show wordF 0 _ = _
  rw [wordF_app]
  have : wordF (0 + f.length) (zs n) = [] := wordF_zero fun i hi => zs_get
  rw [this, List.append_nil]
  rfl
theorem wordL_zl {f : List Nat} {n : Nat} : wordL (zs n ++ f) = (wordL f).map (· + n) := by
  show wordF 0 _ = _
  rw [wordF_app]
  have : wordF 0 (zs n) = [] := wordF_zero fun i hi => zs_get
  rw [this, List.nil_append, show 0 + (zs n).length = 0 + n by simp [zs], wordF_shift]
  rfl
def actB (n : Nat) (a b : List Nat → Nat → List Nat) (f : List Nat) (i : Nat) : List Nat := if i < n then a (f.take n) i ++ f.drop n else f.take n ++ b (f.drop n) (i - n)
theorem actB_l {n i : Nat} {f g : List Nat} (hf : f.length = n) (hi : i < n) : actB n a b (f ++ g) i = a f i ++ g := by
  subst hf
  unfold actB
  rw [if_pos hi]
  simp
theorem actB_r {n i : Nat} {f g : List Nat} (hf : f.length = n) : actB n a b (f ++ g) (i + n) = f ++ b g i := by
  subst hf
  unfold actB
  rw [if_neg (by omega), Nat.add_sub_cancel]
  simp
theorem actsB_l (m : Mdl r a) {g : List Nat} : ∀ {w f : List Nat}, Fm r f → Lt r w → acts (actB r.sz.length a b) (f ++ g) w = acts a f w ++ g
  | [], f, _, _ => rfl
  | i :: w, f, hf, hw => by
    rw [Lt.cons] at hw
    simp only [acts_cons]
    rw [actB_l hf.1 hw.1]
    exact actsB_l m (w := w) (f := a f i) (m.cl f i hf hw.1) hw.2
theorem actsB_r {n : Nat} {f : List Nat} (hf : f.length = n) : ∀ {w g : List Nat}, acts (actB n a b) (f ++ g) (w.map (· + n)) = f ++ acts b g w
  | [], g => rfl
  | i :: w, g => by
    simp only [List.map_cons, acts_cons]
    rw [actB_r hf]
    exact actsB_r hf
theorem fm_app {sz sz' f : List Nat} : FmOk (sz ++ sz') 0 f ↔ ∃ g h, f = g ++ h ∧ FmOk sz 0 g ∧ FmOk sz' 0 h := by
  constructor
  · intro hf
    have hl : f.length = sz.length + sz'.length := by have := hf.1; simpa using this
    refine ⟨f.take sz.length, f.drop sz.length, (List.take_append_drop _ _).symm, ⟨by simp; omega, fun i hi => ⟨?_, fun h => by omega⟩⟩, ⟨by simp; omega, fun i hi => ⟨?_, fun h => by omega⟩⟩⟩
    · have := (hf.2 i (by simp; omega)).1
      rw [getD_app, if_pos hi] at this
      rw [List.getD_eq_getElem?_getD, List.getElem?_take_of_lt hi, ← List.getD_eq_getElem?_getD]
      exact this
    · have := (hf.2 (sz.length + i) (by simp; omega)).1
      rw [getD_app, if_neg (by omega), Nat.add_sub_cancel_left] at this
      rw [List.getD_eq_getElem?_getD, List.getElem?_drop, ← List.getD_eq_getElem?_getD]
      exact this
  · rintro ⟨g, h, rfl, hg, hh⟩
    refine ⟨by simp [hg.1, hh.1], fun i hi => ⟨?_, fun h => by omega⟩⟩
    rw [getD_app, getD_app, hg.1]
    split
    · rename_i h1
      exact (hg.2 i h1).1
    · rename_i h1
      exact (hh.2 (i - sz.length) (by simp at hi; omega)).1
theorem beside_mdl (hv : Vd r) (hw : Vd q) (m : Mdl r a) (m2 : Mdl q b) : Mdl (besideR r q) (actB r.sz.length a b) := by
  have hn : (besideR r q).sz.length = r.sz.length + q.sz.length := beside_sz
  have zn : zs (besideR r q).sz.length = zs r.sz.length ++ zs q.sz.length := by rw [hn]; simp [zs]
  refine ⟨fun f i hf hi => ?_, fun f i hf hi => ?_, fun f i j hf hij hj => ?_, fun f hf => ?_⟩
  · obtain ⟨g, h, rfl, hg, hh⟩ := fm_app.mp hf
    by_cases h1 : i < r.sz.length
    · rw [actB_l hg.1 h1]
      exact fm_app.mpr ⟨_, _, rfl, m.cl g i hg h1, hh⟩
    · obtain ⟨k, rfl⟩ : ∃ k, i = k + r.sz.length := ⟨i - r.sz.length, by omega⟩
      rw [actB_r hg.1]
      exact fm_app.mpr ⟨_, _, rfl, hg, m2.cl h k hh (by omega)⟩
  · obtain ⟨g, h, rfl, hg, hh⟩ := fm_app.mp hf
    by_cases h1 : i < r.sz.length
    · rw [pwF_b1 hv h1, wordL_zr, actsB_l m hg (hv.pwOk h1).lt]
      have e : (besideR r q).sz.getD i 0 = r.sz.getD i 0 := by
        show (r.sz ++ q.sz).getD i 0 = _
        rw [getD_app, if_pos h1]
      rw [e, actsB_l m hg (Lt.rep h1), m.pw g i hg h1]
    · obtain ⟨k, rfl⟩ : ∃ k, i = k + r.sz.length := ⟨i - r.sz.length, by omega⟩
      have hk : k < q.sz.length := by omega
      have e : (besideR r q).sz.getD (k + r.sz.length) 0 = q.sz.getD k 0 := by
        show (r.sz ++ q.sz).getD (k + r.sz.length) 0 = _
        rw [getD_app, if_neg (by omega), Nat.add_sub_cancel]
      have e2 : List.replicate (q.sz.getD k 0) (k + r.sz.length) = (List.replicate (q.sz.getD k 0) k).map (· + r.sz.length) := by simp
      rw [e, e2, pwF_b2 hv hw hk, wordL_zl, actsB_r hg.1, actsB_r hg.1, m2.pw h k hh hk]
  · obtain ⟨g, h, rfl, hg, hh⟩ := fm_app.mp hf
    rw [hn] at hj
    rw [exF_beside hij hj]
    by_cases h1 : j < r.sz.length
    · rw [look1 hv hij h1, Option.getD_some, wordL_zr]
      rw [actsB_l m hg (Lt.cons.mpr ⟨h1, Lt.cons.mpr ⟨by omega, Lt.nil⟩⟩), actsB_l m hg (Lt.cons.mpr ⟨by omega, (hv.exOk hij h1).lt⟩), m.ex g i j hg hij h1]
    · by_cases h2 : i < r.sz.length
      · rw [look3 h2 (by omega), Option.getD_none, wordL_alone hj]
        obtain ⟨k, rfl⟩ : ∃ k, j = k + r.sz.length := ⟨j - r.sz.length, by omega⟩
        simp only [List.replicate_one, acts_cons, acts_nil]
        rw [actB_r hg.1, actB_l hg.1 h2, actB_l hg.1 h2, actB_r (m.cl g i hg h2).1]
      · obtain ⟨k, rfl⟩ : ∃ k, j = k + r.sz.length := ⟨j - r.sz.length, by omega⟩
        obtain ⟨l, rfl⟩ : ∃ l, i = l + r.sz.length := ⟨i - r.sz.length, by omega⟩
        have hk : k < q.sz.length := by omega
        rw [look2 hw (by omega) hk, Option.getD_some, wordL_zl]
        have e1 : [k + r.sz.length, l + r.sz.length] = [k, l].map (· + r.sz.length) := rfl
        have e2 : (l + r.sz.length) :: (wordL (exF q l k)).map (· + r.sz.length) = (l :: wordL (exF q l k)).map (· + r.sz.length) := rfl
        rw [e1, e2, actsB_r hg.1, actsB_r hg.1, m2.ex h l k hh (by omega) hk]
  · obtain ⟨g, h, rfl, hg, hh⟩ := fm_app.mp hf
    have e : wordL (g ++ h) = wordL g ++ (wordL h).map (· + r.sz.length) := by
      show wordF 0 _ = _
      rw [wordF_app, show 0 + g.length = 0 + r.sz.length by rw [hg.1], wordF_shift]
      rfl
    rw [e, acts_app, zn, actsB_l m hv.zero hg.lt, m.pl g hg, actsB_r hg.1, m2.pl h hh]
end
/-- whole: a model -/
def Whole (r : Ru) : Prop := ∃ act, Mdl r act
theorem whole_beside {r q : Ru} (hv : Vd r) (hw : Vd q) (h : Whole r) (g : Whole q) : Whole (besideR r q) := by
  obtain ⟨a, m⟩ := h
  obtain ⟨b, m2⟩ := g
  exact ⟨_, beside_mdl hv hw m m2⟩
theorem Drawn.whole {r : Ru} (h : Drawn r) (hp : prodN r.sz ≤ 64) : Whole r := by
  induction h with
  | plain sz pw hz hl hpw => exact plain_mdl ((Drawn.plain sz pw hz hl hpw).vd hp)
  | turn s w b p h =>
    have h2 := h.s2; have h7 := h.s7; have w3 := h.w3; have w7 := h.w7; have hb := h.bw; have hpw := h.pw
    have hb1 := h.b1
    have e : p * b % w = p := by
      obtain ⟨c, hc⟩ : ∃ c, b = c + 1 := ⟨b - 1, by omega⟩
      have := h.fix
      rw [hc] at this ⊢
      rw [Nat.add_sub_cancel] at this
      rw [Nat.mul_succ, Nat.add_mod, this, Nat.zero_add, Nat.mod_mod, Nat.mod_eq_of_lt hpw]
    exact ⟨_, ahead_mdl (vd_one (by omega) (by omega)) (clk_mdl (by omega)) (turn_ok (by omega) hb hpw h.one e) h2⟩
  | meet s a b c h ha hb hc1 hc => exact meet_mdl h ha hb hc1 hc
  | beside r w hd h2 h7 hl ih =>
    have hp2 : prodN r.sz * prodN [w] ≤ 64 := by
      have : prodN (r.sz ++ [w]) ≤ 64 := hp
      rwa [prodN_append] at this
    have hp3 : prodN r.sz ≤ 64 := by
      have h1 : prodN [w] = w := by simp
      rw [h1] at hp2
      have : prodN r.sz * 1 ≤ prodN r.sz * w := Nat.mul_le_mul_left _ (by omega)
      omega
    exact whole_beside (hd.vd hp3) (vd_one h2 (by omega)) (ih hp3) ⟨_, clk_mdl h2⟩
end MP

namespace MP
open PySem L2
/-! letters_of: 0 form, 1 found, 2 letter, 3 often -/
noncomputable def m_letters_of : M Fl :=
 (mSeq (mSet 1 (mTup mNilA))
 (mSeq (mFor (mItE (mConsA (mVar 0) mNilA)) (gTupD 2 (gConsD (gN 2) (gConsD (gN 3) gNilD)))
 (mSet 1 (mOp dAdd (mVar 1) (mOp dMul (mTup (mConsA (mVar 2) mNilA)) (mVar 3)))))
 (mRet (mVar 1))))
noncomputable def f_letters_of : Fn := trunc (mkFn 4 m_letters_of)
/-! Ways.exchange: 0 self, 1 later, 2 lesser -/
noncomputable def m_Ways_exchange : M Fl :=
 (mRet (mOp dAdd (mTup (mConsA (mVar 2) mNilA)) (mOp dIxA (mFld "Ways" "swaps" (mVar 0)) (mTup (mConsA (mVar 2) (mConsA (mVar 1) mNilA))))))
noncomputable def f_Ways_exchange : Fn := trunc (mkFn 3 m_Ways_exchange)
/-! forms_of: 0 sizes, 1 found, 2 size, 3 longer, 4 form, 5 often -/
noncomputable def m_forms_of : M Fl :=
 (mSeq (mSet 1 (mLv (mLst (mConsA (mTup mNilA) mNilA))))
 (mSeq (mFor (mIt (mVar 0)) (gN 2)
 (mSeq (mSet 3 (mRef (mLst mNilA)))
 (mSeq (mFor (mIt (mVar 1)) (gN 4)
 (mDo (mMt isL fExtend (mVar 3) (mConsA (mLv (mLc [5] (mItR (mConsA (mVar 2) mNilA)) (lcB1 5) mYes (mOp dAdd (mVar 4) (mTup (mConsA (mVar 5) mNilA))))) mNilA))))
 (mSet 1 (mVar 3)))))
 (mRet (mVar 1))))
noncomputable def f_forms_of : Fn := trunc (mkFn 6 m_forms_of)
/-! Ways.__init__: 0 self, 1 rules, 2 pair, 3 form -/
noncomputable def m_Ways___init__ : M Fl :=
 (mSeq (mSetF "Ways" "sizes" (mVar 0) (mOp dIx (mVar 1) (mC (.int 0))))
 (mSeq (mSetF "Ways" "powers" (mVar 0) (mLv (mLc [3] (mIt (mOp dIx (mVar 1) (mC (.int 1)))) (lcB1 3) mYes (mCall f_letters_of (mConsA (mVar 3) mNilA)))))
 (mSeq (mSetF "Ways" "swaps" (mVar 0) mNewD)
 (mFor (mItZ (mConsA (mCall f_pairs_of (mConsA (mCB fLen (mConsA (mOp dIx (mVar 1) (mC (.int 0))) mNilA)) mNilA)) (mConsA (mOp dIx (mVar 1) (mC (.int 2))) mNilA))) (gTupD 2 (gConsD (gN 2) (gConsD (gN 3) gNilD)))
 (mAsg (mCall f_letters_of (mConsA (mVar 3) mNilA)) (gSubD fSetA (mFld "Ways" "swaps" (mVar 0)) (mVar 2)))))))
noncomputable def f_Ways___init__ : Fn := mkFn 4 m_Ways___init__
/-! Ways.put: 0 self, 1 form, 2 letter, 3 todo, 4 here, 5 last, 6 k -/
noncomputable def m_Ways_put : M Fl :=
 (mSeq (mSet 3 (mRef (mLst (mConsA (mVar 2) mNilA))))
 (mWhile (mT (mOp dNe (mVar 3) (mLv (mLst mNilA)))) (mSeq (mSet 4 (mMt isL fPop (mVar 3) mNilA))
 (mSeq (mSet 5 (mCB fMaxL (mConsA (mOp dAdd (mLv (mLc [6] (mItR (mConsA (mCB fLen (mConsA (mVar 1) mNilA)) mNilA)) (lcB1 6) (mT (mOp dGt (mOp dIx (mVar 1) (mVar 6)) (mC (.int 0)))) (mVar 6))) (mLv (mLst (mConsA (mNeg (mC (.int 1))) mNilA)))) mNilA)))
 (mIf (mT (mOp dGt (mVar 5) (mVar 4)))
 (mSeq (mAsg (mOp dSub (mOp dIx (mVar 1) (mVar 5)) (mC (.int 1))) (gSubD fSetL (mVar 1) (mVar 5)))
 (mDo (mMt isL fExtA (mVar 3) (mConsA (mBack (mMeth "Ways" "exchange" f_Ways_exchange (mVar 0) (mConsA (mVar 5) (mConsA (mVar 4) mNilA)))) mNilA))))
 (mSeq (mAsg (mOp dAdd (mOp dIx (mVar 1) (mVar 4)) (mC (.int 1))) (gSubD fSetL (mVar 1) (mVar 4)))
 (mIf (mT (mOp dEq (mOp dIx (mVar 1) (mVar 4)) (mOp dIx (mFld "Ways" "sizes" (mVar 0)) (mVar 4))))
 (mSeq (mAsg (mC (.int 0)) (gSubD fSetL (mVar 1) (mVar 4)))
 (mDo (mMt isL fExtA (mVar 3) (mConsA (mBack (mOp dIx (mFld "Ways" "powers" (mVar 0)) (mVar 4))) mNilA))))
 mSkip)))))))
noncomputable def f_Ways_put : Fn := trunc (mkFn 7 m_Ways_put)
/-! _law_form: 0 _law_state_here, 1 _law_rules_here, 2 _law_size -/
noncomputable def m_law_form : M Fl :=
 (mRet (mCB fTuple (mConsA (mLv (mLc [2] (mIt (mOp dIx (mVar 1) (mC (.int 0)))) (lcB1 2) mYes (mCall f_law_take (mConsA (mVar 0) (mConsA (mVar 2) mNilA))))) mNilA)))
noncomputable def f_law_form : Fn := trunc (mkFn 3 m_law_form)
/-! _law_same: 0 _law_found, 1 _law_due -/
noncomputable def m_law_same : M Fl :=
 (mRet (mOp dEqS (mCB fRepr (mConsA (mVar 0) mNilA)) (mCB fRepr (mConsA (mVar 1) mNilA))))
noncomputable def f_law_same : Fn := trunc (mkFn 2 m_law_same)
/-! _law_step: 0 _law_rules_here, 1 _law_word_here, 2 _law_last, 3 _law_sizes_here, 4 _law_powers, 5 _law_exchanges, 6 _law_swaps, 7 _law_found, 8 _law_at, 9 _law_letter, 10 _law_size, 11 _law_power, 12 _law_lesser, 13 _law_swap -/
noncomputable def m_law_step_2 : M Fl :=
 (mSeq (mAsg (mVar 0) (gTupD 3 (gConsD (gN 3) (gConsD (gN 4) (gConsD (gN 5) gNilD)))))
 (mSeq (mSet 6 (mDictZ (mConsA (mCall f_pairs_of (mConsA (mCB fLen (mConsA (mVar 3) mNilA)) mNilA)) (mConsA (mVar 5) mNilA))))
 (mSeq (mSet 7 (mC .non))
 (mSeq (mFor (mItE (mConsA (mVar 1) mNilA)) (gTupD 2 (gConsD (gN 8) (gConsD (gN 9) gNilD)))
 (mSeq (mSet 10 (mOp dIx (mVar 3) (mVar 9)))
 (mSeq (mIf (mT (mOp dEq (mSl dSl (mVar 1) (mPart (mVar 8)) (mPart (mOp dAdd (mVar 8) (mVar 10)))) (mOp dMul (mTup (mConsA (mVar 9) mNilA)) (mVar 10))))
 (mSeq (mSet 11 (mCall f_letters_of (mConsA (mOp dIx (mVar 4) (mVar 9)) mNilA)))
 (mSet 7 (mOp dAdd (mOp dAdd (mSl dSl (mVar 1) mNoP (mPart (mVar 8))) (mVar 11)) (mSl dSl (mVar 1) (mPart (mOp dAdd (mVar 8) (mVar 10))) mNoP))))
 (mIf (mAndT (mT (mOp dLt (mOp dAdd (mVar 8) (mC (.int 1))) (mCB fLen (mConsA (mVar 1) mNilA)))) (mT (mOp dLt (mOp dIx (mVar 1) (mOp dAdd (mVar 8) (mC (.int 1)))) (mVar 9))))
 (mSeq (mSet 12 (mOp dIx (mVar 1) (mOp dAdd (mVar 8) (mC (.int 1)))))
 (mSeq (mSet 13 (mCall f_letters_of (mConsA (mOp dIxA (mVar 6) (mTup (mConsA (mVar 12) (mConsA (mVar 9) mNilA)))) mNilA)))
 (mSet 7 (mOp dAdd (mOp dAdd (mOp dAdd (mSl dSl (mVar 1) mNoP (mPart (mVar 8))) (mTup (mConsA (mVar 12) mNilA))) (mVar 13)) (mSl dSl (mVar 1) (mPart (mOp dAdd (mVar 8) (mC (.int 2)))) mNoP)))))
 mSkip))
 (mIf (mAndT (mT (mOp dIsNot (mVar 7) (mC .non))) (mNotT (mT (mVar 2))))
 (mRet (mVar 7))
 mSkip))))
 (mRet (mVar 7))))))
noncomputable def f_law_step_2 : Fn := trunc (mkFn 14 m_law_step_2)
/-! _law_by: 0 _law_table_here, 1 _law_some, 2 _law_here, 3 _law_form_here, 4 _law_letter -/
noncomputable def m_law_by : M Fl :=
 (mSeq (mSet 2 (mOp dMul (mTup (mConsA (mC (.int 0)) mNilA)) (mCB fLen (mConsA (mOp dIx (mVar 1) (mC (.int 0))) mNilA))))
 (mSeq (mFor (mIt (mVar 1)) (gN 3)
 (mFor (mIt (mCall f_letters_of (mConsA (mVar 3) mNilA))) (gN 4)
 (mSet 2 (mOp dIxA (mVar 0) (mTup (mConsA (mVar 2) (mConsA (mVar 4) mNilA)))))))
 (mRet (mVar 2))))
noncomputable def f_law_by : Fn := trunc (mkFn 5 m_law_by)
/-! Table.come: 0 self, 1 one, 2 other, 3 key, 4 form, 5 letter -/
noncomputable def m_Table_come : M Fl :=
 (mSeq (mSet 3 (mTup (mConsA (mVar 1) (mConsA (mVar 2) mNilA))))
 (mSeq (mIf (mT (mOp dNotInA (mVar 3) (mFld "Table" "known" (mVar 0))))
 (mSeq (mSet 4 (mRef (mCBN fList (mConsA (mVar 1) mNilA))))
 (mSeq (mFor (mIt (mCall f_letters_of (mConsA (mVar 2) mNilA))) (gN 5)
 (mDo (mMeth "Ways" "put" f_Ways_put (mFld "Table" "ways" (mVar 0)) (mConsA (mVar 4) (mConsA (mVar 5) mNilA)))))
 (mAsg (mCB fTuple (mConsA (mVar 4) mNilA)) (gSubD fSetA (mFld "Table" "known" (mVar 0)) (mVar 3)))))
 mSkip)
 (mRet (mOp dIxA (mFld "Table" "known" (mVar 0)) (mVar 3)))))
noncomputable def f_Table_come : Fn := trunc (mkFn 6 m_Table_come)
/-! _law_gather: 0 _law_rules_here, 1 _law_word_here, 2 _law_here, 3 _law_letter, 4 _law_step_here -/
noncomputable def m_law_gather_2 : M Fl :=
 (mSeq (mSet 2 (mTup mNilA))
 (mSeq (mFor (mIt (mVar 1)) (gN 3)
 (mSeq (mSet 2 (mOp dAdd (mVar 2) (mTup (mConsA (mVar 3) mNilA))))
 (mSeq (mSet 4 (mCall f_law_step_2 (mConsA (mVar 0) (mConsA (mVar 2) (mConsA (mC (.bl false)) mNilA)))))
 (mWhile (mT (mOp dIsNot (mVar 4) (mC .non))) (mSeq (mSet 2 (mVar 4))
 (mSet 4 (mCall f_law_step_2 (mConsA (mVar 0) (mConsA (mVar 2) (mConsA (mC (.bl false)) mNilA))))))))))
 (mRet (mCB fTuple (mConsA (mLv (mLc [3] (mItR (mConsA (mCB fLen (mConsA (mOp dIx (mVar 0) (mC (.int 0))) mNilA)) mNilA)) (lcB1 3) mYes (mMt isTupD fCnt (mVar 2) (mConsA (mVar 3) mNilA)))) mNilA)))))
noncomputable def f_law_gather_2 : Fn := trunc (mkFn 5 m_law_gather_2)
/-! _law_times_of: 0 _law_table_here, 1 _law_form_here, 2 _law_found, 3 _law_here -/
noncomputable def m_law_times_of : M Fl :=
 (mSeq (mSet 2 (mRef (mLst (mConsA (mOp dMul (mTup (mConsA (mC (.int 0)) mNilA)) (mCB fLen (mConsA (mVar 1) mNilA))) mNilA))))
 (mSeq (mSet 3 (mVar 1))
 (mSeq (mWhile (mT (mCB fAny (mConsA (mVar 3) mNilA))) (mSeq (mDo (mMt isL fAppend (mVar 2) (mConsA (mVar 3) mNilA)))
 (mSet 3 (mCall f_law_by (mConsA (mVar 0) (mConsA (mLv (mLst (mConsA (mVar 3) (mConsA (mVar 1) mNilA)))) mNilA))))))
 (mRet (mVar 2)))))
noncomputable def f_law_times_of : Fn := trunc (mkFn 4 m_law_times_of)
/-! Table.__init__: 0 self, 1 rules -/
noncomputable def m_Table___init__ : M Fl :=
 (mSeq (mSetF "Table" "ways" (mVar 0) (mMake "Ways" f_Ways___init__ (mConsA (mVar 1) mNilA)))
 (mSetF "Table" "known" (mVar 0) mNewD))
noncomputable def f_Table___init__ : Fn := mkFn 2 m_Table___init__
/-! times_of: 0 table, 1 form, 2 found, 3 here -/
noncomputable def m_times_of : M Fl :=
 (mSeq (mSet 2 (mRef (mLst (mConsA (mOp dMul (mTup (mConsA (mC (.int 0)) mNilA)) (mCB fLen (mConsA (mVar 1) mNilA))) mNilA))))
 (mSeq (mSet 3 (mVar 1))
 (mSeq (mWhile (mT (mCB fAny (mConsA (mVar 3) mNilA))) (mSeq (mDo (mMt isL fAppend (mVar 2) (mConsA (mVar 3) mNilA)))
 (mSet 3 (mMeth "Table" "come" f_Table_come (mVar 0) (mConsA (mVar 3) (mConsA (mVar 1) mNilA))))))
 (mRet (mVar 2)))))
noncomputable def f_times_of : Fn := trunc (mkFn 4 m_times_of)
/-! _law_table: 0 _law_rules_here, 1 _law_found, 2 _law_form_here, 3 _law_letter -/
noncomputable def m_law_table_2 : M Fl :=
 (mSeq (mSet 1 mNewD)
 (mSeq (mFor (mIt (mCall f_forms_of (mConsA (mOp dIx (mVar 0) (mC (.int 0))) mNilA))) (gN 2)
 (mFor (mItR (mConsA (mCB fLen (mConsA (mOp dIx (mVar 0) (mC (.int 0))) mNilA)) mNilA)) (gN 3)
 (mAsg (mCall f_law_gather_2 (mConsA (mVar 0) (mConsA (mOp dAdd (mCall f_letters_of (mConsA (mVar 2) mNilA)) (mTup (mConsA (mVar 3) mNilA))) mNilA))) (gSubD fSetA (mVar 1) (mTup (mConsA (mVar 2) (mConsA (mVar 3) mNilA)))))))
 (mRet (mVar 1))))
noncomputable def f_law_table_2 : Fn := mkFn 4 m_law_table_2
/-! _law_come: 0 _law_rules_here, 1 _law_one, 2 _law_other -/
noncomputable def m_law_come_2 : M Fl :=
 (mRet (mCall f_law_gather_2 (mConsA (mVar 0) (mConsA (mOp dAdd (mCall f_letters_of (mConsA (mVar 1) mNilA)) (mCall f_letters_of (mConsA (mVar 2) mNilA))) mNilA))))
noncomputable def f_law_come_2 : Fn := trunc (mkFn 3 m_law_come_2)
/-! _law_undone: 0 _law_table_here, 1 _law_form_here -/
noncomputable def m_law_undone : M Fl :=
 (mRet (mOp dIx (mCall f_law_times_of (mConsA (mVar 0) (mConsA (mVar 1) mNilA))) (mNeg (mC (.int 1)))))
noncomputable def f_law_undone : Fn := trunc (mkFn 2 m_law_undone)
/-! undone_by: 0 table, 1 form -/
noncomputable def m_undone_by : M Fl :=
 (mRet (mOp dIx (mCall f_times_of (mConsA (mVar 0) (mConsA (mVar 1) mNilA))) (mNeg (mC (.int 1)))))
noncomputable def f_undone_by : Fn := trunc (mkFn 2 m_undone_by)
/-! taken: 0 rules, 1 one, 2 other -/
noncomputable def m_taken : M Fl :=
 (mRet (mMeth "Table" "come" f_Table_come (mMake "Table" f_Table___init__ (mConsA (mVar 0) mNilA)) (mConsA (mVar 1) (mConsA (mVar 2) mNilA))))
noncomputable def f_taken : Fn := trunc (mkFn 3 m_taken)
/-! undone: 0 rules, 1 form -/
noncomputable def m_undone : M Fl :=
 (mRet (mCall f_undone_by (mConsA (mMake "Table" f_Table___init__ (mConsA (mVar 0) mNilA)) (mConsA (mVar 1) mNilA))))
noncomputable def f_undone : Fn := trunc (mkFn 2 m_undone)
/-! turned_by: 0 table, 1 form, 2 by -/
noncomputable def m_turned_by : M Fl :=
 (mRet (mMeth "Table" "come" f_Table_come (mVar 0) (mConsA (mMeth "Table" "come" f_Table_come (mVar 0) (mConsA (mCall f_undone_by (mConsA (mVar 0) (mConsA (mVar 2) mNilA))) (mConsA (mVar 1) mNilA))) (mConsA (mVar 2) mNilA))))
noncomputable def f_turned_by : Fn := trunc (mkFn 3 m_turned_by)
/-! meet_by: 0 table, 1 one, 2 other -/
noncomputable def m_meet_by : M Fl :=
 (mRet (mMeth "Table" "come" f_Table_come (mVar 0) (mConsA (mCall f_undone_by (mConsA (mVar 0) (mConsA (mVar 1) mNilA))) (mConsA (mCall f_turned_by (mConsA (mVar 0) (mConsA (mVar 1) (mConsA (mVar 2) mNilA)))) mNilA))))
noncomputable def f_meet_by : Fn := trunc (mkFn 3 m_meet_by)
end MP

/-! Q, part s: words of forms; rules with the words to which steps lead; letters put behind a form. -/
namespace MP
open PySem L2
theorem mWhile_unfold {c : M Bool} {b : M Fl} {ρ : Fr} {S : Sto} : mWhile c b ρ S = (c ρ S).bind fun k S1 => if k = true then (b ρ S1).bind fun f S2 => match f with
      | .nx ρ2 => mWhile c b ρ2 S2
      | .ct ρ2 => mWhile c b ρ2 S2
      | .bk ρ2 => .ok (.nx ρ2) S2
      | .rt d => .ok (.rt d) S2
    else .ok (.nx ρ) S1 := by
  obtain ⟨R, hR⟩ : ∃ R, R = (c ρ S).bind fun k S1 => if k = true then (b ρ S1).bind fun f S2 => match f with
      | .nx ρ2 => mWhile c b ρ2 S2
      | .ct ρ2 => mWhile c b ρ2 S2
      | .bk ρ2 => .ok (.nx ρ2) S2
      | .rt d => .ok (.rt d) S2
    else .ok (.nx ρ) S1 := ⟨_, rfl⟩
  rw [← hR]
  by_cases hb : R = .bad
  · rw [hb]
    unfold mWhile
    split
    · rename_i h
      exfalso
      obtain ⟨n, hn⟩ := h
      cases n with
      | zero => exact hn rfl
      | succ n =>
        simp only [whileN] at hn
        cases hc : c ρ S with
        | bad => rw [hc] at hn; exact hn rfl
        | exc x S1 => rw [hc, hb] at hR; cases hR
        | ok k S1 =>
          rw [hc] at hn
          rw [hc, hb] at hR
          simp only [Res.bind_ok] at hn hR
          cases k with
          | false => cases hR
          | true =>
            simp only [if_true] at hn hR
            cases hbd : b ρ S1 with
            | bad => rw [hbd] at hn; exact hn rfl
            | exc x S2 => rw [hbd] at hR; cases hR
            | ok f S2 =>
              rw [hbd] at hn hR
              simp only [Res.bind_ok] at hn hR
              cases f with
              | nx ρ2 =>
                simp only at hn hR
                rw [mWhile_eq n rfl hn] at hR
                exact hn hR.symm
              | ct ρ2 =>
                simp only at hn hR
                rw [mWhile_eq n rfl hn] at hR
                exact hn hR.symm
              | bk ρ2 => cases hR
              | rt d => cases hR
    · rfl
  · have key : ∃ n, whileN c b n ρ S = R := by
      cases hc : c ρ S with
      | bad => rw [hc] at hR; exact absurd hR hb
      | exc x S1 => exact ⟨1, by rw [hR, hc]; simp only [whileN, hc, Res.bind_exc]⟩
      | ok k S1 =>
        rw [hc] at hR
        simp only [Res.bind_ok] at hR
        cases k with
        | false => exact ⟨1, by rw [hR]; simp only [whileN, hc, Res.bind_ok]; rfl⟩
        | true =>
          simp only [if_true] at hR
          cases hbd : b ρ S1 with
          | bad => rw [hbd] at hR; exact absurd hR hb
          | exc x S2 => exact ⟨1, by rw [hR, hbd]; simp only [whileN, hc, hbd, Res.bind_ok, if_true, Res.bind_exc]⟩
          | ok f S2 =>
            rw [hbd] at hR
            simp only [Res.bind_ok] at hR
            cases f with
            | nx ρ2 =>
              obtain ⟨m, hm⟩ := mWhile_some c b ρ2 S2
              exact ⟨m + 1, by rw [hR]; simp only [whileN, hc, hbd, Res.bind_ok, if_true]; exact hm.symm⟩
            | ct ρ2 =>
              obtain ⟨m, hm⟩ := mWhile_some c b ρ2 S2
              exact ⟨m + 1, by rw [hR]; simp only [whileN, hc, hbd, Res.bind_ok, if_true]; exact hm.symm⟩
            | bk ρ2 => exact ⟨1, by rw [hR]; simp only [whileN, hc, hbd, Res.bind_ok, if_true]⟩
            | rt d => exact ⟨1, by rw [hR]; simp only [whileN, hc, hbd, Res.bind_ok, if_true]⟩
    obtain ⟨n, hn⟩ := key
    exact mWhile_eq n hn hb
/-! ### the word of a form -/
theorem wordF_le {b : Nat} : ∀ {l : List Nat} {k : Nat}, (∀ x ∈ l, x ≤ b) → (wordF k l).length ≤ b * l.length
  | [], _, _ => by simp [wordF]
  | x :: l, k, h => by
    have h1 := wordF_le (l := l) (k := k + 1) fun y hy => h y (List.mem_cons_of_mem _ hy)
    have h2 := h x List.mem_cons_self
    simp only [wordF, List.length_append, List.length_replicate, List.length_cons, Nat.mul_succ]
    omega
theorem wordF_take {f : List Nat} {i x k : Nat} (h : f[i]? = some x) : wordF k (f.take (i + 1)) = wordF k (f.take i) ++ List.replicate x (k + i) := by
  have hi := (List.getElem?_eq_some_iff.mp h).1
  rw [List.take_add_one, h, wordF_app]
  have : (f.take i).length = i := by simp; omega
  rw [this]
  simp [wordF]
theorem letters_ok {f : List Nat} {S : Sto} (hl : f.length ≤ 50) (hv : ∀ x ∈ f, x ≤ 100) : f_letters_of [nT f] S = .ok (nT (wordL f)) S := by
  refine trunc_eq0 (ok_eq ?_) (by simp)
  rw [mkFn_ap]
  have e1 : enumIt S [nT f] = some (enumD 0 (f.map iD), []) := rfl
  simp [m_letters_of, e1]
  obtain ⟨I, hI⟩ : ∃ I : Nat → Fr → Sto → Prop, ∀ i ρ S', I i ρ S' ↔ S' = S ∧ ∃ x2 x3, ρ = [some (nT f), some (nT (wordF 0 (f.take i))), x2, x3] := ⟨_, fun _ _ _ => Iff.rfl⟩
  refine forL_ok I ((hI _ _ _).mpr ?_) (fun i ρ S' hJ => gOk_nil) (fun i e ρ S' he hJ => ?_) (fun ρ S' hJ => ?_)
  · exact ⟨rfl, none, none, by simp [wordF, nT]⟩
  · obtain ⟨rfl, x2, x3, rfl⟩ := (hI _ _ _).mp hJ
    obtain ⟨x, hx, rfl⟩ := enumD_at he
    rw [List.getElem?_map] at hx
    obtain ⟨m, hm, rfl⟩ := Option.map_eq_some_iff.mp hx
    have m1 := hv m (List.mem_of_getElem? hm)
    have mu : ∀ T, dMul (.tup [.int (i : Int)]) (.int (m : Int)) T = some (nT (List.replicate m i)) := fun T => by
      rw [dMul_t (by omega) (by omega) (by simp)]
      simp [nT]
    have wl := wordF_le (k := 0) (l := f.take i) (b := 100) fun x hx => hv x (List.mem_of_mem_take hx)
    have h2 : (f.take i).length ≤ 50 := by simp; omega
    have ad : ∀ T, dAdd (nT (wordF 0 (f.take i))) (nT (List.replicate m i)) T = some (nT (wordF 0 (f.take i) ++ List.replicate m i)) := fun T => nT_app (by rw [List.length_replicate]; omega)
    have wt := wordF_take (k := 0) hm
    rw [Nat.zero_add] at wt
    simp [mu, ad]
    exact (hI _ _ _).mpr ⟨rfl, _, _, by rw [wt]⟩
  · obtain ⟨rfl, x2, x3, rfl⟩ := (hI _ _ _).mp hJ
    simp [enumD_len]
    rfl
/-! ### rules with the words to which steps lead -/
def swD (r : Ru) : List (D × D) := ((pairsL r.sz.length).zip r.ex).map fun x => (pD x.1, nT (wordL x.2))
def waysF (r : Ru) (d : Nat) : List (Str × D) := [("sizes", nT r.sz), ("powers", .lv (r.pw.map fun f => nT (wordL f))), ("swaps", .ref d)]
structure WaysAt (S : Sto) (w d : Nat) (r : Ru) : Prop where
  at_ : S[w]? = some (.ins "Ways" (waysF r d))
  sw : S[d]? = some (.dct (swD r))
theorem insOf_at {S : Sto} {n : Nat} {c : Str} {fs : List (Str × D)} (h : S[n]? = some (.ins c fs)) : insOf c (.ref n) S = some fs := by
  unfold insOf
  simp [h]
section
variable {S : Sto} {w d : Nat} {r : Ru}
theorem s_ne1 : (("powers" : Str) == "sizes") = false := by decide +kernel
theorem s_ne2 : (("swaps" : Str) == "sizes") = false := by decide +kernel
theorem s_ne3 : (("swaps" : Str) == "powers") = false := by decide +kernel
theorem WaysAt.f1 (h : WaysAt S w d r) : fldOf "Ways" "sizes" (.ref w) S = some (nT r.sz) := by
  unfold fldOf
  rw [insOf_at h.at_]
  simp [waysF, List.lookup]
theorem WaysAt.f2 (h : WaysAt S w d r) : fldOf "Ways" "powers" (.ref w) S = some (.lv (r.pw.map fun f => nT (wordL f))) := by
  unfold fldOf
  rw [insOf_at h.at_]
  simp [waysF, List.lookup, s_ne1]
theorem WaysAt.f3 (h : WaysAt S w d r) : fldOf "Ways" "swaps" (.ref w) S = some (.ref d) := by
  unfold fldOf
  rw [insOf_at h.at_]
  simp [waysF, List.lookup, s_ne2, s_ne3]
theorem WaysAt.app {X : Sto} (h : WaysAt S w d r) : WaysAt (S ++ X) w d r :=
  ⟨by rw [sto_lo (List.getElem?_eq_some_iff.mp h.at_).1]; exact h.at_, by rw [sto_lo (List.getElem?_eq_some_iff.mp h.sw).1]; exact h.sw⟩
theorem WaysAt.set {n : Nat} {o : Ob} (h : WaysAt S w d r) (h1 : n ≠ w) (h2 : n ≠ d) : WaysAt (S.set n o) w d r :=
  ⟨by rw [List.getElem?_set_ne h1]; exact h.at_, by rw [List.getElem?_set_ne h2]; exact h.sw⟩
/-- the swaps by pairs -/
theorem sw_tup : (swD r).all (fun p => dctT.isTup p.1) = true := by
  simp [swD, pD, dctT.isTup]
theorem sw_get {i j : Nat} (hv : Vd r) (hij : i < j) (hj : j < r.sz.length) : kvGet (swD r) (keyP (i, j)) = some (nT (wordL (exF r i j))) := by
  obtain ⟨k, b, g1, g2, g3⟩ := lookup_zip (l := pairsL r.sz.length) (m := r.ex) (a := (i, j)) hv.el.symm (pairsL_mem.mpr ⟨hij, hj⟩)
  have e := exF_at hv.el g1 g2
  have e2 : swD r = kvD (((pairsL r.sz.length).zip r.ex).map fun x => (x.1, wordL x.2)) := by simp [swD, kvD]
  have lk : ∀ (l : List ((Nat × Nat) × List Nat)) (a : Nat × Nat), (l.map fun x => (x.1, wordL x.2)).lookup a = (l.lookup a).map wordL := by
    intro l a
    induction l with
    | nil => rfl
    | cons x l ih =>
      obtain ⟨y, f⟩ := x
      simp only [List.map_cons, List.lookup_cons, ih]
      split <;> rfl
  rw [e2, kvGet_al, lk, g3, e]
  rfl
theorem dctT_of {S : Sto} {n : Nat} {kv : List (D × D)} (h : S[n]? = some (.dct kv)) (ht : kv.all (fun p => dctT.isTup p.1) = true) : dctT S (.ref n) = some kv := by
  unfold dctT
  simp only [h]
  rw [if_pos ht]
theorem exchange_ok {i j : Nat} (hv : Vd r) (h : WaysAt S w d r) (hij : i < j) (hj : j < r.sz.length) : f_Ways_exchange [.ref w, iD j, iD i] S = .ok (nT (i :: wordL (exF r i j))) S := by
  refine trunc_eq0 (ok_eq ?_) (by simp)
  rw [mkFn_ap]
  have ix : dIxA (.ref d) (.tup [iD i, iD j]) S = some (nT (wordL (exF r i j))) := by
    unfold dIxA
    rw [dctT_of h.sw sw_tup]
    simp only
    unfold dGetT
    rw [dctT_of h.sw sw_tup]
    have : tupKey (.tup [iD i, iD j]) = some (keyP (i, j)) := tupKey_pD (i, j)
    rw [this]
    exact sw_get hv hij hj
  have wl := (hv.exOk hij hj).wlen hv.sz
  have ad : ∀ T, dAdd (.tup [iD i]) (nT (wordL (exF r i j))) T = some (nT (i :: wordL (exF r i j))) := fun T => by
    have := nT_app (a := [i]) (b := wordL (exF r i j)) (S := T) (by simp; omega)
    exact this
  simp [m_Ways_exchange, h.f3, ix, ad]
end
/-! ### letters put behind a form -/
theorem optAll_iD {S : Sto} {n : Nat} {l : List Nat} : optAll (pd S n) (l.map iD) = some (l.map fun (y : Nat) => PyData.int (y : Int)) := by
  induction l with
  | nil => rfl
  | cons x l ih =>
    have : pd S n (iD x) = some (.int (x : Int)) := by cases n <;> rfl
    simp only [List.map_cons, optAll, this, ih]
theorem dNe_nil {S : Sto} {m : Nat} {l : List Nat} (h : S[m]? = some (.lst (l.map iD))) : dNe (.ref m) (.lv []) S = some (.bl (decide (l ≠ []))) := by
  have e1 : pd S 8 (.ref m) = some (.list (l.map fun (y : Nat) => PyData.int (y : Int))) := by
    simp only [pd, h, optAll_iD]
    rfl
  have e2 : pd S 8 (.lv []) = some (.list []) := rfl
  simp only [dNe, dEqB, e1, e2, Option.map_some]
  cases l <;> rfl
theorem numsD_nat {l : List Nat} {i : Int} : numsD (l.map iD ++ [.int i]) = some (l.map (fun (y : Nat) => (y : Int)) ++ [i]) := by
  induction l with
  | nil => rfl
  | cons x l ih => simp [numsD, ih]
theorem mostI_ne : ∀ {ns : List Int}, ns ≠ [] → ∃ m, mostI ns = some m
  | [], h => absurd rfl h
  | i :: l, _ => by
    simp only [mostI]
    split
    · exact ⟨_, rfl⟩
    · exact ⟨_, rfl⟩
theorem last_ok (f : List Nat) : ∃ m : Int, (∀ T, fMaxL [.lv (((List.range f.length).filter fun k => decide (0 < f.getD k 0)).map iD ++ [.int (-1)])] T = some (.int m)) ∧ (∀ l, l < f.length → 0 < f.getD l 0 → TopZ f l → m = (l : Int)) ∧ ∀ h, TopZ f h → m ≤ (h : Int) := by
  obtain ⟨m, hm⟩ := mostI_ne (ns := ((List.range f.length).filter fun k => decide (0 < f.getD k 0)).map (fun (y : Nat) => (y : Int)) ++ [-1]) (by simp)
  have e : ∀ T, fMaxL [.lv (((List.range f.length).filter fun k => decide (0 < f.getD k 0)).map iD ++ [.int (-1)])] T = some (.int m) := fun T => by
    have l1 : lstD T (.lv (((List.range f.length).filter fun k => decide (0 < f.getD k 0)).map iD ++ [.int (-1)])) = some (((List.range f.length).filter fun k => decide (0 < f.getD k 0)).map iD ++ [.int (-1)]) := rfl
    simp only [fMaxL, l1, Option.bind_some, numsD_nat, hm, Option.map_some]
  obtain ⟨g1, g2⟩ := mostI_some hm
  have mem : m = -1 ∨ ∃ k : Nat, k < f.length ∧ 0 < f.getD k 0 ∧ m = (k : Int) := by
    rcases List.mem_append.mp g1 with q | q
    · obtain ⟨k, hk, rfl⟩ := List.mem_map.mp q
      have := List.mem_filter.mp hk
      exact .inr ⟨k, List.mem_range.mp this.1, by simpa using this.2, rfl⟩
    · exact .inl (List.mem_singleton.mp q)
  refine ⟨m, e, fun l hl h0 hz => ?_, fun h hz => ?_⟩
  · have h1 : (l : Int) ≤ m := g2 _ (List.mem_append_left _ (List.mem_map.mpr ⟨l, List.mem_filter.mpr ⟨List.mem_range.mpr hl, by simpa using h0⟩, rfl⟩))
    rcases mem with q | ⟨k, q1, q2, q3⟩
    · omega
    · by_cases hk : l < k
      · have := hz k hk q1
        omega
      · omega
  · rcases mem with q | ⟨k, q1, q2, q3⟩
    · omega
    · by_cases hk : h < k
      · have := hz k hk q1
        omega
      · omega
def putC : M Bool := mT (mOp dNe (mVar 3) (mLv (mLst mNilA)))
noncomputable def putB : M Fl := (mSeq (mSet 4 (mMt isL fPop (mVar 3) mNilA))
 (mSeq (mSet 5 (mCB fMaxL (mConsA (mOp dAdd (mLv (mLc [6] (mItR (mConsA (mCB fLen (mConsA (mVar 1) mNilA)) mNilA)) (lcB1 6) (mT (mOp dGt (mOp dIx (mVar 1) (mVar 6)) (mC (.int 0)))) (mVar 6))) (mLv (mLst (mConsA (mNeg (mC (.int 1))) mNilA)))) mNilA)))
 (mIf (mT (mOp dGt (mVar 5) (mVar 4)))
 (mSeq (mAsg (mOp dSub (mOp dIx (mVar 1) (mVar 5)) (mC (.int 1))) (gSubD fSetL (mVar 1) (mVar 5)))
 (mDo (mMt isL fExtA (mVar 3) (mConsA (mBack (mMeth "Ways" "exchange" f_Ways_exchange (mVar 0) (mConsA (mVar 5) (mConsA (mVar 4) mNilA)))) mNilA))))
 (mSeq (mAsg (mOp dAdd (mOp dIx (mVar 1) (mVar 4)) (mC (.int 1))) (gSubD fSetL (mVar 1) (mVar 4)))
 (mIf (mT (mOp dEq (mOp dIx (mVar 1) (mVar 4)) (mOp dIx (mFld "Ways" "sizes" (mVar 0)) (mVar 4))))
 (mSeq (mAsg (mC (.int 0)) (gSubD fSetL (mVar 1) (mVar 4)))
 (mDo (mMt isL fExtA (mVar 3) (mConsA (mBack (mOp dIx (mFld "Ways" "powers" (mVar 0)) (mVar 4))) mNilA))))
 mSkip)))))
theorem put_eq : m_Ways_put = mSeq (mSet 3 (mRef (mLst (mConsA (mVar 2) mNilA)))) (mWhile putC putB) := rfl
theorem fPop_last {S : Sto} {m : Nat} {l : List Nat} {h : Nat} (e : S[m]? = some (.lst ((l ++ [h]).map iD))) : fPop (.ref m) [] S = some (iD h, S.set m (.lst (l.map iD))) := by
  have e2 : ((l ++ [h]).map iD)[((l ++ [h]).map iD).length - 1]? = some (iD h) := by simp
  simp only [fPop, e, e2]
  congr 3
  simp
theorem fExtA_t {S : Sto} {m : Nat} {l k : List Nat} (e : S[m]? = some (.lst (l.map iD))) (hz : l.length + k.length ≤ 1000000) : fExtA (.ref m) [.tup (k.map iD)] S = some (.non, S.set m (.lst ((l ++ k).map iD))) := by
  simp only [fExtA, e]
  rw [if_pos (by simp only [List.length_map]; exact le_size hz), List.map_append]
theorem get_ref {S : Sto} {n : Nat} {f : List Nat} (e : S[n]? = some (.lst (f.map iD))) {k : Nat} (hk : k < f.length) : dIx (.ref n) (iD k) S = some (iD (f.getD k 0)) := by
  rw [dIx_ref e]
  exact atI_some (by simp [hk])
theorem set_ref {S : Sto} {n : Nat} {f : List Nat} (e : S[n]? = some (.lst (f.map iD))) {k x : Nat} (hk : k < f.length) : fSetL (.ref n) (iD k) (iD x) S = some (S.set n (.lst ((f.set k x).map iD))) := by
  rw [fSetL_nat e (by simpa using hk), List.map_set]
end MP

/-! Q, part t: letters put behind a form by the program. -/
namespace MP
open PySem L2
inductive Rch (r : Ru) (B : Nat) : List Nat → List Nat → List Nat → List Nat → Prop
  | done (f t : List Nat) : Rch r B f t f t
  | step {f t f1 t1 f2 t2 : List Nat} (a : MSt r f t f1 t1) (hb : t.length ≤ B) (b : Rch r B f1 t1 f2 t2) : Rch r B f t f2 t2
section
variable {r : Ru} {B : Nat}
theorem Rch.trans {f t f1 t1 f2 t2 : List Nat} (a : Rch r B f t f1 t1) (b : Rch r B f1 t1 f2 t2) : Rch r B f t f2 t2 := by
  induction a with
  | done f t => exact b
  | step a hb _ ih => exact .step a hb (ih b)
theorem Rch.run {f t g t2 : List Nat} (a : Rch r B f t g t2) (h : t2 = []) : RunTo r f t g := by
  induction a with
  | done f t => rw [h]; exact .done f
  | step a hb _ ih => exact .step a (ih h)
theorem sum_set {f : List Nat} {l x : Nat} (hl : l < f.length) : (f.set l x).sum + f.getD l 0 = f.sum + x := by
  induction f generalizing l with
  | nil => simp at hl
  | cons y f ih =>
    cases l with
    | zero => simp; omega
    | succ l =>
      have := ih (l := l) (by simpa using hl)
      simp only [List.set_cons_succ, List.sum_cons, List.getD_cons_succ]
      omega
theorem sum_le {f : List Nat} (h : ∀ x ∈ f, x ≤ 7) : f.sum ≤ 7 * f.length := by
  induction f with
  | nil => simp
  | cons x f ih =>
    have h1 := h x List.mem_cons_self
    have h2 := ih fun y hy => h y (List.mem_cons_of_mem _ hy)
    simp only [List.sum_cons, List.length_cons]
    omega
theorem FmOk.le7 {f : List Nat} (hv : Vd r) (hf : Fm r f) : ∀ x ∈ f, x ≤ 7 := fun x hx => by
  obtain ⟨i, hi, e⟩ := List.getElem_of_mem hx
  have hi2 : i < r.sz.length := by rw [← hf.1]; exact hi
  have h1 := (hf.2 i hi2).1
  have h2 : r.sz.getD i 0 < 8 := by
    rw [List.getD_eq_getElem?_getD, List.getElem?_eq_getElem hi2, Option.getD_some]
    exact hv.sz.lt _ (List.getElem_mem hi2)
  rw [List.getD_eq_getElem?_getD, List.getElem?_eq_getElem hi, Option.getD_some, e] at h1
  omega
theorem FmOk.sum35 {f : List Nat} (hv : Vd r) (hf : Fm r f) : f.sum ≤ 35 := by
  have h1 := sum_le (hf.le7 hv)
  have h2 := hv.sz.len
  rw [hf.1] at h1
  omega
/-- words of letters from i on are put behind -/
theorem rch_word (hv : Vd r) : ∀ (j : Nat) {i : Nat} {f u t : List Nat}, r.sz.length - i ≤ j → Fm r f → Lt r u → Lt r t → (∀ x ∈ u, i ≤ x) → t.length + u.length + j * 1300 ≤ B → ∃ g, Fm r g ∧ Rch r B f (u ++ t) g t
  | 0, i, f, u, t, hj, hf, hu, ht, hi, hB => by
    have : u = [] := List.eq_nil_iff_forall_not_mem.mpr fun x hx => by
      have h1 := hu x hx
      have h2 := hi x hx
      omega
    subst this
    exact ⟨f, hf, .done _ _⟩
  | j + 1, i, f, u, t, hj, hf, hu, ht, hi, hB => by
    have one : ∀ (k : Nat) {f t : List Nat}, f.sum ≤ k → Fm r f → Lt r t → i < r.sz.length → t.length + 1 + 35 * (k + 1) + j * 1300 ≤ B → ∃ g, Fm r g ∧ Rch r B f (i :: t) g t := by
      intro k
      induction k with
      | zero =>
        intro f t hk hf ht hi2 hB
        have hall : Lt r (i :: t) := Lt.cons.mpr ⟨hi2, ht⟩
        have tl : (i :: t).length ≤ B := by simp; omega
        rcases top_or f i with hz | ⟨l, h1, h2, h3, h4⟩
        · by_cases hs : f.getD i 0 + 1 = r.sz.getD i 0
          · have st := MSt.power (r := r) f t i hz hs
            have ok := st.ok hv hf hall
            have pf := hv.pwOk hi2
            have pl := pf.wlen hv.sz
            obtain ⟨g, hg, rg⟩ := rch_word hv j (i := i + 1) (f := f.set i 0) (u := wordL (pwF r i)) (t := t) (by omega) ok.1 pf.lt ht (fun x hx => (pf.word hx).1) (by omega)
            exact ⟨g, hg, .step st tl rg⟩
          · have st := MSt.place (r := r) f t i hz hs
            exact ⟨_, (st.ok hv hf hall).1, .step st tl (.done _ _)⟩
        · have := sum_set (f := f) (l := l) (x := 0) h2
          omega
      | succ k ih =>
        intro f t hk hf ht hi2 hB
        have hall : Lt r (i :: t) := Lt.cons.mpr ⟨hi2, ht⟩
        have tl : (i :: t).length ≤ B := by simp; omega
        rcases top_or f i with hz | ⟨l, h1, h2, h3, h4⟩
        · by_cases hs : f.getD i 0 + 1 = r.sz.getD i 0
          · have st := MSt.power (r := r) f t i hz hs
            have ok := st.ok hv hf hall
            have pf := hv.pwOk hi2
            have pl := pf.wlen hv.sz
            obtain ⟨g, hg, rg⟩ := rch_word hv j (i := i + 1) (f := f.set i 0) (u := wordL (pwF r i)) (t := t) (by omega) ok.1 pf.lt ht (fun x hx => (pf.word hx).1) (by omega)
            exact ⟨g, hg, .step st tl rg⟩
          · have st := MSt.place (r := r) f t i hz hs
            exact ⟨_, (st.ok hv hf hall).1, .step st tl (.done _ _)⟩
        · have st := MSt.exch (r := r) f t l i h2 h3 h4 h1
          have ok := st.ok hv hf hall
          have hl2 : l < r.sz.length := by rw [← hf.1]; exact h2
          have pf := hv.exOk h1 hl2
          have pl := pf.wlen hv.sz
          have sm := sum_set (f := f) (l := l) (x := f.getD l 0 - 1) h2
          obtain ⟨g1, hg1, r1⟩ := ih (f := f.set l (f.getD l 0 - 1)) (t := wordL (exF r i l) ++ t) (by omega) ok.1 (Lt.app.mpr ⟨pf.lt, ht⟩) hi2 (by simp; omega)
          obtain ⟨g, hg, rg⟩ := rch_word hv j (i := i + 1) (f := g1) (u := wordL (exF r i l)) (t := t) (by omega) hg1 pf.lt ht (fun x hx => (pf.word hx).1) (by omega)
          exact ⟨g, hg, .step st tl (r1.trans rg)⟩
    induction u generalizing f with
    | nil => exact ⟨f, hf, .done _ _⟩
    | cons x u ih =>
      rw [Lt.cons] at hu
      simp only [List.length_cons] at hB
      have hx := hi x List.mem_cons_self
      have step1 : ∃ g, Fm r g ∧ Rch r B f (x :: (u ++ t)) g (u ++ t) := by
        by_cases e : x = i
        · subst e
          exact one 35 (hf.sum35 hv) hf (Lt.app.mpr ⟨hu.2, ht⟩) hu.1 (by simp; omega)
        · exact rch_word hv j (i := i + 1) (f := f) (u := [x]) (t := u ++ t) (by omega) hf (Lt.cons.mpr ⟨hu.1, Lt.nil⟩) (Lt.app.mpr ⟨hu.2, ht⟩) (fun y hy => by rw [List.mem_singleton.mp hy]; omega) (by simp; omega)
      obtain ⟨g1, hg1, r1⟩ := step1
      obtain ⟨g, hg, rg⟩ := ih (f := g1) hg1 hu.2 (fun y hy => hi y (List.mem_cons_of_mem _ hy)) (by omega)
      exact ⟨g, hg, r1.trans rg⟩
theorem rch_one (hv : Vd r) {f : List Nat} {h : Nat} (hf : Fm r f) (hh : h < r.sz.length) : ∃ g, Fm r g ∧ Rch r 10000 f [h] g [] := by
  have h5 := hv.sz.len
  have := rch_word (B := 10000) hv 5 (i := 0) (f := f) (u := [h]) (t := []) (by omega) hf (Lt.cons.mpr ⟨hh, Lt.nil⟩) Lt.nil (fun _ _ => Nat.zero_le _) (by simp)
  simpa using this
end
/-! ### the program's loop -/
theorem set_same {α : Type} {l : List α} {n : Nat} {a : α} (h : l[n]? = some a) : l.set n a = l := by
  obtain ⟨h1, h2⟩ := List.getElem?_eq_some_iff.mp h
  rw [← h2, List.set_getElem_self]
theorem s_ne4 : (("exchange" : Str) == "sizes") = false := by decide +kernel
theorem s_ne5 : (("exchange" : Str) == "powers") = false := by decide +kernel
theorem s_ne6 : (("exchange" : Str) == "swaps") = false := by decide +kernel
section
variable {r : Ru} {S : Sto} {w d n : Nat}
def putR (w n m : Nat) (x2 x4 x5 x6 : Option D) : Fr := [some (.ref w), some (.ref n), x2, some (.ref m), x4, x5, x6]
def putS (S : Sto) (n : Nat) (f t : List Nat) : Sto := S.set n (.lst (f.map iD)) ++ [.lst (t.reverse.map iD)]
theorem put_turn (hv : Vd r) (hw : WaysAt S w d r) (h1 : n ≠ w) (h2 : n ≠ d) (hn : n < S.length) {f t f1 t1 : List Nat} (st : MSt r f t f1 t1) (hf : Fm r f) (ht : Lt r t) (hl : t.length ≤ 10000) (x2 x4 x5 x6 : Option D) :
    Ok (putB (putR w n S.length x2 x4 x5 x6) (putS S n f t)) fun fl S' => ∃ y4 y5, fl = .nx (putR w n S.length x2 y4 y5 x6) ∧ S' = putS S n f1 t1 := by
  obtain ⟨h, t0, rfl⟩ : ∃ h t0, t = h :: t0 := by cases st <;> exact ⟨_, _, rfl⟩
  rw [Lt.cons] at ht
  have fl5 : f.length ≤ 5 := by rw [hf.1]; exact hv.sz.len
  have hl0 : t0.length ≤ 10000 := by simp only [List.length_cons] at hl; omega
  obtain ⟨P, hP⟩ : ∃ P : Fl → Sto → Prop, ∀ fl S', P fl S' ↔ ∃ y4 y5, fl = .nx (putR w n S.length x2 y4 y5 x6) ∧ S' = putS S n f1 t1 := ⟨_, fun _ _ => Iff.rfl⟩
  suffices hs : Ok (putB (putR w n S.length x2 x4 x5 x6) (putS S n f (h :: t0))) P from hs.imp fun a T q => (hP _ _).mp q
  have p1 : fPop (.ref S.length) [] (putS S n f (h :: t0)) = some (iD h, putS S n f t0) := by
    have := fPop_last (S := putS S n f (h :: t0)) (m := S.length) (l := t0.reverse) (h := h) (by simp [putS])
    rw [this]
    simp [putS]
  have i1 : isL (.ref S.length) (putS S n f (h :: t0)) = true := isL_2
  have i2 : ∀ g u, isL (.ref S.length) (putS S n g u) = true := fun g u => isL_2
  have fAt : ∀ g u, (putS S n g u)[n]? = some (.lst (g.map iD)) := fun g u => by
    unfold putS
    rw [sto_lo (by simpa using hn), List.getElem?_set_self hn]
  have fl : ∀ g u, fLen [.ref n] (putS S n g u) = some (iD g.length) := fun g u => by
    rw [fLen_ref (fAt g u)]
    simp [iD]
  have r1 : rangeIt [iD f.length] = some (rangeD 0 f.length, []) := range_is (by omega)
  obtain ⟨m, hm, m1, m2⟩ := last_ok f
  have ad : ∀ (l : List D) T, l.length ≤ 1000 → dAdd (.lv l) (.lv [.int (-1)]) T = some (.lv (l ++ [.int (-1)])) := fun l T h => dAdd_l (by simp; omega)
  have lc : ∀ ρ, lcGo [] (lcB1 6) (mT (mOp dGt (mOp dIx (mVar 1) (mVar 6)) (mC (.int 0)))) (mVar 6) (putR w n S.length x2 ρ x5 none) (rangeD 0 f.length) (putS S n f t0) = .ok (((List.range f.length).filter fun k => decide (0 < f.getD k 0)).map iD) (putS S n f t0) := fun ρ => by
    rw [lcGo_filter (fun d => match d with
      | .int k => decide (0 < f.getD k.toNat 0)
      | _ => false) id gOk_nil (fun d hd => ?_)]
    · congr 1
      rw [List.map_id]
      unfold rangeD
      rw [List.filter_map]
      have : ((fun (i : Nat) => D.int (0 + (i : Int)))) = iD := by funext i; simp [iD]
      rw [this]
      rfl
    · obtain ⟨k, hk, rfl⟩ := List.mem_map.mp hd
      have hk2 : k < f.length := by simpa using hk
      have g1 := get_ref (fAt f t0) hk2
      refine ⟨_, rfl, ?_, fun _ => ?_⟩
      · simp [putR]
        have g2 : dIx (.ref n) (.int (k : Int)) (putS S n f t0) = some (iD (f.getD k 0)) := g1
        rw [g2]
        simp
      · simp [putR]
  have hll : (((List.range f.length).filter fun k => decide (0 < f.getD k 0)).map iD).length ≤ 1000 := by
    have : (((List.range f.length).filter fun k => decide (0 < f.getD k 0))).length ≤ (List.range f.length).length := List.length_filter_le _ _
    simp only [List.length_map, List.length_range] at this ⊢
    omega
  have fl6 : f.length ≤ 1000000 := by omega
  have lc2 := lc (some (iD h))
  obtain ⟨L, hL⟩ : ∃ L, L = ((List.range f.length).filter fun k => decide (0 < f.getD k 0)).map iD := ⟨_, rfl⟩
  rw [← hL] at lc2 hm hll
  unfold putB
  simp only [putR] at lc2 ⊢
  have pS : ∀ g u g2, (putS S n g u).set n (.lst (g2.map iD)) = putS S n g2 u := fun g u g2 => by
    unfold putS
    rw [List.set_append_left _ _ (by simpa using hn), List.set_set]
  have pT : ∀ g u u2, (putS S n g u).set S.length (.lst ((u2.reverse).map iD)) = putS S n g u2 := fun g u u2 => by
    unfold putS
    simp
  have gt : ∀ {k : Nat} g u, k < g.length → dIx (.ref n) (.int (k : Int)) (putS S n g u) = some (.int ((g.getD k 0 : Nat) : Int)) := fun g u hk => get_ref (fAt g u) hk
  have st2 : ∀ {k : Nat} (x : Nat) g u, k < g.length → fSetL (.ref n) (.int (k : Int)) (.int (x : Int)) (putS S n g u) = some (putS S n (g.set k x) u) := fun x g u hk => by
    have := set_ref (x := x) (fAt g u) hk
    rw [pS] at this
    exact this
  have ext : ∀ (k : List Nat) g u, u.length + k.length ≤ 1000000 → fExtA (.ref S.length) [.tup (k.map iD).reverse] (putS S n g u) = some (.non, putS S n g (k ++ u)) := fun k g u hz => by
    have a : (putS S n g u)[S.length]? = some (.lst (u.reverse.map iD)) := by simp [putS]
    rw [← List.map_reverse, fExtA_t a (by simpa using hz), ← List.reverse_append, pT]
  have hwS : ∀ g u, WaysAt (putS S n g u) w d r := fun g u => (hw.set h1 h2).app
  cases st with
  | exch t l h hl h0 hz hh =>
    have em := m1 l hl h0 hz
    subst em
    have hl2 : l < r.sz.length := by rw [← hf.1]; exact hl
    have g1 := gt f t0 hl
    have g2 := st2 (f.getD l 0 - 1) f t0 hl
    rw [show ((f.getD l 0 - 1 : Nat) : Int) = ((f.getD l 0 : Nat) : Int) - 1 by omega] at g2
    have wl := (hv.exOk hh hl2).wlen hv.sz
    have g3 := exchange_ok hv (hwS (f.set l (f.getD l 0 - 1)) t0) hh hl2
    have g4 := insOf_at (hwS (f.set l (f.getD l 0 - 1)) t0).at_
    have g5 := ext (h :: wordL (exF r h l)) (f.set l (f.getD l 0 - 1)) t0 (by simp only [List.length_cons]; omega)
    have g6 : List.lookup (("exchange" : Str)) (waysF r d) = none := by simp [waysF, List.lookup, s_ne4, s_ne5, s_ne6]
    have g7 : ∀ (k : List Nat) T, dBack (nT k) T = some (.tup (k.map iD).reverse) := fun _ _ => rfl
    obtain ⟨K, hK⟩ : ∃ K, K = h :: wordL (exF r h l) := ⟨_, rfl⟩
    rw [← hK] at g3 g5
    simp [p1, i1, fl, r1, lc2, ad _ _ hll, hm, fl6, hh, g1, g2, g3, g4, g5, g6, g7, i2, -List.getD_eq_getElem?_getD, -List.map_reverse, -List.reverse_cons]
    refine (hP _ _).mpr ⟨_, _, rfl, ?_⟩
    rw [hK]
  | place _ h hz hs =>
    have em := m2 h hz
    have hl : h < f.length := by rw [hf.1]; exact ht.1
    have g1 := gt f t1 hl
    have g2 := st2 (f.getD h 0 + 1) f t1 hl
    have g3 := gt (f.set h (f.getD h 0 + 1)) t1 (k := h) (by simpa using hl)
    have g4 := (hwS (f.set h (f.getD h 0 + 1)) t1).f1
    have g5 : (f.set h (f.getD h 0 + 1)).getD h 0 = f.getD h 0 + 1 := by rw [getD_set, if_pos ⟨rfl, hl⟩]
    rw [g5] at g3
    rw [show ((f.getD h 0 + 1 : Nat) : Int) = ((f.getD h 0 : Nat) : Int) + 1 from rfl] at g2 g3
    have g6 : ∀ T, dIx (nT r.sz) (.int (h : Int)) T = some (.int ((r.sz.getD h 0 : Nat) : Int)) := fun T => atI_some (by simp [ht.1])
    have g7 : ¬ m > (h : Int) := by omega
    have g8 : ¬ ((f.getD h 0 : Nat) : Int) + 1 = ((r.sz.getD h 0 : Nat) : Int) := by omega
    simp [p1, i1, fl, r1, lc2, ad _ _ hll, hm, fl6, g1, g2, g3, g4, g6, g7, g8, -List.getD_eq_getElem?_getD]
    exact (hP _ _).mpr ⟨_, _, rfl, rfl⟩
  | power t h hz hs =>
    have em := m2 h hz
    have hl : h < f.length := by rw [hf.1]; exact ht.1
    have g1 := gt f t0 hl
    have g2 := st2 (f.getD h 0 + 1) f t0 hl
    have g3 := gt (f.set h (f.getD h 0 + 1)) t0 (k := h) (by simpa using hl)
    have g4 := (hwS (f.set h (f.getD h 0 + 1)) t0).f1
    have g5 : (f.set h (f.getD h 0 + 1)).getD h 0 = f.getD h 0 + 1 := by rw [getD_set, if_pos ⟨rfl, hl⟩]
    rw [g5] at g3
    rw [show ((f.getD h 0 + 1 : Nat) : Int) = ((f.getD h 0 : Nat) : Int) + 1 from rfl] at g2 g3
    have g6 : ∀ T, dIx (nT r.sz) (.int (h : Int)) T = some (.int ((r.sz.getD h 0 : Nat) : Int)) := fun T => atI_some (by simp [ht.1])
    have g7 : ¬ m > (h : Int) := by omega
    have g8 : ((f.getD h 0 : Nat) : Int) + 1 = ((r.sz.getD h 0 : Nat) : Int) := by omega
    rw [g8] at g2 g3
    have ha := st2 0 (f.set h (f.getD h 0 + 1)) t0 (k := h) (by simpa using hl)
    rw [List.set_set, show ((0 : Nat) : Int) = 0 from rfl] at ha
    have hb := (hwS (f.set h 0) t0).f2
    have hc : ∀ T, dIx (.lv (r.pw.map fun f => nT (wordL f))) (.int (h : Int)) T = some (nT (wordL (pwF r h))) := fun T => by
      have h1 : h < r.pw.length := by rw [hv.pl]; exact ht.1
      have : (r.pw.map fun f => nT (wordL f))[h]? = some (nT (wordL (pwF r h))) := by simp [pwF, h1]
      exact atI_some this
    have wl := (hv.pwOk ht.1).wlen hv.sz
    have hd := ext (wordL (pwF r h)) (f.set h 0) t0 (by omega)
    have he : ∀ (k : List Nat) T, dBack (nT k) T = some (.tup (k.map iD).reverse) := fun _ _ => rfl
    simp [p1, i1, fl, r1, lc2, ad _ _ hll, hm, fl6, g1, g2, g3, g4, g6, g7, g8, ha, hb, hc, hd, he, i2, -List.getD_eq_getElem?_getD]
    exact (hP _ _).mpr ⟨_, _, rfl, rfl⟩
theorem put_loop (hv : Vd r) (hw : WaysAt S w d r) (h1 : n ≠ w) (h2 : n ≠ d) (hn : n < S.length) {f t g t2 : List Nat} (a : Rch r 10000 f t g t2) (e : t2 = []) (hf : Fm r f) (ht : Lt r t) (x2 x4 x5 x6 : Option D) :
    ∃ y4 y5, mWhile putC putB (putR w n S.length x2 x4 x5 x6) (putS S n f t) = .ok (.nx (putR w n S.length x2 y4 y5 x6)) (putS S n g []) := by
  have cnd : ∀ f t y4 y5, putC (putR w n S.length x2 y4 y5 x6) (putS S n f t) = .ok (decide (t ≠ [])) (putS S n f t) := fun f t y4 y5 => by
    have a : (putS S n f t)[S.length]? = some (.lst (t.reverse.map iD)) := by simp [putS]
    refine ok_eq ?_
    unfold putC putR
    simp [dNe_nil a]
  induction a generalizing x4 x5 with
  | done f t =>
    subst e
    refine ⟨x4, x5, ?_⟩
    rw [mWhile_unfold, cnd]
    rfl
  | @step f t f1 t1 f2 t2 st hb b ih =>
    have ok := st.ok hv hf ht
    obtain ⟨a, T, e1, y4, y5, rfl, rfl⟩ := (put_turn hv hw h1 h2 hn st hf ht hb x2 x4 x5 x6).eq
    obtain ⟨z4, z5, e2⟩ := ih e ok.1 ok.2 y4 y5
    refine ⟨z4, z5, ?_⟩
    have tn : t ≠ [] := by cases st <;> simp
    rw [mWhile_unfold, cnd, decide_eq_true tn, Res.bind_ok, if_pos rfl, e1, Res.bind_ok]
    exact e2
theorem put_run (hv : Vd r) (hw : WaysAt S w d r) (h1 : n ≠ w) (h2 : n ≠ d) {f g : List Nat} {h : Nat} (e : S[n]? = some (.lst (f.map iD))) (a : Rch r 10000 f [h] g []) (hf : Fm r f) (hh : h < r.sz.length) : f_Ways_put [.ref w, .ref n, iD h] S = .ok .non (S.set n (.lst (g.map iD))) := by
  have hn := (List.getElem?_eq_some_iff.mp e).1
  have e0 : putS S n f [h] = S ++ [.lst [iD h]] := by
    unfold putS
    rw [set_same e]
    rfl
  obtain ⟨y4, y5, lp⟩ := put_loop hv hw h1 h2 hn a rfl hf (Lt.cons.mpr ⟨hh, Lt.nil⟩) (some (iD h)) none none none
  have c : mkFn 7 m_Ways_put [.ref w, .ref n, iD h] S = .ok .non (putS S n g []) := by
    refine ok_eq ?_
    rw [mkFn_ap, put_eq]
    rw [e0] at lp
    unfold putR at lp
    simp [lp]
  show trunc (mkFn 7 m_Ways_put) [.ref w, .ref n, iD h] S = _
  rw [trunc_val c (by unfold putS; exact good_set (lowDs_iff.mpr fun x hx => by obtain ⟨y, _, rfl⟩ := List.mem_map.mp hx; rfl)) rfl]
  simp [putS]
theorem put_ok (hv : Vd r) {act : List Nat → Nat → List Nat} (md : Mdl r act) (hw : WaysAt S w d r) (h1 : n ≠ w) (h2 : n ≠ d) {f : List Nat} {h : Nat} (e : S[n]? = some (.lst (f.map iD))) (hf : Fm r f) (hh : h < r.sz.length) : f_Ways_put [.ref w, .ref n, iD h] S = .ok .non (S.set n (.lst ((act f h).map iD))) := by
  obtain ⟨g, hg, a⟩ := rch_one hv hf hh
  have := (a.run rfl).acts hv md hf (Lt.cons.mpr ⟨hh, Lt.nil⟩)
  rw [show act f h = g from this]
  exact put_run hv hw h1 h2 e a hf hh
end
end MP

/-! Q, part u: the first step of a word, and what letters put behind a form come to by first steps. -/
namespace MP
open PySem L2
def stepAt (r : Ru) (w : List Nat) (i : Nat) : Option (List Nat) :=
  if (w.drop i).take (r.sz.getD (w.getD i 0) 0) = List.replicate (r.sz.getD (w.getD i 0) 0) (w.getD i 0) then some (w.take i ++ wordL (pwF r (w.getD i 0)) ++ w.drop (i + r.sz.getD (w.getD i 0) 0))
  else if i + 1 < w.length ∧ w.getD (i + 1) 0 < w.getD i 0 then some (w.take i ++ w.getD (i + 1) 0 :: wordL (exF r (w.getD (i + 1) 0) (w.getD i 0)) ++ w.drop (i + 2)) else none
def firstS (r : Ru) (w : List Nat) : Option (List Nat) := (List.range w.length).findSome? (stepAt r w)
section
variable {r : Ru}
theorem getD_lt {w : List Nat} {i : Nat} (hi : i < w.length) : w[i]? = some (w.getD i 0) := by
  rw [List.getElem?_eq_getElem hi, List.getD_eq_getElem?_getD, List.getElem?_eq_getElem hi]
  rfl
theorem Lt.at {w : List Nat} (h : Lt r w) {i : Nat} (hi : i < w.length) : w.getD i 0 < r.sz.length := h _ (List.mem_of_getElem? (getD_lt hi))
theorem stepAt_step {w w' : List Nat} {i : Nat} (hl : Lt r w) (hi : i < w.length) (h : stepAt r w i = some w') : StepW r w w' := by
  have hx := hl.at hi
  unfold stepAt at h
  split at h
  · rename_i e
    cases h
    have := StepW.pw (r := r) (w.take i) (w.drop (i + r.sz.getD (w.getD i 0) 0)) (w.getD i 0) hx
    rw [← e] at this
    have e2 : w.take i ++ (w.drop i).take (r.sz.getD (w.getD i 0) 0) ++ w.drop (i + r.sz.getD (w.getD i 0) 0) = w := by
      rw [← List.drop_drop, List.append_assoc, List.take_append_drop, List.take_append_drop]
    rwa [e2] at this
  · split at h
    · rename_i e
      cases h
      have := StepW.ex (r := r) (w.take i) (w.drop (i + 2)) (w.getD (i + 1) 0) (w.getD i 0) e.2 hx
      have e2 : w.take i ++ [w.getD i 0, w.getD (i + 1) 0] ++ w.drop (i + 2) = w := by
        have d1 : w.drop i = w.getD i 0 :: w.getD (i + 1) 0 :: w.drop (i + 2) := by
          rw [List.drop_eq_getElem_cons hi, List.drop_eq_getElem_cons e.1]
          congr 1
          · have := getD_lt hi
            rw [List.getElem?_eq_getElem hi] at this
            exact Option.some.inj this
          · congr 1
            have := getD_lt e.1
            rw [List.getElem?_eq_getElem e.1] at this
            exact Option.some.inj this
        have := List.take_append_drop i w
        rw [d1] at this
        simpa using this
      rwa [e2] at this
    · cases h
theorem firstS_step {w w' : List Nat} (hl : Lt r w) (h : firstS r w = some w') : StepW r w w' := by
  obtain ⟨i, hi, e⟩ := List.exists_of_findSome?_eq_some h
  exact stepAt_step hl (List.mem_range.mp hi) e
theorem firstS_none (hv : Vd r) {w : List Nat} (h : firstS r w = none) : NoStep r w := fun w' s => by
  have hn : ∀ i, i < w.length → stepAt r w i = none := fun i hi => List.findSome?_eq_none_iff.mp h i (List.mem_range.mpr hi)
  cases s with
  | pw u v i hi =>
    have sz := hv.sz.pos hi
    have e := hn u.length (by simp only [List.length_append, List.length_replicate]; omega)
    have g : (u ++ List.replicate (r.sz.getD i 0) i ++ v).getD u.length 0 = i := by
      rw [List.append_assoc, List.getD_eq_getElem?_getD, List.getElem?_append_right (Nat.le_refl _), Nat.sub_self]
      obtain ⟨k, hk⟩ : ∃ k, r.sz.getD i 0 = k + 1 := ⟨r.sz.getD i 0 - 1, by omega⟩
      rw [hk, List.replicate_succ]
      rfl
    unfold stepAt at e
    rw [g] at e
    rw [if_pos (by simp)] at e
    cases e
  | ex u v i j hij hj =>
    have e := hn u.length (by simp)
    have g : (u ++ [j, i] ++ v).getD u.length 0 = j := by
      rw [List.append_assoc, List.getD_eq_getElem?_getD, List.getElem?_append_right (Nat.le_refl _), Nat.sub_self]
      rfl
    have g2 : (u ++ [j, i] ++ v).getD (u.length + 1) 0 = i := by
      rw [List.append_assoc, List.getD_eq_getElem?_getD, List.getElem?_append_right (by omega), Nat.add_sub_cancel_left]
      rfl
    unfold stepAt at e
    rw [g, g2] at e
    split at e
    · cases e
    · rw [if_pos ⟨by simp only [List.length_append, List.length_cons, List.length_nil]; omega, hij⟩] at e
      cases e
theorem find_at {α : Type} {f : Nat → Option α} {n k : Nat} {a : α} (hk : k < n) (h0 : ∀ i, i < k → f i = none) (ha : f k = some a) : (List.range n).findSome? f = some a := by
  obtain ⟨m, rfl⟩ : ∃ m, n = k + (m + 1) := ⟨n - k - 1, by omega⟩
  rw [List.range_add, List.findSome?_append]
  have : (List.range k).findSome? f = none := List.findSome?_eq_none_iff.mpr fun i hi => h0 i (List.mem_range.mp hi)
  rw [this, Option.none_or, List.range_succ_eq_map, List.map_cons, List.findSome?_cons, Nat.add_zero, ha]
theorem wordF_sorted : ∀ {f : List Nat} {k : Nat}, (wordF k f).Pairwise (· ≤ ·)
  | [], _ => .nil
  | x :: f, k => by
    simp only [wordF]
    rw [List.pairwise_append]
    refine ⟨?_, wordF_sorted, fun a ha b hb => ?_⟩
    · rw [List.pairwise_replicate]
      exact .inr (Nat.le_refl _)
    · obtain ⟨i, _, rfl, _⟩ := wordF_mem hb
      rw [(List.mem_replicate.mp ha).2]
      omega
theorem plain_no {f : List Nat} (hf : Fm r f) : NoStep r (wordL f) := fun w' s => by
  generalize hw : wordL f = w at s
  cases s with
  | pw u v i hi =>
    have h1 : (wordL f).count i = f.getD i 0 := wordL_count
    have h2 := (hf.2 i hi).1
    rw [hw, List.count_append, List.count_append, List.count_replicate_self] at h1
    omega
  | ex u v i j hij hj =>
    have h1 : (wordL f).Pairwise (· ≤ ·) := wordF_sorted
    rw [hw, List.append_assoc, List.pairwise_append] at h1
    have h2 := h1.2.1
    simp only [List.cons_append, List.nil_append, List.pairwise_cons] at h2
    have := h2.1 i (by simp)
    omega
theorem getD_app_l {u v : List Nat} {i : Nat} (h : i < u.length) : (u ++ v).getD i 0 = u.getD i 0 := by
  rw [getD_app, if_pos h]
theorem getD_app_r {u v : List Nat} {i : Nat} : (u ++ v).getD (u.length + i) 0 = v.getD i 0 := by
  rw [getD_app, if_neg (by omega), Nat.add_sub_cancel_left]
/-- a place at which a step is found: what stands there -/
theorem stepAt_cases {w w' : List Nat} {i : Nat} (h : stepAt r w i = some w') : (∀ k, k < r.sz.getD (w.getD i 0) 0 → i + k < w.length ∧ w.getD (i + k) 0 = w.getD i 0) ∨ (i + 1 < w.length ∧ w.getD (i + 1) 0 < w.getD i 0) := by
  unfold stepAt at h
  split at h
  · rename_i e
    left
    intro k hk
    have h1 : ((w.drop i).take (r.sz.getD (w.getD i 0) 0))[k]? = some (w.getD i 0) := by
      rw [e, List.getElem?_replicate, if_pos hk]
    rw [List.getElem?_take_of_lt hk, List.getElem?_drop] at h1
    have h2 := (List.getElem?_eq_some_iff.mp h1).1
    refine ⟨h2, ?_⟩
    rw [getD_lt h2] at h1
    exact Option.some.inj h1
  · split at h
    · rename_i e
      exact .inr e
    · cases h
/-- nothing can be done in a plain word -/
theorem within (hv : Vd r) {f v : List Nat} {i : Nat} {w' : List Nat} (hf : Fm r f) (h : stepAt r (wordL f ++ v) i = some w') (hi : i < (wordL f).length) : (∃ k, k < r.sz.getD ((wordL f).getD i 0) 0 ∧ (∀ m, m < r.sz.getD ((wordL f).getD i 0) 0 → i + m < (wordL f ++ v).length ∧ (wordL f ++ v).getD (i + m) 0 = (wordL f).getD i 0) ∧ i + k = (wordL f).length) ∨ (i + 1 = (wordL f).length ∧ v.getD 0 0 < (wordL f).getD i 0 ∧ 0 < v.length) := by
  have gi : (wordL f ++ v).getD i 0 = (wordL f).getD i 0 := getD_app_l hi
  have hx : (wordL f).getD i 0 < r.sz.length := hf.lt.at hi
  rcases stepAt_cases h with c | ⟨c1, c2⟩
  · rw [gi] at c
    by_cases e : i + r.sz.getD ((wordL f).getD i 0) 0 ≤ (wordL f).length
    · exfalso
      obtain ⟨x, hxe⟩ : ∃ x, x = (wordL f).getD i 0 := ⟨_, rfl⟩
      rw [← hxe] at c e hx
      have eq : wordL f = (wordL f).take i ++ List.replicate (r.sz.getD x 0) x ++ (wordL f).drop (i + r.sz.getD x 0) := by
        have e2 : ((wordL f).drop i).take (r.sz.getD x 0) = List.replicate (r.sz.getD x 0) x := by
          refine List.ext_getElem (by simp only [List.length_take, List.length_drop, List.length_replicate]; omega) fun k h1 h2 => ?_
          have hk : k < r.sz.getD x 0 := by simpa using h2
          obtain ⟨c1, c2⟩ := c k hk
          have l1 : i + k < (wordL f).length := by omega
          rw [getD_app_l l1] at c2
          have := getD_lt l1
          rw [List.getElem?_eq_getElem l1, c2] at this
          simpa using this
        rw [← e2, List.append_assoc, ← List.drop_drop, List.take_append_drop, List.take_append_drop]
      exact plain_no hf _ (by rw [eq]; exact .pw _ _ x hx)
    · exact .inl ⟨(wordL f).length - i, Nat.sub_lt_left_of_lt_add (by omega) (by omega), c, by omega⟩
  · rw [gi] at c2
    by_cases e : i + 1 < (wordL f).length
    · exfalso
      rw [getD_app_l e] at c2
      have s : (wordL f).Pairwise (· ≤ ·) := wordF_sorted
      have := List.pairwise_iff_getElem.mp s i (i + 1) hi e (by omega)
      have g1 := getD_lt hi
      have g2 := getD_lt e
      rw [List.getElem?_eq_getElem hi] at g1
      rw [List.getElem?_eq_getElem e] at g2
      rw [Option.some.inj g1, Option.some.inj g2] at this
      omega
    · refine .inr ⟨by omega, ?_, ?_⟩
      · have : i + 1 = (wordL f).length + 0 := by omega
        rw [this, getD_app_r] at c2
        exact c2
      · simp at c1
        omega
theorem mst_first (hv : Vd r) {f t f1 t1 : List Nat} (st : MSt r f t f1 t1) (hf : Fm r f) (ht : Lt r t) : (wordL f ++ t = wordL f1 ++ t1) ∨ firstS r (wordL f ++ t) = some (wordL f1 ++ t1) := by
  cases st with
  | exch t l h hl h0 hz hh =>
    right
    have e1 := wordF_top (k := 0) hl hz
    have e2 := wordF_set (k := 0) (f.getD l 0 - 1) hl hz
    obtain ⟨c, hc⟩ : ∃ c, f.getD l 0 = c + 1 := ⟨f.getD l 0 - 1, by omega⟩
    rw [hc] at e1 e2 ⊢
    obtain ⟨Y, hY⟩ : ∃ Y, Y = wordL (f.set l (c + 1 - 1)) := ⟨_, rfl⟩
    have eY : wordL f = Y ++ [l] := by
      rw [hY]
      show wordF 0 f = wordF 0 (f.set l (c + 1 - 1)) ++ [l]
      rw [e1, e2]
      simp [List.replicate_succ']
    have hl2 : l < r.sz.length := by rw [← hf.1]; exact hl
    have s2 := hv.sz.pos hl2
    rw [← hY]
    have len : (wordL f).length = Y.length + 1 := by rw [eY]; simp
    refine find_at (k := Y.length) (by simp; omega) (fun i hi => ?_) ?_
    · cases he : stepAt r (wordL f ++ h :: t) i with
      | none => rfl
      | some w' =>
        exfalso
        rcases within hv hf he (by omega) with ⟨k, k1, k2, k3⟩ | ⟨k1, _, _⟩
        · have a1 := (k2 k k1).2
          have a2 := (k2 (k - 1) (by omega)).2
          have g1 : (wordL f ++ h :: t).getD (i + k) 0 = h := by
            rw [show i + k = (wordL f).length + 0 by omega, getD_app_r]
            rfl
          have g2 : (wordL f ++ h :: t).getD (i + (k - 1)) 0 = l := by
            rw [show i + (k - 1) = Y.length + 0 by omega, eY, List.append_assoc, getD_app_r]
            rfl
          omega
        · omega
    · have g1 : (wordL f ++ h :: t).getD Y.length 0 = l := by
        rw [eY, List.append_assoc, show Y.length = Y.length + 0 by rfl, getD_app_r]
        rfl
      have g2 : (wordL f ++ h :: t).getD (Y.length + 1) 0 = h := by
        rw [eY, List.append_assoc, getD_app_r]
        rfl
      unfold stepAt
      rw [g1, g2]
      rw [if_neg ?_, if_pos ⟨by simp; omega, hh⟩]
      · congr 1
        rw [eY]
        simp
      · intro e
        have h1 : (((wordL f ++ h :: t).drop Y.length).take (r.sz.getD l 0))[1]? = some l := by
          rw [e, List.getElem?_replicate, if_pos (by omega)]
        rw [List.getElem?_take_of_lt (by omega), List.getElem?_drop, getD_lt (by simp; omega), g2] at h1
        cases h1
        omega
  | place _ h hz hs =>
    left
    have hl : h < f.length := by rw [hf.1]; exact (Lt.cons.mp ht).1
    have e1 := wordF_top (k := 0) hl hz
    have e2 := wordF_set (k := 0) (f.getD h 0 + 1) hl hz
    show wordF 0 f ++ h :: t1 = wordF 0 (f.set h (f.getD h 0 + 1)) ++ t1
    rw [e1, e2]
    simp [List.replicate_succ']
  | power t h hz hs =>
    right
    have hn := (Lt.cons.mp ht).1
    have hl : h < f.length := by rw [hf.1]; exact hn
    have e1 := wordF_top (k := 0) hl hz
    have s2 := hv.sz.pos hn
    obtain ⟨Y, hY⟩ : ∃ Y, Y = wordL (f.set h 0) := ⟨_, rfl⟩
    have fY : Fm r (f.set h 0) := hf.set fun hx => by omega
    have eW : wordL f ++ h :: t = Y ++ (List.replicate (r.sz.getD h 0) h ++ t) := by
      rw [hY]
      show wordF 0 f ++ h :: t = wordF 0 (f.set h 0) ++ (List.replicate (r.sz.getD h 0) h ++ t)
      rw [e1, ← hs]
      simp [List.replicate_succ']
    have ltY : ∀ x ∈ Y, x < h := fun x hx => by
      rw [hY] at hx
      obtain ⟨i, h1, rfl, h2⟩ := wordF_mem hx
      rw [getD_set] at h2
      rw [Nat.zero_add]
      split at h2
      · omega
      · rename_i hne
        have h1' : i < f.length := by simpa using h1
        by_cases hi : h < i
        · have := hz i hi h1'
          omega
        · by_cases e : h = i
          · exact absurd ⟨e, h1'⟩ hne
          · omega
    rw [eW, ← hY]
    have hd : (List.replicate (r.sz.getD h 0) h ++ t).getD 0 0 = h := by
      obtain ⟨k, hk⟩ : ∃ k, r.sz.getD h 0 = k + 1 := ⟨r.sz.getD h 0 - 1, by omega⟩
      rw [hk, List.replicate_succ]
      rfl
    refine find_at (k := Y.length) (by simp only [List.length_append, List.length_replicate]; omega) (fun i hi => ?_) ?_
    · cases he : stepAt r (Y ++ (List.replicate (r.sz.getD h 0) h ++ t)) i with
      | none => rfl
      | some w' =>
        exfalso
        have mx : (wordL (f.set h 0)).getD i 0 < h := by
          rw [← hY]
          exact ltY _ (List.mem_of_getElem? (getD_lt hi))
        rw [hY] at he hi
        rcases within hv fY he hi with ⟨k, k1, k2, k3⟩ | ⟨k1, k2, _⟩
        · have a1 := (k2 k k1).2
          rw [show i + k = (wordL (f.set h 0)).length + 0 by omega, getD_app_r, hd] at a1
          omega
        · rw [hd] at k2
          omega
    · have g1 : (Y ++ (List.replicate (r.sz.getD h 0) h ++ t)).getD Y.length 0 = h := by
        rw [show Y.length = Y.length + 0 by rfl, getD_app_r, hd]
      unfold stepAt
      rw [g1, if_pos (by simp)]
      congr 1
      simp
end
end MP

/-! Q, part v: the law's own step of a word. -/
namespace MP
open PySem L2
section
variable {S : Sto}
theorem eqvAll_n : ∀ {a b : List Nat}, PyData.eqvAll (a.map fun (y : Nat) => PyData.int (y : Int)) (b.map fun (y : Nat) => PyData.int (y : Int)) = decide (a = b)
  | [], [] => rfl
  | [], _ :: _ => rfl
  | _ :: _, [] => rfl
  | x :: a, y :: b => by
    simp only [List.map_cons, PyData.eqvAll, PyData.eqv, eqvAll_n (a := a) (b := b)]
    rw [Bool.eq_iff_iff]
    simp
    intro _
    omega
theorem pd_nT {n : Nat} {l : List Nat} : pd S (n + 1) (nT l) = some (.tuple (l.map fun (y : Nat) => PyData.int (y : Int))) := by
  simp only [nT, pd, optAll_iD, Option.map_some]
theorem dEq_n {a b : List Nat} : dEq (nT a) (nT b) S = some (.bl (decide (a = b))) := by
  simp only [dEq, dEqB, pd_nT, PyData.eqv, eqvAll_n, Option.map_some]
theorem cutL_pre {l : List D} {a : Nat} : cutL l none (some (a : Int)) = l.take a := cut_take
theorem cutL_post {l : List D} {a : Nat} : cutL l (some (a : Int)) none = l.drop a := by
  unfold cutL
  rw [HT.sIx_nat, HT.sIx_none]
  by_cases h : a ≤ l.length
  · rw [Nat.min_eq_left h, List.take_of_length_le (by simp)]
  · rw [Nat.min_eq_right (by omega), List.drop_eq_nil_of_le (Nat.le_refl _), List.drop_eq_nil_of_le (by omega)]
    simp
theorem cutL_mid {l : List D} {a k : Nat} : cutL l (some (a : Int)) (some ((a : Int) + (k : Int))) = (l.drop a).take k := by
  unfold cutL
  rw [HT.sIx_nat, show (a : Int) + (k : Int) = ((a + k : Nat) : Int) by omega, HT.sIx_nat]
  by_cases h : a ≤ l.length
  · rw [Nat.min_eq_left h]
    by_cases h2 : a + k ≤ l.length
    · rw [Nat.min_eq_left h2, Nat.add_sub_cancel_left]
    · rw [Nat.min_eq_right (by omega : l.length ≤ a + k), List.take_of_length_le (by simp), List.take_of_length_le (by simp; omega)]
  · rw [Nat.min_eq_right (by omega : l.length ≤ a + k), Nat.min_eq_right (by omega : l.length ≤ a), List.drop_eq_nil_of_le (Nat.le_refl _), List.drop_eq_nil_of_le (by omega)]
    simp
theorem sl_pre {w : List Nat} {a : Nat} : dSl (nT w) none (some (a : Int)) S = some (nT (w.take a)) := by
  simp only [nT, dSl, cutL_pre, List.map_take]
theorem sl_post {w : List Nat} {a : Nat} : dSl (nT w) (some (a : Int)) none S = some (nT (w.drop a)) := by
  simp only [nT, dSl, cutL_post, List.map_drop]
theorem sl_postk {w : List Nat} {a k : Nat} : dSl (nT w) (some ((a : Int) + (k : Int))) none S = some (nT (w.drop (a + k))) := by
  rw [show (a : Int) + (k : Int) = ((a + k : Nat) : Int) by omega, sl_post]
theorem sl_mid {w : List Nat} {a k : Nat} : dSl (nT w) (some (a : Int)) (some ((a : Int) + (k : Int))) S = some (nT ((w.drop a).take k)) := by
  simp only [nT, dSl, cutL_mid, List.map_take, List.map_drop]
theorem ix_n {l : List Nat} {i : Nat} (h : i < l.length) : dIx (nT l) (.int (i : Int)) S = some (.int ((l.getD i 0 : Nat) : Int)) := atI_some (by simp [h])
theorem ix_nn {l : List (List Nat)} {i : Nat} (h : i < l.length) : dIx (.tup (l.map nT)) (.int (i : Int)) S = some (nT (l.getD i [])) := atI_some (by simp [h])
theorem mul_n {x k : Nat} (h : k ≤ 1000) : dMul (.tup [.int (x : Int)]) (.int (k : Int)) S = some (nT (List.replicate k x)) := by
  rw [dMul_t (by omega) (by omega) (by simp)]
  simp [nT]
end
theorem gRuq {g1 g2 g3 : TgD} {r : Ru} {ρ : Fr} {S : Sto} : gTupD 3 (gConsD g1 (gConsD g2 (gConsD g3 gNilD))) (ruD r) ρ S = (g1 (nT r.sz) ρ S).bind fun ρ1 S1 => (g2 (.tup (r.pw.map nT)) ρ1 S1).bind fun ρ2 S2 => (g3 (.tup (r.ex.map nT)) ρ2 S2).bind fun ρ3 S3 => .ok ρ3 S3 := by
  simp [ruD]
theorem FmOk.le100 {r : Ru} {f : List Nat} {a : Nat} (hv : Vd r) (hf : FmOk r.sz a f) : ∀ x ∈ f, x ≤ 100 := fun x hx => by
  obtain ⟨i, hi, e⟩ := List.getElem_of_mem hx
  have hi2 : i < r.sz.length := by rw [← hf.1]; exact hi
  have h1 := (hf.2 i hi2).1
  have h2 : r.sz.getD i 0 < 8 := by
    rw [List.getD_eq_getElem?_getD, List.getElem?_eq_getElem hi2, Option.getD_some]
    exact hv.sz.lt _ (List.getElem_mem hi2)
  rw [List.getD_eq_getElem?_getD, List.getElem?_eq_getElem hi, Option.getD_some, e] at h1
  omega
theorem FmOk.letters {r : Ru} {f : List Nat} {a : Nat} (hv : Vd r) (hf : FmOk r.sz a f) {S : Sto} : f_letters_of [nT f] S = .ok (nT (wordL f)) S := letters_ok (by rw [hf.1]; have := hv.sz.len; omega) (hf.le100 hv)
def stepD (w : Option (List Nat)) : D := match w with
  | some w => nT w
  | none => .non
section
variable {r : Ru} {S : Sto}
/-- pairs with the exchanges' forms, as the law keeps them -/
def xwD (r : Ru) : List (D × D) := kvD ((pairsL r.sz.length).zip r.ex)
theorem xw_tup : (xwD r).all (fun p => dctT.isTup p.1) = true := by
  simp [xwD, kvD, pD, dctT.isTup]
theorem xw_get {i j : Nat} (hv : Vd r) (hij : i < j) (hj : j < r.sz.length) : kvGet (xwD r) (keyP (i, j)) = some (nT (exF r i j)) := by
  obtain ⟨k, b, g1, g2, g3⟩ := lookup_zip (l := pairsL r.sz.length) (m := r.ex) (a := (i, j)) hv.el.symm (pairsL_mem.mpr ⟨hij, hj⟩)
  have e := exF_at hv.el g1 g2
  rw [xwD, kvGet_al, g3, e]
  rfl
theorem xw_dz (hv : Vd r) : dzOf S [.lv ((pairsL r.sz.length).map pD), .tup (r.ex.map nT)] = some (xwD r) := by
  have ez : ((pairsL r.sz.length).map pD).zip (r.ex.map nT) = xwD r := by
    simp only [xwD, kvD, List.zip_map, Prod.map]
    rfl
  have ks : keysOf (xwD r) = some (((pairsL r.sz.length).zip r.ex).map fun x => keyP x.1) := by
    unfold keysOf xwD kvD
    induction (pairsL r.sz.length).zip r.ex with
    | nil => rfl
    | cons x l ih => simp only [List.map_cons, optAll, tupKey_pD, ih]
  have len := hv.sz.len
  have pl : (pairsL r.sz.length).length ≤ 1000 := Nat.le_trans (pairsL_small len) (by decide)
  unfold dzOf
  simp only [seqD, lstD]
  rw [ez]
  refine if_pos ⟨by simpa using pl, _, ks, ?_⟩
  have : (((pairsL r.sz.length).zip r.ex).map fun x => keyP x.1) = (pairsL r.sz.length).map keyP := by
    have e1 : ((pairsL r.sz.length).zip r.ex).map (fun x => keyP x.1) = (((pairsL r.sz.length).zip r.ex).map Prod.fst).map keyP := by simp
    rw [e1, List.map_fst_zip (by rw [hv.el]; exact Nat.le_refl _)]
  rw [this]
  exact List.Pairwise.map _ (fun a b h e => h (keyP_inj e)) (pairsL_nodup _)
def lstR (r : Ru) (w : List Nat) (n : Nat) (x7 x8 x9 x10 x11 x12 x13 : Option D) : Fr := [some (ruD r), some (nT w), some (.bl false), some (nT r.sz), some (.tup (r.pw.map nT)), some (.tup (r.ex.map nT)), some (.ref n), x7, x8, x9, x10, x11, x12, x13]
theorem step_ok (hv : Vd r) {w : List Nat} (hl : Lt r w) (hn : w.length ≤ 100000) : f_law_step_2 [ruD r, nT w, .bl false] S = .ok (stepD (firstS r w)) S := by
  have len := hv.sz.len
  have fin : mkFn 14 m_law_step_2 [ruD r, nT w, .bl false] S = .ok (stepD (firstS r w)) (S ++ [.dct (xwD r)]) := by
    refine ok_eq ?_
    rw [mkFn_ap]
    have dz : ∀ T, dzOf T [.lv ((pairsL r.sz.length).map pD), .tup (r.ex.map nT)] = some (xwD r) := fun T => xw_dz hv
    have pe : ∀ T, f_pairs_of [.int (r.sz.length : Int)] T = .ok (.lv ((pairsL r.sz.length).map pD)) T := fun T => pairs_ok (by omega)
    have fl : ∀ T, fLen [nT r.sz] T = some (.int (r.sz.length : Int)) := fun T => by simp [nT]
    have e1 : ∀ T, enumIt T [nT w] = some (enumD 0 (w.map iD), []) := fun T => rfl
    obtain ⟨P, hP⟩ : ∃ P : Fl → Sto → Prop, ∀ f S', P f S' ↔ (f = .rt (stepD (firstS r w)) ∨ ((∃ ρ, f = .nx ρ ∧ mVar 7 ρ S' = .ok .non S') ∧ firstS r w = none)) ∧ S' = S ++ [.dct (xwD r)] := ⟨_, fun _ _ => Iff.rfl⟩
    have lp : Ok (forL [] (gTupD 2 (gConsD (gN 8) (gConsD (gN 9) gNilD))) (mSeq (mSet 10 (mOp dIx (mVar 3) (mVar 9)))
 (mSeq (mIf (mT (mOp dEq (mSl dSl (mVar 1) (mPart (mVar 8)) (mPart (mOp dAdd (mVar 8) (mVar 10)))) (mOp dMul (mTup (mConsA (mVar 9) mNilA)) (mVar 10))))
 (mSeq (mSet 11 (mCall f_letters_of (mConsA (mOp dIx (mVar 4) (mVar 9)) mNilA)))
 (mSet 7 (mOp dAdd (mOp dAdd (mSl dSl (mVar 1) mNoP (mPart (mVar 8))) (mVar 11)) (mSl dSl (mVar 1) (mPart (mOp dAdd (mVar 8) (mVar 10))) mNoP))))
 (mIf (mAndT (mT (mOp dLt (mOp dAdd (mVar 8) (mC (.int 1))) (mCB fLen (mConsA (mVar 1) mNilA)))) (mT (mOp dLt (mOp dIx (mVar 1) (mOp dAdd (mVar 8) (mC (.int 1)))) (mVar 9))))
 (mSeq (mSet 12 (mOp dIx (mVar 1) (mOp dAdd (mVar 8) (mC (.int 1)))))
 (mSeq (mSet 13 (mCall f_letters_of (mConsA (mOp dIxA (mVar 6) (mTup (mConsA (mVar 12) (mConsA (mVar 9) mNilA)))) mNilA)))
 (mSet 7 (mOp dAdd (mOp dAdd (mOp dAdd (mSl dSl (mVar 1) mNoP (mPart (mVar 8))) (mTup (mConsA (mVar 12) mNilA))) (mVar 13)) (mSl dSl (mVar 1) (mPart (mOp dAdd (mVar 8) (mC (.int 2)))) mNoP)))))
 mSkip))
 (mIf (mAndT (mT (mOp dIsNot (mVar 7) (mC .non))) (mNotT (mT (mVar 2))))
 (mRet (mVar 7))
 mSkip))) (enumD 0 (w.map iD)) (lstR r w S.length (some .non) none none none none none none) (S ++ [.dct (xwD r)])) P := by
      obtain ⟨I, hI⟩ : ∃ I : Nat → Fr → Sto → Prop, ∀ i ρ S', I i ρ S' ↔ S' = S ++ [.dct (xwD r)] ∧ (∀ k, k < i → stepAt r w k = none) ∧ ∃ x8 x9 x10 x11 x12 x13, ρ = lstR r w S.length (some .non) x8 x9 x10 x11 x12 x13 := ⟨_, fun _ _ _ => Iff.rfl⟩
      refine forL_ok I ((hI _ _ _).mpr ⟨rfl, fun k h => by omega, _, _, _, _, _, _, rfl⟩) (fun i ρ S' hJ => gOk_nil) (fun i e ρ S' he hJ => ?_) (fun ρ S' hJ => ?_)
      · obtain ⟨rfl, hz, x8, x9, x10, x11, x12, x13, rfl⟩ := (hI _ _ _).mp hJ
        obtain ⟨x, hx, rfl⟩ := enumD_at he
        rw [List.getElem?_map] at hx
        obtain ⟨m, hm, rfl⟩ := Option.map_eq_some_iff.mp hx
        have hi : i < w.length := (List.getElem?_eq_some_iff.mp hm).1
        have em : w.getD i 0 = m := by rw [List.getD_eq_getElem?_getD, hm]; rfl
        have hml := hl.at hi
        rw [em] at hml
        have s7 : r.sz.getD m 0 < 8 := by
          rw [List.getD_eq_getElem?_getD, List.getElem?_eq_getElem hml, Option.getD_some]
          exact hv.sz.lt _ (List.getElem_mem hml)
        have g1 : ∀ T, dIx (nT r.sz) (.int (m : Int)) T = some (.int ((r.sz.getD m 0 : Nat) : Int)) := fun T => ix_n hml
        obtain ⟨s, hs⟩ : ∃ s, s = r.sz.getD m 0 := ⟨_, rfl⟩
        rw [← hs] at g1 s7
        have g2 : ∀ T, dMul (.tup [.int (m : Int)]) (.int (s : Int)) T = some (nT (List.replicate s m)) := fun T => mul_n (by omega)
        unfold lstR
        simp only [lstR] at hI
        by_cases c : (w.drop i).take s = List.replicate s m
        · have st : stepAt r w i = some (w.take i ++ wordL (pwF r m) ++ w.drop (i + s)) := by
            unfold stepAt
            rw [em, ← hs, if_pos c]
          have fs : firstS r w = some (w.take i ++ wordL (pwF r m) ++ w.drop (i + s)) := find_at hi hz st
          have pl : m < r.pw.length := by rw [hv.pl]; exact hml
          have k1 : ∀ T, dIx (.tup (r.pw.map nT)) (.int (m : Int)) T = some (nT (pwF r m)) := fun T => ix_nn pl
          have k2 : ∀ T, f_letters_of [nT (pwF r m)] T = .ok (nT (wordL (pwF r m))) T := fun T => (hv.pwOk hml).letters hv
          have wl := (hv.pwOk hml).wlen hv.sz
          have l1 : (w.take i).length ≤ 100000 := by rw [List.length_take]; omega
          have l2 : (w.drop (i + s)).length ≤ 100000 := by rw [List.length_drop]; omega
          have k3 : ∀ T, dAdd (nT (w.take i)) (nT (wordL (pwF r m))) T = some (nT (w.take i ++ wordL (pwF r m))) := fun T => nT_app (by omega)
          have k4 : ∀ T, dAdd (nT (w.take i ++ wordL (pwF r m))) (nT (w.drop (i + s))) T = some (nT (w.take i ++ wordL (pwF r m) ++ w.drop (i + s))) := fun T => nT_app (by rw [List.length_append]; omega)
          have k5 : ∀ v T, dIsNot (nT v) .non T = some (.bl true) := fun _ _ => rfl
          simp [g1, g2, sl_mid, dEq_n, c, k1, k2, sl_pre, sl_postk, k3, k4, k5, -List.append_assoc]
          exact (hP _ _).mpr ⟨.inl (by rw [fs]; rfl), rfl⟩
        · by_cases c2 : i + 1 < w.length ∧ w.getD (i + 1) 0 < m
          · have st : stepAt r w i = some (w.take i ++ w.getD (i + 1) 0 :: wordL (exF r (w.getD (i + 1) 0) m) ++ w.drop (i + 2)) := by
              unfold stepAt
              rw [em, ← hs, if_neg c, if_pos c2]
            have fs : firstS r w = some (w.take i ++ w.getD (i + 1) 0 :: wordL (exF r (w.getD (i + 1) 0) m) ++ w.drop (i + 2)) := find_at hi hz st
            have k0 : ∀ T, dIx (nT w) (.int ((i : Int) + 1)) T = some (.int ((w.getD (i + 1) 0 : Nat) : Int)) := fun T => ix_n c2.1
            obtain ⟨x, hx⟩ : ∃ x, x = w.getD (i + 1) 0 := ⟨_, rfl⟩
            rw [← hx] at k0 fs c2
            have ek := hv.exOk c2.2 hml
            have k1 : dIxA (.ref S.length) (.tup [iD x, iD m]) (S ++ [.dct (xwD r)]) = some (nT (exF r x m)) := by
              unfold dIxA
              have dt : dctT (S ++ [.dct (xwD r)]) (.ref S.length) = some (xwD r) := dctT_of (by simp) xw_tup
              rw [dt]
              simp only
              unfold dGetT
              rw [dt]
              have : tupKey (.tup [iD x, iD m]) = some (keyP (x, m)) := tupKey_pD (x, m)
              rw [this]
              exact xw_get hv c2.2 hml
            have k2 : ∀ T, f_letters_of [nT (exF r x m)] T = .ok (nT (wordL (exF r x m))) T := fun T => ek.letters hv
            have wl := ek.wlen hv.sz
            have l1 : (w.take i).length ≤ 100000 := by rw [List.length_take]; omega
            have l2 : (w.drop (i + 2)).length ≤ 100000 := by rw [List.length_drop]; omega
            have k3 : ∀ T, dAdd (nT (w.take i)) (.tup [iD x]) T = some (nT (w.take i ++ [x])) := fun T => by
              have := nT_app (a := w.take i) (b := [x]) (S := T) (by simp only [List.length_cons, List.length_nil]; omega)
              exact this
            have k4 : ∀ T, dAdd (nT (w.take i ++ [x])) (nT (wordL (exF r x m))) T = some (nT (w.take i ++ [x] ++ wordL (exF r x m))) := fun T => nT_app (by simp only [List.length_append, List.length_cons, List.length_nil]; omega)
            have k6 : ∀ T, dAdd (nT (w.take i ++ [x] ++ wordL (exF r x m))) (nT (w.drop (i + 2))) T = some (nT (w.take i ++ [x] ++ wordL (exF r x m) ++ w.drop (i + 2))) := fun T => nT_app (by simp only [List.length_append, List.length_cons, List.length_nil]; omega)
            have k5 : ∀ v T, dIsNot (nT v) .non T = some (.bl true) := fun _ _ => rfl
            have k7 : ∀ T, dSl (nT w) (some ((i : Int) + 2)) none T = some (nT (w.drop (i + 2))) := fun T => sl_postk (k := 2)
            have k8 : ∀ T, fLen [nT w] T = some (.int (w.length : Int)) := fun T => by simp [nT]
            have k9 : ((i : Int) + 1 < (w.length : Int)) := by omega
            have ka : ((x : Nat) : Int) < ((m : Nat) : Int) := by omega
            have kc : dIxA (.ref S.length) (.tup [.int (x : Int), .int (m : Int)]) (S ++ [.dct (xwD r)]) = some (nT (exF r x m)) := k1
            simp [g1, g2, sl_mid, dEq_n, c, k0, kc, k2, sl_pre, k7, k8, k9, ka, c2.2, k3, k4, k5, k6, -List.append_assoc]
            exact (hP _ _).mpr ⟨.inl (by rw [fs]; simp [stepD]), rfl⟩
          · have st : stepAt r w i = none := by
              unfold stepAt
              rw [em, ← hs, if_neg c, if_neg c2]
            have k8 : ∀ T, fLen [nT w] T = some (.int (w.length : Int)) := fun T => by simp [nT]
            have k5 : ∀ T, dIsNot .non .non T = some (.bl false) := fun _ => rfl
            have done : ∀ x10 x11 x12 x13, I (i + 1) (lstR r w S.length (some .non) (some (iD i)) (some (iD m)) x10 x11 x12 x13) (S ++ [.dct (xwD r)]) := fun x10 x11 x12 x13 => (hI _ _ _).mpr ⟨rfl, fun k hk => by
              by_cases e : k = i
              · rw [e]; exact st
              · exact hz k (by omega), _, _, _, _, _, _, rfl⟩
            unfold lstR at done
            by_cases c3 : i + 1 < w.length
            · have k0 : ∀ T, dIx (nT w) (.int ((i : Int) + 1)) T = some (.int ((w.getD (i + 1) 0 : Nat) : Int)) := fun T => ix_n c3
              obtain ⟨x, hx⟩ : ∃ x, x = w.getD (i + 1) 0 := ⟨_, rfl⟩
              rw [← hx] at k0 c2
              have k9 : ((i : Int) + 1 < (w.length : Int)) := by omega
              have ka : ¬ x < m := fun h => c2 ⟨c3, h⟩
              simp [g1, g2, sl_mid, dEq_n, c, k8, k5, k0, k9, ka]
              exact done _ _ _ _
            · have k9 : ¬ ((i : Int) + 1 < (w.length : Int)) := by omega
              simp [g1, g2, sl_mid, dEq_n, c, k8, k5, k9]
              exact done _ _ _ _
      · obtain ⟨rfl, hz, x8, x9, x10, x11, x12, x13, rfl⟩ := (hI _ _ _).mp hJ
        refine (hP _ _).mpr ⟨.inr ⟨⟨_, rfl, rfl⟩, List.findSome?_eq_none_iff.mpr fun k hk => hz k ?_⟩, rfl⟩
        rw [enumD_len, List.length_map]
        exact List.mem_range.mp hk
    unfold lstR at lp
    simp [m_law_step_2, gRuq, fl, pe, dz, e1]
    refine lp.imp ?_
    intro f S' h
    obtain ⟨h1, rfl⟩ := (hP _ _).mp h
    rcases h1 with rfl | ⟨⟨ρ, rfl, h2⟩, h3⟩
    · simp
    · simp [h2, h3, stepD]
  exact trunc_eq fin (by cases h : firstS r w <;> simp [stepD])
end
end MP

/-! Q, part w: words gathered by the law. -/
namespace MP
open PySem L2
section
variable {r : Ru} {S : Sto}
theorem Rch.len {B : Nat} {f t g t2 : List Nat} (a : Rch r B f t g t2) (e : t2 = []) : t.length ≤ B := by
  cases a with
  | done _ _ => subst e; simp
  | step a hb _ => exact hb
theorem firstS_plain {f : List Nat} (hf : Fm r f) : firstS r (wordL f) = none := by
  cases h : firstS r (wordL f) with
  | none => rfl
  | some w' => exact (plain_no hf _ (firstS_step hf.lt h)).elim
theorem FmOk.wlen35 (hv : Vd r) {f : List Nat} (hf : Fm r f) : (wordL f).length ≤ 35 := hf.wlen hv.sz
def gwC : M Bool := mT (mOp dIsNot (mVar 4) (mC .non))
noncomputable def gwB : M Fl := mSeq (mSet 2 (mVar 4)) (mSet 4 (mCall f_law_step_2 (mConsA (mVar 0) (mConsA (mVar 2) (mConsA (mC (.bl false)) mNilA)))))
theorem gw_loop (hv : Vd r) {x1 x3 : Option D} {f t g t2 : List Nat} (a : Rch r 10000 f t g t2) (e : t2 = []) (hf : Fm r f) (ht : Lt r t) :
    mWhile gwC gwB [some (ruD r), x1, some (nT (wordL f ++ t)), x3, some (stepD (firstS r (wordL f ++ t)))] S = .ok (.nx [some (ruD r), x1, some (nT (wordL g)), x3, some .non]) S := by
  induction a with
  | done f t =>
    subst e
    rw [List.append_nil, firstS_plain hf, mWhile_unfold]
    have : gwC [some (ruD r), x1, some (nT (wordL f)), x3, some (stepD none)] S = .ok false S := by
      refine ok_eq ?_
      unfold gwC
      simp [stepD, dIsNot, dIs]
    rw [this]
    rfl
  | @step f t f1 t1 g t2 st hb b ih =>
    have ok := st.ok hv hf ht
    have ih := ih e ok.1 ok.2
    rcases mst_first hv st hf ht with h | h
    · rw [h]
      exact ih
    · rw [h, mWhile_unfold]
      have c : gwC [some (ruD r), x1, some (nT (wordL f ++ t)), x3, some (stepD (some (wordL f1 ++ t1)))] S = .ok true S := by
        refine ok_eq ?_
        unfold gwC
        simp [stepD, dIsNot, dIs, nT]
      have l1 := b.len e
      have l2 := ok.1.wlen35 hv
      have sp := step_ok (S := S) hv (Lt.app.mpr ⟨ok.1.lt, ok.2⟩ : Lt r (wordL f1 ++ t1)) (by rw [List.length_append]; omega)
      have bd : gwB [some (ruD r), x1, some (nT (wordL f ++ t)), x3, some (stepD (some (wordL f1 ++ t1)))] S = .ok (.nx [some (ruD r), x1, some (nT (wordL f1 ++ t1)), x3, some (stepD (firstS r (wordL f1 ++ t1)))]) S := by
        refine ok_eq ?_
        unfold gwB
        have : stepD (some (wordL f1 ++ t1)) = nT (wordL f1 ++ t1) := rfl
        rw [this]
        simp [sp]
      rw [c, Res.bind_ok, if_pos rfl, bd, Res.bind_ok]
      exact ih
theorem eqv_cnt {l : List Nat} {k : Nat} : (l.map fun (y : Nat) => PyData.int (y : Int)).countP (fun z => PyData.eqv z (.int (k : Int))) = l.count k := by
  induction l with
  | nil => rfl
  | cons x l ih =>
    simp only [List.map_cons, List.countP_cons, List.count_cons, ih, PyData.eqv]
    congr 1
    by_cases h : x = k
    · simp [h]
    · have : ¬ ((x : Int) = (k : Int)) := by omega
      simp [h, this]
theorem cnt_n {l : List Nat} {k : Nat} : fCnt (nT l) [.int (k : Int)] S = some (.int ((l.count k : Nat) : Int), S) := by
  have e1 : pd S 8 (nT l) = some (.tuple (l.map fun (y : Nat) => PyData.int (y : Int))) := pd_nT
  have e2 : pd S 8 (.int (k : Int)) = some (.int (k : Int)) := rfl
  simp only [fCnt, e1, e2, eqv_cnt]
theorem gather_ok (hv : Vd r) {act : List Nat → Nat → List Nat} (md : Mdl r act) {w : List Nat} (hl : Lt r w) (hn : w.length ≤ 100000) : f_law_gather_2 [ruD r, nT w] S = .ok (nT (acts act (zs r.sz.length) w)) S := by
  have len := hv.sz.len
  refine trunc_eq0 (ok_eq ?_) (by simp)
  rw [mkFn_ap]
  have si : ∀ T, seqIt T (nT w) = some (w.map iD, []) := fun T => rfl
  simp [m_law_gather_2, si]
  obtain ⟨I, hI⟩ : ∃ I : Nat → Fr → Sto → Prop, ∀ i ρ S', I i ρ S' ↔ S' = S ∧ ∃ x3 x4, ρ = [some (ruD r), some (nT w), some (nT (wordL (acts act (zs r.sz.length) (w.take i)))), x3, x4] := ⟨_, fun _ _ _ => Iff.rfl⟩
  have fmi : ∀ i, Fm r (acts act (zs r.sz.length) (w.take i)) := fun i => md.fm hv.zero fun x hx => hl x (List.mem_of_mem_take hx)
  refine forL_ok I ((hI _ _ _).mpr ?_) (fun i ρ S' hJ => gOk_nil) (fun i e ρ S' he hJ => ?_) (fun ρ S' hJ => ?_)
  · refine ⟨rfl, none, none, ?_⟩
    have : wordL (zs r.sz.length) = [] := wordF_zero fun i hi => zs_get
    simp [this, nT]
  · obtain ⟨rfl, x3, x4, rfl⟩ := (hI _ _ _).mp hJ
    rw [List.getElem?_map] at he
    obtain ⟨m, hm, rfl⟩ := Option.map_eq_some_iff.mp he
    obtain ⟨f, hf⟩ : ∃ f, f = acts act (zs r.sz.length) (w.take i) := ⟨_, rfl⟩
    have ff := fmi i
    rw [← hf] at ff ⊢
    have ml : m < r.sz.length := hl _ (List.mem_of_getElem? hm)
    have nx : acts act (zs r.sz.length) (w.take (i + 1)) = act f m := by
      rw [List.take_add_one, hm, acts_app, ← hf]
      rfl
    have wl := ff.wlen35 hv
    have k1 : ∀ T, dAdd (nT (wordL f)) (.tup [.int (m : Int)]) T = some (nT (wordL f ++ [m])) := fun T => by
      have := nT_app (a := wordL f) (b := [m]) (S := T) (by simp only [List.length_cons, List.length_nil]; omega)
      exact this
    have lt1 : Lt r [m] := Lt.cons.mpr ⟨ml, Lt.nil⟩
    have sp : ∀ T, f_law_step_2 [ruD r, nT (wordL f ++ [m]), .bl false] T = .ok (stepD (firstS r (wordL f ++ [m]))) T := fun T => step_ok hv (Lt.app.mpr ⟨ff.lt, lt1⟩) (by simp only [List.length_append, List.length_cons, List.length_nil]; omega)
    obtain ⟨g, hg, a⟩ := rch_one hv ff ml
    have eg := (a.run rfl).acts hv md ff lt1
    have lp := gw_loop (S := S') (x1 := some (nT w)) (x3 := some (iD m)) hv a rfl ff lt1
    have eg2 : act f m = g := eg
    unfold gwC gwB at lp
    simp [k1, sp, lp]
    exact (hI _ _ _).mpr ⟨rfl, _, _, by rw [nx, eg2]⟩
  · obtain ⟨rfl, x3, x4, rfl⟩ := (hI _ _ _).mp hJ
    rw [List.length_map, List.take_length]
    obtain ⟨f, hf⟩ : ∃ f, f = acts act (zs r.sz.length) w := ⟨_, rfl⟩
    have ff := fmi w.length
    rw [List.take_length, ← hf] at ff
    rw [← hf]
    have i0 : dIx (ruD r) (.int 0) S' = some (nT r.sz) := by simp [ruD, dIx_t]
    have fl : ∀ T, fLen [nT r.sz] T = some (.int (r.sz.length : Int)) := fun T => by simp [nT]
    have ri : rangeIt [.int (r.sz.length : Int)] = some (rangeD 0 r.sz.length, []) := range_is (by omega)
    have lc : ∀ ρ3 ρ4, lcGo [] (lcB1 3) mYes (mMt isTupD fCnt (mVar 2) (mConsA (mVar 3) mNilA)) [some (ruD r), some (nT w), some (nT (wordL f)), ρ3, ρ4] (rangeD 0 r.sz.length) S' = .ok (f.map iD) S' := fun ρ3 ρ4 => by
      rw [lcGo_map (fun d => match d with
        | .int k => .int (((wordL f).count k.toNat : Nat) : Int)
        | _ => .non) gOk_nil (fun d hd => ?_)]
      · congr 1
        have := count_wordL (f := f)
        rw [ff.1] at this
        conv => rhs; rw [← this]
        unfold rangeD
        rw [List.map_map, List.map_map]
        refine List.map_congr_left fun i hi => ?_
        simp [iD]
      · obtain ⟨k, hk, rfl⟩ := List.mem_map.mp hd
        refine ⟨_, rfl, rfl, ?_⟩
        have it : isTupD (nT (wordL f)) S' = true := rfl
        refine ok_eq ?_
        simp [it, cnt_n]
    have rl : r.sz.length ≤ 1000000 := by omega
    simp [i0, fl, ri, lc, rl]
    rfl
end
end MP

/-! Q, part x: keys of forms, dicts of what is known; all forms. -/
namespace MP
open PySem L2
/-! ### keys -/
def numK (l : List Nat) : NestedKey := .tup (l.map fun (x : Nat) => .num (x : Int))
theorem keyNs_n : ∀ {l : List Nat}, keyNs (l.map iD) = some (l.map fun (x : Nat) => NestedKey.num (x : Int))
  | [] => rfl
  | x :: l => by simp only [List.map_cons, keyNs, keyN, keyNs_n (l := l)]
theorem keyN_n {l : List Nat} : keyN (nT l) = some (numK l) := by simp only [nT, keyN, keyNs_n, Option.map_some, numK]
theorem depth_n {l : List Nat} : (numK l).depth ≤ 1 := by
  have : NestedKey.depthAll (l.map fun (x : Nat) => NestedKey.num (x : Int)) = 0 := by
    induction l with
    | nil => rfl
    | cons x l ih => simp only [List.map_cons, NestedKey.depthAll, NestedKey.depth, ih]; rfl
  simp only [numK, NestedKey.depth, this]
  omega
theorem numK_inj {a b : List Nat} (h : numK a = numK b) : a = b := by
  unfold numK at h
  replace h := NestedKey.tup.inj h
  induction a generalizing b with
  | nil => cases b with
    | nil => rfl
    | cons _ _ => cases h
  | cons x a ih => cases b with
    | nil => cases h
    | cons y b =>
      simp only [List.map_cons, List.cons.injEq, NestedKey.num.injEq] at h
      have h1 := h.1
      rw [ih h.2, show x = y by omega]
/-- a way to write keys -/
structure Kw (α : Type) where
  cd : α → D
  nk : α → NestedKey
  tk : ∀ a, tupKey (cd a) = some (nk a)
  inj : ∀ a b, nk a = nk b → a = b
def kwFF : Kw (List Nat × List Nat) where
  cd := fun p => .tup [nT p.1, nT p.2]
  nk := fun p => .tup [numK p.1, numK p.2]
  tk := fun p => by
    have d1 := depth_n (l := p.1)
    have d2 := depth_n (l := p.2)
    unfold tupKey
    simp only [keyN, keyNs, keyN_n, Option.map_some]
    rw [if_pos]
    simp only [NestedKey.depth, NestedKey.depthAll]
    omega
  inj := fun a b h => by
    have h := NestedKey.tup.inj h
    simp only [List.cons.injEq, and_true] at h
    exact Prod.ext (numK_inj h.1) (numK_inj h.2)
def kwFI : Kw (List Nat × Nat) where
  cd := fun p => .tup [nT p.1, iD p.2]
  nk := fun p => .tup [numK p.1, .num (p.2 : Int)]
  tk := fun p => by
    have d1 := depth_n (l := p.1)
    unfold tupKey
    simp only [keyN, keyNs, keyN_n, Option.map_some]
    rw [if_pos]
    simp only [NestedKey.depth, NestedKey.depthAll]
    omega
  inj := fun a b h => by
    have h := NestedKey.tup.inj h
    simp only [List.cons.injEq, and_true, NestedKey.num.injEq] at h
    exact Prod.ext (numK_inj h.1) (by omega)
theorem tk_keyN {c : D} {k : NestedKey} (h : tupKey c = some k) : keyN c = some k := (tupKey_some h).2.1
theorem tk_isTup {c : D} {k : NestedKey} (h : tupKey c = some k) : dctT.isTup c = true := by
  obtain ⟨⟨l, rfl⟩, _⟩ := tupKey_some h
  rfl
section
variable {α : Type} [DecidableEq α] {K : Kw α} {V : α → D} {L : List α} {a : α} {S : Sto} {n : Nat}
def Kw.kv (K : Kw α) (V : α → D) (L : List α) : List (D × D) := L.map fun a => (K.cd a, V a)
theorem Kw.get (K : Kw α) : kvGet (K.kv V L) (K.nk a) = if a ∈ L then some (V a) else none := by
  induction L with
  | nil => rfl
  | cons b L ih =>
    simp only [Kw.kv, List.map_cons, kvGet, tk_keyN (K.tk b)]
    by_cases e : b = a
    · subst e
      simp
    · rw [if_neg (fun h => e (K.inj _ _ (Option.some.inj h)))]
      have : kvGet (List.map (fun a => (K.cd a, V a)) L) (K.nk a) = _ := ih
      rw [this]
      have e2 : ¬ a = b := fun h => e h.symm
      simp [List.mem_cons, e2]
theorem Kw.tups (K : Kw α) : (K.kv V L).all (fun p => dctT.isTup p.1) = true := by
  simp only [Kw.kv, List.all_map, List.all_eq_true]
  exact fun a _ => tk_isTup (K.tk a)
theorem Kw.dct (h : S[n]? = some (.dct (K.kv V L))) : dctT S (.ref n) = some (K.kv V L) := dctT_of h K.tups
theorem Kw.ix (h : S[n]? = some (.dct (K.kv V L))) (ha : a ∈ L) : dIxA (.ref n) (K.cd a) S = some (V a) := by
  unfold dIxA
  rw [Kw.dct h]
  simp only
  unfold dGetT
  rw [Kw.dct h, K.tk]
  simp only [K.get, if_pos ha]
theorem Kw.notin (h : S[n]? = some (.dct (K.kv V L))) : dNotInA (K.cd a) (.ref n) S = some (.bl (decide (a ∉ L))) := by
  unfold dNotInA
  rw [Kw.dct h]
  simp only
  unfold dNotInKT
  rw [Kw.dct h, K.tk]
  simp only [K.get]
  by_cases ha : a ∈ L <;> simp [ha]
theorem Kw.set (h : S[n]? = some (.dct (K.kv V L))) (ha : a ∉ L) (hl : L.length < 1000000) : fSetA (.ref n) (K.cd a) (V a) S = some (S.set n (.dct (K.kv V (L ++ [a])))) := by
  unfold fSetA
  rw [Kw.dct h]
  simp only
  unfold fSetT
  rw [Kw.dct h, K.tk]
  simp only
  rw [if_pos (by simp only [Kw.kv, List.length_map]; exact Nat.lt_trans hl (by decide))]
  unfold kvPut
  rw [K.get, if_neg ha]
  simp [Kw.kv, refOf]
end
/-! ### all forms -/
def formsTo (l : List Nat) : List (List Nat) := l.foldl (fun L s => L.flatMap fun f => (List.range s).map fun o => f ++ [o]) [[]]
theorem formsTo_app {l : List Nat} {s : Nat} : formsTo (l ++ [s]) = (formsTo l).flatMap fun f => (List.range s).map fun o => f ++ [o] := by
  simp [formsTo]
theorem fmOk_snoc {sz f : List Nat} {s x : Nat} : FmOk (sz ++ [s]) 0 (f ++ [x]) ↔ FmOk sz 0 f ∧ x < s := by
  constructor
  · rintro ⟨h1, h2⟩
    have hl : f.length = sz.length := by simpa using h1
    refine ⟨⟨hl, fun i hi => ⟨?_, fun h => by omega⟩⟩, ?_⟩
    · have := (h2 i (by simp; omega)).1
      rwa [getD_app, getD_app, if_pos (by omega), if_pos hi] at this
    · have := (h2 sz.length (by simp)).1
      rw [getD_app, getD_app, if_neg (by omega), if_neg (by omega), hl] at this
      simpa using this
  · rintro ⟨⟨h1, h2⟩, h3⟩
    refine ⟨by simp [h1], fun i hi => ⟨?_, fun h => by omega⟩⟩
    rw [getD_app, getD_app, h1]
    split
    · exact (h2 i (by assumption)).1
    · have : i = sz.length := by simp at hi; omega
      subst this
      simpa using h3
theorem formsTo_mem : ∀ {l : List Nat} {f : List Nat}, f ∈ formsTo l ↔ FmOk l 0 f := by
  intro l
  induction hk : l.length generalizing l with
  | zero =>
    intro f
    have := List.length_eq_zero_iff.mp hk
    subst this
    simp only [formsTo, List.foldl_nil, List.mem_singleton]
    constructor
    · rintro rfl
      exact ⟨rfl, fun i hi => by simp at hi⟩
    · exact fun h => List.length_eq_zero_iff.mp h.1
  | succ k ih =>
    intro f
    obtain ⟨u, s, rfl⟩ : ∃ u s, l = u ++ [s] := by
      rcases List.eq_nil_or_concat l with e | ⟨u, h, e⟩
      · rw [e] at hk
        cases hk
      · exact ⟨u, h, by simpa using e⟩
    have ih : ∀ {g : List Nat}, g ∈ formsTo u ↔ FmOk u 0 g := ih (l := u) (by simpa using hk)
    rw [formsTo_app, List.mem_flatMap]
    constructor
    · rintro ⟨g, hg, h⟩
      obtain ⟨o, ho, rfl⟩ := List.mem_map.mp h
      exact fmOk_snoc.mpr ⟨ih.mp hg, List.mem_range.mp ho⟩
    · intro h
      have hl := h.1
      obtain ⟨g, x, rfl⟩ : ∃ g x, f = g ++ [x] := by
        rcases List.eq_nil_or_concat f with e | ⟨g, x, e⟩
        · rw [e] at hl
          simp at hl
        · exact ⟨g, x, by simpa using e⟩
      have h := fmOk_snoc.mp h
      exact ⟨g, ih.mpr h.1, List.mem_map.mpr ⟨x, List.mem_range.mpr h.2, rfl⟩⟩
theorem nodup_fm {L : List (List Nat)} {s : Nat} (h : L.Nodup) : (L.flatMap fun f => (List.range s).map fun o => f ++ [o]).Nodup := by
  induction L with
  | nil => simp
  | cons f L ih =>
    rw [List.nodup_cons] at h
    rw [List.flatMap_cons, List.nodup_append]
    refine ⟨List.Pairwise.map _ (fun a b hab e => hab (by simpa using e)) List.nodup_range, ih h.2, ?_⟩
    rintro a ha b hb rfl
    obtain ⟨x, _, rfl⟩ := List.mem_map.mp ha
    obtain ⟨g, hg, hb⟩ := List.mem_flatMap.mp hb
    obtain ⟨y, _, e⟩ := List.mem_map.mp hb
    have : g = f := by
      have := congrArg List.dropLast e
      simpa using this
    rw [this] at hg
    exact h.1 hg
theorem formsTo_nodup {l : List Nat} : (formsTo l).Nodup := by
  induction hk : l.length generalizing l with
  | zero =>
    have := List.length_eq_zero_iff.mp hk
    subst this
    simp [formsTo]
  | succ k ih =>
    obtain ⟨u, s, rfl⟩ : ∃ u s, l = u ++ [s] := by
      rcases List.eq_nil_or_concat l with e | ⟨u, h, e⟩
      · rw [e] at hk
        cases hk
      · exact ⟨u, h, by simpa using e⟩
    rw [formsTo_app]
    exact nodup_fm (ih (by simpa using hk))
theorem len_fm {L : List (List Nat)} {s : Nat} : (L.flatMap fun f => (List.range s).map fun o => f ++ [o]).length = L.length * s := by
  induction L with
  | nil => simp
  | cons f L ih =>
    rw [List.flatMap_cons, List.length_append, ih, List.length_map, List.length_range, List.length_cons, Nat.succ_mul, Nat.add_comm]
theorem formsTo_len {l : List Nat} : (formsTo l).length = prodN l := by
  induction hk : l.length generalizing l with
  | zero =>
    have := List.length_eq_zero_iff.mp hk
    subst this
    rfl
  | succ k ih =>
    obtain ⟨u, s, rfl⟩ : ∃ u s, l = u ++ [s] := by
      rcases List.eq_nil_or_concat l with e | ⟨u, h, e⟩
      · rw [e] at hk
        cases hk
      · exact ⟨u, h, by simpa using e⟩
    rw [formsTo_app, len_fm, ih (by simpa using hk)]
    simp
/-- a list by value or a list that stands at an address -/
def LvAt (S : Sto) (d : D) (l : List D) : Prop := d = .lv l ∨ ∃ n, n < S.length ∧ d = .ref n ∧ S[n]? = some (.lst l)
theorem LvAt.app {S X : Sto} {d : D} {l : List D} (h : LvAt S d l) : LvAt (S ++ X) d l := by
  rcases h with h | ⟨n, h1, h2, h3⟩
  · exact .inl h
  · exact .inr ⟨n, by simp; omega, h2, by rw [sto_lo h1]; exact h3⟩
theorem LvAt.it {S : Sto} {d : D} {l : List D} (h : LvAt S d l) : ∃ g, seqIt S d = some (l, g) ∧ ∀ X, gOk g (S ++ X) := by
  rcases h with rfl | ⟨n, h1, rfl, h3⟩
  · exact ⟨[], rfl, fun _ => gOk_nil⟩
  · exact ⟨_, seqIt_ref h3, fun X => gOk_one (by rw [sto_lo h1]; exact h3)⟩
theorem forms_raw {sz : List Nat} {S : Sto} (hb : ∀ x ∈ sz, x ≤ 100) (hl : sz.length ≤ 50) (hp : ∀ i, (formsTo (sz.take i)).length ≤ 500000) :
    Ok (mkFn 6 m_forms_of [nT sz] S) fun d S' => ∃ X, S' = S ++ X ∧ ((sz = [] ∧ d = .lv ((formsTo sz).map nT)) ∨ ∃ j, d = .ref (S.length + j) ∧ X[j]? = some (.lst ((formsTo sz).map nT))) := by
  rw [mkFn_ap]
  have si : ∀ T, seqIt T (nT sz) = some (sz.map iD, []) := fun T => rfl
  obtain ⟨P, hP⟩ : ∃ P : D → Sto → Prop, ∀ d S', P d S' ↔ ∃ X, S' = S ++ X ∧ ((sz = [] ∧ d = .lv ((formsTo sz).map nT)) ∨ ∃ j, d = .ref (S.length + j) ∧ X[j]? = some (.lst ((formsTo sz).map nT))) := ⟨_, fun _ _ => Iff.rfl⟩
  suffices hs : Ok ((m_forms_of ([nT sz].map some ++ List.replicate (6 - [nT sz].length) none) S).bind fun f S1 => match f with
    | .nx _ => .ok .non S1
    | .rt d => .ok d S1
    | _ => .bad) P from hs.imp fun a T q => (hP _ _).mp q
  simp [m_forms_of, si]
  obtain ⟨I, hI⟩ : ∃ I : Nat → Fr → Sto → Prop, ∀ i ρ S', I i ρ S' ↔ ∃ X v, S' = S ++ X ∧ ((i = 0 ∧ v = .lv ((formsTo (sz.take i)).map nT)) ∨ ∃ j, v = .ref (S.length + j) ∧ X[j]? = some (.lst ((formsTo (sz.take i)).map nT))) ∧ ∃ x2 x3 x4 x5, ρ = [some (nT sz), some v, x2, x3, x4, x5] := ⟨_, fun _ _ _ => Iff.rfl⟩
  refine forL_ok I ((hI _ _ _).mpr ⟨[], _, by simp, .inl ⟨rfl, rfl⟩, none, none, none, none, rfl⟩) (fun i ρ S' hJ => gOk_nil) (fun i e ρ S' he hJ => ?_) (fun ρ S' hJ => ?_)
  · obtain ⟨X, v, rfl, hv, x2, x3, x4, x5, rfl⟩ := (hI _ _ _).mp hJ
    rw [List.getElem?_map] at he
    obtain ⟨s, hs, rfl⟩ := Option.map_eq_some_iff.mp he
    have s1 := hb s (List.mem_of_getElem? hs)
    obtain ⟨L, hL⟩ : ∃ L, L = formsTo (sz.take i) := ⟨_, rfl⟩
    have nx : formsTo (sz.take (i + 1)) = L.flatMap fun f => (List.range s).map fun o => f ++ [o] := by
      rw [List.take_add_one, hs, hL]
      exact formsTo_app
    have bd := hp (i + 1)
    rw [nx] at bd
    rw [← hL] at hv
    have la : LvAt (S ++ X) v (L.map nT) := by
      rcases hv with ⟨_, rfl⟩ | ⟨j, rfl, hj⟩
      · exact .inl rfl
      · exact .inr ⟨_, by simp; exact (List.getElem?_eq_some_iff.mp hj).1, rfl, by rw [sto_at]; exact hj⟩
    have la2 : LvAt (S ++ (X ++ [.lst []])) v (L.map nT) := by
      rw [← List.append_assoc]
      exact la.app
    obtain ⟨g, sg, _⟩ := la2.it
    obtain ⟨g', sg', gk⟩ := la.it
    have eg : g = g' := by
      rcases hv with ⟨_, rfl⟩ | ⟨j, rfl, hj⟩
      · cases sg; cases sg'; rfl
      · rw [seqIt_ref (l := L.map nT) (by rw [sto_at]; exact hj)] at sg'
        have : (S ++ (X ++ [Ob.lst []]))[S.length + j]? = some (.lst (L.map nT)) := by
          rw [sto_at, List.getElem?_append_left (List.getElem?_eq_some_iff.mp hj).1]; exact hj
        rw [seqIt_ref this] at sg
        cases sg; cases sg'; rfl
    subst eg
    have fit : ∀ (F : List (List Nat)), (F.map fun f => f).length ≤ 500000 → True := fun _ _ => trivial
    have len : (S ++ X).length = S.length + X.length := List.length_append
    simp [sg, -List.length_append]
    obtain ⟨J, hJ⟩ : ∃ J : Nat → Fr → Sto → Prop, ∀ k ρ S', J k ρ S' ↔ S' = S ++ (X ++ [.lst (((L.take k).flatMap fun f => (List.range s).map fun o => f ++ [o]).map nT)]) ∧ ∃ x4 x5, ρ = [some (nT sz), some v, some (iD s), some (.ref (S ++ X).length), x4, x5] := ⟨_, fun _ _ _ => Iff.rfl⟩
    refine forL_ok J ((hJ _ _ _).mpr ⟨by simp, _, _, rfl⟩) (fun k ρ S' hK => ?_) (fun k e ρ S' he hK => ?_) (fun ρ S' hK => ?_)
    · obtain ⟨rfl, _⟩ := (hJ _ _ _).mp hK
      rw [← List.append_assoc]
      exact gk _
    · obtain ⟨rfl, x4, x5, rfl⟩ := (hJ _ _ _).mp hK
      rw [List.getElem?_map] at he
      obtain ⟨f, hf, rfl⟩ := Option.map_eq_some_iff.mp he
      obtain ⟨F, hF⟩ : ∃ F, F = (L.take k).flatMap fun f => (List.range s).map fun o => f ++ [o] := ⟨_, rfl⟩
      have nF : ((L.take (k + 1)).flatMap fun f => (List.range s).map fun o => f ++ [o]) = F ++ (List.range s).map fun o => f ++ [o] := by
        rw [List.take_add_one, hf, hF]
        simp
      have ri : rangeIt [iD s] = some (rangeD 0 s, []) := range_is (by omega)
      have fl : f.length ≤ 50 := by
        have := (formsTo_mem.mp (by rw [← hL]; exact List.mem_of_getElem? hf)).1
        rw [this, List.length_take]
        omega
      have lc : ∀ ρ T, lcGo [] (lcB1 5) mYes (mOp dAdd (mVar 4) (mTup (mConsA (mVar 5) mNilA))) [some (nT sz), some v, some (iD s), some ρ, some (nT f), none] (rangeD 0 s) T = .ok (((List.range s).map fun o => f ++ [o]).map nT) T := fun ρ T => by
        rw [lcGo_map (fun d => match d with
          | .int o => nT (f ++ [o.toNat])
          | _ => .non) gOk_nil (fun d hd => ?_)]
        · congr 1
          unfold rangeD
          rw [List.map_map, List.map_map]
          refine List.map_congr_left fun i hi => ?_
          simp
        · obtain ⟨o, ho, rfl⟩ := List.mem_map.mp hd
          refine ⟨_, rfl, rfl, ?_⟩
          have ad : ∀ T, dAdd (nT f) (.tup [.int (o : Int)]) T = some (nT (f ++ [o])) := fun T => by
            have := nT_app (a := f) (b := [o]) (S := T) (by simp; omega)
            exact this
          refine ok_eq ?_
          simp [ad]
      have bF : F.length + s ≤ 500000 := by
        have h1 : (L.flatMap fun f => (List.range s).map fun o => f ++ [o]).length = L.length * s := len_fm
        have h2 : F.length = (L.take k).length * s := by rw [hF]; exact len_fm
        have h3 : k < L.length := (List.getElem?_eq_some_iff.mp hf).1
        rw [List.length_take, Nat.min_eq_left (by omega)] at h2
        have h4 : (k + 1) * s ≤ L.length * s := Nat.mul_le_mul_right s h3
        rw [Nat.succ_mul] at h4
        omega
      rw [← hF]
      have e1 : S ++ (X ++ [Ob.lst (F.map nT)]) = (S ++ X) ++ [.lst (F.map nT)] := by simp
      rw [e1]
      have ex : fExtend (.ref (S ++ X).length) [.lv (((List.range s).map fun o => f ++ [o]).map nT)] ((S ++ X) ++ [.lst (F.map nT)]) = some (.non, (S ++ X) ++ [.lst (F.map nT ++ ((List.range s).map fun o => f ++ [o]).map nT)]) := fExtend_1 (by simp; omega)
      have sl : s ≤ 1000000 := by omega
      have ii : isL (.ref (S ++ X).length) ((S ++ X) ++ [.lst (F.map nT)]) = true := isL_1
      simp [ri, lc, sl, ii, ex, -List.length_append, -List.append_assoc, -List.map_map]
      refine (hJ _ _ _).mpr ⟨?_, _, _, rfl⟩
      rw [nF]
      simp
    · obtain ⟨rfl, x4, x5, rfl⟩ := (hJ _ _ _).mp hK
      rw [List.length_map, List.take_length, ← nx]
      simp [-List.length_append]
      refine (hI _ _ _).mpr ⟨X ++ [.lst ((formsTo (sz.take (i + 1))).map nT)], _, rfl, .inr ⟨X.length, by rw [len], by simp⟩, _, _, _, _, rfl⟩
  · obtain ⟨X, v, rfl, hv, x2, x3, x4, x5, rfl⟩ := (hI _ _ _).mp hJ
    rw [List.length_map, List.take_length] at hv
    simp
    refine (hP _ _).mpr ⟨X, rfl, ?_⟩
    rcases hv with ⟨h1, h2⟩ | h
    · exact .inl ⟨List.length_eq_zero_iff.mp h1, h2⟩
    · exact .inr h
theorem forms_ok {sz : List Nat} {S : Sto} (hb : ∀ x ∈ sz, x ≤ 100) (hl : sz.length ≤ 50) (hp : ∀ i, (formsTo (sz.take i)).length ≤ 500000) : f_forms_of [nT sz] S = .ok (.lv ((formsTo sz).map nT)) S := by
  obtain ⟨d, S', e, X, rfl, h⟩ := (forms_raw (S := S) hb hl hp).eq
  rcases h with ⟨_, rfl⟩ | ⟨j, rfl, hj⟩
  · exact trunc_eq e (by simp [lowD, low_nTs])
  · exact trunc_list e hj low_nTs
theorem prodN_take {l : List Nat} {i m : Nat} (hp : ∀ x ∈ l, 0 < x) (h : prodN l ≤ m) : prodN (l.take i) ≤ m := by
  have e : prodN l = prodN (l.take i) * prodN (l.drop i) := by rw [← prodN_append, List.take_append_drop]
  have : 0 < prodN (l.drop i) := prodN_pos fun x hx => hp x (List.mem_of_mem_drop hx)
  rw [e] at h
  exact Nat.le_trans (Nat.le_mul_of_pos_right _ this) h
end MP

/-! Q, part y: forms taken one behind the other: undone ones, orders. -/
namespace MP
open PySem L2
section
variable {r : Ru} {act : List Nat → Nat → List Nat}
theorem acts_inj (m : Mdl r act) {w : List Nat} (hw : Lt r w) (hi : ∀ i ∈ w, ∀ f g, Fm r f → Fm r g → act f i = act g i → f = g) : ∀ {f g : List Nat}, Fm r f → Fm r g → acts act f w = acts act g w → f = g := by
  induction w with
  | nil => exact fun _ _ h => h
  | cons x w ih =>
    intro f g hf hg h
    rw [Lt.cons] at hw
    have := ih hw.2 (fun i hi' => hi i (List.mem_cons_of_mem _ hi')) (m.cl f x hf hw.1) (m.cl g x hg hw.1) h
    exact hi x List.mem_cons_self f g hf hg this
theorem act_inj (hv : Vd r) (m : Mdl r act) : ∀ (k : Nat) {i : Nat}, r.sz.length - i ≤ k → i < r.sz.length → ∀ f g, Fm r f → Fm r g → act f i = act g i → f = g
  | 0, i, hk, hi, f, g, hf, hg, h => by omega
  | k + 1, i, hk, hi, f, g, hf, hg, h => by
    have pf := hv.pwOk hi
    have s2 := hv.sz.pos hi
    obtain ⟨s, hs⟩ : ∃ s, r.sz.getD i 0 = s + 1 := ⟨r.sz.getD i 0 - 1, by omega⟩
    have e : acts act f (List.replicate (r.sz.getD i 0) i) = acts act g (List.replicate (r.sz.getD i 0) i) := by
      rw [hs, List.replicate_succ, acts_cons, acts_cons, h]
    rw [m.pw f i hf hi, m.pw g i hg hi] at e
    exact acts_inj m pf.lt (fun j hj f g hf hg h => act_inj hv m k (by have := (pf.word hj).1; omega) (pf.word hj).2 f g hf hg h) hf hg e
theorem Mdl.can (hv : Vd r) (m : Mdl r act) {a b c : List Nat} (ha : Fm r a) (hb : Fm r b) (hc : Fm r c) (h : mulF act a c = mulF act b c) : a = b :=
  acts_inj m hc.lt (fun i hi f g hf hg h => act_inj hv m r.sz.length (by omega) (hc.lt i hi) f g hf hg h) ha hb h
/-- taken so often -/
def pwr (r : Ru) (act : List Nat → Nat → List Nat) (f : List Nat) : Nat → List Nat
  | 0 => zs r.sz.length
  | k + 1 => mulF act (pwr r act f k) f
variable {f : List Nat}
theorem Mdl.pwr_fm (hv : Vd r) (m : Mdl r act) (hf : Fm r f) : ∀ k, Fm r (pwr r act f k)
  | 0 => hv.zero
  | k + 1 => m.mul_fm (m.pwr_fm hv hf k) hf
theorem Mdl.pwr_one (m : Mdl r act) (hf : Fm r f) : pwr r act f 1 = f := m.zs_mul hf
theorem Mdl.pwr_can (hv : Vd r) (m : Mdl r act) (hf : Fm r f) : ∀ {a c : Nat}, pwr r act f a = pwr r act f (a + c) → pwr r act f c = zs r.sz.length
  | 0, c, h => by rw [Nat.zero_add] at h; exact h.symm
  | a + 1, c, h => by
    rw [Nat.add_right_comm] at h
    exact m.pwr_can hv hf (m.can hv (m.pwr_fm hv hf _) (m.pwr_fm hv hf _) hf h)
theorem sub_len {α : Type} [BEq α] [LawfulBEq α] : ∀ {l k : List α}, l.Nodup → (∀ x ∈ l, x ∈ k) → l.length ≤ k.length
  | [], _, _, _ => Nat.zero_le _
  | x :: l, k, h, hs => by
    rw [List.nodup_cons] at h
    have hx := hs x List.mem_cons_self
    have := sub_len (l := l) (k := k.erase x) h.2 fun y hy => by
      have hne : y ≠ x := fun e => h.1 (e ▸ hy)
      exact (List.mem_erase_of_ne hne).mpr (hs y (List.mem_cons_of_mem _ hy))
    rw [List.length_erase_of_mem hx] at this
    have hp := List.length_pos_of_mem hx
    simp only [List.length_cons]
    omega
theorem Mdl.order_ex (hv : Vd r) (m : Mdl r act) (hf : Fm r f) : ∃ o, 0 < o ∧ o ≤ prodN r.sz ∧ pwr r act f o = zs r.sz.length := by
  by_cases h : ((List.range (prodN r.sz + 1)).map (pwr r act f)).Nodup
  · have := sub_len h (k := formsTo r.sz) fun x hx => by
      obtain ⟨k, _, rfl⟩ := List.mem_map.mp hx
      exact formsTo_mem.mpr (m.pwr_fm hv hf k)
    rw [List.length_map, List.length_range, formsTo_len] at this
    omega
  · have : ∃ a b, a < b ∧ b ≤ prodN r.sz ∧ pwr r act f a = pwr r act f b := by
      by_cases hh : ∃ a b, a < b ∧ b ≤ prodN r.sz ∧ pwr r act f a = pwr r act f b
      · exact hh
      · exfalso
        apply h
        rw [List.nodup_iff_pairwise_ne, List.pairwise_map, List.pairwise_iff_getElem]
        intro i j hi hj hij e
        simp only [List.getElem_range] at e
        rw [List.length_range] at hj
        exact hh ⟨i, j, hij, by omega, e⟩
    obtain ⟨a, b, h1, h2, h3⟩ := this
    obtain ⟨c, rfl⟩ := Nat.exists_eq_add_of_lt h1
    exact ⟨c + 1, by omega, by omega, m.pwr_can hv hf (a := a) (by rw [h3]; rfl)⟩
/-- the order -/
structure Ord (r : Ru) (act : List Nat → Nat → List Nat) (f : List Nat) (o : Nat) : Prop where
  pos : 0 < o
  le : o ≤ prodN r.sz
  z : pwr r act f o = zs r.sz.length
  nz : ∀ k, 0 < k → k < o → pwr r act f k ≠ zs r.sz.length
theorem Mdl.order (hv : Vd r) (m : Mdl r act) (hf : Fm r f) : ∃ o, Ord r act f o := by
  obtain ⟨o, h1, h2, h3⟩ := m.order_ex hv hf
  induction o using Nat.strongRecOn with
  | ind o ih =>
    by_cases h : ∃ k, 0 < k ∧ k < o ∧ pwr r act f k = zs r.sz.length
    · obtain ⟨k, k1, k2, k3⟩ := h
      exact ih k k2 k1 (by omega) k3
    · exact ⟨o, h1, h2, h3, fun k k1 k2 k3 => h ⟨k, k1, k2, k3⟩⟩
theorem Ord.uniq {o o' : Nat} (a : Ord r act f o) (b : Ord r act f o') : o = o' := by
  rcases Nat.lt_trichotomy o o' with h | h | h
  · exact (b.nz o a.pos h a.z).elim
  · exact h
  · exact (a.nz o' b.pos h b.z).elim
/-- powers, without nought -/
def powsL (r : Ru) (act : List Nat → Nat → List Nat) (f : List Nat) (o : Nat) : List (List Nat) := (List.range o).map (pwr r act f)
end
end MP

/-! Q, part z: the law's table of forms, words by it, powers by it. -/
namespace MP
open PySem L2
section
variable {r : Ru} {act : List Nat → Nat → List Nat} {S : Sto}
theorem rangeD_at {n k : Nat} {e : D} (h : (rangeD 0 n)[k]? = some e) : k < n ∧ e = .int (k : Int) := by
  unfold rangeD at h
  rw [List.getElem?_map] at h
  obtain ⟨j, hj, rfl⟩ := Option.map_eq_some_iff.mp h
  obtain ⟨h1, h2⟩ := List.getElem?_eq_some_iff.mp hj
  rw [List.getElem_range] at h2
  rw [List.length_range] at h1
  exact ⟨h1, by simp [h2]⟩
theorem ru_ix0 {T : Sto} : dIx (ruD r) (.int 0) T = some (nT r.sz) := by simp [ruD, dIx_t]
theorem fLen_n {l : List Nat} {T : Sto} : fLen [nT l] T = some (.int (l.length : Int)) := by simp [nT]
theorem app_n {l : List Nat} {x : Nat} {T : Sto} (h : l.length ≤ 999999) : dAdd (nT l) (.tup [.int (x : Int)]) T = some (nT (l ++ [x])) := by
  have := nT_app (a := l) (b := [x]) (S := T) (by simp; omega)
  exact this
theorem Vd.formsOk (hv : Vd r) (hp : prodN r.sz ≤ 64) {T : Sto} : f_forms_of [nT r.sz] T = .ok (.lv ((formsTo r.sz).map nT)) T :=
  forms_ok (fun x hx => by have := hv.sz.lt x hx; omega) (by have := hv.sz.len; omega) fun i => by
    rw [formsTo_len]
    have := prodN_take (i := i) (fun x hx => by
      obtain ⟨j, hj, e⟩ := List.getElem_of_mem hx
      have := hv.sz.pos hj
      rw [List.getD_eq_getElem?_getD, List.getElem?_eq_getElem hj, Option.getD_some, e] at this
      omega) hp
    omega
def lawV (act : List Nat → Nat → List Nat) (p : List Nat × Nat) : D := nT (act p.1 p.2)
def allFL (r : Ru) : List (List Nat × Nat) := (formsTo r.sz).flatMap fun f => (List.range r.sz.length).map fun j => (f, j)
theorem allFL_mem {p : List Nat × Nat} : p ∈ allFL r ↔ Fm r p.1 ∧ p.2 < r.sz.length := by
  obtain ⟨f, j⟩ := p
  unfold allFL
  rw [List.mem_flatMap]
  constructor
  · rintro ⟨g, hg, h⟩
    obtain ⟨i, hi, e⟩ := List.mem_map.mp h
    cases e
    exact ⟨formsTo_mem.mp hg, List.mem_range.mp hi⟩
  · rintro ⟨h1, h2⟩
    exact ⟨f, formsTo_mem.mpr h1, List.mem_map.mpr ⟨j, List.mem_range.mpr h2, rfl⟩⟩
theorem len_fl {L : List (List Nat)} {n : Nat} : (L.flatMap fun f => (List.range n).map fun j => (f, j)).length = L.length * n := by
  induction L with
  | nil => simp
  | cons f L ih =>
    rw [List.flatMap_cons, List.length_append, ih, List.length_map, List.length_range, List.length_cons, Nat.succ_mul, Nat.add_comm]
structure TabL (S : Sto) (t : Nat) (r : Ru) (act : List Nat → Nat → List Nat) : Prop where
  at_ : S[t]? = some (.dct (kwFI.kv (lawV act) (allFL r)))
theorem TabL.app {X : Sto} {t : Nat} (h : TabL S t r act) : TabL (S ++ X) t r act := ⟨by rw [sto_lo (List.getElem?_eq_some_iff.mp h.at_).1]; exact h.at_⟩
theorem table_ok (hv : Vd r) (m : Mdl r act) (hp : prodN r.sz ≤ 64) : f_law_table_2 [ruD r] S = .ok (.ref S.length) (S ++ [.dct (kwFI.kv (lawV act) (allFL r))]) := by
  have len := hv.sz.len
  refine ok_eq ?_
  show Ok (mkFn 4 m_law_table_2 [ruD r] S) _
  rw [mkFn_ap]
  obtain ⟨P, hP⟩ : ∃ P : D → Sto → Prop, ∀ d S', P d S' ↔ d = .ref S.length ∧ S' = S ++ [.dct (kwFI.kv (lawV act) (allFL r))] := ⟨_, fun _ _ => Iff.rfl⟩
  suffices hs : Ok ((m_law_table_2 ([ruD r].map some ++ List.replicate (4 - [ruD r].length) none) S).bind fun f S1 => match f with
    | .nx _ => .ok .non S1
    | .rt d => .ok d S1
    | _ => .bad) P from hs.imp fun a T q => (hP _ _).mp q
  have fo : ∀ T, f_forms_of [nT r.sz] T = .ok (.lv ((formsTo r.sz).map nT)) T := fun T => hv.formsOk hp
  simp [m_law_table_2, ru_ix0, fo]
  obtain ⟨I, hI⟩ : ∃ I : Nat → Fr → Sto → Prop, ∀ i ρ S', I i ρ S' ↔ S' = S ++ [.dct (kwFI.kv (lawV act) (((formsTo r.sz).take i).flatMap fun f => (List.range r.sz.length).map fun j => (f, j)))] ∧ ∃ x2 x3, ρ = [some (ruD r), some (.ref S.length), x2, x3] := ⟨_, fun _ _ _ => Iff.rfl⟩
  refine forL_ok I ((hI _ _ _).mpr ⟨by simp [Kw.kv], _, _, rfl⟩) (fun i ρ S' hJ => gOk_nil) (fun i e ρ S' he hJ => ?_) (fun ρ S' hJ => ?_)
  · obtain ⟨rfl, x2, x3, rfl⟩ := (hI _ _ _).mp hJ
    rw [List.getElem?_map] at he
    obtain ⟨f, hf, rfl⟩ := Option.map_eq_some_iff.mp he
    have ff : Fm r f := formsTo_mem.mp (List.mem_of_getElem? hf)
    have hi := (List.getElem?_eq_some_iff.mp hf).1
    obtain ⟨L, hL⟩ : ∃ L, L = ((formsTo r.sz).take i).flatMap fun f => (List.range r.sz.length).map fun j => (f, j) := ⟨_, rfl⟩
    have nx : ((formsTo r.sz).take (i + 1)).flatMap (fun f => (List.range r.sz.length).map fun j => (f, j)) = L ++ (List.range r.sz.length).map fun j => (f, j) := by
      rw [List.take_add_one, hf, hL]
      simp
    have lL : L.length ≤ 64 * 5 := by
      rw [hL, len_fl, List.length_take]
      refine Nat.mul_le_mul ?_ len
      rw [formsTo_len] at hi ⊢
      omega
    have nL : ∀ j, (f, j) ∉ L := fun j hj => by
      rw [hL] at hj
      obtain ⟨g, hg, h⟩ := List.mem_flatMap.mp hj
      obtain ⟨k, _, e⟩ := List.mem_map.mp h
      cases e
      have nd := formsTo_nodup (l := r.sz)
      rw [← List.take_append_drop i (formsTo r.sz), List.nodup_append] at nd
      refine nd.2.2 _ hg f ?_ rfl
      rw [List.drop_eq_getElem_cons hi]
      have : (formsTo r.sz)[i] = f := (List.getElem?_eq_some_iff.mp hf).2
      rw [this]
      exact List.mem_cons_self
    rw [← hL]
    have ri : rangeIt [.int (r.sz.length : Int)] = some (rangeD 0 r.sz.length, []) := range_is (by omega)
    have lf : ∀ T, f_letters_of [nT f] T = .ok (nT (wordL f)) T := fun T => FmOk.letters hv ff
    have wl := ff.wlen35 hv
    simp [ru_ix0, fLen_n, ri]
    obtain ⟨J, hJ⟩ : ∃ J : Nat → Fr → Sto → Prop, ∀ k ρ S', J k ρ S' ↔ S' = S ++ [.dct (kwFI.kv (lawV act) (L ++ (List.range k).map fun j => (f, j)))] ∧ ∃ x3, ρ = [some (ruD r), some (.ref S.length), some (nT f), x3] := ⟨_, fun _ _ _ => Iff.rfl⟩
    refine forL_ok J ((hJ _ _ _).mpr ⟨by simp, _, rfl⟩) (fun k ρ S' hK => gOk_nil) (fun k e ρ S' he hK => ?_) (fun ρ S' hK => ?_)
    · obtain ⟨rfl, x3, rfl⟩ := (hJ _ _ _).mp hK
      obtain ⟨hk, rfl⟩ := rangeD_at he
      have a1 : ∀ T, dAdd (nT (wordL f)) (.tup [.int (k : Int)]) T = some (nT (wordL f ++ [k])) := fun T => app_n (by omega)
      have g1 : ∀ T, f_law_gather_2 [ruD r, nT (wordL f ++ [k])] T = .ok (nT (act f k)) T := fun T => by
        rw [gather_ok hv m (Lt.app.mpr ⟨ff.lt, Lt.cons.mpr ⟨hk, Lt.nil⟩⟩) (by simp only [List.length_append, List.length_cons, List.length_nil]; omega), m.word_t ff]
        rfl
      obtain ⟨K, hK2⟩ : ∃ K, K = L ++ (List.range k).map fun j => (f, j) := ⟨_, rfl⟩
      rw [← hK2]
      have lK : K.length ≤ 64 * 5 + 5 := by rw [hK2, List.length_append, List.length_map, List.length_range]; omega
      have nK : (f, k) ∉ K := fun h => by
        rw [hK2] at h
        rcases List.mem_append.mp h with h | h
        · exact nL k h
        · obtain ⟨j, hj, e⟩ := List.mem_map.mp h
          cases e
          exact absurd (List.mem_range.mp hj) (by omega)
      have st : fSetA (.ref S.length) (.tup [nT f, .int (k : Int)]) (nT (act f k)) (S ++ [.dct (kwFI.kv (lawV act) K)]) = some (List.set (S ++ [Ob.dct (kwFI.kv (lawV act) K)]) S.length (Ob.dct (kwFI.kv (lawV act) (K ++ [(f, k)])))) :=
        Kw.set (K := kwFI) (V := lawV act) (a := (f, k)) (by simp) nK (by omega)
      simp [lf, a1, g1, st]
      refine (hJ _ _ _).mpr ⟨?_, _, rfl⟩
      rw [List.range_succ, List.map_append, ← List.append_assoc, ← hK2]
      rfl
    · obtain ⟨rfl, x3, rfl⟩ := (hJ _ _ _).mp hK
      simp only [rangeD_len]
      rw [← nx]
      exact (hI _ _ _).mpr ⟨rfl, _, _, rfl⟩
  · obtain ⟨rfl, x2, x3, rfl⟩ := (hI _ _ _).mp hJ
    rw [List.length_map, List.take_length]
    simp
    exact (hP _ _).mpr ⟨rfl, rfl⟩
theorem come_ok (hv : Vd r) (m : Mdl r act) {f g : List Nat} (hf : Fm r f) (hg : Fm r g) : f_law_come_2 [ruD r, nT f, nT g] S = .ok (nT (mulF act f g)) S := by
  refine trunc_eq0 (ok_eq ?_) (by simp)
  rw [mkFn_ap]
  have w1 := hf.wlen35 hv
  have w2 := hg.wlen35 hv
  have l1 : ∀ T, f_letters_of [nT f] T = .ok (nT (wordL f)) T := fun T => FmOk.letters hv hf
  have l2 : ∀ T, f_letters_of [nT g] T = .ok (nT (wordL g)) T := fun T => FmOk.letters hv hg
  have ad : ∀ T, dAdd (nT (wordL f)) (nT (wordL g)) T = some (nT (wordL f ++ wordL g)) := fun T => nT_app (by omega)
  have ga : ∀ T, f_law_gather_2 [ruD r, nT (wordL f ++ wordL g)] T = .ok (nT (mulF act f g)) T := fun T => by
    rw [gather_ok hv m (Lt.app.mpr ⟨hf.lt, hg.lt⟩) (by rw [List.length_append]; omega), m.word_t hf]
    rfl
  simp [m_law_come_2, l1, l2, ad, ga]
theorem by_ok (hv : Vd r) (m : Mdl r act) {t : Nat} (ht : TabL S t r act) {fs : List (List Nat)} (hn : fs ≠ []) (hf : ∀ f ∈ fs, Fm r f) : f_law_by [.ref t, .lv (fs.map nT)] S = .ok (nT (acts act (zs r.sz.length) (fs.flatMap wordL))) S := by
  have len := hv.sz.len
  refine trunc_eq0 (ok_eq ?_) (by simp)
  rw [mkFn_ap]
  obtain ⟨f0, fs', rfl⟩ : ∃ f0 fs', fs = f0 :: fs' := by
    cases fs with
    | nil => exact absurd rfl hn
    | cons a b => exact ⟨a, b, rfl⟩
  have i0 : ∀ T, dIx (.lv ((f0 :: fs').map nT)) (.int 0) T = some (nT f0) := fun T => by
    rw [dIx_l]
    simp
  have l0 : f0.length = r.sz.length := (hf f0 List.mem_cons_self).1
  have z1 : ∀ T, dMul (.tup [.int 0]) (.int (f0.length : Int)) T = some (nT (zs r.sz.length)) := fun T => by
    rw [l0]
    exact zs_ap (by omega)
  obtain ⟨gs, hgs⟩ : ∃ gs, gs = f0 :: fs' := ⟨_, rfl⟩
  rw [← hgs] at i0 hf ⊢
  have si : ∀ T, seqIt T (.lv (gs.map nT)) = some (gs.map nT, []) := fun T => rfl
  simp [m_law_by, i0, fLen_n, z1, si]
  obtain ⟨I, hI⟩ : ∃ I : Nat → Fr → Sto → Prop, ∀ i ρ S', I i ρ S' ↔ S' = S ∧ ∃ x3 x4, ρ = [some (.ref t), some (.lv (gs.map nT)), some (nT (acts act (zs r.sz.length) ((gs.take i).flatMap wordL))), x3, x4] := ⟨_, fun _ _ _ => Iff.rfl⟩
  refine forL_ok I ((hI _ _ _).mpr ⟨rfl, _, _, rfl⟩) (fun i ρ S' hJ => gOk_nil) (fun i e ρ S' he hJ => ?_) (fun ρ S' hJ => ?_)
  · obtain ⟨rfl, x3, x4, rfl⟩ := (hI _ _ _).mp hJ
    rw [List.getElem?_map] at he
    obtain ⟨f, hf1, rfl⟩ := Option.map_eq_some_iff.mp he
    have ff := hf f (List.mem_of_getElem? hf1)
    obtain ⟨h, hh⟩ : ∃ h, h = acts act (zs r.sz.length) ((gs.take i).flatMap wordL) := ⟨_, rfl⟩
    have fh : Fm r h := by
      rw [hh]
      refine m.fm hv.zero fun x hx => ?_
      obtain ⟨g, hg, hx⟩ := List.mem_flatMap.mp hx
      exact (hf g (List.mem_of_mem_take hg)).lt x hx
    have nx : acts act (zs r.sz.length) ((gs.take (i + 1)).flatMap wordL) = acts act h (wordL f) := by
      rw [List.take_add_one, hf1, hh]
      simp
    rw [← hh]
    have l1 : ∀ T, f_letters_of [nT f] T = .ok (nT (wordL f)) T := fun T => FmOk.letters hv ff
    have si2 : ∀ T, seqIt T (nT (wordL f)) = some ((wordL f).map iD, []) := fun T => rfl
    simp [l1, si2]
    obtain ⟨J, hJ⟩ : ∃ J : Nat → Fr → Sto → Prop, ∀ k ρ T, J k ρ T ↔ T = S' ∧ ∃ x4, ρ = [some (.ref t), some (.lv (gs.map nT)), some (nT (acts act h ((wordL f).take k))), some (nT f), x4] := ⟨_, fun _ _ _ => Iff.rfl⟩
    refine forL_ok J ((hJ _ _ _).mpr ⟨rfl, _, rfl⟩) (fun k ρ T hK => gOk_nil) (fun k e ρ T he hK => ?_) (fun ρ T hK => ?_)
    · obtain ⟨rfl, x4, rfl⟩ := (hJ _ _ _).mp hK
      rw [List.getElem?_map] at he
      obtain ⟨x, hx, rfl⟩ := Option.map_eq_some_iff.mp he
      have lx := ff.lt x (List.mem_of_getElem? hx)
      have fg : Fm r (acts act h ((wordL f).take k)) := m.fm fh fun y hy => ff.lt y (List.mem_of_mem_take hy)
      have ix : dIxA (.ref t) (.tup [nT (acts act h ((wordL f).take k)), .int (x : Int)]) T = some (nT (act (acts act h ((wordL f).take k)) x)) :=
        Kw.ix (K := kwFI) (V := lawV act) (a := (acts act h ((wordL f).take k), x)) ht.at_ (allFL_mem.mpr ⟨fg, lx⟩)
      simp [ix]
      refine (hJ _ _ _).mpr ⟨rfl, some (iD x), ?_⟩
      rw [List.take_add_one, hx]
      simp
    · obtain ⟨rfl, x4, rfl⟩ := (hJ _ _ _).mp hK
      rw [List.length_map, List.take_length, ← nx]
      exact (hI _ _ _).mpr ⟨rfl, _, _, rfl⟩
  · obtain ⟨rfl, x3, x4, rfl⟩ := (hI _ _ _).mp hJ
    rw [List.length_map, List.take_length]
    simp
theorem by2_ok (hv : Vd r) (m : Mdl r act) {t : Nat} (ht : TabL S t r act) {f g : List Nat} (hf : Fm r f) (hg : Fm r g) : f_law_by [.ref t, .lv [nT f, nT g]] S = .ok (nT (mulF act f g)) S := by
  have := by_ok hv m ht (fs := [f, g]) (by simp) (by simp [hf, hg])
  simp only [List.map_cons, List.map_nil, List.flatMap_cons, List.flatMap_nil, List.append_nil] at this
  rw [this, m.word_t hf]
  rfl
end
end MP

/-! R, part a: powers by the law's table. -/
namespace MP
open PySem L2
theorem any_zs {l : List Nat} {T : Sto} : fAny [nT l] T = some (.bl (decide (l ≠ zs l.length))) := by
  have e : nT l = .tup ((l.map fun (x : Nat) => (x : Int)).map D.int) := by simp [nT]
  rw [e, fAny_ints]
  congr 2
  rw [Bool.eq_iff_iff]
  simp only [List.any_eq_true, bne_iff_ne, decide_eq_true_eq]
  constructor
  · rintro ⟨x, hx, h0⟩ e
    obtain ⟨y, hy, rfl⟩ := List.mem_map.mp hx
    rw [e] at hy
    have := (List.mem_replicate.mp hy).2
    omega
  · intro h
    by_cases hh : ∃ x ∈ l, x ≠ 0
    · obtain ⟨x, hx, h0⟩ := hh
      exact ⟨(x : Int), List.mem_map.mpr ⟨x, hx, rfl⟩, by omega⟩
    · refine (h ?_).elim
      exact List.eq_replicate_iff.mpr ⟨rfl, fun b hb => Classical.byContradiction fun h0 => hh ⟨b, hb, h0⟩⟩
theorem atI_last {α : Type} {l : List α} {x : α} : atI (l ++ [x]) (-1) = some x := by
  unfold atI ixN
  simp
  rw [if_pos (by omega), show (-1 + ((l.length : Int) + 1)).toNat = l.length by omega]
  simp
theorem ix_last {l : List D} {x : D} {T : Sto} : dIx (.lv (l ++ [x])) (.int (-1)) T = some x := by
  rw [dIx_l]
  exact atI_last
section
variable {r : Ru} {act : List Nat → Nat → List Nat} {S : Sto}
theorem any_fm {f : List Nat} (hf : Fm r f) {T : Sto} : fAny [nT f] T = some (.bl (decide (f ≠ zs r.sz.length))) := by
  rw [any_zs, hf.1]
theorem powsL_succ {f : List Nat} {k : Nat} : powsL r act f (k + 1) = powsL r act f k ++ [pwr r act f k] := by
  simp [powsL, List.range_succ]
theorem lawtimes_ok (hv : Vd r) (m : Mdl r act) (hp : prodN r.sz ≤ 64) {t : Nat} (ht : TabL S t r act) {f : List Nat} {o : Nat} (hf : Fm r f) (ho : Ord r act f o) : f_law_times_of [.ref t, nT f] S = .ok (.lv ((powsL r act f o).map nT)) S := by
  have len := hv.sz.len
  have hl := ho.le
  have loop : ∀ j k, 0 < k → k + j = o → mWhile (mT (mCB fAny (mConsA (mVar 3) mNilA))) (mSeq (mDo (mMt isL fAppend (mVar 2) (mConsA (mVar 3) mNilA)))
 (mSet 3 (mCall f_law_by (mConsA (mVar 0) (mConsA (mLv (mLst (mConsA (mVar 3) (mConsA (mVar 1) mNilA)))) mNilA))))) [some (.ref t), some (nT f), some (.ref S.length), some (nT (pwr r act f k))] (S ++ [.lst ((powsL r act f k).map nT)]) = .ok (.nx [some (.ref t), some (nT f), some (.ref S.length), some (nT (pwr r act f o))]) (S ++ [.lst ((powsL r act f o).map nT)]) := by
    intro j
    induction j with
    | zero =>
      intro k h0 hk
      have : k = o := by omega
      subst this
      rw [mWhile_unfold]
      have c : (mT (mCB fAny (mConsA (mVar 3) mNilA))) [some (.ref t), some (nT f), some (.ref S.length), some (nT (pwr r act f k))] (S ++ [.lst ((powsL r act f k).map nT)]) = .ok false (S ++ [.lst ((powsL r act f k).map nT)]) := by
        refine ok_eq ?_
        have az := any_fm (T := S ++ [.lst ((powsL r act f k).map nT)]) (m.pwr_fm hv hf k)
        rw [decide_eq_false (fun h => h ho.z)] at az
        simp [az]
      rw [c]
      rfl
    | succ j ih =>
      intro k h0 hk
      rw [mWhile_unfold]
      have c : (mT (mCB fAny (mConsA (mVar 3) mNilA))) [some (.ref t), some (nT f), some (.ref S.length), some (nT (pwr r act f k))] (S ++ [.lst ((powsL r act f k).map nT)]) = .ok true (S ++ [.lst ((powsL r act f k).map nT)]) := by
        refine ok_eq ?_
        simp [any_fm (m.pwr_fm hv hf k), ho.nz k h0 (by omega)]
      have b : (mSeq (mDo (mMt isL fAppend (mVar 2) (mConsA (mVar 3) mNilA)))
 (mSet 3 (mCall f_law_by (mConsA (mVar 0) (mConsA (mLv (mLst (mConsA (mVar 3) (mConsA (mVar 1) mNilA)))) mNilA))))) [some (.ref t), some (nT f), some (.ref S.length), some (nT (pwr r act f k))] (S ++ [.lst ((powsL r act f k).map nT)]) = .ok (.nx [some (.ref t), some (nT f), some (.ref S.length), some (nT (pwr r act f (k + 1)))]) (S ++ [.lst ((powsL r act f (k + 1)).map nT)]) := by
        refine ok_eq ?_
        have ap : fAppend (.ref S.length) [nT (pwr r act f k)] (S ++ [.lst ((powsL r act f k).map nT)]) = some (.non, S ++ [.lst ((powsL r act f k).map nT ++ [nT (pwr r act f k)])]) := fAppend_1 (by simp [powsL]; omega)
        have by2 : ∀ l, f_law_by [.ref t, .lv [nT (pwr r act f k), nT f]] (S ++ [.lst l]) = .ok (nT (mulF act (pwr r act f k) f)) (S ++ [.lst l]) := fun l => by2_ok hv m ht.app (m.pwr_fm hv hf k) hf
        simp [ap, by2]
        refine ⟨rfl, ?_⟩
        rw [powsL_succ]
        simp
      rw [c, Res.bind_ok, if_pos rfl, b, Res.bind_ok]
      exact ih (k + 1) (by omega) (by omega)
  have lp := loop (o - 1) 1 (by omega) (by have := ho.pos; omega)
  rw [m.pwr_one hf] at lp
  have p1 : powsL r act f 1 = [zs r.sz.length] := by simp [powsL, pwr]
  rw [p1] at lp
  have z1 : ∀ T, dMul (.tup [.int 0]) (.int (f.length : Int)) T = some (nT (zs r.sz.length)) := fun T => by
    rw [hf.1]
    exact zs_ap (by omega)
  have e : mkFn 4 m_law_times_of [.ref t, nT f] S = .ok (.ref (S.length + 0)) (S ++ [.lst ((powsL r act f o).map nT)]) := by
    refine ok_eq ?_
    rw [mkFn_ap]
    simp only [List.map_cons, List.map_nil] at lp
    simp [m_law_times_of, fLen_n, z1, lp]
  exact trunc_list e (by simp) low_nTs
theorem lawundone_ok (hv : Vd r) (m : Mdl r act) (hp : prodN r.sz ≤ 64) {t : Nat} (ht : TabL S t r act) {f : List Nat} {o : Nat} (hf : Fm r f) (ho : Ord r act f o) : f_law_undone [.ref t, nT f] S = .ok (nT (pwr r act f (o - 1))) S := by
  refine trunc_eq0 (ok_eq ?_) (by simp)
  rw [mkFn_ap]
  have e : ∀ T, dIx (.lv ((powsL r act f o).map nT)) (.int (-1)) T = some (nT (pwr r act f (o - 1))) := fun T => by
    obtain ⟨k, hk⟩ : ∃ k, o = k + 1 := ⟨o - 1, by have := ho.pos; omega⟩
    subst hk
    rw [powsL_succ, List.map_append, List.map_cons, List.map_nil, ix_last, Nat.add_sub_cancel]
  simp [m_law_undone, lawtimes_ok hv m hp ht hf ho, e]
end
end MP

/-! R, part b: the program's table of forms. -/
namespace MP
open PySem L2
section
variable {α : Type} [DecidableEq α] {K : Kw α} {V : α → D} {L : List α} {a : α} {S : Sto} {n : Nat}
theorem Kw.notin_t (h : S[n]? = some (.dct (K.kv V L))) (ha : a ∉ L) : dNotInA (K.cd a) (.ref n) S = some (.bl true) := by
  rw [Kw.notin h, decide_eq_true ha]
theorem Kw.notin_f (h : S[n]? = some (.dct (K.kv V L))) (ha : a ∈ L) : dNotInA (K.cd a) (.ref n) S = some (.bl false) := by
  rw [Kw.notin h, decide_eq_false (fun h => h ha)]
end
def tabV (act : List Nat → Nat → List Nat) (p : List Nat × List Nat) : D := nT (mulF act p.1 p.2)
def tabF (w k : Nat) : List (Str × D) := [("ways", .ref w), ("known", .ref k)]
structure Kn (r : Ru) (act : List Nat → Nat → List Nat) (o : Ob) : Prop where
  ex : ∃ L, o = .dct (kwFF.kv (tabV act) L) ∧ L.Nodup ∧ ∀ p ∈ L, Fm r p.1 ∧ Fm r p.2
structure TabAt (S : Sto) (t w d k : Nat) (r : Ru) (act : List Nat → Nat → List Nat) : Prop where
  at_ : S[t]? = some (.ins "Table" (tabF w k))
  wy : WaysAt S w d r
  kn : ∃ o, S[k]? = some o ∧ Kn r act o
  kt : k ≠ t
  kw : k ≠ w
  kd : k ≠ d
theorem s_ne7 : (("known" : Str) == "ways") = false := by decide +kernel
theorem s_ne8 : (("put" : Str) == "sizes") = false := by decide +kernel
theorem s_ne9 : (("put" : Str) == "powers") = false := by decide +kernel
theorem s_ne10 : (("put" : Str) == "swaps") = false := by decide +kernel
theorem s_ne11 : (("come" : Str) == "ways") = false := by decide +kernel
theorem s_ne12 : (("come" : Str) == "known") = false := by decide +kernel
section
variable {r : Ru} {act : List Nat → Nat → List Nat} {S : Sto} {t w d k : Nat}
theorem TabAt.klt (h : TabAt S t w d k r act) : k < S.length := by
  obtain ⟨o, h, _⟩ := h.kn
  exact (List.getElem?_eq_some_iff.mp h).1
theorem TabAt.tlt (h : TabAt S t w d k r act) : t < S.length := (List.getElem?_eq_some_iff.mp h.at_).1
theorem TabAt.wlt (h : TabAt S t w d k r act) : w < S.length := (List.getElem?_eq_some_iff.mp h.wy.at_).1
theorem TabAt.dlt (h : TabAt S t w d k r act) : d < S.length := (List.getElem?_eq_some_iff.mp h.wy.sw).1
theorem TabAt.app {X : Sto} (h : TabAt S t w d k r act) : TabAt (S ++ X) t w d k r act :=
  ⟨by rw [sto_lo h.tlt]; exact h.at_, h.wy.app, by rw [sto_lo h.klt]; exact h.kn, h.kt, h.kw, h.kd⟩
theorem TabAt.set {o : Ob} (h : TabAt S t w d k r act) (ho : Kn r act o) : TabAt (S.set k o) t w d k r act :=
  ⟨by rw [List.getElem?_set_ne h.kt]; exact h.at_, h.wy.set h.kw h.kd, ⟨o, List.getElem?_set_self h.klt, ho⟩, h.kt, h.kw, h.kd⟩
theorem TabAt.f1 (h : TabAt S t w d k r act) : fldOf "Table" "ways" (.ref t) S = some (.ref w) := by
  unfold fldOf
  rw [insOf_at h.at_]
  simp [tabF, List.lookup]
theorem TabAt.f2 (h : TabAt S t w d k r act) : fldOf "Table" "known" (.ref t) S = some (.ref k) := by
  unfold fldOf
  rw [insOf_at h.at_]
  simp [tabF, List.lookup, s_ne7]
theorem Kn.low {o : Ob} {b : Nat} (h : Kn r act o) : lowO b o = true := by
  obtain ⟨L, rfl, _, _⟩ := h.ex
  simp only [lowO, Kw.kv, List.all_map, List.all_eq_true]
  intro p hp
  simp [kwFF, tabV, lowD, lowDs]
theorem kn_len {L : List (List Nat × List Nat)} (h1 : L.Nodup) (h2 : ∀ p ∈ L, Fm r p.1 ∧ Fm r p.2) (hp : prodN r.sz ≤ 64) : L.length ≤ 64 * 64 := by
  have := sub_len (k := (formsTo r.sz).flatMap fun f => (formsTo r.sz).map fun g => (f, g)) h1 fun p hp => by
    rw [List.mem_flatMap]
    exact ⟨p.1, formsTo_mem.mpr (h2 p hp).1, List.mem_map.mpr ⟨p.2, formsTo_mem.mpr (h2 p hp).2, rfl⟩⟩
  have e : ∀ (L M : List (List Nat)), (L.flatMap fun f => M.map fun g => (f, g)).length = L.length * M.length := fun L M => by
    induction L with
    | nil => simp
    | cons f L ih =>
      rw [List.flatMap_cons, List.length_append, ih, List.length_map, List.length_cons, Nat.succ_mul, Nat.add_comm]
  rw [e, formsTo_len] at this
  exact Nat.le_trans this (Nat.mul_le_mul hp hp)
theorem comeT_ok (hv : Vd r) (m : Mdl r act) (hp : prodN r.sz ≤ 64) (h : TabAt S t w d k r act) {f g : List Nat} (hf : Fm r f) (hg : Fm r g) :
    ∃ o, Kn r act o ∧ f_Table_come [.ref t, nT f, nT g] S = .ok (nT (mulF act f g)) (S.set k o) := by
  obtain ⟨o0, ho0, kn0⟩ := h.kn
  obtain ⟨L, rfl, hnd, hfm⟩ := kn0.ex
  have ll := kn_len hnd hfm hp
  have kl := h.klt
  by_cases hin : (f, g) ∈ L
  · refine ⟨_, kn0, ?_⟩
    rw [set_same ho0]
    refine trunc_eq0 (ok_eq ?_) (by simp)
    rw [mkFn_ap]
    have f2 := h.f2
    have ni : dNotInA (.tup [nT f, nT g]) (.ref k) S = some (.bl false) := by
      exact Kw.notin_f (K := kwFF) (V := tabV act) (a := (f, g)) ho0 hin
    have ix : dIxA (.ref k) (.tup [nT f, nT g]) S = some (nT (mulF act f g)) := Kw.ix (K := kwFF) (V := tabV act) (a := (f, g)) ho0 hin
    simp [m_Table_come, f2, ni, ix]
  · have kn1 : Kn r act (.dct (kwFF.kv (tabV act) (L ++ [(f, g)]))) := by
      refine ⟨_, rfl, ?_, ?_⟩
      · rw [List.nodup_append]
        refine ⟨hnd, by simp, ?_⟩
        rintro a ha b hb rfl
        rw [List.mem_singleton.mp hb] at ha
        exact hin ha
      · intro p hp
        rcases List.mem_append.mp hp with hp | hp
        · exact hfm p hp
        · rw [List.mem_singleton.mp hp]
          exact ⟨hf, hg⟩
    refine ⟨_, kn1, ?_⟩
    obtain ⟨o1, ho1⟩ : ∃ o1, o1 = Ob.dct (kwFF.kv (tabV act) (L ++ [(f, g)])) := ⟨_, rfl⟩
    rw [← ho1] at kn1 ⊢
    suffices hs : Ok (mkFn 6 m_Table_come [.ref t, nT f, nT g] S) fun x S' => x = nT (mulF act f g) ∧ ∃ X, S' = S.set k o1 ++ X by
      obtain ⟨x, S', e, rfl, X, rfl⟩ := hs.eq
      show trunc (mkFn 6 m_Table_come) _ _ = _
      rw [trunc_val e (good_set kn1.low) (by simp)]
      rw [show S.length = (S.set k o1).length by simp, take_app]
    obtain ⟨P, hP⟩ : ∃ P : D → Sto → Prop, ∀ x S', P x S' ↔ x = nT (mulF act f g) ∧ ∃ X, S' = S.set k o1 ++ X := ⟨_, fun _ _ => Iff.rfl⟩
    suffices hs : Ok (mkFn 6 m_Table_come [.ref t, nT f, nT g] S) P from hs.imp fun a T q => (hP _ _).mp q
    rw [mkFn_ap]
    have ni : dNotInA (.tup [nT f, nT g]) (.ref k) S = some (.bl true) := by
      exact Kw.notin_t (K := kwFF) (V := tabV act) (a := (f, g)) ho0 hin
    have fl : ∀ T, fList [nT f] T = some (f.map iD) := fun T => rfl
    have lg : ∀ T, f_letters_of [nT g] T = .ok (nT (wordL g)) T := fun T => FmOk.letters hv hg
    have si2 : ∀ T, seqIt T (nT (wordL g)) = some ((wordL g).map iD, []) := fun T => rfl
    simp [m_Table_come, h.f2, ni, fl, lg, si2]
    obtain ⟨J, hJ⟩ : ∃ J : Nat → Fr → Sto → Prop, ∀ i ρ T, J i ρ T ↔ T = S ++ [.lst ((acts act f ((wordL g).take i)).map iD)] ∧ ∃ x5, ρ = [some (.ref t), some (nT f), some (nT g), some (.tup [nT f, nT g]), some (.ref S.length), x5] := ⟨_, fun _ _ _ => Iff.rfl⟩
    refine forL_ok J ((hJ _ _ _).mpr ⟨by simp, _, rfl⟩) (fun i ρ T hK => gOk_nil) (fun i e ρ T he hK => ?_) (fun ρ T hK => ?_)
    · obtain ⟨rfl, x5, rfl⟩ := (hJ _ _ _).mp hK
      rw [List.getElem?_map] at he
      obtain ⟨x, hx, rfl⟩ := Option.map_eq_some_iff.mp he
      have lx := hg.lt x (List.mem_of_getElem? hx)
      obtain ⟨c, hc⟩ : ∃ c, c = acts act f ((wordL g).take i) := ⟨_, rfl⟩
      have fc : Fm r c := by rw [hc]; exact m.fm hf fun y hy => hg.lt y (List.mem_of_mem_take hy)
      have nx : acts act f ((wordL g).take (i + 1)) = act c x := by
        rw [List.take_add_one, hx, acts_app, ← hc]
        rfl
      rw [← hc]
      have hh : TabAt (S ++ [.lst (c.map iD)]) t w d k r act := h.app
      have pt := put_ok (S := S ++ [.lst (c.map iD)]) (n := S.length) hv m hh.wy (by have := h.wlt; omega) (by have := h.dlt; omega) (f := c) (h := x) (by simp) fc lx
      rw [sto_set0] at pt
      have lk : List.lookup (("put" : Str)) (waysF r d) = none := by simp [waysF, List.lookup, s_ne8, s_ne9, s_ne10]
      simp [hh.f1, insOf_at hh.wy.at_, lk, pt]
      exact (hJ _ _ _).mpr ⟨by rw [nx], _, rfl⟩
    · obtain ⟨rfl, x5, rfl⟩ := (hJ _ _ _).mp hK
      rw [List.length_map, List.take_length]
      have em : acts act f (wordL g) = mulF act f g := rfl
      rw [em]
      have hh : TabAt (S ++ [.lst ((mulF act f g).map iD)]) t w d k r act := h.app
      have h0 : (S ++ [Ob.lst ((mulF act f g).map iD)])[k]? = some (.dct (kwFF.kv (tabV act) L)) := by rw [sto_lo kl]; exact ho0
      have st : fSetA (.ref k) (.tup [nT f, nT g]) (nT (mulF act f g)) (S ++ [.lst ((mulF act f g).map iD)]) = some (S.set k o1 ++ [.lst ((mulF act f g).map iD)]) := by
        have := Kw.set (K := kwFF) (V := tabV act) (a := (f, g)) h0 hin (by omega)
        rw [sto_slo kl, ← ho1] at this
        exact this
      have ft : ∀ l, fTuple [.ref S.length] (S ++ [.lst l]) = some (.tup l) := fun l => fTuple_1
      have hh2 : TabAt (S.set k o1 ++ [.lst ((mulF act f g).map iD)]) t w d k r act := (h.set kn1).app
      have h1 : (S.set k o1 ++ [Ob.lst ((mulF act f g).map iD)])[k]? = some (.dct (kwFF.kv (tabV act) (L ++ [(f, g)]))) := by
        rw [sto_lo (by simpa using kl), List.getElem?_set_self kl, ho1]
      have ix : dIxA (.ref k) (.tup [nT f, nT g]) (S.set k o1 ++ [.lst ((mulF act f g).map iD)]) = some (nT (mulF act f g)) := Kw.ix (K := kwFF) (V := tabV act) (a := (f, g)) h1 (by simp)
      have st' : fSetA (.ref k) (.tup [nT f, nT g]) (.tup ((mulF act f g).map iD)) (S ++ [.lst ((mulF act f g).map iD)]) = some (S.set k o1 ++ [.lst ((mulF act f g).map iD)]) := st
      simp [ft, hh.f2, st', hh2.f2, ix]
      exact (hP _ _).mpr ⟨rfl, _, rfl⟩
end
end MP

/-! R, part c: powers by the program's table; tables made; forms taken and undone. -/
namespace MP
open PySem L2
section
variable {r : Ru} {act : List Nat → Nat → List Nat} {S : Sto} {t w d k : Nat}
open Classical in
theorem trunc_listS {f : Fn} {ds : List D} {S : Sto} {n : Nat} {o : Ob} {l : List D} (h : f ds S = .ok (.ref S.length) (S.set n o ++ [.lst l])) (ho : lowO S.length o = true) (c : lowDs S.length l = true) : trunc f ds S = .ok (.lv l) (S.set n o) := by
  have e : frz S.length (S.set n o ++ [.lst l]) 8 (.ref S.length) = .lv l := by
    simp only [frz]
    rw [if_neg (by omega), sto_at20]
    simp only [List.getElem?_cons_zero]
    rw [map_id_of fun d hd => frz_low 7 (lowDs_iff.mp c d hd)]
  have tk : (S.set n o ++ [Ob.lst l]).take S.length = S.set n o := by rw [show S.length = (S.set n o).length by simp, take_app]
  unfold trunc
  rw [h]
  show (if Good S (S.set n o ++ [.lst l]) ∧ lowD S.length (frz S.length (S.set n o ++ [.lst l]) 8 (.ref S.length)) = true then Res.ok (frz S.length (S.set n o ++ [.lst l]) 8 (.ref S.length)) ((S.set n o ++ [Ob.lst l]).take S.length) else .bad) = _
  rw [if_pos ⟨good_set ho, by rw [e]; simp only [lowD]; exact c⟩, e, tk]
theorem lk_come : List.lookup (("come" : Str)) (tabF w k) = none := by simp [tabF, List.lookup, s_ne11, s_ne12]
theorem timesT_ok (hv : Vd r) (m : Mdl r act) (hp : prodN r.sz ≤ 64) (h : TabAt S t w d k r act) {f : List Nat} {o : Nat} (hf : Fm r f) (ho : Ord r act f o) :
    ∃ b, Kn r act b ∧ f_times_of [.ref t, nT f] S = .ok (.lv ((powsL r act f o).map nT)) (S.set k b) := by
  have len := hv.sz.len
  have hl := ho.le
  have kl := h.klt
  have loop : ∀ j i b, 0 < i → i + j = o → Kn r act b → ∃ b', Kn r act b' ∧ mWhile (mT (mCB fAny (mConsA (mVar 3) mNilA))) (mSeq (mDo (mMt isL fAppend (mVar 2) (mConsA (mVar 3) mNilA)))
 (mSet 3 (mMeth "Table" "come" f_Table_come (mVar 0) (mConsA (mVar 3) (mConsA (mVar 1) mNilA))))) [some (.ref t), some (nT f), some (.ref S.length), some (nT (pwr r act f i))] (S.set k b ++ [.lst ((powsL r act f i).map nT)]) = .ok (.nx [some (.ref t), some (nT f), some (.ref S.length), some (nT (pwr r act f o))]) (S.set k b' ++ [.lst ((powsL r act f o).map nT)]) := by
    intro j
    induction j with
    | zero =>
      intro i b h0 hk hb
      have : i = o := by omega
      subst this
      refine ⟨b, hb, ?_⟩
      rw [mWhile_unfold]
      have c : (mT (mCB fAny (mConsA (mVar 3) mNilA))) [some (.ref t), some (nT f), some (.ref S.length), some (nT (pwr r act f i))] (S.set k b ++ [.lst ((powsL r act f i).map nT)]) = .ok false (S.set k b ++ [.lst ((powsL r act f i).map nT)]) := by
        refine ok_eq ?_
        have az := any_fm (T := S.set k b ++ [.lst ((powsL r act f i).map nT)]) (m.pwr_fm hv hf i)
        rw [decide_eq_false (fun h => h ho.z)] at az
        simp [az]
      rw [c]
      rfl
    | succ j ih =>
      intro i b h0 hk hb
      have h1 := h.set hb
      have h2 : TabAt (S.set k b ++ [.lst ((powsL r act f (i + 1)).map nT)]) t w d k r act := h1.app
      obtain ⟨b2, kb2, e2⟩ := comeT_ok hv m hp h2 (m.pwr_fm hv hf i) hf
      rw [sto_re kl] at e2
      obtain ⟨b', kb', e'⟩ := ih (i + 1) b2 (by omega) (by omega) kb2
      refine ⟨b', kb', ?_⟩
      rw [mWhile_unfold]
      have c : (mT (mCB fAny (mConsA (mVar 3) mNilA))) [some (.ref t), some (nT f), some (.ref S.length), some (nT (pwr r act f i))] (S.set k b ++ [.lst ((powsL r act f i).map nT)]) = .ok true (S.set k b ++ [.lst ((powsL r act f i).map nT)]) := by
        refine ok_eq ?_
        simp [any_fm (m.pwr_fm hv hf i), ho.nz i h0 (by omega)]
      have bd : (mSeq (mDo (mMt isL fAppend (mVar 2) (mConsA (mVar 3) mNilA)))
 (mSet 3 (mMeth "Table" "come" f_Table_come (mVar 0) (mConsA (mVar 3) (mConsA (mVar 1) mNilA))))) [some (.ref t), some (nT f), some (.ref S.length), some (nT (pwr r act f i))] (S.set k b ++ [.lst ((powsL r act f i).map nT)]) = .ok (.nx [some (.ref t), some (nT f), some (.ref S.length), some (nT (pwr r act f (i + 1)))]) (S.set k b2 ++ [.lst ((powsL r act f (i + 1)).map nT)]) := by
        refine ok_eq ?_
        have ap : fAppend (.ref S.length) [nT (pwr r act f i)] (S.set k b ++ [.lst ((powsL r act f i).map nT)]) = some (.non, S.set k b ++ [.lst ((powsL r act f (i + 1)).map nT)]) := by
          rw [fAppend_2 (by simp [powsL]; omega), powsL_succ]
          simp
        have em : pwr r act f (i + 1) = mulF act (pwr r act f i) f := rfl
        simp [ap, insOf_at h2.at_, lk_come, e2, em]
      rw [c, Res.bind_ok, if_pos rfl, bd, Res.bind_ok]
      exact e'
  obtain ⟨b0, hb0, kb0⟩ := h.kn
  obtain ⟨b', kb', lp⟩ := loop (o - 1) 1 b0 (by omega) (by have := ho.pos; omega) kb0
  rw [m.pwr_one hf, set_same hb0] at lp
  have p1 : powsL r act f 1 = [zs r.sz.length] := by simp [powsL, pwr]
  rw [p1] at lp
  have z1 : ∀ T, dMul (.tup [.int 0]) (.int (f.length : Int)) T = some (nT (zs r.sz.length)) := fun T => by
    rw [hf.1]
    exact zs_ap (by omega)
  have e : mkFn 4 m_times_of [.ref t, nT f] S = .ok (.ref S.length) (S.set k b' ++ [.lst ((powsL r act f o).map nT)]) := by
    refine ok_eq ?_
    rw [mkFn_ap]
    simp only [List.map_cons, List.map_nil] at lp
    simp [m_times_of, fLen_n, z1, lp]
  exact ⟨b', kb', trunc_listS e kb'.low low_nTs⟩
theorem trunc_set {f : Fn} {ds : List D} {S : Sto} {n : Nat} {o : Ob} {x : D} (h : f ds S = .ok x (S.set n o)) (ho : lowO S.length o = true) (c : lowD S.length x = true) : trunc f ds S = .ok x (S.set n o) := by
  rw [trunc_val h (good_setS ho) c, show S.length = (S.set n o).length by simp, List.take_length]
theorem undoneT_ok (hv : Vd r) (m : Mdl r act) (hp : prodN r.sz ≤ 64) (h : TabAt S t w d k r act) {f : List Nat} {o : Nat} (hf : Fm r f) (ho : Ord r act f o) :
    ∃ b, Kn r act b ∧ f_undone_by [.ref t, nT f] S = .ok (nT (pwr r act f (o - 1))) (S.set k b) := by
  obtain ⟨b, kb, e⟩ := timesT_ok hv m hp h hf ho
  refine ⟨b, kb, trunc_set (ok_eq ?_) kb.low (by simp)⟩
  rw [mkFn_ap]
  have e1 : ∀ T, dIx (.lv ((powsL r act f o).map nT)) (.int (-1)) T = some (nT (pwr r act f (o - 1))) := fun T => by
    obtain ⟨j, hj⟩ : ∃ j, o = j + 1 := ⟨o - 1, by have := ho.pos; omega⟩
    subst hj
    rw [powsL_succ, List.map_append, List.map_cons, List.map_nil, ix_last, Nat.add_sub_cancel]
  simp [m_undone_by, e, e1]
/-! ### made -/
theorem kwSw_set {S : Sto} {n : Nat} {al : Al} {p : Nat × Nat} {f : List Nat} (h : S[n]? = some (.dct (kvD al))) (hn : al.lookup p = none) (hl : al.length < 1000000) : fSetA (.ref n) (pD p) (nT f) S = some (S.set n (.dct (kvD (al ++ [(p, f)])))) := by
  have ht : (kvD al).all (fun p => dctT.isTup p.1) = true := by simp [kvD, pD, dctT.isTup]
  unfold fSetA
  rw [dctT_of h ht]
  simp only
  unfold fSetT
  rw [dctT_of h ht, tupKey_pD]
  simp only
  rw [if_pos (by simp only [kvD, List.length_map]; exact Nat.lt_trans hl (by decide)), kvPut_al hn]
  rfl
theorem s_q1 : ¬ (("sizes" : Str) = "powers") := by decide +kernel
theorem s_q2 : ¬ (("sizes" : Str) = "swaps") := by decide +kernel
theorem s_q3 : ¬ (("powers" : Str) = "swaps") := by decide +kernel
theorem s_q4 : ¬ (("ways" : Str) = "known") := by decide +kernel
def swL (r : Ru) : Al := ((pairsL r.sz.length).zip r.ex).map fun x => (x.1, wordL x.2)
theorem swD_eq {r : Ru} : swD r = kvD (swL r) := by simp [swD, kvD, swL]
theorem zipD_zip {ps : List (Nat × Nat)} {es : List (List Nat)} {i : Nat} {e : D} (h : (zipD (ps.map pD) (es.map nT))[i]? = some e) : ∃ p f, (ps.zip es)[i]? = some (p, f) ∧ e = .tup [pD p, nT f] := by
  obtain ⟨a, b, h1, h2, rfl⟩ := zipD_get h
  rw [List.getElem?_map] at h1 h2
  obtain ⟨p, k1, rfl⟩ := Option.map_eq_some_iff.mp h1
  obtain ⟨f, k2, rfl⟩ := Option.map_eq_some_iff.mp h2
  refine ⟨p, f, ?_, rfl⟩
  rw [List.getElem?_zip_eq_some]
  exact ⟨k1, k2⟩
theorem zip_mem_ex {r : Ru} (hv : Vd r) {i : Nat} {p : Nat × Nat} {f : List Nat} (h : ((pairsL r.sz.length).zip r.ex)[i]? = some (p, f)) : FmOk r.sz (p.1 + 1) f := by
  obtain ⟨h1, h2⟩ := List.getElem?_zip_eq_some.mp h
  obtain ⟨a, b⟩ := p
  have hm := pairsL_mem.mp (List.mem_of_getElem? h1)
  have := hv.exOk hm.1 hm.2
  rwa [exF_at hv.el h1 h2] at this
theorem zip_fresh {r : Ru} (hv : Vd r) {i : Nat} {p : Nat × Nat} {f : List Nat} (h : ((pairsL r.sz.length).zip r.ex)[i]? = some (p, f)) : ((swL r).take i).lookup p = none := by
  rw [List.lookup_eq_none_iff]
  intro x hx
  rw [swL, ← List.map_take] at hx
  obtain ⟨y, hy, rfl⟩ := List.mem_map.mp hx
  rw [bne_iff_ne]
  intro e
  obtain ⟨j, hj, ej⟩ := List.getElem_of_mem hy
  rw [List.length_take] at hj
  rw [List.getElem_take] at ej
  have h1 := (List.getElem?_zip_eq_some.mp h).1
  have h2 : ((pairsL r.sz.length).zip r.ex)[j]? = some y := by rw [List.getElem?_eq_getElem (by omega), ej]
  obtain ⟨y1, y2⟩ := y
  have h3 := (List.getElem?_zip_eq_some.mp h2).1
  simp only at e
  subst e
  have hi := (List.getElem?_eq_some_iff.mp h1).1
  have nd := pairsL_nodup r.sz.length
  obtain ⟨l1, g1⟩ := List.getElem?_eq_some_iff.mp h1
  obtain ⟨l3, g3⟩ := List.getElem?_eq_some_iff.mp h3
  have := (List.getElem_inj nd (h₀ := l1) (h₁ := l3)).mp (g1.trans g3.symm)
  omega
theorem ways_init (hv : Vd r) : f_Ways___init__ [.ref S.length, ruD r] (S ++ [.ins "Ways" []]) = .ok .non (S ++ [.ins "Ways" (waysF r (S.length + 1)), .dct (swD r)]) := by
  have len := hv.sz.len
  refine ok_eq ?_
  show Ok (mkFn 4 m_Ways___init__ [.ref S.length, ruD r] _) _
  rw [mkFn_ap]
  obtain ⟨P, hP⟩ : ∃ P : D → Sto → Prop, ∀ x S', P x S' ↔ x = .non ∧ S' = S ++ [.ins "Ways" (waysF r (S.length + 1)), .dct (swD r)] := ⟨_, fun _ _ => Iff.rfl⟩
  suffices hs : Ok ((m_Ways___init__ ([.ref S.length, ruD r].map some ++ List.replicate (4 - [D.ref S.length, ruD r].length) none) (S ++ [.ins "Ways" []])).bind fun f S1 => match f with
    | .nx _ => .ok .non S1
    | .rt d => .ok d S1
    | _ => .bad) P from hs.imp fun a T q => (hP _ _).mp q
  have i1 : ∀ T, dIx (ruD r) (.int 1) T = some (.tup (r.pw.map nT)) := fun T => by simp [ruD, dIx_t]
  have i2 : ∀ T, dIx (ruD r) (.int 2) T = some (.tup (r.ex.map nT)) := fun T => by simp [ruD, dIx_t]
  have pe : ∀ T, f_pairs_of [.int (r.sz.length : Int)] T = .ok (.lv ((pairsL r.sz.length).map pD)) T := fun T => pairs_ok (by omega)
  have io : ∀ (l : List Ob) fs, insOf "Ways" (.ref S.length) (S ++ .ins "Ways" fs :: l) = some fs := fun l fs => insOf_at (by simp)
  have si : ∀ T l, seqIt T (.tup (List.map nT l)) = some (l.map nT, []) := fun T l => rfl
  have lc : ∀ ρ1 ρ2 ρ3 T, lcGo [] (lcB1 3) mYes (mCall f_letters_of (mConsA (mVar 3) mNilA)) [ρ1, ρ2, ρ3, none] (r.pw.map nT) T = .ok (r.pw.map fun f => nT (wordL f)) T := fun ρ1 ρ2 ρ3 T => by
    rw [lcGo_map (fun d => match d with
      | .tup l => nT (wordL (l.map fun x => (asInt x).toNat))
      | _ => .non) gOk_nil (fun d hd => ?_)]
    · congr 1
      rw [List.map_map]
      refine List.map_congr_left fun f hf => ?_
      simp [nT, asInt, Function.comp_def]
    · obtain ⟨f, hf, rfl⟩ := List.mem_map.mp hd
      obtain ⟨j, hj, e⟩ := List.getElem_of_mem hf
      have hj2 : j < r.sz.length := by rw [← hv.pl]; exact hj
      have pf := hv.pwOk hj2
      have : pwF r j = f := by simp [pwF, hj, e]
      rw [this] at pf
      have l1 : ∀ T, f_letters_of [nT f] T = .ok (nT (wordL f)) T := fun T => pf.letters hv
      refine ⟨_, rfl, rfl, ok_eq ?_⟩
      simp [l1]
      simp [nT, asInt, Function.comp_def]
  have pl : r.pw.length ≤ 1000000 := by rw [hv.pl]; omega
  have zi : ∀ T, zipIt T [.lv ((pairsL r.sz.length).map pD), .tup (r.ex.map nT)] = some (zipD ((pairsL r.sz.length).map pD) (r.ex.map nT), []) := fun T => rfl
  simp [m_Ways___init__, ru_ix0, i1, i2, fLen_n, pe, io, si, lc, pl, putFs, s_q1, s_q2, s_q3, zi]
  have wf : [(("sizes" : Str), nT r.sz), ("powers", D.lv (r.pw.map fun f => nT (wordL f))), ("swaps", .ref (S.length + 1))] = waysF r (S.length + 1) := rfl
  rw [wf]
  have e0 : ∀ o : Ob, S ++ [Ob.ins "Ways" (waysF r (S.length + 1)), o] = (S ++ [Ob.ins "Ways" (waysF r (S.length + 1))]) ++ [o] := fun o => by simp
  obtain ⟨I, hI⟩ : ∃ I : Nat → Fr → Sto → Prop, ∀ i ρ T, I i ρ T ↔ T = S ++ [.ins "Ways" (waysF r (S.length + 1)), .dct (kvD ((swL r).take i))] ∧ ∃ x2 x3, ρ = [some (.ref S.length), some (ruD r), x2, x3] := ⟨_, fun _ _ _ => Iff.rfl⟩
  refine forL_ok I ((hI _ _ _).mpr ⟨by simp [kvD], _, _, rfl⟩) (fun i ρ T hK => gOk_nil) (fun i e ρ T he hK => ?_) (fun ρ T hK => ?_)
  · obtain ⟨rfl, x2, x3, rfl⟩ := (hI _ _ _).mp hK
    obtain ⟨p, f, hz, rfl⟩ := zipD_zip he
    have ff := zip_mem_ex hv hz
    have l1 : ∀ T, f_letters_of [nT f] T = .ok (nT (wordL f)) T := fun T => ff.letters hv
    have fd : ∀ o, fldOf "Ways" "swaps" (.ref S.length) (S ++ [.ins "Ways" (waysF r (S.length + 1)), o]) = some (.ref (S.length + 1)) := fun o => by
      unfold fldOf
      rw [insOf_at (c := "Ways") (fs := waysF r (S.length + 1)) (by simp)]
      simp [waysF, List.lookup, s_ne2, s_ne3]
    have at1 : (S ++ [Ob.ins "Ways" (waysF r (S.length + 1)), .dct (kvD ((swL r).take i))])[S.length + 1]? = some (.dct (kvD ((swL r).take i))) := by simp
    have ll : ((swL r).take i).length < 1000000 := by
      have h1 : ((swL r).take i).length ≤ (swL r).length := by rw [List.length_take]; omega
      have h2 : (swL r).length ≤ (pairsL r.sz.length).length := by rw [swL, List.length_map, List.length_zip]; omega
      have h3 := pairsL_small len
      omega
    have st := kwSw_set (p := p) (f := wordL f) at1 (zip_fresh hv hz) ll
    rw [sto_set] at st
    simp [l1, fd, st]
    refine (hI _ _ _).mpr ⟨?_, _, _, rfl⟩
    have : (swL r)[i]? = some (p, wordL f) := by
      rw [swL, List.getElem?_map, hz]
      rfl
    rw [List.take_add_one, this]
    rfl
  · obtain ⟨rfl, x2, x3, rfl⟩ := (hI _ _ _).mp hK
    simp only [ok_ok]
    refine (hP _ _).mpr ⟨rfl, ?_⟩
    rw [List.take_of_length_le, swD_eq]
    rw [swL, List.length_map, List.length_zip, zipD, List.length_zipWith, List.length_map, List.length_map]
    exact Nat.le_refl _
end
end MP

/-! R, part d: tables made; forms taken, undone, turned, met; what is shown. -/
namespace MP
open PySem L2
section
variable {r : Ru} {act : List Nat → Nat → List Nat} {S : Sto} {t w d k : Nat}
/-- a table that has been made behind S -/
def newT (S : Sto) (r : Ru) (o : Ob) : Sto := S ++ [.ins "Table" (tabF (S.length + 1) (S.length + 3)), .ins "Ways" (waysF r (S.length + 2)), .dct (swD r), o]
def knF (act : List Nat → Nat → List Nat) (L : List (List Nat × List Nat)) : Ob := .dct (kwFF.kv (tabV act) L)
theorem kn_nil : Kn r act (.dct []) := ⟨[], rfl, List.nodup_nil, fun p h => by cases h⟩
theorem newT_at {o : Ob} (h : Kn r act o) : TabAt (newT S r o) S.length (S.length + 1) (S.length + 2) (S.length + 3) r act :=
  ⟨by simp [newT], ⟨by simp [newT], by simp [newT]⟩, ⟨o, by simp [newT], h⟩, by omega, by omega, by omega⟩
theorem newT_set {o o' : Ob} : (newT S r o).set (S.length + 3) o' = newT S r o' := by
  unfold newT
  rw [sto_set]
  rfl
theorem table_init (hv : Vd r) : f_Table___init__ [.ref S.length, ruD r] (S ++ [.ins "Table" []]) = .ok .non (newT S r (.dct [])) := by
  refine ok_eq ?_
  show Ok (mkFn 2 m_Table___init__ [.ref S.length, ruD r] _) _
  rw [mkFn_ap]
  have wi := ways_init (S := S ++ [Ob.ins "Table" []]) hv
  simp only [List.length_append, List.length_cons, List.length_nil, Nat.zero_add] at wi
  have e1 : S ++ [Ob.ins "Table" []] ++ [Ob.ins "Ways" []] = S ++ [Ob.ins "Table" [], Ob.ins "Ways" []] := by simp
  rw [e1] at wi
  have io : ∀ (l : List Ob) fs, insOf "Table" (.ref S.length) (S ++ .ins "Table" fs :: l) = some fs := fun l fs => insOf_at (by simp)
  simp [m_Table___init__, wi, io, putFs, s_q4]
  rfl
theorem make_table (hv : Vd r) {ρ : Fr} {a : M (List D)} (ha : a ρ S = .ok [ruD r] S) : mMake "Table" f_Table___init__ a ρ S = .ok (.ref S.length) (newT S r (.dct [])) := by
  rw [mMake_ap, ha, Res.bind_ok, table_init hv, Res.bind_ok]
  rfl
theorem takenP_ok (hv : Vd r) (m : Mdl r act) (hp : prodN r.sz ≤ 64) {f g : List Nat} (hf : Fm r f) (hg : Fm r g) : f_taken [ruD r, nT f, nT g] S = .ok (nT (mulF act f g)) S := by
  have mk := make_table (S := S) hv (ρ := [some (ruD r), some (nT f), some (nT g)]) (a := mConsA (mVar 0) mNilA) (ok_eq (by simp))
  have h0 := newT_at (S := S) (r := r) (act := act) kn_nil
  obtain ⟨o, ko, e⟩ := comeT_ok hv m hp h0 hf hg
  rw [newT_set] at e
  have en : mkFn 3 m_taken [ruD r, nT f, nT g] S = .ok (nT (mulF act f g)) (newT S r o) := by
    refine ok_eq ?_
    rw [mkFn_ap]
    rw [mMake_ap] at mk
    simp at mk
    simp [m_taken, mk, insOf_at h0.at_, lk_come, e]
  exact trunc_eq (X := [.ins "Table" (tabF (S.length + 1) (S.length + 3)), .ins "Ways" (waysF r (S.length + 2)), .dct (swD r), o]) en (by simp)
theorem undoneP_ok (hv : Vd r) (m : Mdl r act) (hp : prodN r.sz ≤ 64) {f : List Nat} {o : Nat} (hf : Fm r f) (ho : Ord r act f o) : f_undone [ruD r, nT f] S = .ok (nT (pwr r act f (o - 1))) S := by
  have mk := make_table (S := S) hv (ρ := [some (ruD r), some (nT f)]) (a := mConsA (mVar 0) mNilA) (ok_eq (by simp))
  have h0 := newT_at (S := S) (r := r) (act := act) kn_nil
  obtain ⟨b, kb, e⟩ := undoneT_ok hv m hp h0 hf ho
  rw [newT_set] at e
  have en : mkFn 2 m_undone [ruD r, nT f] S = .ok (nT (pwr r act f (o - 1))) (newT S r b) := by
    refine ok_eq ?_
    rw [mkFn_ap]
    rw [mMake_ap] at mk
    simp at mk
    simp [m_undone, mk, e]
  exact trunc_eq (X := [.ins "Table" (tabF (S.length + 1) (S.length + 3)), .ins "Ways" (waysF r (S.length + 2)), .dct (swD r), b]) en (by simp)
end
/-! ### what is shown -/
structure Shw (S : Sto) (d : D) : Prop where
  ex : ∃ s, fRepr [d] S = some (.str s)
theorem same_ok {S : Sto} {d : D} (h : Shw S d) : f_law_same [d, d] S = .ok (.bl true) S := by
  obtain ⟨s, hs⟩ := h.ex
  refine trunc_eq0 (ok_eq ?_) rfl
  rw [mkFn_ap]
  simp [m_law_same, hs, dEqS]
theorem shw_of {S : Sto} {d : D} {p : PyData} (h : pd S 8 d = some p) (h1 : showsD d = true) (h2 : p.showable = true) (h3 : p.hasDict = false) (h4 : p.leavesShort 13 = true) (h5 : p.bulk ≤ 2 ^ 20) : Shw S d := by
  refine ⟨p.shown, ?_⟩
  simp only [fRepr, h]
  rw [if_pos ⟨by rw [h1, h2, h3]; rfl, PyData.shown_fits_bulk (B := 13) (by decide) (by decide) h4 h5⟩]
theorem nat_show {x : Nat} (h : x ≤ 1000000) : PyData.showable (.int (x : Int)) = true ∧ PyData.leavesShort 13 (.int (x : Int)) = true := by
  constructor
  · simp only [PyData.showable, decide_eq_true_eq, Int.natAbs_natCast]
    by_cases h0 : x = 0
    · subst h0
      decide
    · exact Nat.lt_of_lt_of_le ((Nat.log2_lt h0).mpr (Nat.lt_of_le_of_lt h (by decide : 1000000 < 2 ^ 20))) (by decide)
  · simp only [PyData.leavesShort, decide_eq_true_eq]
    exact PyData.shown_int_le2 (by omega) (by omega)
theorem nats_show {l : List Nat} (h : ∀ x ∈ l, x ≤ 1000000) : PyData.showableAll (l.map fun (y : Nat) => PyData.int (y : Int)) = true ∧ PyData.hasDictAll (l.map fun (y : Nat) => PyData.int (y : Int)) = false ∧ PyData.leavesShortAll 13 (l.map fun (y : Nat) => PyData.int (y : Int)) = true ∧ PyData.bulkAll (l.map fun (y : Nat) => PyData.int (y : Int)) = l.length := by
  induction l with
  | nil => exact ⟨rfl, rfl, rfl, rfl⟩
  | cons x l ih =>
    obtain ⟨i1, i2, i3, i4⟩ := ih fun y hy => h y (List.mem_cons_of_mem _ hy)
    obtain ⟨j1, j2⟩ := nat_show (h x List.mem_cons_self)
    refine ⟨?_, ?_, ?_, ?_⟩
    · simp only [List.map_cons, PyData.showableAll, i1, j1, Bool.and_self]
    · simp only [List.map_cons, PyData.hasDictAll, PyData.hasDict, i2, Bool.or_self]
    · simp only [List.map_cons, PyData.leavesShortAll, i3, j2, Bool.and_self]
    · simp only [List.map_cons, PyData.bulkAll, PyData.bulk, i4, List.length_cons]
      omega
theorem shw_n {S : Sto} {l : List Nat} (h : ∀ x ∈ l, x ≤ 1000000) (hl : l.length ≤ 1000000) : Shw S (nT l) := by
  obtain ⟨i1, i2, i3, i4⟩ := nats_show h
  refine shw_of pd_nT rfl ?_ ?_ ?_ ?_
  · simpa only [PyData.showable] using i1
  · simpa only [PyData.hasDict] using i2
  · simpa only [PyData.leavesShort] using i3
  · simp only [PyData.bulk, i4]
    exact Nat.le_trans hl (by decide)
theorem shw_i {S : Sto} {x : Nat} (h : x ≤ 1000000) : Shw S (iD x) := by
  obtain ⟨j1, j2⟩ := nat_show h
  exact shw_of (p := .int (x : Int)) (by simp [iD, pd]) rfl j1 rfl j2 (by simp only [PyData.bulk]; decide)
theorem shw_non {S : Sto} : Shw S .non := shw_of (p := .none) (by simp [pd]) rfl rfl rfl rfl (by decide)
section
variable {r : Ru} {S : Sto}
theorem FmOk.shw (hv : Vd r) {f : List Nat} (hf : Fm r f) : Shw S (nT f) := shw_n (fun x hx => by have := hf.le100 hv x hx; omega) (by rw [hf.1]; have := hv.sz.len; omega)
end
end MP

/-! R, part e: forms drawn by a law. -/
namespace MP
open PySem L2
theorem pick_at {l : List D} {k : Nat} {T : Sto} (h : k < l.length) : ∃ d, d ∈ l ∧ dIx (.lv l) (iD k) T = some d := by
  refine ⟨l[k], List.getElem_mem h, ?_⟩
  rw [dIx_l]
  exact atI_some (List.getElem?_eq_getElem h)
theorem pick_ok {l : List D} {k : Nat} {T : Sto} {P : D → Prop} (h : k < l.length) (hp : ∀ d ∈ l, P d) : Ok (optR (dIx (.lv l) (iD k) T) T) fun d S' => P d ∧ S' = T := by
  obtain ⟨d, h1, h2⟩ := pick_at (T := T) h
  rw [h2]
  simpa using hp d h1
section
variable {r : Ru} {S : Sto} {n : Nat}
theorem formD_ok (h : St S n) (hv : Vd r) : ∃ f o, StO o ∧ Fm r f ∧ f_law_form [.ref n, ruD r] S = .ok (nT f) (S.set n o) := by
  have len := hv.sz.len
  have nl := h.lt
  obtain ⟨P, hP⟩ : ∃ P : D → Sto → Prop, ∀ d S', P d S' ↔ ∃ f o, StO o ∧ Fm r f ∧ d = nT f ∧ S' = S.set n o := ⟨_, fun _ _ => Iff.rfl⟩
  suffices hs : Ok (mkFn 3 m_law_form [.ref n, ruD r] S) P by
    obtain ⟨d, S', e, p⟩ := hs.eq
    obtain ⟨f, o, ho, hf, rfl, rfl⟩ := (hP _ _).mp p
    exact ⟨f, o, ho, hf, trunc_dr (X := []) (by rw [List.append_nil]; exact e) ho (by simp)⟩
  rw [mkFn_ap]
  have si : ∀ T, seqIt T (nT r.sz) = some (r.sz.map iD, []) := fun T => rfl
  have sl : r.sz.length ≤ 1000000 := by omega
  simp [m_law_form, ru_ix0, si, sl]
  obtain ⟨I, hI⟩ : ∃ I : Nat → List D → Sto → Prop, ∀ i l S', I i l S' ↔ ∃ vs : List Nat, l = vs.map iD ∧ vs.length = i ∧ (∀ j, j < i → vs.getD j 0 < r.sz.getD j 0) ∧ ∃ o, StO o ∧ S' = S.set n o := ⟨_, fun _ _ _ => Iff.rfl⟩
  have s0 : ∃ o, StO o ∧ S = S.set n o := by
    obtain ⟨o, h1, h2⟩ := h
    exact ⟨o, h2, (set_same h1).symm⟩
  refine lcGo_ok I ((hI _ _ _).mpr ⟨[], rfl, rfl, fun j hj => by omega, s0⟩) (fun i l S' hJ => gOk_nil) (fun i e l S' he hJ => ?_) (fun l S' hJ => ?_)
  · obtain ⟨vs, rfl, hl, hb, o, ho, rfl⟩ := (hI _ _ _).mp hJ
    rw [List.getElem?_map] at he
    obtain ⟨s, hs, rfl⟩ := Option.map_eq_some_iff.mp he
    have hi := (List.getElem?_eq_some_iff.mp hs).1
    have es : r.sz.getD i 0 = s := by rw [List.getD_eq_getElem?_getD, hs]; rfl
    have s2 := hv.sz.pos hi
    have s8 := hv.sz.lt _ (List.mem_of_getElem? hs)
    obtain ⟨v, o2, ho2, hvl, e2⟩ := take_nat (m := (s : Int)) (k := s) (h.set ho) rfl (by omega) (by omega)
    rw [List.set_set] at e2
    refine ⟨_, rfl, ?_⟩
    simp [e2]
    refine (hI _ _ _).mpr ⟨vs ++ [v], by simp, by simp [hl], fun j hj => ?_, o2, ho2, rfl⟩
    rw [getD_app]
    split
    · exact hb j (by omega)
    · have : j = i := by omega
      subst this
      rw [es, hl]
      simpa using hvl
  · obtain ⟨vs, rfl, hl, hb, o, ho, rfl⟩ := (hI _ _ _).mp hJ
    rw [List.length_map] at hl hb
    try simp
    exact (hP _ _).mpr ⟨vs, o, ho, ⟨hl, fun i hi => ⟨hb i hi, fun h => by omega⟩⟩, rfl, rfl⟩
theorem formsD_ok (hv : Vd r) {bd : LcB} {e : M D} {ρ : Fr} {c : Nat} (h : St S n) (he : ∀ d, ∃ ρ1, bd d ρ = some ρ1 ∧ ∀ T, e ρ1 T = f_law_form [.ref n, ruD r] T) : ∃ (fs : List (List Nat)) (o : Ob), StO o ∧ fs.length = c ∧ (∀ f ∈ fs, Fm r f) ∧ lcGo [] bd mYes e ρ (rangeD 0 c) S = .ok (fs.map nT) (S.set n o) := by
  suffices hs : Ok (lcGo [] bd mYes e ρ (rangeD 0 c) S) fun l S' => ∃ (fs : List (List Nat)) (o : Ob), StO o ∧ fs.length = c ∧ (∀ f ∈ fs, Fm r f) ∧ l = fs.map nT ∧ S' = S.set n o by
    obtain ⟨l, S', e, fs, o, ho, h1, h2, rfl, rfl⟩ := hs.eq
    exact ⟨fs, o, ho, h1, h2, e⟩
  obtain ⟨I, hI⟩ : ∃ I : Nat → List D → Sto → Prop, ∀ i l S', I i l S' ↔ ∃ (fs : List (List Nat)) (o : Ob), StO o ∧ fs.length = i ∧ (∀ f ∈ fs, Fm r f) ∧ l = fs.map nT ∧ S' = S.set n o := ⟨_, fun _ _ _ => Iff.rfl⟩
  have s0 : ∃ o, StO o ∧ S = S.set n o := by
    obtain ⟨o, h1, h2⟩ := h
    exact ⟨o, h2, (set_same h1).symm⟩
  obtain ⟨o0, ho0, e0⟩ := s0
  refine lcGo_ok I ((hI _ _ _).mpr ⟨[], o0, ho0, rfl, (fun f hf => (List.not_mem_nil hf).elim), rfl, e0⟩) (fun i l S' hJ => gOk_nil) (fun i d l S' hd hJ => ?_) (fun l S' hJ => ?_)
  · obtain ⟨fs, o, ho, h1, h2, rfl, rfl⟩ := (hI _ _ _).mp hJ
    obtain ⟨ρ1, b1, b2⟩ := he d
    refine ⟨ρ1, b1, ?_⟩
    obtain ⟨f, o2, ho2, ff, e2⟩ := formD_ok (h.set ho) hv
    rw [List.set_set] at e2
    rw [mYes_ap, ok_ok, if_pos rfl, b2, e2, ok_ok]
    refine (hI _ _ _).mpr ⟨fs ++ [f], o2, ho2, by simp [h1], fun g hg => ?_, by simp, rfl⟩
    rcases List.mem_append.mp hg with hg | hg
    · exact h2 g hg
    · rw [List.mem_singleton.mp hg]
      exact ff
  · have := (hI _ _ _).mp hJ
    rwa [rangeD_len] at this
end
section
variable {r : Ru} {act : List Nat → Nat → List Nat}
theorem Mdl.pwr_zs : ∀ k, pwr r act (zs r.sz.length) k = zs r.sz.length
  | 0 => rfl
  | k + 1 => by
    show mulF act (pwr r act (zs r.sz.length) k) (zs r.sz.length) = _
    rw [mul_zs, Mdl.pwr_zs k]
end
end MP

namespace MP
open PySem L2
/-! so_often: 0 rules, 1 form, 2 many, 3 found -/
noncomputable def m_so_often : M Fl :=
 (mSeq (mSet 3 (mCall f_times_of (mConsA (mMake "Table" f_Table___init__ (mConsA (mVar 0) mNilA)) (mConsA (mVar 1) mNilA))))
 (mRet (mOp dIx (mVar 3) (mOp dMod (mVar 2) (mCB fLen (mConsA (mVar 3) mNilA))))))
noncomputable def f_so_often : Fn := trunc (mkFn 4 m_so_often)
/-! order_of: 0 rules, 1 form -/
noncomputable def m_order_of : M Fl :=
 (mRet (mCB fLen (mConsA (mCall f_times_of (mConsA (mMake "Table" f_Table___init__ (mConsA (mVar 0) mNilA)) (mConsA (mVar 1) mNilA))) mNilA)))
noncomputable def f_order_of : Fn := trunc (mkFn 2 m_order_of)
/-! turned: 0 rules, 1 form, 2 by -/
noncomputable def m_turned : M Fl :=
 (mRet (mCall f_turned_by (mConsA (mMake "Table" f_Table___init__ (mConsA (mVar 0) mNilA)) (mConsA (mVar 1) (mConsA (mVar 2) mNilA)))))
noncomputable def f_turned : Fn := trunc (mkFn 3 m_turned)
/-! go_together: 0 rules, 1 one, 2 other -/
noncomputable def m_go_together : M Fl :=
 (mRet (mOp dEq (mCall f_taken (mConsA (mVar 0) (mConsA (mVar 1) (mConsA (mVar 2) mNilA)))) (mCall f_taken (mConsA (mVar 0) (mConsA (mVar 2) (mConsA (mVar 1) mNilA))))))
noncomputable def f_go_together : Fn := trunc (mkFn 3 m_go_together)
/-! meet: 0 rules, 1 one, 2 other -/
noncomputable def m_meet : M Fl :=
 (mRet (mCall f_meet_by (mConsA (mMake "Table" f_Table___init__ (mConsA (mVar 0) mNilA)) (mConsA (mVar 1) (mConsA (mVar 2) mNilA)))))
noncomputable def f_meet : Fn := trunc (mkFn 3 m_meet)
end MP

/-! R, part f: forms taken so often, orders, turned, met, going together. -/
namespace MP
open PySem L2
section
variable {r : Ru} {act : List Nat → Nat → List Nat} {S : Sto} {t w d k : Nat}
/-- drawn numbers of any width -/
theorem takeW_ok {S : Sto} {n : Nat} {m : Int} (h : St S n) (h0 : 0 < m) (h1 : DivOk m) : Dr S n (f_law_take [.ref n, .int m] S) fun d => ∃ r : Int, d = .int r ∧ 0 ≤ r ∧ r < m := by
  obtain ⟨o, hS, x, b, rfl⟩ := h
  have hn := (List.getElem?_eq_some_iff.mp hS).1
  have fd : ∀ (i : Int) T, dFdiv (.int i) (.int m) T = some (.int (i / m)) := fun i T => if_pos h1
  cases b with
  | true =>
    refine ⟨.int (x % m), .lst [.int (x / m), .bl true], ⟨_, _, rfl⟩, ⟨_, rfl, Int.emod_nonneg _ (by omega), Int.emod_lt_of_pos _ h0⟩, ?_⟩
    unfold f_law_take
    refine trunc_dr (X := []) ?_ ⟨_, _, rfl⟩ rfl
    rw [mkFn_ap]
    simp [m_law_take, dIx_ref hS, h0, fd, fSetL_0 hS]
  | false =>
    obtain ⟨z, hz⟩ : ∃ z : Int, z = (x * 48271 + 29) % 2147483647 := ⟨_, rfl⟩
    have hz0 : 0 ≤ z := by rw [hz]; exact Int.emod_nonneg _ (by decide)
    have hz1 : z < 2147483647 := by rw [hz]; exact Int.emod_lt_of_pos _ (by decide)
    obtain ⟨u, hu⟩ : ∃ u : Int, u = (z * z + 39373 * z + 7) % 2147483629 := ⟨_, rfl⟩
    have hu0 : 0 ≤ u := by rw [hu]; exact Int.emod_nonneg _ (by decide)
    have hu1 : u < 2147483629 := by rw [hu]; exact Int.emod_lt_of_pos _ (by decide)
    have hS2 : (S.set n (.lst [.int z, .bl false]))[n]? = some (.lst [.int z, .bl false]) := List.getElem?_set_self hn
    refine ⟨.int ((u * u + 16807 * u) % 2147483587 / 8 % m), .lst [.int z, .bl false], ⟨_, _, rfl⟩, ⟨_, rfl, Int.emod_nonneg _ (by omega), Int.emod_lt_of_pos _ h0⟩, ?_⟩
    unfold f_law_take
    refine trunc_dr (X := []) ?_ ⟨_, _, rfl⟩ rfl
    rw [mkFn_ap]
    have a1 : -2147483648 ≤ z := by omega
    have a2 : z ≤ 2147483648 := by omega
    have a3 : -2147483648 ≤ u := by omega
    have a4 : u ≤ 2147483648 := by omega
    simp [m_law_take, dIx_ref hS, h0, fSetL_0 hS, ← hz, dIx_ref hS2, a1, a2, ← hu, a3, a4]
theorem powsL_len {f : List Nat} {o : Nat} : (powsL r act f o).length = o := by simp [powsL]
/-- a power by what is left -/
theorem pows_ix {f : List Nat} {o : Nat} {i : Int} {T : Sto} (h0 : 0 < o) : dIx (.lv ((powsL r act f o).map nT)) (.int (i % (o : Int))) T = some (nT (pwr r act f (i % (o : Int)).toNat)) := by
  have g0 : 0 ≤ i % (o : Int) := Int.emod_nonneg _ (by omega)
  have g1 : i % (o : Int) < (o : Int) := Int.emod_lt_of_pos _ (by omega)
  obtain ⟨j, hj⟩ : ∃ j : Nat, i % (o : Int) = (j : Int) := ⟨(i % (o : Int)).toNat, by omega⟩
  rw [hj, dIx_l, Int.toNat_natCast]
  have hl : j < o := by omega
  exact atI_some (by simp [powsL, hl])
theorem tableX (S : Sto) (r : Ru) (o : Ob) : newT S r o = S ++ [.ins "Table" (tabF (S.length + 1) (S.length + 3)), .ins "Ways" (waysF r (S.length + 2)), .dct (swD r), o] := rfl
theorem order_ok (hv : Vd r) (m : Mdl r act) (hp : prodN r.sz ≤ 64) {f : List Nat} {o : Nat} (hf : Fm r f) (ho : Ord r act f o) : f_order_of [ruD r, nT f] S = .ok (iD o) S := by
  have mk := make_table (S := S) hv (ρ := [some (ruD r), some (nT f)]) (a := mConsA (mVar 0) mNilA) (ok_eq (by simp))
  have h0 := newT_at (S := S) (r := r) (act := act) kn_nil
  obtain ⟨b, kb, e⟩ := timesT_ok hv m hp h0 hf ho
  rw [newT_set] at e
  have en : mkFn 2 m_order_of [ruD r, nT f] S = .ok (iD o) (newT S r b) := by
    refine ok_eq ?_
    rw [mkFn_ap]
    rw [mMake_ap] at mk
    simp at mk
    simp [m_order_of, mk, e, powsL_len]
  rw [tableX] at en
  exact trunc_eq en rfl
theorem often_ok (hv : Vd r) (m : Mdl r act) (hp : prodN r.sz ≤ 64) {f : List Nat} {o : Nat} {i : Int} (hf : Fm r f) (ho : Ord r act f o) : f_so_often [ruD r, nT f, .int i] S = .ok (nT (pwr r act f (i % (o : Int)).toNat)) S := by
  have mk := make_table (S := S) hv (ρ := [some (ruD r), some (nT f), some (.int i), none]) (a := mConsA (mVar 0) mNilA) (ok_eq (by simp))
  have h0 := newT_at (S := S) (r := r) (act := act) kn_nil
  obtain ⟨b, kb, e⟩ := timesT_ok hv m hp h0 hf ho
  rw [newT_set] at e
  have op := ho.pos
  have ix : ∀ T, dIx (.lv ((powsL r act f o).map nT)) (.int (i % (o : Int))) T = some (nT (pwr r act f (i % (o : Int)).toNat)) := fun T => pows_ix op
  have en : mkFn 4 m_so_often [ruD r, nT f, .int i] S = .ok (nT (pwr r act f (i % (o : Int)).toNat)) (newT S r b) := by
    refine ok_eq ?_
    rw [mkFn_ap]
    rw [mMake_ap] at mk
    simp at mk
    simp [m_so_often, mk, e, powsL_len, op, ix]
  rw [tableX] at en
  exact trunc_eq en (by simp)
/-- the undone of a form -/
structure Inv1 (r : Ru) (act : List Nat → Nat → List Nat) (f g : List Nat) : Prop where
  fm : Fm r g
  ord : ∃ o, Ord r act f o ∧ g = pwr r act f (o - 1)
theorem inv_ex (hv : Vd r) (m : Mdl r act) {f : List Nat} (hf : Fm r f) : ∃ g, Inv1 r act f g := by
  obtain ⟨o, ho⟩ := m.order hv hf
  exact ⟨_, m.pwr_fm hv hf _, o, ho, rfl⟩
theorem undoneI_ok (hv : Vd r) (m : Mdl r act) (hp : prodN r.sz ≤ 64) (h : TabAt S t w d k r act) {f g : List Nat} (hf : Fm r f) (hi : Inv1 r act f g) : ∃ b, Kn r act b ∧ f_undone_by [.ref t, nT f] S = .ok (nT g) (S.set k b) := by
  obtain ⟨o, ho, rfl⟩ := hi.ord
  exact undoneT_ok hv m hp h hf ho
theorem turnedT_ok (hv : Vd r) (m : Mdl r act) (hp : prodN r.sz ≤ 64) (h : TabAt S t w d k r act) {f g u : List Nat} (hf : Fm r f) (hg : Fm r g) (hi : Inv1 r act g u) :
    ∃ b, Kn r act b ∧ f_turned_by [.ref t, nT f, nT g] S = .ok (nT (mulF act (mulF act u f) g)) (S.set k b) := by
  have kl := h.klt
  obtain ⟨b1, k1, e1⟩ := undoneI_ok hv m hp h hg hi
  have h1 := h.set k1
  obtain ⟨b2, k2, e2⟩ := comeT_ok hv m hp h1 hi.fm hf
  rw [List.set_set] at e2
  have h2 := h.set k2
  obtain ⟨b3, k3, e3⟩ := comeT_ok hv m hp h2 (m.mul_fm hi.fm hf) hg
  rw [List.set_set] at e3
  refine ⟨b3, k3, trunc_set (ok_eq ?_) k3.low (by simp)⟩
  rw [mkFn_ap]
  simp [m_turned_by, insOf_at h.at_, insOf_at h1.at_, insOf_at h2.at_, lk_come, e1, e2, e3]
theorem meetT_ok (hv : Vd r) (m : Mdl r act) (hp : prodN r.sz ≤ 64) (h : TabAt S t w d k r act) {f g u v : List Nat} (hf : Fm r f) (hg : Fm r g) (hu : Inv1 r act g u) (hw : Inv1 r act f v) :
    ∃ b, Kn r act b ∧ f_meet_by [.ref t, nT f, nT g] S = .ok (nT (mulF act v (mulF act (mulF act u f) g))) (S.set k b) := by
  have kl := h.klt
  obtain ⟨b1, k1, e1⟩ := undoneI_ok hv m hp h hf hw
  have h1 := h.set k1
  obtain ⟨b2, k2, e2⟩ := turnedT_ok hv m hp h1 hf hg hu
  rw [List.set_set] at e2
  have h2 := h.set k2
  obtain ⟨b3, k3, e3⟩ := comeT_ok hv m hp h2 hw.fm (m.mul_fm (m.mul_fm hu.fm hf) hg)
  rw [List.set_set] at e3
  refine ⟨b3, k3, trunc_set (ok_eq ?_) k3.low (by simp)⟩
  rw [mkFn_ap]
  simp [m_meet_by, insOf_at h.at_, insOf_at h1.at_, insOf_at h2.at_, lk_come, e1, e2, e3]
theorem turnedP_ok (hv : Vd r) (m : Mdl r act) (hp : prodN r.sz ≤ 64) {f g u : List Nat} (hf : Fm r f) (hg : Fm r g) (hi : Inv1 r act g u) : f_turned [ruD r, nT f, nT g] S = .ok (nT (mulF act (mulF act u f) g)) S := by
  have mk := make_table (S := S) hv (ρ := [some (ruD r), some (nT f), some (nT g)]) (a := mConsA (mVar 0) mNilA) (ok_eq (by simp))
  have h0 := newT_at (S := S) (r := r) (act := act) kn_nil
  obtain ⟨b, kb, e⟩ := turnedT_ok hv m hp h0 hf hg hi
  rw [newT_set] at e
  have en : mkFn 3 m_turned [ruD r, nT f, nT g] S = .ok (nT (mulF act (mulF act u f) g)) (newT S r b) := by
    refine ok_eq ?_
    rw [mkFn_ap]
    rw [mMake_ap] at mk
    simp at mk
    simp [m_turned, mk, e]
  rw [tableX] at en
  exact trunc_eq en (by simp)
theorem meetP_ok (hv : Vd r) (m : Mdl r act) (hp : prodN r.sz ≤ 64) {f g u v : List Nat} (hf : Fm r f) (hg : Fm r g) (hu : Inv1 r act g u) (hw : Inv1 r act f v) : f_meet [ruD r, nT f, nT g] S = .ok (nT (mulF act v (mulF act (mulF act u f) g))) S := by
  have mk := make_table (S := S) hv (ρ := [some (ruD r), some (nT f), some (nT g)]) (a := mConsA (mVar 0) mNilA) (ok_eq (by simp))
  have h0 := newT_at (S := S) (r := r) (act := act) kn_nil
  obtain ⟨b, kb, e⟩ := meetT_ok hv m hp h0 hf hg hu hw
  rw [newT_set] at e
  have en : mkFn 3 m_meet [ruD r, nT f, nT g] S = .ok (nT (mulF act v (mulF act (mulF act u f) g))) (newT S r b) := by
    refine ok_eq ?_
    rw [mkFn_ap]
    rw [mMake_ap] at mk
    simp at mk
    simp [m_meet, mk, e]
  rw [tableX] at en
  exact trunc_eq en (by simp)
theorem goP_ok (hv : Vd r) (m : Mdl r act) (hp : prodN r.sz ≤ 64) {f g : List Nat} (hf : Fm r f) (hg : Fm r g) : f_go_together [ruD r, nT f, nT g] S = .ok (.bl (decide (mulF act f g = mulF act g f))) S := by
  refine trunc_eq0 (ok_eq ?_) rfl
  rw [mkFn_ap]
  simp [m_go_together, takenP_ok hv m hp hf hg, takenP_ok hv m hp hg hf, dEq_n]
theorem lawundoneI_ok (hv : Vd r) (m : Mdl r act) (hp : prodN r.sz ≤ 64) {t : Nat} (ht : TabL S t r act) {f g : List Nat} (hf : Fm r f) (hi : Inv1 r act f g) : f_law_undone [.ref t, nT f] S = .ok (nT g) S := by
  obtain ⟨o, ho, rfl⟩ := hi.ord
  exact lawundone_ok hv m hp ht hf ho
theorem shw_b {S : Sto} {b : Bool} : Shw S (.bl b) := shw_of (p := .bool b) (by simp [pd]) rfl rfl rfl rfl (by simp only [PyData.bulk]; decide)
/-- three, four forms one behind the other by the law's table -/
theorem by3_ok (hv : Vd r) (m : Mdl r act) {t : Nat} (ht : TabL S t r act) {f g h : List Nat} (hf : Fm r f) (hg : Fm r g) (hh : Fm r h) : f_law_by [.ref t, .lv [nT f, nT g, nT h]] S = .ok (nT (mulF act (mulF act f g) h)) S := by
  have := by_ok hv m ht (fs := [f, g, h]) (by simp) (by simp [hf, hg, hh])
  simp only [List.map_cons, List.map_nil, List.flatMap_cons, List.flatMap_nil, List.append_nil] at this
  rw [this, m.word_t hf, acts_app]
  rfl
theorem by4_ok (hv : Vd r) (m : Mdl r act) {t : Nat} (ht : TabL S t r act) {f g h k : List Nat} (hf : Fm r f) (hg : Fm r g) (hh : Fm r h) (hk : Fm r k) : f_law_by [.ref t, .lv [nT f, nT g, nT h, nT k]] S = .ok (nT (mulF act (mulF act (mulF act f g) h) k)) S := by
  have := by_ok hv m ht (fs := [f, g, h, k]) (by simp) (by simp [hf, hg, hh, hk])
  simp only [List.map_cons, List.map_nil, List.flatMap_cons, List.flatMap_nil, List.append_nil] at this
  rw [this, m.word_t hf, acts_app, acts_app]
  rfl
end
end MP

namespace MP
open PySem L2
/-! Ways.two_ways: 0 self, 1 many, 2 found, 3 one, 4 other, 5 size, 6 wide, 7 third, 8 letter -/
noncomputable def m_Ways_two_ways : M Fl :=
 (mSeq (mSet 1 (mCB fLen (mConsA (mFld "Ways" "sizes" (mVar 0)) mNilA)))
 (mSeq (mSet 2 (mRef (mLst mNilA)))
 (mSeq (mFor (mIt (mCall f_pairs_of (mConsA (mVar 1) mNilA))) (gTupD 2 (gConsD (gN 3) (gConsD (gN 4) gNilD)))
 (mSeq (mAsg (mTup (mConsA (mOp dIx (mFld "Ways" "sizes" (mVar 0)) (mVar 3)) (mConsA (mOp dIx (mFld "Ways" "sizes" (mVar 0)) (mVar 4)) mNilA))) (gTupD 2 (gConsD (gN 5) (gConsD (gN 6) gNilD))))
 (mSeq (mDo (mMt isL fAppend (mVar 2) (mConsA (mTup (mConsA (mOp dAdd (mOp dIx (mFld "Ways" "powers" (mVar 0)) (mVar 4)) (mTup (mConsA (mVar 3) mNilA))) (mConsA (mOp dAdd (mOp dMul (mTup (mConsA (mVar 4) mNilA)) (mOp dSub (mVar 6) (mC (.int 1)))) (mMeth "Ways" "exchange" f_Ways_exchange (mVar 0) (mConsA (mVar 4) (mConsA (mVar 3) mNilA)))) mNilA))) mNilA)))
 (mSeq (mDo (mMt isL fAppend (mVar 2) (mConsA (mTup (mConsA (mOp dAdd (mMeth "Ways" "exchange" f_Ways_exchange (mVar 0) (mConsA (mVar 4) (mConsA (mVar 3) mNilA))) (mOp dMul (mTup (mConsA (mVar 3) mNilA)) (mOp dSub (mVar 5) (mC (.int 1))))) (mConsA (mOp dAdd (mTup (mConsA (mVar 4) mNilA)) (mOp dIx (mFld "Ways" "powers" (mVar 0)) (mVar 3))) mNilA))) mNilA)))
 (mFor (mItR (mConsA (mOp dAdd (mVar 4) (mC (.int 1))) (mConsA (mVar 1) mNilA))) (gN 7)
 (mDo (mMt isL fAppend (mVar 2) (mConsA (mTup (mConsA (mOp dAdd (mMeth "Ways" "exchange" f_Ways_exchange (mVar 0) (mConsA (mVar 7) (mConsA (mVar 4) mNilA))) (mTup (mConsA (mVar 3) mNilA))) (mConsA (mOp dAdd (mTup (mConsA (mVar 7) mNilA)) (mMeth "Ways" "exchange" f_Ways_exchange (mVar 0) (mConsA (mVar 4) (mConsA (mVar 3) mNilA)))) mNilA))) mNilA))))))))
 (mSeq (mFor (mItR (mConsA (mVar 1) mNilA)) (gN 8)
 (mDo (mMt isL fAppend (mVar 2) (mConsA (mTup (mConsA (mOp dAdd (mOp dIx (mFld "Ways" "powers" (mVar 0)) (mVar 8)) (mTup (mConsA (mVar 8) mNilA))) (mConsA (mOp dAdd (mTup (mConsA (mVar 8) mNilA)) (mOp dIx (mFld "Ways" "powers" (mVar 0)) (mVar 8))) mNilA))) mNilA))))
 (mRet (mVar 2))))))
noncomputable def f_Ways_two_ways : Fn := trunc (mkFn 9 m_Ways_two_ways)
/-! _law_step: 0 _law_rules_here, 1 _law_word_here, 2 _law_last, 3 _law_sizes_here, 4 _law_powers, 5 _law_exchanges, 6 _law_swaps, 7 _law_found, 8 _law_at, 9 _law_letter, 10 _law_size, 11 _law_later, 12 _law_lesser -/
noncomputable def m_law_step : M Fl :=
 (mSeq (mAsg (mVar 0) (gTupD 3 (gConsD (gN 3) (gConsD (gN 4) (gConsD (gN 5) gNilD)))))
 (mSeq (mSet 6 (mDictZ (mConsA (mCall f_pairs_of (mConsA (mCB fLen (mConsA (mVar 3) mNilA)) mNilA)) (mConsA (mVar 5) mNilA))))
 (mSeq (mSet 7 (mC .non))
 (mSeq (mFor (mItE (mConsA (mVar 1) mNilA)) (gTupD 2 (gConsD (gN 8) (gConsD (gN 9) gNilD)))
 (mSeq (mSet 10 (mOp dIx (mVar 3) (mVar 9)))
 (mSeq (mIf (mT (mOp dEq (mSl dSl (mVar 1) (mPart (mVar 8)) (mPart (mOp dAdd (mVar 8) (mVar 10)))) (mOp dMul (mTup (mConsA (mVar 9) mNilA)) (mVar 10))))
 (mSeq (mSet 11 (mSl dSl (mVar 1) (mPart (mOp dAdd (mVar 8) (mVar 10))) mNoP))
 (mSet 7 (mOp dAdd (mOp dAdd (mSl dSl (mVar 1) mNoP (mPart (mVar 8))) (mCall f_letters_of (mConsA (mOp dIx (mVar 4) (mVar 9)) mNilA))) (mVar 11))))
 (mIf (mAndT (mT (mOp dLt (mOp dAdd (mVar 8) (mC (.int 1))) (mCB fLen (mConsA (mVar 1) mNilA)))) (mT (mOp dLt (mOp dIx (mVar 1) (mOp dAdd (mVar 8) (mC (.int 1)))) (mVar 9))))
 (mSeq (mSet 12 (mOp dIx (mVar 1) (mOp dAdd (mVar 8) (mC (.int 1)))))
 (mSet 7 (mOp dAdd (mOp dAdd (mOp dAdd (mSl dSl (mVar 1) mNoP (mPart (mVar 8))) (mTup (mConsA (mVar 12) mNilA))) (mCall f_letters_of (mConsA (mOp dIxA (mVar 6) (mTup (mConsA (mVar 12) (mConsA (mVar 9) mNilA)))) mNilA))) (mSl dSl (mVar 1) (mPart (mOp dAdd (mVar 8) (mC (.int 2)))) mNoP))))
 mSkip))
 (mIf (mAndT (mT (mOp dIsNot (mVar 7) (mC .non))) (mNotT (mT (mVar 2))))
 (mRet (mVar 7))
 mSkip))))
 (mRet (mVar 7))))))
noncomputable def f_law_step : Fn := trunc (mkFn 13 m_law_step)
/-! Ways.gathered: 0 self, 1 word, 2 form, 3 letter -/
noncomputable def m_Ways_gathered : M Fl :=
 (mSeq (mSet 2 (mRef (mOpN fRepL (mLv (mLst (mConsA (mC (.int 0)) mNilA))) (mCB fLen (mConsA (mFld "Ways" "sizes" (mVar 0)) mNilA)))))
 (mSeq (mFor (mIt (mVar 1)) (gN 3)
 (mDo (mMeth "Ways" "put" f_Ways_put (mVar 0) (mConsA (mVar 2) (mConsA (mVar 3) mNilA)))))
 (mRet (mCB fTuple (mConsA (mVar 2) mNilA)))))
noncomputable def f_Ways_gathered : Fn := trunc (mkFn 4 m_Ways_gathered)
/-! _law_gather: 0 _law_rules_here, 1 _law_word_here, 2 _law_here, 3 _law_letter, 4 _law_step_here -/
noncomputable def m_law_gather : M Fl :=
 (mSeq (mSet 2 (mTup mNilA))
 (mSeq (mFor (mIt (mVar 1)) (gN 3)
 (mSeq (mSet 2 (mOp dAdd (mVar 2) (mTup (mConsA (mVar 3) mNilA))))
 (mSeq (mSet 4 (mCall f_law_step (mConsA (mVar 0) (mConsA (mVar 2) (mConsA (mC (.bl false)) mNilA)))))
 (mWhile (mT (mOp dIsNot (mVar 4) (mC .non))) (mSeq (mSet 2 (mVar 4))
 (mSet 4 (mCall f_law_step (mConsA (mVar 0) (mConsA (mVar 2) (mConsA (mC (.bl false)) mNilA))))))))))
 (mRet (mCB fTuple (mConsA (mLv (mLc [3] (mItR (mConsA (mCB fLen (mConsA (mOp dIx (mVar 0) (mC (.int 0))) mNilA)) mNilA)) (lcB1 3) mYes (mMt isTupD fCnt (mVar 2) (mConsA (mVar 3) mNilA)))) mNilA)))))
noncomputable def f_law_gather : Fn := trunc (mkFn 5 m_law_gather)
/-! is_whole: 0 rules, 1 ways, 2 one, 3 other -/
noncomputable def m_is_whole : M Fl :=
 (mSeq (mSet 1 (mMake "Ways" f_Ways___init__ (mConsA (mVar 0) mNilA)))
 (mRet (mCB fAll (mConsA (mLv (mLc [2, 3] (mIt (mMeth "Ways" "two_ways" f_Ways_two_ways (mVar 1) mNilA)) (lcB2 2 3) mYes (mOp dEq (mMeth "Ways" "gathered" f_Ways_gathered (mVar 1) (mConsA (mVar 2) mNilA)) (mMeth "Ways" "gathered" f_Ways_gathered (mVar 1) (mConsA (mVar 3) mNilA))))) mNilA))))
noncomputable def f_is_whole : Fn := trunc (mkFn 4 m_is_whole)
/-! need_whole: 0 rules -/
noncomputable def m_need_whole : M Fl :=
 (mIf (mNotT (mT (mCall f_is_whole (mConsA (mVar 0) mNilA))))
 mBadS
 mSkip)
noncomputable def f_need_whole : Fn := trunc (mkFn 1 m_need_whole)
/-! gather: 0 rules, 1 word -/
noncomputable def m_gather : M Fl :=
 (mSeq (mDo (mCall f_need_whole (mConsA (mVar 0) mNilA)))
 (mRet (mMeth "Ways" "gathered" f_Ways_gathered (mMake "Ways" f_Ways___init__ (mConsA (mVar 0) mNilA)) (mConsA (mVar 1) mNilA))))
noncomputable def f_gather : Fn := trunc (mkFn 2 m_gather)
/-! word_of: 0 rules, 1 form -/
noncomputable def m_word_of : M Fl :=
 (mSeq (mDo (mCall f_need_whole (mConsA (mVar 0) mNilA)))
 (mRet (mCall f_letters_of (mConsA (mVar 1) mNilA))))
noncomputable def f_word_of : Fn := trunc (mkFn 2 m_word_of)
/-! all_forms: 0 rules -/
noncomputable def m_all_forms : M Fl :=
 (mSeq (mDo (mCall f_need_whole (mConsA (mVar 0) mNilA)))
 (mRet (mCall f_forms_of (mConsA (mOp dIx (mVar 0) (mC (.int 0))) mNilA))))
noncomputable def f_all_forms : Fn := trunc (mkFn 1 m_all_forms)
/-! _law_last_first: 0 _law_rules_here, 1 _law_word_here, 2 _law_step_here, 3 _law_turn, 4 _law_letter -/
noncomputable def m_law_last_first : M Fl :=
 (mSeq (mSet 2 (mCall f_law_step (mConsA (mVar 0) (mConsA (mVar 1) (mConsA (mC (.bl true)) mNilA)))))
 (mSeq (mFor (mItR (mConsA (mC (.int 60)) mNilA)) (gN 3)
 (mIf (mT (mOp dIsNot (mVar 2) (mC .non)))
 (mSeq (mSet 1 (mVar 2))
 (mSet 2 (mCall f_law_step (mConsA (mVar 0) (mConsA (mVar 1) (mConsA (mC (.bl true)) mNilA))))))
 mSkip))
 (mSeq (mIf (mT (mOp dIsNot (mVar 2) (mC .non)))
 (mRet (mCall f_law_gather (mConsA (mVar 0) (mConsA (mVar 1) mNilA))))
 mSkip)
 (mRet (mCB fTuple (mConsA (mLv (mLc [4] (mItR (mConsA (mCB fLen (mConsA (mOp dIx (mVar 0) (mC (.int 0))) mNilA)) mNilA)) (lcB1 4) mYes (mMt isTupD fCnt (mVar 1) (mConsA (mVar 4) mNilA)))) mNilA))))))
noncomputable def f_law_last_first : Fn := trunc (mkFn 5 m_law_last_first)
end MP

/-! R, part g: words gathered by the program; whole rules are whole. -/
namespace MP
open PySem L2
section
variable {r : Ru} {act : List Nat → Nat → List Nat} {S : Sto} {w d : Nat}
def newW (S : Sto) (r : Ru) : Sto := S ++ [.ins "Ways" (waysF r (S.length + 1)), .dct (swD r)]
theorem newW_at : WaysAt (newW S r) S.length (S.length + 1) r := ⟨by simp [newW], by simp [newW]⟩
theorem make_ways (hv : Vd r) {ρ : Fr} {a : M (List D)} (ha : a ρ S = .ok [ruD r] S) : mMake "Ways" f_Ways___init__ a ρ S = .ok (.ref S.length) (newW S r) := by
  rw [mMake_ap, ha, Res.bind_ok, ways_init hv, Res.bind_ok]
  rfl
theorem WaysAt.wlt (h : WaysAt S w d r) : w < S.length := (List.getElem?_eq_some_iff.mp h.at_).1
theorem WaysAt.dlt (h : WaysAt S w d r) : d < S.length := (List.getElem?_eq_some_iff.mp h.sw).1
theorem lk_put : List.lookup (("put" : Str)) (waysF r d) = none := by simp [waysF, List.lookup, s_ne8, s_ne9, s_ne10]
theorem s_ne13 : (("gathered" : Str) == "sizes") = false := by decide +kernel
theorem s_ne14 : (("gathered" : Str) == "powers") = false := by decide +kernel
theorem s_ne15 : (("gathered" : Str) == "swaps") = false := by decide +kernel
theorem s_ne16 : (("two_ways" : Str) == "sizes") = false := by decide +kernel
theorem s_ne17 : (("two_ways" : Str) == "powers") = false := by decide +kernel
theorem s_ne18 : (("two_ways" : Str) == "swaps") = false := by decide +kernel
theorem lk_gathered : List.lookup (("gathered" : Str)) (waysF r d) = none := by simp [waysF, List.lookup, s_ne13, s_ne14, s_ne15]
theorem lk_two : List.lookup (("two_ways" : Str)) (waysF r d) = none := by simp [waysF, List.lookup, s_ne16, s_ne17, s_ne18]
theorem lk_exch : List.lookup (("exchange" : Str)) (waysF r d) = none := by simp [waysF, List.lookup, s_ne4, s_ne5, s_ne6]
theorem gathered_ok (hv : Vd r) (m : Mdl r act) (h : WaysAt S w d r) {u : List Nat} (hu : Lt r u) : f_Ways_gathered [.ref w, nT u] S = .ok (nT (acts act (zs r.sz.length) u)) S := by
  have len := hv.sz.len
  have e : mkFn 4 m_Ways_gathered [.ref w, nT u] S = .ok (nT (acts act (zs r.sz.length) u)) (S ++ [.lst ((acts act (zs r.sz.length) u).map iD)]) := by
    refine ok_eq ?_
    rw [mkFn_ap]
    obtain ⟨P, hP⟩ : ∃ P : D → Sto → Prop, ∀ x S', P x S' ↔ x = nT (acts act (zs r.sz.length) u) ∧ S' = S ++ [.lst ((acts act (zs r.sz.length) u).map iD)] := ⟨_, fun _ _ => Iff.rfl⟩
    suffices hs : Ok ((m_Ways_gathered ([.ref w, nT u].map some ++ List.replicate (4 - [D.ref w, nT u].length) none) S).bind fun f S1 => match f with
      | .nx _ => .ok .non S1
      | .rt d => .ok d S1
      | _ => .bad) P from hs.imp fun a T q => (hP _ _).mp q
    have rp : fRepL (.lv [.int 0]) (.int (r.sz.length : Int)) S = some ((zs r.sz.length).map iD) := by
      unfold fRepL
      simp only
      rw [if_pos (by constructor <;> simp <;> omega)]
      simp [zs]
    have si : ∀ T, seqIt T (nT u) = some (u.map iD, []) := fun T => rfl
    simp [m_Ways_gathered, h.f1, fLen_n, rp, si]
    obtain ⟨J, hJ⟩ : ∃ J : Nat → Fr → Sto → Prop, ∀ i ρ T, J i ρ T ↔ T = S ++ [.lst ((acts act (zs r.sz.length) (u.take i)).map iD)] ∧ ∃ x3, ρ = [some (.ref w), some (nT u), some (.ref S.length), x3] := ⟨_, fun _ _ _ => Iff.rfl⟩
    refine forL_ok J ((hJ _ _ _).mpr ⟨by simp, _, rfl⟩) (fun i ρ T hK => gOk_nil) (fun i e ρ T he hK => ?_) (fun ρ T hK => ?_)
    · obtain ⟨rfl, x5, rfl⟩ := (hJ _ _ _).mp hK
      rw [List.getElem?_map] at he
      obtain ⟨x, hx, rfl⟩ := Option.map_eq_some_iff.mp he
      have lx := hu x (List.mem_of_getElem? hx)
      obtain ⟨c, hc⟩ : ∃ c, c = acts act (zs r.sz.length) (u.take i) := ⟨_, rfl⟩
      have fc : Fm r c := by rw [hc]; exact m.fm hv.zero fun y hy => hu y (List.mem_of_mem_take hy)
      have nx : acts act (zs r.sz.length) (u.take (i + 1)) = act c x := by
        rw [List.take_add_one, hx, acts_app, ← hc]
        rfl
      rw [← hc]
      have hh : WaysAt (S ++ [.lst (c.map iD)]) w d r := h.app
      have pt := put_ok (S := S ++ [.lst (c.map iD)]) (n := S.length) hv m hh (by have := h.wlt; omega) (by have := h.dlt; omega) (f := c) (h := x) (by simp) fc lx
      rw [sto_set0] at pt
      simp [insOf_at hh.at_, lk_put, pt]
      exact (hJ _ _ _).mpr ⟨by rw [nx], _, rfl⟩
    · obtain ⟨rfl, x5, rfl⟩ := (hJ _ _ _).mp hK
      rw [List.length_map, List.take_length]
      have ft : ∀ l, fTuple [.ref S.length] (S ++ [.lst l]) = some (.tup l) := fun l => fTuple_1
      simp [ft]
      exact (hP _ _).mpr ⟨rfl, rfl⟩
  exact trunc_eq e (by simp)
/-- two words to which two steps lead one word -/
structure TwoP (r : Ru) (act : List Nat → Nat → List Nat) (p : List Nat × List Nat) : Prop where
  l1 : Lt r p.1
  l2 : Lt r p.2
  eq : acts act (zs r.sz.length) p.1 = acts act (zs r.sz.length) p.2
def twoD (p : List Nat × List Nat) : D := .tup [nT p.1, nT p.2]
theorem two_of (hv : Vd r) (m : Mdl r act) {u a b : List Nat} (hu : Lt r u) (h1 : StepW r u a) (h2 : StepW r u b) : TwoP r act (a, b) :=
  ⟨h1.lt hv hu, h2.lt hv hu, by rw [← m.step h1 hv.zero hu, m.step h2 hv.zero hu]⟩
theorem two1 (hv : Vd r) (m : Mdl r act) {i j s : Nat} (hij : i < j) (hj : j < r.sz.length) (hs : r.sz.getD j 0 = s + 1) : TwoP r act (wordL (pwF r j) ++ [i], List.replicate s j ++ i :: wordL (exF r i j)) := by
  have hu : Lt r (List.replicate (s + 1) j ++ [i]) := Lt.app.mpr ⟨Lt.rep hj, Lt.cons.mpr ⟨by omega, Lt.nil⟩⟩
  refine two_of hv m hu ?_ ?_
  · have := StepW.pw (r := r) [] [i] j hj
    rw [hs] at this
    simpa using this
  · have := StepW.ex (r := r) (List.replicate s j) [] i j hij hj
    rw [List.append_nil, List.append_nil] at this
    rw [List.replicate_succ']
    simpa using this
theorem two2 (hv : Vd r) (m : Mdl r act) {i j s : Nat} (hij : i < j) (hj : j < r.sz.length) (hs : r.sz.getD i 0 = s + 1) : TwoP r act (i :: wordL (exF r i j) ++ List.replicate s i, j :: wordL (pwF r i)) := by
  have hi : i < r.sz.length := by omega
  have hu : Lt r (j :: List.replicate (s + 1) i) := Lt.cons.mpr ⟨hj, Lt.rep hi⟩
  refine two_of hv m hu ?_ ?_
  · have := StepW.ex (r := r) [] (List.replicate s i) i j hij hj
    rw [List.replicate_succ]
    simpa using this
  · have := StepW.pw (r := r) [j] [] i hi
    rw [hs] at this
    simpa using this
theorem two3 (hv : Vd r) (m : Mdl r act) {i j k : Nat} (hij : i < j) (hjk : j < k) (hk : k < r.sz.length) : TwoP r act (j :: wordL (exF r j k) ++ [i], k :: i :: wordL (exF r i j)) := by
  have hu : Lt r [k, j, i] := Lt.cons.mpr ⟨hk, Lt.cons.mpr ⟨by omega, Lt.cons.mpr ⟨by omega, Lt.nil⟩⟩⟩
  refine two_of hv m hu ?_ ?_
  · have := StepW.ex (r := r) [] [i] j k hjk hk
    simpa using this
  · have := StepW.ex (r := r) [k] [] i j hij (by omega)
    simpa using this
theorem two4 (hv : Vd r) (m : Mdl r act) {i s : Nat} (hi : i < r.sz.length) (hs : r.sz.getD i 0 = s) : TwoP r act (wordL (pwF r i) ++ [i], i :: wordL (pwF r i)) := by
  have hu : Lt r (List.replicate (s + 1) i) := Lt.rep hi
  refine two_of hv m hu ?_ ?_
  · have := StepW.pw (r := r) [] [i] i hi
    rw [hs] at this
    rw [List.replicate_succ']
    simpa using this
  · have := StepW.pw (r := r) [i] [] i hi
    rw [hs] at this
    rw [List.replicate_succ]
    simpa using this
/-- a list of such pairs that grows -/
def TwoL (r : Ru) (act : List Nat → Nat → List Nat) (S : Sto) (T : Sto) : Prop := ∃ L : List (List Nat × List Nat), T = S ++ [.lst (L.map twoD)] ∧ (∀ p ∈ L, TwoP r act p) ∧ L.length ≤ 100000
theorem low_two {b : Nat} {L : List (List Nat × List Nat)} : lowDs b (L.map twoD) = true := lowDs_iff.mpr fun x hx => by
  obtain ⟨p, _, rfl⟩ := List.mem_map.mp hx
  simp [twoD, lowD, lowDs]
theorem two_ways_ok (hv : Vd r) (m : Mdl r act) (h : WaysAt S w d r) : ∃ L : List (List Nat × List Nat), f_Ways_two_ways [.ref w] S = .ok (.lv (L.map twoD)) S ∧ (∀ p ∈ L, TwoP r act p) ∧ L.length ≤ 1000 := by
  have len := hv.sz.len
  suffices hs : Ok (mkFn 9 m_Ways_two_ways [.ref w] S) fun x T => x = .ref S.length ∧ ∃ L : List (List Nat × List Nat), T = S ++ [.lst (L.map twoD)] ∧ (∀ p ∈ L, TwoP r act p) ∧ L.length ≤ 1000 by
    obtain ⟨x, T, e, rfl, L, rfl, h1, h2⟩ := hs.eq
    exact ⟨L, trunc_list (j := 0) e (by simp) low_two, h1, h2⟩
  obtain ⟨P, hP⟩ : ∃ P : D → Sto → Prop, ∀ x T, P x T ↔ x = .ref S.length ∧ ∃ L : List (List Nat × List Nat), T = S ++ [.lst (L.map twoD)] ∧ (∀ p ∈ L, TwoP r act p) ∧ L.length ≤ 1000 := ⟨_, fun _ _ => Iff.rfl⟩
  suffices hs : Ok (mkFn 9 m_Ways_two_ways [.ref w] S) P from hs.imp fun a T q => (hP _ _).mp q
  rw [mkFn_ap]
  have pe : ∀ T, f_pairs_of [.int (r.sz.length : Int)] T = .ok (.lv ((pairsL r.sz.length).map pD)) T := fun T => pairs_ok (by omega)
  have hX : ∀ (l : List D), WaysAt (S ++ [.lst l]) w d r := fun l => h.app
  have psm := pairsL_small len
  have si : ∀ l T, seqIt T (.lv l) = some (l, []) := fun l T => rfl
  simp [m_Ways_two_ways, h.f1, fLen_n, pe, si]
  obtain ⟨I, hI⟩ : ∃ I : Nat → Fr → Sto → Prop, ∀ i ρ T, I i ρ T ↔ (∃ L : List (List Nat × List Nat), T = S ++ [.lst (L.map twoD)] ∧ (∀ p ∈ L, TwoP r act p) ∧ L.length ≤ i * 10) ∧ ∃ x3 x4 x5 x6 x7 x8, ρ = [some (.ref w), some (.int (r.sz.length : Int)), some (.ref S.length), x3, x4, x5, x6, x7, x8] := ⟨_, fun _ _ _ => Iff.rfl⟩
  refine forL_ok I ((hI _ _ _).mpr ⟨⟨[], rfl, (fun p hp => (List.not_mem_nil hp).elim), by simp⟩, _, _, _, _, _, _, rfl⟩) (fun i ρ T hK => gOk_nil) (fun n e ρ T he hK => ?_) (fun ρ T hK => ?_)
  · obtain ⟨⟨L, rfl, hL, hn⟩, x3, x4, x5, x6, x7, x8, rfl⟩ := (hI _ _ _).mp hK
    rw [List.getElem?_map] at he
    obtain ⟨p, hp, rfl⟩ := Option.map_eq_some_iff.mp he
    have hnl := (List.getElem?_eq_some_iff.mp hp).1
    obtain ⟨i, j⟩ := p
    obtain ⟨hij', hj'⟩ := pairsL_mem.mp (List.mem_of_getElem? hp)
    have hij : i < j := hij'
    have hj : j < r.sz.length := hj'
    have hi : i < r.sz.length := by omega
    obtain ⟨s, hs⟩ : ∃ s, r.sz.getD i 0 = s + 1 := ⟨r.sz.getD i 0 - 1, by have := hv.sz.pos hi; omega⟩
    obtain ⟨q, hq⟩ : ∃ q, r.sz.getD j 0 = q + 1 := ⟨r.sz.getD j 0 - 1, by have := hv.sz.pos hj; omega⟩
    have s8 : s < 8 := by
      have : r.sz.getD i 0 < 8 := by
        rw [List.getD_eq_getElem?_getD, List.getElem?_eq_getElem hi, Option.getD_some]
        exact hv.sz.lt _ (List.getElem_mem hi)
      omega
    have q8 : q < 8 := by
      have : r.sz.getD j 0 < 8 := by
        rw [List.getD_eq_getElem?_getD, List.getElem?_eq_getElem hj, Option.getD_some]
        exact hv.sz.lt _ (List.getElem_mem hj)
      omega
    have a1 : ∀ T, dIx (nT r.sz) (.int (i : Int)) T = some (.int ((s : Int) + 1)) := fun T => by rw [ix_n hi, hs]; rfl
    have a2 : ∀ T, dIx (nT r.sz) (.int (j : Int)) T = some (.int ((q : Int) + 1)) := fun T => by rw [ix_n hj, hq]; rfl
    have px : ∀ {k : Nat}, k < r.sz.length → ∀ T, dIx (.lv (r.pw.map fun f => nT (wordL f))) (.int (k : Int)) T = some (nT (wordL (pwF r k))) := fun {k} hk T => by
      have h1 : k < r.pw.length := by rw [hv.pl]; exact hk
      have : (r.pw.map fun f => nT (wordL f))[k]? = some (nT (wordL (pwF r k))) := by simp [pwF, h1]
      exact atI_some this
    have wj := (hv.pwOk hj).wlen hv.sz
    have wi := (hv.pwOk hi).wlen hv.sz
    have we := (hv.exOk hij hj).wlen hv.sz
    have b1 : ∀ T, dAdd (nT (wordL (pwF r j))) (.tup [.int (i : Int)]) T = some (nT (wordL (pwF r j) ++ [i])) := fun T => app_n (by omega)
    have b2 : ∀ T, dMul (.tup [.int (j : Int)]) (.int (q : Int)) T = some (nT (List.replicate q j)) := fun T => mul_n (by omega)
    have b3 : ∀ T, dAdd (nT (List.replicate q j)) (nT (i :: wordL (exF r i j))) T = some (nT (List.replicate q j ++ i :: wordL (exF r i j))) := fun T => nT_app (by simp only [List.length_replicate, List.length_cons]; omega)
    have b4 : ∀ T, dMul (.tup [.int (i : Int)]) (.int (s : Int)) T = some (nT (List.replicate s i)) := fun T => mul_n (by omega)
    have b5 : ∀ T, dAdd (nT (i :: wordL (exF r i j))) (nT (List.replicate s i)) T = some (nT (i :: wordL (exF r i j) ++ List.replicate s i)) := fun T => nT_app (by simp only [List.length_replicate, List.length_cons]; omega)
    have b6 : ∀ T, dAdd (.tup [.int (j : Int)]) (nT (wordL (pwF r i))) T = some (nT (j :: wordL (pwF r i))) := fun T => by
      have := nT_app (a := [j]) (b := wordL (pwF r i)) (S := T) (by simp only [List.length_cons, List.length_nil]; omega)
      exact this
    have ex : ∀ l, f_Ways_exchange [.ref w, .int (j : Int), .int (i : Int)] (S ++ [.lst l]) = .ok (nT (i :: wordL (exF r i j))) (S ++ [.lst l]) := fun l => exchange_ok hv (hX l) hij hj
    have c1 : ∀ l, fldOf "Ways" "sizes" (.ref w) (S ++ [.lst l]) = some (nT r.sz) := fun l => (hX l).f1
    have c2 : ∀ l, fldOf "Ways" "powers" (.ref w) (S ++ [.lst l]) = some (.lv (r.pw.map fun f => nT (wordL f))) := fun l => (hX l).f2
    have c3 : ∀ l, insOf "Ways" (.ref w) (S ++ [.lst l]) = some (waysF r d) := fun l => insOf_at (hX l).at_
    have ap : ∀ (M : List (List Nat × List Nat)) x y, M.length ≤ 100000 → fAppend (.ref S.length) [.tup [nT x, nT y]] (S ++ [.lst (M.map twoD)]) = some (.non, S ++ [.lst ((M ++ [(x, y)]).map twoD)]) := fun M x y hM => by
      rw [fAppend_1 (by simp; omega)]
      simp [twoD]
    have il : ∀ l, isL (.ref S.length) (S ++ [.lst l]) = true := fun l => isL_1
    have t1 := two1 hv m hij hj hq
    have t2 := two2 hv m hij hj hs
    obtain ⟨A, hA⟩ : ∃ A, A = wordL (pwF r j) ++ [i] := ⟨_, rfl⟩
    obtain ⟨B, hB⟩ : ∃ B, B = List.replicate q j ++ i :: wordL (exF r i j) := ⟨_, rfl⟩
    obtain ⟨C, hC⟩ : ∃ C, C = i :: wordL (exF r i j) ++ List.replicate s i := ⟨_, rfl⟩
    obtain ⟨E, hE⟩ : ∃ E, E = j :: wordL (pwF r i) := ⟨_, rfl⟩
    rw [← hA] at b1 t1
    rw [← hB] at b3 t1
    rw [← hC] at b5 t2
    rw [← hE] at b6 t2
    have L10 : L.length ≤ 100 := by omega
    have r2 : rangeIt [.int ((j : Int) + 1), .int (r.sz.length : Int)] = some (rangeD ((j : Int) + 1) (r.sz.length - (j + 1)), []) := by
      rw [rangeIt_2 (by omega)]
      congr 3
      omega
    simp [pD, c1, c2, a1, a2, px hj, px hi, b1, b2, c3, lk_exch, ex, b3, il, ap L A B (by omega), ap (L ++ [(A, B)]) C E (by simp; omega), b4, b5, b6, r2, -List.map_append]
    obtain ⟨L2, hL2⟩ : ∃ L2, L2 = L ++ [(A, B), (C, E)] := ⟨_, rfl⟩
    rw [← hL2]
    have gL2 : ∀ p ∈ L2, TwoP r act p := fun p hp => by
      rw [hL2] at hp
      rcases List.mem_append.mp hp with hp | hp
      · exact hL p hp
      · simp only [List.mem_cons, List.not_mem_nil, or_false] at hp
        rcases hp with rfl | rfl
        · exact t1
        · exact t2
    have lL2 : L2.length ≤ n * 10 + 2 := by rw [hL2]; simp; omega
    obtain ⟨J, hJ⟩ : ∃ J : Nat → Fr → Sto → Prop, ∀ k ρ T, J k ρ T ↔ (∃ M : List (List Nat × List Nat), T = S ++ [.lst (M.map twoD)] ∧ (∀ p ∈ M, TwoP r act p) ∧ M.length ≤ n * 10 + 2 + k) ∧ ∃ x5 x6 x7 x8, ρ = [some (.ref w), some (.int (r.sz.length : Int)), some (.ref S.length), some (.int (i : Int)), some (.int (j : Int)), x5, x6, x7, x8] := ⟨_, fun _ _ _ => Iff.rfl⟩
    refine forL_ok J ((hJ _ _ _).mpr ⟨⟨L2, rfl, gL2, by omega⟩, _, _, _, _, rfl⟩) (fun i ρ T hK => gOk_nil) (fun k e ρ T he hK2 => ?_) (fun ρ T hK2 => ?_)
    · obtain ⟨⟨M, rfl, gM, lM⟩, y5, y6, y7, y8, rfl⟩ := (hJ _ _ _).mp hK2
      obtain ⟨hk, rfl⟩ := rangeD_get he
      obtain ⟨g, hg⟩ : ∃ g : Nat, g = j + 1 + k := ⟨_, rfl⟩
      have eg : (j : Int) + 1 + (k : Int) = ((g : Nat) : Int) := by omega
      rw [eg]
      have hgl : g < r.sz.length := by omega
      have hjg : j < g := by omega
      have t3 := two3 hv m hij hjg hgl
      have wg := (hv.exOk hjg hgl).wlen hv.sz
      have ex2 : ∀ l, f_Ways_exchange [.ref w, .int (g : Int), .int (j : Int)] (S ++ [.lst l]) = .ok (nT (j :: wordL (exF r j g))) (S ++ [.lst l]) := fun l => exchange_ok hv (hX l) hjg hgl
      have b7 : ∀ T, dAdd (nT (j :: wordL (exF r j g))) (.tup [.int (i : Int)]) T = some (nT (j :: wordL (exF r j g) ++ [i])) := fun T => app_n (by simp only [List.length_cons]; omega)
      have b8 : ∀ T, dAdd (.tup [.int (g : Int)]) (nT (i :: wordL (exF r i j))) T = some (nT (g :: i :: wordL (exF r i j))) := fun T => by
        have := nT_app (a := [g]) (b := i :: wordL (exF r i j)) (S := T) (by simp only [List.length_cons, List.length_nil]; omega)
        exact this
      obtain ⟨A', hA'⟩ : ∃ A', A' = j :: wordL (exF r j g) ++ [i] := ⟨_, rfl⟩
      obtain ⟨B', hB'⟩ : ∃ B', B' = g :: i :: wordL (exF r i j) := ⟨_, rfl⟩
      rw [← hA'] at b7 t3
      rw [← hB'] at b8 t3
      have M10 : M.length ≤ 10000 := by omega
      simp [c3, lk_exch, ex, ex2, b7, b8, il, ap M A' B' (by omega), -List.map_append]
      refine (hJ _ _ _).mpr ⟨⟨M ++ [(A', B')], rfl, fun p hp => ?_, by simp; omega⟩, _, _, _, _, rfl⟩
      rcases List.mem_append.mp hp with hp | hp
      · exact gM p hp
      · rw [List.mem_singleton.mp hp]; exact t3
    · obtain ⟨⟨M, rfl, gM, lM⟩, y5, y6, y7, y8, rfl⟩ := (hJ _ _ _).mp hK2
      simp only [rangeD_len] at lM
      exact (hI _ _ _).mpr ⟨⟨M, rfl, gM, by omega⟩, _, _, _, _, _, _, rfl⟩
  · obtain ⟨⟨L, rfl, hL, hn⟩, x3, x4, x5, x6, x7, x8, rfl⟩ := (hI _ _ _).mp hK
    simp only [List.length_map] at hn
    have r3 : rangeIt [.int (r.sz.length : Int)] = some (rangeD 0 r.sz.length, []) := range_is (by omega)
    simp [r3]
    obtain ⟨J, hJ⟩ : ∃ J : Nat → Fr → Sto → Prop, ∀ k ρ T, J k ρ T ↔ (∃ M : List (List Nat × List Nat), T = S ++ [.lst (M.map twoD)] ∧ (∀ p ∈ M, TwoP r act p) ∧ M.length ≤ 100 + k) ∧ ∃ x3 x4 x5 x6 x7 x8, ρ = [some (.ref w), some (.int (r.sz.length : Int)), some (.ref S.length), x3, x4, x5, x6, x7, x8] := ⟨_, fun _ _ _ => Iff.rfl⟩
    refine forL_ok J ((hJ _ _ _).mpr ⟨⟨L, rfl, hL, by omega⟩, _, _, _, _, _, _, rfl⟩) (fun i ρ T hK => gOk_nil) (fun i e ρ T he hK2 => ?_) (fun ρ T hK2 => ?_)
    · obtain ⟨⟨M, rfl, gM, lM⟩, y3, y4, y5, y6, y7, y8, rfl⟩ := (hJ _ _ _).mp hK2
      obtain ⟨hi, rfl⟩ := rangeD_at he
      have t4 := two4 hv m hi rfl
      have wi := (hv.pwOk hi).wlen hv.sz
      have px : ∀ T, dIx (.lv (r.pw.map fun f => nT (wordL f))) (.int (i : Int)) T = some (nT (wordL (pwF r i))) := fun T => by
        have h1 : i < r.pw.length := by rw [hv.pl]; exact hi
        have : (r.pw.map fun f => nT (wordL f))[i]? = some (nT (wordL (pwF r i))) := by simp [pwF, h1]
        exact atI_some this
      have c2 : ∀ l, fldOf "Ways" "powers" (.ref w) (S ++ [.lst l]) = some (.lv (r.pw.map fun f => nT (wordL f))) := fun l => (hX l).f2
      have b1 : ∀ T, dAdd (nT (wordL (pwF r i))) (.tup [.int (i : Int)]) T = some (nT (wordL (pwF r i) ++ [i])) := fun T => app_n (by omega)
      have b6 : ∀ T, dAdd (.tup [.int (i : Int)]) (nT (wordL (pwF r i))) T = some (nT (i :: wordL (pwF r i))) := fun T => by
        have := nT_app (a := [i]) (b := wordL (pwF r i)) (S := T) (by simp only [List.length_cons, List.length_nil]; omega)
        exact this
      have il : ∀ l, isL (.ref S.length) (S ++ [.lst l]) = true := fun l => isL_1
      have ap : ∀ x y, fAppend (.ref S.length) [.tup [nT x, nT y]] (S ++ [.lst (M.map twoD)]) = some (.non, S ++ [.lst ((M ++ [(x, y)]).map twoD)]) := fun x y => by
        rw [fAppend_1 (by simp; omega)]
        simp [twoD]
      obtain ⟨A', hA'⟩ : ∃ A', A' = wordL (pwF r i) ++ [i] := ⟨_, rfl⟩
      obtain ⟨B', hB'⟩ : ∃ B', B' = i :: wordL (pwF r i) := ⟨_, rfl⟩
      rw [← hA'] at b1 t4
      rw [← hB'] at b6 t4
      simp [c2, px, b1, b6, il, ap, -List.map_append]
      refine (hJ _ _ _).mpr ⟨⟨M ++ [(A', B')], rfl, fun p hp => ?_, by simp; omega⟩, _, _, _, _, _, _, rfl⟩
      rcases List.mem_append.mp hp with hp | hp
      · exact gM p hp
      · rw [List.mem_singleton.mp hp]; exact t4
    · obtain ⟨⟨M, rfl, gM, lM⟩, y3, y4, y5, y6, y7, y8, rfl⟩ := (hJ _ _ _).mp hK2
      simp only [rangeD_len] at lM
      simp
      exact (hP _ _).mpr ⟨rfl, M, rfl, gM, by omega⟩
theorem whole_ok (hv : Vd r) (m : Mdl r act) : f_is_whole [ruD r] S = .ok (.bl true) S := by
  have mk := make_ways (S := S) hv (ρ := [some (ruD r), none, none, none]) (a := mConsA (mVar 0) mNilA) (ok_eq (by simp))
  have wa := newW_at (S := S) (r := r)
  obtain ⟨L, e1, gL, lL⟩ := two_ways_ok hv m wa
  have en : mkFn 4 m_is_whole [ruD r] S = .ok (.bl true) (newW S r) := by
    refine ok_eq ?_
    rw [mkFn_ap]
    rw [mMake_ap] at mk
    simp at mk
    have si : ∀ l T, seqIt T (.lv l) = some (l, []) := fun l T => rfl
    have lc : lcGo [] (lcB2 2 3) mYes (mOp dEq (mMeth "Ways" "gathered" f_Ways_gathered (mVar 1) (mConsA (mVar 2) mNilA)) (mMeth "Ways" "gathered" f_Ways_gathered (mVar 1) (mConsA (mVar 3) mNilA))) [some (ruD r), some (.ref S.length), none, none] (L.map twoD) (newW S r) = .ok ((L.map fun _ => true).map D.bl) (newW S r) := by
      rw [lcGo_map (fun _ => .bl true) gOk_nil (fun x hx => ?_)]
      · congr 1
        simp
      · obtain ⟨p, hp, rfl⟩ := List.mem_map.mp hx
        have t := gL p hp
        refine ⟨_, rfl, rfl, ok_eq ?_⟩
        have g1 := gathered_ok hv m wa t.l1
        have g2 := gathered_ok hv m wa t.l2
        rw [t.eq] at g1
        simp [insOf_at wa.at_, lk_gathered, g1, g2, dEq_n]
    have lL2 : L.length ≤ 1000000 := by omega
    have al : ∀ T, fAll [.lv ((L.map fun _ => true).map D.bl)] T = some (.bl true) := fun T => by
      rw [fAll_lv]
      simp
    simp only [List.map_map] at al lc
    simp [m_is_whole, mk, insOf_at wa.at_, lk_two, e1, si, lc, lL2, al]
  exact trunc_eq (X := [.ins "Ways" (waysF r (S.length + 1)), .dct (swD r)]) en rfl
theorem need_ok (hv : Vd r) (m : Mdl r act) : f_need_whole [ruD r] S = .ok .non S := by
  refine trunc_eq0 (ok_eq ?_) rfl
  rw [mkFn_ap]
  simp [m_need_whole, whole_ok hv m]
theorem gatherP_ok (hv : Vd r) (m : Mdl r act) {u : List Nat} (hu : Lt r u) : f_gather [ruD r, nT u] S = .ok (nT (acts act (zs r.sz.length) u)) S := by
  have mk := make_ways (S := S) hv (ρ := [some (ruD r), some (nT u)]) (a := mConsA (mVar 0) mNilA) (ok_eq (by simp))
  have wa := newW_at (S := S) (r := r)
  have en : mkFn 2 m_gather [ruD r, nT u] S = .ok (nT (acts act (zs r.sz.length) u)) (newW S r) := by
    refine ok_eq ?_
    rw [mkFn_ap]
    rw [mMake_ap] at mk
    simp at mk
    simp [m_gather, need_ok hv m, mk, insOf_at wa.at_, lk_gathered, gathered_ok hv m wa hu]
  exact trunc_eq (X := [.ins "Ways" (waysF r (S.length + 1)), .dct (swD r)]) en (by simp)
theorem wordof_ok (hv : Vd r) (m : Mdl r act) {f : List Nat} (hf : Fm r f) : f_word_of [ruD r, nT f] S = .ok (nT (wordL f)) S := by
  have lf : f_letters_of [nT f] S = .ok (nT (wordL f)) S := FmOk.letters hv hf
  refine trunc_eq0 (ok_eq ?_) (by simp)
  rw [mkFn_ap]
  simp [m_word_of, need_ok hv m, lf]
theorem allforms_ok (hv : Vd r) (m : Mdl r act) (hp : prodN r.sz ≤ 64) : f_all_forms [ruD r] S = .ok (.lv ((formsTo r.sz).map nT)) S := by
  have fo := hv.formsOk (T := S) hp
  refine trunc_eq0 (ok_eq ?_) (by simp [lowD, low_nTs])
  rw [mkFn_ap]
  simp [m_all_forms, need_ok hv m, ru_ix0, fo]
end
end MP

/-! R, part h: the law's step, the first or the last one that can be done; words gathered so. -/
namespace MP
open PySem L2
section
variable {r : Ru} {S : Sto}
def lastTo (r : Ru) (w : List Nat) : Nat → Option (List Nat)
  | 0 => none
  | i + 1 => match stepAt r w i with
    | some x => some x
    | none => lastTo r w i
theorem lastTo_step {w w' : List Nat} (hl : Lt r w) : ∀ {i : Nat}, i ≤ w.length → lastTo r w i = some w' → StepW r w w'
  | 0, _, h => by cases h
  | i + 1, hi, h => by
    simp only [lastTo] at h
    split at h
    · rename_i x hx
      cases h
      exact stepAt_step hl hi hx
    · exact lastTo_step hl (Nat.le_of_succ_le hi) h
theorem lastTo_none {w : List Nat} : ∀ {i : Nat}, lastTo r w i = none → ∀ k, k < i → stepAt r w k = none
  | 0, _, k, hk => by omega
  | i + 1, h, k, hk => by
    simp only [lastTo] at h
    split at h
    · cases h
    · rename_i hx
      by_cases e : k = i
      · rw [e]; exact hx
      · exact lastTo_none h k (by omega)
theorem lastTo_first {w : List Nat} (h : lastTo r w w.length = none) : firstS r w = none := List.findSome?_eq_none_iff.mpr fun k hk => lastTo_none h k (List.mem_range.mp hk)
def pickS (r : Ru) (w : List Nat) (b : Bool) : Option (List Nat) := if b = true then lastTo r w w.length else firstS r w
def lst1 (r : Ru) (w : List Nat) (b : Bool) (n : Nat) (x7 x8 x9 x10 x11 x12 : Option D) : Fr := [some (ruD r), some (nT w), some (.bl b), some (nT r.sz), some (.tup (r.pw.map nT)), some (.tup (r.ex.map nT)), some (.ref n), x7, x8, x9, x10, x11, x12]
theorem step1_ok (hv : Vd r) {w : List Nat} {b : Bool} (hl : Lt r w) (hn : w.length ≤ 100000) : f_law_step [ruD r, nT w, .bl b] S = .ok (stepD (pickS r w b)) S := by
  have len := hv.sz.len
  have fin : mkFn 13 m_law_step [ruD r, nT w, .bl b] S = .ok (stepD (pickS r w b)) (S ++ [.dct (xwD r)]) := by
    refine ok_eq ?_
    rw [mkFn_ap]
    have dz : ∀ T, dzOf T [.lv ((pairsL r.sz.length).map pD), .tup (r.ex.map nT)] = some (xwD r) := fun T => xw_dz hv
    have pe : ∀ T, f_pairs_of [.int (r.sz.length : Int)] T = .ok (.lv ((pairsL r.sz.length).map pD)) T := fun T => pairs_ok (by omega)
    have fl : ∀ T, fLen [nT r.sz] T = some (.int (r.sz.length : Int)) := fun T => by simp [nT]
    have e1 : ∀ T, enumIt T [nT w] = some (enumD 0 (w.map iD), []) := fun T => rfl
    obtain ⟨P, hP⟩ : ∃ P : Fl → Sto → Prop, ∀ f S', P f S' ↔ (f = .rt (stepD (pickS r w b)) ∨ ∃ ρ, f = .nx ρ ∧ mVar 7 ρ S' = .ok (stepD (pickS r w b)) S') ∧ S' = S ++ [.dct (xwD r)] := ⟨_, fun _ _ => Iff.rfl⟩
    have lp : Ok (forL [] (gTupD 2 (gConsD (gN 8) (gConsD (gN 9) gNilD))) (mSeq (mSet 10 (mOp dIx (mVar 3) (mVar 9)))
 (mSeq (mIf (mT (mOp dEq (mSl dSl (mVar 1) (mPart (mVar 8)) (mPart (mOp dAdd (mVar 8) (mVar 10)))) (mOp dMul (mTup (mConsA (mVar 9) mNilA)) (mVar 10))))
 (mSeq (mSet 11 (mSl dSl (mVar 1) (mPart (mOp dAdd (mVar 8) (mVar 10))) mNoP))
 (mSet 7 (mOp dAdd (mOp dAdd (mSl dSl (mVar 1) mNoP (mPart (mVar 8))) (mCall f_letters_of (mConsA (mOp dIx (mVar 4) (mVar 9)) mNilA))) (mVar 11))))
 (mIf (mAndT (mT (mOp dLt (mOp dAdd (mVar 8) (mC (.int 1))) (mCB fLen (mConsA (mVar 1) mNilA)))) (mT (mOp dLt (mOp dIx (mVar 1) (mOp dAdd (mVar 8) (mC (.int 1)))) (mVar 9))))
 (mSeq (mSet 12 (mOp dIx (mVar 1) (mOp dAdd (mVar 8) (mC (.int 1)))))
 (mSet 7 (mOp dAdd (mOp dAdd (mOp dAdd (mSl dSl (mVar 1) mNoP (mPart (mVar 8))) (mTup (mConsA (mVar 12) mNilA))) (mCall f_letters_of (mConsA (mOp dIxA (mVar 6) (mTup (mConsA (mVar 12) (mConsA (mVar 9) mNilA)))) mNilA))) (mSl dSl (mVar 1) (mPart (mOp dAdd (mVar 8) (mC (.int 2)))) mNoP))))
 mSkip))
 (mIf (mAndT (mT (mOp dIsNot (mVar 7) (mC .non))) (mNotT (mT (mVar 2))))
 (mRet (mVar 7))
 mSkip))) (enumD 0 (w.map iD)) (lst1 r w b S.length (some .non) none none none none none) (S ++ [.dct (xwD r)])) P := by
      obtain ⟨I, hI⟩ : ∃ I : Nat → Fr → Sto → Prop, ∀ i ρ S', I i ρ S' ↔ S' = S ++ [.dct (xwD r)] ∧ (b = false → lastTo r w i = none) ∧ ∃ x8 x9 x10 x11 x12, ρ = lst1 r w b S.length (some (stepD (lastTo r w i))) x8 x9 x10 x11 x12 := ⟨_, fun _ _ _ => Iff.rfl⟩
      refine forL_ok I ((hI _ _ _).mpr ⟨rfl, fun _ => rfl, _, _, _, _, _, rfl⟩) (fun i ρ S' hJ => gOk_nil) (fun i e ρ S' he hJ => ?_) (fun ρ S' hJ => ?_)
      · obtain ⟨rfl, hz, x8, x9, x10, x11, x12, rfl⟩ := (hI _ _ _).mp hJ
        obtain ⟨x, hx, rfl⟩ := enumD_at he
        rw [List.getElem?_map] at hx
        obtain ⟨m, hm, rfl⟩ := Option.map_eq_some_iff.mp hx
        have hi : i < w.length := (List.getElem?_eq_some_iff.mp hm).1
        have em : w.getD i 0 = m := by rw [List.getD_eq_getElem?_getD, hm]; rfl
        have hml := hl.at hi
        rw [em] at hml
        have s7 : r.sz.getD m 0 < 8 := by
          rw [List.getD_eq_getElem?_getD, List.getElem?_eq_getElem hml, Option.getD_some]
          exact hv.sz.lt _ (List.getElem_mem hml)
        have g1 : ∀ T, dIx (nT r.sz) (.int (m : Int)) T = some (.int ((r.sz.getD m 0 : Nat) : Int)) := fun T => ix_n hml
        obtain ⟨s, hs⟩ : ∃ s, s = r.sz.getD m 0 := ⟨_, rfl⟩
        rw [← hs] at g1 s7
        have g2 : ∀ T, dMul (.tup [.int (m : Int)]) (.int (s : Int)) T = some (nT (List.replicate s m)) := fun T => mul_n (by omega)
        have k5 : ∀ v T, dIsNot (nT v) .non T = some (.bl true) := fun _ _ => rfl
        have found : ∀ w' x10 x11 x12, stepAt r w i = some w' → (b = false → P (.rt (nT w')) (S ++ [.dct (xwD r)])) ∧ (b = true → I (i + 1) (lst1 r w b S.length (some (nT w')) (some (iD i)) (some (iD m)) x10 x11 x12) (S ++ [.dct (xwD r)])) := fun w' x10 x11 x12 st => by
          refine ⟨fun hb => (hP _ _).mpr ⟨.inl ?_, rfl⟩, fun hb => (hI _ _ _).mpr ⟨rfl, (fun h => by rw [hb] at h; cases h), some (iD i), some (iD m), x10, x11, x12, ?_⟩⟩
          · have : firstS r w = some w' := find_at hi (lastTo_none (hz hb)) st
            unfold pickS
            rw [if_neg (by rw [hb]; simp), this]
            rfl
          · simp only [lastTo, st, stepD]
        have none_ : ∀ x10 x11 x12, stepAt r w i = none → I (i + 1) (lst1 r w b S.length (some (stepD (lastTo r w i))) (some (iD i)) (some (iD m)) x10 x11 x12) (S ++ [.dct (xwD r)]) := fun x10 x11 x12 st => by
          have e : lastTo r w (i + 1) = lastTo r w i := by simp only [lastTo, st]
          exact (hI _ _ _).mpr ⟨rfl, (fun h => by rw [e]; exact hz h), some (iD i), some (iD m), x10, x11, x12, by rw [e]⟩
        unfold lst1 at found none_
        unfold lst1
        by_cases c : (w.drop i).take s = List.replicate s m
        · have st : stepAt r w i = some (w.take i ++ wordL (pwF r m) ++ w.drop (i + s)) := by
            unfold stepAt
            rw [em, ← hs, if_pos c]
          have pl : m < r.pw.length := by rw [hv.pl]; exact hml
          have k1 : ∀ T, dIx (.tup (r.pw.map nT)) (.int (m : Int)) T = some (nT (pwF r m)) := fun T => ix_nn pl
          have k2 : ∀ T, f_letters_of [nT (pwF r m)] T = .ok (nT (wordL (pwF r m))) T := fun T => (hv.pwOk hml).letters hv
          have wl := (hv.pwOk hml).wlen hv.sz
          have l1 : (w.take i).length ≤ 100000 := by rw [List.length_take]; omega
          have l2 : (w.drop (i + s)).length ≤ 100000 := by rw [List.length_drop]; omega
          have k3 : ∀ T, dAdd (nT (w.take i)) (nT (wordL (pwF r m))) T = some (nT (w.take i ++ wordL (pwF r m))) := fun T => nT_app (by omega)
          obtain ⟨W, hW⟩ : ∃ W, W = w.take i ++ wordL (pwF r m) ++ w.drop (i + s) := ⟨_, rfl⟩
          have k4 : ∀ T, dAdd (nT (w.take i ++ wordL (pwF r m))) (nT (w.drop (i + s))) T = some (nT W) := fun T => by rw [hW]; exact nT_app (by rw [List.length_append]; omega)
          rw [← hW] at st
          cases b with
          | true =>
            simp [g1, g2, sl_mid, dEq_n, c, k1, k2, sl_pre, sl_postk, k3, k4, k5]
            exact (found W _ _ _ st).2 rfl
          | false =>
            simp [g1, g2, sl_mid, dEq_n, c, k1, k2, sl_pre, sl_postk, k3, k4, k5]
            exact (found W none none none st).1 rfl
        · by_cases c2 : i + 1 < w.length ∧ w.getD (i + 1) 0 < m
          · have st : stepAt r w i = some (w.take i ++ w.getD (i + 1) 0 :: wordL (exF r (w.getD (i + 1) 0) m) ++ w.drop (i + 2)) := by
              unfold stepAt
              rw [em, ← hs, if_neg c, if_pos c2]
            have k0 : ∀ T, dIx (nT w) (.int ((i : Int) + 1)) T = some (.int ((w.getD (i + 1) 0 : Nat) : Int)) := fun T => ix_n c2.1
            obtain ⟨x, hx⟩ : ∃ x, x = w.getD (i + 1) 0 := ⟨_, rfl⟩
            rw [← hx] at k0 st c2
            have ek := hv.exOk c2.2 hml
            have k1 : dIxA (.ref S.length) (.tup [iD x, iD m]) (S ++ [.dct (xwD r)]) = some (nT (exF r x m)) := by
              unfold dIxA
              have dt : dctT (S ++ [.dct (xwD r)]) (.ref S.length) = some (xwD r) := dctT_of (by simp) xw_tup
              rw [dt]
              simp only
              unfold dGetT
              rw [dt]
              have : tupKey (.tup [iD x, iD m]) = some (keyP (x, m)) := tupKey_pD (x, m)
              rw [this]
              exact xw_get hv c2.2 hml
            have k2 : ∀ T, f_letters_of [nT (exF r x m)] T = .ok (nT (wordL (exF r x m))) T := fun T => ek.letters hv
            have wl := ek.wlen hv.sz
            have l1 : (w.take i).length ≤ 100000 := by rw [List.length_take]; omega
            have l2 : (w.drop (i + 2)).length ≤ 100000 := by rw [List.length_drop]; omega
            have k3 : ∀ T, dAdd (nT (w.take i)) (.tup [iD x]) T = some (nT (w.take i ++ [x])) := fun T => by
              have := nT_app (a := w.take i) (b := [x]) (S := T) (by simp only [List.length_cons, List.length_nil]; omega)
              exact this
            have k4 : ∀ T, dAdd (nT (w.take i ++ [x])) (nT (wordL (exF r x m))) T = some (nT (w.take i ++ [x] ++ wordL (exF r x m))) := fun T => nT_app (by simp only [List.length_append, List.length_cons, List.length_nil]; omega)
            obtain ⟨V, hV⟩ : ∃ V, V = w.take i ++ [x] ++ wordL (exF r x m) := ⟨_, rfl⟩
            obtain ⟨W, hW⟩ : ∃ W, W = V ++ w.drop (i + 2) := ⟨_, rfl⟩
            rw [← hV] at k4
            have k6 : ∀ T, dAdd (nT V) (nT (w.drop (i + 2))) T = some (nT W) := fun T => by
              rw [hW]
              refine nT_app ?_
              rw [hV]
              simp only [List.length_append, List.length_cons, List.length_nil]
              omega
            have eW : w.take i ++ x :: wordL (exF r x m) ++ w.drop (i + 2) = W := by rw [hW, hV]; simp
            rw [eW] at st
            have k7 : ∀ T, dSl (nT w) (some ((i : Int) + 2)) none T = some (nT (w.drop (i + 2))) := fun T => sl_postk (k := 2)
            have k8 : ∀ T, fLen [nT w] T = some (.int (w.length : Int)) := fun T => by simp [nT]
            have k9 : ((i : Int) + 1 < (w.length : Int)) := by omega
            have ka : ((x : Nat) : Int) < ((m : Nat) : Int) := by omega
            have kc : dIxA (.ref S.length) (.tup [.int (x : Int), .int (m : Int)]) (S ++ [.dct (xwD r)]) = some (nT (exF r x m)) := k1
            cases b with
            | true =>
              simp [g1, g2, sl_mid, dEq_n, c, k0, kc, k2, sl_pre, k7, k8, k9, ka, c2.2, k3, k4, k5, k6]
              exact (found W _ _ _ st).2 rfl
            | false =>
              simp [g1, g2, sl_mid, dEq_n, c, k0, kc, k2, sl_pre, k7, k8, k9, ka, c2.2, k3, k4, k5, k6]
              exact (found W none none none st).1 rfl
          · have st : stepAt r w i = none := by
              unfold stepAt
              rw [em, ← hs, if_neg c, if_neg c2]
            have k8 : ∀ T, fLen [nT w] T = some (.int (w.length : Int)) := fun T => by simp [nT]
            have fin2 : ∀ x10 x11 x12, Ok ((mIf (mAndT (mT (mOp dIsNot (mVar 7) (mC .non))) (mNotT (mT (mVar 2)))) (mRet (mVar 7)) mSkip) [some (ruD r), some (nT w), some (.bl b), some (nT r.sz), some (.tup (r.pw.map nT)), some (.tup (r.ex.map nT)), some (.ref S.length), some (stepD (lastTo r w i)), some (iD i), some (iD m), x10, x11, x12] (S ++ [.dct (xwD r)])) fun f S2 => match f with
              | .nx ρ2 => I (i + 1) ρ2 S2
              | .ct ρ2 => I (i + 1) ρ2 S2
              | .bk ρ2 => P (.nx ρ2) S2
              | .rt d => P (.rt d) S2 := fun x10 x11 x12 => by
              have nn := none_ x10 x11 x12 st
              cases hlt : lastTo r w i with
              | none =>
                rw [hlt] at nn
                have k5' : ∀ T, dIsNot .non .non T = some (.bl false) := fun _ => rfl
                simp [stepD, k5']
                exact nn
              | some v =>
                rw [hlt] at nn
                cases b with
                | true =>
                  simp [stepD, k5]
                  exact nn
                | false =>
                  have := hz rfl
                  rw [hlt] at this
                  cases this
            by_cases c3 : i + 1 < w.length
            · have k0 : ∀ T, dIx (nT w) (.int ((i : Int) + 1)) T = some (.int ((w.getD (i + 1) 0 : Nat) : Int)) := fun T => ix_n c3
              obtain ⟨x, hx⟩ : ∃ x, x = w.getD (i + 1) 0 := ⟨_, rfl⟩
              rw [← hx] at k0 c2
              have k9 : ((i : Int) + 1 < (w.length : Int)) := by omega
              have ka : ¬ x < m := fun h => c2 ⟨c3, h⟩
              have f2 := fin2 (some (.int (s : Int))) x11 x12
              simp at f2
              simp [g1, g2, sl_mid, dEq_n, c, k8, k0, k9, ka]
              exact f2
            · have k9 : ¬ ((i : Int) + 1 < (w.length : Int)) := by omega
              have f2 := fin2 (some (.int (s : Int))) x11 x12
              simp at f2
              simp [g1, g2, sl_mid, dEq_n, c, k8, k9]
              exact f2
      · obtain ⟨rfl, hz, x8, x9, x10, x11, x12, rfl⟩ := (hI _ _ _).mp hJ
        rw [enumD_len, List.length_map] at hz ⊢
        refine (hP _ _).mpr ⟨.inr ⟨_, rfl, ?_⟩, rfl⟩
        have : pickS r w b = lastTo r w w.length := by
          unfold pickS
          cases b with
          | true => rfl
          | false =>
            rw [if_neg (by simp), hz rfl]
            exact lastTo_first (hz rfl)
        rw [this]
        rfl
    unfold lst1 at lp
    simp [m_law_step, gRuq, fl, pe, dz, e1]
    refine lp.imp ?_
    intro f S' h
    obtain ⟨h1, rfl⟩ := (hP _ _).mp h
    rcases h1 with rfl | ⟨ρ, rfl, h2⟩
    · simp
    · simp [h2]
  exact trunc_eq fin (by cases h : pickS r w b <;> simp [stepD])
end
end MP

/-! R, part i: words gathered by the law, the first or the last step first. -/
namespace MP
open PySem L2
section
variable {r : Ru} {S : Sto}
noncomputable def gwB1 : M Fl := mSeq (mSet 2 (mVar 4)) (mSet 4 (mCall f_law_step (mConsA (mVar 0) (mConsA (mVar 2) (mConsA (mC (.bl false)) mNilA)))))
theorem gw_loop1 (hv : Vd r) {x1 x3 : Option D} {f t g t2 : List Nat} (a : Rch r 10000 f t g t2) (e : t2 = []) (hf : Fm r f) (ht : Lt r t) :
    mWhile gwC gwB1 [some (ruD r), x1, some (nT (wordL f ++ t)), x3, some (stepD (firstS r (wordL f ++ t)))] S = .ok (.nx [some (ruD r), x1, some (nT (wordL g)), x3, some .non]) S := by
  induction a with
  | done f t =>
    subst e
    rw [List.append_nil, firstS_plain hf, mWhile_unfold]
    have : gwC [some (ruD r), x1, some (nT (wordL f)), x3, some (stepD none)] S = .ok false S := by
      refine ok_eq ?_
      unfold gwC
      simp [stepD, dIsNot, dIs]
    rw [this]
    rfl
  | @step f t f1 t1 g t2 st hb b ih =>
    have ok := st.ok hv hf ht
    have ih := ih e ok.1 ok.2
    rcases mst_first hv st hf ht with h | h
    · rw [h]
      exact ih
    · rw [h, mWhile_unfold]
      have c : gwC [some (ruD r), x1, some (nT (wordL f ++ t)), x3, some (stepD (some (wordL f1 ++ t1)))] S = .ok true S := by
        refine ok_eq ?_
        unfold gwC
        simp [stepD, dIsNot, dIs, nT]
      have l1 := b.len e
      have l2 := ok.1.wlen35 hv
      have sp := step1_ok (S := S) (b := false) hv (Lt.app.mpr ⟨ok.1.lt, ok.2⟩ : Lt r (wordL f1 ++ t1)) (by rw [List.length_append]; omega)
      have bd : gwB1 [some (ruD r), x1, some (nT (wordL f ++ t)), x3, some (stepD (some (wordL f1 ++ t1)))] S = .ok (.nx [some (ruD r), x1, some (nT (wordL f1 ++ t1)), x3, some (stepD (firstS r (wordL f1 ++ t1)))]) S := by
        refine ok_eq ?_
        unfold gwB1
        have : stepD (some (wordL f1 ++ t1)) = nT (wordL f1 ++ t1) := rfl
        rw [this]
        simp [sp, pickS]
      rw [c, Res.bind_ok, if_pos rfl, bd, Res.bind_ok]
      exact ih
theorem gather1_ok (hv : Vd r) {act : List Nat → Nat → List Nat} (md : Mdl r act) {w : List Nat} (hl : Lt r w) (hn : w.length ≤ 100000) : f_law_gather [ruD r, nT w] S = .ok (nT (acts act (zs r.sz.length) w)) S := by
  have len := hv.sz.len
  refine trunc_eq0 (ok_eq ?_) (by simp)
  rw [mkFn_ap]
  have si : ∀ T, seqIt T (nT w) = some (w.map iD, []) := fun T => rfl
  simp [m_law_gather, si]
  obtain ⟨I, hI⟩ : ∃ I : Nat → Fr → Sto → Prop, ∀ i ρ S', I i ρ S' ↔ S' = S ∧ ∃ x3 x4, ρ = [some (ruD r), some (nT w), some (nT (wordL (acts act (zs r.sz.length) (w.take i)))), x3, x4] := ⟨_, fun _ _ _ => Iff.rfl⟩
  have fmi : ∀ i, Fm r (acts act (zs r.sz.length) (w.take i)) := fun i => md.fm hv.zero fun x hx => hl x (List.mem_of_mem_take hx)
  refine forL_ok I ((hI _ _ _).mpr ?_) (fun i ρ S' hJ => gOk_nil) (fun i e ρ S' he hJ => ?_) (fun ρ S' hJ => ?_)
  · refine ⟨rfl, none, none, ?_⟩
    have : wordL (zs r.sz.length) = [] := wordF_zero fun i hi => zs_get
    simp [this, nT]
  · obtain ⟨rfl, x3, x4, rfl⟩ := (hI _ _ _).mp hJ
    rw [List.getElem?_map] at he
    obtain ⟨m, hm, rfl⟩ := Option.map_eq_some_iff.mp he
    obtain ⟨f, hf⟩ : ∃ f, f = acts act (zs r.sz.length) (w.take i) := ⟨_, rfl⟩
    have ff := fmi i
    rw [← hf] at ff ⊢
    have ml : m < r.sz.length := hl _ (List.mem_of_getElem? hm)
    have nx : acts act (zs r.sz.length) (w.take (i + 1)) = act f m := by
      rw [List.take_add_one, hm, acts_app, ← hf]
      rfl
    have wl := ff.wlen35 hv
    have k1 : ∀ T, dAdd (nT (wordL f)) (.tup [.int (m : Int)]) T = some (nT (wordL f ++ [m])) := fun T => by
      have := nT_app (a := wordL f) (b := [m]) (S := T) (by simp only [List.length_cons, List.length_nil]; omega)
      exact this
    have lt1 : Lt r [m] := Lt.cons.mpr ⟨ml, Lt.nil⟩
    have sp : ∀ T, f_law_step [ruD r, nT (wordL f ++ [m]), .bl false] T = .ok (stepD (firstS r (wordL f ++ [m]))) T := fun T => step1_ok (b := false) hv (Lt.app.mpr ⟨ff.lt, lt1⟩) (by simp only [List.length_append, List.length_cons, List.length_nil]; omega)
    obtain ⟨g, hg, a⟩ := rch_one hv ff ml
    have eg := (a.run rfl).acts hv md ff lt1
    have lp := gw_loop1 (S := S') (x1 := some (nT w)) (x3 := some (iD m)) hv a rfl ff lt1
    have eg2 : act f m = g := eg
    unfold gwC gwB1 at lp
    simp [k1, sp, lp]
    exact (hI _ _ _).mpr ⟨rfl, _, _, by rw [nx, eg2]⟩
  · obtain ⟨rfl, x3, x4, rfl⟩ := (hI _ _ _).mp hJ
    rw [List.length_map, List.take_length]
    obtain ⟨f, hf⟩ : ∃ f, f = acts act (zs r.sz.length) w := ⟨_, rfl⟩
    have ff := fmi w.length
    rw [List.take_length, ← hf] at ff
    rw [← hf]
    have i0 : dIx (ruD r) (.int 0) S' = some (nT r.sz) := by simp [ruD, dIx_t]
    have fl : ∀ T, fLen [nT r.sz] T = some (.int (r.sz.length : Int)) := fun T => by simp [nT]
    have ri : rangeIt [.int (r.sz.length : Int)] = some (rangeD 0 r.sz.length, []) := range_is (by omega)
    have lc : ∀ ρ3 ρ4, lcGo [] (lcB1 3) mYes (mMt isTupD fCnt (mVar 2) (mConsA (mVar 3) mNilA)) [some (ruD r), some (nT w), some (nT (wordL f)), ρ3, ρ4] (rangeD 0 r.sz.length) S' = .ok (f.map iD) S' := fun ρ3 ρ4 => by
      rw [lcGo_map (fun d => match d with
        | .int k => .int (((wordL f).count k.toNat : Nat) : Int)
        | _ => .non) gOk_nil (fun d hd => ?_)]
      · congr 1
        have := count_wordL (f := f)
        rw [ff.1] at this
        conv => rhs; rw [← this]
        unfold rangeD
        rw [List.map_map, List.map_map]
        refine List.map_congr_left fun i hi => ?_
        simp [iD]
      · obtain ⟨k, hk, rfl⟩ := List.mem_map.mp hd
        refine ⟨_, rfl, rfl, ?_⟩
        have it : isTupD (nT (wordL f)) S' = true := rfl
        refine ok_eq ?_
        simp [it, cnt_n]
    have rl : r.sz.length ≤ 1000000 := by omega
    simp [i0, fl, ri, lc, rl]
    rfl

theorem StepW.len {u v : List Nat} (hv : Vd r) (h : StepW r u v) : v.length ≤ u.length + 36 := by
  cases h with
  | pw a b i hi =>
    have := (hv.pwOk hi).wlen hv.sz
    simp only [List.length_append, List.length_replicate]
    omega
  | ex a b i j hij hj =>
    have := (hv.exOk hij hj).wlen hv.sz
    simp only [List.length_append, List.length_cons, List.length_nil]
    omega
theorem stepD_isnot {x : Option (List Nat)} {T : Sto} : dIsNot (stepD x) .non T = some (.bl x.isSome) := by
  cases x <;> rfl
theorem last_first_ok (hv : Vd r) {act : List Nat → Nat → List Nat} (md : Mdl r act) {w : List Nat} (hl : Lt r w) (hn : w.length ≤ 60) : f_law_last_first [ruD r, nT w] S = .ok (nT (acts act (zs r.sz.length) w)) S := by
  have len := hv.sz.len
  refine trunc_eq0 (ok_eq ?_) (by simp)
  rw [mkFn_ap]
  have r6 : rangeIt [.int 60] = some (rangeD 0 60, []) := range_is (n := 60) (by omega)
  have sp : ∀ (u : List Nat) T, Lt r u → u.length ≤ 100000 → f_law_step [ruD r, nT u, .bl true] T = .ok (stepD (lastTo r u u.length)) T := fun u T h1 h2 => step1_ok (b := true) hv h1 h2
  simp [m_law_last_first, sp w S hl (by omega), r6]
  obtain ⟨I, hI⟩ : ∃ I : Nat → Fr → Sto → Prop, ∀ i ρ S', I i ρ S' ↔ S' = S ∧ ∃ u x3 x4, Lt r u ∧ u.length ≤ 60 + 36 * i ∧ acts act (zs r.sz.length) u = acts act (zs r.sz.length) w ∧ ρ = [some (ruD r), some (nT u), some (stepD (lastTo r u u.length)), x3, x4] := ⟨_, fun _ _ _ => Iff.rfl⟩
  refine forL_ok I ((hI _ _ _).mpr ⟨rfl, w, _, _, hl, by omega, rfl, rfl⟩) (fun i ρ S' hJ => gOk_nil) (fun i e ρ S' he hJ => ?_) (fun ρ S' hJ => ?_)
  · obtain ⟨rfl, u, x3, x4, hu, lu, eu, rfl⟩ := (hI _ _ _).mp hJ
    obtain ⟨hi, rfl⟩ := rangeD_at he
    cases hs : lastTo r u u.length with
    | none =>
      have e : stepD (lastTo r u u.length) = .non := by rw [hs]; rfl
      simp [stepD, dIsNot, dIs]
      exact (hI _ _ _).mpr ⟨rfl, u, some (.int (i : Int)), x4, hu, by omega, eu, by rw [e]⟩
    | some v =>
      have st := lastTo_step hu (Nat.le_refl _) hs
      have lv := st.len hv
      have hv' := st.lt hv hu
      have k5 : ∀ T, dIsNot (nT v) .non T = some (.bl true) := fun _ => rfl
      simp [stepD, k5, sp v S' hv' (by omega)]
      exact (hI _ _ _).mpr ⟨rfl, v, some (.int (i : Int)), x4, hv', by omega, by rw [← md.step st hv.zero hu]; exact eu, rfl⟩
  · obtain ⟨rfl, u, x3, x4, hu, lu, eu, rfl⟩ := (hI _ _ _).mp hJ
    rw [rangeD_len] at lu
    cases hs : lastTo r u u.length with
    | some v =>
      have k5 : ∀ T, dIsNot (nT v) .non T = some (.bl true) := fun _ => rfl
      simp [stepD, k5, gather1_ok hv md hu (by omega)]
      rw [eu]
    | none =>
      obtain ⟨f, ff, rfl⟩ := plain_of hv hu (firstS_none hv (lastTo_first hs))
      rw [md.pl f ff] at eu
      rw [← eu]
      have ri : rangeIt [.int (r.sz.length : Int)] = some (rangeD 0 r.sz.length, []) := range_is (by omega)
      have lc : ∀ ρ2 ρ3 ρ4, lcGo [] (lcB1 4) mYes (mMt isTupD fCnt (mVar 1) (mConsA (mVar 4) mNilA)) [some (ruD r), some (nT (wordL f)), ρ2, ρ3, ρ4] (rangeD 0 r.sz.length) S' = .ok (f.map iD) S' := fun ρ2 ρ3 ρ4 => by
        rw [lcGo_map (fun d => match d with
          | .int k => .int (((wordL f).count k.toNat : Nat) : Int)
          | _ => .non) gOk_nil (fun d hd => ?_)]
        · congr 1
          have := count_wordL (f := f)
          rw [ff.1] at this
          conv => rhs; rw [← this]
          unfold rangeD
          rw [List.map_map, List.map_map]
          refine List.map_congr_left fun i hi => ?_
          simp [iD]
        · obtain ⟨k, hk, rfl⟩ := List.mem_map.mp hd
          refine ⟨_, rfl, rfl, ?_⟩
          have it : isTupD (nT (wordL f)) S' = true := rfl
          refine ok_eq ?_
          simp [it, cnt_n]
      have rl : r.sz.length ≤ 1000000 := by omega
      simp [stepD, dIsNot, dIs, ru_ix0, fLen_n, ri, lc, rl]
      rfl
end
end MP

/-! R, part j: words drawn; lists compared. -/
namespace MP
open PySem L2
theorem pick_all {l : List D} {k : Nat} (h : k < l.length) : ∃ d, d ∈ l ∧ ∀ T, dIx (.lv l) (iD k) T = some d := by
  refine ⟨l[k], List.getElem_mem h, fun T => ?_⟩
  rw [dIx_l]
  exact atI_some (List.getElem?_eq_getElem h)
section
variable {S : Sto} {n : Nat}
theorem takesD_ok {bd : LcB} {e : M D} {ρ : Fr} {c k : Nat} (h : St S n) (h0 : 0 < k) (hk : k ≤ 2147483648) (he : ∀ d, ∃ ρ1, bd d ρ = some ρ1 ∧ ∀ T, e ρ1 T = f_law_take [.ref n, iD k] T) : ∃ (vs : List Nat) (o : Ob), StO o ∧ vs.length = c ∧ (∀ v ∈ vs, v < k) ∧ lcGo [] bd mYes e ρ (rangeD 0 c) S = .ok (vs.map iD) (S.set n o) := by
  suffices hs : Ok (lcGo [] bd mYes e ρ (rangeD 0 c) S) fun l S' => ∃ (vs : List Nat) (o : Ob), StO o ∧ vs.length = c ∧ (∀ v ∈ vs, v < k) ∧ l = vs.map iD ∧ S' = S.set n o by
    obtain ⟨l, S', e, fs, o, ho, h1, h2, rfl, rfl⟩ := hs.eq
    exact ⟨fs, o, ho, h1, h2, e⟩
  obtain ⟨I, hI⟩ : ∃ I : Nat → List D → Sto → Prop, ∀ i l S', I i l S' ↔ ∃ (vs : List Nat) (o : Ob), StO o ∧ vs.length = i ∧ (∀ v ∈ vs, v < k) ∧ l = vs.map iD ∧ S' = S.set n o := ⟨_, fun _ _ _ => Iff.rfl⟩
  have s0 : ∃ o, StO o ∧ S = S.set n o := by
    obtain ⟨o, h1, h2⟩ := h
    exact ⟨o, h2, (set_same h1).symm⟩
  obtain ⟨o0, ho0, e0⟩ := s0
  refine lcGo_ok I ((hI _ _ _).mpr ⟨[], o0, ho0, rfl, (fun f hf => (List.not_mem_nil hf).elim), rfl, e0⟩) (fun i l S' hJ => gOk_nil) (fun i d l S' hd hJ => ?_) (fun l S' hJ => ?_)
  · obtain ⟨fs, o, ho, h1, h2, rfl, rfl⟩ := (hI _ _ _).mp hJ
    obtain ⟨ρ1, b1, b2⟩ := he d
    refine ⟨ρ1, b1, ?_⟩
    obtain ⟨v, o2, ho2, ff, e2⟩ := take_nat (m := (k : Int)) (k := k) (h.set ho) rfl h0 hk
    rw [List.set_set] at e2
    rw [mYes_ap, ok_ok, if_pos rfl, b2, e2, ok_ok]
    refine (hI _ _ _).mpr ⟨fs ++ [v], o2, ho2, by simp [h1], fun g hg => ?_, by simp, rfl⟩
    rcases List.mem_append.mp hg with hg | hg
    · exact h2 g hg
    · rw [List.mem_singleton.mp hg]
      exact ff
  · have := (hI _ _ _).mp hJ
    rwa [rangeD_len] at this
end
theorem pd_nTs {S : Sto} {n : Nat} {l : List (List Nat)} : optAll (pd S (n + 1)) (l.map nT) = some (l.map fun f => PyData.tuple (f.map fun (y : Nat) => PyData.int (y : Int))) := by
  induction l with
  | nil => rfl
  | cons f l ih => simp only [List.map_cons, optAll, pd_nT, ih]
theorem eqvAll_nn : ∀ {a b : List (List Nat)}, PyData.eqvAll (a.map fun f => PyData.tuple (f.map fun (y : Nat) => PyData.int (y : Int))) (b.map fun f => PyData.tuple (f.map fun (y : Nat) => PyData.int (y : Int))) = decide (a = b)
  | [], [] => rfl
  | [], _ :: _ => rfl
  | _ :: _, [] => rfl
  | x :: a, y :: b => by
    simp only [List.map_cons, PyData.eqvAll, PyData.eqv, eqvAll_nn (a := a) (b := b), eqvAll_n]
    rw [Bool.eq_iff_iff]
    simp
theorem pd_lvn {S : Sto} {l : List (List Nat)} : pd S 8 (.lv (l.map nT)) = some (.list (l.map fun f => PyData.tuple (f.map fun (y : Nat) => PyData.int (y : Int)))) := by
  simp only [pd, pd_nTs, Option.map_some]
theorem pd_refn {S : Sto} {n : Nat} {l : List (List Nat)} (h : S[n]? = some (.lst (l.map nT))) : pd S 8 (.ref n) = some (.list (l.map fun f => PyData.tuple (f.map fun (y : Nat) => PyData.int (y : Int)))) := by
  simp only [pd, h, pd_nTs, Option.map_some]
theorem dNe_n {a b : List Nat} {S : Sto} : dNe (nT a) (nT b) S = some (.bl (decide (a ≠ b))) := by
  simp only [dNe, dEqB, pd_nT, PyData.eqv, eqvAll_n, Option.map_some]
  by_cases h : a = b <;> simp [h]
theorem dNe_reflv {S : Sto} {n : Nat} {a b : List (List Nat)} (h : S[n]? = some (.lst (a.map nT))) : dNe (.ref n) (.lv (b.map nT)) S = some (.bl (decide (a ≠ b))) := by
  simp only [dNe, dEqB, pd_refn h, pd_lvn, PyData.eqv, eqvAll_nn, Option.map_some]
  by_cases h : a = b <;> simp [h]
theorem dNe_lvlv {S : Sto} {a b : List (List Nat)} : dNe (.lv (a.map nT)) (.lv (b.map nT)) S = some (.bl (decide (a ≠ b))) := by
  simp only [dNe, dEqB, pd_lvn, PyData.eqv, eqvAll_nn, Option.map_some]
  by_cases h : a = b <;> simp [h]
theorem dEq_lvlv {S : Sto} {a b : List (List Nat)} : dEq (.lv (a.map nT)) (.lv (b.map nT)) S = some (.bl (decide (a = b))) := by
  simp only [dEq, dEqB, pd_lvn, PyData.eqv, eqvAll_nn, Option.map_some]
theorem isi_ref {S : Sto} {n : Nat} {l : List D} (h : S[n]? = some (.lst l)) : tyD S (.ref n) = some "list" := by
  simp only [tyD, h]
end MP

/-! R, part k: forms as a group: undone ones, turned ones, powers. -/
namespace MP
open PySem L2
section
variable {r : Ru} {act : List Nat → Nat → List Nat} {f g h u v : List Nat}
theorem pwr_add (hv : Vd r) (m : Mdl r act) (hf : Fm r f) : ∀ {a b : Nat}, mulF act (pwr r act f a) (pwr r act f b) = pwr r act f (a + b)
  | a, 0 => mul_zs
  | a, b + 1 => by
    show mulF act (pwr r act f a) (mulF act (pwr r act f b) f) = mulF act (pwr r act f (a + b)) f
    rw [← m.mul_assoc hv (m.pwr_fm hv hf _) (m.pwr_fm hv hf _) hf, pwr_add hv m hf]
theorem Inv1.left (hv : Vd r) (m : Mdl r act) (hf : Fm r f) (h : Inv1 r act f g) : mulF act g f = zs r.sz.length := by
  obtain ⟨o, ho, rfl⟩ := h.ord
  have op := ho.pos
  have e : pwr r act f (o - 1 + 1) = mulF act (pwr r act f (o - 1)) f := rfl
  rw [← e, show o - 1 + 1 = o by omega, ho.z]
theorem Inv1.right (hv : Vd r) (m : Mdl r act) (hf : Fm r f) (h : Inv1 r act f g) : mulF act f g = zs r.sz.length := by
  obtain ⟨o, ho, rfl⟩ := h.ord
  have op := ho.pos
  have e := pwr_add hv m hf (a := 1) (b := o - 1)
  rw [m.pwr_one hf, show 1 + (o - 1) = o by omega, ho.z] at e
  exact e
theorem inv_uniq (hv : Vd r) (m : Mdl r act) (hf : Fm r f) (hu : Fm r u) (h : Inv1 r act f g) (e : mulF act u f = zs r.sz.length) : u = g :=
  m.can hv hu h.fm hf (e.trans (h.left hv m hf).symm)
open Classical in
noncomputable def ivF (r : Ru) (act : List Nat → Nat → List Nat) (f : List Nat) : List Nat := if h : ∃ g, Inv1 r act f g then Classical.choose h else []
theorem ivF_ok (hv : Vd r) (m : Mdl r act) (hf : Fm r f) : Inv1 r act f (ivF r act f) := by
  have h := inv_ex hv m hf
  unfold ivF
  rw [dif_pos h]
  exact Classical.choose_spec h
theorem ivF_fm (hv : Vd r) (m : Mdl r act) (hf : Fm r f) : Fm r (ivF r act f) := (ivF_ok hv m hf).fm
theorem iv_l (hv : Vd r) (m : Mdl r act) (hf : Fm r f) : mulF act (ivF r act f) f = zs r.sz.length := (ivF_ok hv m hf).left hv m hf
theorem iv_r (hv : Vd r) (m : Mdl r act) (hf : Fm r f) : mulF act f (ivF r act f) = zs r.sz.length := (ivF_ok hv m hf).right hv m hf
theorem iv_iv (hv : Vd r) (m : Mdl r act) (hf : Fm r f) : ivF r act (ivF r act f) = f :=
  (inv_uniq hv m (ivF_fm hv m hf) hf (ivF_ok hv m (ivF_fm hv m hf)) (iv_r hv m hf)).symm
theorem iv_zs (hv : Vd r) (m : Mdl r act) : ivF r act (zs r.sz.length) = zs r.sz.length :=
  (inv_uniq hv m hv.zero hv.zero (ivF_ok hv m hv.zero) mul_zs).symm
theorem iv_mul (hv : Vd r) (m : Mdl r act) (hf : Fm r f) (hg : Fm r g) : ivF r act (mulF act f g) = mulF act (ivF r act g) (ivF r act f) := by
  have h1 := ivF_fm hv m hf
  have h2 := ivF_fm hv m hg
  refine (inv_uniq hv m (m.mul_fm hf hg) (m.mul_fm h2 h1) (ivF_ok hv m (m.mul_fm hf hg)) ?_).symm
  rw [m.mul_assoc hv h2 h1 (m.mul_fm hf hg), ← m.mul_assoc hv h1 hf hg, iv_l hv m hf, m.zs_mul hg, iv_l hv m hg]
noncomputable def cjF (r : Ru) (act : List Nat → Nat → List Nat) (f g : List Nat) : List Nat := mulF act (mulF act (ivF r act g) f) g
theorem cj_fm (hv : Vd r) (m : Mdl r act) (hf : Fm r f) (hg : Fm r g) : Fm r (cjF r act f g) := m.mul_fm (m.mul_fm (ivF_fm hv m hg) hf) hg
theorem cj_zs (hv : Vd r) (m : Mdl r act) (hf : Fm r f) : cjF r act f (zs r.sz.length) = f := by
  unfold cjF
  rw [iv_zs hv m, mul_zs, m.zs_mul hf]
theorem cj_cj (hv : Vd r) (m : Mdl r act) (hf : Fm r f) (hg : Fm r g) (hh : Fm r h) : cjF r act (cjF r act f g) h = cjF r act f (mulF act g h) := by
  unfold cjF
  have ig := ivF_fm hv m hg
  have ih := ivF_fm hv m hh
  rw [iv_mul hv m hg hh]
  rw [m.mul_assoc hv ih ig hf, ← m.mul_assoc hv (m.mul_fm ih (m.mul_fm ig hf)) hg hh, m.mul_assoc hv ih (m.mul_fm ig hf) hg]
/-- a form ahead of what it is turned by -/
theorem cj_eq (hv : Vd r) (m : Mdl r act) (hf : Fm r f) (hg : Fm r g) : mulF act g (cjF r act f g) = mulF act f g := by
  unfold cjF
  have ig := ivF_fm hv m hg
  rw [m.mul_assoc hv ig hf hg, ← m.mul_assoc hv hg ig (m.mul_fm hf hg), iv_r hv m hg, m.zs_mul (m.mul_fm hf hg)]
theorem can_l (hv : Vd r) (m : Mdl r act) (hf : Fm r f) (hg : Fm r g) (hh : Fm r h) (e : mulF act h f = mulF act h g) : f = g := by
  have ih := ivF_fm hv m hh
  have e2 : mulF act (ivF r act h) (mulF act h f) = mulF act (ivF r act h) (mulF act h g) := by rw [e]
  rwa [← m.mul_assoc hv ih hh hf, ← m.mul_assoc hv ih hh hg, iv_l hv m hh, m.zs_mul hf, m.zs_mul hg] at e2
theorem cj_fix (hv : Vd r) (m : Mdl r act) (hf : Fm r f) (hg : Fm r g) : cjF r act f g = f ↔ mulF act f g = mulF act g f := by
  constructor
  · intro e
    have := cj_eq hv m hf hg
    rw [e] at this
    exact this.symm
  · intro e
    refine can_l hv m (cj_fm hv m hf hg) hf hg ?_
    rw [cj_eq hv m hf hg, e]
theorem cj_inj (hv : Vd r) (m : Mdl r act) (hf : Fm r f) (hh : Fm r h) (hg : Fm r g) (e : cjF r act f g = cjF r act h g) : f = h := by
  have e2 : mulF act g (cjF r act f g) = mulF act g (cjF r act h g) := by rw [e]
  rw [cj_eq hv m hf hg, cj_eq hv m hh hg] at e2
  exact m.can hv hf hh hg e2
theorem cj_back (hv : Vd r) (m : Mdl r act) (hf : Fm r f) (hg : Fm r g) : cjF r act (cjF r act f g) (ivF r act g) = f := by
  rw [cj_cj hv m hf hg (ivF_fm hv m hg), iv_r hv m hg, cj_zs hv m hf]
theorem cj_mul (hv : Vd r) (m : Mdl r act) (hf : Fm r f) (hh : Fm r h) (hg : Fm r g) : cjF r act (mulF act f h) g = mulF act (cjF r act f g) (cjF r act h g) := by
  refine can_l hv m (cj_fm hv m (m.mul_fm hf hh) hg) (m.mul_fm (cj_fm hv m hf hg) (cj_fm hv m hh hg)) hg ?_
  rw [cj_eq hv m (m.mul_fm hf hh) hg, ← m.mul_assoc hv hg (cj_fm hv m hf hg) (cj_fm hv m hh hg), cj_eq hv m hf hg, m.mul_assoc hv hf hg (cj_fm hv m hh hg), cj_eq hv m hh hg, m.mul_assoc hv hf hh hg]
theorem cj_zero (hv : Vd r) (m : Mdl r act) (hg : Fm r g) : cjF r act (zs r.sz.length) g = zs r.sz.length := by
  refine can_l hv m (cj_fm hv m hv.zero hg) hv.zero hg ?_
  rw [cj_eq hv m hv.zero hg, m.zs_mul hg, mul_zs]
theorem cj_pwr (hv : Vd r) (m : Mdl r act) (hf : Fm r f) (hg : Fm r g) : ∀ k, pwr r act (cjF r act f g) k = cjF r act (pwr r act f k) g
  | 0 => (cj_zero hv m hg).symm
  | k + 1 => by
    show mulF act (pwr r act (cjF r act f g) k) (cjF r act f g) = cjF r act (mulF act (pwr r act f k) f) g
    rw [cj_pwr hv m hf hg k, cj_mul hv m (m.pwr_fm hv hf k) hf hg]
theorem Ord.cj {o : Nat} (hv : Vd r) (m : Mdl r act) (hf : Fm r f) (hg : Fm r g) (ho : Ord r act f o) : Ord r act (cjF r act f g) o := by
  refine ⟨ho.pos, ho.le, by rw [cj_pwr hv m hf hg, ho.z, cj_zero hv m hg], fun k k0 k1 e => ho.nz k k0 k1 ?_⟩
  rw [cj_pwr hv m hf hg] at e
  exact cj_inj hv m (m.pwr_fm hv hf k) hv.zero hg (e.trans (cj_zero hv m hg).symm)
/-- the meet -/
theorem meet_zs (hv : Vd r) (m : Mdl r act) (hf : Fm r f) (hg : Fm r g) : mulF act (ivF r act f) (cjF r act f g) = zs r.sz.length ↔ mulF act f g = mulF act g f := by
  rw [← cj_fix hv m hf hg]
  constructor
  · intro e
    refine can_l hv m (cj_fm hv m hf hg) hf (ivF_fm hv m hf) ?_
    rw [e, iv_l hv m hf]
  · intro e
    rw [e, iv_l hv m hf]
theorem Ord.mod {o : Nat} (hv : Vd r) (m : Mdl r act) (hf : Fm r f) (ho : Ord r act f o) : ∀ n, pwr r act f n = pwr r act f (n % o) := by
  intro n
  have mz : ∀ q, pwr r act f (o * q) = zs r.sz.length := by
    intro q
    induction q with
    | zero => rfl
    | succ q ih =>
      rw [Nat.mul_succ, ← pwr_add hv m hf, ih, ho.z, mul_zs]
  have e := Nat.div_add_mod n o
  conv => lhs; rw [← e]
  rw [← pwr_add hv m hf, mz, m.zs_mul (m.pwr_fm hv hf _)]
theorem Ord.add {o : Nat} (hv : Vd r) (m : Mdl r act) (hf : Fm r f) (ho : Ord r act f o) (a b : Int) : mulF act (pwr r act f (a % (o : Int)).toNat) (pwr r act f (b % (o : Int)).toNat) = pwr r act f ((a + b) % (o : Int)).toNat := by
  have op := ho.pos
  have a0 : 0 ≤ a % (o : Int) := Int.emod_nonneg _ (by omega)
  have b0 : 0 ≤ b % (o : Int) := Int.emod_nonneg _ (by omega)
  rw [pwr_add hv m hf, ho.mod hv m hf]
  congr 1
  have e : ((((a % (o : Int)).toNat + (b % (o : Int)).toNat) % o : Nat) : Int) = (a + b) % (o : Int) := by
    rw [Int.natCast_emod, Int.natCast_add, Int.toNat_of_nonneg a0, Int.toNat_of_nonneg b0, ← Int.add_emod]
  omega
end
end MP

/-! R, part l: counting; all forms in order. -/
namespace MP
open PySem L2
theorem sum_perm {l k : List Nat} (p : l.Perm k) : l.sum = k.sum := by
  induction p with
  | nil => rfl
  | cons x _ ih => simp [ih]
  | swap x y l => simp; omega
  | trans _ _ a b => exact a.trans b
theorem perm_of_mem {α : Type} [BEq α] [LawfulBEq α] {l k : List α} (h1 : l.Nodup) (h2 : k.Nodup) (h : ∀ x, x ∈ l ↔ x ∈ k) : l.Perm k := by
  rw [List.perm_iff_count]
  intro a
  by_cases ha : a ∈ l
  · have hb := (h a).mp ha
    have c1 : l.count a = 1 := by
      have := List.nodup_iff_count.mp h1 a
      have := List.one_le_count_iff.mpr ha
      omega
    have c2 : k.count a = 1 := by
      have := List.nodup_iff_count.mp h2 a
      have := List.one_le_count_iff.mpr hb
      omega
    rw [c1, c2]
  · have hb : a ∉ k := fun hb => ha ((h a).mpr hb)
    rw [List.count_eq_zero.mpr ha, List.count_eq_zero.mpr hb]
/-- what stands over each value -/
theorem fiber_sum {α β : Type} [DecidableEq β] {φ : α → β} {K : List β} (hn : K.Nodup) : ∀ {L : List α}, (∀ x ∈ L, φ x ∈ K) → (K.map fun h => L.countP fun x => decide (φ x = h)).sum = L.length
  | [], _ => by
    have : ∀ K : List β, (K.map fun _ => 0).sum = 0 := fun K => by induction K with
      | nil => rfl
      | cons _ _ ih => simp [ih]
    simpa using this K
  | x :: L, h => by
    have ih := fiber_sum hn (L := L) fun y hy => h y (List.mem_cons_of_mem _ hy)
    have hx := h x List.mem_cons_self
    have e : ∀ K : List β, (K.map fun b => (x :: L).countP fun y => decide (φ y = b)).sum = (K.map fun b => L.countP fun y => decide (φ y = b)).sum + K.count (φ x) := fun K => by
      induction K with
      | nil => rfl
      | cons b K ihk =>
        simp only [List.countP_cons] at ihk ⊢
        simp only [List.map_cons, List.sum_cons, ihk, List.count_cons]
        by_cases hb : φ x = b
        · subst hb
          rw [if_pos (by simp), if_pos (by simp)]
          omega
        · have hb2 : ¬ b = φ x := fun h => hb h.symm
          rw [if_neg (by simpa using hb), if_neg (by simpa using hb2)]
          omega
    rw [e, ih]
    have c : K.count (φ x) = 1 := by
      have := List.nodup_iff_count.mp hn (φ x)
      have := List.one_le_count_iff.mpr hx
      omega
    rw [c]
    rfl
theorem sum_const {α : Type} {c : Nat} {f : α → Nat} : ∀ {L : List α}, (∀ x ∈ L, f x = c) → (L.map f).sum = L.length * c
  | [], _ => by simp
  | x :: L, h => by
    rw [List.map_cons, List.sum_cons, h x List.mem_cons_self, sum_const fun y hy => h y (List.mem_cons_of_mem _ hy), List.length_cons, Nat.succ_mul, Nat.add_comm]
/-- classes of one size -/
theorem class_dvd {α : Type} [DecidableEq α] {o : Nat} {cls : α → List α} : ∀ (n : Nat) {H : List α}, H.length ≤ n → H.Nodup → (∀ x ∈ H, (cls x).Nodup ∧ (cls x).length = o ∧ x ∈ cls x ∧ ∀ y ∈ cls x, y ∈ H) → (∀ x ∈ H, ∀ y ∈ H, ∀ z, z ∈ cls x → z ∈ cls y → ∀ w, w ∈ cls x → w ∈ cls y) → o ∣ H.length
  | n, [], _, _, _, _ => Nat.dvd_zero o
  | 0, x :: H, hl, _, _, _ => by simp at hl
  | n + 1, x :: H, hl, hn, hc, he => by
    obtain ⟨c1, c2, c3, c4⟩ := hc x List.mem_cons_self
    obtain ⟨H', hH'⟩ : ∃ H', H' = (x :: H).filter fun y => decide (y ∉ cls x) := ⟨_, rfl⟩
    have mem' : ∀ y, y ∈ H' ↔ y ∈ x :: H ∧ y ∉ cls x := fun y => by rw [hH', List.mem_filter]; simp
    have nd' : H'.Nodup := by rw [hH']; exact hn.filter _
    have pm : (cls x ++ H').Perm (x :: H) := by
      refine perm_of_mem ?_ hn fun y => ?_
      · rw [List.nodup_append]
        refine ⟨c1, nd', ?_⟩
        rintro a ha b hb rfl
        exact ((mem' a).mp hb).2 ha
      · rw [List.mem_append, mem']
        constructor
        · rintro (h | h)
          · exact c4 y h
          · exact h.1
        · intro h
          by_cases hy : y ∈ cls x
          · exact .inl hy
          · exact .inr ⟨h, hy⟩
    have len := pm.length_eq
    rw [List.length_append, c2] at len
    have lx : 0 < (cls x).length := List.length_pos_of_mem c3
    have ih := class_dvd n (H := H') (by
      simp only [List.length_cons] at hl len
      omega) nd' (fun y hy => by
      obtain ⟨h1, h2⟩ := (mem' y).mp hy
      obtain ⟨d1, d2, d3, d4⟩ := hc y h1
      refine ⟨d1, d2, d3, fun z hz => (mem' z).mpr ⟨d4 z hz, fun hzx => ?_⟩⟩
      exact h2 (he y h1 x List.mem_cons_self z hz hzx y d3)) fun a ha b hb => he a ((mem' a).mp ha).1 b ((mem' b).mp hb).1
    rw [← len]
    exact Nat.dvd_add (Nat.dvd_refl o) ih
section
variable {r : Ru} {act : List Nat → Nat → List Nat} {f g : List Nat}
/-- an order divides how many forms there are -/
theorem order_dvd (hv : Vd r) (m : Mdl r act) (hf : Fm r f) {o : Nat} (ho : Ord r act f o) : o ∣ (formsTo r.sz).length := by
  have op := ho.pos
  refine class_dvd (cls := fun x => (List.range o).map fun k => mulF act x (pwr r act f k)) _ (Nat.le_refl _) formsTo_nodup (fun x hx => ?_) fun x hx y hy z hz1 hz2 w hw => ?_
  · have fx := formsTo_mem.mp hx
    refine ⟨?_, by simp, ?_, fun y hy => ?_⟩
    · rw [List.Nodup, List.pairwise_map]
      refine List.Pairwise.imp_of_mem ?_ (List.pairwise_lt_range (n := o))
      intro a b ha hb hab e
      have e2 := can_l hv m (m.pwr_fm hv hf a) (m.pwr_fm hv hf b) fx e
      obtain ⟨c, rfl⟩ := Nat.exists_eq_add_of_lt hab
      have := m.pwr_can hv hf (a := a) (c := c + 1) (by rw [e2]; rfl)
      have hb2 := List.mem_range.mp hb
      exact ho.nz (c + 1) (by omega) (by omega) this
    · exact List.mem_map.mpr ⟨0, List.mem_range.mpr op, mul_zs⟩
    · obtain ⟨k, _, rfl⟩ := List.mem_map.mp hy
      exact formsTo_mem.mpr (m.mul_fm fx (m.pwr_fm hv hf k))
  · have fx := formsTo_mem.mp hx
    have fy := formsTo_mem.mp hy
    obtain ⟨a, ha, rfl⟩ := List.mem_map.mp hz1
    obtain ⟨b, hb, e⟩ := List.mem_map.mp hz2
    obtain ⟨c, hc, rfl⟩ := List.mem_map.mp hw
    have ha2 := List.mem_range.mp ha
    -- x = y f^(b + (o - a))
    have ex : x = mulF act y (pwr r act f (b + (o - a))) := by
      have e2 : mulF act (mulF act x (pwr r act f a)) (pwr r act f (o - a)) = mulF act (mulF act y (pwr r act f b)) (pwr r act f (o - a)) := by rw [e]
      rw [m.mul_assoc hv fx (m.pwr_fm hv hf _) (m.pwr_fm hv hf _), m.mul_assoc hv fy (m.pwr_fm hv hf _) (m.pwr_fm hv hf _), pwr_add hv m hf, pwr_add hv m hf, show a + (o - a) = o by omega, ho.z, mul_zs] at e2
      exact e2
    refine List.mem_map.mpr ⟨(b + (o - a) + c) % o, List.mem_range.mpr (Nat.mod_lt _ op), ?_⟩
    rw [← ho.mod hv m hf, ← pwr_add hv m hf, ← m.mul_assoc hv fy (m.pwr_fm hv hf _) (m.pwr_fm hv hf _), ← ex]
/-- how many go together with a form -/
def cent (r : Ru) (act : List Nat → Nat → List Nat) (f : List Nat) : Nat := (formsTo r.sz).countP fun g => decide (mulF act f g = mulF act g f)
theorem cent_fiber (hv : Vd r) (m : Mdl r act) (hf : Fm r f) (hg : Fm r g) : (formsTo r.sz).countP (fun x => decide (cjF r act f x = cjF r act f g)) = cent r act f := by
  have pm : ((formsTo r.sz).map fun x => mulF act x g).Perm (formsTo r.sz) := by
    refine perm_of_mem ?_ formsTo_nodup fun y => ?_
    · rw [List.Nodup, List.pairwise_map]
      refine List.Pairwise.imp_of_mem ?_ (formsTo_nodup (l := r.sz))
      intro a b ha hb hab e
      exact hab (m.can hv (formsTo_mem.mp ha) (formsTo_mem.mp hb) hg e)
    · constructor
      · intro hy
        obtain ⟨x, hx, rfl⟩ := List.mem_map.mp hy
        exact formsTo_mem.mpr (m.mul_fm (formsTo_mem.mp hx) hg)
      · intro hy
        have fy := formsTo_mem.mp hy
        refine List.mem_map.mpr ⟨mulF act y (ivF r act g), formsTo_mem.mpr (m.mul_fm fy (ivF_fm hv m hg)), ?_⟩
        rw [m.mul_assoc hv fy (ivF_fm hv m hg) hg, iv_l hv m hg, mul_zs]
  rw [← pm.countP_eq, List.countP_map]
  refine List.countP_congr fun x hx => ?_
  have fx := formsTo_mem.mp hx
  simp only [Function.comp, decide_eq_true_eq]
  rw [← cj_cj hv m hf fx hg, ← cj_fix hv m hf fx]
  exact ⟨fun e => cj_inj hv m (cj_fm hv m hf fx) hf hg e, fun e => by rw [e]⟩
/-- a lot -/
structure Lot (r : Ru) (act : List Nat → Nat → List Nat) (K : List (List Nat)) : Prop where
  nd : K.Nodup
  ex : ∃ f, Fm r f ∧ ∀ h, h ∈ K ↔ ∃ g, Fm r g ∧ cjF r act f g = h
theorem cent_cj (hv : Vd r) (m : Mdl r act) (hf : Fm r f) (hg : Fm r g) : ∀ {K : List (List Nat)}, K.Nodup → (∀ h, h ∈ K ↔ ∃ u, Fm r u ∧ cjF r act f u = h) → K.length * cent r act (cjF r act f g) = (formsTo r.sz).length := by
  intro K hn hK
  have fh := cj_fm hv m hf hg
  have hK2 : ∀ h, h ∈ K ↔ ∃ u, Fm r u ∧ cjF r act (cjF r act f g) u = h := fun h => by
    rw [hK]
    constructor
    · rintro ⟨u, hu, rfl⟩
      refine ⟨mulF act (ivF r act g) u, m.mul_fm (ivF_fm hv m hg) hu, ?_⟩
      rw [cj_cj hv m hf hg (m.mul_fm (ivF_fm hv m hg) hu), ← m.mul_assoc hv hg (ivF_fm hv m hg) hu, iv_r hv m hg, m.zs_mul hu]
    · rintro ⟨u, hu, rfl⟩
      exact ⟨mulF act g u, m.mul_fm hg hu, (cj_cj hv m hf hg hu).symm⟩
  have fs := fiber_sum (φ := fun x => cjF r act (cjF r act f g) x) hn (L := formsTo r.sz) fun x hx => (hK2 _).mpr ⟨x, formsTo_mem.mp hx, rfl⟩
  rw [sum_const (c := cent r act (cjF r act f g)) fun h hh => ?_] at fs
  · exact fs
  · obtain ⟨u, hu, rfl⟩ := (hK2 h).mp hh
    exact cent_fiber hv m fh hu
theorem Lot.dvd (hv : Vd r) (m : Mdl r act) {K : List (List Nat)} (h : Lot r act K) : K.length ∣ (formsTo r.sz).length := by
  obtain ⟨f, hf, hK⟩ := h.ex
  have := cent_cj hv m hf hv.zero h.nd hK
  exact ⟨_, this.symm⟩
theorem Lot.sum (hv : Vd r) (m : Mdl r act) {K : List (List Nat)} (h : Lot r act K) : (K.map (cent r act)).sum = (formsTo r.sz).length := by
  obtain ⟨f, hf, hK⟩ := h.ex
  have e : ∀ x ∈ K, cent r act x = cent r act f := fun x hx => by
    obtain ⟨g, hg, rfl⟩ := (hK x).mp hx
    have e1 := cent_cj hv m hf hg h.nd hK
    have e2 := cent_cj hv m hf hv.zero h.nd hK
    rw [cj_zs hv m hf] at e2
    have lp : 0 < K.length := List.length_pos_of_mem hx
    exact Nat.eq_of_mul_eq_mul_left lp (e1.trans e2.symm)
  rw [sum_const e]
  have e2 := cent_cj hv m hf hv.zero h.nd hK
  rwa [cj_zs hv m hf] at e2
theorem lots_sum (hv : Vd r) (m : Mdl r act) : ∀ {Ls : List (List (List Nat))}, (∀ K ∈ Ls, Lot r act K) → (Ls.flatten.map (cent r act)).sum = Ls.length * (formsTo r.sz).length
  | [], _ => by simp
  | K :: Ls, h => by
    rw [List.flatten_cons, List.map_append, List.sum_append, (h K List.mem_cons_self).sum hv m, lots_sum hv m fun x hx => h x (List.mem_cons_of_mem _ hx), List.length_cons, Nat.succ_mul, Nat.add_comm]
end
end MP

namespace MP
open PySem L2
/-! lots: 0 rules, 1 table, 2 every, 3 seen, 4 found, 5 form, 6 lot, 7 other, 8 by -/
noncomputable def m_lots : M Fl :=
 (mSeq (mSet 1 (mMake "Table" f_Table___init__ (mConsA (mVar 0) mNilA)))
 (mSeq (mSet 2 (mCall f_forms_of (mConsA (mOp dIx (mVar 0) (mC (.int 0))) mNilA)))
 (mSeq (mSet 3 mNewD)
 (mSeq (mSet 4 (mRef (mLst mNilA)))
 (mSeq (mFor (mIt (mVar 2)) (gN 5)
 (mIf (mT (mOp dNotInA (mVar 5) (mVar 3)))
 (mSeq (mSet 6 (mLv (mCBN fSortSet (mConsA (mLv (mLc [8] (mIt (mVar 2)) (lcB1 8) mYes (mCall f_turned_by (mConsA (mVar 1) (mConsA (mVar 5) (mConsA (mVar 8) mNilA)))))) mNilA))))
 (mSeq (mFor (mIt (mVar 6)) (gN 7)
 (mAsg (mC (.bl true)) (gSubD fSetA (mVar 3) (mVar 7))))
 (mDo (mMt isL fAppend (mVar 4) (mConsA (mVar 6) mNilA)))))
 mSkip))
 (mRet (mVar 4)))))))
noncomputable def f_lots : Fn := trunc (mkFn 9 m_lots)
end MP

/-! R, part m: sorted lists of forms; all lots. -/
namespace MP
open PySem L2
def kwF : Kw (List Nat) where
  cd := nT
  nk := numK
  tk := fun l => by
    have d1 := depth_n (l := l)
    have e : keyN (.tup (l.map iD)) = some (numK l) := keyN_n
    unfold tupKey nT
    simp only [e]
    rw [if_pos (by omega)]
  inj := fun a b h => numK_inj h
theorem intsZ_n {f : List Nat} : intsZ (nT f) = some (f.map fun (x : Nat) => (x : Int)) := by
  have : (nT f) = .tup ((f.map fun (x : Nat) => (x : Int)).map D.int) := by simp [nT]
  rw [this]
  exact optAll_num
def codeN (f : List Nat) : Int := TS.code 1000 (f.map fun (x : Nat) => (x : Int))
theorem codeD_n {f : List Nat} : codeD (nT f) = codeN f := by
  unfold codeD
  rw [intsZ_n]
  rfl
theorem code_snoc {B x : Int} : ∀ {l : List Int}, TS.code B (l ++ [x]) = TS.code B l * B + x
  | [] => by
    show x * B ^ 0 + 0 = 0 * B + x
    rw [Int.pow_zero, Int.mul_one, Int.zero_mul, Int.add_zero, Int.zero_add]
  | d :: l => by
    show d * B ^ (l ++ [x]).length + TS.code B (l ++ [x]) = (d * B ^ l.length + TS.code B l) * B + x
    rw [code_snoc, List.length_append, List.length_cons, List.length_nil, Int.add_mul, Int.mul_assoc, ← Int.pow_succ, Int.add_assoc]
theorem codeN_snoc {f : List Nat} {x : Nat} : codeN (f ++ [x]) = codeN f * 1000 + (x : Int) := by
  unfold codeN
  rw [List.map_append]
  exact code_snoc
theorem codeN_lt {f g : List Nat} {x y : Nat} (h : codeN f < codeN g) (hx : x < 1000) : codeN (f ++ [x]) < codeN (g ++ [y]) := by
  rw [codeN_snoc, codeN_snoc]
  omega
theorem formsTo_rising : ∀ {l : List Nat}, (∀ s ∈ l, s < 1000) → (formsTo l).Pairwise fun f g => codeN f < codeN g := by
  intro l
  induction hk : l.length generalizing l with
  | zero =>
    intro _
    have := List.length_eq_zero_iff.mp hk
    subst this
    simp [formsTo]
  | succ k ih =>
    intro hl
    obtain ⟨u, s, rfl⟩ : ∃ u s, l = u ++ [s] := by
      rcases List.eq_nil_or_concat l with e | ⟨u, h, e⟩
      · rw [e] at hk
        cases hk
      · exact ⟨u, h, by simpa using e⟩
    have ih := ih (l := u) (by simpa using hk) fun x hx => hl x (by simp [hx])
    have hs := hl s (by simp)
    rw [formsTo_app]
    generalize formsTo u = L at ih
    induction L with
    | nil => simp
    | cons f L ihL =>
      rw [List.pairwise_cons] at ih
      rw [List.flatMap_cons, List.pairwise_append]
      refine ⟨?_, ihL ih.2, fun a ha b hb => ?_⟩
      · rw [List.pairwise_map]
        refine List.Pairwise.imp_of_mem ?_ (List.pairwise_lt_range (n := s))
        intro a b _ _ hab
        rw [codeN_snoc, codeN_snoc]
        omega
      · obtain ⟨x, hx, rfl⟩ := List.mem_map.mp ha
        obtain ⟨g, hg, hb⟩ := List.mem_flatMap.mp hb
        obtain ⟨y, _, rfl⟩ := List.mem_map.mp hb
        have := List.mem_range.mp hx
        exact codeN_lt (ih.1 g hg) (by omega)
section
variable {r : Ru} {S : Sto}
theorem forms_sorted (hv : Vd r) : ((formsTo r.sz).map nT).Pairwise LtD := by
  rw [List.pairwise_map]
  refine (formsTo_rising fun s hs => by have := hv.sz.lt s hs; omega).imp ?_
  intro a b h
  show codeD (nT a) < codeD (nT b)
  rw [codeD_n, codeD_n]
  exact h
theorem sort_forms (hv : Vd r) {l : List (List Nat)} (h : ∀ f ∈ l, Fm r f) (hl : l.length < 64) : SortOk (l.map nT) := by
  refine ⟨by simpa using hl, r.sz.length, List.length_pos_iff.mpr hv.sz.ne, fun x hx => ?_⟩
  obtain ⟨f, hf, rfl⟩ := List.mem_map.mp hx
  refine ⟨_, intsZ_n, by rw [List.length_map]; exact (h f hf).1, fun m hm => ?_⟩
  obtain ⟨y, hy, rfl⟩ := List.mem_map.mp hm
  have := (h f hf).le100 hv y hy
  omega
def unT : D → List Nat
  | .tup l => l.map fun d => (asInt d).toNat
  | _ => []
theorem unT_n {f : List Nat} : unT (nT f) = f := by
  simp [unT, nT, asInt, Function.comp_def]
/-- the set of some forms, sorted -/
theorem sortS_forms (hv : Vd r) {l : List (List Nat)} (h : ∀ f ∈ l, Fm r f) (hl : l.length < 64) {T : Sto} : ∃ K : List (List Nat), fSortSet [.lv (l.map nT)] T = some (K.map nT) ∧ K.Nodup ∧ ∀ f, f ∈ K ↔ f ∈ l := by
  have so := sort_forms hv h hl
  have inj : ∀ x ∈ l.map nT, ∀ y ∈ l.map nT, codeD x = codeD y → x = y := fun x hx y hy => so.inj hx hy
  have e0 : fSortSet [.lv (l.map nT)] T = some (sortS (l.map nT)) := by
    unfold fSortSet
    simp only [lstD]
    exact if_pos so
  have mem : ∀ z, z ∈ sortS (l.map nT) ↔ z ∈ l.map nT := fun z => sortS_mem inj
  have e1 : sortS (l.map nT) = ((sortS (l.map nT)).map unT).map nT := by
    rw [List.map_map]
    refine (map_id_of fun x hx => ?_).symm
    obtain ⟨f, _, rfl⟩ := List.mem_map.mp ((mem x).mp hx)
    show nT (unT (nT f)) = nT f
    rw [unT_n]
  refine ⟨(sortS (l.map nT)).map unT, by rw [e0, ← e1], ?_, fun f => ?_⟩
  · have st := sortS_sorted inj
    rw [e1, List.pairwise_map] at st
    rw [List.Nodup]
    refine st.imp ?_
    intro a b hab e
    subst e
    have : codeD (nT a) < codeD (nT a) := hab
    omega
  · constructor
    · intro hf
      obtain ⟨x, hx, rfl⟩ := List.mem_map.mp hf
      obtain ⟨g, hg, rfl⟩ := List.mem_map.mp ((mem x).mp hx)
      rw [unT_n]
      exact hg
    · intro hf
      exact List.mem_map.mpr ⟨nT f, (mem _).mpr (List.mem_map.mpr ⟨f, hf, rfl⟩), unT_n⟩
/-- all forms, in whatever order, sorted -/
theorem sortD_forms (hv : Vd r) {l : List (List Nat)} (h : l.Perm (formsTo r.sz)) (hl : l.length < 64) {T : Sto} : fSorted [.lv (l.map nT)] T = some ((formsTo r.sz).map nT) := by
  have so : SortOk (l.map nT) := sort_forms hv (fun f hf => formsTo_mem.mp (h.mem_iff.mp hf)) hl
  have e0 : fSorted [.lv (l.map nT)] T = some (sortD (l.map nT)) := by
    unfold fSorted
    simp only [lstD]
    exact if_pos so
  rw [e0]
  congr 1
  have p : (sortD (l.map nT)).Perm ((formsTo r.sz).map nT) := sortD_perm.trans (h.map nT)
  refine sorted_uniq p sortD_sorted ((forms_sorted hv).imp fun h => Int.le_of_lt h) fun x hx y hy => so.inj (sortD_perm.mem_iff.mp hx) (sortD_perm.mem_iff.mp hy)
end
/-! ### lots -/
def lotD (K : List (List Nat)) : D := .lv (K.map nT)
theorem low_lots {b : Nat} {Ls : List (List (List Nat))} : lowDs b (Ls.map lotD) = true := lowDs_iff.mpr fun x hx => by
  obtain ⟨K, _, rfl⟩ := List.mem_map.mp hx
  simp [lotD, lowD, low_nTs]
section
variable {r : Ru} {act : List Nat → Nat → List Nat} {S : Sto}
def seenO (L : List (List Nat)) : Ob := .dct (kwF.kv (fun _ => .bl true) L)
def lotS (S : Sto) (r : Ru) (o : Ob) (L : List (List Nat)) (Ls : List (List (List Nat))) : Sto := newT S r o ++ [seenO L, .lst (Ls.map lotD)]
theorem newT_len {o : Ob} : (newT S r o).length = S.length + 4 := by simp [newT]
theorem lotS_set {o b : Ob} {L : List (List Nat)} {Ls : List (List (List Nat))} : (lotS S r o L Ls).set (S.length + 3) b = lotS S r b L Ls := by
  unfold lotS
  rw [sto_slo (by rw [newT_len]; omega), newT_set]
theorem lotS_at {o : Ob} {L : List (List Nat)} {Ls : List (List (List Nat))} (h : Kn r act o) : TabAt (lotS S r o L Ls) S.length (S.length + 1) (S.length + 2) (S.length + 3) r act := (newT_at h).app
theorem lotS_4 {o : Ob} {L : List (List Nat)} {Ls : List (List (List Nat))} : (lotS S r o L Ls)[S.length + 4]? = some (seenO L) := by
  unfold lotS
  have := sto_at0 (S := newT S r o) (X := [seenO L, .lst (Ls.map lotD)])
  rw [newT_len] at this
  exact this
theorem lotS_5 {o : Ob} {L : List (List Nat)} {Ls : List (List (List Nat))} : (lotS S r o L Ls)[S.length + 5]? = some (.lst (Ls.map lotD)) := by
  unfold lotS
  have := sto_at (S := newT S r o) (X := [seenO L, .lst (Ls.map lotD)]) (j := 1)
  rw [newT_len] at this
  exact this
theorem lotS_s4 {o : Ob} {L L' : List (List Nat)} {Ls : List (List (List Nat))} : (lotS S r o L Ls).set (S.length + 4) (seenO L') = lotS S r o L' Ls := by
  unfold lotS
  have := sto_set0 (S := newT S r o) (X := [seenO L, .lst (Ls.map lotD)]) (o := seenO L')
  rw [newT_len] at this
  exact this
theorem lotS_s5 {o : Ob} {L : List (List Nat)} {Ls Ls' : List (List (List Nat))} : (lotS S r o L Ls).set (S.length + 5) (.lst (Ls'.map lotD)) = lotS S r o L Ls' := by
  unfold lotS
  have := sto_set (S := newT S r o) (X := [seenO L, .lst (Ls.map lotD)]) (j := 1) (o := .lst (Ls'.map lotD))
  rw [newT_len] at this
  exact this
theorem lots_ok (hv : Vd r) (m : Mdl r act) (hp : prodN r.sz < 64) : ∃ Ls : List (List (List Nat)), f_lots [ruD r] S = .ok (.lv (Ls.map lotD)) S ∧ (∀ K ∈ Ls, Lot r act K) ∧ Ls.flatten.Perm (formsTo r.sz) ∧ Ls.length ≤ 64 := by
  have len := hv.sz.len
  have hp' : prodN r.sz ≤ 64 := by omega
  have flen : (formsTo r.sz).length < 64 := by rw [formsTo_len]; exact hp
  obtain ⟨P, hP⟩ : ∃ P : D → Sto → Prop, ∀ x T, P x T ↔ x = .ref (S.length + 5) ∧ ∃ (o : Ob) (L : List (List Nat)) (Ls : List (List (List Nat))), T = lotS S r o L Ls ∧ (∀ K ∈ Ls, Lot r act K) ∧ Ls.flatten.Perm (formsTo r.sz) ∧ Ls.length ≤ 64 := ⟨_, fun _ _ => Iff.rfl⟩
  suffices hs : Ok (mkFn 9 m_lots [ruD r] S) P by
    obtain ⟨x, T, e, pp⟩ := hs.eq
    obtain ⟨rfl, o, L, Ls, rfl, h1, h2, h3⟩ := (hP _ _).mp pp
    refine ⟨Ls, ?_, h1, h2, h3⟩
    have e2 : lotS S r o L Ls = S ++ [.ins "Table" (tabF (S.length + 1) (S.length + 3)), .ins "Ways" (waysF r (S.length + 2)), .dct (swD r), o, seenO L, .lst (Ls.map lotD)] := by
      simp [lotS, newT]
    rw [e2] at e
    exact trunc_list (j := 5) e rfl low_lots
  rw [mkFn_ap]
  have mk := make_table (S := S) hv (ρ := [some (ruD r), none, none, none, none, none, none, none, none]) (a := mConsA (mVar 0) mNilA) (ok_eq (by simp))
  rw [mMake_ap] at mk
  simp at mk
  have fo : ∀ T, f_forms_of [nT r.sz] T = .ok (.lv ((formsTo r.sz).map nT)) T := fun T => hv.formsOk hp'
  have l4 : (newT S r (.dct [])).length = S.length + 4 := newT_len
  have e00 : newT S r (.dct []) ++ [Ob.dct [], Ob.lst []] = lotS S r (.dct []) [] [] := rfl
  have si : ∀ l T, seqIt T (.lv l) = some (l, []) := fun l T => rfl
  simp [m_lots, mk, ru_ix0, fo, l4, e00, si]
  obtain ⟨I, hI⟩ : ∃ I : Nat → Fr → Sto → Prop, ∀ i ρ T, I i ρ T ↔ (∃ (o : Ob) (Ls : List (List (List Nat))), Kn r act o ∧ T = lotS S r o Ls.flatten Ls ∧ (∀ K ∈ Ls, Lot r act K) ∧ Ls.flatten.Nodup ∧ (∀ x ∈ Ls.flatten, Fm r x) ∧ (∀ f ∈ (formsTo r.sz).take i, f ∈ Ls.flatten) ∧ Ls.length ≤ i) ∧ ∃ x5 x6 x7 x8, ρ = [some (ruD r), some (.ref S.length), some (.lv ((formsTo r.sz).map nT)), some (.ref (S.length + 4)), some (.ref (S.length + 5)), x5, x6, x7, x8] := ⟨_, fun _ _ _ => Iff.rfl⟩
  refine forL_ok I ((hI _ _ _).mpr ⟨⟨_, [], kn_nil, rfl, (fun K hK => (List.not_mem_nil hK).elim), by simp, (fun x hx => (List.not_mem_nil hx).elim), (fun f hf => by simp at hf), Nat.zero_le _⟩, _, _, _, _, rfl⟩) (fun i ρ T hK => gOk_nil) (fun i e ρ T he hK => ?_) (fun ρ T hK => ?_)
  · obtain ⟨⟨o, Ls, ko, rfl, hL, nd, fmL, all, ll⟩, x5, x6, x7, x8, rfl⟩ := (hI _ _ _).mp hK
    rw [List.getElem?_map] at he
    obtain ⟨f, hf, rfl⟩ := Option.map_eq_some_iff.mp he
    have ff : Fm r f := formsTo_mem.mp (List.mem_of_getElem? hf)
    have hi := (List.getElem?_eq_some_iff.mp hf).1
    have nx : ∀ g, g ∈ (formsTo r.sz).take (i + 1) → g ∈ (formsTo r.sz).take i ∨ g = f := fun g hg => by
      rw [List.take_add_one, hf, List.mem_append] at hg
      rcases hg with hg | hg
      · exact .inl hg
      · exact .inr (by simpa using hg)
    have s4 : ∀ {o L Ls}, (lotS S r o L Ls)[S.length + 4]? = some (.dct (kwF.kv (fun _ => .bl true) L)) := fun {o L Ls} => lotS_4
    by_cases hin : f ∈ Ls.flatten
    · have ni : dNotInA (nT f) (.ref (S.length + 4)) (lotS S r o Ls.flatten Ls) = some (.bl false) := Kw.notin_f (K := kwF) (a := f) s4 hin
      simp [ni]
      refine (hI _ _ _).mpr ⟨⟨o, Ls, ko, rfl, hL, nd, fmL, fun g hg => ?_, by omega⟩, _, _, _, _, rfl⟩
      rcases nx g hg with h | rfl
      · exact all g h
      · exact hin
    · have ni : dNotInA (nT f) (.ref (S.length + 4)) (lotS S r o Ls.flatten Ls) = some (.bl true) := Kw.notin_t (K := kwF) (a := f) s4 hin
      -- the list of turned forms
      have lc : ∀ x6 x7, Ok (lcGo [] (lcB1 8) mYes (mCall f_turned_by (mConsA (mVar 1) (mConsA (mVar 5) (mConsA (mVar 8) mNilA)))) [some (ruD r), some (.ref S.length), some (.lv ((formsTo r.sz).map nT)), some (.ref (S.length + 4)), some (.ref (S.length + 5)), some (nT f), x6, x7, none] ((formsTo r.sz).map nT) (lotS S r o Ls.flatten Ls)) fun l T => ∃ o', Kn r act o' ∧ T = lotS S r o' Ls.flatten Ls ∧ l = ((formsTo r.sz).map fun g => cjF r act f g).map nT := fun x6 x7 => by
        obtain ⟨J, hJ⟩ : ∃ J : Nat → List D → Sto → Prop, ∀ j l T, J j l T ↔ ∃ o', Kn r act o' ∧ T = lotS S r o' Ls.flatten Ls ∧ l = (((formsTo r.sz).take j).map fun g => cjF r act f g).map nT := ⟨_, fun _ _ _ => Iff.rfl⟩
        refine lcGo_ok J ((hJ _ _ _).mpr ⟨o, ko, rfl, by simp⟩) (fun i l S' hJ => gOk_nil) (fun j d l T hd hJ2 => ?_) (fun l T hJ2 => ?_)
        · obtain ⟨o', ko', rfl, rfl⟩ := (hJ _ _ _).mp hJ2
          rw [List.getElem?_map] at hd
          obtain ⟨g, hg, rfl⟩ := Option.map_eq_some_iff.mp hd
          have fg : Fm r g := formsTo_mem.mp (List.mem_of_getElem? hg)
          obtain ⟨b, kb, eb⟩ := turnedT_ok hv m hp' (lotS_at (S := S) (L := Ls.flatten) (Ls := Ls) ko') ff fg (ivF_ok hv m fg)
          rw [lotS_set] at eb
          refine ⟨_, rfl, ?_⟩
          simp [eb]
          refine (hJ _ _ _).mpr ⟨b, kb, rfl, ?_⟩
          rw [List.take_add_one, hg]
          simp [cjF]
        · have := (hJ _ _ _).mp hJ2
          rwa [List.length_map, List.take_length] at this
      have gl : (formsTo r.sz).length ≤ 1000000 := by omega
      simp [ni, si, gl]
      refine (lc x6 x7).imp ?_
      rintro _ _ ⟨o', ko', rfl, rfl⟩
      obtain ⟨K, eK, nK, mK⟩ := sortS_forms hv (l := (formsTo r.sz).map fun g => cjF r act f g) (fun h hh => by
        obtain ⟨g, hg, rfl⟩ := List.mem_map.mp hh
        exact cj_fm hv m ff (formsTo_mem.mp hg)) (by rw [List.length_map]; exact flen) (T := lotS S r o' Ls.flatten Ls)
      have mK2 : ∀ h, h ∈ K ↔ ∃ g, Fm r g ∧ cjF r act f g = h := fun h => by
        rw [mK, List.mem_map]
        exact ⟨fun ⟨g, hg, e⟩ => ⟨g, formsTo_mem.mp hg, e⟩, fun ⟨g, hg, e⟩ => ⟨g, formsTo_mem.mpr hg, e⟩⟩
      have lotK : Lot r act K := ⟨nK, f, ff, mK2⟩
      have fmK : ∀ h ∈ K, Fm r h := fun h hh => by
        obtain ⟨g, hg, rfl⟩ := (mK2 h).mp hh
        exact cj_fm hv m ff hg
      have dis : ∀ h ∈ K, h ∉ Ls.flatten := fun h hh hl => by
        obtain ⟨K', hK', hl⟩ := List.mem_flatten.mp hl
        obtain ⟨f', ff', mK'⟩ := (hL K' hK').ex
        obtain ⟨g, hg, e1⟩ := (mK2 h).mp hh
        obtain ⟨g', hg', e2⟩ := (mK' h).mp hl
        apply hin
        refine List.mem_flatten.mpr ⟨K', hK', (mK' f).mpr ⟨mulF act g' (ivF r act g), m.mul_fm hg' (ivF_fm hv m hg), ?_⟩⟩
        rw [← cj_cj hv m ff' hg' (ivF_fm hv m hg), e2, ← e1, cj_back hv m ff hg]
      have eK' : fSortSet [.lv (List.map (nT ∘ fun g => cjF r act f g) (formsTo r.sz))] (lotS S r o' Ls.flatten Ls) = some (K.map nT) := by rw [← eK, List.map_map]
      simp only [List.map_map] at eK
      simp [eK, si]
      obtain ⟨J, hJ⟩ : ∃ J : Nat → Fr → Sto → Prop, ∀ j ρ T, J j ρ T ↔ T = lotS S r o' (Ls.flatten ++ K.take j) Ls ∧ ∃ x7 x8, ρ = [some (ruD r), some (.ref S.length), some (.lv ((formsTo r.sz).map nT)), some (.ref (S.length + 4)), some (.ref (S.length + 5)), some (nT f), some (.lv (K.map nT)), x7, x8] := ⟨_, fun _ _ _ => Iff.rfl⟩
      refine forL_ok J ((hJ _ _ _).mpr ⟨by simp, _, _, rfl⟩) (fun i ρ T hK => gOk_nil) (fun j e ρ T he hJ2 => ?_) (fun ρ T hJ2 => ?_)
      · obtain ⟨rfl, y7, y8, rfl⟩ := (hJ _ _ _).mp hJ2
        rw [List.getElem?_map] at he
        obtain ⟨h, hh, rfl⟩ := Option.map_eq_some_iff.mp he
        have hj := (List.getElem?_eq_some_iff.mp hh).1
        have hm := List.mem_of_getElem? hh
        have fresh : h ∉ Ls.flatten ++ K.take j := fun hx => by
          rcases List.mem_append.mp hx with hx | hx
          · exact dis h hm hx
          · have nd2 := nK
            rw [← List.take_append_drop j K, List.nodup_append] at nd2
            refine nd2.2.2 h hx h ?_ rfl
            rw [List.drop_eq_getElem_cons hj]
            have : K[j] = h := (List.getElem?_eq_some_iff.mp hh).2
            rw [this]
            exact List.mem_cons_self
        have lf : (Ls.flatten ++ K.take j).length < 1000000 := by
          have h1 : Ls.flatten.length ≤ (formsTo r.sz).length := sub_len nd fun x hx => formsTo_mem.mpr (fmL x hx)
          have h2 : K.length ≤ (formsTo r.sz).length := sub_len nK fun x hx => formsTo_mem.mpr (fmK x hx)
          rw [List.length_append, List.length_take]
          omega
        have st : fSetA (.ref (S.length + 4)) (nT h) (.bl true) (lotS S r o' (Ls.flatten ++ K.take j) Ls) = some (List.set (lotS S r o' (Ls.flatten ++ K.take j) Ls) (S.length + 4) (seenO (Ls.flatten ++ K.take j ++ [h]))) := Kw.set (K := kwF) (V := fun _ => .bl true) (a := h) s4 fresh lf
        rw [lotS_s4] at st
        simp [st]
        refine (hJ _ _ _).mpr ⟨?_, _, _, rfl⟩
        rw [List.take_add_one, hh]
        simp
      · obtain ⟨rfl, y7, y8, rfl⟩ := (hJ _ _ _).mp hJ2
        rw [List.length_map, List.take_length]
        have il : isL (.ref (S.length + 5)) (lotS S r o' (Ls.flatten ++ K) Ls) = true := isL_ref lotS_5
        have ap : fAppend (.ref (S.length + 5)) [.lv (K.map nT)] (lotS S r o' (Ls.flatten ++ K) Ls) = some (.non, lotS S r o' (Ls.flatten ++ K) (Ls ++ [K])) := by
          rw [fAppend_ref lotS_5 (by rw [List.length_map]; omega)]
          have : (Ls.map lotD ++ [D.lv (K.map nT)]) = (Ls ++ [K]).map lotD := by simp [lotD]
          rw [this, lotS_s5]
        simp [il, ap]
        refine (hI _ _ _).mpr ⟨⟨o', Ls ++ [K], ko', by simp, fun K' hK' => ?_, ?_, fun x hx => ?_, fun g hg => ?_, by simp; omega⟩, _, _, _, _, rfl⟩
        · rcases List.mem_append.mp hK' with h | h
          · exact hL K' h
          · rw [List.mem_singleton.mp h]; exact lotK
        · rw [List.flatten_append, List.nodup_append]
          refine ⟨nd, by simpa using nK, ?_⟩
          rintro a ha b hb rfl
          exact dis a (by simpa using hb) ha
        · rw [List.flatten_append, List.mem_append] at hx
          rcases hx with h | h
          · exact fmL x h
          · exact fmK x (by simpa using h)
        · rw [List.flatten_append, List.mem_append]
          rcases nx g hg with h | rfl
          · exact .inl (all g h)
          · exact .inr (by simpa using (mK2 g).mpr ⟨zs r.sz.length, hv.zero, cj_zs hv m ff⟩)
  · obtain ⟨⟨o, Ls, ko, rfl, hL, nd, fmL, all, ll⟩, x5, x6, x7, x8, rfl⟩ := (hI _ _ _).mp hK
    rw [List.length_map, List.take_length] at all
    rw [List.length_map] at ll
    simp
    refine (hP _ _).mpr ⟨rfl, o, _, Ls, rfl, hL, ?_, by omega⟩
    exact perm_of_mem nd formsTo_nodup fun x => ⟨fun hx => formsTo_mem.mpr (fmL x hx), all x⟩
end
end MP

namespace MP
open PySem L2
/-! _law_often_right: 0 _law_rules_here, 1 _law_form_here, 2 _law_few, 3 _law_more, 4 _law_order -/
noncomputable def m_law_often_right : M Fl :=
 (mSeq (mIf (mT (mOp dNe (mCall f_taken (mConsA (mVar 0) (mConsA (mCall f_so_often (mConsA (mVar 0) (mConsA (mVar 1) (mConsA (mVar 2) mNilA)))) (mConsA (mCall f_so_often (mConsA (mVar 0) (mConsA (mVar 1) (mConsA (mVar 3) mNilA)))) mNilA)))) (mCall f_so_often (mConsA (mVar 0) (mConsA (mVar 1) (mConsA (mOp dAdd (mVar 2) (mVar 3)) mNilA))))))
 (mRet (mC (.bl false)))
 mSkip)
 (mSeq (mSet 4 (mCall f_order_of (mConsA (mVar 0) (mConsA (mVar 1) mNilA))))
 (mRet (mAndV (mNotV (mCB fAny (mConsA (mCall f_so_often (mConsA (mVar 0) (mConsA (mVar 1) (mConsA (mVar 4) mNilA)))) mNilA))) (mOp dEq (mOp dMod (mCB fLen (mConsA (mCall f_all_forms (mConsA (mVar 0) mNilA)) mNilA)) (mVar 4)) (mC (.int 0)))))))
noncomputable def f_law_often_right : Fn := trunc (mkFn 5 m_law_often_right)
/-! _law_lots_right: 0 _law_rules_here, 1 _law_every, 2 _law_some, 3 _law_there, 4 _law_lot, 5 _law_pairs_here, 6 _law_one, 7 _law_other -/
noncomputable def m_law_lots_right : M Fl :=
 (mSeq (mSet 1 (mCall f_all_forms (mConsA (mVar 0) mNilA)))
 (mSeq (mSet 2 (mCall f_lots (mConsA (mVar 0) mNilA)))
 (mSeq (mSet 3 (mLv (mLst mNilA)))
 (mSeq (mFor (mIt (mVar 2)) (gN 4)
 (mSeq (mSet 3 (mOp dAdd (mVar 3) (mVar 4)))
 (mIf (mT (mOp dNe (mOp dMod (mCB fLen (mConsA (mVar 1) mNilA)) (mCB fLen (mConsA (mVar 4) mNilA))) (mC (.int 0))))
 (mRet (mC (.bl false)))
 mSkip)))
 (mSeq (mIf (mT (mOp dNe (mLv (mCBN fSorted (mConsA (mVar 3) mNilA))) (mVar 1)))
 (mRet (mC (.bl false)))
 mSkip)
 (mSeq (mSet 5 (mC (.int 0)))
 (mSeq (mFor (mIt (mVar 1)) (gN 6)
 (mSet 5 (mOp dAdd (mVar 5) (mCB fLen (mConsA (mLv (mLc [7] (mIt (mVar 1)) (lcB1 7) (mT (mCall f_go_together (mConsA (mVar 0) (mConsA (mVar 6) (mConsA (mVar 7) mNilA))))) (mVar 7))) mNilA)))))
 (mRet (mOp dEq (mVar 5) (mOp dMul (mCB fLen (mConsA (mVar 2) mNilA)) (mCB fLen (mConsA (mVar 1) mNilA))))))))))))
noncomputable def f_law_lots_right : Fn := trunc (mkFn 8 m_law_lots_right)
/-! _law_three_right: 0 _law_rules_here, 1 _law_one, 2 _law_other, 3 _law_third, 4 _law_together -/
noncomputable def m_law_three_right : M Fl :=
 (mSeq (mIf (mT (mOp dNe (mCall f_taken (mConsA (mVar 0) (mConsA (mCall f_taken (mConsA (mVar 0) (mConsA (mVar 1) (mConsA (mVar 2) mNilA)))) (mConsA (mVar 3) mNilA)))) (mCall f_taken (mConsA (mVar 0) (mConsA (mVar 1) (mConsA (mCall f_taken (mConsA (mVar 0) (mConsA (mVar 2) (mConsA (mVar 3) mNilA)))) mNilA))))))
 (mRet (mC (.bl false)))
 mSkip)
 (mSeq (mIf (mOrT (mT (mCB fAny (mConsA (mCall f_taken (mConsA (mVar 0) (mConsA (mVar 1) (mConsA (mCall f_undone (mConsA (mVar 0) (mConsA (mVar 1) mNilA))) mNilA)))) mNilA))) (mT (mOp dNe (mCall f_undone (mConsA (mVar 0) (mConsA (mCall f_undone (mConsA (mVar 0) (mConsA (mVar 1) mNilA))) mNilA))) (mVar 1))))
 (mRet (mC (.bl false)))
 mSkip)
 (mSeq (mIf (mT (mOp dNe (mCall f_turned (mConsA (mVar 0) (mConsA (mCall f_turned (mConsA (mVar 0) (mConsA (mVar 1) (mConsA (mVar 2) mNilA)))) (mConsA (mVar 3) mNilA)))) (mCall f_turned (mConsA (mVar 0) (mConsA (mVar 1) (mConsA (mCall f_taken (mConsA (mVar 0) (mConsA (mVar 2) (mConsA (mVar 3) mNilA)))) mNilA))))))
 (mRet (mC (.bl false)))
 mSkip)
 (mSeq (mSet 4 (mCall f_go_together (mConsA (mVar 0) (mConsA (mVar 1) (mConsA (mVar 2) mNilA)))))
 (mSeq (mIf (mOrT (mT (mOp dEq (mVar 4) (mCB fAny (mConsA (mCall f_meet (mConsA (mVar 0) (mConsA (mVar 1) (mConsA (mVar 2) mNilA)))) mNilA)))) (mT (mOp dNe (mVar 4) (mOp dEq (mCall f_turned (mConsA (mVar 0) (mConsA (mVar 1) (mConsA (mVar 2) mNilA)))) (mVar 1)))))
 (mRet (mC (.bl false)))
 mSkip)
 (mRet (mOp dEq (mCall f_order_of (mConsA (mVar 0) (mConsA (mCall f_turned (mConsA (mVar 0) (mConsA (mVar 1) (mConsA (mVar 2) mNilA)))) mNilA))) (mCall f_order_of (mConsA (mVar 0) (mConsA (mVar 1) mNilA))))))))))
noncomputable def f_law_three_right : Fn := trunc (mkFn 5 m_law_three_right)
/-! law: 0 _law_script, 1 _law_k, 2 _law_state_here, 3 _law_rules_here, 4 _law_one, 5 _law_other, 6 _law_third, 7 _law_number -/
noncomputable def m_law_k25 : M Fl :=
 (mSeq (mFor (mItR (mConsA (mCB fMax2 (mConsA (mC (.int 1)) (mConsA (mCB fMin2 (mConsA (mCB fLen (mConsA (mVar 0) mNilA)) (mConsA (mC (.int 3)) mNilA))) mNilA))) mNilA)) (gN 1)
 (mSeq (mSet 2 (mCall f_law_state (mConsA (mVar 0) (mConsA (mVar 1) mNilA))))
 (mSeq (mSet 3 (mCall f_law_rules (mConsA (mVar 2) (mConsA (mOp dIx (mLv (mLst (mConsA (mC (.int 16)) (mConsA (mC (.int 12)) (mConsA (mC (.int 24)) mNilA))))) (mCall f_law_take (mConsA (mVar 2) (mConsA (mC (.int 3)) mNilA)))) mNilA))))
 (mSeq (mAsg (mLv (mLc [7] (mItR (mConsA (mC (.int 3)) mNilA)) (lcB1 7) mYes (mCall f_law_form (mConsA (mVar 2) (mConsA (mVar 3) mNilA))))) (gTupL 3 (gConsD (gN 4) (gConsD (gN 5) (gConsD (gN 6) gNilD)))))
 (mSeq (mIf (mNotT (mT (mCall f_law_three_right (mConsA (mVar 3) (mConsA (mVar 4) (mConsA (mVar 5) (mConsA (mVar 6) mNilA)))))))
 (mRet (mC (.bl false)))
 mSkip)
 (mSeq (mIf (mNotT (mT (mCall f_law_often_right (mConsA (mVar 3) (mConsA (mVar 4) (mConsA (mOp dSub (mCall f_law_take (mConsA (mVar 2) (mConsA (mC (.int 41)) mNilA))) (mC (.int 20))) (mConsA (mOp dSub (mCall f_law_take (mConsA (mVar 2) (mConsA (mC (.int 41)) mNilA))) (mC (.int 20))) mNilA)))))))
 (mRet (mC (.bl false)))
 mSkip)
 (mIf (mNotT (mT (mCall f_law_lots_right (mConsA (mVar 3) mNilA))))
 (mRet (mC (.bl false)))
 mSkip)))))))
 (mRet (mC (.bl true))))
noncomputable def f_law_k25 : Fn := mkFn 8 m_law_k25
end MP

namespace MP
open PySem L2
section
variable {r : Ru} {act : List Nat → Nat → List Nat} {S : Sto} {f g h : List Nat}
theorem turnedC_ok (hv : Vd r) (m : Mdl r act) (hp : prodN r.sz ≤ 64) (hf : Fm r f) (hg : Fm r g) : f_turned [ruD r, nT f, nT g] S = .ok (nT (cjF r act f g)) S := turnedP_ok hv m hp hf hg (ivF_ok hv m hg)
theorem undoneC_ok (hv : Vd r) (m : Mdl r act) (hp : prodN r.sz ≤ 64) (hf : Fm r f) : f_undone [ruD r, nT f] S = .ok (nT (ivF r act f)) S := by
  obtain ⟨o, ho, e⟩ := (ivF_ok hv m hf).ord
  rw [e]
  exact undoneP_ok hv m hp hf ho
theorem dEq_bb' {a b : Bool} {T : Sto} : dEq (.bl a) (.bl b) T = some (.bl (a == b)) := by
  simp only [dEq, dEqB, pd, PyData.eqv, Option.map_some]
theorem dNe_bb' {a b : Bool} {T : Sto} : dNe (.bl a) (.bl b) T = some (.bl (!(a == b))) := by
  simp only [dNe, dEqB, pd, PyData.eqv, Option.map_some]
theorem three_ok (hv : Vd r) (m : Mdl r act) (hp : prodN r.sz ≤ 64) (hf : Fm r f) (hg : Fm r g) (hh : Fm r h) : f_law_three_right [ruD r, nT f, nT g, nT h] S = .ok (.bl true) S := by
  refine trunc_eq0 (ok_eq ?_) rfl
  rw [mkFn_ap]
  have fg := m.mul_fm hf hg
  have gh := m.mul_fm hg hh
  have cfg := cj_fm hv m hf hg
  have fi := ivF_fm hv m hf
  obtain ⟨o, ho⟩ := m.order hv hf
  have t1 := takenP_ok (S := S) hv m hp hf hg
  have t2 := takenP_ok (S := S) hv m hp fg hh
  have t3 := takenP_ok (S := S) hv m hp hg hh
  have t4 := takenP_ok (S := S) hv m hp hf gh
  rw [← m.mul_assoc hv hf hg hh] at t4
  have t5 := undoneC_ok (S := S) hv m hp hf
  have t6 := takenP_ok (S := S) hv m hp hf fi
  rw [iv_r hv m hf] at t6
  have t7 := undoneC_ok (S := S) hv m hp fi
  rw [iv_iv hv m hf] at t7
  have t8 := turnedC_ok (S := S) hv m hp hf hg
  have t9 := turnedC_ok (S := S) hv m hp cfg hh
  rw [cj_cj hv m hf hg hh] at t9
  have ta := turnedC_ok (S := S) hv m hp hf gh
  have tb := goP_ok (S := S) hv m hp hf hg
  have tc := meetP_ok (S := S) hv m hp hf hg (ivF_ok hv m hg) (ivF_ok hv m hf)
  have ec : mulF act (ivF r act f) (mulF act (mulF act (ivF r act g) f) g) = mulF act (ivF r act f) (cjF r act f g) := rfl
  rw [ec] at tc
  have az := any_fm (T := S) hv.zero
  have am := any_fm (T := S) (m.mul_fm fi cfg)
  have td := order_ok (S := S) hv m hp hf ho
  have te := order_ok (S := S) hv m hp cfg (ho.cj hv m hf hg)
  have i1 := meet_zs hv m hf hg
  have i2 := cj_fix hv m hf hg
  by_cases c : mulF act f g = mulF act g f
  · have e1 := i1.mpr c
    have e2 := i2.mpr c
    rw [e1] at tc
    rw [e2] at t8 te t9
    rw [decide_eq_true c] at tb
    have az' : fAny [nT (zs r.sz.length)] S = some (.bl false) := by rw [az]; simp
    simp [m_law_three_right, t1, t2, t3, t4, t5, t6, t7, t8, t9, ta, tb, tc, az', td, te, dNe_n, dEq_n, dEq_bb', dNe_bb']
  · have e1 : ¬ mulF act (ivF r act f) (cjF r act f g) = zs r.sz.length := fun e => c (i1.mp e)
    have e2 : ¬ cjF r act f g = f := fun e => c (i2.mp e)
    rw [decide_eq_false c] at tb
    have az' : fAny [nT (zs r.sz.length)] S = some (.bl false) := by rw [az]; simp
    rw [decide_eq_true e1] at am
    simp [m_law_three_right, t1, t2, t3, t4, t5, t6, t7, t8, t9, ta, tb, tc, az', am, td, te, dNe_n, dEq_n, dEq_bb', dNe_bb', e2]
theorem often2_ok (hv : Vd r) (m : Mdl r act) (hp : prodN r.sz ≤ 64) (hf : Fm r f) (a b : Int) : f_law_often_right [ruD r, nT f, .int a, .int b] S = .ok (.bl true) S := by
  refine trunc_eq0 (ok_eq ?_) rfl
  rw [mkFn_ap]
  obtain ⟨o, ho⟩ := m.order hv hf
  have op := ho.pos
  have s1 := often_ok (S := S) (i := a) hv m hp hf ho
  have s2 := often_ok (S := S) (i := b) hv m hp hf ho
  have s3 := often_ok (S := S) (i := a + b) hv m hp hf ho
  have s4 := often_ok (S := S) (i := (o : Int)) hv m hp hf ho
  rw [Int.emod_self] at s4
  have e0 : pwr r act f (Int.toNat 0) = zs r.sz.length := rfl
  rw [e0] at s4
  have t1 := takenP_ok (S := S) hv m hp (m.pwr_fm hv hf (a % (o : Int)).toNat) (m.pwr_fm hv hf (b % (o : Int)).toNat)
  rw [ho.add hv m hf] at t1
  have az := any_fm (T := S) hv.zero
  have az' : fAny [nT (zs r.sz.length)] S = some (.bl false) := by rw [az]; simp
  have od := order_ok (S := S) hv m hp hf ho
  have af := allforms_ok (S := S) hv m hp
  have dv := order_dvd hv m hf ho
  have dm : ((formsTo r.sz).length : Int) % (o : Int) = 0 := by
    have := Nat.mod_eq_zero_of_dvd dv
    omega
  have o0 : (0 : Int) < (o : Int) := by omega
  simp [m_law_often_right, s1, s2, s3, s4, t1, az', od, af, dNe_n, op, dm]
theorem lotsR_ok (hv : Vd r) (m : Mdl r act) (hp : prodN r.sz < 64) : f_law_lots_right [ruD r] S = .ok (.bl true) S := by
  have hp' : prodN r.sz ≤ 64 := by omega
  refine trunc_eq0 (ok_eq ?_) rfl
  rw [mkFn_ap]
  obtain ⟨P, hP⟩ : ∃ P : D → Sto → Prop, ∀ x T, P x T ↔ x = .bl true ∧ T = S := ⟨_, fun _ _ => Iff.rfl⟩
  suffices hs : Ok ((m_law_lots_right ([ruD r].map some ++ List.replicate (8 - [ruD r].length) none) S).bind fun f S1 => match f with
      | .nx _ => .ok .non S1
      | .rt d => .ok d S1
      | _ => .bad) P from hs.imp fun a T q => (hP _ _).mp q
  have af := allforms_ok (S := S) hv m hp'
  obtain ⟨Ls, el, hL, pm, ll⟩ := lots_ok (S := S) hv m hp
  have fl : (formsTo r.sz).length < 64 := by rw [formsTo_len]; exact hp
  have fpos : 0 < (formsTo r.sz).length := List.length_pos_of_mem (formsTo_mem.mpr hv.zero)
  have si : ∀ l T, seqIt T (.lv l) = some (l, []) := fun l T => rfl
  have flat : ∀ i, (Ls.take i).flatten.length ≤ (formsTo r.sz).length := fun i => by
    rw [← pm.length_eq]
    conv => rhs; rw [← List.take_append_drop i Ls, List.flatten_append, List.length_append]
    omega
  obtain ⟨FL, hFL⟩ : ∃ FL : Nat → List (List Nat), ∀ i, FL i = (Ls.take i).flatten := ⟨_, fun _ => rfl⟩
  have f0 : FL 0 = [] := by rw [hFL]; rfl
  simp [m_law_lots_right, af, el, si]
  obtain ⟨I, hI⟩ : ∃ I : Nat → Fr → Sto → Prop, ∀ i ρ T, I i ρ T ↔ T = S ∧ ∃ x4 x5 x6 x7, ρ = [some (ruD r), some (.lv ((formsTo r.sz).map nT)), some (.lv (Ls.map lotD)), some (.lv ((FL i).map nT)), x4, x5, x6, x7] := ⟨_, fun _ _ _ => Iff.rfl⟩
  refine forL_ok I ((hI _ _ _).mpr ⟨rfl, _, _, _, _, by rw [f0]; rfl⟩) (fun i ρ T hK => gOk_nil) (fun i e ρ T he hK => ?_) (fun ρ T hK => ?_)
  · obtain ⟨rfl, x4, x5, x6, x7, rfl⟩ := (hI _ _ _).mp hK
    rw [List.getElem?_map] at he
    obtain ⟨K, hK, rfl⟩ := Option.map_eq_some_iff.mp he
    have lot := hL K (List.mem_of_getElem? hK)
    obtain ⟨f0, ff0, mK⟩ := lot.ex
    have kp : 0 < K.length := List.length_pos_of_mem ((mK f0).mpr ⟨_, hv.zero, cj_zs hv m ff0⟩)
    have dm : ((formsTo r.sz).length : Int) % (K.length : Int) = 0 := by
      have := Nat.mod_eq_zero_of_dvd (lot.dvd hv m)
      omega
    have nx : FL (i + 1) = FL i ++ K := by
      rw [hFL, hFL, List.take_add_one, hK]
      simp
    have l1 := flat (i + 1)
    rw [← hFL, nx, List.length_append] at l1
    have ad : dAdd (.lv ((FL i).map nT)) (.lv (K.map nT)) T = some (.lv ((FL (i + 1)).map nT)) := by
      rw [dAdd_l (by simp only [List.length_map]; omega), nx, List.map_append]
    simp [lotD, ad, kp, dm]
    exact (hI _ _ _).mpr ⟨rfl, _, _, _, _, rfl⟩
  · obtain ⟨rfl, x4, x5, x6, x7, rfl⟩ := (hI _ _ _).mp hK
    rw [List.length_map]
    have pm2 : (FL Ls.length).Perm (formsTo r.sz) := by rw [hFL, List.take_length]; exact pm
    have so := sortD_forms hv (T := T) pm2 (by rw [pm2.length_eq]; exact fl)
    simp [so, dNe_lvlv, si]
    obtain ⟨J, hJ⟩ : ∃ J : Nat → Fr → Sto → Prop, ∀ j ρ T', J j ρ T' ↔ T' = T ∧ ∃ x3 x4 x6 x7, ρ = [some (ruD r), some (.lv ((formsTo r.sz).map nT)), some (.lv (Ls.map lotD)), x3, x4, some (.int (((((formsTo r.sz).take j).map (cent r act)).sum : Nat) : Int)), x6, x7] := ⟨_, fun _ _ _ => Iff.rfl⟩
    refine forL_ok J ((hJ _ _ _).mpr ⟨rfl, _, _, _, _, rfl⟩) (fun i ρ T hK => gOk_nil) (fun j e ρ T' he hJ2 => ?_) (fun ρ T' hJ2 => ?_)
    · obtain ⟨rfl, y3, y4, y6, y7, rfl⟩ := (hJ _ _ _).mp hJ2
      rw [List.getElem?_map] at he
      obtain ⟨f, hf, rfl⟩ := Option.map_eq_some_iff.mp he
      have ff : Fm r f := formsTo_mem.mp (List.mem_of_getElem? hf)
      have lc : ∀ x3 x4 x5, lcGo [] (lcB1 7) (mT (mCall f_go_together (mConsA (mVar 0) (mConsA (mVar 6) (mConsA (mVar 7) mNilA))))) (mVar 7) [some (ruD r), some (.lv ((formsTo r.sz).map nT)), some (.lv (Ls.map lotD)), x3, x4, x5, some (nT f), none] ((formsTo r.sz).map nT) T' = .ok (((formsTo r.sz).filter fun g => decide (mulF act f g = mulF act g f)).map nT) T' := fun x3 x4 x5 => by
        rw [lcGo_filter (fun d => decide (mulF act f (unT d) = mulF act (unT d) f)) id gOk_nil (fun d hd => ?_)]
        · congr 1
          rw [List.map_id, List.filter_map]
          congr 1
          refine List.filter_congr fun g hg => ?_
          simp [unT_n]
        · obtain ⟨g, hg, rfl⟩ := List.mem_map.mp hd
          have fg := formsTo_mem.mp hg
          refine ⟨_, rfl, ?_, fun _ => rfl⟩
          refine ok_eq ?_
          simp [goP_ok hv m hp' ff fg, unT_n]
      have gl : (formsTo r.sz).length ≤ 1000000 := by omega
      simp [lc, gl]
      refine (hJ _ _ _).mpr ⟨rfl, y3, y4, some (nT f), y7, ?_⟩
      rw [List.take_add_one, hf]
      simp [cent, List.countP_eq_length_filter]
    · obtain ⟨rfl, y3, y4, y6, y7, rfl⟩ := (hJ _ _ _).mp hJ2
      rw [List.length_map, List.take_length]
      have e1 : ((formsTo r.sz).map (cent r act)).sum = Ls.length * (formsTo r.sz).length := by
        rw [← lots_sum hv m hL]
        exact sum_perm (pm.symm.map _)
      have ml : dMul (.int (Ls.length : Int)) (.int ((formsTo r.sz).length : Int)) T' = some (.int ((Ls.length : Int) * ((formsTo r.sz).length : Int))) := dMul_l (by omega) (by omega)
      have e2 : ((((formsTo r.sz).map (cent r act)).sum : Nat) : Int) = (Ls.length : Int) * ((formsTo r.sz).length : Int) := by rw [e1, Int.natCast_mul]
      simp [ml, e2]
      exact (hP _ _).mpr ⟨rfl, rfl⟩
end
theorem law_ok_k25 : LawOk f_law_k25 := fun ns hns => by
  suffices hs : Ok (f_law_k25 [.ro (ns.map D.int)] []) (fun d _ => d = .bl true) by
    obtain ⟨d, S, e, rfl⟩ := hs.eq
    exact ⟨S, e⟩
  unfold f_law_k25
  rw [mkFn_ap]
  have r1 : rangeIt [.int (max 1 (min (ns.length : Int) 3))] = some (rangeD 0 (max 1 (min ns.length 3)), []) := by
    have := range_is (n := max 1 (min ns.length 3)) (by omega)
    rw [← this]
    congr 3
    omega
  have r3 : rangeIt [.int 3] = some (rangeD 0 3, []) := range_is (n := 3) (by omega)
  simp [m_law_k25, r1]
  obtain ⟨I, hI⟩ : ∃ I : Nat → Fr → Sto → Prop, ∀ i ρ S', I i ρ S' ↔ ∃ x1 x2 x3 x4 x5 x6 x7, ρ = [some (.ro (ns.map D.int)), x1, x2, x3, x4, x5, x6, x7] := ⟨_, fun _ _ _ => Iff.rfl⟩
  refine forL_ok I ((hI _ _ _).mpr ⟨_, _, _, _, _, _, _, rfl⟩) (fun i ρ S' hJ => gOk_nil) (fun i e ρ S' he hJ => ?_) (fun ρ S' hJ => ?_)
  · obtain ⟨x1, x2, x3, x4, x5, x6, x7, rfl⟩ := (hI _ _ _).mp hJ
    obtain ⟨hi, rfl⟩ := rangeD_at he
    obtain ⟨o, ho, e1⟩ := state_ok (ns := ns) (k := i) (S := S')
    obtain ⟨n, hn⟩ : ∃ n, n = S'.length := ⟨_, rfl⟩
    obtain ⟨S, hS⟩ : ∃ S, S = S' ++ [o] := ⟨_, rfl⟩
    rw [← hn, ← hS] at e1
    have st : St S n := ⟨o, by rw [hS, hn]; simp, ho⟩
    have nl := st.lt
    obtain ⟨t, o1, ho1, ht, e2⟩ := take_nat (m := 3) (k := 3) st rfl (by decide) (by decide)
    have e1' : f_law_state [.ro (ns.map D.int), .int (i : Int)] S' = .ok (.ref n) S := e1
    simp [e1', e2]
    refine (pick_ok (k := t) (P := fun d => ∃ m, d = iD m ∧ 8 ≤ m ∧ m ≤ 24) (by simpa using ht) ?_).imp ?_
    · simp only [List.mem_cons, List.not_mem_nil, or_false, forall_eq_or_imp, forall_eq]
      exact ⟨⟨16, rfl, by omega, by omega⟩, ⟨12, rfl, by omega, by omega⟩, ⟨24, rfl, by omega, by omega⟩⟩
    · rintro _ _ ⟨⟨mm, rfl, m8, m64⟩, rfl⟩
      obtain ⟨_, o2, ho2, ⟨r, rfl, hd, hpm⟩, e3⟩ := rules_ok (st.set ho1) m8 (by omega)
      rw [List.set_set] at e3
      have hp : prodN r.sz ≤ 64 := by omega
      have hp2 : prodN r.sz < 64 := by omega
      have hv := hd.vd hp
      obtain ⟨act, m⟩ := hd.whole hp
      obtain ⟨fs, o3, ho3, fl, ff, lc⟩ := formsD_ok (bd := lcB1 7) (e := mCall f_law_form (mConsA (mVar 2) (mConsA (mVar 3) mNilA))) (ρ := [some (.ro (ns.map D.int)), some (.int (i : Int)), some (.ref n), some (ruD r), x4, x5, x6, none]) (c := 3) hv (st.set ho2) (fun d => ⟨_, rfl, fun T => rfl⟩)
      rw [List.set_set] at lc
      obtain ⟨f, g, h, rfl⟩ : ∃ f g h, fs = [f, g, h] := by
        match fs, fl with
        | [f, g, h], _ => exact ⟨f, g, h, rfl⟩
      have hf : Fm r f := ff f (by simp)
      have hg : Fm r g := ff g (by simp)
      have hh : Fm r h := ff h (by simp)
      have q1 : ∀ T, f_law_three_right [ruD r, nT f, nT g, nT h] T = .ok (.bl true) T := fun T => three_ok hv m hp hf hg hh
      have q2 : ∀ a b T, f_law_often_right [ruD r, nT f, .int a, .int b] T = .ok (.bl true) T := fun a b T => often2_ok hv m hp hf a b
      have q3 : ∀ T, f_law_lots_right [ruD r] T = .ok (.bl true) T := fun T => lotsR_ok hv m hp2
      obtain ⟨t1, o4, ho4, ht1, e4⟩ := take_nat (m := 41) (k := 41) (st.set ho3) rfl (by decide) (by decide)
      rw [List.set_set] at e4
      obtain ⟨t2, o5, ho5, ht2, e5⟩ := take_nat (m := 41) (k := 41) (st.set ho4) rfl (by decide) (by decide)
      rw [List.set_set] at e5
      simp only [List.map_cons, List.map_nil] at lc
      simp [e3, r3, lc, q1, q2, q3, e4, e5]
      exact (hI _ _ _).mpr ⟨_, _, _, _, _, _, _, rfl⟩
  · obtain ⟨x1, x2, x3, x4, x5, x6, x7, rfl⟩ := (hI _ _ _).mp hJ
    simp
end MP

namespace MP
open PySem L2
def top (i : Nat) : Stmt := PySem.Challenge.pw_gatherwords_k25_whole_forms_taken.main.body.getD i (.Pass ⟨0, 0, 0, 0⟩)
structure En (G : Gs) : Prop where
  b_all : G.mg "all" = none
  b_any : G.mg "any" = none
  b_enumerate : G.mg "enumerate" = none
  b_int : G.mg "int" = none
  b_len : G.mg "len" = none
  b_list : G.mg "list" = none
  b_max : G.mg "max" = none
  b_min : G.mg "min" = none
  b_range : G.mg "range" = none
  b_set : G.mg "set" = none
  b_sorted : G.mg "sorted" = none
  b_tuple : G.mg "tuple" = none
  b_zip : G.mg "zip" = none
  C_Ways : HasC G "Ways" ["sizes", "powers", "swaps"]
  C_Table : HasC G "Table" ["ways", "known"]
abbrev s_pairs_of : Stmt := top 4
theorem has_pairs_of {G : Gs} (E : En G)  {a : Addr} {fd : FuncData} (F : Fun G.K "pairs_of" "pairs_of" s_pairs_of a fd) (hg : G.mg "pairs_of" = some (.ref a)) : Has G 1 "pairs_of" 1 f_pairs_of := by
  exact (has_def (N := ["many", "found", "one", "other"]) (ps := ["many"]) (k := 0) (m := m_pairs_of) F hg (F.binds (ps := ["many"]) fun _ _ _ _ _ _ us hl => match us, hl with | [_], _ => rfl) ⟨rfl, rfl, rfl, by decide +kernel, rfl, by decide +kernel, by decide +kernel⟩
   (jss_cons (js_set 1 (jn_ref (jn_lst ja_nil)))
 (jss_cons (js_for (ji_range1 E.b_range (ja_cons (je_var 0) ja_nil) (hn := (lenA_cons lenA_nil))) (jg_name 2) (jss_one (js_do (je_mt PySem.F.plainAttrs_list PySem.F.slot_list_extend PySem.F.type_list_extend tyOk_list jm_extend (je_var 1) (ja_cons (jn_lv (jn_lc (jlc1 (own := [("other", 3)]) 3 (ji_range2 E.b_range (ja_cons (je_op jo_add (je_var 2) je_int) (ja_cons (je_var 0) ja_nil)) (hn := (lenA_cons (lenA_cons lenA_nil)))) jts_nil (je_tup (ja_cons (je_var 2) (ja_cons (je_var 3) ja_nil)))))) ja_nil)))))
 (jss_one (js_ret (je_var 1)))))).trunc
abbrev s_letters_of : Stmt := top 5
theorem has_letters_of {G : Gs} (E : En G)  {a : Addr} {fd : FuncData} (F : Fun G.K "letters_of" "letters_of" s_letters_of a fd) (hg : G.mg "letters_of" = some (.ref a)) : Has G 1 "letters_of" 1 f_letters_of := by
  exact (has_def (N := ["form", "found", "letter", "often"]) (ps := ["form"]) (k := 0) (m := m_letters_of) F hg (F.binds (ps := ["form"]) fun _ _ _ _ _ _ us hl => match us, hl with | [_], _ => rfl) ⟨rfl, rfl, rfl, by decide +kernel, rfl, by decide +kernel, by decide +kernel⟩
   (jss_cons (js_set 1 (je_tup ja_nil))
 (jss_cons (js_for (ji_enum E.b_enumerate (ja_cons (je_var 0) ja_nil) (hn := (lenA_cons lenA_nil))) (jg_tup 2 (jgs_cons (jg_name 2) (jgs_cons (jg_name 3) jgs_nil))) (jss_one (js_set 1 (je_op jo_add (je_var 1) (je_op jo_mul (je_tup (ja_cons (je_var 2) ja_nil)) (je_var 3))))))
 (jss_one (js_ret (je_var 1)))))).trunc
abbrev s_Ways_exchange : Stmt := inClass (top 6) 1
theorem has_Ways_exchange {G : Gs} (E : En G)  {C a : Addr} {fd : FuncData} (F : Fun G.K "exchange" "Ways.exchange" s_Ways_exchange a fd) (hc : G.mg "Ways" = some (.ref C)) (cl : Cls G.K C) (me : Meth G.K C "exchange" a) : HasM G 1 "Ways" "exchange" 3 f_Ways_exchange := by
  exact (has_meth (N := ["self", "later", "lesser"]) (ps := ["self", "later", "lesser"]) (k := 0) (m := m_Ways_exchange) F hc cl me (F.binds (ps := ["self", "later", "lesser"]) fun _ _ _ _ _ _ us hl => match us, hl with | [_, _, _], _ => rfl) ⟨rfl, rfl, rfl, by decide +kernel, rfl, by decide +kernel, by decide +kernel⟩
   (jss_one (js_ret (je_op jo_add (je_tup (ja_cons (je_var 2) ja_nil)) (je_ix jix_any (je_fld E.C_Ways (.tail _ (.tail _ (.head _))) (je_var 0)) (je_tup (ja_cons (je_var 2) (ja_cons (je_var 1) ja_nil)))))))).trunc
abbrev s_forms_of : Stmt := top 9
theorem has_forms_of {G : Gs} (E : En G)  {a : Addr} {fd : FuncData} (F : Fun G.K "forms_of" "forms_of" s_forms_of a fd) (hg : G.mg "forms_of" = some (.ref a)) : Has G 1 "forms_of" 1 f_forms_of := by
  exact (has_def (N := ["sizes", "found", "size", "longer", "form", "often"]) (ps := ["sizes"]) (k := 0) (m := m_forms_of) F hg (F.binds (ps := ["sizes"]) fun _ _ _ _ _ _ us hl => match us, hl with | [_], _ => rfl) ⟨rfl, rfl, rfl, by decide +kernel, rfl, by decide +kernel, by decide +kernel⟩
   (jss_cons (js_set 1 (jn_lv (jn_lst (ja_cons (je_tup ja_nil) ja_nil))))
 (jss_cons (js_for (ji_seq (je_var 0)) (jg_name 2) (jss_cons (js_set 3 (jn_ref (jn_lst ja_nil)))
 (jss_cons (js_for (ji_seq (je_var 1)) (jg_name 4) (jss_one (js_do (je_mt PySem.F.plainAttrs_list PySem.F.slot_list_extend PySem.F.type_list_extend tyOk_list jm_extend (je_var 3) (ja_cons (jn_lv (jn_lc (jlc1 (own := [("often", 5)]) 5 (ji_range1 E.b_range (ja_cons (je_var 2) ja_nil) (hn := (lenA_cons lenA_nil))) jts_nil (je_op jo_add (je_var 4) (je_tup (ja_cons (je_var 5) ja_nil)))))) ja_nil)))))
 (jss_one (js_set 1 (je_var 3))))))
 (jss_one (js_ret (je_var 1)))))).trunc
abbrev s_law_cell_at : Stmt := top 26
theorem has_law_cell_at {G : Gs} (E : En G)  {a : Addr} {fd : FuncData} (F : Fun G.K "_law_cell_at" "_law_cell_at" s_law_cell_at a fd) (hg : G.mg "_law_cell_at" = some (.ref a)) : Has G 1 "_law_cell_at" 2 f_law_cell_at := by
  exact (has_def (N := ["_law_script", "_law_k"]) (ps := ["_law_script", "_law_k"]) (k := 0) (m := m_law_cell_at) F hg (F.binds (ps := ["_law_script", "_law_k"]) fun _ _ _ _ _ _ us hl => match us, hl with | [_, _], _ => rfl) ⟨rfl, rfl, rfl, by decide +kernel, rfl, by decide +kernel, by decide +kernel⟩
   (jss_cons (js_if (jt_cmp jdLt (je_var 1) (je_callB jb_len (by rfl) E.b_len (ja_cons (je_var 0) ja_nil))) (jss_one (js_ret (je_ix jix_seq (je_var 0) (je_var 1)))) jss_nil)
 (jss_one (js_ret je_int)))).trunc
abbrev s_law_take : Stmt := top 28
theorem has_law_take {G : Gs} (E : En G)  {a : Addr} {fd : FuncData} (F : Fun G.K "_law_take" "_law_take" s_law_take a fd) (hg : G.mg "_law_take" = some (.ref a)) : Has G 1 "_law_take" 2 f_law_take := by
  exact (has_def (N := ["_law_state_here", "_law_many", "_law_found", "_law_mixed"]) (ps := ["_law_state_here", "_law_many"]) (k := 0) (m := m_law_take) F hg (F.binds (ps := ["_law_state_here", "_law_many"]) fun _ _ _ _ _ _ us hl => match us, hl with | [_, _], _ => rfl) ⟨rfl, rfl, rfl, by decide +kernel, rfl, by decide +kernel, by decide +kernel⟩
   (jss_cons (js_if (jt_val (je_ix jix_seq (je_var 0) je_int)) (jss_cons (js_set 2 (je_op jo_mod (je_ix jix_seq (je_var 0) je_int) (je_var 1)))
 (jss_cons (js_asg (je_op jdFdiv (je_ix jix_seq (je_var 0) je_int) (je_var 1)) (jg_sub jset_list (je_var 0) je_int))
 (jss_one (js_ret (je_var 2))))) jss_nil)
 (jss_cons (js_asg (je_op jo_mod (je_op jo_add (je_op jo_mul (je_ix jix_seq (je_var 0) je_int) je_int) je_int) je_int) (jg_sub jset_list (je_var 0) je_int))
 (jss_cons (js_set 3 (je_op jo_mod (je_op jo_add (je_op jo_add (je_op jo_mul (je_ix jix_seq (je_var 0) je_int) (je_ix jix_seq (je_var 0) je_int)) (je_op jo_mul je_int (je_ix jix_seq (je_var 0) je_int))) je_int) je_int))
 (jss_cons (js_set 3 (je_op jo_mod (je_op jo_add (je_op jo_mul (je_var 3) (je_var 3)) (je_op jo_mul je_int (je_var 3))) je_int))
 (jss_one (js_ret (je_op jo_mod (je_op jdFdiv (je_var 3) je_int) (je_var 1))))))))).trunc
abbrev s_law_pairs : Stmt := top 29
theorem has_law_pairs {G : Gs} (E : En G)  {a : Addr} {fd : FuncData} (F : Fun G.K "_law_pairs" "_law_pairs" s_law_pairs a fd) (hg : G.mg "_law_pairs" = some (.ref a)) : Has G 1 "_law_pairs" 1 f_pairs_of := by
  exact (has_def (N := ["_law_many", "_law_found", "_law_one", "_law_other"]) (ps := ["_law_many"]) (k := 0) (m := m_pairs_of) F hg (F.binds (ps := ["_law_many"]) fun _ _ _ _ _ _ us hl => match us, hl with | [_], _ => rfl) ⟨rfl, rfl, rfl, by decide +kernel, rfl, by decide +kernel, by decide +kernel⟩
   (jss_cons (js_set 1 (jn_ref (jn_lst ja_nil)))
 (jss_cons (js_for (ji_range1 E.b_range (ja_cons (je_var 0) ja_nil) (hn := (lenA_cons lenA_nil))) (jg_name 2) (jss_one (js_do (je_mt PySem.F.plainAttrs_list PySem.F.slot_list_extend PySem.F.type_list_extend tyOk_list jm_extend (je_var 1) (ja_cons (jn_lv (jn_lc (jlc1 (own := [("_law_other", 3)]) 3 (ji_range2 E.b_range (ja_cons (je_op jo_add (je_var 2) je_int) (ja_cons (je_var 0) ja_nil)) (hn := (lenA_cons (lenA_cons lenA_nil)))) jts_nil (je_tup (ja_cons (je_var 2) (ja_cons (je_var 3) ja_nil)))))) ja_nil)))))
 (jss_one (js_ret (je_var 1)))))).trunc
abbrev s_law_times : Stmt := top 30
theorem has_law_times {G : Gs} (E : En G)  {a : Addr} {fd : FuncData} (F : Fun G.K "_law_times" "_law_times" s_law_times a fd) (hg : G.mg "_law_times" = some (.ref a)) : Has G 1 "_law_times" 1 f_product_of := by
  exact (has_def (N := ["_law_sizes_here", "_law_found", "_law_size"]) (ps := ["_law_sizes_here"]) (k := 0) (m := m_product_of) F hg (F.binds (ps := ["_law_sizes_here"]) fun _ _ _ _ _ _ us hl => match us, hl with | [_], _ => rfl) ⟨rfl, rfl, rfl, by decide +kernel, rfl, by decide +kernel, by decide +kernel⟩
   (jss_cons (js_set 1 je_int)
 (jss_cons (js_for (ji_seq (je_var 0)) (jg_name 2) (jss_one (js_set 1 (je_op jo_mul (je_var 1) (je_var 2)))))
 (jss_one (js_ret (je_var 1)))))).trunc
abbrev s_law_alone : Stmt := top 31
theorem has_law_alone {G : Gs} (E : En G)  {a : Addr} {fd : FuncData} (F : Fun G.K "_law_alone" "_law_alone" s_law_alone a fd) (hg : G.mg "_law_alone" = some (.ref a)) : Has G 1 "_law_alone" 3 f_law_alone := by
  exact (has_def (N := ["_law_many", "_law_letter", "_law_often", "_law_one"]) (ps := ["_law_many", "_law_letter", "_law_often"]) (k := 0) (m := m_law_alone) F hg (F.binds (ps := ["_law_many", "_law_letter", "_law_often"]) fun _ _ _ _ _ _ us hl => match us, hl with | [_, _, _], _ => rfl) ⟨rfl, rfl, rfl, by decide +kernel, rfl, by decide +kernel, by decide +kernel⟩
   (jss_one (js_ret (je_callTy jb_tuple (by rfl) E.b_tuple (ja_cons (jn_lv (jn_lc (jlc1 (own := [("_law_one", 3)]) 3 (ji_range1 E.b_range (ja_cons (je_var 0) ja_nil) (hn := (lenA_cons lenA_nil))) jts_nil (je_op jo_mul (je_var 2) (je_callTy jb_int (by rfl) E.b_int (ja_cons (je_cmp jo_eq (je_var 3) (je_var 1)) ja_nil)))))) ja_nil))))).trunc
abbrev s_law_taken : Stmt := top 36
theorem has_law_taken {G : Gs} (E : En G)  {a : Addr} {fd : FuncData} (F : Fun G.K "_law_taken" "_law_taken" s_law_taken a fd) (hg : G.mg "_law_taken" = some (.ref a)) : Has G 1 "_law_taken" 3 f_law_taken := by
  exact (has_def (N := ["_law_wide", "_law_by", "_law_often", "_law_found", "_law_turn"]) (ps := ["_law_wide", "_law_by", "_law_often"]) (k := 0) (m := m_law_taken) F hg (F.binds (ps := ["_law_wide", "_law_by", "_law_often"]) fun _ _ _ _ _ _ us hl => match us, hl with | [_, _, _], _ => rfl) ⟨rfl, rfl, rfl, by decide +kernel, rfl, by decide +kernel, by decide +kernel⟩
   (jss_cons (js_set 3 (je_op jo_mod je_int (je_var 0)))
 (jss_cons (js_for (ji_range1 E.b_range (ja_cons (je_var 2) ja_nil) (hn := (lenA_cons lenA_nil))) (jg_name 4) (jss_one (js_set 3 (je_op jo_mod (je_op jo_mul (je_var 3) (je_var 1)) (je_var 0)))))
 (jss_one (js_ret (je_var 3)))))).trunc
abbrev s_Ways___init__ : Stmt := inClass (top 6) 0
theorem has_Ways___init__ {G : Gs} (E : En G) (h_pairs_of : Has G 1 "pairs_of" 1 f_pairs_of) (h_letters_of : Has G 1 "letters_of" 1 f_letters_of) {C a : Addr} {fd : FuncData} (F : Fun G.K "__init__" "Ways.__init__" s_Ways___init__ a fd) (hc : G.mg "Ways" = some (.ref C)) (mk : Mk G.K C a) : HasI G 2 "Ways" 2 f_Ways___init__ := by
  exact has_init (N := ["self", "rules", "pair", "form"]) (ps := ["self", "rules"]) (k := 1) (m := m_Ways___init__) F hc mk (F.binds (ps := ["self", "rules"]) fun _ _ _ _ _ _ us hl => match us, hl with | [_, _], _ => rfl) ⟨rfl, rfl, rfl, by decide +kernel, rfl, by decide +kernel, by decide +kernel⟩
   (jss_cons (js_setF E.C_Ways (.head _) (je_var 0) (je_ix jix_seq (je_var 1) je_int))
 (jss_cons (js_setF E.C_Ways (.tail _ (.head _)) (je_var 0) (jn_lv (jn_lc (jlc1 (own := [("form", 3)]) 3 (ji_seq (je_ix jix_seq (je_var 1) je_int)) jts_nil (je_call (h_letters_of.mono (by decide)) (ja_cons (je_var 3) ja_nil) (lenA_cons lenA_nil))))))
 (jss_cons (js_setF E.C_Ways (.tail _ (.tail _ (.head _))) (je_var 0) je_dict0)
 (jss_one (js_for (ji_zip E.b_zip (ja_cons (je_call (h_pairs_of.mono (by decide)) (ja_cons (je_callB jb_len (by rfl) E.b_len (ja_cons (je_ix jix_seq (je_var 1) je_int) ja_nil)) ja_nil) (lenA_cons lenA_nil)) (ja_cons (je_ix jix_seq (je_var 1) je_int) ja_nil)) (hn := (lenA_cons (lenA_cons lenA_nil)))) (jg_tup 2 (jgs_cons (jg_name 2) (jgs_cons (jg_name 3) jgs_nil))) (jss_one (js_asg (je_call (h_letters_of.mono (by decide)) (ja_cons (je_var 3) ja_nil) (lenA_cons lenA_nil)) (jg_sub jset_any (je_fld E.C_Ways (.tail _ (.tail _ (.head _))) (je_var 0)) (je_var 2)))))))))
abbrev s_Ways_put : Stmt := inClass (top 6) 2
theorem has_Ways_put {G : Gs} (E : En G) (h_Ways_exchange : HasM G 1 "Ways" "exchange" 3 f_Ways_exchange) {C a : Addr} {fd : FuncData} (F : Fun G.K "put" "Ways.put" s_Ways_put a fd) (hc : G.mg "Ways" = some (.ref C)) (cl : Cls G.K C) (me : Meth G.K C "put" a) : HasM G 2 "Ways" "put" 3 f_Ways_put := by
  exact (has_meth (N := ["self", "form", "letter", "todo", "here", "last", "k"]) (ps := ["self", "form", "letter"]) (k := 1) (m := m_Ways_put) F hc cl me (F.binds (ps := ["self", "form", "letter"]) fun _ _ _ _ _ _ us hl => match us, hl with | [_, _, _], _ => rfl) ⟨rfl, rfl, rfl, by decide +kernel, rfl, by decide +kernel, by decide +kernel⟩
   (jss_cons (js_set 3 (jn_ref (jn_lst (ja_cons (je_var 2) ja_nil))))
 (jss_one (js_while (jt_cmp jo_ne (je_var 3) (jn_lv (jn_lst ja_nil))) (jss_cons (js_set 4 (je_mt0 PySem.F.plainAttrs_list PySem.F.slot_list_pop PySem.F.type_list_pop tyOk_list jm_pop (je_var 3)))
 (jss_cons (js_set 5 (je_callB jb_maxL (by rfl) E.b_max (ja_cons (je_op jo_add (jn_lv (jn_lc (jlc1 (own := [("k", 6)]) 6 (ji_range1 E.b_range (ja_cons (je_callB jb_len (by rfl) E.b_len (ja_cons (je_var 1) ja_nil)) ja_nil) (hn := (lenA_cons lenA_nil))) (jts_one (jt_cmp jdGt (je_ix jix_seq (je_var 1) (je_var 6)) je_int)) (je_var 6)))) (jn_lv (jn_lst (ja_cons (je_neg je_int) ja_nil)))) ja_nil)))
 (jss_one (js_if (jt_cmp jdGt (je_var 5) (je_var 4)) (jss_cons (js_asg (je_op jo_sub (je_ix jix_seq (je_var 1) (je_var 5)) je_int) (jg_sub jset_list (je_var 1) (je_var 5)))
 (jss_one (js_do (je_mt PySem.F.plainAttrs_list PySem.F.slot_list_extend PySem.F.type_list_extend tyOk_list jm_extA (je_var 3) (ja_cons (je_back (je_meth (h_Ways_exchange.mono (by decide)) (je_var 0) (ja_cons (je_var 5) (ja_cons (je_var 4) ja_nil)) (lenA_cons (lenA_cons lenA_nil)))) ja_nil))))) (jss_cons (js_asg (je_op jo_add (je_ix jix_seq (je_var 1) (je_var 4)) je_int) (jg_sub jset_list (je_var 1) (je_var 4)))
 (jss_one (js_if (jt_cmp jo_eq (je_ix jix_seq (je_var 1) (je_var 4)) (je_ix jix_seq (je_fld E.C_Ways (.head _) (je_var 0)) (je_var 4))) (jss_cons (js_asg je_int (jg_sub jset_list (je_var 1) (je_var 4)))
 (jss_one (js_do (je_mt PySem.F.plainAttrs_list PySem.F.slot_list_extend PySem.F.type_list_extend tyOk_list jm_extA (je_var 3) (ja_cons (je_back (je_ix jix_seq (je_fld E.C_Ways (.tail _ (.head _)) (je_var 0)) (je_var 4))) ja_nil))))) jss_nil))))))))))).trunc
abbrev s_Ways_two_ways : Stmt := inClass (top 6) 4
theorem has_Ways_two_ways {G : Gs} (E : En G) (h_pairs_of : Has G 1 "pairs_of" 1 f_pairs_of) (h_Ways_exchange : HasM G 1 "Ways" "exchange" 3 f_Ways_exchange) {C a : Addr} {fd : FuncData} (F : Fun G.K "two_ways" "Ways.two_ways" s_Ways_two_ways a fd) (hc : G.mg "Ways" = some (.ref C)) (cl : Cls G.K C) (me : Meth G.K C "two_ways" a) : HasM G 2 "Ways" "two_ways" 1 f_Ways_two_ways := by
  exact (has_meth (N := ["self", "many", "found", "one", "other", "size", "wide", "third", "letter"]) (ps := ["self"]) (k := 1) (m := m_Ways_two_ways) F hc cl me (F.binds (ps := ["self"]) fun _ _ _ _ _ _ us hl => match us, hl with | [_], _ => rfl) ⟨rfl, rfl, rfl, by decide +kernel, rfl, by decide +kernel, by decide +kernel⟩
   (jss_cons (js_set 1 (je_callB jb_len (by rfl) E.b_len (ja_cons (je_fld E.C_Ways (.head _) (je_var 0)) ja_nil)))
 (jss_cons (js_set 2 (jn_ref (jn_lst ja_nil)))
 (jss_cons (js_for (ji_seq (je_call (h_pairs_of.mono (by decide)) (ja_cons (je_var 1) ja_nil) (lenA_cons lenA_nil))) (jg_tup 2 (jgs_cons (jg_name 3) (jgs_cons (jg_name 4) jgs_nil))) (jss_cons (js_par 5 6 (ja_cons (je_ix jix_seq (je_fld E.C_Ways (.head _) (je_var 0)) (je_var 3)) (ja_cons (je_ix jix_seq (je_fld E.C_Ways (.head _) (je_var 0)) (je_var 4)) ja_nil)))
 (jss_cons (js_do (je_mt PySem.F.plainAttrs_list PySem.F.slot_list_append PySem.F.type_list_append tyOk_list jm_append (je_var 2) (ja_cons (je_tup (ja_cons (je_op jo_add (je_ix jix_seq (je_fld E.C_Ways (.tail _ (.head _)) (je_var 0)) (je_var 4)) (je_tup (ja_cons (je_var 3) ja_nil))) (ja_cons (je_op jo_add (je_op jo_mul (je_tup (ja_cons (je_var 4) ja_nil)) (je_op jo_sub (je_var 6) je_int)) (je_meth (h_Ways_exchange.mono (by decide)) (je_var 0) (ja_cons (je_var 4) (ja_cons (je_var 3) ja_nil)) (lenA_cons (lenA_cons lenA_nil)))) ja_nil))) ja_nil)))
 (jss_cons (js_do (je_mt PySem.F.plainAttrs_list PySem.F.slot_list_append PySem.F.type_list_append tyOk_list jm_append (je_var 2) (ja_cons (je_tup (ja_cons (je_op jo_add (je_meth (h_Ways_exchange.mono (by decide)) (je_var 0) (ja_cons (je_var 4) (ja_cons (je_var 3) ja_nil)) (lenA_cons (lenA_cons lenA_nil))) (je_op jo_mul (je_tup (ja_cons (je_var 3) ja_nil)) (je_op jo_sub (je_var 5) je_int))) (ja_cons (je_op jo_add (je_tup (ja_cons (je_var 4) ja_nil)) (je_ix jix_seq (je_fld E.C_Ways (.tail _ (.head _)) (je_var 0)) (je_var 3))) ja_nil))) ja_nil)))
 (jss_one (js_for (ji_range2 E.b_range (ja_cons (je_op jo_add (je_var 4) je_int) (ja_cons (je_var 1) ja_nil)) (hn := (lenA_cons (lenA_cons lenA_nil)))) (jg_name 7) (jss_one (js_do (je_mt PySem.F.plainAttrs_list PySem.F.slot_list_append PySem.F.type_list_append tyOk_list jm_append (je_var 2) (ja_cons (je_tup (ja_cons (je_op jo_add (je_meth (h_Ways_exchange.mono (by decide)) (je_var 0) (ja_cons (je_var 7) (ja_cons (je_var 4) ja_nil)) (lenA_cons (lenA_cons lenA_nil))) (je_tup (ja_cons (je_var 3) ja_nil))) (ja_cons (je_op jo_add (je_tup (ja_cons (je_var 7) ja_nil)) (je_meth (h_Ways_exchange.mono (by decide)) (je_var 0) (ja_cons (je_var 4) (ja_cons (je_var 3) ja_nil)) (lenA_cons (lenA_cons lenA_nil)))) ja_nil))) ja_nil))))))))))
 (jss_cons (js_for (ji_range1 E.b_range (ja_cons (je_var 1) ja_nil) (hn := (lenA_cons lenA_nil))) (jg_name 8) (jss_one (js_do (je_mt PySem.F.plainAttrs_list PySem.F.slot_list_append PySem.F.type_list_append tyOk_list jm_append (je_var 2) (ja_cons (je_tup (ja_cons (je_op jo_add (je_ix jix_seq (je_fld E.C_Ways (.tail _ (.head _)) (je_var 0)) (je_var 8)) (je_tup (ja_cons (je_var 8) ja_nil))) (ja_cons (je_op jo_add (je_tup (ja_cons (je_var 8) ja_nil)) (je_ix jix_seq (je_fld E.C_Ways (.tail _ (.head _)) (je_var 0)) (je_var 8))) ja_nil))) ja_nil)))))
 (jss_one (js_ret (je_var 2)))))))).trunc
abbrev s_law_state : Stmt := top 27
theorem has_law_state {G : Gs} (E : En G) (h__law_cell_at : Has G 1 "_law_cell_at" 2 f_law_cell_at) {a : Addr} {fd : FuncData} (F : Fun G.K "_law_state" "_law_state" s_law_state a fd) (hg : G.mg "_law_state" = some (.ref a)) : Has G 2 "_law_state" 2 f_law_state := by
  exact (has_def (N := ["_law_script", "_law_k", "_law_cell"]) (ps := ["_law_script", "_law_k"]) (k := 1) (m := m_law_state) F hg (F.binds (ps := ["_law_script", "_law_k"]) fun _ _ _ _ _ _ us hl => match us, hl with | [_, _], _ => rfl) ⟨rfl, rfl, rfl, by decide +kernel, rfl, by decide +kernel, by decide +kernel⟩
   (jss_cons (js_set 2 (je_call (h__law_cell_at.mono (by decide)) (ja_cons (je_var 0) (ja_cons (je_var 1) ja_nil)) (lenA_cons (lenA_cons lenA_nil))))
 (jss_cons (js_if (jt_cmp jdGe (je_var 2) (je_op jdPow je_int je_int)) (jss_one (js_ret (jn_ref (jn_lst (ja_cons (je_op jo_sub (je_var 2) (je_op jdPow je_int je_int)) (ja_cons je_bl ja_nil)))))) jss_nil)
 (jss_one (js_ret (jn_ref (jn_lst (ja_cons (je_op jo_mod (je_var 2) je_int) (ja_cons je_bl ja_nil)))))))))
abbrev s_law_sizes : Stmt := top 32
theorem has_law_sizes {G : Gs} (E : En G) (h__law_take : Has G 1 "_law_take" 2 f_law_take) (h__law_times : Has G 1 "_law_times" 1 f_product_of) {a : Addr} {fd : FuncData} (F : Fun G.K "_law_sizes" "_law_sizes" s_law_sizes a fd) (hg : G.mg "_law_sizes" = some (.ref a)) : Has G 2 "_law_sizes" 2 f_law_sizes := by
  exact (has_def (N := ["_law_state_here", "_law_most", "_law_found", "_law_turn", "_law_left"]) (ps := ["_law_state_here", "_law_most"]) (k := 1) (m := m_law_sizes) F hg (F.binds (ps := ["_law_state_here", "_law_most"]) fun _ _ _ _ _ _ us hl => match us, hl with | [_, _], _ => rfl) ⟨rfl, rfl, rfl, by decide +kernel, rfl, by decide +kernel, by decide +kernel⟩
   (jss_cons (js_set 2 (jn_ref (jn_lst (ja_cons (je_op jo_add je_int (je_call (h__law_take.mono (by decide)) (ja_cons (je_var 0) (ja_cons (je_callB jb_min (by rfl) E.b_min (ja_cons je_int (ja_cons (je_op jo_sub (je_var 1) je_int) ja_nil))) ja_nil)) (lenA_cons (lenA_cons lenA_nil)))) ja_nil))))
 (jss_cons (js_for (ji_range1 E.b_range (ja_cons je_int ja_nil) (hn := (lenA_cons lenA_nil))) (jg_name 3) (jss_cons (js_set 4 (je_op jdFdiv (je_var 1) (je_call (h__law_times.mono (by decide)) (ja_cons (je_var 2) ja_nil) (lenA_cons lenA_nil))))
 (jss_one (js_if (jw_pt (jw_and (jt_cmp jdGt (je_var 4) je_int) (jw_and1 (jt_cmp jdGt (je_call (h__law_take.mono (by decide)) (ja_cons (je_var 0) (ja_cons je_int ja_nil)) (lenA_cons (lenA_cons lenA_nil))) je_int)))) (jss_one (js_do (je_mt PySem.F.plainAttrs_list PySem.F.slot_list_append PySem.F.type_list_append tyOk_list jm_append (je_var 2) (ja_cons (je_op jo_add je_int (je_call (h__law_take.mono (by decide)) (ja_cons (je_var 0) (ja_cons (je_callB jb_min (by rfl) E.b_min (ja_cons je_int (ja_cons (je_op jo_sub (je_var 4) je_int) ja_nil))) ja_nil)) (lenA_cons (lenA_cons lenA_nil)))) ja_nil)))) jss_nil))))
 (jss_one (js_ret (je_callTy jb_tuple (by rfl) E.b_tuple (ja_cons (je_var 2) ja_nil))))))).trunc
abbrev s_law_plain_rules : Stmt := top 33
theorem has_law_plain_rules {G : Gs} (E : En G) (h__law_take : Has G 1 "_law_take" 2 f_law_take) (h__law_pairs : Has G 1 "_law_pairs" 1 f_pairs_of) (h__law_alone : Has G 1 "_law_alone" 3 f_law_alone) {a : Addr} {fd : FuncData} (F : Fun G.K "_law_plain_rules" "_law_plain_rules" s_law_plain_rules a fd) (hg : G.mg "_law_plain_rules" = some (.ref a)) : Has G 2 "_law_plain_rules" 2 f_law_plain_rules := by
  exact (has_def (N := ["_law_state_here", "_law_sizes_here", "_law_many", "_law_powers", "_law_letter", "_law_form_here", "_law_later", "_law_pair"]) (ps := ["_law_state_here", "_law_sizes_here"]) (k := 1) (m := m_law_plain_rules) F hg (F.binds (ps := ["_law_state_here", "_law_sizes_here"]) fun _ _ _ _ _ _ us hl => match us, hl with | [_, _], _ => rfl) ⟨rfl, rfl, rfl, by decide +kernel, rfl, by decide +kernel, by decide +kernel⟩
   (jss_cons (js_set 2 (je_callB jb_len (by rfl) E.b_len (ja_cons (je_var 1) ja_nil)))
 (jss_cons (js_set 3 (jn_ref (jn_lst ja_nil)))
 (jss_cons (js_for (ji_range1 E.b_range (ja_cons (je_var 2) ja_nil) (hn := (lenA_cons lenA_nil))) (jg_name 4) (jss_cons (js_set 5 (je_op jo_mul (je_tup (ja_cons je_int ja_nil)) (je_var 2)))
 (jss_cons (js_if (jw_pt (jw_and (jt_cmp jdLt (je_op jo_add (je_var 4) je_int) (je_var 2)) (jw_and1 (jt_cmp jo_eq (je_call (h__law_take.mono (by decide)) (ja_cons (je_var 0) (ja_cons je_int ja_nil)) (lenA_cons (lenA_cons lenA_nil))) je_int)))) (jss_cons (js_set 6 (je_op jo_add (je_op jo_add (je_var 4) je_int) (je_call (h__law_take.mono (by decide)) (ja_cons (je_var 0) (ja_cons (je_op jo_sub (je_op jo_sub (je_var 2) (je_var 4)) je_int) ja_nil)) (lenA_cons (lenA_cons lenA_nil)))))
 (jss_one (js_set 5 (je_call (h__law_alone.mono (by decide)) (ja_cons (je_var 2) (ja_cons (je_var 6) (ja_cons (je_call (h__law_take.mono (by decide)) (ja_cons (je_var 0) (ja_cons (je_ix jix_seq (je_var 1) (je_var 6)) ja_nil)) (lenA_cons (lenA_cons lenA_nil))) ja_nil))) (lenA_cons (lenA_cons (lenA_cons lenA_nil))))))) jss_nil)
 (jss_one (js_do (je_mt PySem.F.plainAttrs_list PySem.F.slot_list_append PySem.F.type_list_append tyOk_list jm_append (je_var 3) (ja_cons (je_var 5) ja_nil)))))))
 (jss_one (js_ret (je_tup (ja_cons (je_var 1) (ja_cons (je_callTy jb_tuple (by rfl) E.b_tuple (ja_cons (je_var 3) ja_nil)) (ja_cons (je_callTy jb_tuple (by rfl) E.b_tuple (ja_cons (jn_lv (jn_lc (jlc1 (own := [("_law_pair", 7)]) 7 (ji_seq (je_call (h__law_pairs.mono (by decide)) (ja_cons (je_var 2) ja_nil) (lenA_cons lenA_nil))) jts_nil (je_call (h__law_alone.mono (by decide)) (ja_cons (je_var 2) (ja_cons (je_ix jix_seq (je_var 7) je_int) (ja_cons je_int ja_nil))) (lenA_cons (lenA_cons (lenA_cons lenA_nil))))))) ja_nil)) ja_nil)))))))))).trunc
abbrev s_law_turning : Stmt := top 34
theorem has_law_turning {G : Gs} (E : En G) (h__law_take : Has G 1 "_law_take" 2 f_law_take) (h__law_taken : Has G 1 "_law_taken" 3 f_law_taken) {a : Addr} {fd : FuncData} (F : Fun G.K "_law_turning" "_law_turning" s_law_turning a fd) (hg : G.mg "_law_turning" = some (.ref a)) : Has G 2 "_law_turning" 2 f_law_turning := by
  exact (has_def (N := ["_law_state_here", "_law_most", "_law_wide", "_law_good", "_law_size", "_law_by", "_law_stays", "_law_power", "_law_number"]) (ps := ["_law_state_here", "_law_most"]) (k := 1) (m := m_law_turning) F hg (F.binds (ps := ["_law_state_here", "_law_most"]) fun _ _ _ _ _ _ us hl => match us, hl with | [_, _], _ => rfl) ⟨rfl, rfl, rfl, by decide +kernel, rfl, by decide +kernel, by decide +kernel⟩
   (jss_cons (js_set 2 (je_op jo_add je_int (je_call (h__law_take.mono (by decide)) (ja_cons (je_var 0) (ja_cons (je_callB jb_min (by rfl) E.b_min (ja_cons je_int (ja_cons (je_op jo_sub (je_op jdFdiv (je_var 1) je_int) je_int) ja_nil))) ja_nil)) (lenA_cons (lenA_cons lenA_nil)))))
 (jss_cons (js_set 3 (jn_ref (jn_lst ja_nil)))
 (jss_cons (js_for (ji_range2 E.b_range (ja_cons je_int (ja_cons (je_op jo_add je_int (je_callB jb_min (by rfl) E.b_min (ja_cons je_int (ja_cons (je_op jdFdiv (je_var 1) (je_var 2)) ja_nil)))) ja_nil)) (hn := (lenA_cons (lenA_cons lenA_nil)))) (jg_name 4) (jss_one (js_for (ji_range2 E.b_range (ja_cons je_int (ja_cons (je_var 2) ja_nil)) (hn := (lenA_cons (lenA_cons lenA_nil)))) (jg_name 5) (jss_one (js_if (jt_cmp jo_eq (je_call (h__law_taken.mono (by decide)) (ja_cons (je_var 2) (ja_cons (je_var 5) (ja_cons (je_var 4) ja_nil))) (lenA_cons (lenA_cons (lenA_cons lenA_nil)))) je_int) (jss_one (js_do (je_mt PySem.F.plainAttrs_list PySem.F.slot_list_append PySem.F.type_list_append tyOk_list jm_append (je_var 3) (ja_cons (je_tup (ja_cons (je_var 4) (ja_cons (je_var 5) ja_nil))) ja_nil)))) jss_nil)))))
 (jss_cons (js_asg (je_ix jix_seq (je_var 3) (je_call (h__law_take.mono (by decide)) (ja_cons (je_var 0) (ja_cons (je_callB jb_len (by rfl) E.b_len (ja_cons (je_var 3) ja_nil)) ja_nil)) (lenA_cons (lenA_cons lenA_nil)))) (jg_tup 2 (jgs_cons (jg_name 4) (jgs_cons (jg_name 5) jgs_nil))))
 (jss_cons (js_lcLv 6 (jlc1 (own := [("_law_number", 8)]) 8 (ji_range1 E.b_range (ja_cons (je_var 2) ja_nil) (hn := (lenA_cons lenA_nil))) (jts_one (jt_cmp jo_eq (je_op jo_mod (je_op jo_mul (je_var 8) (je_op jo_sub (je_var 5) je_int)) (je_var 2)) je_int)) (je_var 8)))
 (jss_cons (js_set 7 (je_ix jix_seq (je_var 6) (je_call (h__law_take.mono (by decide)) (ja_cons (je_var 0) (ja_cons (je_callB jb_len (by rfl) E.b_len (ja_cons (je_var 6) ja_nil)) ja_nil)) (lenA_cons (lenA_cons lenA_nil)))))
 (jss_one (js_ret (je_tup (ja_cons (je_tup (ja_cons (je_var 4) (ja_cons (je_var 2) ja_nil))) (ja_cons (je_tup (ja_cons (je_tup (ja_cons je_int (ja_cons (je_var 7) ja_nil))) (ja_cons (je_tup (ja_cons je_int (ja_cons je_int ja_nil))) ja_nil))) (ja_cons (je_tup (ja_cons (je_tup (ja_cons je_int (ja_cons (je_var 5) ja_nil))) ja_nil)) ja_nil))))))))))))).trunc
abbrev s_law_meeting : Stmt := top 35
theorem has_law_meeting {G : Gs} (E : En G) (h__law_take : Has G 1 "_law_take" 2 f_law_take) {a : Addr} {fd : FuncData} (F : Fun G.K "_law_meeting" "_law_meeting" s_law_meeting a fd) (hg : G.mg "_law_meeting" = some (.ref a)) : Has G 2 "_law_meeting" 2 f_law_meeting := by
  exact (has_def (N := ["_law_state_here", "_law_most", "_law_size", "_law_powers"]) (ps := ["_law_state_here", "_law_most"]) (k := 1) (m := m_law_meeting) F hg (F.binds (ps := ["_law_state_here", "_law_most"]) fun _ _ _ _ _ _ us hl => match us, hl with | [_, _], _ => rfl) ⟨rfl, rfl, rfl, by decide +kernel, rfl, by decide +kernel, by decide +kernel⟩
   (jss_cons (js_set 2 (je_ix jix_seq (jn_lv (jn_lst (ja_cons je_int (ja_cons je_int ja_nil)))) (je_call (h__law_take.mono (by decide)) (ja_cons (je_var 0) (ja_cons je_int ja_nil)) (lenA_cons (lenA_cons lenA_nil)))))
 (jss_cons (js_if (jt_cmp jdLt (je_var 1) je_int) (jss_one (js_set 2 je_int)) jss_nil)
 (jss_cons (js_set 3 (je_tup (ja_cons (je_tup (ja_cons je_int (ja_cons je_int (ja_cons (je_call (h__law_take.mono (by decide)) (ja_cons (je_var 0) (ja_cons (je_var 2) ja_nil)) (lenA_cons (lenA_cons lenA_nil))) ja_nil)))) (ja_cons (je_tup (ja_cons je_int (ja_cons je_int (ja_cons (je_call (h__law_take.mono (by decide)) (ja_cons (je_var 0) (ja_cons (je_var 2) ja_nil)) (lenA_cons (lenA_cons lenA_nil))) ja_nil)))) (ja_cons (je_tup (ja_cons je_int (ja_cons je_int (ja_cons je_int ja_nil)))) ja_nil)))))
 (jss_one (js_ret (je_tup (ja_cons (je_op jo_mul (je_tup (ja_cons (je_var 2) ja_nil)) je_int) (ja_cons (je_var 3) (ja_cons (je_tup (ja_cons (je_tup (ja_cons je_int (ja_cons je_int (ja_cons (je_op jo_add je_int (je_call (h__law_take.mono (by decide)) (ja_cons (je_var 0) (ja_cons (je_op jo_sub (je_var 2) je_int) ja_nil)) (lenA_cons (lenA_cons lenA_nil)))) ja_nil)))) (ja_cons (je_tup (ja_cons je_int (ja_cons je_int (ja_cons je_int ja_nil)))) (ja_cons (je_tup (ja_cons je_int (ja_cons je_int (ja_cons je_int ja_nil)))) ja_nil)))) ja_nil)))))))))).trunc
abbrev s_law_beside : Stmt := top 37
theorem has_law_beside {G : Gs} (E : En G) (h__law_pairs : Has G 1 "_law_pairs" 1 f_pairs_of) (h__law_alone : Has G 1 "_law_alone" 3 f_law_alone) {a : Addr} {fd : FuncData} (F : Fun G.K "_law_beside" "_law_beside" s_law_beside a fd) (hg : G.mg "_law_beside" = some (.ref a)) : Has G 2 "_law_beside" 2 f_law_beside := by
  exact (has_def (N := ["_law_one", "_law_other", "_law_left", "_law_right", "_law_powers", "_law_known", "_law_pair", "_law_form_here", "_law_many", "_law_exchanges"]) (ps := ["_law_one", "_law_other"]) (k := 1) (m := m_law_beside) F hg (F.binds (ps := ["_law_one", "_law_other"]) fun _ _ _ _ _ _ us hl => match us, hl with | [_, _], _ => rfl) ⟨rfl, rfl, rfl, by decide +kernel, rfl, by decide +kernel, by decide +kernel⟩
   (jss_cons (js_set 2 (je_callB jb_len (by rfl) E.b_len (ja_cons (je_ix jix_seq (je_var 0) je_int) ja_nil)))
 (jss_cons (js_set 3 (je_callB jb_len (by rfl) E.b_len (ja_cons (je_ix jix_seq (je_var 1) je_int) ja_nil)))
 (jss_cons (js_set 4 (je_op jo_add (jn_lv (jn_lc (jlc1 (own := [("_law_form_here", 7)]) 7 (ji_seq (je_ix jix_seq (je_var 0) je_int)) jts_nil (je_op jo_add (je_var 7) (je_op jo_mul (je_tup (ja_cons je_int ja_nil)) (je_var 3)))))) (jn_lv (jn_lc (jlc1 (own := [("_law_form_here", 7)]) 7 (ji_seq (je_ix jix_seq (je_var 1) je_int)) jts_nil (je_op jo_add (je_op jo_mul (je_tup (ja_cons je_int ja_nil)) (je_var 2)) (je_var 7)))))))
 (jss_cons (js_set 5 je_dict0)
 (jss_cons (js_for (ji_zip E.b_zip (ja_cons (je_call (h__law_pairs.mono (by decide)) (ja_cons (je_var 2) ja_nil) (lenA_cons lenA_nil)) (ja_cons (je_ix jix_seq (je_var 0) je_int) ja_nil)) (hn := (lenA_cons (lenA_cons lenA_nil)))) (jg_tup 2 (jgs_cons (jg_name 6) (jgs_cons (jg_name 7) jgs_nil))) (jss_one (js_asg (je_op jo_add (je_var 7) (je_op jo_mul (je_tup (ja_cons je_int ja_nil)) (je_var 3))) (jg_sub jset_any (je_var 5) (je_var 6)))))
 (jss_cons (js_for (ji_zip E.b_zip (ja_cons (je_call (h__law_pairs.mono (by decide)) (ja_cons (je_var 3) ja_nil) (lenA_cons lenA_nil)) (ja_cons (je_ix jix_seq (je_var 1) je_int) ja_nil)) (hn := (lenA_cons (lenA_cons lenA_nil)))) (jg_tup 2 (jgs_cons (jg_name 6) (jgs_cons (jg_name 7) jgs_nil))) (jss_one (js_asg (je_op jo_add (je_op jo_mul (je_tup (ja_cons je_int ja_nil)) (je_var 2)) (je_var 7)) (jg_sub jset_any (je_var 5) (je_tup (ja_cons (je_op jo_add (je_ix jix_seq (je_var 6) je_int) (je_var 2)) (ja_cons (je_op jo_add (je_ix jix_seq (je_var 6) je_int) (je_var 2)) ja_nil)))))))
 (jss_cons (js_set 8 (je_op jo_add (je_var 2) (je_var 3)))
 (jss_cons (js_lcLv 9 (jlc1 (own := [("_law_pair", 6)]) 6 (ji_seq (je_call (h__law_pairs.mono (by decide)) (ja_cons (je_var 8) ja_nil) (lenA_cons lenA_nil))) jts_nil (je_mtD PySem.F.slot_dict_get PySem.F.type_dict_get jm_getT (je_var 5) (ja_cons (je_var 6) (ja_cons (je_call (h__law_alone.mono (by decide)) (ja_cons (je_var 8) (ja_cons (je_ix jix_seq (je_var 6) je_int) (ja_cons je_int ja_nil))) (lenA_cons (lenA_cons (lenA_cons lenA_nil)))) ja_nil)))))
 (jss_one (js_ret (je_tup (ja_cons (je_op jo_add (je_ix jix_seq (je_var 0) je_int) (je_ix jix_seq (je_var 1) je_int)) (ja_cons (je_callTy jb_tuple (by rfl) E.b_tuple (ja_cons (je_var 4) ja_nil)) (ja_cons (je_callTy jb_tuple (by rfl) E.b_tuple (ja_cons (je_var 9) ja_nil)) ja_nil))))))))))))))).trunc
abbrev s_law_form : Stmt := top 40
theorem has_law_form {G : Gs} (E : En G) (h__law_take : Has G 1 "_law_take" 2 f_law_take) {a : Addr} {fd : FuncData} (F : Fun G.K "_law_form" "_law_form" s_law_form a fd) (hg : G.mg "_law_form" = some (.ref a)) : Has G 2 "_law_form" 2 f_law_form := by
  exact (has_def (N := ["_law_state_here", "_law_rules_here", "_law_size"]) (ps := ["_law_state_here", "_law_rules_here"]) (k := 1) (m := m_law_form) F hg (F.binds (ps := ["_law_state_here", "_law_rules_here"]) fun _ _ _ _ _ _ us hl => match us, hl with | [_, _], _ => rfl) ⟨rfl, rfl, rfl, by decide +kernel, rfl, by decide +kernel, by decide +kernel⟩
   (jss_one (js_ret (je_callTy jb_tuple (by rfl) E.b_tuple (ja_cons (jn_lv (jn_lc (jlc1 (own := [("_law_size", 2)]) 2 (ji_seq (je_ix jix_seq (je_var 1) je_int)) jts_nil (je_call (h__law_take.mono (by decide)) (ja_cons (je_var 0) (ja_cons (je_var 2) ja_nil)) (lenA_cons (lenA_cons lenA_nil)))))) ja_nil))))).trunc
abbrev s_Ways_gathered : Stmt := inClass (top 6) 3
theorem has_Ways_gathered {G : Gs} (E : En G) (h_Ways_put : HasM G 2 "Ways" "put" 3 f_Ways_put) {C a : Addr} {fd : FuncData} (F : Fun G.K "gathered" "Ways.gathered" s_Ways_gathered a fd) (hc : G.mg "Ways" = some (.ref C)) (cl : Cls G.K C) (me : Meth G.K C "gathered" a) : HasM G 3 "Ways" "gathered" 2 f_Ways_gathered := by
  exact (has_meth (N := ["self", "word", "form", "letter"]) (ps := ["self", "word"]) (k := 2) (m := m_Ways_gathered) F hc cl me (F.binds (ps := ["self", "word"]) fun _ _ _ _ _ _ us hl => match us, hl with | [_, _], _ => rfl) ⟨rfl, rfl, rfl, by decide +kernel, rfl, by decide +kernel, by decide +kernel⟩
   (jss_cons (js_set 2 (jn_ref (jn_op jo_repL (jn_lv (jn_lst (ja_cons je_int ja_nil))) (je_callB jb_len (by rfl) E.b_len (ja_cons (je_fld E.C_Ways (.head _) (je_var 0)) ja_nil)))))
 (jss_cons (js_for (ji_seq (je_var 1)) (jg_name 3) (jss_one (js_do (je_meth (h_Ways_put.mono (by decide)) (je_var 0) (ja_cons (je_var 2) (ja_cons (je_var 3) ja_nil)) (lenA_cons (lenA_cons lenA_nil))))))
 (jss_one (js_ret (je_callTy jb_tuple (by rfl) E.b_tuple (ja_cons (je_var 2) ja_nil))))))).trunc
abbrev s_Table_come : Stmt := inClass (top 11) 1
theorem has_Table_come {G : Gs} (E : En G) (h_letters_of : Has G 1 "letters_of" 1 f_letters_of) (h_Ways_put : HasM G 2 "Ways" "put" 3 f_Ways_put) {C a : Addr} {fd : FuncData} (F : Fun G.K "come" "Table.come" s_Table_come a fd) (hc : G.mg "Table" = some (.ref C)) (cl : Cls G.K C) (me : Meth G.K C "come" a) : HasM G 3 "Table" "come" 3 f_Table_come := by
  exact (has_meth (N := ["self", "one", "other", "key", "form", "letter"]) (ps := ["self", "one", "other"]) (k := 2) (m := m_Table_come) F hc cl me (F.binds (ps := ["self", "one", "other"]) fun _ _ _ _ _ _ us hl => match us, hl with | [_, _, _], _ => rfl) ⟨rfl, rfl, rfl, by decide +kernel, rfl, by decide +kernel, by decide +kernel⟩
   (jss_cons (js_set 3 (je_tup (ja_cons (je_var 1) (ja_cons (je_var 2) ja_nil))))
 (jss_cons (js_if (jt_cmp jo_notinA (je_var 3) (je_fld E.C_Table (.tail _ (.head _)) (je_var 0))) (jss_cons (js_set 4 (jn_ref (jn_callTy jb_list (by rfl) E.b_list (ja_cons (je_var 1) ja_nil))))
 (jss_cons (js_for (ji_seq (je_call (h_letters_of.mono (by decide)) (ja_cons (je_var 2) ja_nil) (lenA_cons lenA_nil))) (jg_name 5) (jss_one (js_do (je_meth (h_Ways_put.mono (by decide)) (je_fld E.C_Table (.head _) (je_var 0)) (ja_cons (je_var 4) (ja_cons (je_var 5) ja_nil)) (lenA_cons (lenA_cons lenA_nil))))))
 (jss_one (js_asg (je_callTy jb_tuple (by rfl) E.b_tuple (ja_cons (je_var 4) ja_nil)) (jg_sub jset_any (je_fld E.C_Table (.tail _ (.head _)) (je_var 0)) (je_var 3)))))) jss_nil)
 (jss_one (js_ret (je_ix jix_any (je_fld E.C_Table (.tail _ (.head _)) (je_var 0)) (je_var 3))))))).trunc
abbrev s_law_rules : Stmt := top 38
theorem has_law_rules {G : Gs} (E : En G) (h__law_take : Has G 1 "_law_take" 2 f_law_take) (h__law_times : Has G 1 "_law_times" 1 f_product_of) (h__law_sizes : Has G 2 "_law_sizes" 2 f_law_sizes) (h__law_plain_rules : Has G 2 "_law_plain_rules" 2 f_law_plain_rules) (h__law_turning : Has G 2 "_law_turning" 2 f_law_turning) (h__law_meeting : Has G 2 "_law_meeting" 2 f_law_meeting) (h__law_beside : Has G 2 "_law_beside" 2 f_law_beside) {a : Addr} {fd : FuncData} (F : Fun G.K "_law_rules" "_law_rules" s_law_rules a fd) (hg : G.mg "_law_rules" = some (.ref a)) : Has G 3 "_law_rules" 2 f_law_rules := by
  exact (has_def (N := ["_law_state_here", "_law_most", "_law_kind", "_law_found", "_law_left"]) (ps := ["_law_state_here", "_law_most"]) (k := 2) (m := m_law_rules) F hg (F.binds (ps := ["_law_state_here", "_law_most"]) fun _ _ _ _ _ _ us hl => match us, hl with | [_, _], _ => rfl) ⟨rfl, rfl, rfl, by decide +kernel, rfl, by decide +kernel, by decide +kernel⟩
   (jss_cons (js_set 2 (je_call (h__law_take.mono (by decide)) (ja_cons (je_var 0) (ja_cons je_int ja_nil)) (lenA_cons (lenA_cons lenA_nil))))
 (jss_cons (js_set 3 (je_call (h__law_plain_rules.mono (by decide)) (ja_cons (je_var 0) (ja_cons (je_call (h__law_sizes.mono (by decide)) (ja_cons (je_var 0) (ja_cons (je_var 1) ja_nil)) (lenA_cons (lenA_cons lenA_nil))) ja_nil)) (lenA_cons (lenA_cons lenA_nil))))
 (jss_cons (js_if (jt_cmp jo_inT (je_var 2) (je_tup (ja_cons je_int (ja_cons je_int ja_nil)))) (jss_one (js_set 3 (je_call (h__law_turning.mono (by decide)) (ja_cons (je_var 0) (ja_cons (je_var 1) ja_nil)) (lenA_cons (lenA_cons lenA_nil))))) jss_nil)
 (jss_cons (js_if (jt_cmp jo_inT (je_var 2) (je_tup (ja_cons je_int (ja_cons je_int ja_nil)))) (jss_one (js_set 3 (je_call (h__law_meeting.mono (by decide)) (ja_cons (je_var 0) (ja_cons (je_var 1) ja_nil)) (lenA_cons (lenA_cons lenA_nil))))) jss_nil)
 (jss_cons (js_if (jw_pt (jw_and (jt_cmp jdGt (je_var 2) je_int) (jw_and1 (jt_cmp jo_eq (je_call (h__law_take.mono (by decide)) (ja_cons (je_var 0) (ja_cons je_int ja_nil)) (lenA_cons (lenA_cons lenA_nil))) je_int)))) (jss_cons (js_set 4 (je_op jdFdiv (je_var 1) (je_call (h__law_times.mono (by decide)) (ja_cons (je_ix jix_seq (je_var 3) je_int) ja_nil) (lenA_cons lenA_nil))))
 (jss_one (js_if (jw_pt (jw_and (jt_cmp jdGt (je_var 4) je_int) (jw_and1 (jt_cmp jdLt (je_callB jb_len (by rfl) E.b_len (ja_cons (je_ix jix_seq (je_var 3) je_int) ja_nil)) je_int)))) (jss_one (js_set 3 (je_call (h__law_beside.mono (by decide)) (ja_cons (je_var 3) (ja_cons (je_tup (ja_cons (je_tup (ja_cons (je_op jo_add je_int (je_call (h__law_take.mono (by decide)) (ja_cons (je_var 0) (ja_cons (je_callB jb_min (by rfl) E.b_min (ja_cons je_int (ja_cons (je_op jo_sub (je_var 4) je_int) ja_nil))) ja_nil)) (lenA_cons (lenA_cons lenA_nil)))) ja_nil)) (ja_cons (je_tup (ja_cons (je_tup (ja_cons je_int ja_nil)) ja_nil)) (ja_cons (je_tup ja_nil) ja_nil)))) ja_nil)) (lenA_cons (lenA_cons lenA_nil))))) jss_nil))) jss_nil)
 (jss_one (js_ret (je_var 3))))))))).trunc
abbrev s_is_whole : Stmt := top 7
theorem has_is_whole {G : Gs} (E : En G) (h_Ways___init__ : HasI G 2 "Ways" 2 f_Ways___init__) (h_Ways_gathered : HasM G 3 "Ways" "gathered" 2 f_Ways_gathered) (h_Ways_two_ways : HasM G 2 "Ways" "two_ways" 1 f_Ways_two_ways) {a : Addr} {fd : FuncData} (F : Fun G.K "is_whole" "is_whole" s_is_whole a fd) (hg : G.mg "is_whole" = some (.ref a)) : Has G 4 "is_whole" 1 f_is_whole := by
  exact (has_def (N := ["rules", "ways", "one", "other"]) (ps := ["rules"]) (k := 3) (m := m_is_whole) F hg (F.binds (ps := ["rules"]) fun _ _ _ _ _ _ us hl => match us, hl with | [_], _ => rfl) ⟨rfl, rfl, rfl, by decide +kernel, rfl, by decide +kernel, by decide +kernel⟩
   (jss_cons (js_set 1 (je_make h_Ways___init__ (by decide) (ja_cons (je_var 0) ja_nil) (lenA_cons lenA_nil)))
 (jss_one (js_ret (je_callB jb_all (by rfl) E.b_all (ja_cons (jn_lv (jn_lc (jlc2 (own := [("one", 2), ("other", 3)]) 2 3 (ji_seq (je_meth0 (h_Ways_two_ways.mono (by decide)) (je_var 1))) jts_nil (je_cmp jo_eq (je_meth (h_Ways_gathered.mono (by decide)) (je_var 1) (ja_cons (je_var 2) ja_nil) (lenA_cons lenA_nil)) (je_meth (h_Ways_gathered.mono (by decide)) (je_var 1) (ja_cons (je_var 3) ja_nil) (lenA_cons lenA_nil)))))) ja_nil)))))).trunc
abbrev s_Table___init__ : Stmt := inClass (top 11) 0
theorem has_Table___init__ {G : Gs} (E : En G) (h_Ways___init__ : HasI G 2 "Ways" 2 f_Ways___init__) {C a : Addr} {fd : FuncData} (F : Fun G.K "__init__" "Table.__init__" s_Table___init__ a fd) (hc : G.mg "Table" = some (.ref C)) (mk : Mk G.K C a) : HasI G 4 "Table" 2 f_Table___init__ := by
  exact has_init (N := ["self", "rules"]) (ps := ["self", "rules"]) (k := 3) (m := m_Table___init__) F hc mk (F.binds (ps := ["self", "rules"]) fun _ _ _ _ _ _ us hl => match us, hl with | [_, _], _ => rfl) ⟨rfl, rfl, rfl, by decide +kernel, rfl, by decide +kernel, by decide +kernel⟩
   (jss_cons (js_setF E.C_Table (.head _) (je_var 0) (je_make h_Ways___init__ (by decide) (ja_cons (je_var 1) ja_nil) (lenA_cons lenA_nil)))
 (jss_one (js_setF E.C_Table (.tail _ (.head _)) (je_var 0) je_dict0)))
abbrev s_times_of : Stmt := top 14
theorem has_times_of {G : Gs} (E : En G) (h_Table_come : HasM G 3 "Table" "come" 3 f_Table_come) {a : Addr} {fd : FuncData} (F : Fun G.K "times_of" "times_of" s_times_of a fd) (hg : G.mg "times_of" = some (.ref a)) : Has G 4 "times_of" 2 f_times_of := by
  exact (has_def (N := ["table", "form", "found", "here"]) (ps := ["table", "form"]) (k := 3) (m := m_times_of) F hg (F.binds (ps := ["table", "form"]) fun _ _ _ _ _ _ us hl => match us, hl with | [_, _], _ => rfl) ⟨rfl, rfl, rfl, by decide +kernel, rfl, by decide +kernel, by decide +kernel⟩
   (jss_cons (js_set 2 (jn_ref (jn_lst (ja_cons (je_op jo_mul (je_tup (ja_cons je_int ja_nil)) (je_callB jb_len (by rfl) E.b_len (ja_cons (je_var 1) ja_nil))) ja_nil))))
 (jss_cons (js_set 3 (je_var 1))
 (jss_cons (js_while (jt_val (je_callB jb_any (by rfl) E.b_any (ja_cons (je_var 3) ja_nil))) (jss_cons (js_do (je_mt PySem.F.plainAttrs_list PySem.F.slot_list_append PySem.F.type_list_append tyOk_list jm_append (je_var 2) (ja_cons (je_var 3) ja_nil)))
 (jss_one (js_set 3 (je_meth (h_Table_come.mono (by decide)) (je_var 0) (ja_cons (je_var 3) (ja_cons (je_var 1) ja_nil)) (lenA_cons (lenA_cons lenA_nil)))))))
 (jss_one (js_ret (je_var 2))))))).trunc
abbrev s_need_whole : Stmt := top 8
theorem has_need_whole {G : Gs} (E : En G) (h_is_whole : Has G 4 "is_whole" 1 f_is_whole) {a : Addr} {fd : FuncData} (F : Fun G.K "need_whole" "need_whole" s_need_whole a fd) (hg : G.mg "need_whole" = some (.ref a)) : Has G 5 "need_whole" 1 f_need_whole := by
  exact (has_def (N := ["rules"]) (ps := ["rules"]) (k := 4) (m := m_need_whole) F hg (F.binds (ps := ["rules"]) fun _ _ _ _ _ _ us hl => match us, hl with | [_], _ => rfl) ⟨rfl, rfl, rfl, by decide +kernel, rfl, by decide +kernel, by decide +kernel⟩
   (jss_one (js_if (jt_not (jt_val (je_call (h_is_whole.mono (by decide)) (ja_cons (je_var 0) ja_nil) (lenA_cons lenA_nil)))) (jss_one js_bad) jss_nil))).trunc
abbrev s_undone_by : Stmt := top 15
theorem has_undone_by {G : Gs} (E : En G) (h_times_of : Has G 4 "times_of" 2 f_times_of) {a : Addr} {fd : FuncData} (F : Fun G.K "undone_by" "undone_by" s_undone_by a fd) (hg : G.mg "undone_by" = some (.ref a)) : Has G 5 "undone_by" 2 f_undone_by := by
  exact (has_def (N := ["table", "form"]) (ps := ["table", "form"]) (k := 4) (m := m_undone_by) F hg (F.binds (ps := ["table", "form"]) fun _ _ _ _ _ _ us hl => match us, hl with | [_, _], _ => rfl) ⟨rfl, rfl, rfl, by decide +kernel, rfl, by decide +kernel, by decide +kernel⟩
   (jss_one (js_ret (je_ix jix_seq (je_call (h_times_of.mono (by decide)) (ja_cons (je_var 0) (ja_cons (je_var 1) ja_nil)) (lenA_cons (lenA_cons lenA_nil))) (je_neg je_int))))).trunc
abbrev s_all_forms : Stmt := top 10
theorem has_all_forms {G : Gs} (E : En G) (h_need_whole : Has G 5 "need_whole" 1 f_need_whole) (h_forms_of : Has G 1 "forms_of" 1 f_forms_of) {a : Addr} {fd : FuncData} (F : Fun G.K "all_forms" "all_forms" s_all_forms a fd) (hg : G.mg "all_forms" = some (.ref a)) : Has G 6 "all_forms" 1 f_all_forms := by
  exact (has_def (N := ["rules"]) (ps := ["rules"]) (k := 5) (m := m_all_forms) F hg (F.binds (ps := ["rules"]) fun _ _ _ _ _ _ us hl => match us, hl with | [_], _ => rfl) ⟨rfl, rfl, rfl, by decide +kernel, rfl, by decide +kernel, by decide +kernel⟩
   (jss_cons (js_do (je_call (h_need_whole.mono (by decide)) (ja_cons (je_var 0) ja_nil) (lenA_cons lenA_nil)))
 (jss_one (js_ret (je_call (h_forms_of.mono (by decide)) (ja_cons (je_ix jix_seq (je_var 0) je_int) ja_nil) (lenA_cons lenA_nil)))))).trunc
abbrev s_taken : Stmt := top 13
theorem has_taken {G : Gs} (E : En G) (h_Table___init__ : HasI G 4 "Table" 2 f_Table___init__) (h_Table_come : HasM G 3 "Table" "come" 3 f_Table_come) {a : Addr} {fd : FuncData} (F : Fun G.K "taken" "taken" s_taken a fd) (hg : G.mg "taken" = some (.ref a)) : Has G 6 "taken" 3 f_taken := by
  exact (has_def (N := ["rules", "one", "other"]) (ps := ["rules", "one", "other"]) (k := 5) (m := m_taken) F hg (F.binds (ps := ["rules", "one", "other"]) fun _ _ _ _ _ _ us hl => match us, hl with | [_, _, _], _ => rfl) ⟨rfl, rfl, rfl, by decide +kernel, rfl, by decide +kernel, by decide +kernel⟩
   (jss_one (js_ret (je_meth (h_Table_come.mono (by decide)) (je_make h_Table___init__ (by decide) (ja_cons (je_var 0) ja_nil) (lenA_cons lenA_nil)) (ja_cons (je_var 1) (ja_cons (je_var 2) ja_nil)) (lenA_cons (lenA_cons lenA_nil)))))).trunc
abbrev s_undone : Stmt := top 16
theorem has_undone {G : Gs} (E : En G) (h_Table___init__ : HasI G 4 "Table" 2 f_Table___init__) (h_undone_by : Has G 5 "undone_by" 2 f_undone_by) {a : Addr} {fd : FuncData} (F : Fun G.K "undone" "undone" s_undone a fd) (hg : G.mg "undone" = some (.ref a)) : Has G 6 "undone" 2 f_undone := by
  exact (has_def (N := ["rules", "form"]) (ps := ["rules", "form"]) (k := 5) (m := m_undone) F hg (F.binds (ps := ["rules", "form"]) fun _ _ _ _ _ _ us hl => match us, hl with | [_, _], _ => rfl) ⟨rfl, rfl, rfl, by decide +kernel, rfl, by decide +kernel, by decide +kernel⟩
   (jss_one (js_ret (je_call (h_undone_by.mono (by decide)) (ja_cons (je_make h_Table___init__ (by decide) (ja_cons (je_var 0) ja_nil) (lenA_cons lenA_nil)) (ja_cons (je_var 1) ja_nil)) (lenA_cons (lenA_cons lenA_nil)))))).trunc
abbrev s_so_often : Stmt := top 17
theorem has_so_often {G : Gs} (E : En G) (h_Table___init__ : HasI G 4 "Table" 2 f_Table___init__) (h_times_of : Has G 4 "times_of" 2 f_times_of) {a : Addr} {fd : FuncData} (F : Fun G.K "so_often" "so_often" s_so_often a fd) (hg : G.mg "so_often" = some (.ref a)) : Has G 6 "so_often" 3 f_so_often := by
  exact (has_def (N := ["rules", "form", "many", "found"]) (ps := ["rules", "form", "many"]) (k := 5) (m := m_so_often) F hg (F.binds (ps := ["rules", "form", "many"]) fun _ _ _ _ _ _ us hl => match us, hl with | [_, _, _], _ => rfl) ⟨rfl, rfl, rfl, by decide +kernel, rfl, by decide +kernel, by decide +kernel⟩
   (jss_cons (js_set 3 (je_call (h_times_of.mono (by decide)) (ja_cons (je_make h_Table___init__ (by decide) (ja_cons (je_var 0) ja_nil) (lenA_cons lenA_nil)) (ja_cons (je_var 1) ja_nil)) (lenA_cons (lenA_cons lenA_nil))))
 (jss_one (js_ret (je_ix jix_seq (je_var 3) (je_op jo_mod (je_var 2) (je_callB jb_len (by rfl) E.b_len (ja_cons (je_var 3) ja_nil)))))))).trunc
abbrev s_order_of : Stmt := top 18
theorem has_order_of {G : Gs} (E : En G) (h_Table___init__ : HasI G 4 "Table" 2 f_Table___init__) (h_times_of : Has G 4 "times_of" 2 f_times_of) {a : Addr} {fd : FuncData} (F : Fun G.K "order_of" "order_of" s_order_of a fd) (hg : G.mg "order_of" = some (.ref a)) : Has G 6 "order_of" 2 f_order_of := by
  exact (has_def (N := ["rules", "form"]) (ps := ["rules", "form"]) (k := 5) (m := m_order_of) F hg (F.binds (ps := ["rules", "form"]) fun _ _ _ _ _ _ us hl => match us, hl with | [_, _], _ => rfl) ⟨rfl, rfl, rfl, by decide +kernel, rfl, by decide +kernel, by decide +kernel⟩
   (jss_one (js_ret (je_callB jb_len (by rfl) E.b_len (ja_cons (je_call (h_times_of.mono (by decide)) (ja_cons (je_make h_Table___init__ (by decide) (ja_cons (je_var 0) ja_nil) (lenA_cons lenA_nil)) (ja_cons (je_var 1) ja_nil)) (lenA_cons (lenA_cons lenA_nil))) ja_nil))))).trunc
abbrev s_turned_by : Stmt := top 19
theorem has_turned_by {G : Gs} (E : En G) (h_Table_come : HasM G 3 "Table" "come" 3 f_Table_come) (h_undone_by : Has G 5 "undone_by" 2 f_undone_by) {a : Addr} {fd : FuncData} (F : Fun G.K "turned_by" "turned_by" s_turned_by a fd) (hg : G.mg "turned_by" = some (.ref a)) : Has G 6 "turned_by" 3 f_turned_by := by
  exact (has_def (N := ["table", "form", "by"]) (ps := ["table", "form", "by"]) (k := 5) (m := m_turned_by) F hg (F.binds (ps := ["table", "form", "by"]) fun _ _ _ _ _ _ us hl => match us, hl with | [_, _, _], _ => rfl) ⟨rfl, rfl, rfl, by decide +kernel, rfl, by decide +kernel, by decide +kernel⟩
   (jss_one (js_ret (je_meth (h_Table_come.mono (by decide)) (je_var 0) (ja_cons (je_meth (h_Table_come.mono (by decide)) (je_var 0) (ja_cons (je_call (h_undone_by.mono (by decide)) (ja_cons (je_var 0) (ja_cons (je_var 2) ja_nil)) (lenA_cons (lenA_cons lenA_nil))) (ja_cons (je_var 1) ja_nil)) (lenA_cons (lenA_cons lenA_nil))) (ja_cons (je_var 2) ja_nil)) (lenA_cons (lenA_cons lenA_nil)))))).trunc
abbrev s_turned : Stmt := top 20
theorem has_turned {G : Gs} (E : En G) (h_Table___init__ : HasI G 4 "Table" 2 f_Table___init__) (h_turned_by : Has G 6 "turned_by" 3 f_turned_by) {a : Addr} {fd : FuncData} (F : Fun G.K "turned" "turned" s_turned a fd) (hg : G.mg "turned" = some (.ref a)) : Has G 7 "turned" 3 f_turned := by
  exact (has_def (N := ["rules", "form", "by"]) (ps := ["rules", "form", "by"]) (k := 6) (m := m_turned) F hg (F.binds (ps := ["rules", "form", "by"]) fun _ _ _ _ _ _ us hl => match us, hl with | [_, _, _], _ => rfl) ⟨rfl, rfl, rfl, by decide +kernel, rfl, by decide +kernel, by decide +kernel⟩
   (jss_one (js_ret (je_call (h_turned_by.mono (by decide)) (ja_cons (je_make h_Table___init__ (by decide) (ja_cons (je_var 0) ja_nil) (lenA_cons lenA_nil)) (ja_cons (je_var 1) (ja_cons (je_var 2) ja_nil))) (lenA_cons (lenA_cons (lenA_cons lenA_nil))))))).trunc
abbrev s_meet_by : Stmt := top 21
theorem has_meet_by {G : Gs} (E : En G) (h_Table_come : HasM G 3 "Table" "come" 3 f_Table_come) (h_undone_by : Has G 5 "undone_by" 2 f_undone_by) (h_turned_by : Has G 6 "turned_by" 3 f_turned_by) {a : Addr} {fd : FuncData} (F : Fun G.K "meet_by" "meet_by" s_meet_by a fd) (hg : G.mg "meet_by" = some (.ref a)) : Has G 7 "meet_by" 3 f_meet_by := by
  exact (has_def (N := ["table", "one", "other"]) (ps := ["table", "one", "other"]) (k := 6) (m := m_meet_by) F hg (F.binds (ps := ["table", "one", "other"]) fun _ _ _ _ _ _ us hl => match us, hl with | [_, _, _], _ => rfl) ⟨rfl, rfl, rfl, by decide +kernel, rfl, by decide +kernel, by decide +kernel⟩
   (jss_one (js_ret (je_meth (h_Table_come.mono (by decide)) (je_var 0) (ja_cons (je_call (h_undone_by.mono (by decide)) (ja_cons (je_var 0) (ja_cons (je_var 1) ja_nil)) (lenA_cons (lenA_cons lenA_nil))) (ja_cons (je_call (h_turned_by.mono (by decide)) (ja_cons (je_var 0) (ja_cons (je_var 1) (ja_cons (je_var 2) ja_nil))) (lenA_cons (lenA_cons (lenA_cons lenA_nil)))) ja_nil)) (lenA_cons (lenA_cons lenA_nil)))))).trunc
abbrev s_go_together : Stmt := top 23
theorem has_go_together {G : Gs} (E : En G) (h_taken : Has G 6 "taken" 3 f_taken) {a : Addr} {fd : FuncData} (F : Fun G.K "go_together" "go_together" s_go_together a fd) (hg : G.mg "go_together" = some (.ref a)) : Has G 7 "go_together" 3 f_go_together := by
  exact (has_def (N := ["rules", "one", "other"]) (ps := ["rules", "one", "other"]) (k := 6) (m := m_go_together) F hg (F.binds (ps := ["rules", "one", "other"]) fun _ _ _ _ _ _ us hl => match us, hl with | [_, _, _], _ => rfl) ⟨rfl, rfl, rfl, by decide +kernel, rfl, by decide +kernel, by decide +kernel⟩
   (jss_one (js_ret (je_cmp jo_eq (je_call (h_taken.mono (by decide)) (ja_cons (je_var 0) (ja_cons (je_var 1) (ja_cons (je_var 2) ja_nil))) (lenA_cons (lenA_cons (lenA_cons lenA_nil)))) (je_call (h_taken.mono (by decide)) (ja_cons (je_var 0) (ja_cons (je_var 2) (ja_cons (je_var 1) ja_nil))) (lenA_cons (lenA_cons (lenA_cons lenA_nil)))))))).trunc
abbrev s_lots : Stmt := top 24
theorem has_lots {G : Gs} (E : En G) (h_forms_of : Has G 1 "forms_of" 1 f_forms_of) (h_Table___init__ : HasI G 4 "Table" 2 f_Table___init__) (h_turned_by : Has G 6 "turned_by" 3 f_turned_by) {a : Addr} {fd : FuncData} (F : Fun G.K "lots" "lots" s_lots a fd) (hg : G.mg "lots" = some (.ref a)) : Has G 7 "lots" 1 f_lots := by
  exact (has_def (N := ["rules", "table", "every", "seen", "found", "form", "lot", "other", "by"]) (ps := ["rules"]) (k := 6) (m := m_lots) F hg (F.binds (ps := ["rules"]) fun _ _ _ _ _ _ us hl => match us, hl with | [_], _ => rfl) ⟨rfl, rfl, rfl, by decide +kernel, rfl, by decide +kernel, by decide +kernel⟩
   (jss_cons (js_set 1 (je_make h_Table___init__ (by decide) (ja_cons (je_var 0) ja_nil) (lenA_cons lenA_nil)))
 (jss_cons (js_set 2 (je_call (h_forms_of.mono (by decide)) (ja_cons (je_ix jix_seq (je_var 0) je_int) ja_nil) (lenA_cons lenA_nil)))
 (jss_cons (js_set 3 je_dict0)
 (jss_cons (js_set 4 (jn_ref (jn_lst ja_nil)))
 (jss_cons (js_for (ji_seq (je_var 2)) (jg_name 5) (jss_one (js_if (jt_cmp jo_notinA (je_var 5) (je_var 3)) (jss_cons (js_set 6 (jn_lv (jn_sortset E.b_sorted E.b_set (ja_cons (jn_lv (jn_lc (jlc1 (own := [("by", 8)]) 8 (ji_seq (je_var 2)) jts_nil (je_call (h_turned_by.mono (by decide)) (ja_cons (je_var 1) (ja_cons (je_var 5) (ja_cons (je_var 8) ja_nil))) (lenA_cons (lenA_cons (lenA_cons lenA_nil))))))) ja_nil))))
 (jss_cons (js_for (ji_seq (je_var 6)) (jg_name 7) (jss_one (js_asg je_bl (jg_sub jset_any (je_var 3) (je_var 7)))))
 (jss_one (js_do (je_mt PySem.F.plainAttrs_list PySem.F.slot_list_append PySem.F.type_list_append tyOk_list jm_append (je_var 4) (ja_cons (je_var 6) ja_nil)))))) jss_nil)))
 (jss_one (js_ret (je_var 4))))))))).trunc
abbrev s_law_often_right : Stmt := top 42
theorem has_law_often_right {G : Gs} (E : En G) (h_all_forms : Has G 6 "all_forms" 1 f_all_forms) (h_taken : Has G 6 "taken" 3 f_taken) (h_so_often : Has G 6 "so_often" 3 f_so_often) (h_order_of : Has G 6 "order_of" 2 f_order_of) {a : Addr} {fd : FuncData} (F : Fun G.K "_law_often_right" "_law_often_right" s_law_often_right a fd) (hg : G.mg "_law_often_right" = some (.ref a)) : Has G 7 "_law_often_right" 4 f_law_often_right := by
  exact (has_def (N := ["_law_rules_here", "_law_form_here", "_law_few", "_law_more", "_law_order"]) (ps := ["_law_rules_here", "_law_form_here", "_law_few", "_law_more"]) (k := 6) (m := m_law_often_right) F hg (F.binds (ps := ["_law_rules_here", "_law_form_here", "_law_few", "_law_more"]) fun _ _ _ _ _ _ us hl => match us, hl with | [_, _, _, _], _ => rfl) ⟨rfl, rfl, rfl, by decide +kernel, rfl, by decide +kernel, by decide +kernel⟩
   (jss_cons (js_if (jt_cmp jo_ne (je_call (h_taken.mono (by decide)) (ja_cons (je_var 0) (ja_cons (je_call (h_so_often.mono (by decide)) (ja_cons (je_var 0) (ja_cons (je_var 1) (ja_cons (je_var 2) ja_nil))) (lenA_cons (lenA_cons (lenA_cons lenA_nil)))) (ja_cons (je_call (h_so_often.mono (by decide)) (ja_cons (je_var 0) (ja_cons (je_var 1) (ja_cons (je_var 3) ja_nil))) (lenA_cons (lenA_cons (lenA_cons lenA_nil)))) ja_nil))) (lenA_cons (lenA_cons (lenA_cons lenA_nil)))) (je_call (h_so_often.mono (by decide)) (ja_cons (je_var 0) (ja_cons (je_var 1) (ja_cons (je_op jo_add (je_var 2) (je_var 3)) ja_nil))) (lenA_cons (lenA_cons (lenA_cons lenA_nil))))) (jss_one (js_ret je_bl)) jss_nil)
 (jss_cons (js_set 4 (je_call (h_order_of.mono (by decide)) (ja_cons (je_var 0) (ja_cons (je_var 1) ja_nil)) (lenA_cons (lenA_cons lenA_nil))))
 (jss_one (js_ret (je_and (je_not (je_callB jb_any (by rfl) E.b_any (ja_cons (je_call (h_so_often.mono (by decide)) (ja_cons (je_var 0) (ja_cons (je_var 1) (ja_cons (je_var 4) ja_nil))) (lenA_cons (lenA_cons (lenA_cons lenA_nil)))) ja_nil))) (je_one (je_cmp jo_eq (je_op jo_mod (je_callB jb_len (by rfl) E.b_len (ja_cons (je_call (h_all_forms.mono (by decide)) (ja_cons (je_var 0) ja_nil) (lenA_cons lenA_nil)) ja_nil)) (je_var 4)) je_int)))))))).trunc
abbrev s_meet : Stmt := top 22
theorem has_meet {G : Gs} (E : En G) (h_Table___init__ : HasI G 4 "Table" 2 f_Table___init__) (h_meet_by : Has G 7 "meet_by" 3 f_meet_by) {a : Addr} {fd : FuncData} (F : Fun G.K "meet" "meet" s_meet a fd) (hg : G.mg "meet" = some (.ref a)) : Has G 8 "meet" 3 f_meet := by
  exact (has_def (N := ["rules", "one", "other"]) (ps := ["rules", "one", "other"]) (k := 7) (m := m_meet) F hg (F.binds (ps := ["rules", "one", "other"]) fun _ _ _ _ _ _ us hl => match us, hl with | [_, _, _], _ => rfl) ⟨rfl, rfl, rfl, by decide +kernel, rfl, by decide +kernel, by decide +kernel⟩
   (jss_one (js_ret (je_call (h_meet_by.mono (by decide)) (ja_cons (je_make h_Table___init__ (by decide) (ja_cons (je_var 0) ja_nil) (lenA_cons lenA_nil)) (ja_cons (je_var 1) (ja_cons (je_var 2) ja_nil))) (lenA_cons (lenA_cons (lenA_cons lenA_nil))))))).trunc
abbrev s_law_lots_right : Stmt := top 43
theorem has_law_lots_right {G : Gs} (E : En G) (h_all_forms : Has G 6 "all_forms" 1 f_all_forms) (h_go_together : Has G 7 "go_together" 3 f_go_together) (h_lots : Has G 7 "lots" 1 f_lots) {a : Addr} {fd : FuncData} (F : Fun G.K "_law_lots_right" "_law_lots_right" s_law_lots_right a fd) (hg : G.mg "_law_lots_right" = some (.ref a)) : Has G 8 "_law_lots_right" 1 f_law_lots_right := by
  exact (has_def (N := ["_law_rules_here", "_law_every", "_law_some", "_law_there", "_law_lot", "_law_pairs_here", "_law_one", "_law_other"]) (ps := ["_law_rules_here"]) (k := 7) (m := m_law_lots_right) F hg (F.binds (ps := ["_law_rules_here"]) fun _ _ _ _ _ _ us hl => match us, hl with | [_], _ => rfl) ⟨rfl, rfl, rfl, by decide +kernel, rfl, by decide +kernel, by decide +kernel⟩
   (jss_cons (js_set 1 (je_call (h_all_forms.mono (by decide)) (ja_cons (je_var 0) ja_nil) (lenA_cons lenA_nil)))
 (jss_cons (js_set 2 (je_call (h_lots.mono (by decide)) (ja_cons (je_var 0) ja_nil) (lenA_cons lenA_nil)))
 (jss_cons (js_set 3 (jn_lv (jn_lst ja_nil)))
 (jss_cons (js_for (ji_seq (je_var 2)) (jg_name 4) (jss_cons (js_set 3 (je_op jo_add (je_var 3) (je_var 4)))
 (jss_one (js_if (jt_cmp jo_ne (je_op jo_mod (je_callB jb_len (by rfl) E.b_len (ja_cons (je_var 1) ja_nil)) (je_callB jb_len (by rfl) E.b_len (ja_cons (je_var 4) ja_nil))) je_int) (jss_one (js_ret je_bl)) jss_nil))))
 (jss_cons (js_if (jt_cmp jo_ne (jn_lv (jn_callB jb_sorted (by rfl) E.b_sorted (ja_cons (je_var 3) ja_nil))) (je_var 1)) (jss_one (js_ret je_bl)) jss_nil)
 (jss_cons (js_set 5 je_int)
 (jss_cons (js_for (ji_seq (je_var 1)) (jg_name 6) (jss_one (js_set 5 (je_op jo_add (je_var 5) (je_callB jb_len (by rfl) E.b_len (ja_cons (jn_lv (jn_lc (jlc1 (own := [("_law_other", 7)]) 7 (ji_seq (je_var 1)) (jts_one (jt_val (je_call (h_go_together.mono (by decide)) (ja_cons (je_var 0) (ja_cons (je_var 6) (ja_cons (je_var 7) ja_nil))) (lenA_cons (lenA_cons (lenA_cons lenA_nil)))))) (je_var 7)))) ja_nil))))))
 (jss_one (js_ret (je_cmp jo_eq (je_var 5) (je_op jo_mul (je_callB jb_len (by rfl) E.b_len (ja_cons (je_var 2) ja_nil)) (je_callB jb_len (by rfl) E.b_len (ja_cons (je_var 1) ja_nil)))))))))))))).trunc
abbrev s_law_three_right : Stmt := top 41
theorem has_law_three_right {G : Gs} (E : En G) (h_taken : Has G 6 "taken" 3 f_taken) (h_undone : Has G 6 "undone" 2 f_undone) (h_order_of : Has G 6 "order_of" 2 f_order_of) (h_turned : Has G 7 "turned" 3 f_turned) (h_meet : Has G 8 "meet" 3 f_meet) (h_go_together : Has G 7 "go_together" 3 f_go_together) {a : Addr} {fd : FuncData} (F : Fun G.K "_law_three_right" "_law_three_right" s_law_three_right a fd) (hg : G.mg "_law_three_right" = some (.ref a)) : Has G 9 "_law_three_right" 4 f_law_three_right := by
  exact (has_def (N := ["_law_rules_here", "_law_one", "_law_other", "_law_third", "_law_together"]) (ps := ["_law_rules_here", "_law_one", "_law_other", "_law_third"]) (k := 8) (m := m_law_three_right) F hg (F.binds (ps := ["_law_rules_here", "_law_one", "_law_other", "_law_third"]) fun _ _ _ _ _ _ us hl => match us, hl with | [_, _, _, _], _ => rfl) ⟨rfl, rfl, rfl, by decide +kernel, rfl, by decide +kernel, by decide +kernel⟩
   (jss_cons (js_if (jt_cmp jo_ne (je_call (h_taken.mono (by decide)) (ja_cons (je_var 0) (ja_cons (je_call (h_taken.mono (by decide)) (ja_cons (je_var 0) (ja_cons (je_var 1) (ja_cons (je_var 2) ja_nil))) (lenA_cons (lenA_cons (lenA_cons lenA_nil)))) (ja_cons (je_var 3) ja_nil))) (lenA_cons (lenA_cons (lenA_cons lenA_nil)))) (je_call (h_taken.mono (by decide)) (ja_cons (je_var 0) (ja_cons (je_var 1) (ja_cons (je_call (h_taken.mono (by decide)) (ja_cons (je_var 0) (ja_cons (je_var 2) (ja_cons (je_var 3) ja_nil))) (lenA_cons (lenA_cons (lenA_cons lenA_nil)))) ja_nil))) (lenA_cons (lenA_cons (lenA_cons lenA_nil))))) (jss_one (js_ret je_bl)) jss_nil)
 (jss_cons (js_if (jw_pt (jw_or (jt_val (je_callB jb_any (by rfl) E.b_any (ja_cons (je_call (h_taken.mono (by decide)) (ja_cons (je_var 0) (ja_cons (je_var 1) (ja_cons (je_call (h_undone.mono (by decide)) (ja_cons (je_var 0) (ja_cons (je_var 1) ja_nil)) (lenA_cons (lenA_cons lenA_nil))) ja_nil))) (lenA_cons (lenA_cons (lenA_cons lenA_nil)))) ja_nil))) (jw_or1 (jt_cmp jo_ne (je_call (h_undone.mono (by decide)) (ja_cons (je_var 0) (ja_cons (je_call (h_undone.mono (by decide)) (ja_cons (je_var 0) (ja_cons (je_var 1) ja_nil)) (lenA_cons (lenA_cons lenA_nil))) ja_nil)) (lenA_cons (lenA_cons lenA_nil))) (je_var 1))))) (jss_one (js_ret je_bl)) jss_nil)
 (jss_cons (js_if (jt_cmp jo_ne (je_call (h_turned.mono (by decide)) (ja_cons (je_var 0) (ja_cons (je_call (h_turned.mono (by decide)) (ja_cons (je_var 0) (ja_cons (je_var 1) (ja_cons (je_var 2) ja_nil))) (lenA_cons (lenA_cons (lenA_cons lenA_nil)))) (ja_cons (je_var 3) ja_nil))) (lenA_cons (lenA_cons (lenA_cons lenA_nil)))) (je_call (h_turned.mono (by decide)) (ja_cons (je_var 0) (ja_cons (je_var 1) (ja_cons (je_call (h_taken.mono (by decide)) (ja_cons (je_var 0) (ja_cons (je_var 2) (ja_cons (je_var 3) ja_nil))) (lenA_cons (lenA_cons (lenA_cons lenA_nil)))) ja_nil))) (lenA_cons (lenA_cons (lenA_cons lenA_nil))))) (jss_one (js_ret je_bl)) jss_nil)
 (jss_cons (js_set 4 (je_call (h_go_together.mono (by decide)) (ja_cons (je_var 0) (ja_cons (je_var 1) (ja_cons (je_var 2) ja_nil))) (lenA_cons (lenA_cons (lenA_cons lenA_nil)))))
 (jss_cons (js_if (jw_pt (jw_or (jt_cmp jo_eq (je_var 4) (je_callB jb_any (by rfl) E.b_any (ja_cons (je_call (h_meet.mono (by decide)) (ja_cons (je_var 0) (ja_cons (je_var 1) (ja_cons (je_var 2) ja_nil))) (lenA_cons (lenA_cons (lenA_cons lenA_nil)))) ja_nil))) (jw_or1 (jt_cmp jo_ne (je_var 4) (je_cmp jo_eq (je_call (h_turned.mono (by decide)) (ja_cons (je_var 0) (ja_cons (je_var 1) (ja_cons (je_var 2) ja_nil))) (lenA_cons (lenA_cons (lenA_cons lenA_nil)))) (je_var 1)))))) (jss_one (js_ret je_bl)) jss_nil)
 (jss_one (js_ret (je_cmp jo_eq (je_call (h_order_of.mono (by decide)) (ja_cons (je_var 0) (ja_cons (je_call (h_turned.mono (by decide)) (ja_cons (je_var 0) (ja_cons (je_var 1) (ja_cons (je_var 2) ja_nil))) (lenA_cons (lenA_cons (lenA_cons lenA_nil)))) ja_nil)) (lenA_cons (lenA_cons lenA_nil))) (je_call (h_order_of.mono (by decide)) (ja_cons (je_var 0) (ja_cons (je_var 1) ja_nil)) (lenA_cons (lenA_cons lenA_nil)))))))))))).trunc
abbrev s_law : Stmt := top 44
theorem has_law {G : Gs} (E : En G) (h__law_state : Has G 2 "_law_state" 2 f_law_state) (h__law_take : Has G 1 "_law_take" 2 f_law_take) (h__law_rules : Has G 3 "_law_rules" 2 f_law_rules) (h__law_form : Has G 2 "_law_form" 2 f_law_form) (h__law_three_right : Has G 9 "_law_three_right" 4 f_law_three_right) (h__law_often_right : Has G 7 "_law_often_right" 4 f_law_often_right) (h__law_lots_right : Has G 8 "_law_lots_right" 1 f_law_lots_right) {a : Addr} {fd : FuncData} (F : Fun G.K "law" "law" s_law a fd) : FnG G.P G.w G.K G.mg G.base (L2.CX G.P G.w) 10 a fd ["_law_script"] (spD G.K G.mw f_law_k25 1) := by
  exact fnok_def (N := ["_law_script", "_law_k", "_law_state_here", "_law_rules_here", "_law_one", "_law_other", "_law_third", "_law_number"]) (ps := ["_law_script"]) (k := 9) (m := m_law_k25) F ⟨rfl, rfl, rfl, by decide +kernel, rfl, by decide +kernel, by decide +kernel⟩
   (jss_cons (js_for (ji_range1 E.b_range (ja_cons (je_callB jb_max (by rfl) E.b_max (ja_cons je_int (ja_cons (je_callB jb_min (by rfl) E.b_min (ja_cons (je_callB jb_len (by rfl) E.b_len (ja_cons (je_var 0) ja_nil)) (ja_cons je_int ja_nil))) ja_nil))) ja_nil) (hn := (lenA_cons lenA_nil))) (jg_name 1) (jss_cons (js_set 2 (je_call (h__law_state.mono (by decide)) (ja_cons (je_var 0) (ja_cons (je_var 1) ja_nil)) (lenA_cons (lenA_cons lenA_nil))))
 (jss_cons (js_set 3 (je_call (h__law_rules.mono (by decide)) (ja_cons (je_var 2) (ja_cons (je_ix jix_seq (jn_lv (jn_lst (ja_cons je_int (ja_cons je_int (ja_cons je_int ja_nil))))) (je_call (h__law_take.mono (by decide)) (ja_cons (je_var 2) (ja_cons je_int ja_nil)) (lenA_cons (lenA_cons lenA_nil)))) ja_nil)) (lenA_cons (lenA_cons lenA_nil))))
 (jss_cons (js_asg (jn_lv (jn_lc (jlc1 (own := [("_law_number", 7)]) 7 (ji_range1 E.b_range (ja_cons je_int ja_nil) (hn := (lenA_cons lenA_nil))) jts_nil (je_call (h__law_form.mono (by decide)) (ja_cons (je_var 2) (ja_cons (je_var 3) ja_nil)) (lenA_cons (lenA_cons lenA_nil)))))) (jg_tupL 3 (jgs_cons (jg_name 4) (jgs_cons (jg_name 5) (jgs_cons (jg_name 6) jgs_nil)))))
 (jss_cons (js_if (jt_not (jt_val (je_call (h__law_three_right.mono (by decide)) (ja_cons (je_var 3) (ja_cons (je_var 4) (ja_cons (je_var 5) (ja_cons (je_var 6) ja_nil)))) (lenA_cons (lenA_cons (lenA_cons (lenA_cons lenA_nil))))))) (jss_one (js_ret je_bl)) jss_nil)
 (jss_cons (js_if (jt_not (jt_val (je_call (h__law_often_right.mono (by decide)) (ja_cons (je_var 3) (ja_cons (je_var 4) (ja_cons (je_op jo_sub (je_call (h__law_take.mono (by decide)) (ja_cons (je_var 2) (ja_cons je_int ja_nil)) (lenA_cons (lenA_cons lenA_nil))) je_int) (ja_cons (je_op jo_sub (je_call (h__law_take.mono (by decide)) (ja_cons (je_var 2) (ja_cons je_int ja_nil)) (lenA_cons (lenA_cons lenA_nil))) je_int) ja_nil)))) (lenA_cons (lenA_cons (lenA_cons (lenA_cons lenA_nil))))))) (jss_one (js_ret je_bl)) jss_nil)
 (jss_one (js_if (jt_not (jt_val (je_call (h__law_lots_right.mono (by decide)) (ja_cons (je_var 3) ja_nil) (lenA_cons lenA_nil)))) (jss_one (js_ret je_bl)) jss_nil))))))))
 (jss_one (js_ret je_bl)))
end MP

namespace MP
open PySem L2
theorem asm {w : World} {K : PySem.W.Frag} {h : Heap} {mg : Str → Option Value} {fa : Addr} (X : K.In h) (G : h.Ns mainGlobals mg) (hfa : mg "law" = some (.ref fa))
    (c_Ways : ClsH K "Ways" ["sizes", "powers", "swaps"])
    (c_Table : ClsH K "Table" ["ways", "known"])
    (d_pairs_of : DefH K "pairs_of" s_pairs_of)
    (d_letters_of : DefH K "letters_of" s_letters_of)
    (d_Ways_exchange : MethH K "Ways" "exchange" "Ways.exchange" s_Ways_exchange)
    (d_forms_of : DefH K "forms_of" s_forms_of)
    (d_law_cell_at : DefH K "_law_cell_at" s_law_cell_at)
    (d_law_take : DefH K "_law_take" s_law_take)
    (d_law_pairs : DefH K "_law_pairs" s_law_pairs)
    (d_law_times : DefH K "_law_times" s_law_times)
    (d_law_alone : DefH K "_law_alone" s_law_alone)
    (d_law_taken : DefH K "_law_taken" s_law_taken)
    (d_Ways___init__ : InitH K "Ways" "Ways.__init__" s_Ways___init__)
    (d_Ways_put : MethH K "Ways" "put" "Ways.put" s_Ways_put)
    (d_Ways_two_ways : MethH K "Ways" "two_ways" "Ways.two_ways" s_Ways_two_ways)
    (d_law_state : DefH K "_law_state" s_law_state)
    (d_law_sizes : DefH K "_law_sizes" s_law_sizes)
    (d_law_plain_rules : DefH K "_law_plain_rules" s_law_plain_rules)
    (d_law_turning : DefH K "_law_turning" s_law_turning)
    (d_law_meeting : DefH K "_law_meeting" s_law_meeting)
    (d_law_beside : DefH K "_law_beside" s_law_beside)
    (d_law_form : DefH K "_law_form" s_law_form)
    (d_Ways_gathered : MethH K "Ways" "gathered" "Ways.gathered" s_Ways_gathered)
    (d_Table_come : MethH K "Table" "come" "Table.come" s_Table_come)
    (d_law_rules : DefH K "_law_rules" s_law_rules)
    (d_is_whole : DefH K "is_whole" s_is_whole)
    (d_Table___init__ : InitH K "Table" "Table.__init__" s_Table___init__)
    (d_times_of : DefH K "times_of" s_times_of)
    (d_need_whole : DefH K "need_whole" s_need_whole)
    (d_undone_by : DefH K "undone_by" s_undone_by)
    (d_all_forms : DefH K "all_forms" s_all_forms)
    (d_taken : DefH K "taken" s_taken)
    (d_undone : DefH K "undone" s_undone)
    (d_so_often : DefH K "so_often" s_so_often)
    (d_order_of : DefH K "order_of" s_order_of)
    (d_turned_by : DefH K "turned_by" s_turned_by)
    (d_turned : DefH K "turned" s_turned)
    (d_meet_by : DefH K "meet_by" s_meet_by)
    (d_go_together : DefH K "go_together" s_go_together)
    (d_lots : DefH K "lots" s_lots)
    (d_law_often_right : DefH K "_law_often_right" s_law_often_right)
    (d_meet : DefH K "meet" s_meet)
    (d_law_lots_right : DefH K "_law_lots_right" s_law_lots_right)
    (d_law_three_right : DefH K "_law_three_right" s_law_three_right)
    (d_law : DefH K "law" s_law)
    (e_all : PySem.W.nsIn K mainGlobals "all" = some none)
    (e_any : PySem.W.nsIn K mainGlobals "any" = some none)
    (e_enumerate : PySem.W.nsIn K mainGlobals "enumerate" = some none)
    (e_int : PySem.W.nsIn K mainGlobals "int" = some none)
    (e_len : PySem.W.nsIn K mainGlobals "len" = some none)
    (e_list : PySem.W.nsIn K mainGlobals "list" = some none)
    (e_max : PySem.W.nsIn K mainGlobals "max" = some none)
    (e_min : PySem.W.nsIn K mainGlobals "min" = some none)
    (e_range : PySem.W.nsIn K mainGlobals "range" = some none)
    (e_set : PySem.W.nsIn K mainGlobals "set" = some none)
    (e_sorted : PySem.W.nsIn K mainGlobals "sorted" = some none)
    (e_tuple : PySem.W.nsIn K mainGlobals "tuple" = some none)
    (e_zip : PySem.W.nsIn K mainGlobals "zip" = some none) :
    LawAt PySem.Challenge.pw_gatherwords_k25_whole_forms_taken w K mg fa 10 "_law_script" := by
  obtain ⟨C_Ways, q_Ways, cl_Ways, na_Ways⟩ := c_Ways.ex
  obtain ⟨C_Table, q_Table, cl_Table, na_Table⟩ := c_Table.ex
  obtain ⟨a_pairs_of, fd_pairs_of, n_pairs_of, F_pairs_of⟩ := d_pairs_of.ex
  obtain ⟨a_letters_of, fd_letters_of, n_letters_of, F_letters_of⟩ := d_letters_of.ex
  obtain ⟨C2_Ways_exchange, a_Ways_exchange, fd_Ways_exchange, n_Ways_exchange, M_Ways_exchange, F_Ways_exchange⟩ := d_Ways_exchange.ex
  cases q_Ways.symm.trans n_Ways_exchange
  obtain ⟨a_forms_of, fd_forms_of, n_forms_of, F_forms_of⟩ := d_forms_of.ex
  obtain ⟨a_law_cell_at, fd_law_cell_at, n_law_cell_at, F_law_cell_at⟩ := d_law_cell_at.ex
  obtain ⟨a_law_take, fd_law_take, n_law_take, F_law_take⟩ := d_law_take.ex
  obtain ⟨a_law_pairs, fd_law_pairs, n_law_pairs, F_law_pairs⟩ := d_law_pairs.ex
  obtain ⟨a_law_times, fd_law_times, n_law_times, F_law_times⟩ := d_law_times.ex
  obtain ⟨a_law_alone, fd_law_alone, n_law_alone, F_law_alone⟩ := d_law_alone.ex
  obtain ⟨a_law_taken, fd_law_taken, n_law_taken, F_law_taken⟩ := d_law_taken.ex
  obtain ⟨C2_Ways___init__, a_Ways___init__, fd_Ways___init__, n_Ways___init__, M_Ways___init__, F_Ways___init__⟩ := d_Ways___init__.ex
  cases q_Ways.symm.trans n_Ways___init__
  obtain ⟨C2_Ways_put, a_Ways_put, fd_Ways_put, n_Ways_put, M_Ways_put, F_Ways_put⟩ := d_Ways_put.ex
  cases q_Ways.symm.trans n_Ways_put
  obtain ⟨C2_Ways_two_ways, a_Ways_two_ways, fd_Ways_two_ways, n_Ways_two_ways, M_Ways_two_ways, F_Ways_two_ways⟩ := d_Ways_two_ways.ex
  cases q_Ways.symm.trans n_Ways_two_ways
  obtain ⟨a_law_state, fd_law_state, n_law_state, F_law_state⟩ := d_law_state.ex
  obtain ⟨a_law_sizes, fd_law_sizes, n_law_sizes, F_law_sizes⟩ := d_law_sizes.ex
  obtain ⟨a_law_plain_rules, fd_law_plain_rules, n_law_plain_rules, F_law_plain_rules⟩ := d_law_plain_rules.ex
  obtain ⟨a_law_turning, fd_law_turning, n_law_turning, F_law_turning⟩ := d_law_turning.ex
  obtain ⟨a_law_meeting, fd_law_meeting, n_law_meeting, F_law_meeting⟩ := d_law_meeting.ex
  obtain ⟨a_law_beside, fd_law_beside, n_law_beside, F_law_beside⟩ := d_law_beside.ex
  obtain ⟨a_law_form, fd_law_form, n_law_form, F_law_form⟩ := d_law_form.ex
  obtain ⟨C2_Ways_gathered, a_Ways_gathered, fd_Ways_gathered, n_Ways_gathered, M_Ways_gathered, F_Ways_gathered⟩ := d_Ways_gathered.ex
  cases q_Ways.symm.trans n_Ways_gathered
  obtain ⟨C2_Table_come, a_Table_come, fd_Table_come, n_Table_come, M_Table_come, F_Table_come⟩ := d_Table_come.ex
  cases q_Table.symm.trans n_Table_come
  obtain ⟨a_law_rules, fd_law_rules, n_law_rules, F_law_rules⟩ := d_law_rules.ex
  obtain ⟨a_is_whole, fd_is_whole, n_is_whole, F_is_whole⟩ := d_is_whole.ex
  obtain ⟨C2_Table___init__, a_Table___init__, fd_Table___init__, n_Table___init__, M_Table___init__, F_Table___init__⟩ := d_Table___init__.ex
  cases q_Table.symm.trans n_Table___init__
  obtain ⟨a_times_of, fd_times_of, n_times_of, F_times_of⟩ := d_times_of.ex
  obtain ⟨a_need_whole, fd_need_whole, n_need_whole, F_need_whole⟩ := d_need_whole.ex
  obtain ⟨a_undone_by, fd_undone_by, n_undone_by, F_undone_by⟩ := d_undone_by.ex
  obtain ⟨a_all_forms, fd_all_forms, n_all_forms, F_all_forms⟩ := d_all_forms.ex
  obtain ⟨a_taken, fd_taken, n_taken, F_taken⟩ := d_taken.ex
  obtain ⟨a_undone, fd_undone, n_undone, F_undone⟩ := d_undone.ex
  obtain ⟨a_so_often, fd_so_often, n_so_often, F_so_often⟩ := d_so_often.ex
  obtain ⟨a_order_of, fd_order_of, n_order_of, F_order_of⟩ := d_order_of.ex
  obtain ⟨a_turned_by, fd_turned_by, n_turned_by, F_turned_by⟩ := d_turned_by.ex
  obtain ⟨a_turned, fd_turned, n_turned, F_turned⟩ := d_turned.ex
  obtain ⟨a_meet_by, fd_meet_by, n_meet_by, F_meet_by⟩ := d_meet_by.ex
  obtain ⟨a_go_together, fd_go_together, n_go_together, F_go_together⟩ := d_go_together.ex
  obtain ⟨a_lots, fd_lots, n_lots, F_lots⟩ := d_lots.ex
  obtain ⟨a_law_often_right, fd_law_often_right, n_law_often_right, F_law_often_right⟩ := d_law_often_right.ex
  obtain ⟨a_meet, fd_meet, n_meet, F_meet⟩ := d_meet.ex
  obtain ⟨a_law_lots_right, fd_law_lots_right, n_law_lots_right, F_law_lots_right⟩ := d_law_lots_right.ex
  obtain ⟨a_law_three_right, fd_law_three_right, n_law_three_right, F_law_three_right⟩ := d_law_three_right.ex
  obtain ⟨a_law, fd_law, n_law, F_law⟩ := d_law.ex
  have e := hfa.symm.trans (PySem.W.mg_of X G n_law)
  cases e
  refine ⟨fd_law, ?_, fun base _ _ => ?_⟩
  · obtain ⟨oc, od, kV, dc, pm, an, cd, ct, sl, rfl, _⟩ := F_law.ex
    exact fun s v => .of_eq rfl
  · have E : En ⟨PySem.Challenge.pw_gatherwords_k25_whole_forms_taken, w, K, mg, base⟩ := ⟨PySem.W.mg_none_of X G e_all, PySem.W.mg_none_of X G e_any, PySem.W.mg_none_of X G e_enumerate, PySem.W.mg_none_of X G e_int, PySem.W.mg_none_of X G e_len, PySem.W.mg_none_of X G e_list, PySem.W.mg_none_of X G e_max, PySem.W.mg_none_of X G e_min, PySem.W.mg_none_of X G e_range, PySem.W.mg_none_of X G e_set, PySem.W.mg_none_of X G e_sorted, PySem.W.mg_none_of X G e_tuple, PySem.W.mg_none_of X G e_zip, hasC_of (PySem.W.mg_of X G q_Ways) cl_Ways na_Ways, hasC_of (PySem.W.mg_of X G q_Table) cl_Table na_Table⟩
    have h_pairs_of := has_pairs_of (G := ⟨PySem.Challenge.pw_gatherwords_k25_whole_forms_taken, w, K, mg, base⟩) E  F_pairs_of (PySem.W.mg_of X G n_pairs_of)
    have h_letters_of := has_letters_of (G := ⟨PySem.Challenge.pw_gatherwords_k25_whole_forms_taken, w, K, mg, base⟩) E  F_letters_of (PySem.W.mg_of X G n_letters_of)
    have h_Ways_exchange := has_Ways_exchange (G := ⟨PySem.Challenge.pw_gatherwords_k25_whole_forms_taken, w, K, mg, base⟩) E  F_Ways_exchange (PySem.W.mg_of X G q_Ways) cl_Ways M_Ways_exchange
    have h_forms_of := has_forms_of (G := ⟨PySem.Challenge.pw_gatherwords_k25_whole_forms_taken, w, K, mg, base⟩) E  F_forms_of (PySem.W.mg_of X G n_forms_of)
    have h__law_cell_at := has_law_cell_at (G := ⟨PySem.Challenge.pw_gatherwords_k25_whole_forms_taken, w, K, mg, base⟩) E  F_law_cell_at (PySem.W.mg_of X G n_law_cell_at)
    have h__law_take := has_law_take (G := ⟨PySem.Challenge.pw_gatherwords_k25_whole_forms_taken, w, K, mg, base⟩) E  F_law_take (PySem.W.mg_of X G n_law_take)
    have h__law_pairs := has_law_pairs (G := ⟨PySem.Challenge.pw_gatherwords_k25_whole_forms_taken, w, K, mg, base⟩) E  F_law_pairs (PySem.W.mg_of X G n_law_pairs)
    have h__law_times := has_law_times (G := ⟨PySem.Challenge.pw_gatherwords_k25_whole_forms_taken, w, K, mg, base⟩) E  F_law_times (PySem.W.mg_of X G n_law_times)
    have h__law_alone := has_law_alone (G := ⟨PySem.Challenge.pw_gatherwords_k25_whole_forms_taken, w, K, mg, base⟩) E  F_law_alone (PySem.W.mg_of X G n_law_alone)
    have h__law_taken := has_law_taken (G := ⟨PySem.Challenge.pw_gatherwords_k25_whole_forms_taken, w, K, mg, base⟩) E  F_law_taken (PySem.W.mg_of X G n_law_taken)
    have h_Ways___init__ := has_Ways___init__ (G := ⟨PySem.Challenge.pw_gatherwords_k25_whole_forms_taken, w, K, mg, base⟩) E h_pairs_of h_letters_of F_Ways___init__ (PySem.W.mg_of X G q_Ways) M_Ways___init__
    have h_Ways_put := has_Ways_put (G := ⟨PySem.Challenge.pw_gatherwords_k25_whole_forms_taken, w, K, mg, base⟩) E h_Ways_exchange F_Ways_put (PySem.W.mg_of X G q_Ways) cl_Ways M_Ways_put
    have h_Ways_two_ways := has_Ways_two_ways (G := ⟨PySem.Challenge.pw_gatherwords_k25_whole_forms_taken, w, K, mg, base⟩) E h_pairs_of h_Ways_exchange F_Ways_two_ways (PySem.W.mg_of X G q_Ways) cl_Ways M_Ways_two_ways
    have h__law_state := has_law_state (G := ⟨PySem.Challenge.pw_gatherwords_k25_whole_forms_taken, w, K, mg, base⟩) E h__law_cell_at F_law_state (PySem.W.mg_of X G n_law_state)
    have h__law_sizes := has_law_sizes (G := ⟨PySem.Challenge.pw_gatherwords_k25_whole_forms_taken, w, K, mg, base⟩) E h__law_take h__law_times F_law_sizes (PySem.W.mg_of X G n_law_sizes)
    have h__law_plain_rules := has_law_plain_rules (G := ⟨PySem.Challenge.pw_gatherwords_k25_whole_forms_taken, w, K, mg, base⟩) E h__law_take h__law_pairs h__law_alone F_law_plain_rules (PySem.W.mg_of X G n_law_plain_rules)
    have h__law_turning := has_law_turning (G := ⟨PySem.Challenge.pw_gatherwords_k25_whole_forms_taken, w, K, mg, base⟩) E h__law_take h__law_taken F_law_turning (PySem.W.mg_of X G n_law_turning)
    have h__law_meeting := has_law_meeting (G := ⟨PySem.Challenge.pw_gatherwords_k25_whole_forms_taken, w, K, mg, base⟩) E h__law_take F_law_meeting (PySem.W.mg_of X G n_law_meeting)
    have h__law_beside := has_law_beside (G := ⟨PySem.Challenge.pw_gatherwords_k25_whole_forms_taken, w, K, mg, base⟩) E h__law_pairs h__law_alone F_law_beside (PySem.W.mg_of X G n_law_beside)
    have h__law_form := has_law_form (G := ⟨PySem.Challenge.pw_gatherwords_k25_whole_forms_taken, w, K, mg, base⟩) E h__law_take F_law_form (PySem.W.mg_of X G n_law_form)
    have h_Ways_gathered := has_Ways_gathered (G := ⟨PySem.Challenge.pw_gatherwords_k25_whole_forms_taken, w, K, mg, base⟩) E h_Ways_put F_Ways_gathered (PySem.W.mg_of X G q_Ways) cl_Ways M_Ways_gathered
    have h_Table_come := has_Table_come (G := ⟨PySem.Challenge.pw_gatherwords_k25_whole_forms_taken, w, K, mg, base⟩) E h_letters_of h_Ways_put F_Table_come (PySem.W.mg_of X G q_Table) cl_Table M_Table_come
    have h__law_rules := has_law_rules (G := ⟨PySem.Challenge.pw_gatherwords_k25_whole_forms_taken, w, K, mg, base⟩) E h__law_take h__law_times h__law_sizes h__law_plain_rules h__law_turning h__law_meeting h__law_beside F_law_rules (PySem.W.mg_of X G n_law_rules)
    have h_is_whole := has_is_whole (G := ⟨PySem.Challenge.pw_gatherwords_k25_whole_forms_taken, w, K, mg, base⟩) E h_Ways___init__ h_Ways_gathered h_Ways_two_ways F_is_whole (PySem.W.mg_of X G n_is_whole)
    have h_Table___init__ := has_Table___init__ (G := ⟨PySem.Challenge.pw_gatherwords_k25_whole_forms_taken, w, K, mg, base⟩) E h_Ways___init__ F_Table___init__ (PySem.W.mg_of X G q_Table) M_Table___init__
    have h_times_of := has_times_of (G := ⟨PySem.Challenge.pw_gatherwords_k25_whole_forms_taken, w, K, mg, base⟩) E h_Table_come F_times_of (PySem.W.mg_of X G n_times_of)
    have h_need_whole := has_need_whole (G := ⟨PySem.Challenge.pw_gatherwords_k25_whole_forms_taken, w, K, mg, base⟩) E h_is_whole F_need_whole (PySem.W.mg_of X G n_need_whole)
    have h_undone_by := has_undone_by (G := ⟨PySem.Challenge.pw_gatherwords_k25_whole_forms_taken, w, K, mg, base⟩) E h_times_of F_undone_by (PySem.W.mg_of X G n_undone_by)
    have h_all_forms := has_all_forms (G := ⟨PySem.Challenge.pw_gatherwords_k25_whole_forms_taken, w, K, mg, base⟩) E h_need_whole h_forms_of F_all_forms (PySem.W.mg_of X G n_all_forms)
    have h_taken := has_taken (G := ⟨PySem.Challenge.pw_gatherwords_k25_whole_forms_taken, w, K, mg, base⟩) E h_Table___init__ h_Table_come F_taken (PySem.W.mg_of X G n_taken)
    have h_undone := has_undone (G := ⟨PySem.Challenge.pw_gatherwords_k25_whole_forms_taken, w, K, mg, base⟩) E h_Table___init__ h_undone_by F_undone (PySem.W.mg_of X G n_undone)
    have h_so_often := has_so_often (G := ⟨PySem.Challenge.pw_gatherwords_k25_whole_forms_taken, w, K, mg, base⟩) E h_Table___init__ h_times_of F_so_often (PySem.W.mg_of X G n_so_often)
    have h_order_of := has_order_of (G := ⟨PySem.Challenge.pw_gatherwords_k25_whole_forms_taken, w, K, mg, base⟩) E h_Table___init__ h_times_of F_order_of (PySem.W.mg_of X G n_order_of)
    have h_turned_by := has_turned_by (G := ⟨PySem.Challenge.pw_gatherwords_k25_whole_forms_taken, w, K, mg, base⟩) E h_Table_come h_undone_by F_turned_by (PySem.W.mg_of X G n_turned_by)
    have h_turned := has_turned (G := ⟨PySem.Challenge.pw_gatherwords_k25_whole_forms_taken, w, K, mg, base⟩) E h_Table___init__ h_turned_by F_turned (PySem.W.mg_of X G n_turned)
    have h_meet_by := has_meet_by (G := ⟨PySem.Challenge.pw_gatherwords_k25_whole_forms_taken, w, K, mg, base⟩) E h_Table_come h_undone_by h_turned_by F_meet_by (PySem.W.mg_of X G n_meet_by)
    have h_go_together := has_go_together (G := ⟨PySem.Challenge.pw_gatherwords_k25_whole_forms_taken, w, K, mg, base⟩) E h_taken F_go_together (PySem.W.mg_of X G n_go_together)
    have h_lots := has_lots (G := ⟨PySem.Challenge.pw_gatherwords_k25_whole_forms_taken, w, K, mg, base⟩) E h_forms_of h_Table___init__ h_turned_by F_lots (PySem.W.mg_of X G n_lots)
    have h__law_often_right := has_law_often_right (G := ⟨PySem.Challenge.pw_gatherwords_k25_whole_forms_taken, w, K, mg, base⟩) E h_all_forms h_taken h_so_often h_order_of F_law_often_right (PySem.W.mg_of X G n_law_often_right)
    have h_meet := has_meet (G := ⟨PySem.Challenge.pw_gatherwords_k25_whole_forms_taken, w, K, mg, base⟩) E h_Table___init__ h_meet_by F_meet (PySem.W.mg_of X G n_meet)
    have h__law_lots_right := has_law_lots_right (G := ⟨PySem.Challenge.pw_gatherwords_k25_whole_forms_taken, w, K, mg, base⟩) E h_all_forms h_go_together h_lots F_law_lots_right (PySem.W.mg_of X G n_law_lots_right)
    have h__law_three_right := has_law_three_right (G := ⟨PySem.Challenge.pw_gatherwords_k25_whole_forms_taken, w, K, mg, base⟩) E h_taken h_undone h_order_of h_turned h_meet h_go_together F_law_three_right (PySem.W.mg_of X G n_law_three_right)
    have h_law := has_law (G := ⟨PySem.Challenge.pw_gatherwords_k25_whole_forms_taken, w, K, mg, base⟩) E h__law_state h__law_take h__law_rules h__law_form h__law_three_right h__law_often_right h__law_lots_right F_law
    exact h_law.imp fun vs H Q E q => sp_of_law law_ok_k25 vs H Q E q
end MP
open PySem PySem.W PyProof.Rows in
set_option maxRecDepth 100000 in
set_option maxHeartbeats 0 in
theorem PySem.Challenge.cw_gatherwords_k25_whole_forms_taken_holds : PySem.Challenge.rw_gatherwords_k25_whole_forms_taken.Holds := by
  w_on; o_law; k_head; (case hw => w_witness2)
  k_fill
  refine MP.walk (l := PySem.Challenge.rw_gatherwords_k25_whole_forms_taken) (k := 10) (x := "_law_script") rfl rfl ⟨rfl, by decide, by decide⟩ (fun w h Y => PySem.W.kIn_of Y) ?F
  case F =>
    intro w mg fa h KX G hmg
    refine' MP.asm KX G hmg ?c_Ways ?c_Table ?d_pairs_of ?d_letters_of ?d_Ways_exchange ?d_forms_of ?d_law_cell_at ?d_law_take ?d_law_pairs ?d_law_times ?d_law_alone ?d_law_taken ?d_Ways___init__ ?d_Ways_put ?d_Ways_two_ways ?d_law_state ?d_law_sizes ?d_law_plain_rules ?d_law_turning ?d_law_meeting ?d_law_beside ?d_law_form ?d_Ways_gathered ?d_Table_come ?d_law_rules ?d_is_whole ?d_Table___init__ ?d_times_of ?d_need_whole ?d_undone_by ?d_all_forms ?d_taken ?d_undone ?d_so_often ?d_order_of ?d_turned_by ?d_turned ?d_meet_by ?d_go_together ?d_lots ?d_law_often_right ?d_meet ?d_law_lots_right ?d_law_three_right ?d_law ?e_all ?e_any ?e_enumerate ?e_int ?e_len ?e_list ?e_max ?e_min ?e_range ?e_set ?e_sorted ?e_tuple ?e_zip
    (case c_Ways => refine' MP.cls_h ?a ?pg ?hd ?po ?sa ⟨?f0, ?f1, ?f2, True.intro⟩; (case a => k_is); (case pg => k_is); (case hd => k_is); (case po => k_is); (case sa => k_is); (case f0 => show PySem.W.findIn _ _ _ = some none; k_is); (case f1 => show PySem.W.findIn _ _ _ = some none; k_is); (case f2 => show PySem.W.findIn _ _ _ = some none; k_is))
    (case c_Table => refine' MP.cls_h ?a ?pg ?hd ?po ?sa ⟨?f0, ?f1, True.intro⟩; (case a => k_is); (case pg => k_is); (case hd => k_is); (case po => k_is); (case sa => k_is); (case f0 => show PySem.W.findIn _ _ _ = some none; k_is); (case f1 => show PySem.W.findIn _ _ _ = some none; k_is))
    (case d_pairs_of => refine' MP.def_h ?a ?l ?c ?k; (case a => k_is); (case l => k_is); (case c => k_is); (case k => k_is))
    (case d_letters_of => refine' MP.def_h ?a ?l ?c ?k; (case a => k_is); (case l => k_is); (case c => k_is); (case k => k_is))
    (case d_Ways_exchange => refine' MP.meth_h ?n ?a ?i ?l ?c ?k; (case n => k_is); (case a => k_is); (case i => k_is); (case l => k_is); (case c => k_is); (case k => k_is))
    (case d_forms_of => refine' MP.def_h ?a ?l ?c ?k; (case a => k_is); (case l => k_is); (case c => k_is); (case k => k_is))
    (case d_law_cell_at => refine' MP.def_h ?a ?l ?c ?k; (case a => k_is); (case l => k_is); (case c => k_is); (case k => k_is))
    (case d_law_take => refine' MP.def_h ?a ?l ?c ?k; (case a => k_is); (case l => k_is); (case c => k_is); (case k => k_is))
    (case d_law_pairs => refine' MP.def_h ?a ?l ?c ?k; (case a => k_is); (case l => k_is); (case c => k_is); (case k => k_is))
    (case d_law_times => refine' MP.def_h ?a ?l ?c ?k; (case a => k_is); (case l => k_is); (case c => k_is); (case k => k_is))
    (case d_law_alone => refine' MP.def_h ?a ?l ?c ?k; (case a => k_is); (case l => k_is); (case c => k_is); (case k => k_is))
    (case d_law_taken => refine' MP.def_h ?a ?l ?c ?k; (case a => k_is); (case l => k_is); (case c => k_is); (case k => k_is))
    (case d_Ways___init__ => refine' MP.init_h ?n ?m ?kc ?a ?i ?l ?c ?k; (case n => k_is); (case m => k_is); (case kc => k_is); (case a => k_is); (case i => k_is); (case l => k_is); (case c => k_is); (case k => k_is))
    (case d_Ways_put => refine' MP.meth_h ?n ?a ?i ?l ?c ?k; (case n => k_is); (case a => k_is); (case i => k_is); (case l => k_is); (case c => k_is); (case k => k_is))
    (case d_Ways_two_ways => refine' MP.meth_h ?n ?a ?i ?l ?c ?k; (case n => k_is); (case a => k_is); (case i => k_is); (case l => k_is); (case c => k_is); (case k => k_is))
    (case d_law_state => refine' MP.def_h ?a ?l ?c ?k; (case a => k_is); (case l => k_is); (case c => k_is); (case k => k_is))
    (case d_law_sizes => refine' MP.def_h ?a ?l ?c ?k; (case a => k_is); (case l => k_is); (case c => k_is); (case k => k_is))
    (case d_law_plain_rules => refine' MP.def_h ?a ?l ?c ?k; (case a => k_is); (case l => k_is); (case c => k_is); (case k => k_is))
    (case d_law_turning => refine' MP.def_h ?a ?l ?c ?k; (case a => k_is); (case l => k_is); (case c => k_is); (case k => k_is))
    (case d_law_meeting => refine' MP.def_h ?a ?l ?c ?k; (case a => k_is); (case l => k_is); (case c => k_is); (case k => k_is))
    (case d_law_beside => refine' MP.def_h ?a ?l ?c ?k; (case a => k_is); (case l => k_is); (case c => k_is); (case k => k_is))
    (case d_law_form => refine' MP.def_h ?a ?l ?c ?k; (case a => k_is); (case l => k_is); (case c => k_is); (case k => k_is))
    (case d_Ways_gathered => refine' MP.meth_h ?n ?a ?i ?l ?c ?k; (case n => k_is); (case a => k_is); (case i => k_is); (case l => k_is); (case c => k_is); (case k => k_is))
    (case d_Table_come => refine' MP.meth_h ?n ?a ?i ?l ?c ?k; (case n => k_is); (case a => k_is); (case i => k_is); (case l => k_is); (case c => k_is); (case k => k_is))
    (case d_law_rules => refine' MP.def_h ?a ?l ?c ?k; (case a => k_is); (case l => k_is); (case c => k_is); (case k => k_is))
    (case d_is_whole => refine' MP.def_h ?a ?l ?c ?k; (case a => k_is); (case l => k_is); (case c => k_is); (case k => k_is))
    (case d_Table___init__ => refine' MP.init_h ?n ?m ?kc ?a ?i ?l ?c ?k; (case n => k_is); (case m => k_is); (case kc => k_is); (case a => k_is); (case i => k_is); (case l => k_is); (case c => k_is); (case k => k_is))
    (case d_times_of => refine' MP.def_h ?a ?l ?c ?k; (case a => k_is); (case l => k_is); (case c => k_is); (case k => k_is))
    (case d_need_whole => refine' MP.def_h ?a ?l ?c ?k; (case a => k_is); (case l => k_is); (case c => k_is); (case k => k_is))
    (case d_undone_by => refine' MP.def_h ?a ?l ?c ?k; (case a => k_is); (case l => k_is); (case c => k_is); (case k => k_is))
    (case d_all_forms => refine' MP.def_h ?a ?l ?c ?k; (case a => k_is); (case l => k_is); (case c => k_is); (case k => k_is))
    (case d_taken => refine' MP.def_h ?a ?l ?c ?k; (case a => k_is); (case l => k_is); (case c => k_is); (case k => k_is))
    (case d_undone => refine' MP.def_h ?a ?l ?c ?k; (case a => k_is); (case l => k_is); (case c => k_is); (case k => k_is))
    (case d_so_often => refine' MP.def_h ?a ?l ?c ?k; (case a => k_is); (case l => k_is); (case c => k_is); (case k => k_is))
    (case d_order_of => refine' MP.def_h ?a ?l ?c ?k; (case a => k_is); (case l => k_is); (case c => k_is); (case k => k_is))
    (case d_turned_by => refine' MP.def_h ?a ?l ?c ?k; (case a => k_is); (case l => k_is); (case c => k_is); (case k => k_is))
    (case d_turned => refine' MP.def_h ?a ?l ?c ?k; (case a => k_is); (case l => k_is); (case c => k_is); (case k => k_is))
    (case d_meet_by => refine' MP.def_h ?a ?l ?c ?k; (case a => k_is); (case l => k_is); (case c => k_is); (case k => k_is))
    (case d_go_together => refine' MP.def_h ?a ?l ?c ?k; (case a => k_is); (case l => k_is); (case c => k_is); (case k => k_is))
    (case d_lots => refine' MP.def_h ?a ?l ?c ?k; (case a => k_is); (case l => k_is); (case c => k_is); (case k => k_is))
    (case d_law_often_right => refine' MP.def_h ?a ?l ?c ?k; (case a => k_is); (case l => k_is); (case c => k_is); (case k => k_is))
    (case d_meet => refine' MP.def_h ?a ?l ?c ?k; (case a => k_is); (case l => k_is); (case c => k_is); (case k => k_is))
    (case d_law_lots_right => refine' MP.def_h ?a ?l ?c ?k; (case a => k_is); (case l => k_is); (case c => k_is); (case k => k_is))
    (case d_law_three_right => refine' MP.def_h ?a ?l ?c ?k; (case a => k_is); (case l => k_is); (case c => k_is); (case k => k_is))
    (case d_law => refine' MP.def_h ?a ?l ?c ?k; (case a => k_is); (case l => k_is); (case c => k_is); (case k => k_is))
    (case e_all => k_is)
    (case e_any => k_is)
    (case e_enumerate => k_is)
    (case e_int => k_is)
    (case e_len => k_is)
    (case e_list => k_is)
    (case e_max => k_is)
    (case e_min => k_is)
    (case e_range => k_is)
    (case e_set => k_is)
    (case e_sorted => k_is)
    (case e_tuple => k_is)
    (case e_zip => k_is)
#print axioms PySem.Challenge.cw_gatherwords_k25_whole_forms_taken_holds
