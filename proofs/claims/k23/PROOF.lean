import HandS.ForMost
import HandS.ForExc
import HandS.Deep
import HandS.IsInst
import HandS.TupAny
import HandS.TryMany
import HandS.HeadHook1
import HandS.HeadHook2
import KE.SortData
import KE.KDictKeyed
import KE.KDictDisplayH
import HandS.Strs
import HandS.SetFor
import KE.KDictCopyH
import HandS.Iter
import KE.KDictWalk
import HandS.Style
import HandS.ExcOwn
import PyProof.ExcBaseAll.ValueError
import HandS.Conv
import HandS.Defaults
import KE.KStateDown
import HandS.Ends
import HandS.More
import HandS.Codes
import HandS.Words
import HandS.WordsExc
import HandS.Head0
import HandS.Head1
import HandS.Head2
import HandS.HeadEnd
import PySem.Challenge.RW_believedheld_k23_the_least_keeping
set_option Elab.async false
set_option linter.all false
set_option maxRecDepth 100000
set_option maxHeartbeats 4000000
/-! Dp1: pure data over a store of cells, and how they lie in the abstract heap. -/
namespace Dq
open PySem PySem.Spec PyProof.Rows L2

/-- what is known: the known objects, the program, the world -/
structure Kw where
  K : PySem.W.Frag
  P : Program
  w : World
instance : Coe Kw PySem.W.Frag := ⟨Kw.K⟩
@[reducible] def _root_.L2.Cx.kw (X : L2.Cx) : Kw := ⟨X.K, X.prog, X.w⟩

inductive D where
  | non | bl (b : Bool) | int (i : Int) | str (x : Str) | tup (ds : List D) | arr (ds : List D) | loc (n : Nat) | glo (x : Str)

inductive Cell where
  | lst (ds : List D)
  | dic (kvs : List (Key × D))
  | obj (C : Str) (fs : List (Str × D))
  /-- a dict with nested keys -/
  | nd (kvs : List (D × D))
  /-- the same while a loop walks it -/
  | fz (kvs : List (D × D))
abbrev Sto := List Cell
abbrev Env' := List (Option D)

mutual
def below (b : Nat) : D → Bool
  | .tup ds => belowAll b ds
  | .arr ds => belowAll b ds
  | .loc n => Nat.blt n b
  | _ => true
def belowAll (b : Nat) : List D → Bool
  | [] => true
  | d :: ds => below b d && belowAll b ds
end

/-- a list that never changes -/
def SqF (K : Kw) (H : Hp) (a : Addr) (xs : List V) : Prop :=
  (∃ o, H a = some (.frz o (.lst xs))) ∨
    ∃ (o : Obj) (its : Array Value) (n : Nat), K.K.lookup a = some o ∧ o.cls = .type "list" ∧ o.dict = none ∧ o.data = .seq its n ∧ its.size ≤ sizeLine ∧ Vals xs its.toList
theorem SqF.seq {K : Kw} {H : Hp} {a : Addr} {xs : List V} (h : SqF K H a xs) : SqL K H a xs := by
  rcases h with h | h
  · exact .inl (.inr h)
  · exact .inr h

mutual
inductive Rep (K : Kw) (H : Hp) (μ : List Addr) : V → D → Prop
  | non : Rep K H μ .non .non
  | bl (b : Bool) : Rep K H μ (.bl b) (.bl b)
  | int (i : Int) : Rep K H μ (.int i) (.int i)
  | str (x : Str) : Rep K H μ (.str x) (.str x)
  | tup {a : Addr} {vs : List V} {ds : List D} : SqT K H a vs → RepAll K H μ vs ds → Rep K H μ (.ref a) (.tup ds)
  | arr {a : Addr} {vs : List V} {ds : List D} : SqF K H a vs → RepAll K H μ vs ds → Rep K H μ (.ref a) (.arr ds)
  | loc {n : Nat} {a : Addr} : μ[n]? = some a → Rep K H μ (.ref a) (.loc n)
  | glo (x : Str) : Rep K H μ (.ref (He.ga K x)) (.glo x)
inductive RepAll (K : Kw) (H : Hp) (μ : List Addr) : List V → List D → Prop
  | nil : RepAll K H μ [] []
  | cons {v : V} {vs : List V} {d : D} {ds : List D} : Rep K H μ v d → RepAll K H μ vs ds → RepAll K H μ (v :: vs) (d :: ds)
end

/-- what lasts: tuples, known lists -/
structure PK (H H' : Hp) : Prop where
  tup : ∀ a xs, H a = some (.tup xs) → H' a = some (.tup xs)
  frz : ∀ a o u, H a = some (.frz o u) → H' a = some (.frz o u)
theorem PK.refl (H : Hp) : PK H H := ⟨fun _ _ h => h, fun _ _ _ h => h⟩
theorem PK.trans {H H1 H2 : Hp} (p : PK H H1) (q : PK H1 H2) : PK H H2 := ⟨fun a xs h => q.tup a xs (p.tup a xs h), fun a o u h => q.frz a o u (p.frz a o u h)⟩
/-- .. enough for data -/
structure PKw (H H' : Hp) : Prop where
  tup : ∀ a xs, H a = some (.tup xs) → H' a = some (.tup xs)
  frT : ∀ a o xs, H a = some (.frz o (.tup xs)) → H' a = some (.frz o (.tup xs))
  frL : ∀ a o xs, H a = some (.frz o (.lst xs)) → H' a = some (.frz o (.lst xs))
theorem PK.w {H H' : Hp} (p : PK H H') : PKw H H' := ⟨p.tup, fun _ _ _ h => p.frz _ _ _ h, fun _ _ _ h => p.frz _ _ _ h⟩
theorem PKw.seqT {K : Kw} {H H' : Hp} {a : Addr} {xs : List V} (p : PKw H H') (h : SqT K H a xs) : SqT K H' a xs := by
  rcases h with (h | ⟨o, h⟩) | h
  · exact .inl (.inl (p.tup _ _ h))
  · exact .inl (.inr ⟨o, p.frT _ _ _ h⟩)
  · exact .inr h
theorem PKw.seqF {K : Kw} {H H' : Hp} {a : Addr} {xs : List V} (p : PKw H H') (h : SqF K H a xs) : SqF K H' a xs := by
  rcases h with ⟨o, h⟩ | h
  · exact .inl ⟨o, p.frL _ _ _ h⟩
  · exact .inr h
theorem PK.seqT {K : Kw} {H H' : Hp} {a : Addr} {xs : List V} (p : PK H H') (h : SqT K H a xs) : SqT K H' a xs := p.w.seqT h
theorem PK.seqF {K : Kw} {H H' : Hp} {a : Addr} {xs : List V} (p : PK H H') (h : SqF K H a xs) : SqF K H' a xs := p.w.seqF h
theorem PK.new {H : Hp} {p : Addr} {o : HO} (h : H p = none) : PK H (upd H p o) :=
  ⟨fun b xs e => by rw [upd_ne (ne_of_none e h)]; exact e, fun b o u e => by rw [upd_ne (ne_of_none e h)]; exact e⟩
theorem PK.write {H : Hp} {p : Addr} {o o' : HO} (h : H p = some o) (ht : ∀ xs, o ≠ .tup xs) (hf : ∀ ob u, o ≠ .frz ob u) : PK H (upd H p o') :=
  ⟨fun b xs e => by rw [upd_ne (ne_of e h (fun z => ht xs z.symm))]; exact e, fun b ob u e => by rw [upd_ne (ne_of e h (fun z => hf ob u z.symm))]; exact e⟩

/-- the addresses go on -/
def Le (μ μ' : List Addr) : Prop := ∀ (n : Nat) (a : Addr), μ[n]? = some a → μ'[n]? = some a
theorem Le.refl (μ : List Addr) : Le μ μ := fun _ _ h => h
theorem Le.trans {a b c : List Addr} (p : Le a b) (q : Le b c) : Le a c := fun n x h => q n x (p n x h)
theorem Le.app (μ : List Addr) (l : List Addr) : Le μ (μ ++ l) := fun n a h => by
  rw [List.getElem?_append_left (List.getElem?_eq_some_iff.mp h).1]; exact h
theorem Le.take (μ : List Addr) (b : Nat) : Le (μ.take b) μ := fun n a h => by
  rw [List.getElem?_take] at h
  split at h
  · exact h
  · cases h
theorem Le.length {μ μ' : List Addr} (p : Le μ μ') : μ.length ≤ μ'.length := by
  cases e : μ.length with
  | zero => exact Nat.zero_le _
  | succ n =>
    have h : n < μ.length := by omega
    have := p n _ (List.getElem?_eq_getElem h)
    have := (List.getElem?_eq_some_iff.mp this).1
    omega

section
variable {K : Kw} {H H' : Hp} {μ μ' : List Addr}
mutual
theorem Rep.monoW (p : PKw H H') (q : Le μ μ') : ∀ {v : V} {d : D}, Rep K H μ v d → Rep K H' μ' v d
  | _, _, .non => .non
  | _, _, .bl b => .bl b
  | _, _, .int i => .int i
  | _, _, .str x => .str x
  | _, _, .tup h r => .tup (p.seqT h) (RepAll.monoW p q r)
  | _, _, .arr h r => .arr (p.seqF h) (RepAll.monoW p q r)
  | _, _, .loc h => .loc (q _ _ h)
  | _, _, .glo x => .glo x
theorem RepAll.monoW (p : PKw H H') (q : Le μ μ') : ∀ {vs : List V} {ds : List D}, RepAll K H μ vs ds → RepAll K H' μ' vs ds
  | _, _, .nil => .nil
  | _, _, .cons h t => .cons (Rep.monoW p q h) (RepAll.monoW p q t)
end
theorem Rep.mono (p : PK H H') (q : Le μ μ') {v : V} {d : D} (h : Rep K H μ v d) : Rep K H' μ' v d := h.monoW p.w q
theorem RepAll.mono (p : PK H H') (q : Le μ μ') {vs : List V} {ds : List D} (h : RepAll K H μ vs ds) : RepAll K H' μ' vs ds := h.monoW p.w q
mutual
theorem Rep.cut {b : Nat} : ∀ {v : V} {d : D}, below b d = true → Rep K H μ v d → Rep K H (μ.take b) v d
  | _, _, _, .non => .non
  | _, _, _, .bl b => .bl b
  | _, _, _, .int i => .int i
  | _, _, _, .str x => .str x
  | _, _, h, .tup e r => .tup e (RepAll.cut (by simpa [below] using h) r)
  | _, _, h, .arr e r => .arr e (RepAll.cut (by simpa [below] using h) r)
  | .ref a, .loc n, h, .loc e => by
      have hn : n < b := Nat.blt_eq.mp (by simpa [below] using h)
      exact .loc (by rw [List.getElem?_take_of_lt hn]; exact e)
  | _, _, _, .glo x => .glo x
theorem RepAll.cut {b : Nat} : ∀ {vs : List V} {ds : List D}, belowAll b ds = true → RepAll K H μ vs ds → RepAll K H (μ.take b) vs ds
  | _, _, _, .nil => .nil
  | _, _, h, .cons r t => .cons (Rep.cut (by simp [belowAll] at h; exact h.1) r) (RepAll.cut (by simp [belowAll] at h; exact h.2) t)
end
theorem RepAll.length : ∀ {vs : List V} {ds : List D}, RepAll K H μ vs ds → vs.length = ds.length
  | _, _, .nil => rfl
  | _, _, .cons _ t => by simp [RepAll.length t]
theorem RepAll.get : ∀ {vs : List V} {ds : List D} {i : Nat} {d : D}, RepAll K H μ vs ds → ds[i]? = some d → ∃ v, vs[i]? = some v ∧ Rep K H μ v d
  | _, _, _, _, .nil, e => by simp at e
  | _, _, 0, _, .cons r _, e => by simp at e; subst e; exact ⟨_, rfl, r⟩
  | _, _, i + 1, _, .cons _ t, e => by
    obtain ⟨v, h1, h2⟩ := RepAll.get (i := i) t (by simpa using e)
    exact ⟨v, by simpa using h1, h2⟩
theorem RepAll.set {v : V} {d : D} (r : Rep K H μ v d) : ∀ {vs : List V} {ds : List D} (i : Nat), RepAll K H μ vs ds → RepAll K H μ (vs.set i v) (ds.set i d)
  | _, _, _, .nil => .nil
  | _, _, 0, .cons _ t => .cons r t
  | _, _, i + 1, .cons q t => .cons q (RepAll.set r i t)
theorem RepAll.append : ∀ {vs ws : List V} {ds es : List D}, RepAll K H μ vs ds → RepAll K H μ ws es → RepAll K H μ (vs ++ ws) (ds ++ es)
  | _, _, _, _, .nil, s => s
  | _, _, _, _, .cons r t, s => .cons r (RepAll.append t s)
theorem RepAll.take : ∀ {vs : List V} {ds : List D} (n : Nat), RepAll K H μ vs ds → RepAll K H μ (vs.take n) (ds.take n)
  | _, _, 0, _ => .nil
  | _, _, _ + 1, .nil => .nil
  | _, _, n + 1, .cons r t => .cons r (RepAll.take n t)
theorem RepAll.drop : ∀ {vs : List V} {ds : List D} (n : Nat), RepAll K H μ vs ds → RepAll K H μ (vs.drop n) (ds.drop n)
  | _, _, 0, r => r
  | _, _, _ + 1, .nil => .nil
  | _, _, n + 1, .cons r t => RepAll.drop n t
theorem RepAll.dropLast {vs : List V} {ds : List D} (r : RepAll K H μ vs ds) : RepAll K H μ vs.dropLast ds.dropLast := by
  rw [List.dropLast_eq_take, List.dropLast_eq_take, r.length]; exact r.take _
theorem RepAll.reverse : ∀ {vs : List V} {ds : List D}, RepAll K H μ vs ds → RepAll K H μ vs.reverse ds.reverse
  | _, _, .nil => .nil
  | _, _, .cons r t => by rw [List.reverse_cons, List.reverse_cons]; exact (RepAll.reverse t).append (.cons r .nil)
theorem RepAll.flat {vs : List V} {ds : List D} (r : RepAll K H μ vs ds) : ∀ k : Nat, RepAll K H μ (List.replicate k vs).flatten (List.replicate k ds).flatten
  | 0 => .nil
  | k + 1 => by simp only [List.replicate_succ, List.flatten_cons]; exact r.append (RepAll.flat r k)
theorem RepAll.ints : ∀ {vs : List V} (ns : List Int), RepAll K H μ vs (ns.map D.int) → vs = ns.map V.int
  | _, [], .nil => rfl
  | _, _ :: ns, .cons (.int _) t => by rw [RepAll.ints ns t]; rfl
theorem RepAll.of_ints : ∀ ns : List Int, RepAll K H μ (ns.map V.int) (ns.map D.int)
  | [] => .nil
  | n :: ns => .cons (.int n) (RepAll.of_ints ns)
end

/-- a dict's values -/
inductive RepKV (K : Kw) (H : Hp) (μ : List Addr) : List (Key × V) → List (Key × D) → Prop
  | nil : RepKV K H μ [] []
  | cons {k : Key} {v : V} {d : D} {vs : List (Key × V)} {ds : List (Key × D)} : Rep K H μ v d → RepKV K H μ vs ds → RepKV K H μ ((k, v) :: vs) ((k, d) :: ds)
inductive RepFs (K : Kw) (H : Hp) (μ : List Addr) : List (Str × V) → List (Str × D) → Prop
  | nil : RepFs K H μ [] []
  | cons {k : Str} {v : V} {d : D} {vs : List (Str × V)} {ds : List (Str × D)} : Rep K H μ v d → RepFs K H μ vs ds → RepFs K H μ ((k, v) :: vs) ((k, d) :: ds)
section
variable {K : Kw} {H H' : Hp} {μ μ' : List Addr}
theorem RepKV.monoW (p : PKw H H') (q : Le μ μ') : ∀ {vs : List (Key × V)} {ds : List (Key × D)}, RepKV K H μ vs ds → RepKV K H' μ' vs ds
  | _, _, .nil => .nil
  | _, _, .cons h t => .cons (h.monoW p q) (RepKV.monoW p q t)
theorem RepKV.mono (p : PK H H') (q : Le μ μ') {vs : List (Key × V)} {ds : List (Key × D)} (h : RepKV K H μ vs ds) : RepKV K H' μ' vs ds := h.monoW p.w q
theorem RepFs.monoW (p : PKw H H') (q : Le μ μ') : ∀ {vs : List (Str × V)} {ds : List (Str × D)}, RepFs K H μ vs ds → RepFs K H' μ' vs ds
  | _, _, .nil => .nil
  | _, _, .cons h t => .cons (h.monoW p q) (RepFs.monoW p q t)
theorem RepFs.mono (p : PK H H') (q : Le μ μ') {vs : List (Str × V)} {ds : List (Str × D)} (h : RepFs K H μ vs ds) : RepFs K H' μ' vs ds := h.monoW p.w q
end

/-! ### dicts with nested keys -/
mutual
/-- a value as a key -/
def nkD : D → Option NestedKey
  | .non => some .none
  | .bl b => some (.num (if b = true then 1 else 0))
  | .int i => some (.num i)
  | .str x => some (.text x)
  | .tup ds => (match nkDs ds with
    | some ks => some (.tup ks)
    | none => none)
  | _ => none
def nkDs : List D → Option (List NestedKey)
  | [] => some []
  | d :: ds => (match nkD d, nkDs ds with
    | some k, some ks => some (k :: ks)
    | _, _ => none)
end
/-- a tuple that may be a key -/
def nkT (d : D) : Option NestedKey := match d with
  | .tup ds => (match nkDs ds with
    | some ks => if Nat.ble (NestedKey.depthAll ks) 7 = true then some (.tup ks) else none
    | none => none)
  | _ => none
abbrev NX := List (NestedKey × Addr × V)
/-- the entries as they lie -/
abbrev NPair : NX → List (NestedKey × Addr × Value) → Prop := Paired fun (p : NestedKey × Addr × V) (q : NestedKey × Addr × Value) => p.1 = q.1 ∧ p.2.1 = q.2.1 ∧ RelV p.2.2 q.2.2
def NdRaw (P : Program) (w : World) (a : Addr) (xs : NX) (h : Heap) : Prop :=
  xs.length ≤ sizeLine ∧ (a == sysModules) = false ∧ ∃ ys, NPair xs ys ∧
    ∃ o es ep, h.get? a = some o ∧ o.ExactDict ∧ o.data = .dict es ep ∧ es.toList = ys.map (entryOfKey (nestedKind P w)) ∧ (ys.map (·.1)).Nodup
def NdO (P : Program) (w : World) (a : Addr) (xs : NX) : HO := .ext (NdRaw P w a xs)
inductive RepNd (K : Kw) (H : Hp) (μ : List Addr) : NX → List (D × D) → Prop
  | nil : RepNd K H μ [] []
  | cons {k : NestedKey} {b : Addr} {v : V} {dk dv : D} {xs : NX} {kvs : List (D × D)} : nkT dk = some k → Rep K H μ (.ref b) dk → Rep K H μ v dv → RepNd K H μ xs kvs → RepNd K H μ ((k, b, v) :: xs) ((dk, dv) :: kvs)
theorem RepNd.monoW {K : Kw} {H H' : Hp} {μ μ' : List Addr} (p : PKw H H') (q : Le μ μ') : ∀ {xs : NX} {kvs : List (D × D)}, RepNd K H μ xs kvs → RepNd K H' μ' xs kvs
  | _, _, .nil => .nil
  | _, _, .cons e h g t => .cons e (h.monoW p q) (g.monoW p q) (RepNd.monoW p q t)
theorem RepNd.mono {K : Kw} {H H' : Hp} {μ μ' : List Addr} (p : PK H H') (q : Le μ μ') {xs : NX} {kvs : List (D × D)} (h : RepNd K H μ xs kvs) : RepNd K H' μ' xs kvs := h.monoW p.w q
/-- a cell at an address -/
def CellR (K : Kw) (H : Hp) (μ : List Addr) (a : Addr) : Cell → Prop
  | .lst ds => ∃ vs, H a = some (.lst vs) ∧ RepAll K H μ vs ds
  | .dic kvs => ∃ vs, H a = some (.dK vs) ∧ RepKV K H μ vs kvs
  | .obj C fs => ∃ dx vs, H a = some (.ins (He.ga K C) dx vs) ∧ RepFs K H μ vs fs
  | .nd kvs => ∃ xs, H a = some (NdO K.P K.w a xs) ∧ RepNd K H μ xs kvs
  | .fz kvs => ∃ o xs, H a = some (.frz o (NdO K.P K.w a xs)) ∧ RepNd K H μ xs kvs
theorem CellR.monoW {K : Kw} {H H' : Hp} {μ μ' : List Addr} {a : Addr} (p : PKw H H') (q : Le μ μ') (e : H' a = H a) : ∀ {c : Cell}, CellR K H μ a c → CellR K H' μ' a c
  | .lst _, ⟨vs, h, r⟩ => ⟨vs, e.trans h, r.monoW p q⟩
  | .dic _, ⟨vs, h, r⟩ => ⟨vs, e.trans h, r.monoW p q⟩
  | .obj _ _, ⟨dx, vs, h, r⟩ => ⟨dx, vs, e.trans h, r.monoW p q⟩
  | .nd _, ⟨xs, h, r⟩ => ⟨xs, e.trans h, r.monoW p q⟩
  | .fz _, ⟨o, xs, h, r⟩ => ⟨o, xs, e.trans h, r.monoW p q⟩
theorem CellR.mono {K : Kw} {H H' : Hp} {μ μ' : List Addr} {a : Addr} (p : PK H H') (q : Le μ μ') (e : H' a = H a) {c : Cell} (h : CellR K H μ a c) : CellR K H' μ' a c := h.monoW p.w q e
theorem CellR.there {K : Kw} {H : Hp} {μ : List Addr} {a : Addr} : ∀ {c : Cell}, CellR K H μ a c → ∃ o, H a = some o
  | .lst _, ⟨vs, h, _⟩ => ⟨_, h⟩
  | .dic _, ⟨vs, h, _⟩ => ⟨_, h⟩
  | .obj _ _, ⟨dx, vs, h, _⟩ => ⟨_, h⟩
  | .nd _, ⟨xs, h, _⟩ => ⟨_, h⟩
  | .fz _, ⟨o, xs, h, _⟩ => ⟨_, h⟩

/-- a cell that names nothing from a bound on -/
def belowC (b : Nat) : Cell → Bool
  | .lst ds => belowAll b ds
  | .dic kvs => kvs.all fun p => below b p.2
  | .obj _ fs => fs.all fun p => below b p.2
  | .nd kvs => kvs.all fun p => below b p.1 && below b p.2
  | .fz _ => false
theorem RepKV.cut {K : Kw} {H : Hp} {μ : List Addr} {b : Nat} : ∀ {vs : List (Key × V)} {ds : List (Key × D)}, (ds.all fun p => Dq.below b p.2) = true → RepKV K H μ vs ds → RepKV K H (μ.take b) vs ds
  | _, _, _, .nil => .nil
  | _, _ :: _, h, .cons r t => by
    simp only [List.all_cons, Bool.and_eq_true] at h
    exact .cons (Rep.cut h.1 r) (RepKV.cut h.2 t)
theorem RepFs.cut {K : Kw} {H : Hp} {μ : List Addr} {b : Nat} : ∀ {vs : List (Str × V)} {ds : List (Str × D)}, (ds.all fun p => Dq.below b p.2) = true → RepFs K H μ vs ds → RepFs K H (μ.take b) vs ds
  | _, _, _, .nil => .nil
  | _, _ :: _, h, .cons r t => by
    simp only [List.all_cons, Bool.and_eq_true] at h
    exact .cons (Rep.cut h.1 r) (RepFs.cut h.2 t)
theorem RepNd.cut {K : Kw} {H : Hp} {μ : List Addr} {b : Nat} : ∀ {xs : NX} {kvs : List (D × D)}, (kvs.all fun p => Dq.below b p.1 && Dq.below b p.2) = true → RepNd K H μ xs kvs → RepNd K H (μ.take b) xs kvs
  | _, _, _, .nil => .nil
  | _, _ :: _, h, .cons e r q t => by
    simp only [List.all_cons, Bool.and_eq_true] at h
    exact .cons e (Rep.cut h.1.1 r) (Rep.cut h.1.2 q) (RepNd.cut h.2 t)
theorem CellR.cut {K : Kw} {H : Hp} {μ : List Addr} {a : Addr} {b : Nat} : ∀ {c : Cell}, belowC b c = true → CellR K H μ a c → CellR K H (μ.take b) a c
  | .lst _, hb, ⟨vs, h, r⟩ => ⟨vs, h, RepAll.cut hb r⟩
  | .dic _, hb, ⟨vs, h, r⟩ => ⟨vs, h, RepKV.cut hb r⟩
  | .obj _ _, hb, ⟨dx, vs, h, r⟩ => ⟨dx, vs, h, RepFs.cut hb r⟩
  | .nd _, hb, ⟨xs, h, r⟩ => ⟨xs, h, RepNd.cut hb r⟩
  | .fz _, hb, _ => nomatch hb
/-- the cells, by the bounds (innermost first): what lies below a bound was there ahead of a call, and names nothing newer -/
def RepB (K : Kw) (H : Hp) : List Addr → Sto → List Nat → Prop
  | μ, S, [] => ∀ (n : Nat) (a : Addr) (c : Cell), μ[n]? = some a → S[n]? = some c → CellR K H μ a c
  | μ, S, b :: bs => b ≤ S.length ∧ (∀ (n : Nat) (a : Addr) (c : Cell), b ≤ n → μ[n]? = some a → S[n]? = some c → CellR K H μ a c) ∧ RepB K H (μ.take b) (S.take b) bs
def base0 : List Nat → Nat
  | [] => 0
  | b :: _ => b
/-- a caller's cells, out of a callee's sight -/
structure Frm where
  μ : List Addr
  S : Sto
  bs : List Nat
structure Bd where
  bs : List Nat
  fr : List Frm
def base (b : Bd) : Nat := base0 b.bs
structure RepS (K : Kw) (H : Hp) (μ : List Addr) (S : Sto) (bs : Bd) : Prop where
  len : μ.length = S.length
  nd : μ.Nodup
  b : RepB K H μ S bs.bs
  fr : ∀ f ∈ bs.fr, f.μ.length = f.S.length ∧ f.μ.Nodup ∧ RepB K H f.μ f.S f.bs
  dj : ∀ f ∈ bs.fr, ∀ a ∈ μ, a ∉ f.μ
  pw : bs.fr.Pairwise fun f g => ∀ a ∈ f.μ, a ∉ g.μ

section
variable {K : Kw} {H H' : Hp}
theorem RepB.cell : ∀ {bs : List Nat} {μ : List Addr} {S : Sto} {n : Nat} {a : Addr} {c : Cell}, RepB K H μ S bs → μ[n]? = some a → S[n]? = some c → CellR K H μ a c
  | [], _, _, _, _, _, r, h1, h2 => r _ _ _ h1 h2
  | b :: bs, μ, S, n, a, c, ⟨_, r, t⟩, h1, h2 => by
    by_cases hn : b ≤ n
    · exact r n a c hn h1 h2
    · have hn' : n < b := by omega
      exact (RepB.cell (n := n) t (by rw [List.getElem?_take_of_lt hn']; exact h1) (by rw [List.getElem?_take_of_lt hn']; exact h2)).mono (PK.refl H) (Le.take μ b) rfl
/-- another heap in which all cells lie as they did -/
theorem RepB.monoW (p : PKw H H') : ∀ {bs : List Nat} {μ : List Addr} {S : Sto}, RepB K H μ S bs → (∀ a ∈ μ, H' a = H a) → RepB K H' μ S bs
  | [], μ, _, r, k => fun n a c h1 h2 => (r n a c h1 h2).monoW p (Le.refl _) (k a (List.mem_of_getElem? h1))
  | b :: bs, μ, S, ⟨hb, r, t⟩, k => ⟨hb, fun n a c hn h1 h2 => (r n a c hn h1 h2).monoW p (Le.refl _) (k a (List.mem_of_getElem? h1)), RepB.monoW p t fun a ha => k a (List.mem_of_mem_take ha)⟩
theorem RepB.mono (p : PK H H') {bs : List Nat} {μ : List Addr} {S : Sto} (h : RepB K H μ S bs) (k : ∀ a ∈ μ, H' a = H a) : RepB K H' μ S bs := h.monoW p.w k
theorem getElem?_snoc {α : Type} {l : List α} {x y : α} {n : Nat} (h : (l ++ [x])[n]? = some y) : l[n]? = some y ∨ (n = l.length ∧ y = x) := by
  by_cases hn : n < l.length
  · rw [List.getElem?_append_left hn] at h; exact .inl h
  · rw [List.getElem?_append_right (by omega)] at h
    have : n - l.length = 0 := by
      by_cases z : n - l.length = 0
      · exact z
      · obtain ⟨m, hm⟩ := Nat.exists_eq_succ_of_ne_zero z
        rw [hm] at h; simp at h
    rw [this] at h
    simp at h
    exact .inr ⟨by omega, h.symm⟩
theorem base_le : ∀ {bs : List Nat} {μ : List Addr} {S : Sto}, RepB K H μ S bs → base0 bs ≤ S.length
  | [], _, _, _ => Nat.zero_le _
  | _ :: _, _, _, r => r.1
/-- a new cell -/
theorem RepB.push {bs : List Nat} {μ : List Addr} {S : Sto} {a : Addr} {c : Cell} (hl : μ.length = S.length) (r : RepB K H μ S bs) (hc : CellR K H (μ ++ [a]) a c) : RepB K H (μ ++ [a]) (S ++ [c]) bs := by
  cases bs with
  | nil =>
    intro n a' c' h1 h2
    rcases getElem?_snoc h1 with h1 | ⟨e1, e2⟩
    · rcases getElem?_snoc h2 with h2 | ⟨e3, _⟩
      · exact (r n a' c' h1 h2).mono (PK.refl H) (Le.app _ _) rfl
      · have := (List.getElem?_eq_some_iff.mp h1).1; omega
    · rcases getElem?_snoc h2 with h2 | ⟨_, e4⟩
      · have := (List.getElem?_eq_some_iff.mp h2).1; omega
      · rw [e2, e4]; exact hc
  | cons b bs =>
    obtain ⟨hb, r, t⟩ := r
    refine ⟨by simp; omega, fun n a' c' hn h1 h2 => ?_, ?_⟩
    · rcases getElem?_snoc h1 with h1 | ⟨e1, e2⟩
      · rcases getElem?_snoc h2 with h2 | ⟨e3, _⟩
        · exact (r n a' c' hn h1 h2).mono (PK.refl H) (Le.app _ _) rfl
        · have := (List.getElem?_eq_some_iff.mp h1).1; omega
      · rcases getElem?_snoc h2 with h2 | ⟨_, e4⟩
        · have := (List.getElem?_eq_some_iff.mp h2).1; omega
        · rw [e2, e4]; exact hc
    · rw [List.take_append_of_le_length (by omega), List.take_append_of_le_length hb]; exact t
/-- a cell written: at every bound the new content is told by what the old one was told by -/
theorem RepB.set {m : Nat} {x : Addr} {c' : Cell} (p : PKw H H') : ∀ {bs : List Nat} {μ : List Addr} {S : Sto}, μ.Nodup → μ[m]? = some x → RepB K H μ S bs → (∀ a ∈ μ, a ≠ x → H' a = H a) →
    (∀ μ1 c, (base0 bs ≤ m → μ1 = μ) → (∃ k, μ1 = μ.take k ∨ μ1 = μ) → S[m]? = some c → CellR K H μ1 x c → CellR K H' μ1 x c') → RepB K H' μ (S.set m c') bs
  | [], μ, S, nd, hx, r, k, w => fun n a c h1 h2 => by
    by_cases hn : n = m
    · subst hn
      rw [hx] at h1; cases h1
      have hl : n < S.length := by
        have := (List.getElem?_eq_some_iff.mp h2).1
        simpa using this
      rw [List.getElem?_set_self hl] at h2; cases h2
      exact w μ _ (fun _ => rfl) ⟨0, .inr rfl⟩ (List.getElem?_eq_getElem hl) (r n x _ hx (List.getElem?_eq_getElem hl))
    · rw [List.getElem?_set_ne (Ne.symm hn)] at h2
      exact (r n a c h1 h2).monoW p (Le.refl _) (k a (List.mem_of_getElem? h1) fun e => hn (nodup_get nd (e ▸ h1) hx))
  | b :: bs, μ, S, nd, hx, ⟨hb, r, t⟩, k, w => by
    refine ⟨by simpa using hb, fun n a c hn0 h1 h2 => ?_, ?_⟩
    · by_cases hn : n = m
      · subst hn
        rw [hx] at h1; cases h1
        have hl : n < S.length := by
          have := (List.getElem?_eq_some_iff.mp h2).1
          simpa using this
        rw [List.getElem?_set_self hl] at h2; cases h2
        exact w μ _ (fun _ => rfl) ⟨0, .inr rfl⟩ (List.getElem?_eq_getElem hl) (r n x _ hn0 hx (List.getElem?_eq_getElem hl))
      · rw [List.getElem?_set_ne (Ne.symm hn)] at h2
        exact (r n a c hn0 h1 h2).monoW p (Le.refl _) (k a (List.mem_of_getElem? h1) fun e => hn (nodup_get nd (e ▸ h1) hx))
    · by_cases hm : m < b
      · rw [List.take_set]
        refine RepB.set p (nd.sublist (List.take_sublist _ _)) (by rw [List.getElem?_take_of_lt hm]; exact hx) t (fun a ha => k a (List.mem_of_mem_take ha)) fun μ1 c _ h1 h2 h3 => ?_
        refine w μ1 c (fun z => absurd (show b ≤ m from z) (by omega)) ?_ (by rw [List.getElem?_take_of_lt hm] at h2; exact h2) h3
        obtain ⟨j, h1⟩ := h1
        rcases h1 with h1 | h1
        · exact ⟨min j b, .inl (by rw [h1, List.take_take])⟩
        · exact ⟨b, .inl h1⟩
      · have e : (S.set m c').take b = S.take b := by
          rw [List.take_set]
          exact List.set_eq_of_length_le (by rw [List.length_take]; omega)
        rw [e]
        refine RepB.monoW p t fun a ha => k a (List.mem_of_mem_take ha) fun z => ?_
        subst z
        obtain ⟨j, hj⟩ := List.mem_iff_getElem?.mp ha
        rw [List.getElem?_take] at hj
        split at hj
        · rename_i hjb
          have := nodup_get nd hj hx
          omega
        · cases hj
where
  nodup_get {l : List Addr} (nd : l.Nodup) {i j : Nat} {x : Addr} (a : l[i]? = some x) (b : l[j]? = some x) : i = j := by
    obtain ⟨h1, e1⟩ := List.getElem?_eq_some_iff.mp a
    obtain ⟨h2, e2⟩ := List.getElem?_eq_some_iff.mp b
    exact (List.getElem_inj nd).mp (e1.trans e2.symm)

theorem RepB.tracked {bs : List Nat} {μ : List Addr} {S : Sto} {a : Addr} (hl : μ.length = S.length) (r : RepB K H μ S bs) (h : a ∈ μ) : ∃ o, H a = some o := by
  obtain ⟨n, hn⟩ := List.mem_iff_getElem?.mp h
  have : n < S.length := by rw [← hl]; exact (List.getElem?_eq_some_iff.mp hn).1
  exact (r.cell hn (List.getElem?_eq_getElem this)).there
theorem RepS.base_le {μ : List Addr} {S : Sto} {bs : Bd} (r : RepS K H μ S bs) : base bs ≤ S.length := Dq.base_le r.b
theorem RepS.cell {μ : List Addr} {S : Sto} {bs : Bd} {n : Nat} {a : Addr} {c : Cell} (r : RepS K H μ S bs) (h1 : μ[n]? = some a) (h2 : S[n]? = some c) : CellR K H μ a c := r.b.cell h1 h2
theorem RepS.tracked {μ : List Addr} {S : Sto} {bs : Bd} {a : Addr} (r : RepS K H μ S bs) (h : a ∈ μ) : ∃ o, H a = some o := r.b.tracked r.len h
theorem RepS.trackedF {μ : List Addr} {S : Sto} {bs : Bd} {a : Addr} {f : Frm} (r : RepS K H μ S bs) (hf : f ∈ bs.fr) (h : a ∈ f.μ) : ∃ o, H a = some o := (r.fr f hf).2.2.tracked (r.fr f hf).1 h
/-- the callers' cells lie as they did -/
theorem RepS.frs {μ : List Addr} {S : Sto} {bs : Bd} (r : RepS K H μ S bs) (p : PKw H H') (k : ∀ f ∈ bs.fr, ∀ a ∈ f.μ, H' a = H a) : ∀ f ∈ bs.fr, f.μ.length = f.S.length ∧ f.μ.Nodup ∧ RepB K H' f.μ f.S f.bs :=
  fun f hf => ⟨(r.fr f hf).1, (r.fr f hf).2.1, (r.fr f hf).2.2.monoW p (k f hf)⟩
/-- an object is laid that is no cell -/
theorem RepS.lay {μ : List Addr} {S : Sto} {bs : Bd} {p : Addr} {o : HO} (r : RepS K H μ S bs) (h : H p = none) : RepS K (upd H p o) μ S bs :=
  ⟨r.len, r.nd, r.b.mono (PK.new h) fun a ha => by
    obtain ⟨u, e⟩ := r.tracked ha
    rw [upd_ne (ne_of_none e h)], r.frs (PK.new h).w fun f hf a ha => by
    obtain ⟨u, e⟩ := r.trackedF hf ha
    rw [upd_ne (ne_of_none e h)], r.dj, r.pw⟩
/-- a new cell -/
theorem RepS.push {μ : List Addr} {S : Sto} {bs : Bd} {p : Addr} {o : HO} {c : Cell} (r : RepS K H μ S bs) (h : H p = none) (hc : CellR K (upd H p o) (μ ++ [p]) p c) : RepS K (upd H p o) (μ ++ [p]) (S ++ [c]) bs := by
  have r1 := r.lay (o := o) h
  refine ⟨by simp [r.len], ?_, r1.b.push r.len hc, r1.fr, fun f hf a ha hm => ?_, r.pw⟩
  · refine List.nodup_append.mpr ⟨r.nd, by simp, fun a ha b hb => ?_⟩
    simp at hb; subst hb
    rintro rfl
    obtain ⟨u, e⟩ := r.tracked ha
    rw [h] at e; cases e
  · rcases List.mem_append.mp ha with ha | ha
    · exact r.dj f hf a ha hm
    · rw [List.mem_singleton] at ha
      subst ha
      obtain ⟨u, e⟩ := r.trackedF hf hm
      rw [h] at e; cases e
/-- a cell written -/
theorem RepS.putW {μ : List Addr} {S : Sto} {bs : Bd} {n : Nat} {x : Addr} {u' : HO} {c' : Cell} (r : RepS K H μ S bs) (p : PKw H (upd H x u')) (hx : μ[n]? = some x)
    (w : ∀ μ1 c, (base bs ≤ n → μ1 = μ) → (∃ k, μ1 = μ.take k ∨ μ1 = μ) → S[n]? = some c → CellR K H μ1 x c → CellR K (upd H x u') μ1 x c') : RepS K (upd H x u') μ (S.set n c') bs :=
  ⟨by simp [r.len], r.nd, RepB.set p r.nd hx r.b (fun b _ hb => upd_ne hb) w, r.frs p fun f hf a ha => upd_ne fun z => r.dj f hf x (List.mem_of_getElem? hx) (z ▸ ha), r.dj, r.pw⟩
theorem RepS.put {μ : List Addr} {S : Sto} {bs : Bd} {n : Nat} {x : Addr} {u u' : HO} {c' : Cell} (r : RepS K H μ S bs) (p : PK H (upd H x u')) (hx : μ[n]? = some x)
    (w : ∀ μ1 c, (base bs ≤ n → μ1 = μ) → (∃ k, μ1 = μ.take k ∨ μ1 = μ) → S[n]? = some c → CellR K H μ1 x c → CellR K (upd H x u') μ1 x c') : RepS K (upd H x u') μ (S.set n c') bs := r.putW p.w hx w
/-- the bounds: into a call, out of it -/
theorem RepS.into {μ : List Addr} {S : Sto} {bs : Bd} (r : RepS K H μ S bs) : RepS K H μ S ⟨S.length :: bs.bs, bs.fr⟩ :=
  ⟨r.len, r.nd, ⟨Nat.le_refl _, fun n a c hn h1 h2 => by have := (List.getElem?_eq_some_iff.mp h2).1; omega, by rw [List.take_length, ← r.len, List.take_length]; exact r.b⟩, r.fr, r.dj, r.pw⟩
theorem RepS.out {μ : List Addr} {S : Sto} {bs : Bd} {b : Nat} (r : RepS K H μ S ⟨b :: bs.bs, bs.fr⟩) : RepS K H (μ.take b) (S.take b) bs :=
  ⟨by simp [r.len], r.nd.sublist (List.take_sublist _ _), r.b.2.2, r.fr, fun f hf a ha => r.dj f hf a (List.mem_of_mem_take ha), r.pw⟩
/-- into a call that sees no cell of its callers, out of it -/
theorem RepS.enter {μ : List Addr} {S : Sto} {bs : Bd} (r : RepS K H μ S bs) : RepS K H [] [] ⟨[], ⟨μ, S, bs.bs⟩ :: bs.fr⟩ := by
  refine ⟨rfl, List.nodup_nil, fun n a c e => by simp at e, fun f hf => ?_, (fun f _ a ha => nomatch ha), List.pairwise_cons.mpr ⟨fun g hg a ha => r.dj g hg a ha, r.pw⟩⟩
  rcases List.mem_cons.mp hf with e | hf
  · subst e; exact ⟨r.len, r.nd, r.b⟩
  · exact r.fr f hf
theorem RepS.leave {μ μ' : List Addr} {S S' : Sto} {bs : Bd} {b' : List Nat} (r : RepS K H μ' S' ⟨b', ⟨μ, S, bs.bs⟩ :: bs.fr⟩) : RepS K H μ S bs := by
  obtain ⟨h1, h2, h3⟩ := r.fr ⟨μ, S, bs.bs⟩ List.mem_cons_self
  have pw := List.pairwise_cons.mp r.pw
  exact ⟨h1, h2, h3, fun f hf => r.fr f (List.mem_cons_of_mem _ hf), fun f hf a ha => pw.1 f hf a ha, pw.2⟩
/-- .. with a list of its own -/
theorem RepS.leaveL {μ μ' : List Addr} {S S' : Sto} {bs : Bd} {b' : List Nat} {n : Nat} {a : Addr} {c : Cell} (r : RepS K H μ' S' ⟨b', ⟨μ, S, bs.bs⟩ :: bs.fr⟩) (hn : μ'[n]? = some a) (hS : S'[n]? = some c) (hb : belowC 0 c = true) : RepS K H (μ ++ [a]) (S ++ [c]) bs := by
  have r0 := r.leave
  have ha := List.mem_of_getElem? hn
  have c3 : CellR K H (μ ++ [a]) a c := ((r.cell hn hS).cut hb).mono (PK.refl _) (fun n a e => by simp at e) rfl
  refine ⟨by simp [r0.len], List.nodup_append.mpr ⟨r0.nd, by simp, fun x hx y hy => ?_⟩, r0.b.push r0.len c3, r0.fr, fun f hf x hx hm => ?_, r0.pw⟩
  · rw [List.mem_singleton] at hy
    subst hy
    intro z
    subst z
    exact r.dj ⟨μ, S, bs.bs⟩ List.mem_cons_self _ ha hx
  · rcases List.mem_append.mp hx with hx | hx
    · exact r0.dj f hf x hx hm
    · rw [List.mem_singleton] at hx
      subst hx
      exact r.dj f (List.mem_cons_of_mem _ hf) _ ha hm
end
end Dq
set_option Elab.async false
set_option linter.all false
set_option maxRecDepth 100000
set_option maxHeartbeats 4000000
/-! Dp2: what the operations give, on data; rules for them. -/
namespace Dq
open PySem PySem.Spec PyProof.Rows L2

structure Exn where
  cls : Str
inductive Out (α : Type) where
  | ok (a : α) (S : Sto) | exc (x : Exn) (S : Sto) | bad
def Out.bind {α β : Type} : Out α → (α → Sto → Out β) → Out β
  | .ok a S, f => f a S
  | .exc x S, _ => .exc x S
  | .bad, _ => .bad

def lim : Nat := 16777216
theorem lim_eq : sizeLine = lim := sizeLine_eq

/-! ### data as the library reads it -/
def optMap {α β : Type} (f : α → Option β) : List α → Option (List β)
  | [] => some []
  | x :: xs => match f x with
    | some y => (match optMap f xs with
      | some ys => some (y :: ys)
      | none => none)
    | none => none
def py (S : Sto) : Nat → D → Option PyData
  | 0, _ => none
  | k + 1, d => match d with
    | .non => some .none
    | .bl b => some (.bool b)
    | .int i => some (.int i)
    | .str x => if PyData.strOk x = true then some (.str x) else none
    | .tup ds => (match optMap (py S k) ds with
      | some ps => some (.tuple ps)
      | none => none)
    | .arr ds => (match optMap (py S k) ds with
      | some ps => some (.list ps)
      | none => none)
    | .loc n => (match S[n]? with
      | some (.lst ds) => (match optMap (py S k) ds with
        | some ps => some (.list ps)
        | none => none)
      | _ => none)
    | .glo _ => none
section
variable {K : Kw} {H : Hp} {μ : List Addr} {S : Sto} {bs : Bd}
theorem py_all {k : Nat} (ih : ∀ (d : D) (p : PyData) (v : V), py S k d = some p → Rep K H μ v d → L2.Dp K H v p ∧ p.canLay0 = true ∧ p.depth ≤ k) : ∀ (ds : List D) (ps : List PyData) (vs : List V), optMap (py S k) ds = some ps → RepAll K H μ vs ds →
    L2.DpAll K H vs ps ∧ PyData.canLayAll0 ps = true ∧ PyData.depthAll ps ≤ k
  | [], ps, vs, e, r => by
    cases e; cases r
    exact ⟨.nil, by simp [PyData.canLayAll0], by simp [PyData.depthAll]⟩
  | d :: ds, ps, vs, e, r => by
    cases r with
    | cons r1 r2 =>
      unfold optMap at e
      split at e
      · rename_i y hy
        split at e
        · rename_i ys hys
          cases e
          obtain ⟨a1, a2, a3⟩ := ih _ _ _ hy r1
          obtain ⟨b1, b2, b3⟩ := py_all ih ds ys _ hys r2
          exact ⟨.cons a1 b1, by simp [PyData.canLayAll0, a2, b2], by simp only [PyData.depthAll]; omega⟩
        · cases e
      · cases e
theorem py_ok (R : RepS K H μ S bs) : ∀ (k : Nat) (d : D) (p : PyData) (v : V), py S k d = some p → Rep K H μ v d → L2.Dp K H v p ∧ p.canLay0 = true ∧ p.depth ≤ k
  | 0, _, _, _, e, _ => by cases e
  | k + 1, d, p, v, e, r => by
    unfold py at e
    cases r with
    | non => cases e; exact ⟨.non, rfl, Nat.zero_le _⟩
    | bl b => cases e; exact ⟨.bl b, rfl, Nat.zero_le _⟩
    | int i => cases e; exact ⟨.int i, rfl, Nat.zero_le _⟩
    | str x =>
      dsimp only at e
      split at e
      · rename_i hx
        cases e
        exact ⟨.str x, hx, Nat.zero_le _⟩
      · cases e
    | tup h1 h2 =>
      dsimp only at e
      split at e
      · rename_i ps hps
        cases e
        obtain ⟨a1, a2, a3⟩ := py_all (py_ok R k) _ _ _ hps h2
        exact ⟨.tup h1 a1, a2, by simp only [PyData.depth]; omega⟩
      · cases e
    | arr h1 h2 =>
      dsimp only at e
      split at e
      · rename_i ps hps
        cases e
        obtain ⟨a1, a2, a3⟩ := py_all (py_ok R k) _ _ _ hps h2
        exact ⟨.lst h1.seq a1, a2, by simp only [PyData.depth]; omega⟩
      · cases e
    | @loc n a h1 =>
      dsimp only at e
      split at e
      · rename_i ds hds
        split at e
        · rename_i ps hps
          cases e
          obtain ⟨vs, q1, q2⟩ := R.cell h1 hds
          obtain ⟨a1, a2, a3⟩ := py_all (py_ok R k) _ _ _ hps q2
          exact ⟨.lst (.inl (.inl q1)) a1, a2, by simp only [PyData.depth]; omega⟩
        · cases e
      · cases e
    | glo x => cases e
end
/-- how deep we look -/
def dep : Nat := 16
theorem py_shaped {K : Kw} {H : Hp} {μ : List Addr} {S : Sto} {bs : Bd} (R : RepS K H μ S bs) {d : D} {p : PyData} {v : V} (e : py S dep d = some p) (r : Rep K H μ v d) : L2.Dp K H v p ∧ SeqAt.shaped p = true := by
  obtain ⟨a, b, c⟩ := py_ok R _ _ _ _ e r
  refine ⟨a, ?_⟩
  show (p.canLay0 && decide (p.depth ≤ 64)) = true
  rw [b, decide_eq_true (Nat.le_trans c (by decide))]; rfl

/-! ### what comes behind -/
/-- a result, at a later heap -/
def OutV (K : Kw) (bs : Bd) (H : Hp) (μ : List Addr) (Q : V → Hp → Prop) : Out D → Prop
  | .ok d S' => ∀ v H' μ', PK H H' → Le μ μ' → RepS K H' μ' S' bs → Rep K H' μ' v d → Q v H'
  | _ => False
theorem OutV.here {K : Kw} {bs : Bd} {H : Hp} {μ : List Addr} {Q : V → Hp → Prop} {d : D} {S : Sto} (h : OutV K bs H μ Q (.ok d S)) (R : RepS K H μ S bs) {v : V} (r : Rep K H μ v d) : Q v H := h v H μ (PK.refl H) (Le.refl μ) R r
/-- a new tuple -/
theorem OutV.tup {K : Kw} {bs : Bd} {H : Hp} {μ : List Addr} {Q : V → Hp → Prop} {ds : List D} {S : Sto} (h : OutV K bs H μ Q (.ok (.tup ds) S)) (R : RepS K H μ S bs) {vs : List V} (r : RepAll K H μ vs ds) {p : Addr} (hp : H p = none) : Q (.ref p) (upd H p (.tup vs)) :=
  h _ _ μ (PK.new hp) (Le.refl μ) (R.lay hp) (.tup (.inl (.inl upd_same)) (r.mono (PK.new hp) (Le.refl μ)))
/-- a new list -/
theorem OutV.lst {K : Kw} {bs : Bd} {H : Hp} {μ : List Addr} {Q : V → Hp → Prop} {ds : List D} {S : Sto} (h : OutV K bs H μ Q (.ok (.loc S.length) (S ++ [.lst ds]))) (R : RepS K H μ S bs) {vs : List V} (r : RepAll K H μ vs ds) {p : Addr} (hp : H p = none) : Q (.ref p) (upd H p (.lst vs)) :=
  h _ _ (μ ++ [p]) (PK.new hp) (Le.app μ _) (R.push hp ⟨vs, upd_same, r.mono (PK.new hp) (Le.app μ _)⟩) (.loc (by rw [← R.len]; simp))

def OpD (K : Kw) (f : D → D → Nat → Sto → Out D) : R2 := fun x y H Q => ∃ μ S bs dx dy, RepS K H μ S bs ∧ Rep K H μ x dx ∧ Rep K H μ y dy ∧ OutV K bs H μ Q (f dx dy (base bs) S)
def CallD (K : Kw) (f : List D → Nat → Sto → Out D) : List V → Hp → VK → Prop := fun vs H Q => ∃ μ S bs ds, RepS K H μ S bs ∧ RepAll K H μ vs ds ∧ OutV K bs H μ Q (f ds (base bs) S)
def MtD (K : Kw) (f : D → List D → Nat → Sto → Out D) : V → List V → Hp → VK → Prop := fun x vs H Q => ∃ μ S bs d ds, RepS K H μ S bs ∧ Rep K H μ x d ∧ RepAll K H μ vs ds ∧ OutV K bs H μ Q (f d ds (base bs) S)

section
variable {X : Cx}
theorem OpR.imp {f : Value → Value → Sem Value} {r r' : R2} (h : OpR X f r) (i : ∀ x y H Q, r' x y H Q → r x y H Q) : OpR X f r' := fun pins s σ H x y v u Q I rx ry q => h pins s σ H x y v u Q I rx ry (i _ _ _ _ q)
theorem CallR.imp {f : Value} {r r' : List V → Hp → VK → Prop} (h : CallR X f r) (i : ∀ xs H Q, r' xs H Q → r xs H Q) : CallR X f r' := fun pins s σ H xs us Q I r q => h pins s σ H xs us Q I r (i _ _ _ q)
theorem MtR.imp {id : String} {r r' : V → List V → Hp → VK → Prop} (h : MtR X id r) (i : ∀ x xs H Q, r' x xs H Q → r x xs H Q) : MtR X id r' := fun pins s σ H x xs v us Q I rx r q => h pins s σ H x xs v us Q I rx r (i _ _ _ _ q)

/-! ### + - * % // ** -/
def addD : D → D → Nat → Sto → Out D
  | .int i, .int j, _, S => .ok (.int (i + j)) S
  | .tup a, .tup b, _, S => if Nat.ble (a.length + b.length) lim = true then .ok (.tup (a ++ b)) S else .bad
  | .loc a, .loc b, _, S => (match S[a]?, S[b]? with
    | some (.lst x), some (.lst y) => if Nat.ble (x.length + y.length) lim = true then .ok (.loc S.length) (S ++ [.lst (x ++ y)]) else .bad
    | _, _ => .bad)
  | .str x, .str y, _, S => if Nat.ble (x.length + y.length) lim = true then .ok (.str (x ++ y)) S else .bad
  | _, _, _, _ => .bad
theorem ble_lim {n : Nat} (h : Nat.ble n lim = true) : n ≤ sizeLine := by rw [lim_eq]; exact Nat.le_of_ble_eq_true h
theorem add_D : OpR X (binaryOp .Add) (OpD X.kw addD) := by
  refine OpR.imp (OpR.or op_add (OpR.or op_catA (OpR.or op_cat op_add_str))) fun x y H Q h => ?_
  obtain ⟨μ, S, bs, dx, dy, R, rx, ry, h⟩ := h
  unfold addD at h
  split at h
  · cases rx; cases ry
    exact .inl ⟨_, _, rfl, rfl, h.here R (.int _)⟩
  · cases rx with
    | tup h1 h2 =>
      cases ry with
      | tup h3 h4 =>
        split at h
        · rename_i hl
          refine .inr (.inl ⟨_, _, _, _, rfl, rfl, h1, h3, ?_, fun e => ?_, fun _ e => ?_, fun _ _ p hp => ?_⟩)
          · rw [h2.length, h4.length]; exact ble_lim hl
          · subst e; cases h2
            exact h.here R (.tup h3 h4)
          · subst e; cases h4
            exact h.here R (.tup h1 (by simpa using h2))
          · exact h.tup R (h2.append h4) hp
        · exact h.elim
  · split at h
    · rename_i x' y' e1 e2
      cases rx with
      | loc m1 =>
        cases ry with
        | loc m2 =>
          obtain ⟨vs, c1, c2⟩ := R.cell m1 e1
          obtain ⟨ws, c3, c4⟩ := R.cell m2 e2
          split at h
          · rename_i hl
            refine .inr (.inr (.inl ⟨_, _, _, _, rfl, rfl, c1, c3, ?_, fun p hp => ?_⟩))
            · rw [c2.length, c4.length]; exact ble_lim hl
            · exact h.lst R (c2.append c4) hp
          · exact h.elim
    · exact h.elim
  · cases rx; cases ry
    split at h
    · rename_i hl
      exact .inr (.inr (.inr ⟨_, _, rfl, rfl, ble_lim hl, h.here R (.str _)⟩))
    · exact h.elim
  · exact h.elim
def subD : D → D → Nat → Sto → Out D
  | .int i, .int j, _, S => .ok (.int (i - j)) S
  | _, _, _, _ => .bad
theorem sub_D : OpR X (binaryOp .Sub) (OpD X.kw subD) := by
  refine OpR.imp op_sub fun x y H Q h => ?_
  obtain ⟨μ, S, bs, dx, dy, R, rx, ry, h⟩ := h
  unfold subD at h
  split at h
  · cases rx; cases ry
    exact ⟨_, _, rfl, rfl, h.here R (.int _)⟩
  · exact h.elim
def within (m : Int) (i : Int) : Bool := decide (-m < i) && decide (i < m)
def mulD : D → D → Nat → Sto → Out D
  | .int i, .int j, _, S => if (within 18446744073709551616 i || within 18446744073709551616 j) = true then .ok (.int (i * j)) S else .bad
  | .loc a, .int k, _, S => (match S[a]? with
    | some (.lst x) => if (within 9223372036854775808 k && Nat.ble (x.length * k.toNat) lim) = true then .ok (.loc S.length) (S ++ [.lst (List.replicate k.toNat x).flatten]) else .bad
    | _ => .bad)
  | _, _, _, _ => .bad
theorem within_ok {m i : Int} (h : within m i = true) : -m < i ∧ i < m := by
  unfold within at h
  rw [Bool.and_eq_true] at h
  exact ⟨of_decide_eq_true h.1, of_decide_eq_true h.2⟩
theorem mul_D : OpR X (binaryOp .Mult) (OpD X.kw mulD) := by
  refine OpR.imp (OpR.or op_mul op_rep) fun x y H Q h => ?_
  obtain ⟨μ, S, bs, dx, dy, R, rx, ry, h⟩ := h
  unfold mulD at h
  split at h
  · cases rx; cases ry
    split at h
    · rename_i hl
      refine .inl ⟨_, _, rfl, rfl, ?_, h.here R (.int _)⟩
      rw [Bool.or_eq_true] at hl
      rcases hl with q | q
      · exact .inl (by have := within_ok q; constructor <;> omega)
      · exact .inr (by have := within_ok q; constructor <;> omega)
    · exact h.elim
  · split at h
    · rename_i x' e1
      cases rx with
      | loc m1 =>
        cases ry
        obtain ⟨vs, c1, c2⟩ := R.cell m1 e1
        split at h
        · rename_i hl
          rw [Bool.and_eq_true] at hl
          have w := within_ok hl.1
          refine .inr ⟨_, _, _, rfl, rfl, c1, by omega, by omega, ?_, fun p hp => ?_⟩
          · rw [c2.length]; exact ble_lim hl.2
          · exact h.lst R (c2.flat _) hp
        · exact h.elim
    · exact h.elim
  · exact h.elim
def modD : D → D → Nat → Sto → Out D
  | .int i, .int j, _, S => if decide (0 < j) = true then .ok (.int (i % j)) S else .bad
  | _, _, _, _ => .bad
theorem mod_D : OpR X (binaryOp .Mod) (OpD X.kw modD) := by
  refine OpR.imp op_mod fun x y H Q h => ?_
  obtain ⟨μ, S, bs, dx, dy, R, rx, ry, h⟩ := h
  unfold modD at h
  split at h
  · cases rx; cases ry
    split at h
    · rename_i hl
      exact ⟨_, _, rfl, rfl, of_decide_eq_true hl, h.here R (.int _)⟩
    · exact h.elim
  · exact h.elim
def divD : D → D → Nat → Sto → Out D
  | .int i, .int j, _, S => if (decide (0 < j) && decide (j < 1073741824)) = true then .ok (.int (i / j)) S else .bad
  | _, _, _, _ => .bad
theorem div_D : OpR X (binaryOp .FloorDiv) (OpD X.kw divD) := by
  refine OpR.imp op_fdiv fun x y H Q h => ?_
  obtain ⟨μ, S, bs, dx, dy, R, rx, ry, h⟩ := h
  unfold divD at h
  split at h
  · cases rx; cases ry
    split at h
    · rename_i hl
      rw [Bool.and_eq_true] at hl
      exact ⟨_, _, rfl, rfl, ⟨of_decide_eq_true hl.1, of_decide_eq_true hl.2⟩, h.here R (.int _)⟩
    · exact h.elim
  · exact h.elim
def powD : D → D → Nat → Sto → Out D
  | .int i, .int j, _, S => if (decide (0 ≤ j) && (decide (j ≤ 1000000) && Nat.blt i.natAbs 18446744073709551616)) = true then .ok (.int (i ^ j.toNat)) S else .bad
  | _, _, _, _ => .bad
theorem pow_D : OpR X (binaryOp .Pow) (OpD X.kw powD) := by
  refine OpR.imp op_pow fun x y H Q h => ?_
  obtain ⟨μ, S, bs, dx, dy, R, rx, ry, h⟩ := h
  unfold powD at h
  split at h
  · cases rx; cases ry
    split at h
    · rename_i hl
      rw [Bool.and_eq_true, Bool.and_eq_true] at hl
      refine ⟨_, _, rfl, rfl, ⟨of_decide_eq_true hl.1, of_decide_eq_true hl.2.1, ?_⟩, h.here R (.int _)⟩
      have := Nat.blt_eq.mp hl.2.2
      omega
    · exact h.elim
  · exact h.elim

/-! ### comparisons -/
def eqD (neg : Bool) (x y : D) (_ : Nat) (S : Sto) : Out D := match py S dep x, py S dep y with
  | some a, some b => .ok (.bl (neg ^^ PyData.eqv a b)) S
  | _, _ => .bad
theorem eq_D (hu : X.A.units + 65 < cLine) : OpR X (compareOp .Eq) (OpD X.kw (eqD false)) := by
  refine OpR.imp (op_eqD (by omega)) fun x y H Q h => ?_
  obtain ⟨μ, S, bs, dx, dy, R, rx, ry, h⟩ := h
  unfold eqD at h
  split at h
  · rename_i a b e1 e2
    obtain ⟨p1, p2⟩ := py_shaped R e1 rx
    obtain ⟨p3, p4⟩ := py_shaped R e2 ry
    exact ⟨_, _, p1, p3, p2, p4, by rw [Bool.false_xor] at h; exact h.here R (.bl _)⟩
  · exact h.elim
theorem ne_D (hu : X.A.units + 65 < cLine) : OpR X (compareOp .NotEq) (OpD X.kw (eqD true)) := by
  refine OpR.imp (op_neD (by omega)) fun x y H Q h => ?_
  obtain ⟨μ, S, bs, dx, dy, R, rx, ry, h⟩ := h
  unfold eqD at h
  split at h
  · rename_i a b e1 e2
    obtain ⟨p1, p2⟩ := py_shaped R e1 rx
    obtain ⟨p3, p4⟩ := py_shaped R e2 ry
    exact ⟨_, _, p1, p3, p2, p4, by rw [Bool.true_xor] at h; exact h.here R (.bl _)⟩
  · exact h.elim
def ordD (f : Int → Int → Bool) : D → D → Nat → Sto → Out D
  | .int i, .int j, _, S => .ok (.bl (f i j)) S
  | _, _, _, _ => .bad
theorem ord_D {o : Value → Value → Sem Value} {f : Int → Int → Bool} (h : OpR X o (rI0 fun i j => .bl (f i j))) : OpR X o (OpD X.kw (ordD f)) := by
  refine OpR.imp h fun x y H Q h => ?_
  obtain ⟨μ, S, bs, dx, dy, R, rx, ry, h⟩ := h
  unfold ordD at h
  split at h
  · cases rx; cases ry
    exact ⟨_, _, rfl, rfl, h.here R (.bl _)⟩
  · exact h.elim
theorem lt_D : OpR X (compareOp .Lt) (OpD X.kw (ordD fun i j => decide (i < j))) := ord_D op_lt
theorem le_D : OpR X (compareOp .LtE) (OpD X.kw (ordD fun i j => decide (i ≤ j))) := ord_D op_le
theorem gt_D : OpR X (compareOp .Gt) (OpD X.kw (ordD fun i j => decide (j < i))) := ord_D op_gt
theorem ge_D : OpR X (compareOp .GtE) (OpD X.kw (ordD fun i j => decide (j ≤ i))) := ord_D op_ge
/-- in, not in: a tuple, a list -/
def inD (neg : Bool) (x y : D) (_ : Nat) (S : Sto) : Out D := match py S dep x, py S dep y with
  | some a, some (.tuple ps) => .ok (.bl (neg ^^ ps.any fun z => PyData.eqv z a)) S
  | some a, some (.list ps) => .ok (.bl (neg ^^ ps.any fun z => PyData.eqv z a)) S
  | _, _ => .bad
/-- the same over tuples -/
def rInT (K : Kw) (neg : Bool) : R2 := fun x y H Q => ∃ d ds, L2.Dp K H x d ∧ L2.Dp K H y (.tuple ds) ∧ SeqAt.shaped d = true ∧ SeqAt.shaped (.tuple ds) = true ∧ Q (.bl (neg ^^ ds.any fun z => PyData.eqv z d)) H
theorem op_inT (hu : X.A.units + 65 < cLine) : OpR X (compareOp .In) (rInT X.kw false) := by
  intro pins s σ H x y v u Q I rx ry h
  obtain ⟨d, ds, hd, he, sd, se, q⟩ := h
  obtain ⟨as, r1⟩ := L2.Dp.reads I d x v hd rx
  obtain ⟨bs, r2⟩ := L2.Dp.reads I (.tuple ds) y u he ry
  exact SeqAt.in_tuple_reads r2 r1 (SeqAt.canLay_of_shaped se) (SeqAt.canLay_of_shaped sd) (room_in_shaped sd hu) ⟨.bl _, H, I, rfl, by rw [Bool.false_xor] at q; exact q⟩
theorem op_notInT (hu : X.A.units + 65 < cLine) : OpR X (compareOp .NotIn) (rInT X.kw true) := by
  intro pins s σ H x y v u Q I rx ry h
  obtain ⟨d, ds, hd, he, sd, se, q⟩ := h
  obtain ⟨as, r1⟩ := L2.Dp.reads I d x v hd rx
  obtain ⟨bs, r2⟩ := L2.Dp.reads I (.tuple ds) y u he ry
  exact SeqAt.notIn_tuple_reads r2 r1 (SeqAt.canLay_of_shaped se) (SeqAt.canLay_of_shaped sd) (room_in_shaped sd hu) ⟨.bl _, H, I, rfl, by rw [Bool.true_xor] at q; exact q⟩
theorem in_D (hu : X.A.units + 65 < cLine) : OpR X (compareOp .In) (OpD X.kw (inD false)) := by
  refine OpR.imp (OpR.or (op_inT hu) (op_inD hu)) fun x y H Q h => ?_
  obtain ⟨μ, S, bs, dx, dy, R, rx, ry, h⟩ := h
  unfold inD at h
  split at h
  · rename_i a b e1 e2
    obtain ⟨p1, p2⟩ := py_shaped R e1 rx
    obtain ⟨p3, p4⟩ := py_shaped R e2 ry
    exact .inl ⟨_, _, p1, p3, p2, p4, h.here R (.bl _)⟩
  · rename_i a b e1 e2
    obtain ⟨p1, p2⟩ := py_shaped R e1 rx
    obtain ⟨p3, p4⟩ := py_shaped R e2 ry
    exact .inr ⟨_, _, p1, p3, p2, p4, by rw [Bool.false_xor] at h; exact h.here R (.bl _)⟩
  · exact h.elim
theorem notIn_D (hu : X.A.units + 65 < cLine) : OpR X (compareOp .NotIn) (OpD X.kw (inD true)) := by
  refine OpR.imp (OpR.or (op_notInT hu) (op_notInD hu)) fun x y H Q h => ?_
  obtain ⟨μ, S, bs, dx, dy, R, rx, ry, h⟩ := h
  unfold inD at h
  split at h
  · rename_i a b e1 e2
    obtain ⟨p1, p2⟩ := py_shaped R e1 rx
    obtain ⟨p3, p4⟩ := py_shaped R e2 ry
    exact .inl ⟨_, _, p1, p3, p2, p4, h.here R (.bl _)⟩
  · rename_i a b e1 e2
    obtain ⟨p1, p2⟩ := py_shaped R e1 rx
    obtain ⟨p3, p4⟩ := py_shaped R e2 ry
    exact .inr ⟨_, _, p1, p3, p2, p4, by rw [Bool.true_xor] at h; exact h.here R (.bl _)⟩
  · exact h.elim
end

/-! ### truth -/
def truD : D → Sto → Option Bool
  | .non, _ => some false
  | .bl b, _ => some b
  | .int i, _ => some (i != 0)
  | .tup ds, _ => some (!ds.isEmpty)
  | .arr ds, _ => some (!ds.isEmpty)
  | .loc n, S => (match S[n]? with
    | some (.lst ds) => some (!ds.isEmpty)
    | _ => none)
  | _, _ => none
theorem empty_rep {K : Kw} {H : Hp} {μ : List Addr} {vs : List V} {ds : List D} (r : RepAll K H μ vs ds) : (!vs.isEmpty) = !ds.isEmpty := by cases r <;> rfl
theorem tru_D {K : Kw} {H : Hp} {μ : List Addr} {S : Sto} {bs : Bd} (R : RepS K H μ S bs) {v : V} {d : D} {b : Bool} (r : Rep K H μ v d) (h : truD d S = some b) : TruV K v H b := by
  unfold truD at h
  cases r with
  | non => cases h; rfl
  | bl _ => cases h; rfl
  | int _ => cases h; rfl
  | str _ => cases h
  | tup h1 h2 => cases h; exact .inr (.inl ⟨_, h1, (empty_rep h2).symm⟩)
  | arr h1 h2 => cases h; exact .inl ⟨_, h1.seq, (empty_rep h2).symm⟩
  | loc m =>
    dsimp only at h
    split at h
    · rename_i ds e
      cases h
      obtain ⟨vs, c1, c2⟩ := R.cell m e
      exact .inl ⟨_, .inl (.inl c1), (empty_rep c2).symm⟩
    · cases h
  | glo x => cases h
end Dq
set_option Elab.async false
set_option linter.all false
set_option maxRecDepth 100000
set_option maxHeartbeats 4000000
/-! Dp3: items, slices, stores, built-in calls, on data. -/
namespace Dq
open PySem PySem.Spec PyProof.Rows L2

/-! ### items -/
def itemsOf : D → Sto → Option (List D)
  | .tup ds, _ => some ds
  | .arr ds, _ => some ds
  | .loc n, S => (match S[n]? with
    | some (.lst ds) => some ds
    | _ => none)
  | _, _ => none
def keyOf' : D → Option Key
  | .int i => some (.inl i)
  | .str x => some (.inr x)
  | _ => none
def getK {α : Type} (k : Key) : List (Key × α) → Option α
  | [] => none
  | p :: r => if p.1 = k then some p.2 else getK k r
theorem getK_val (k : Key) : ∀ kvs : List (Key × V), valV kvs k = getK k kvs
  | [] => rfl
  | p :: r => by
    unfold getK
    by_cases e : p.1 = k
    · rw [if_pos e, valV_pos e]
    · rw [if_neg e, valV_neg e, getK_val k r]
theorem RepKV.get {K : Kw} {H : Hp} {μ : List Addr} (k : Key) : ∀ {vs : List (Key × V)} {ds : List (Key × D)}, RepKV K H μ vs ds → (∀ d, getK k ds = some d → ∃ v, getK k vs = some v ∧ Rep K H μ v d) ∧ (getK k ds = none → getK k vs = none)
  | _, _, .nil => ⟨fun _ e => (nomatch e), fun _ => rfl⟩
  | _, _, .cons (k := j) r t => by
    unfold getK
    by_cases e : j = k
    · simp only [e, if_true]
      exact ⟨fun d q => ⟨_, rfl, Option.some.inj q ▸ r⟩, fun q => nomatch q⟩
    · simp only [e, if_false]
      exact RepKV.get k t
def ixD (x y : D) (_ : Nat) (S : Sto) : Out D := match y with
  | .int i => (match itemsOf x S with
    | some ds => (match atI ds i with
      | some d => .ok d S
      | none => .bad)
    | none => .bad)
  | _ => .bad
theorem RepAll.at {K : Kw} {H : Hp} {μ : List Addr} {vs : List V} {ds : List D} {i : Int} {d : D} (r : RepAll K H μ vs ds) (h : atI ds i = some d) : ∃ v, atI vs i = some v ∧ Rep K H μ v d := by
  unfold atI at h ⊢
  rw [r.length]
  cases e : ixN ds.length i with
  | none => rw [e] at h; cases h
  | some j =>
    rw [e] at h
    exact r.get h
section
variable {X : Cx}
theorem IxR.imp {r r' : R2} (h : IxR X r) (i : ∀ x y H Q, r' x y H Q → r x y H Q) : IxR X r' := fun value slice pins s σ H x y v u Q I rx ry q hs => h value slice pins s σ H x y v u Q I rx ry (i _ _ _ _ q) hs
theorem ix_D : IxR X (OpD X.kw ixD) := by
  refine IxR.imp (IxR.or ix_list ix_tup) fun x y H Q h => ?_
  obtain ⟨μ, S, bs, dx, dy, R, rx, ry, h⟩ := h
  unfold ixD at h
  split at h
  · split at h
    · rename_i ds e
      split at h
      · rename_i d ed
        cases ry
        unfold itemsOf at e
        cases rx with
        | tup h1 h2 =>
          cases e
          obtain ⟨v, hv, rv⟩ := h2.at ed
          exact .inr ⟨_, _, _, _, rfl, rfl, h1, hv, h.here R rv⟩
        | arr h1 h2 =>
          cases e
          obtain ⟨v, hv, rv⟩ := h2.at ed
          exact .inl ⟨_, _, _, _, rfl, rfl, h1.seq, hv, h.here R rv⟩
        | loc m =>
          dsimp only at e
          split at e
          · rename_i ds' e1
            cases e
            obtain ⟨vs, c1, c2⟩ := R.cell m e1
            obtain ⟨v, hv, rv⟩ := c2.at ed
            exact .inl ⟨_, _, _, _, rfl, rfl, .inl (.inl c1), hv, h.here R rv⟩
          · cases e
        | _ => cases e
      · exact h.elim
    · exact h.elim
  · exact h.elim

/-! ### slices -/
def cutD (ds : List D) (lo hi : Option Int) : List D := (ds.drop (HT.sIx ds.length 0 lo)).take (HT.sIx ds.length ds.length hi - HT.sIx ds.length 0 lo)
def slD (x : D) (lo hi : Option Int) (_ : Nat) (S : Sto) : Out D := match x with
  | .tup ds => .ok (.tup (cutD ds lo hi)) S
  | .loc n => (match S[n]? with
    | some (.lst ds) => .ok (.loc S.length) (S ++ [.lst (cutD ds lo hi)])
    | _ => .bad)
  | _ => .bad
def SlD (K : Kw) : V → Option Int → Option Int → Hp → VK → Prop := fun x lo hi H Q => ∃ μ S bs d, RepS K H μ S bs ∧ Rep K H μ x d ∧ OutV K bs H μ Q (slD d lo hi (base bs) S)
theorem cut_rep {K : Kw} {H : Hp} {μ : List Addr} {vs : List V} {ds : List D} (r : RepAll K H μ vs ds) (lo hi : Option Int) : RepAll K H μ (cutV vs lo hi) (cutD ds lo hi) := by
  unfold cutV cutD
  rw [r.length]
  exact (r.drop _).take _
theorem cut_whole {ds : List D} {lo hi : Option Int} (h1 : HT.sIx ds.length 0 lo = 0) (h2 : HT.sIx ds.length ds.length hi = ds.length) : cutD ds lo hi = ds := by
  unfold cutD
  rw [h1, h2]
  simp
theorem sl_D : SlR X (SlD X.kw) := by
  have h : SlR X (fun x lo hi H Q => rSlA X.kw x lo hi H Q ∨ rSlL X.kw x lo hi H Q) := SlR.or sl_tupA sl_list
  intro pins s σ H x v vl vu lo hi sl Q I rx hs pl pu q
  refine h pins s σ H x v vl vu lo hi sl Q I rx hs pl pu ?_
  obtain ⟨μ, S, bs, d, R, rd, q⟩ := q
  unfold slD at q
  cases rd with
  | tup h1 h2 =>
    refine .inl ⟨_, _, rfl, h1, fun e => ?_, fun _ p hp => q.tup R (cut_rep h2 lo hi) hp⟩
    rw [h2.length] at e
    have e2 := cut_whole e.1 e.2
    dsimp only at q
    rw [e2] at q
    exact q.here R (.tup h1 h2)
  | loc m =>
    dsimp only at q
    split at q
    · rename_i ds e
      obtain ⟨vs, c1, c2⟩ := R.cell m e
      exact .inr ⟨_, _, rfl, .inl (.inl c1), fun p hp => q.lst R (cut_rep c2 lo hi) hp⟩
    · exact q.elim
  | _ => exact q.elim

/-! ### stores -/
/-- may a value be written into the cell n? -/
def okw (b n : Nat) (v : D) : Bool := Nat.ble b n || below 0 v
def OutU (K : Kw) (bs : Bd) (H : Hp) (μ : List Addr) (Q : Hp → Prop) : Option Sto → Prop
  | some S' => ∀ H' μ', PK H H' → Le μ μ' → RepS K H' μ' S' bs → Q H'
  | none => False
/-- a list is written -/
theorem RepS.setLst {K : Kw} {H : Hp} {μ : List Addr} {S : Sto} {bs : Bd} {n : Nat} {a : Addr} {vs ws : List V} {ds es : List D} (R : RepS K H μ S bs) (hn : μ[n]? = some a) (hS : S[n]? = some (.lst ds)) (hH : H a = some (.lst vs))
    (hw : ∀ μ1 H1, PK H H1 → (base bs ≤ n → μ1 = μ) → RepAll K H μ1 vs ds → RepAll K H1 μ1 ws es) : RepS K (upd H a (.lst ws)) μ (S.set n (.lst es)) bs := by
  have pk : PK H (upd H a (.lst ws)) := PK.write hH (fun xs z => nomatch z) (fun _ _ z => nomatch z)
  refine R.put (u := .lst vs) pk hn fun μ1 c h1 _ h3 h4 => ?_
  rw [hS] at h3; cases h3
  obtain ⟨us, e, r⟩ := h4
  rw [hH] at e; cases e
  exact ⟨ws, upd_same, hw μ1 _ pk h1 r⟩
theorem rep_free {K : Kw} {H : Hp} {μ μ' : List Addr} {v : V} {d : D} (h : below 0 d = true) (r : Rep K H μ v d) : Rep K H μ' v d := (Rep.cut h r).mono (PK.refl H) fun n a e => by simp at e
/-- o[i] = v -/
def setD (x y v : D) (b : Nat) (S : Sto) : Option Sto := match x, y with
  | .loc n, .int i => (match S[n]? with
    | some (.lst ds) => (match ixN ds.length i with
      | some j => if okw b n v = true then some (S.set n (.lst (ds.set j v))) else none
      | none => none)
    | _ => none)
  | _, _ => none
def SetDR (K : Kw) : TSet := fun o i v H Q => ∃ μ S bs dx dy dv, RepS K H μ S bs ∧ Rep K H μ o dx ∧ Rep K H μ i dy ∧ Rep K H μ v dv ∧ OutU K bs H μ Q (setD dx dy dv (base bs) S)
theorem okw_rep {K : Kw} {H : Hp} {μ : List Addr} {v : V} {d : D} {b n : Nat} (h : okw b n d = true) (r : Rep K H μ v d) : ∀ μ1, (b ≤ n → μ1 = μ) → Rep K H μ1 v d := fun μ1 e => by
  unfold okw at h
  rw [Bool.or_eq_true] at h
  rcases h with h | h
  · rw [e (Nat.le_of_ble_eq_true h)]; exact r
  · exact rep_free h r
theorem set_D : PSet X (SetDR X.kw) := by
  intro pins s σ H o i v ov iv u Q I ro ri rv h
  refine set_list pins s σ H o i v ov iv u Q I ro ri rv ?_
  obtain ⟨μ, S, bs, dx, dy, dv, R, r1, r2, r3, h⟩ := h
  unfold setD at h
  split at h
  · rename_i n k
    split at h
    · rename_i ds e
      split at h
      · rename_i j ej
        split at h
        · rename_i ho
          cases r1 with
          | loc m =>
            cases r2
            obtain ⟨vs, c1, c2⟩ := R.cell m e
            refine ⟨_, vs, k, j, rfl, rfl, c1, by rw [c2.length]; exact ej, ?_⟩
            have R' := R.setLst (ws := vs.set j v) (es := ds.set j dv) m e c1 fun μ1 H1 p h1 r => (r.set (okw_rep ho r3 μ1 h1) j).mono p (Le.refl _)
            exact h _ μ (PK.write c1 (fun xs z => nomatch z) (fun _ _ z => nomatch z)) (Le.refl _) R'
        · exact h.elim
      · exact h.elim
    · exact h.elim
  · exact h.elim

/-! ### xs.append(x), xs.index(x) -/
def appD (x : D) (ds : List D) (b : Nat) (S : Sto) : Out D := match x, ds with
  | .loc n, [v] => (match S[n]? with
    | some (.lst xs) => if (okw b n v && Nat.blt xs.length lim) = true then .ok .non (S.set n (.lst (xs ++ [v]))) else .bad
    | _ => .bad)
  | _, _ => .bad
theorem app_D : MtR X "list.append" (MtD X.kw appD) := by
  refine MtR.imp (r := rAppend) mt_append fun x vs H Q h => ?_
  obtain ⟨μ, S, bs, d, ds, R, r1, r2, h⟩ := h
  unfold appD at h
  split at h
  · rename_i n v
    split at h
    · rename_i xs e
      split at h
      · rename_i ho
        rw [Bool.and_eq_true] at ho
        cases r1 with
        | loc m =>
          cases r2 with
          | cons r3 r4 =>
            cases r4
            obtain ⟨us, c1, c2⟩ := R.cell m e
            refine ⟨_, us, _, rfl, rfl, c1, ?_, ?_⟩
            · rw [c2.length, lim_eq]; exact Nat.blt_eq.mp ho.2
            · have R' := R.setLst (ws := us ++ [_]) (es := xs ++ [v]) m e c1 fun μ1 H1 p h1 r => (r.append (.cons (okw_rep ho.1 r3 μ1 h1) .nil)).mono p (Le.refl _)
              exact h _ _ μ (PK.write c1 (fun xs z => nomatch z) (fun _ _ z => nomatch z)) (Le.refl _) R' .non
      · exact h.elim
    · exact h.elim
  · exact h.elim
/-- the first place of an equal one -/
def findP (p : PyData) : List PyData → Nat → Option Nat
  | [], _ => none
  | x :: xs, i => if PyData.eqv x p = true then some i else findP p xs (i + 1)
theorem findP_ok (p : PyData) : ∀ (xs : List PyData) (i j : Nat), findP p xs i = some j → ∃ k z, j = i + k ∧ xs[k]? = some z ∧ PyData.eqv z p = true ∧ ∀ (m : Nat) (z' : PyData), m < k → xs[m]? = some z' → PyData.eqv z' p = false
  | [], _, _, h => by cases h
  | x :: xs, i, j, h => by
    unfold findP at h
    split at h
    · rename_i e
      cases h
      exact ⟨0, x, rfl, rfl, e, fun m _ hm => absurd hm (Nat.not_lt_zero m)⟩
    · rename_i e
      obtain ⟨k, z, h1, h2, h3, h4⟩ := findP_ok p xs (i + 1) j h
      refine ⟨k + 1, z, by omega, by simpa using h2, h3, fun m z' hm hz => ?_⟩
      cases m with
      | zero =>
        have : x = z' := by simpa using hz
        rw [← this]
        simpa using e
      | succ m => exact h4 m z' (by omega) (by simpa using hz)
def idxD (x : D) (ds : List D) (_ : Nat) (S : Sto) : Out D := match ds with
  | [v] => (match py S dep x, py S dep v with
    | some (.list ps), some p => (match findP p ps 0 with
      | some j => .ok (.int (j : Nat)) S
      | none => .bad)
    | _, _ => .bad)
  | _ => .bad
theorem idx_D (hu : X.A.units + 65 < cLine) : MtR X "list.index" (MtD X.kw idxD) := by
  refine MtR.imp (mt_indexD hu) fun x vs H Q h => ?_
  obtain ⟨μ, S, bs, d, ds, R, r1, r2, h⟩ := h
  unfold idxD at h
  split at h
  · split at h
    · rename_i ps p e1 e2
      split at h
      · rename_i j ej
        cases r2 with
        | cons r3 r4 =>
          cases r4
          obtain ⟨p1, p2⟩ := py_shaped R e1 r1
          obtain ⟨p3, p4⟩ := py_shaped R e2 r3
          obtain ⟨k, z, h1, h2, h3, h4⟩ := findP_ok _ _ _ _ ej
          have q := p1
          cases q with
          | lst hs ha =>
            refine ⟨_, _, p, ps, k, z, rfl, rfl, p1, p3, p2, p4, h2, h3, h4, ?_⟩
            rw [h1, Nat.zero_add] at h
            exact h.here R (.int _)
      · exact h.elim
    · exact h.elim
  · exact h.elim

/-! ### len, list, int, min, max -/
def lenD (ds : List D) (_ : Nat) (S : Sto) : Out D := match ds with
  | [x] => (match itemsOf x S with
    | some ds => .ok (.int (ds.length : Nat)) S
    | none => .bad)
  | _ => .bad
theorem items_rep {K : Kw} {H : Hp} {μ : List Addr} {S : Sto} {bs : Bd} (R : RepS K H μ S bs) {v : V} {d : D} {ds : List D} (r : Rep K H μ v d) (h : itemsOf d S = some ds) : ∃ a vs, v = .ref a ∧ RepAll K H μ vs ds ∧ (SqL K H a vs ∨ SqT K H a vs) := by
  unfold itemsOf at h
  cases r with
  | tup h1 h2 => cases h; exact ⟨_, _, rfl, h2, .inr h1⟩
  | arr h1 h2 => cases h; exact ⟨_, _, rfl, h2, .inl h1.seq⟩
  | loc m =>
    dsimp only at h
    split at h
    · rename_i ds' e
      cases h
      obtain ⟨vs, c1, c2⟩ := R.cell m e
      exact ⟨_, _, rfl, c2, .inl (.inl (.inl c1))⟩
    · cases h
  | _ => cases h
theorem len_D : CallR X (.builtin "len") (CallD X.kw lenD) := by
  refine CallR.imp call_len fun xs H Q h => ?_
  obtain ⟨μ, S, bs, ds, R, r, h⟩ := h
  unfold lenD at h
  split at h
  · split at h
    · rename_i ds' e
      cases r with
      | cons r1 r2 =>
        cases r2
        obtain ⟨a, vs, e1, r3, q⟩ := items_rep R r1 e
        subst e1
        refine ⟨_, vs.length, rfl, ?_, ?_⟩
        · rcases q with q | q
          · exact .inl ⟨vs, q, rfl⟩
          · exact .inr ⟨vs, q, rfl⟩
        · rw [r3.length]; exact h.here R (.int _)
    · exact h.elim
  · exact h.elim
def listD (ds : List D) (_ : Nat) (S : Sto) : Out D := match ds with
  | [x] => (match itemsOf x S with
    | some ds => .ok (.loc S.length) (S ++ [.lst ds])
    | none => .bad)
  | _ => .bad
theorem list_D : CallR X (.type "list") (CallD X.kw listD) := by
  refine CallR.imp call_list_of fun xs H Q h => ?_
  obtain ⟨μ, S, bs, ds, R, r, h⟩ := h
  unfold listD at h
  split at h
  · split at h
    · rename_i ds' e
      cases r with
      | cons r1 r2 =>
        cases r2
        obtain ⟨a, vs, e1, r3, q⟩ := items_rep R r1 e
        subst e1
        exact ⟨a, vs, rfl, q, fun p hp => h.lst R r3 hp⟩
    · exact h.elim
  · exact h.elim
def tupleD (ds : List D) (_ : Nat) (S : Sto) : Out D := match ds with
  | [x] => (match itemsOf x S with
    | some ds => .ok (.tup ds) S
    | none => .bad)
  | _ => .bad
theorem tuple_D : CallR X (.type "tuple") (CallD X.kw tupleD) := by
  refine CallR.imp call_tuple_of fun xs H Q h => ?_
  obtain ⟨μ, S, bs, ds, R, r, h⟩ := h
  unfold tupleD at h
  split at h
  · split at h
    · rename_i ds' e
      cases r with
      | cons r1 r2 =>
        cases r2
        obtain ⟨a, vs, e1, r3, q⟩ := items_rep R r1 e
        subst e1
        refine ⟨a, vs, rfl, ?_⟩
        rcases q with q | q
        · exact .inl ⟨q, fun p hp => h.tup R r3 hp⟩
        · exact .inr ⟨q, h.here R (.tup q r3)⟩
    · exact h.elim
  · exact h.elim
def intD (ds : List D) (_ : Nat) (S : Sto) : Out D := match ds with
  | [.int i] => .ok (.int i) S
  | [.bl b] => .ok (.int (if b then 1 else 0)) S
  | _ => .bad
theorem int_D : CallR X (.type "int") (CallD X.kw intD) := by
  refine CallR.imp call_int1 fun xs H Q h => ?_
  obtain ⟨μ, S, bs, ds, R, r, h⟩ := h
  unfold intD at h
  split at h
  · cases r with
    | cons r1 r2 =>
      cases r2; cases r1
      exact .inl ⟨_, rfl, h.here R (.int _)⟩
  · cases r with
    | cons r1 r2 =>
      cases r2; cases r1
      exact .inr ⟨_, rfl, h.here R (.int _)⟩
  · exact h.elim
def boolD (ds : List D) (_ : Nat) (S : Sto) : Out D := match ds with
  | [.int i] => .ok (.bl (i != 0)) S
  | [.bl b] => .ok (.bl b) S
  | _ => .bad
theorem bool_D : CallR X (.type "bool") (CallD X.kw boolD) := by
  refine CallR.imp call_bool1 fun xs H Q h => ?_
  obtain ⟨μ, S, bs, ds, R, r, h⟩ := h
  unfold boolD at h
  split at h
  · cases r with
    | cons r1 r2 =>
      cases r2; cases r1
      exact .inl ⟨_, rfl, h.here R (.bl _)⟩
  · cases r with
    | cons r1 r2 =>
      cases r2; cases r1
      exact .inr ⟨_, rfl, h.here R (.bl _)⟩
  · exact h.elim
def pickD (f : Int → Int → Bool) (ds : List D) (_ : Nat) (S : Sto) : Out D := match ds with
  | [.int i, .int j] => .ok (.int (if f i j = true then j else i)) S
  | _ => .bad
theorem max_D (hc : X.calm = true) : CallR X (.builtin "max") (CallD X.kw (pickD fun i j => decide (i < j))) := by
  refine CallR.imp (call_max2 hc) fun xs H Q h => ?_
  obtain ⟨μ, S, bs, ds, R, r, h⟩ := h
  unfold pickD at h
  split at h
  · rename_i i j
    cases r with
    | cons r1 r2 =>
      cases r2 with
      | cons r3 r4 =>
        cases r4; cases r1; cases r3
        refine ⟨i, j, rfl, ?_⟩
        have := h.here R (.int _)
        simpa using this
  · exact h.elim
theorem min_D (hc : X.calm = true) : CallR X (.builtin "min") (CallD X.kw (pickD fun i j => decide (j < i))) := by
  refine CallR.imp (call_min2 hc) fun xs H Q h => ?_
  obtain ⟨μ, S, bs, ds, R, r, h⟩ := h
  unfold pickD at h
  split at h
  · rename_i i j
    cases r with
    | cons r1 r2 =>
      cases r2 with
      | cons r3 r4 =>
        cases r4; cases r1; cases r3
        refine ⟨i, j, rfl, ?_⟩
        have := h.here R (.int _)
        simpa using this
  · exact h.elim

/-! ### isinstance -/
inductive Kd where
  | non | bl | int | str | tup | lst | dic
inductive Ty where
  | int | bool | str | tup | lst
def Kd.name : Kd → String
  | .non => "NoneType" | .bl => "bool" | .int => "int" | .str => "str" | .tup => "tuple" | .lst => "list" | .dic => "dict"
def Ty.name : Ty → String
  | .int => "int" | .bool => "bool" | .str => "str" | .tup => "tuple" | .lst => "list"
def kdOf : D → Sto → Option Kd
  | .non, _ => some .non
  | .bl _, _ => some .bl
  | .int _, _ => some .int
  | .str _, _ => some .str
  | .tup _, _ => some .tup
  | .arr _, _ => some .lst
  | .loc n, S => (match S[n]? with
    | some (.lst _) => some .lst
    | some (.dic _) => some .dic
    | _ => none)
  | _, _ => none
def isK : Kd → Ty → Bool
  | .bl, .int => true
  | .bl, .bool => true
  | .int, .int => true
  | .str, .str => true
  | .tup, .tup => true
  | .lst, .lst => true
  | _, _ => false
theorem isK_kit (k : Kd) (t : Ty) : kitB k.name t.name = some (isK k t) := by cases k <;> cases t <;> decide +kernel
theorem kd_ty {K : Kw} {H : Hp} {μ : List Addr} {S : Sto} {bs : Bd} (R : RepS K H μ S bs) {v : V} {d : D} {k : Kd} (r : Rep K H μ v d) (h : kdOf d S = some k) : TyX K H v (.type k.name) := by
  unfold kdOf at h
  cases r with
  | non => cases h; exact .base .non
  | bl b => cases h; exact .base (.bl b)
  | int i => cases h; exact .base (.int i)
  | str x => cases h; exact .base (.str x)
  | tup h1 h2 =>
    cases h
    rcases h1 with (h1 | ⟨o, h1⟩) | ⟨o, its, n, e, c, _⟩
    · exact .base (.tup h1)
    · exact .fTuple h1
    · exact .kTuple e c
  | arr h1 h2 =>
    cases h
    rcases h1 with ⟨o, h1⟩ | ⟨o, its, n, e, c, _⟩
    · exact .base (.frz h1)
    · exact .kList e c
  | loc m =>
    dsimp only at h
    split at h
    · rename_i ds e
      cases h
      obtain ⟨vs, c1, c2⟩ := R.cell m e
      exact .base (.lst c1)
    · rename_i kvs e
      cases h
      obtain ⟨vs, c1, c2⟩ := R.cell m e
      exact .base (.dK c1)
    · cases h
  | glo x => cases h
def isiD (t : Ty) (x : D) (S : Sto) : Out D := match kdOf x S with
  | some k => .ok (.bl (isK k t)) S
  | none => .bad
theorem isi_D (t : Ty) : CallR X (.builtin "isinstance") (fun xs H Q => ∃ x μ S bs d, xs = [x, .ty t.name] ∧ RepS X.kw H μ S bs ∧ Rep X.kw H μ x d ∧ OutV X.kw bs H μ Q (isiD t d S)) := by
  refine CallR.imp call_isi fun xs H Q h => ?_
  obtain ⟨x, μ, S, bs, d, e, R, r, h⟩ := h
  unfold isiD at h
  split at h
  · rename_i k ek
    exact ⟨x, .ty t.name, _, _, _, e, .ty _, kd_ty R r ek, kit_ty (isK_kit k t), h.here R (.bl _)⟩
  · exact h.elim
end
end Dq
set_option Elab.async false
set_option linter.all false
set_option maxRecDepth 100000
set_option maxHeartbeats 4000000
/-! Dp4: sorted. -/
namespace Dq
open PySem PySem.Spec PyProof.Rows L2

/-! ### a sort that runs in the kernel -/
def ins {α : Type} (le : α → α → Bool) (x : α) : List α → List α
  | [] => [x]
  | y :: r => if le x y = true then x :: y :: r else y :: ins le x r
def isort {α : Type} (le : α → α → Bool) : List α → List α
  | [] => []
  | x :: r => ins le x (isort le r)
theorem ins_perm {α : Type} (le : α → α → Bool) (x : α) : ∀ l : List α, (ins le x l).Perm (x :: l)
  | [] => .refl _
  | y :: r => by
    unfold ins
    split
    · exact .refl _
    · exact ((ins_perm le x r).cons y).trans (.swap x y r)
theorem isort_perm {α : Type} (le : α → α → Bool) : ∀ l : List α, (isort le l).Perm l
  | [] => .refl _
  | x :: r => (ins_perm le x (isort le r)).trans ((isort_perm le r).cons x)
theorem ins_pair {α : Type} {le : α → α → Bool} (h : PySem.W.TotalLe le) (x : α) : ∀ l : List α, l.Pairwise (fun a b => le a b = true) → (ins le x l).Pairwise fun a b => le a b = true
  | [], _ => by unfold ins; exact List.pairwise_singleton _ _
  | y :: r, p => by
    unfold ins
    rw [List.pairwise_cons] at p
    split
    · rename_i e
      refine List.pairwise_cons.mpr ⟨fun z hz => ?_, List.pairwise_cons.mpr p⟩
      rcases List.mem_cons.mp hz with rfl | hz
      · exact e
      · exact h.trans _ _ _ e (p.1 z hz)
    · rename_i e
      refine List.pairwise_cons.mpr ⟨fun z hz => ?_, ins_pair h x r p.2⟩
      rcases List.mem_cons.mp ((ins_perm le x r).mem_iff.mp hz) with rfl | hz
      · exact (h.total y z).resolve_right e
      · exact p.1 z hz
theorem isort_pair {α : Type} {le : α → α → Bool} (h : PySem.W.TotalLe le) : ∀ l : List α, (isort le l).Pairwise fun a b => le a b = true
  | [] => .nil
  | x :: r => ins_pair h x _ (isort_pair h r)
theorem ins_rank {α : Type} {le : α → α → Bool} (h : PySem.W.TotalLe le) (c x : α) : ∀ l : List α, l.Pairwise (fun a b => le a b = true) → (ins le x l).filter (PySem.W.sameRank le c) = (x :: l).filter (PySem.W.sameRank le c)
  | [], _ => rfl
  | y :: r, p => by
    unfold ins
    rw [List.pairwise_cons] at p
    split
    · rfl
    · rename_i e
      rw [List.filter_cons, ins_rank h c x r p.2]
      by_cases hx : PySem.W.sameRank le c x = true
      · by_cases hy : PySem.W.sameRank le c y = true
        · exfalso
          unfold PySem.W.sameRank at hx hy
          rw [Bool.and_eq_true] at hx hy
          exact e (h.trans _ _ _ hx.2 hy.1)
        · simp [List.filter_cons, hx, hy]
      · simp [List.filter_cons, hx]
theorem isort_rank {α : Type} {le : α → α → Bool} (h : PySem.W.TotalLe le) (c : α) : ∀ l : List α, (isort le l).filter (PySem.W.sameRank le c) = l.filter (PySem.W.sameRank le c)
  | [] => rfl
  | x :: r => by
    show (ins le x (isort le r)).filter _ = _
    rw [ins_rank h c x _ (isort_pair h r), List.filter_cons, List.filter_cons, isort_rank h c r]
theorem isort_eq {α : Type} {le : α → α → Bool} (h : PySem.W.TotalLe le) (l : List α) : isort le l = l.mergeSort le := PySem.W.sort_unique h (isort_pair h l) fun c => isort_rank h c l
theorem ins_map {α β : Type} (f : α → β) (le : α → α → Bool) (le' : β → β → Bool) (e : ∀ a b, le a b = le' (f a) (f b)) (x : α) : ∀ l : List α, (ins le x l).map f = ins le' (f x) (l.map f)
  | [] => rfl
  | y :: r => by
    unfold ins
    simp only [List.map_cons]
    rw [e x y]
    split
    · simp
    · rw [List.map_cons, ins_map f le le' e x r]
theorem isort_map {α β : Type} (f : α → β) (le : α → α → Bool) (le' : β → β → Bool) (e : ∀ a b, le a b = le' (f a) (f b)) : ∀ l : List α, (isort le l).map f = isort le' (l.map f)
  | [] => rfl
  | x :: r => by
    show (ins le x (isort le r)).map f = ins le' (f x) (isort le' (r.map f))
    rw [ins_map f le le' e, isort_map f le le' e r]

/-! ### sorted(xs) of data -/
def leD {α : Type} (a b : α × PyData) : Bool := !PySem.W.dataLt b.2 a.2
theorem leD_is {α : Type} : (leD : α × PyData → α × PyData → Bool) = PySem.W.dataLe false (·.2) := rfl
theorem leD_total {α : Type} : PySem.W.TotalLe (leD : α × PyData → α × PyData → Bool) := by rw [leD_is]; exact PySem.W.sortLe_total _ false _
def sortOk (ps : List PyData) : Bool := ps.all (fun p => ps.all fun q => PySem.W.alike p q) && (ps.all (fun p => match p with | .tuple (_ :: _) => true | _ => false) || ps.all (fun p => match p with | .none => false | .tuple _ => false | _ => true))
theorem sortOk_ok {ps : List PyData} (h : sortOk ps = true) : PySem.W.AllAlike ps ∧ PySem.W.Sortable ps := by
  unfold sortOk at h
  rw [Bool.and_eq_true, Bool.or_eq_true] at h
  refine ⟨fun d hd d' hd' => List.all_eq_true.mp (List.all_eq_true.mp h.1 d hd) d' hd', ?_⟩
  rcases h.2 with q | q
  · refine .inl fun d hd => ?_
    have := List.all_eq_true.mp q d hd
    cases d with
    | tuple xs =>
      cases xs with
      | nil => cases this
      | cons x r => exact ⟨x, r, rfl⟩
    | _ => cases this
  · refine .inr fun d hd => ?_
    have := List.all_eq_true.mp q d hd
    cases d with
    | none => cases this
    | tuple xs => cases this
    | _ => exact ⟨fun z => (nomatch z), fun _ z => nomatch z⟩
/-- a list's items -/
def lstOf : D → Sto → Option (List D)
  | .arr ds, _ => some ds
  | .loc n, S => (match S[n]? with
    | some (.lst ds) => some ds
    | _ => none)
  | _, _ => none
theorem lst_rep {K : Kw} {H : Hp} {μ : List Addr} {S : Sto} {bs : Bd} (R : RepS K H μ S bs) {v : V} {d : D} {ds : List D} (r : Rep K H μ v d) (h : lstOf d S = some ds) : ∃ a vs, v = .ref a ∧ RepAll K H μ vs ds ∧ SqL K H a vs := by
  unfold lstOf at h
  cases r with
  | arr h1 h2 => cases h; exact ⟨_, _, rfl, h2, h1.seq⟩
  | loc m =>
    dsimp only at h
    split at h
    · rename_i ds' e
      cases h
      obtain ⟨vs, c1, c2⟩ := R.cell m e
      exact ⟨_, _, rfl, c2, .inl (.inl c1)⟩
    · cases h
  | _ => cases h
def sortD (ds : List D) (_ : Nat) (S : Sto) : Out D := match ds with
  | [x] => (match lstOf x S with
    | some ds => (match optMap (py S dep) ds with
      | some ps => if (sortOk ps && Nat.ble ds.length lim) = true then .ok (.loc S.length) (S ++ [.lst ((isort leD (ds.zip ps)).map (·.1))]) else .bad
      | none => .bad)
    | none => .bad)
  | _ => .bad
theorem each_zip {K : Kw} {H : Hp} {X : Cx} {pins : List (Addr × Obj)} {σ : L2.St} {s : Shared} (I : Inv X pins σ H s) (hK : X.kw = K) : ∀ {vs : List V} {ps : List PyData} {us : List Value}, L2.DpAll K H vs ps → Vals vs us →
    PySem.W.EachIs (fun u (b : V × PyData) => RelV b.1 u) us (vs.zip ps) ∧ PySem.W.EachIs (fun u (b : V × PyData) => ∃ as, Reads s.heap u b.2 as) us (vs.zip ps)
  | _, _, _, .nil, .nil => ⟨.nil, .nil⟩
  | _, _, _, .cons h t, .cons r q => by
    obtain ⟨a, b⟩ := each_zip I hK t q
    subst hK
    exact ⟨.cons r a, .cons (L2.Dp.reads I _ _ _ h r) b⟩
theorem each_vals : ∀ {us : List Value} {bs : List (V × PyData)}, PySem.W.EachIs (fun u (b : V × PyData) => RelV b.1 u) us bs → Vals (bs.map (·.1)) us
  | _, _, .nil => .nil
  | _, _, .cons r t => .cons r (each_vals t)
theorem zip_snd {α β : Type} : ∀ {xs : List α} {ys : List β}, xs.length = ys.length → (xs.zip ys).map (·.2) = ys
  | [], [], _ => rfl
  | [], _ :: _, h => by simp at h
  | _ :: _, [], h => by simp at h
  | x :: xs, y :: ys, h => by simp only [List.zip_cons_cons, List.map_cons]; rw [zip_snd (by simpa using h)]
theorem dpAll_len {K : Kw} {H : Hp} : ∀ {vs : List V} {ps : List PyData}, L2.DpAll K H vs ps → vs.length = ps.length
  | _, _, .nil => rfl
  | _, _, .cons _ t => by simp [dpAll_len t]
theorem cr_sortedG {X : Cx} (hu : X.A.units + 100 < cLine) : CallR X (.builtin "sorted") (fun xs H Q => ∃ (a : Addr) (vs : List V) (ps : List PyData), xs = [.ref a] ∧ SqL X.kw H a vs ∧ L2.DpAll X.kw H vs ps ∧ sortOk ps = true ∧ vs.length ≤ sizeLine ∧ (∀ p ∈ ps, p.depth ≤ 64) ∧
    ∀ p, H p = none → Q (.ref p) (upd H p (.lst ((isort leD (vs.zip ps)).map (·.1))))) := by
  intro pins s σ H xs us Q I r h
  obtain ⟨a, vs, ps, rfl, hq, hd, hs, hz, hdep, q⟩ := h
  rw [Vals.ref1 r]
  obtain ⟨its, rv, pl, _⟩ := I.list hq
  obtain ⟨e1, e2⟩ := each_zip I rfl hd rv
  obtain ⟨s1, s2⟩ := sortOk_ok hs
  have hl := dpAll_len hd
  have hm : (vs.zip ps).map (·.2) = ps := zip_snd hl
  have hlen : (vs.zip ps).length = vs.length := by rw [List.length_zip, hl, Nat.min_self]
  refine PySem.W.sorted_data (enc := fun b : V × PyData => b.2) (R := fun u (b : V × PyData) => RelV b.1 u) pl.isList e1 e2 (by rw [hm]; exact s1) (by rw [hm]; exact s2) (by rw [hlen]; exact hz) (fun b hb => ?_) fun out ho eo => ?_
  · have := hdep b.2 (by rw [← hm]; exact List.mem_map_of_mem hb)
    omega
  · obtain ⟨c, hc⟩ := sortedAll_at s.heap its out.toArray
    have ev := each_vals eo
    have e3 : (vs.zip ps).mergeSort (PySem.W.dataLe false fun b : V × PyData => b.2) = isort leD (vs.zip ps) := (isort_eq leD_total _).symm
    rw [e3] at ev
    have kp : ∀ b o, s.heap.get? b = some o → (sortedAll s.heap its out.toArray).get? b = some o := fun _ _ => sortedAll_old
    have hn : H (s.heap.objs.size + 1) = none := I.hok.fresh (Nat.le_succ _)
    refine ⟨.ref _, _, I.laid (t' := s.toks) kp (Nat.le_succ _) (show ObjOk X.prog X.w _ _ _ (.lst ((isort leD (vs.zip ps)).map (·.1))) from ⟨?_, out, c, ev, hc⟩), rfl, q _ hn⟩
    rw [ev.length, ho, hlen]; exact hz
theorem zip_rep {K : Kw} {H : Hp} {μ : List Addr} : ∀ {vs : List V} {ds : List D} (ps : List PyData), RepAll K H μ vs ds → vs.length = ps.length → ∃ ts : List (V × D × PyData), ts.map (fun t => (t.1, t.2.2)) = vs.zip ps ∧ ts.map (fun t => (t.2.1, t.2.2)) = ds.zip ps ∧ ∀ t ∈ ts, Rep K H μ t.1 t.2.1
  | _, _, ps, .nil, h => ⟨[], by simp, by simp, fun _ h => nomatch h⟩
  | v :: vs, d :: ds, [], .cons _ _, h => by simp at h
  | v :: vs, d :: ds, p :: ps, .cons r t, h => by
    obtain ⟨ts, h1, h2, h3⟩ := zip_rep ps t (by simpa using h)
    refine ⟨(v, d, p) :: ts, by simp [h1], by simp [h2], fun x hx => ?_⟩
    rcases List.mem_cons.mp hx with rfl | hx
    · exact r
    · exact h3 x hx
theorem rep_of_all {K : Kw} {H : Hp} {μ : List Addr} : ∀ (ts : List (V × D × PyData)), (∀ t ∈ ts, Rep K H μ t.1 t.2.1) → RepAll K H μ (ts.map (·.1)) (ts.map (·.2.1))
  | [], _ => .nil
  | t :: ts, h => .cons (h t List.mem_cons_self) (rep_of_all ts fun x hx => h x (List.mem_cons_of_mem _ hx))
theorem sort_rep {K : Kw} {H : Hp} {μ : List Addr} {vs : List V} {ds : List D} {ps : List PyData} (r : RepAll K H μ vs ds) (h : vs.length = ps.length) : RepAll K H μ ((isort leD (vs.zip ps)).map (·.1)) ((isort leD (ds.zip ps)).map (·.1)) := by
  obtain ⟨ts, h1, h2, h3⟩ := zip_rep ps r h
  let le : V × D × PyData → V × D × PyData → Bool := fun a b => !PySem.W.dataLt b.2.2 a.2.2
  have e1 := isort_map (fun t : V × D × PyData => (t.1, t.2.2)) le leD (fun _ _ => rfl) ts
  have e2 := isort_map (fun t : V × D × PyData => (t.2.1, t.2.2)) le leD (fun _ _ => rfl) ts
  rw [h1] at e1
  rw [h2] at e2
  rw [← e1, ← e2, List.map_map, List.map_map]
  exact rep_of_all _ fun t ht => h3 t ((isort_perm le ts).mem_iff.mp ht)
theorem sort_D {X : Cx} (hu : X.A.units + 100 < cLine) : CallR X (.builtin "sorted") (CallD X.kw sortD) := by
  have hS : CallR X (.builtin "sorted") (fun xs H Q => ∃ μ S bs ds ds' a vs, RepS X.kw H μ S bs ∧ xs = [.ref a] ∧ SqL X.kw H a vs ∧ RepAll X.kw H μ vs ds ∧ OutV X.kw bs H μ Q (sortD [ds'] (base bs) S) ∧ lstOf ds' S = some ds) := by
    refine CallR.imp (cr_sortedG hu) fun xs H Q h => ?_
    obtain ⟨μ, S, bs, ds, ds', a, vs, R, e, hq, r, h, ei⟩ := h
    unfold sortD at h
    dsimp only at h
    rw [ei] at h
    dsimp only at h
    split at h
    · rename_i ps eps
      split at h
      · rename_i ho
        rw [Bool.and_eq_true] at ho
        obtain ⟨a1, a2, a3⟩ := py_all (py_ok R dep) _ _ _ eps r
        refine ⟨a, vs, ps, e, hq, a1, ho.1, by rw [r.length]; exact ble_lim ho.2, fun p hp => ?_, fun p hp => h.lst R (sort_rep r (dpAll_len a1)) hp⟩
        have hmax : ∀ (l : List PyData), p ∈ l → p.depth ≤ PyData.depthAll l := by
          intro l
          induction l with
          | nil => intro z; cases z
          | cons x l ih =>
            intro z
            simp only [PyData.depthAll]
            rcases List.mem_cons.mp z with rfl | z
            · omega
            · have := ih z; omega
        have h1 := hmax ps hp
        have h2 : dep = 16 := rfl
        omega
      · exact h.elim
    · exact h.elim
  intro pins s σ H xs us Q I r h
  obtain ⟨μ, S, bs, ds, R, r', h⟩ := h
  match ds, r', h with
  | [x], .cons r1 .nil, h =>
    cases e : lstOf x S with
    | none => unfold sortD at h; dsimp only at h; rw [e] at h; exact h.elim
    | some ds' =>
      obtain ⟨a, vs, e1, r3, q⟩ := lst_rep R r1 e
      subst e1
      exact hS pins s σ H _ us Q I r ⟨μ, S, bs, ds', x, a, vs, R, rfl, q, r3, h, e⟩
end Dq
set_option Elab.async false
set_option linter.all false
set_option maxRecDepth 100000
set_option maxHeartbeats 4000000
/-! Dp5: set(a list of ints), sorted of it. -/
namespace Dq
open PySem PySem.Spec PyProof.Rows L2 PySem.Calls
/-- an empty set's object -/
abbrev setO (w : World) : Obj := { cls := .type "set", dict := none, data := .set #[] 0 (.fresh 0 0 (!w.params.followText "set-order")) }
section
variable {P : Program} {w : World} {A : Around} {E : Value → Shared → Prop} {s : Shared}
set_option maxHeartbeats 8000000 in
theorem set_of_list {l : Addr} {xs : Array Value} (zs : List Int) {Q : Value → Shared → Prop} (hh : A.handled = none) (hl : s.heap.IsList l xs) (hxs : IntsAre xs.toList zs) (hb : zs.length + 1 < scanBound)
    (h : ∀ (h' : Heap) (tk c : Nat), SetR w h' s.heap.objs.size (fun j => decide (j ∈ zs)) c → c ≤ zs.length → (∀ b o, s.heap.get? b = some o → h'.get? b = some o) → Q (.ref s.heap.objs.size) { s with heap := h', toks := tk }) :
    wpAny (model P w) A
      (call (.type "set") [.ref l]) Q E s := by
  have hsz : xs.size = zs.length := by
    have q := IntsAre.length hxs
    rw [
      Array.length_toList] at q
    exact q
  obtain ⟨c, tl, mr⟩ := F.called_set.mro
  have md := F.called_set.made
  have sb := F.called_set.sub
  refine wpAny_call
    (codeAny_of_tree ?_)
  show wpAny _ _
    (callAny (.type "set") _) _ _ _
  refine wpAny_pure ⟨Code.quiet_builtin _
    (by decide +kernel), codeAny_builtin F.entry_type_call ?_⟩
  rw [Around.under_plain
    (weight_type_call_type "set" [.ref l] []) rfl]
  have h1 := F.called_set.notType
  have h2 := F.called_set.canCreate
  have tc := F.typeCall_set_1 (.ref l)
  repeat
    (any_goals (first | assumption | wp_step))
  refine codeAny_mono (code_set_led1 (.ref l) (E := E) (Q₁ := fun ob t1 => ob = .ref s.heap.objs.size ∧ t1 = { s with heap := s.heap.push (setO w) }) ⟨rfl, rfl⟩) fun r t1 hr => ?_
  cases r with
  | error e => exact hr
  | ok fl =>
    cases fl with
    | ret ob =>
      obtain ⟨rfl, rfl⟩ := hr
      have hS : (s.heap.push (setO w)).get? s.heap.objs.size = some (setO w) := Heap.get?_push_size _ rfl
      have tT : Shared.TypeIs { s with heap := s.heap.push (setO w) } (.ref s.heap.objs.size) "set" := ⟨_, hS, rfl⟩
      have li := (F.called_set).init.lookup
      have bi := F.called_set.init.bind (.ref s.heap.objs.size)
      repeat
        (any_goals (first | assumption | wp_step))
      refine codeAny_mono (codeAny_call_builtin (R := wants (fun r t2 => r = .none ∧ ∃ h' tk c, t2 = { s with heap := h', toks := tk } ∧ SetR w h' s.heap.objs.size (fun j => decide (j ∈ zs)) c ∧ c ≤ zs.length ∧
          (∀ y o, s.heap.get? y = some o → h'.get? y = some o)) E) F.called_set.init.plain F.entry_set_init (check_set_init_1 tT ?_)) fun r2 t2 q2 => ?_
      · obtain ⟨ol, ho1, hc1, nl, hd1⟩ := hl
        obtain ⟨oc, odict,
          od, oslots⟩ := ol
        simp only at hc1 hd1
        subst hc1; subst hd1
        have ho2 : (s.heap.push (setO w)).get? l = some { cls := .type "list", dict := odict, data := .seq xs nl, slots := oslots } := Heap.get?_push_of_some _ ho1
        have sls := F.sub_list_set
        have slf := F.sub_list_frozenset
        have hne :
          (Value.type "list" == Value.type "dict") = false := by decide
        have hl9 : (s.heap.push (setO w)).IsList l xs := ⟨_, ho2, rfl, nl, rfl⟩
        unfold Builtin.«set.__init__» noKeywords
          Builtin.Frozenset.updateFrom
        generalize eP : pyIter = PI
        wp_walk
        subst eP
        refine wpAny_pyIter_list hl9 ?_
        refine wpAny_bind
          (wpAny_runValue ?_)
        have lS : l < s.heap.objs.size := Heap.lt_size ho1
        have h3 : A.in1.in1.in1.handled = none := by simp [hh]
        have z1 : (s.heap.push (setO w)).objs.size = s.heap.objs.size + 1 := Heap.size_push ..
        have nI : l ≠ (s.heap.push (setO w)).objs.size := by
          rw [Heap.size_push]; exact Nat.ne_of_lt (Nat.lt_succ_of_lt lS)
        have nS : s.heap.objs.size ∉ [(s.heap.push (setO w)).objs.size, l] := by
          rw [Heap.size_push]
          simp only [List.mem_cons, List.not_mem_nil, or_false, not_or]
          exact ⟨Nat.ne_of_lt
            (Nat.lt_succ_self _), Nat.ne_of_gt lS⟩
        have vl : ∀ (i : Nat) (v : Value), xs[i]? = some v → ∃ k t, zs[i]? = some k ∧ v = .int k t := fun i v hv => by
          have hi : i < zs.length := by rw [← hsz]; exact (Array.getElem?_eq_some_iff.mp hv).1
          obtain ⟨t, e⟩ := PyProof.Rows.IntsAre.int_at hxs i v (by rw [Array.getElem?_toList]; exact hv)
          have e3 := List.getElem?_eq_getElem hi
          refine ⟨zs[i], t, e3, ?_⟩
          rw [e, List.getD_eq_getElem?_getD, e3] <;> rfl
        refine set_update_ints ((Walks.list h3 _ l nI xs).toS) s.heap.objs.size
          nS zs hsz hb vl (xs.size - 0) 0 _ (by omega) (Nat.zero_le _)
          ⟨⟨_, Heap.get?_push_size _ rfl, rfl, rfl⟩, (hl9.push _)⟩ ?hS0 ?hR
        case hS0 =>
          have hget : ((s.heap.push (setO w)).push { cls := .type "list_iterator", data := .fields #[.ref l, .int 0 0] }).get? s.heap.objs.size
              = some (setO w) := Heap.get?_push_of_some _ hS
          exact ⟨0, Nat.le_refl 0, setR_new_at hget⟩
        case hR =>
          intro s' c' hm hc' hS'
          obtain ⟨h', g', d', tk', o'⟩ := s'
          obtain rfl : g' = s.gens := hm.gens
          obtain rfl : d' = s.drawn := hm.drawn
          obtain rfl : o' = s.os := hm.os
          show wpAny _ _ _ _ _ _
          refine wpAny_pure ?_
          show wpAny _ _
            (ret Value.none) _ _ _
          rw [hsz] at hc'
          refine wpAny_pure
            ⟨rfl, h', tk', c', rfl, hS', hc', fun b o e => ?_⟩
          have b0 : b < s.heap.objs.size := Heap.lt_size e
          have b1 : b ≠ s.heap.objs.size := Nat.ne_of_lt b0
          have b2 : b ≠ (s.heap.push (setO w)).objs.size := by
            rw [Heap.size_push]; exact Nat.ne_of_lt (Nat.lt_succ_of_lt b0)
          exact hm.heap b o (by simp only [List.mem_cons, List.mem_singleton, List.not_mem_nil, or_false, not_or]; exact ⟨b1, b2⟩) (Heap.get?_push_of_some _ (Heap.get?_push_of_some _ e))

      · cases r2 with
        | error e => exact q2
        | ok f2 =>
          cases f2 with
          | ret r =>
            obtain ⟨rfl, h', tk, c', rfl,
              hS', hc', hk'⟩ := q2
            repeat
              (any_goals (first | assumption | wp_step))
            exact h _ _ _ hS' hc' hk'
          | _ => exact q2.elim
    | _ => exact hr.elim

end
end Dq
set_option Elab.async false
set_option linter.all false
set_option maxRecDepth 100000
set_option maxHeartbeats 4000000
/-! Dp6: sorted(set(ints)), dicts of flat keys. -/
namespace Dq
open PySem PySem.Spec PyProof.Rows L2

/-! ### sorted(set(xs)) of ints -/
def allInts : List D → Option (List Int)
  | [] => some []
  | .int i :: r => (match allInts r with
    | some ns => some (i :: ns)
    | none => none)
  | _ :: _ => none
theorem allInts_ok : ∀ {ds : List D} {ns : List Int}, allInts ds = some ns → ds = ns.map D.int
  | [], ns, h => by cases h; rfl
  | .int i :: r, ns, h => by
    unfold allInts at h
    split at h
    · rename_i ms e
      cases h
      rw [allInts_ok e]; rfl
    · cases h
  | .non :: _, _, h => by cases h
  | .bl _ :: _, _, h => by cases h
  | .str _ :: _, _, h => by cases h
  | .tup _ :: _, _, h => by cases h
  | .arr _ :: _, _, h => by cases h
  | .loc _ :: _, _, h => by cases h
  | .glo _ :: _, _, h => by cases h
def dedup : List Int → List Int
  | [] => []
  | x :: r => if r.any (fun y => y == x) = true then dedup r else x :: dedup r
theorem mem_dedup (k : Int) : ∀ l : List Int, k ∈ dedup l ↔ k ∈ l
  | [] => Iff.rfl
  | x :: r => by
    unfold dedup
    split
    · rename_i h
      obtain ⟨y, hy, e⟩ := List.any_eq_true.mp h
      have e' : y = x := eq_of_beq e
      subst e'
      rw [mem_dedup k r, List.mem_cons]
      exact ⟨.inr, fun q => q.elim (fun z => z ▸ hy) id⟩
    · rw [List.mem_cons, List.mem_cons, mem_dedup k r]
theorem nodup_dedup : ∀ l : List Int, (dedup l).Nodup
  | [] => .nil
  | x :: r => by
    unfold dedup
    split
    · exact nodup_dedup r
    · rename_i h
      refine List.nodup_cons.mpr ⟨fun q => h ?_, nodup_dedup r⟩
      exact List.any_eq_true.mpr ⟨x, (mem_dedup x r).mp q, beq_self_eq_true x⟩
def leI (a b : Int) : Bool := decide (a ≤ b)
theorem leI_total : PySem.W.TotalLe leI := ⟨fun a b c h1 h2 => decide_eq_true (Int.le_trans (of_decide_eq_true h1) (of_decide_eq_true h2)), fun a b => (Int.le_total a b).elim (fun h => .inl (decide_eq_true h)) fun h => .inr (decide_eq_true h)⟩
/-- the members, ascending -/
def sset (l : List Int) : List Int := isort leI (dedup l)
theorem mem_sset (k : Int) (l : List Int) : k ∈ sset l ↔ k ∈ l := ((isort_perm leI _).mem_iff).trans (mem_dedup k l)
theorem sset_lt (l : List Int) : (sset l).Pairwise (· < ·) := by
  have h1 := isort_pair leI_total (dedup l)
  have h2 : (sset l).Nodup := (isort_perm leI (dedup l)).nodup_iff.mpr (nodup_dedup l)
  have h3 := List.Pairwise.and h1 h2
  exact h3.imp fun {a b} ⟨p, q⟩ => by
    have : a ≤ b := of_decide_eq_true p
    have q' : a ≠ b := q
    omega
theorem lt_unique : ∀ {l m : List Int}, l.Pairwise (· < ·) → m.Pairwise (· < ·) → (∀ k, k ∈ l ↔ k ∈ m) → l = m
  | [], [], _, _, _ => rfl
  | [], y :: m, _, _, h => by have := (h y).mpr List.mem_cons_self; cases this
  | x :: l, [], _, _, h => by have := (h x).mp List.mem_cons_self; cases this
  | x :: l, y :: m, hl, hm, h => by
    rw [List.pairwise_cons] at hl hm
    have e : x = y := by
      have h1 := (h x).mp List.mem_cons_self
      have h2 := (h y).mpr List.mem_cons_self
      rcases List.mem_cons.mp h1 with q | q
      · exact q
      · rcases List.mem_cons.mp h2 with z | z
        · exact z.symm
        · have a1 := hm.1 x q
          have a2 := hl.1 y z
          omega
    subst e
    refine congrArg (x :: ·) (lt_unique hl.2 hm.2 fun k => ⟨fun q => ?_, fun q => ?_⟩)
    · rcases List.mem_cons.mp ((h k).mp (List.mem_cons_of_mem _ q)) with z | z
      · have := hl.1 k q; omega
      · exact z
    · rcases List.mem_cons.mp ((h k).mpr (List.mem_cons_of_mem _ q)) with z | z
      · have := hm.1 k q; omega
      · exact z
def ssetD (x : D) (S : Sto) : Out D := match lstOf x S with
  | some ds => (match allInts ds with
    | some ns => if Nat.blt ns.length 64 = true then .ok (.loc S.length) (S ++ [.lst ((sset ns).map D.int)]) else .bad
    | none => .bad)
  | none => .bad
section
variable {X : Cx}
def rSetI (K : Kw) (w : World) : List V → Hp → VK → Prop := fun xs H Q => ∃ (a : Addr) (ns : List Int), xs = [.ref a] ∧ SqL K H a (ns.map V.int) ∧ ns.length < 64 ∧
  ∀ p c, H p = none → c ≤ ns.length → Q (.ref p) (upd H p (SetO w p (fun j => decide (j ∈ ns)) c))
theorem cr_setI (hc : X.calm = true) : CallR X (.type "set") (rSetI X.kw X.w) := by
  intro pins s σ H xs us Q I r h
  obtain ⟨a, ns, rfl, hq, hl, q⟩ := h
  rw [Vals.ref1 r]
  obtain ⟨its, rv, pl, _⟩ := I.list hq
  have hsb : ns.length + 1 < scanBound := Nat.lt_of_lt_of_le (Nat.succ_lt_succ hl) (by decide)
  refine set_of_list ns (I.ok.hd hc) pl.isList (by simpa using intsAre_of rv) hsb fun h' tk c R hcl kp => ?_
  have hn : H s.heap.objs.size = none := I.hok.fresh (Nat.le_refl _)
  exact ⟨.ref _, _, I.laid (t' := tk) kp (Nat.le_refl _) (setO_new R), rfl, q _ c hn hcl⟩
def SsetR (K : Kw) : V → Hp → VK → Prop := fun x H Q => ∃ μ S bs d, RepS K H μ S bs ∧ Rep K H μ x d ∧ OutV K bs H μ Q (ssetD d S)
theorem sset_reads {K : Kw} {w : World} {x : V} {H : Hp} {Q : VK} (h : SsetR K x H Q) : rSetI K w [x] H fun y H1 => rSortedSet w [y] H1 Q := by
  obtain ⟨μ, S, bs, d, R, r, h⟩ := h
  unfold ssetD at h
  split at h
  · rename_i ds e
    split at h
    · rename_i ns en
      split at h
      · rename_i hl
        obtain ⟨a, vs, rfl, r2, hq⟩ := lst_rep R r e
        rw [allInts_ok en] at r2
        have e2 := RepAll.ints ns r2
        subst e2
        have hl' := Nat.blt_eq.mp hl
        refine ⟨a, ns, rfl, hq, hl', fun p c hp hcl => ?_⟩
        refine ⟨p, _, c, rfl, upd_same, by omega, fun zs p2 z1 z2 z3 hp2 => ?_⟩
        have e3 : zs = sset ns := lt_unique z1 (sset_lt ns) fun k => by
          rw [z2 k, mem_sset]
          exact decide_eq_true_iff
        subst e3
        have R1 := R.lay (o := SetO w p (fun j => decide (j ∈ ns)) c) hp
        have R2 := R1.push (c := .lst ((sset ns).map D.int)) (o := .lst ((sset ns).map V.int)) hp2 ⟨_, upd_same, RepAll.of_ints _⟩
        exact h _ _ (μ ++ [p2]) ((PK.new hp).trans (PK.new hp2)) (Le.app μ _) R2 (.loc (by rw [← R.len]; simp))
      · exact h.elim
    · exact h.elim
  · exact h.elim

/-! ### dicts of flat keys -/
def putG {α : Type} (kvs : List (Key × α)) (k : Key) (v : α) : List (Key × α) :=
  if (kvs.any fun kv => decide (kv.1 = k)) = true then kvs.map (fun kv => if kv.1 = k then (kv.1, v) else kv) else kvs ++ [(k, v)]
theorem RepKV.any {K : Kw} {H : Hp} {μ : List Addr} (k : Key) : ∀ {vs : List (Key × V)} {ds : List (Key × D)}, RepKV K H μ vs ds → (vs.any fun kv => decide (kv.1 = k)) = ds.any fun kv => decide (kv.1 = k)
  | _, _, .nil => rfl
  | _, _, .cons _ t => by simp only [List.any_cons]; rw [RepKV.any k t]
theorem RepKV.repl {K : Kw} {H : Hp} {μ : List Addr} (k : Key) {v : V} {d : D} (r : Rep K H μ v d) : ∀ {vs : List (Key × V)} {ds : List (Key × D)}, RepKV K H μ vs ds → RepKV K H μ (vs.map fun kv => if kv.1 = k then (kv.1, v) else kv) (ds.map fun kv => if kv.1 = k then (kv.1, d) else kv)
  | _, _, .nil => .nil
  | _, _, .cons (k := j) q t => by
    simp only [List.map_cons]
    by_cases e : j = k
    · simp only [e, if_true]; exact .cons r (RepKV.repl k r t)
    · simp only [e, if_false]; exact .cons q (RepKV.repl k r t)
theorem RepKV.snoc {K : Kw} {H : Hp} {μ : List Addr} {k : Key} {v : V} {d : D} (r : Rep K H μ v d) : ∀ {vs : List (Key × V)} {ds : List (Key × D)}, RepKV K H μ vs ds → RepKV K H μ (vs ++ [(k, v)]) (ds ++ [(k, d)])
  | _, _, .nil => .cons r .nil
  | _, _, .cons q t => .cons q (RepKV.snoc r t)
theorem RepKV.put {K : Kw} {H : Hp} {μ : List Addr} {vs : List (Key × V)} {ds : List (Key × D)} (t : RepKV K H μ vs ds) (k : Key) {v : V} {d : D} (r : Rep K H μ v d) : RepKV K H μ (putK vs k v) (putG ds k d) := by
  unfold putK putG
  rw [t.any k]
  split
  · exact t.repl k r
  · exact t.snoc r
theorem RepKV.length {K : Kw} {H : Hp} {μ : List Addr} : ∀ {vs : List (Key × V)} {ds : List (Key × D)}, RepKV K H μ vs ds → vs.length = ds.length
  | _, _, .nil => rfl
  | _, _, .cons _ t => by simp [RepKV.length t]
theorem RepS.setDic {K : Kw} {H : Hp} {μ : List Addr} {S : Sto} {bs : Bd} {n : Nat} {a : Addr} {vs ws : List (Key × V)} {ds es : List (Key × D)} (R : RepS K H μ S bs) (hn : μ[n]? = some a) (hS : S[n]? = some (.dic ds)) (hH : H a = some (.dK vs))
    (hw : ∀ μ1 H1, PK H H1 → (base bs ≤ n → μ1 = μ) → RepKV K H μ1 vs ds → RepKV K H1 μ1 ws es) : RepS K (upd H a (.dK ws)) μ (S.set n (.dic es)) bs := by
  have pk : PK H (upd H a (.dK ws)) := PK.write hH (fun xs z => nomatch z) (fun _ _ z => nomatch z)
  refine R.put (u := .dK vs) pk hn fun μ1 c h1 _ h3 h4 => ?_
  rw [hS] at h3; cases h3
  obtain ⟨us, e, r⟩ := h4
  rw [hH] at e; cases e
  exact ⟨ws, upd_same, hw μ1 _ pk h1 r⟩
theorem keyOf_rep {K : Kw} {H : Hp} {μ : List Addr} {v : V} {d : D} {k : Key} (r : Rep K H μ v d) (h : keyOf' d = some k) : v = kV k := by
  unfold keyOf' at h
  cases r with
  | int i => cases h; rfl
  | str x => cases h; rfl
  | _ => cases h
/-- d[k] -/
def gixK (x y : D) (_ : Nat) (S : Sto) : Out D := match x, keyOf' y with
  | .loc n, some k => (match S[n]? with
    | some (.dic kvs) => (match getK k kvs with
      | some d => .ok d S
      | none => .bad)
    | _ => .bad)
  | _, _ => .bad
theorem gix_K (hu : X.A.units + 65 < cLine) : IxR X (OpD X.kw gixK) := by
  intro value slice pins s σ H x y v u Q I rx ry h hs
  obtain ⟨μ, S, bs, dx, dy, R, r1, r2, h⟩ := h
  unfold gixK at h
  split at h
  · rename_i n k ek
    split at h
    · rename_i kvs e
      split at h
      · rename_i d ed
        cases r1 with
        | @loc _ a m =>
          obtain ⟨vs, c1, c2⟩ := R.cell m e
          cases rx
          have ey := keyOf_rep r2 ek
          obtain ⟨z, hz, rz⟩ := (c2.get k).1 d ed
          have g : DGet H a y (some z) := by
            rw [ey]
            have := DGet.k (k := k) c1
            rw [getK_val, hz] at this
            exact this
          refine tail_any (dict_typeIs I g) PySem.F.slot_dict_getitem.lookup ?_ hs
          exact d_getItem (by omega) I g ry fun w' s' I' r' => ⟨z, H, I', r', h.here R rz⟩
      · exact h.elim
    · exact h.elim
  · exact h.elim
def dinK (neg : Bool) (x y : D) (_ : Nat) (S : Sto) : Out D := match y, keyOf' x with
  | .loc n, some k => (match S[n]? with
    | some (.dic kvs) => .ok (.bl (neg ^^ (getK k kvs).isSome)) S
    | _ => .bad)
  | _, _ => .bad
theorem dget_of {K : Kw} {H : Hp} {μ : List Addr} {a : Addr} {vs : List (Key × V)} {kvs : List (Key × D)} (c1 : H a = some (.dK vs)) (c2 : RepKV K H μ vs kvs) (k : Key) : ∃ o, DGet H a (kV k) o ∧ o.isSome = (getK k kvs).isSome := by
  refine ⟨valV vs k, DGet.k c1, ?_⟩
  rw [getK_val]
  cases e : getK k kvs with
  | some d =>
    obtain ⟨z, hz, _⟩ := (c2.get k).1 d e
    rw [hz] <;> rfl
  | none => rw [(c2.get k).2 e] <;> rfl
theorem din_K (hu : X.A.units + 65 < cLine) : OpR X (compareOp .In) (OpD X.kw (dinK false)) := by
  intro pins s σ H x y v u Q I rx ry h
  obtain ⟨μ, S, bs, dx, dy, R, r1, r2, h⟩ := h
  unfold dinK at h
  split at h
  · rename_i n k ek
    split at h
    · rename_i kvs e
      cases r2 with
      | loc m =>
        obtain ⟨vs, c1, c2⟩ := R.cell m e
        cases ry
        have ey := keyOf_rep r1 ek
        subst ey
        obtain ⟨o, g, eo⟩ := dget_of c1 c2 k
        refine d_in (by omega) I g rx fun s' I' => ⟨.bl _, H, I', rfl, ?_⟩
        rw [eo]
        rw [Bool.false_xor] at h
        exact h.here R (.bl _)
    · exact h.elim
  · exact h.elim
theorem dnotin_K (hu : X.A.units + 65 < cLine) : OpR X (compareOp .NotIn) (OpD X.kw (dinK true)) := by
  intro pins s σ H x y v u Q I rx ry h
  obtain ⟨μ, S, bs, dx, dy, R, r1, r2, h⟩ := h
  unfold dinK at h
  split at h
  · rename_i n k ek
    split at h
    · rename_i kvs e
      cases r2 with
      | loc m =>
        obtain ⟨vs, c1, c2⟩ := R.cell m e
        cases ry
        have ey := keyOf_rep r1 ek
        subst ey
        obtain ⟨o, g, eo⟩ := dget_of c1 c2 k
        refine d_notIn (by omega) I g rx fun s' I' => ⟨.bl _, H, I', rfl, ?_⟩
        rw [eo]
        rw [Bool.true_xor] at h
        exact h.here R (.bl _)
    · exact h.elim
  · exact h.elim
/-- d[k] = v -/
def dsetK (x y v : D) (b : Nat) (S : Sto) : Option Sto := match x, keyOf' y with
  | .loc n, some k => (match S[n]? with
    | some (.dic kvs) => if (okw b n v && Nat.blt kvs.length lim) = true then some (S.set n (.dic (putG kvs k v))) else none
    | _ => none)
  | _, _ => none
def DsetRK (K : Kw) : TSet := fun o i v H Q => ∃ μ S bs dx dy dv, RepS K H μ S bs ∧ Rep K H μ o dx ∧ Rep K H μ i dy ∧ Rep K H μ v dv ∧ OutU K bs H μ Q (dsetK dx dy dv (base bs) S)
theorem dset_K (hu : X.A.units + 65 < cLine) : PSet X (DsetRK X.kw) := by
  intro pins s σ H o i v ov iv u Q I ro ri rv h
  obtain ⟨μ, S, bs, dx, dy, dv, R, r1, r2, r3, h⟩ := h
  unfold dsetK at h
  split at h
  · rename_i n k ek
    split at h
    · rename_i kvs e
      split at h
      · rename_i ho
        rw [Bool.and_eq_true] at ho
        cases r1 with
        | loc m =>
          obtain ⟨vs, c1, c2⟩ := R.cell m e
          cases ro
          have ey := keyOf_rep r2 ek
          subst ey
          have hl : vs.length < sizeLine := by rw [c2.length, lim_eq]; exact Nat.blt_eq.mp ho.2
          refine d_setItem (by omega) I (DPut.k c1 hl) ri rv fun s' I' => ⟨_, I', ?_⟩
          have R' := R.setDic (ws := putK vs k v) (es := putG kvs k dv) m e c1 fun μ1 H1 p h1 r => (r.put k (okw_rep ho.1 r3 μ1 h1)).mono p (Le.refl _)
          exact h _ μ (PK.write c1 (fun xs z => nomatch z) (fun _ _ z => nomatch z)) (Le.refl _) R'
      · exact h.elim
    · exact h.elim
  · exact h.elim
/-- both -/
theorem set_or {t t' : TSet} (h : PSet X t) (h' : PSet X t') : PSet X (fun o i v H Q => t o i v H Q ∨ t' o i v H Q) := fun pins s σ H o i v ov iv u Q I ro ri rv q => q.elim (h pins s σ H o i v ov iv u Q I ro ri rv) (h' pins s σ H o i v ov iv u Q I ro ri rv)
/-- list(d): the keys -/
def dlistD (ds : List D) (_ : Nat) (S : Sto) : Out D := match ds with
  | [.loc n] => (match S[n]? with
    | some (.dic kvs) => .ok (.loc S.length) (S ++ [.lst (kvs.map fun p => match p.1 with
      | .inl i => .int i
      | .inr x => .str x)])
    | _ => .bad)
  | _ => .bad
theorem keys_rep {K : Kw} {H : Hp} {μ : List Addr} : ∀ {vs : List (Key × V)} {ds : List (Key × D)}, RepKV K H μ vs ds → RepAll K H μ (vs.map fun p => kV p.1) (ds.map fun p => match p.1 with
      | .inl i => .int i
      | .inr x => .str x)
  | _, _, .nil => .nil
  | _, _, .cons (k := k) _ t => by
    refine .cons ?_ (keys_rep t)
    cases k with
    | inl i => exact .int i
    | inr x => exact .str x
theorem vals_keys {P : Program} {w : World} : ∀ (vs : List (Key × V)) (kvs : List (Key × Value)) (out : List Value), KV vs kvs → out.length = kvs.length → (∀ (j : Nat) (u : Value), out[j]? = some u → ∃ k x, kvs[j]? = some (k, x) ∧ (mixKind P w).is k u = true) → Vals (vs.map fun p => kV p.1) out
  | [], [], out, _, hl, _ => by
    cases out with
    | nil => exact .nil
    | cons a r => simp at hl
  | p :: vs, q :: kvs, [], _, hl, _ => by simp at hl
  | p :: vs, q :: kvs, u :: out, .cons r t, hl, h => by
    refine .cons ?_ (vals_keys vs kvs out t (by simpa using hl) fun j u' hj => by simpa using h (j + 1) u' (by simpa using hj))
    obtain ⟨k, x, e, hk⟩ := h 0 u rfl
    have e' : q = (k, x) := by simpa using e
    have r1 := r.1
    rw [e'] at r1
    have r1 : p.1 = k := r1
    show RelV (kV p.1) u
    rw [r1]
    rcases keyIs_shape hk with ⟨i, tk, rfl, rfl⟩ | ⟨y, tk, rfl, rfl⟩
    · exact ⟨tk, rfl⟩
    · exact ⟨tk, rfl⟩
theorem dlist_D (hc : X.calm = true) : CallR X (.type "list") (CallD X.kw dlistD) := by
  intro pins s σ H xs us Q I r h
  obtain ⟨μ, S, bs, ds, R, r', h⟩ := h
  unfold dlistD at h
  split at h
  · rename_i n
    split at h
    · rename_i kvs e
      cases r' with
      | cons r1 r2 =>
        cases r2
        cases r1 with
        | loc m =>
          obtain ⟨vs, c1, c2⟩ := R.cell m e
          rw [Vals.ref1 r]
          obtain ⟨hz, hd, ws, rel, dd⟩ := dk_of I.hok c1
          obtain ⟨ep, da⟩ := dd.dictAt
          refine PySem.W.kdl_call (PySem.W.kdl_dict hd) (I.ok.hd hc) da (by rw [← rel.length]; exact hz) fun h' tk acc c' kp hg hi => ?_
          have hn : H s.heap.objs.size = none := I.hok.fresh (Nat.le_refl _)
          have hv : Vals (vs.map fun p => kV p.1) acc.toList := vals_keys vs ws acc.toList rel (by rw [Array.length_toList]; exact hi.1) fun j u hj => hi.2 j u (by rw [← Array.getElem?_toList]; exact hj)
          refine ⟨.ref _, _, I.laid (t' := tk) kp (Nat.le_refl _) (show ObjOk X.prog X.w _ h' _ (.lst (vs.map fun p => kV p.1)) from ⟨by rw [List.length_map]; exact hz, acc.toList, c', hv, by simpa using hg⟩), rfl, h.lst R (keys_rep c2) hn⟩
    · exact h.elim
  · exact h.elim
end
/-! ### one operation, two kinds of things -/
section
variable {X : Cx}
def alt2 (f g : D → D → Nat → Sto → Out D) (x y : D) (b : Nat) (S : Sto) : Out D := match f x y b S with
  | .bad => g x y b S
  | o => o
def altL (f g : List D → Nat → Sto → Out D) (ds : List D) (b : Nat) (S : Sto) : Out D := match f ds b S with
  | .bad => g ds b S
  | o => o
theorem OpD.alt {K : Kw} {f g : D → D → Nat → Sto → Out D} {x y : V} {H : Hp} {Q : VK} (h : OpD K (alt2 f g) x y H Q) : OpD K f x y H Q ∨ OpD K g x y H Q := by
  obtain ⟨μ, S, bs, dx, dy, R, rx, ry, h⟩ := h
  cases e : f dx dy (base bs) S with
  | bad => exact .inr ⟨μ, S, bs, dx, dy, R, rx, ry, by unfold alt2 at h; rw [e] at h; exact h⟩
  | ok d S' => exact .inl ⟨μ, S, bs, dx, dy, R, rx, ry, by unfold alt2 at h; rw [e] at h; rw [e]; exact h⟩
  | exc z S' => exact .inl ⟨μ, S, bs, dx, dy, R, rx, ry, by unfold alt2 at h; rw [e] at h; rw [e]; exact h⟩
theorem CallD.alt {K : Kw} {f g : List D → Nat → Sto → Out D} {vs : List V} {H : Hp} {Q : VK} (h : CallD K (altL f g) vs H Q) : CallD K f vs H Q ∨ CallD K g vs H Q := by
  obtain ⟨μ, S, bs, ds, R, r, h⟩ := h
  cases e : f ds (base bs) S with
  | bad => exact .inr ⟨μ, S, bs, ds, R, r, by unfold altL at h; rw [e] at h; exact h⟩
  | ok d S' => exact .inl ⟨μ, S, bs, ds, R, r, by unfold altL at h; rw [e] at h; rw [e]; exact h⟩
  | exc z S' => exact .inl ⟨μ, S, bs, ds, R, r, by unfold altL at h; rw [e] at h; rw [e]; exact h⟩
theorem op_alt {o : Value → Value → Sem Value} {f g : D → D → Nat → Sto → Out D} (h : OpR X o (OpD X.kw f)) (h' : OpR X o (OpD X.kw g)) : OpR X o (OpD X.kw (alt2 f g)) :=
  fun pins s σ H x y v u Q I rx ry q => q.alt.elim (h pins s σ H x y v u Q I rx ry) (h' pins s σ H x y v u Q I rx ry)
theorem ix_alt {f g : D → D → Nat → Sto → Out D} (h : IxR X (OpD X.kw f)) (h' : IxR X (OpD X.kw g)) : IxR X (OpD X.kw (alt2 f g)) :=
  fun value slice pins s σ H x y v u Q I rx ry q hs => q.alt.elim (fun q => h value slice pins s σ H x y v u Q I rx ry q hs) (fun q => h' value slice pins s σ H x y v u Q I rx ry q hs)
theorem call_alt {c : Value} {f g : List D → Nat → Sto → Out D} (h : CallR X c (CallD X.kw f)) (h' : CallR X c (CallD X.kw g)) : CallR X c (CallD X.kw (altL f g)) :=
  fun pins s σ H xs us Q I r q => q.alt.elim (h pins s σ H xs us Q I r) (h' pins s σ H xs us Q I r)
end
end Dq
set_option Elab.async false
set_option linter.all false
set_option maxRecDepth 100000
set_option maxHeartbeats 4000000
/-! Dn1: dicts whose keys are nested tuples. -/
namespace Dq
open PySem PySem.Spec PyProof.Rows L2
section
variable {X : Cx} {pins : List (Addr × Obj)} {σ : L2.St} {H : Hp} {s : Shared} {μ : List Addr}
mutual
theorem nk_is (I : Inv X pins σ H s) : ∀ {v : V} {d : D} {k : NestedKey} {u : Value}, Rep X.kw H μ v d → nkD d = some k → RelV v u → NestedIs s.heap k u
  | _, _, k, u, .non, h, r => by
    simp only [nkD] at h
    cases h
    cases (show u = Value.none from r)
    exact .none
  | _, _, k, u, .bl b, h, r => by
    simp only [nkD] at h
    cases h
    cases (show u = Value.bool b from r)
    exact .bool rfl
  | _, _, k, u, .int i, h, r => by
    simp only [nkD] at h
    cases h
    obtain ⟨t, rfl⟩ := (show ∃ t, u = Value.int i t from r)
    exact .int i t
  | _, _, k, u, .str x, h, r => by
    simp only [nkD] at h
    cases h
    obtain ⟨t, rfl⟩ := (show ∃ t, u = Value.str x t from r)
    exact .text x t
  | _, _, k, u, .tup (a := a) (vs := vs) (ds := ds) e ra, h, r => by
    simp only [nkD] at h
    cases e2 : nkDs ds with
    | none => rw [e2] at h; cases h
    | some ks =>
      rw [e2] at h
      cases h
      cases (show u = Value.ref a from r)
      obtain ⟨its, rv, ⟨o, ho, hc, n, hd⟩, _⟩ := I.tuple e
      exact .tup ho hc hd (by simpa using nk_all I ra e2 rv)
  | _, _, k, u, .arr _ _, h, _ => by simp [nkD] at h
  | _, _, k, u, .loc _, h, _ => by simp [nkD] at h
  | _, _, k, u, .glo _, h, _ => by simp [nkD] at h
theorem nk_all (I : Inv X pins σ H s) : ∀ {vs : List V} {ds : List D} {ks : List NestedKey} {us : List Value}, RepAll X.kw H μ vs ds → nkDs ds = some ks → Vals vs us → NestedAll s.heap ks us
  | _, _, ks, us, .nil, h, r => by
    simp only [nkDs] at h
    cases h
    cases r
    exact .nil
  | _, _, ks, us, .cons (d := d) (ds := ds) h1 h2, h, r => by
    simp only [nkDs] at h
    cases e1 : nkD d with
    | none => rw [e1] at h; cases h
    | some k =>
      cases e2 : nkDs ds with
      | none => rw [e1, e2] at h; cases h
      | some ks' =>
        rw [e1, e2] at h
        cases h
        cases r with
        | cons r1 r2 => exact .cons (nk_is I h1 e1 r1) (nk_all I h2 e2 r2)
end
theorem nkT_is (I : Inv X pins σ H s) {a : Addr} {d : D} {k : NestedKey} (r : Rep X.kw H μ (.ref a) d) (h : nkT d = some k) : (nestedKind X.prog X.w).is s.heap k a := by
  unfold nkT at h
  split at h
  · rename_i ds
    split at h
    · rename_i ks e
      split at h
      · rename_i hb
        cases h
        refine ⟨nk_is I r (by simp only [nkD, e]) rfl, ?_⟩
        have := Nat.le_of_ble_eq_true hb
        show NestedKey.depthAll ks + 1 ≤ 8
        omega
      · cases h
    · cases h
  · cases h
theorem nkT_ref {K : Kw} {v : V} {d : D} {k : NestedKey} (r : Rep K H μ v d) (h : nkT d = some k) : ∃ a, v = .ref a := by
  unfold nkT at h
  cases r with
  | tup _ _ => exact ⟨_, rfl⟩
  | arr _ _ => exact ⟨_, rfl⟩
  | loc _ => exact ⟨_, rfl⟩
  | glo _ => exact ⟨_, rfl⟩
  | _ => cases h
/-! ### looking up, storing -/
def getN (k : NestedKey) (kvs : List (D × D)) : Option D := (kvs.find? fun p => decide (nkT p.1 = some k)).map (·.2)
def putN (kvs : List (D × D)) (d : D) (k : NestedKey) (v : D) : List (D × D) :=
  if (getN k kvs).isSome = true then kvs.map (fun p => if nkT p.1 = some k then (p.1, v) else p) else kvs ++ [(d, v)]
theorem getN_rep {K : Kw} (k : NestedKey) : ∀ {xs : NX} {kvs : List (D × D)} {ys : List (NestedKey × Addr × Value)}, RepNd K H μ xs kvs → NPair xs ys →
    (∀ d, getN k kvs = some d → ∃ v u p, atKey ys k = some (p, u) ∧ RelV v u ∧ Rep K H μ v d) ∧ (getN k kvs = none → atKey ys k = none)
  | _, _, _, .nil, .nil => ⟨fun d h => by simp [getN] at h, fun _ => rfl⟩
  | _, _, _, .cons (k := k1) (dk := dk) (dv := dv) (kvs := kvs) e1 h1 h2 t, .cons (b := q) (l₂ := qs) hq tq => by
    have ih := getN_rep k t tq
    obtain ⟨q1, q2, q3⟩ := hq
    by_cases hk : k1 = k
    · subst hk
      have e3 : getN k1 ((dk, dv) :: kvs) = some dv := by simp [getN, e1]
      have e4 : atKey (q :: qs) k1 = some q.2 := by
        have : q.1 = k1 := q1.symm
        simp [atKey, this]
      rw [e3, e4]
      refine ⟨fun d h => ?_, fun h => by cases h⟩
      cases h
      exact ⟨_, q.2.2, q.2.1, rfl, q3, h2⟩
    · have e3 : getN k ((dk, dv) :: kvs) = getN k kvs := by
        have : ¬ nkT dk = some k := by rw [e1]; exact fun z => hk (Option.some.inj z)
        simp [getN, this]
      have e4 : atKey (q :: qs) k = atKey qs k := by
        have : ¬ q.1 = k := by rw [← q1]; exact hk
        simp [atKey, this]
      rw [e3, e4]
      exact ih
theorem getN_some {K : Kw} {k : NestedKey} {xs : NX} {kvs : List (D × D)} {ys : List (NestedKey × Addr × Value)} (r : RepNd K H μ xs kvs) (p : NPair xs ys) : (atKey ys k).isSome = (getN k kvs).isSome := by
  obtain ⟨h1, h2⟩ := getN_rep k r p
  cases e : getN k kvs with
  | none => rw [h2 e]; rfl
  | some d =>
    obtain ⟨v, u, p, e2, _⟩ := h1 d e
    rw [e2]; rfl
theorem nd_rd (I : Inv X pins σ H s) {a : Addr} {xs : NX} {kvs : List (D × D)} (e : H a = some (NdO X.prog X.w a xs) ∨ ∃ o, H a = some (.frz o (NdO X.prog X.w a xs))) (r : RepNd X.kw H μ xs kvs) :
    xs.length ≤ sizeLine ∧ (a == sysModules) = false ∧ ∃ ys, NPair xs ys ∧ s.heap.DictOfH (nestedKind X.prog X.w) a ys := by
  have raw : NdRaw X.prog X.w a xs s.heap := by
    rcases e with e | ⟨o, e⟩
    · exact (I.hok a _ e).1
    · exact (I.hok a _ e).2.1
  obtain ⟨z, y, ys, rel, o, es, ep, h1, h2, h3, h4, h5⟩ := raw
  refine ⟨z, y, ys, rel, o, es, ep, h1, h2, h3, h4, ?_, h5⟩
  have all : ∀ {xs : NX} {kvs : List (D × D)} {ys : List (NestedKey × Addr × Value)}, RepNd X.kw H μ xs kvs → NPair xs ys → ∀ x ∈ ys, (nestedKind X.prog X.w).is s.heap x.1 x.2.1 := by
    intro xs kvs ys r
    induction r generalizing ys with
    | nil => intro p; cases p; intro x hx; exact nomatch hx
    | cons e1 h1 h2 t ih =>
      intro p
      cases p with
      | cons hq tq =>
        intro x hx
        rcases List.mem_cons.mp hx with z | z
        · subst z
          rw [← hq.1, ← hq.2.1]
          exact nkT_is I h1 e1
        · exact ih tq x z
  exact all r rel
end
section
variable {X : Cx}
theorem nkDs_below : ∀ (ds : List D) {ks : List NestedKey}, nkDs ds = some ks → belowAll 0 ds = true := by
  have both : (∀ (d : D) {k : NestedKey}, nkD d = some k → below 0 d = true) ∧ (∀ (ds : List D) {ks : List NestedKey}, nkDs ds = some ks → belowAll 0 ds = true) := by
    refine ⟨fun d => ?_, fun ds => ?_⟩
    · exact D.rec (motive_1 := fun d => ∀ {k : NestedKey}, nkD d = some k → below 0 d = true) (motive_2 := fun ds => ∀ {ks : List NestedKey}, nkDs ds = some ks → belowAll 0 ds = true)
        (fun _ => by simp [below]) (fun _ {k} _ => by simp [below]) (fun _ {k} _ => by simp [below]) (fun _ {k} _ => by simp [below])
        (fun ds ih {k} h => by
          simp only [nkD] at h
          cases e : nkDs ds with
          | none => rw [e] at h; cases h
          | some ks => simp only [below]; exact ih e)
        (fun ds ih {k} h => by simp [nkD] at h) (fun n {k} h => by simp [nkD] at h) (fun x {k} h => by simp [nkD] at h)
        (fun _ => by simp [belowAll])
        (fun d ds h1 h2 {ks} h => by
          simp only [nkDs] at h
          cases e1 : nkD d with
          | none => rw [e1] at h; cases h
          | some k =>
            cases e2 : nkDs ds with
            | none => rw [e1, e2] at h; cases h
            | some ks' => simp only [belowAll, h1 e1, h2 e2]; rfl) d
    · exact D.rec_1 (motive_1 := fun d => ∀ {k : NestedKey}, nkD d = some k → below 0 d = true) (motive_2 := fun ds => ∀ {ks : List NestedKey}, nkDs ds = some ks → belowAll 0 ds = true)
        (fun _ => by simp [below]) (fun _ {k} _ => by simp [below]) (fun _ {k} _ => by simp [below]) (fun _ {k} _ => by simp [below])
        (fun ds ih {k} h => by
          simp only [nkD] at h
          cases e : nkDs ds with
          | none => rw [e] at h; cases h
          | some ks => simp only [below]; exact ih e)
        (fun ds ih {k} h => by simp [nkD] at h) (fun n {k} h => by simp [nkD] at h) (fun x {k} h => by simp [nkD] at h)
        (fun _ => by simp [belowAll])
        (fun d ds h1 h2 {ks} h => by
          simp only [nkDs] at h
          cases e1 : nkD d with
          | none => rw [e1] at h; cases h
          | some k =>
            cases e2 : nkDs ds with
            | none => rw [e1, e2] at h; cases h
            | some ks' => simp only [belowAll, h1 e1, h2 e2]; rfl) ds
  exact both.2
theorem nkT_below {d : D} {k : NestedKey} (h : nkT d = some k) : below 0 d = true := by
  unfold nkT at h
  split at h
  · rename_i ds
    split at h
    · rename_i ks e
      simp only [below]
      exact nkDs_below ds e
    · cases h
  · cases h
/-- d[k], a nested key -/
def ndOf : Option Cell → Option (List (D × D))
  | some (.nd kvs) => some kvs
  | some (.fz kvs) => some kvs
  | _ => none
def nixD (x y : D) (_ : Nat) (S : Sto) : Out D := match x with
  | .loc n => (match ndOf S[n]?, nkT y with
    | some kvs, some k => (match getN k kvs with
      | some d => .ok d S
      | none => .bad)
    | _, _ => .bad)
  | _ => .bad
theorem nd_cell {K : Kw} {H : Hp} {μ : List Addr} {S : Sto} {bs : Bd} (R : RepS K H μ S bs) {n : Nat} {a : Addr} (m : μ[n]? = some a) {kvs : List (D × D)} (e : ndOf S[n]? = some kvs) : ∃ xs, (H a = some (NdO K.P K.w a xs) ∨ ∃ o, H a = some (.frz o (NdO K.P K.w a xs))) ∧ RepNd K H μ xs kvs := by
  cases e1 : S[n]? with
  | none => rw [e1] at e; cases e
  | some c =>
    rw [e1] at e
    cases c with
    | nd kvs' =>
      cases e
      obtain ⟨xs, h, r⟩ := R.cell m e1
      exact ⟨xs, .inl h, r⟩
    | fz kvs' =>
      cases e
      obtain ⟨o, xs, h, r⟩ := R.cell m e1
      exact ⟨xs, .inr ⟨o, h⟩, r⟩
    | _ => cases e
theorem nix_D (hu : X.A.units + 65 < cLine) : IxR X (OpD X.kw nixD) := by
  intro value slice pins s σ H x y v u Q I rx ry h hs
  obtain ⟨μ, S, bs, dx, dy, R, r1, r2, h⟩ := h
  unfold nixD at h
  split at h
  · rename_i n
    split at h
    · rename_i kvs k e ek
      split at h
      · rename_i d ed
        cases r1 with
        | @loc _ a m =>
          obtain ⟨xs, c1, c2⟩ := nd_cell R m e
          cases rx
          obtain ⟨b, rfl⟩ := nkT_ref r2 ek
          cases (show u = Value.ref b from ry)
          obtain ⟨z, hd, ys, rel, dd⟩ := nd_rd I c1 c2
          obtain ⟨z', u', p, hp, rz, rep⟩ := (getN_rep k c2 rel).1 d ed
          refine tail_any dd.typeIs PySem.F.slot_dict_getitem.lookup ?_ hs
          refine wpAny_getItem_heap (knd := nestedKind X.prog X.w) (by show X.A.in1.units + 8 < cLine; rw [Around.in1_units]; omega) (nkT_is I r2 ek) dd hp ?_
          exact ⟨z', H, I.tok _, rz, h.here R rep⟩
      · exact h.elim
    · exact h.elim
  · exact h.elim
def ninD (neg : Bool) (x y : D) (_ : Nat) (S : Sto) : Out D := match y with
  | .loc n => (match ndOf S[n]?, nkT x with
    | some kvs, some k => .ok (.bl (neg ^^ (getN k kvs).isSome)) S
    | _, _ => .bad)
  | _ => .bad
theorem nin_D (hu : X.A.units + 65 < cLine) : OpR X (compareOp .In) (OpD X.kw (ninD false)) := by
  intro pins s σ H x y v u Q I rx ry h
  obtain ⟨μ, S, bs, dx, dy, R, r1, r2, h⟩ := h
  unfold ninD at h
  split at h
  · rename_i n
    split at h
    · rename_i kvs k e ek
      cases r2 with
      | @loc _ a m =>
        obtain ⟨xs, c1, c2⟩ := nd_cell R m e
        cases ry
        obtain ⟨b, rfl⟩ := nkT_ref r1 ek
        cases (show v = Value.ref b from rx)
        obtain ⟨z, hd, ys, rel, dd⟩ := nd_rd I c1 c2
        refine wpAny_in_heap (knd := nestedKind X.prog X.w) (by show X.A.in1.units + 8 < cLine; rw [Around.in1_units]; omega) (nkT_is I r1 ek) hd dd ?_
        refine ⟨.bl _, H, I.tok _, rfl, ?_⟩
        rw [getN_some c2 rel]
        rw [Bool.false_xor] at h
        exact h.here R (.bl _)
    · exact h.elim
  · exact h.elim
theorem nnotin_D (hu : X.A.units + 65 < cLine) : OpR X (compareOp .NotIn) (OpD X.kw (ninD true)) := by
  intro pins s σ H x y v u Q I rx ry h
  obtain ⟨μ, S, bs, dx, dy, R, r1, r2, h⟩ := h
  unfold ninD at h
  split at h
  · rename_i n
    split at h
    · rename_i kvs k e ek
      cases r2 with
      | @loc _ a m =>
        obtain ⟨xs, c1, c2⟩ := nd_cell R m e
        cases ry
        obtain ⟨b, rfl⟩ := nkT_ref r1 ek
        cases (show v = Value.ref b from rx)
        obtain ⟨z, hd, ys, rel, dd⟩ := nd_rd I c1 c2
        refine wpAny_notIn_heap (knd := nestedKind X.prog X.w) (by show X.A.in1.units + 8 < cLine; rw [Around.in1_units]; omega) (nkT_is I r1 ek) hd dd ?_
        refine ⟨.bl _, H, I.tok _, rfl, ?_⟩
        rw [getN_some c2 rel]
        rw [Bool.true_xor] at h
        exact h.here R (.bl _)
    · exact h.elim
  · exact h.elim
end
end Dq
set_option Elab.async false
set_option linter.all false
set_option maxRecDepth 100000
set_option maxHeartbeats 4000000
/-! Dn2: d[k] = v with nested keys. -/
namespace Dq
open PySem PySem.Spec PyProof.Rows L2
section
variable {X : Cx}
def putX (xs : NX) (k : NestedKey) (b : Addr) (v : V) : NX :=
  if (xs.any fun x => decide (x.1 = k)) = true then xs.map (fun x => if x.1 = k then (x.1, x.2.1, v) else x) else xs ++ [(k, b, v)]
theorem any_pair {k : NestedKey} : ∀ {xs : NX} {ys : List (NestedKey × Addr × Value)}, NPair xs ys → (xs.any fun x => decide (x.1 = k)) = (atKey ys k).isSome
  | _, _, .nil => rfl
  | _, _, .cons (a := p) (b := q) (l₂ := qs) h t => by
    have ih := any_pair (k := k) t
    rw [List.any_cons, ih]
    by_cases e : p.1 = k
    · have e2 : q.1 = k := h.1 ▸ e
      simp [e, e2, atKey]
    · have e2 : ¬ q.1 = k := fun z => e (h.1.trans z)
      simp [e, e2, atKey]
theorem any_nd {K : Kw} {H : Hp} {μ : List Addr} {k : NestedKey} : ∀ {xs : NX} {kvs : List (D × D)}, RepNd K H μ xs kvs → (xs.any fun x => decide (x.1 = k)) = (getN k kvs).isSome
  | _, _, .nil => rfl
  | _, _, .cons (k := k1) (dk := dk) (kvs := kvs) e1 _ _ t => by
    have ih := any_nd (k := k) t
    rw [List.any_cons, ih]
    by_cases e : k1 = k
    · have e2 : nkT dk = some k := by rw [e1, e]
      simp [e, e2, getN]
    · have e2 : ¬ nkT dk = some k := by rw [e1]; exact fun z => e (Option.some.inj z)
      simp [e, e2, getN]
theorem pair_put {k : NestedKey} {b : Addr} {v : V} {u : Value} (rv : RelV v u) {xs : NX} {ys : List (NestedKey × Addr × Value)} (p : NPair xs ys) : NPair (putX xs k b v) (storedH ys k b u) := by
  have hm : ∀ {xs : NX} {ys : List (NestedKey × Addr × Value)}, NPair xs ys → NPair (xs.map fun x => if x.1 = k then (x.1, x.2.1, v) else x) (ys.map (putAt k u)) := by
    intro xs ys p
    induction p with
    | nil => exact .nil
    | @cons p q ps qs h t ih =>
      refine .cons ?_ ih
      unfold putAt
      dsimp only
      by_cases e : p.1 = k
      · have e2 : q.1 = k := h.1 ▸ e
        rw [if_pos e, if_pos e2]
        exact ⟨h.1, h.2.1, rv⟩
      · have e2 : ¬ q.1 = k := fun z => e (h.1.trans z)
        rw [if_neg e, if_neg e2]
        exact h
  have ha : ∀ {xs : NX} {ys : List (NestedKey × Addr × Value)}, NPair xs ys → NPair (xs ++ [(k, b, v)]) (ys ++ [(k, b, u)]) := by
    intro xs ys p
    induction p with
    | nil => exact .cons ⟨rfl, rfl, rv⟩ .nil
    | cons h t ih => exact .cons h ih
  unfold putX storedH
  rw [any_pair p]
  by_cases e : (atKey ys k).isSome = true
  · rw [if_pos e, if_pos e]; exact hm p
  · rw [if_neg e, if_neg e]; exact ha p
theorem nd_put {K : Kw} {H : Hp} {μ : List Addr} {k : NestedKey} {b : Addr} {v : V} {dk dv : D} (ek : nkT dk = some k) (rk : Rep K H μ (.ref b) dk) (rv : Rep K H μ v dv) {xs : NX} {kvs : List (D × D)} (r : RepNd K H μ xs kvs) : RepNd K H μ (putX xs k b v) (putN kvs dk k dv) := by
  have hm : ∀ {xs : NX} {kvs : List (D × D)}, RepNd K H μ xs kvs → RepNd K H μ (xs.map fun x => if x.1 = k then (x.1, x.2.1, v) else x) (kvs.map fun p => if nkT p.1 = some k then (p.1, dv) else p) := by
    intro xs kvs r
    induction r with
    | nil => exact .nil
    | @cons k1 b1 v1 dk1 dv1 xs kvs e1 h1 h2 t ih =>
      simp only [List.map_cons]
      by_cases e : k1 = k
      · have e2 : nkT dk1 = some k := by rw [e1, e]
        rw [if_pos e, if_pos e2]
        exact .cons e1 h1 rv ih
      · have e2 : ¬ nkT dk1 = some k := by rw [e1]; exact fun z => e (Option.some.inj z)
        rw [if_neg e, if_neg e2]
        exact .cons e1 h1 h2 ih
  have ha : ∀ {xs : NX} {kvs : List (D × D)}, RepNd K H μ xs kvs → RepNd K H μ (xs ++ [(k, b, v)]) (kvs ++ [(dk, dv)]) := by
    intro xs kvs r
    induction r with
    | nil => exact .cons ek rk rv .nil
    | cons e1 h1 h2 t ih => exact .cons e1 h1 h2 ih
  unfold putX putN
  rw [any_nd r]
  by_cases e : (getN k kvs).isSome = true
  · rw [if_pos e, if_pos e]; exact hm r
  · rw [if_neg e, if_neg e]; exact ha r
theorem nd_length {K : Kw} {H : Hp} {μ : List Addr} : ∀ {xs : NX} {kvs : List (D × D)}, RepNd K H μ xs kvs → xs.length = kvs.length
  | _, _, .nil => rfl
  | _, _, .cons _ _ _ t => by simp [nd_length t]
theorem len_putX (xs : NX) (k : NestedKey) (b : Addr) (v : V) : (putX xs k b v).length ≤ xs.length + 1 := by
  unfold putX
  split
  · rw [List.length_map]; omega
  · rw [List.length_append]; simp
theorem pair_one : ∀ {xs xs' : NX} {ys : List (NestedKey × Addr × Value)}, NPair xs ys → NPair xs' ys → xs = xs'
  | _, _, _, .nil, .nil => rfl
  | _, _, _, .cons (a := p) h t, .cons (a := p') h' t' => by
    have e1 : p.1 = p'.1 := h.1.trans h'.1.symm
    have e2 : p.2.1 = p'.2.1 := h.2.1.trans h'.2.1.symm
    have e3 : p.2.2 = p'.2.2 := L2.RelV.inj h.2.2 h'.2.2
    obtain ⟨a, b, c⟩ := p
    obtain ⟨a', b', c'⟩ := p'
    dsimp only at e1 e2 e3
    rw [e1, e2, e3, pair_one t t']
theorem ents_one {P : Program} {w : World} {h : Heap} : ∀ {ys ys' : List (NestedKey × Addr × Value)}, ys.map (entryOfKey (nestedKind P w)) = ys'.map (entryOfKey (nestedKind P w)) → (∀ x ∈ ys, (nestedKind P w).is h x.1 x.2.1) → (∀ x ∈ ys', (nestedKind P w).is h x.1 x.2.1) → ys = ys'
  | [], [], _, _, _ => rfl
  | [], _ :: _, e, _, _ => by cases e
  | _ :: _, [], e, _, _ => by cases e
  | y :: ys, y' :: ys', e, h1, h2 => by
    rw [List.map_cons, List.map_cons, List.cons.injEq] at e
    have ih := ents_one e.2 (fun x hx => h1 x (List.mem_cons_of_mem _ hx)) fun x hx => h2 x (List.mem_cons_of_mem _ hx)
    have k1 := h1 y List.mem_cons_self
    have k2 := h2 y' List.mem_cons_self
    have e0 := e.1
    unfold entryOfKey at e0
    rw [DictEntry.mk.injEq] at e0
    obtain ⟨_, ea, ev⟩ := e0
    have ea : y.2.1 = y'.2.1 := by injection ea
    rw [← ea] at k2
    have ek : y.1 = y'.1 := NestedIs.inj _ _ _ k1.1 k2.1
    obtain ⟨a, b, c⟩ := y
    obtain ⟨a', b', c'⟩ := y'
    dsimp only at ek ea ev
    rw [ek, ea, ev, ih]
theorem nd_one {pins : List (Addr × Obj)} {σ : L2.St} {H : Hp} {s : Shared} {μ μ1 : List Addr} (I : Inv X pins σ H s) {a : Addr} {xs xs' : NX} {kvs kvs' : List (D × D)} (c : H a = some (NdO X.prog X.w a xs)) (r : RepNd X.kw H μ xs kvs) (c' : H a = some (NdO X.prog X.w a xs')) (r' : RepNd X.kw H μ1 xs' kvs') : xs' = xs := by
  obtain ⟨_, _, ys, p, o, es, ep, h1, _, h3, h4, hk, _⟩ := nd_rd I (.inl c) r
  obtain ⟨_, _, ys', p', o', es', ep', h1', _, h3', h4', hk', _⟩ := nd_rd I (.inl c') r'
  rw [h1] at h1'; cases h1'
  rw [h3] at h3'; cases h3'
  have e := ents_one (h4.symm.trans h4') hk hk'
  subst e
  exact (pair_one p p').symm
/-- how a dict with nested keys lies -/
theorem ndO_ok {P : Program} {w : World} {H : Hp} {h : Heap} {a : Addr} {xs : NX} {ys : List (NestedKey × Addr × Value)} (z : xs.length ≤ sizeLine) (hd : (a == sysModules) = false) (p : NPair xs ys) (dd : h.DictOfH (nestedKind P w) a ys) : ObjOk P w H h a (NdO P w a xs) := by
  obtain ⟨o, es, ep, h1, h2, h3, h4, _, h5⟩ := dd
  refine ⟨⟨z, hd, ys, p, o, es, ep, h1, h2, h3, h4, h5⟩, ⟨o, h1⟩, fun h1' h2' => ?_⟩
  rintro ⟨z, y, ys, p, o, es, ep, e1, e⟩ k
  exact ⟨z, y, ys, p, o, es, ep, k o e1, e⟩
/-- the entries behind a store -/
def nsetD (x y v : D) (b : Nat) (S : Sto) : Option Sto := match x, nkT y with
  | .loc n, some k => (match S[n]? with
    | some (.nd kvs) => if (okw b n v && Nat.blt kvs.length lim) = true then some (S.set n (.nd (putN kvs y k v))) else none
    | some (.dic []) => if okw b n v = true then some (S.set n (.nd [(y, v)])) else none
    | _ => none)
  | _, _ => none
def NsetR (K : Kw) : TSet := fun o i v H Q => ∃ μ S bs dx dy dv, RepS K H μ S bs ∧ Rep K H μ o dx ∧ Rep K H μ i dy ∧ Rep K H μ v dv ∧ OutU K bs H μ Q (nsetD dx dy dv (base bs) S)
theorem RepS.setNd {K : Kw} {H : Hp} {μ : List Addr} {S : Sto} {bs : Bd} {n : Nat} {a : Addr} {ws : NX} {c : Cell} {u : HO} {es : List (D × D)} (R : RepS K H μ S bs) (hn : μ[n]? = some a) (hS : S[n]? = some c) (hH : H a = some u) (ht : ∀ xs, u ≠ .tup xs) (hf : ∀ ob u', u ≠ .frz ob u')
    (hw : ∀ μ1 H1, PK H H1 → (base bs ≤ n → μ1 = μ) → CellR K H μ1 a c → RepNd K H1 μ1 ws es) : RepS K (upd H a (NdO K.P K.w a ws)) μ (S.set n (.nd es)) bs := by
  have pk : PK H (upd H a (NdO K.P K.w a ws)) := PK.write hH ht hf
  refine R.put (u := u) pk hn fun μ1 c1 h1 _ h3 h4 => ?_
  rw [hS] at h3; cases h3
  exact ⟨ws, upd_same, hw μ1 _ pk h1 h4⟩
theorem nset_D (hu : X.A.units + 65 < cLine) : PSet X (NsetR X.kw) := by
  intro pins s σ H o i v ov iv u Q I ro ri rv h
  obtain ⟨μ, S, bs, dx, dy, dv, R, r1, r2, r3, h⟩ := h
  unfold nsetD at h
  split at h
  · rename_i n k ek
    have hroom : (nestedKind X.prog X.w).room X.A.in1 := by show X.A.in1.units + 8 < cLine; rw [Around.in1_units]; omega
    split at h
    · rename_i kvs e
      split at h
      · rename_i ho
        rw [Bool.and_eq_true] at ho
        cases r1 with
        | @loc _ a m =>
          obtain ⟨xs, c1, c2⟩ := R.cell m e
          cases ro
          obtain ⟨b, rfl⟩ := nkT_ref r2 ek
          cases (show iv = Value.ref b from ri)
          obtain ⟨z, hd, ys, rel, dd⟩ := nd_rd I (.inl c1) c2
          have hl : xs.length < sizeLine := by rw [nd_length c2, lim_eq]; exact Nat.blt_eq.mp ho.2
          have hz : ys.length ≤ sizeLine := by rw [← Paired.length rel]; exact z
          refine wpAny_setItem_heap (hsz := hz) hroom (nkT_is I r2 ek) dd fun h' dd' hs => ?_
          have hl2 : (putX xs k b v).length ≤ sizeLine := by have := len_putX xs k b v; omega
          obtain ⟨q, es, ep, hq, hrest⟩ := dd'
          have I' := d_write (t' := s.toks + (nestedKind X.prog X.w).draws k) I (by rw [c1]; exact True.intro) hs ⟨q, hq⟩ (ndO_ok hl2 hd (pair_put rv rel) ⟨q, es, ep, hq, hrest⟩)
          refine ⟨_, I', ?_⟩
          have R' := R.setNd (ws := putX xs k b v) (es := putN kvs dy k dv) m e c1 (fun xs z => nomatch z) (fun _ _ z => nomatch z) fun μ1 H1 p h1 hc => by
            obtain ⟨xs', c1', c2'⟩ := hc
            have e3 : xs' = xs := nd_one I c1 c2 c1' c2'
            subst e3
            exact nd_put ek ((rep_free (nkT_below ek) r2).mono p (Le.refl _)) ((okw_rep ho.1 r3 μ1 h1).mono p (Le.refl _)) (c2'.mono p (Le.refl _))
          exact h _ μ (PK.write c1 (fun xs z => nomatch z) (fun _ _ z => nomatch z)) (Le.refl _) R'
      · exact h.elim
    · rename_i e
      split at h
      · rename_i ho
        cases r1 with
        | @loc _ a m =>
          obtain ⟨vs, c1, c2⟩ := R.cell m e
          cases c2
          cases ro
          obtain ⟨b, rfl⟩ := nkT_ref r2 ek
          cases (show iv = Value.ref b from ri)
          obtain ⟨z, hd, ws, rel, o, es, ep, h1, h2, h3, h4, h5, h6⟩ := dk_of I.hok c1
          cases rel
          have he : es.toList = [] := by
            cases e5 : es.toList with
            | nil => rfl
            | cons x l => rw [e5] at h5; exact absurd h5 (by intro z; cases z)
          have dd : s.heap.DictOfH (nestedKind X.prog X.w) a [] := ⟨o, es, ep, h1, h2, h3, he, fun x hx => (nomatch hx), List.nodup_nil⟩
          refine wpAny_setItem_heap (hsz := Nat.zero_le _) hroom (nkT_is I r2 ek) dd fun h' dd' hs => ?_
          have p1 : NPair [(k, b, v)] (storedH [] k b u) := .cons ⟨rfl, rfl, rv⟩ .nil
          obtain ⟨q, es, ep, hq, hrest⟩ := dd'
          have I' := d_write (t' := s.toks + (nestedKind X.prog X.w).draws k) I (by rw [c1]; exact True.intro) hs ⟨q, hq⟩ (ndO_ok (by rw [sizeLine_eq]; simp) hd p1 ⟨q, es, ep, hq, hrest⟩)
          refine ⟨_, I', ?_⟩
          have R' := R.setNd (ws := [(k, b, v)]) (es := [(dy, dv)]) m e c1 (fun xs z => nomatch z) (fun _ _ z => nomatch z) fun μ1 H1 p h1 _ =>
            .cons ek ((rep_free (nkT_below ek) r2).mono p (Le.refl _)) ((okw_rep ho r3 μ1 h1).mono p (Le.refl _)) .nil
          exact h _ μ (PK.write c1 (fun xs z => nomatch z) (fun _ _ z => nomatch z)) (Le.refl _) R'
      · exact h.elim
    · exact h.elim
  · exact h.elim
/-! ### both kinds of dicts -/
def gixD : D → D → Nat → Sto → Out D := alt2 gixK nixD
theorem gix_D (hu : X.A.units + 65 < cLine) : IxR X (OpD X.kw gixD) := ix_alt (gix_K hu) (nix_D hu)
def dinD (neg : Bool) : D → D → Nat → Sto → Out D := alt2 (dinK neg) (ninD neg)
theorem din_D (hu : X.A.units + 65 < cLine) : OpR X (compareOp .In) (OpD X.kw (dinD false)) := op_alt (din_K hu) (nin_D hu)
theorem dnotin_D (hu : X.A.units + 65 < cLine) : OpR X (compareOp .NotIn) (OpD X.kw (dinD true)) := op_alt (dnotin_K hu) (nnotin_D hu)
def dsetD (x y v : D) (b : Nat) (S : Sto) : Option Sto := match dsetK x y v b S with
  | some S' => some S'
  | none => nsetD x y v b S
def DsetR (K : Kw) : TSet := fun o i v H Q => ∃ μ S bs dx dy dv, RepS K H μ S bs ∧ Rep K H μ o dx ∧ Rep K H μ i dy ∧ Rep K H μ v dv ∧ OutU K bs H μ Q (dsetD dx dy dv (base bs) S)
theorem dset_D (hu : X.A.units + 65 < cLine) : PSet X (DsetR X.kw) := fun pins s σ H o i v ov iv u Q I ro ri rv q =>
  set_or (dset_K hu) (nset_D hu) pins s σ H o i v ov iv u Q I ro ri rv (by
    obtain ⟨μ, S, bs, dx, dy, dv, R, r1, r2, r3, h⟩ := q
    unfold dsetD at h
    cases e : dsetK dx dy dv (base bs) S with
    | some S' => rw [e] at h; exact .inl ⟨μ, S, bs, dx, dy, dv, R, r1, r2, r3, by rw [e]; exact h⟩
    | none => rw [e] at h; exact .inr ⟨μ, S, bs, dx, dy, dv, R, r1, r2, r3, h⟩)
/-! ### any, all -/
def allBl : List D → Option (List Bool)
  | [] => some []
  | .bl b :: ds => (match allBl ds with
    | some bs => some (b :: bs)
    | none => none)
  | _ => none
theorem allBl_rep {K : Kw} {H : Hp} {μ : List Addr} : ∀ {vs : List V} {ds : List D} {bs : List Bool}, RepAll K H μ vs ds → allBl ds = some bs → vs = bs.map V.bl
  | _, _, bs, .nil, h => by simp only [allBl] at h; cases h; rfl
  | _, _, bs, .cons (d := d) (ds := ds) r t, h => by
    cases d with
    | bl b =>
      simp only [allBl] at h
      cases e : allBl ds with
      | none => rw [e] at h; cases h
      | some bs' =>
        rw [e] at h
        cases h
        cases r
        rw [allBl_rep t e]
        rfl
    | _ => simp [allBl] at h
def anyD (all : Bool) (ds : List D) (_ : Nat) (S : Sto) : Out D := match ds with
  | [x] => (match lstOf x S with
    | some ds => (match allBl ds with
      | some bs => .ok (.bl (if all = true then bs.all id else bs.any id)) S
      | none => .bad)
    | none => .bad)
  | _ => .bad
theorem any_D (hc : X.calm = true) : CallR X (.builtin "any") (CallD X.kw (anyD false)) := by
  intro pins s σ H xs us Q I r h
  obtain ⟨μ, S, bs, ds, R, r', h⟩ := h
  refine cr_any hc pins s σ H xs us Q I r ?_
  unfold anyD at h
  split at h
  · rename_i x
    split at h
    · rename_i ds e
      split at h
      · rename_i bl eb
        cases r' with
        | cons r1 r2 =>
          cases r2
          obtain ⟨a, vs, rfl, ra, hq⟩ := lst_rep R r1 e
          have e2 := allBl_rep ra eb
          subst e2
          exact ⟨a, bl, rfl, hq, h.here R (.bl _)⟩
      · exact h.elim
    · exact h.elim
  · exact h.elim
theorem all_D (hc : X.calm = true) : CallR X (.builtin "all") (CallD X.kw (anyD true)) := by
  intro pins s σ H xs us Q I r h
  obtain ⟨μ, S, bs, ds, R, r', h⟩ := h
  refine cr_all hc pins s σ H xs us Q I r ?_
  unfold anyD at h
  split at h
  · rename_i x
    split at h
    · rename_i ds e
      split at h
      · rename_i bl eb
        cases r' with
        | cons r1 r2 =>
          cases r2
          obtain ⟨a, vs, rfl, ra, hq⟩ := lst_rep R r1 e
          have e2 := allBl_rep ra eb
          subst e2
          exact ⟨a, bl, rfl, hq, h.here R (.bl _)⟩
      · exact h.elim
    · exact h.elim
  · exact h.elim
def mkN : List D → Option (D × D)
  | [k, v] => if (nkT k).isSome = true then some (k, v) else none
  | _ => none
end
end Dq
set_option Elab.async false
set_option linter.all false
set_option maxRecDepth 100000
set_option maxHeartbeats 4000000
/-! Dn3: d.items() of a dict with nested keys, walked. -/
namespace Dq
open PySem PySem.Spec PyProof.Rows L2
/-- the dict is locked -/
def Itn (P : Program) (w : World) (d : Addr) (o : Obj) (xs : NX) : It :=
  ⟨fun i H => H d = some (.frz o (NdO P w d xs)) ∧ i < xs.length, fun i H x H' => ∃ T k b v, xs[i]? = some (k, b, v) ∧ x = .ref T ∧ H T = none ∧ H' = upd H T (.tup [.ref b, v]), fun i H => H d = some (.frz o (NdO P w d xs)) ∧ xs.length ≤ i⟩
theorem npair_get : ∀ {xs : NX} {ys : List (NestedKey × Addr × Value)} {i : Nat} {k : NestedKey} {b : Addr} {v : V}, NPair xs ys → xs[i]? = some (k, b, v) → ∃ u, ys[i]? = some (k, b, u) ∧ L2.RelV v u
  | _, _, _, _, _, _, .nil, e => by simp at e
  | _, _, 0, k, b, v, .cons (b := q) h t, e => by
    simp at e
    subst e
    obtain ⟨q1, q2, q3⟩ := q
    obtain ⟨h1, h2, h3⟩ := h
    dsimp only at h1 h2 h3
    subst h1 h2
    exact ⟨q3, by simp, h3⟩
  | _, _, i + 1, _, _, _, .cons h t, e => by
    obtain ⟨u, h1, h2⟩ := npair_get (i := i) t (by simpa using e)
    exact ⟨u, by simpa using h1, h2⟩
section
variable {X : Cx} {pins : List (Addr × Obj)} {σ : L2.St} {H : Hp} {s : Shared}
theorem frzN {d : Addr} {o : Obj} {xs : NX} (I : Inv X pins σ H s) (h : H d = some (.frz o (NdO X.prog X.w d xs))) :
    (d == sysModules) = false ∧ s.heap.get? d = some o ∧ o.ExactDict ∧ ∃ (es : Array DictEntry) (ep : Nat), o.data = .dict es ep ∧ es.size = xs.length ∧ s.heap.DictRaw d es ep ∧
      ∀ (i : Nat) (k : NestedKey) (b : Addr) (v : V), xs[i]? = some (k, b, v) → ∃ (hi : i < es.size), es[i].key = .ref b ∧ L2.RelV v es[i].val := by
  obtain ⟨ho, ⟨z, hs, ys, p, o', es, ep, h1, h2, h3, h4, h5⟩, _⟩ := I.hok d _ h
  rw [ho] at h1
  cases h1
  have hsz : es.size = ys.length := by rw [← Array.length_toList, h4, List.length_map]
  have hl : xs.length = ys.length := Paired.length p
  refine ⟨hs, ho, h2, es, ep, h3, by omega, ⟨o, ho, h2, h3⟩, fun i k b v e => ?_⟩
  obtain ⟨u, hu, ru⟩ := npair_get p e
  have hi : i < ys.length := (List.getElem?_eq_some_iff.mp hu).1
  have he : es[i]? = some (entryOfKey (nestedKind X.prog X.w) (k, b, u)) := by
    rw [← Array.getElem?_toList, h4, List.getElem?_map, hu]
    rfl
  have hi' : i < es.size := by omega
  have he' : es[i] = entryOfKey (nestedKind X.prog X.w) (k, b, u) := by
    rw [Array.getElem?_eq_getElem hi'] at he
    exact Option.some.inj he
  exact ⟨hi', by rw [he']; rfl, by rw [he']; exact ru⟩
end
section
variable {P : Program} {w : World} {K : PySem.W.Frag} {d : Addr} {o : Obj} {es : Array DictEntry} {ep : Nat}
theorem turn_itemsN {xs : NX} {elts : List Expr} {kk : Nat} {tpos : Pos} (it : Addr) (hod : o.data = .dict es ep) :
    Turn P w K (.Tuple elts kk tpos) (Itn P w d o xs) [it] it (fun i h => ∃ ok ov, IsItemIter h it d i xs.length ep ok ov) where
  mem := by simp
  obj := fun i h st b hb => by
    have e : b = it := by simpa using hb
    subst e
    obtain ⟨ok, ov, e⟩ := st
    exact ⟨_, e, fun v z => nomatch z⟩
  keep := fun i h h' st k => let ⟨ok, ov, e⟩ := st; ⟨ok, ov, k it (by simp) _ e⟩
  item := by
    intro X hP hw hK hc i pins s σ H E I hf st hg
    subst hP hw hK
    obtain ⟨hd, hi⟩ := hg
    obtain ⟨hs, hgd, hx, es', ep', hdt, hsz, hm, ent⟩ := frzN I hd
    obtain ⟨rfl, rfl⟩ := dict_ep hod hdt
    obtain ⟨⟨k, b, v⟩, hkv⟩ : ∃ p, xs[i]? = some p := ⟨xs[i], List.getElem?_eq_getElem hi⟩
    obtain ⟨hi', ek, rv⟩ := ent i k b v hkv
    obtain ⟨ok, ov, he⟩ := st
    rw [← hsz] at he
    have hlt : it < s.heap.objs.size := Heap.lt_size he
    refine wpAny_pyNext_items_item_raw he hm hi' fun h' ho hT hz hk => ?_
    refine ⟨_, rfl, wpAny_letOwnedTupleGo_items (s := { s with heap := h' }) ho fun h'' he' sb => ?_⟩
    have hT2 : h''.get? s.heap.objs.size = some { cls := .type "tuple", data := .seq #[es'[i].key, es'[i].val] } := (sb.2 _ (Nat.ne_of_gt hlt)).trans hT
    have new : ObjOk X.prog X.w (upd H s.heap.objs.size (.tup [.ref b, v])) h'' s.heap.objs.size (.tup [.ref b, v]) :=
      ⟨by show 2 ≤ sizeLine; decide, [es'[i].key, es'[i].val], .cons ek (.cons rv .nil), ⟨_, hT2, rfl, _, rfl⟩⟩
    have I1 : Inv X pins σ (upd H s.heap.objs.size (.tup [.ref b, v])) { s with heap := h'' } :=
      I.turnedNew (t' := s.toks) (ch := [it]) (fun b ob hb e => (sb.2 b (by simpa using hb)).trans (hk b ob (by simpa using hb) e)) hf (Nat.le_refl _) new
    refine ⟨.ref s.heap.objs.size, _, I1, rfl, ⟨_, k, b, v, hkv, rfl, I.hok.fresh (Nat.le_refl _), rfl⟩, ⟨es'[i].key, es'[i].val, ?_⟩, fun b hb => ?_⟩
    · rw [← hsz]; exact he'
    · have e : b = it := by simpa using hb
      rw [e, upd_ne (Nat.ne_of_lt hlt)]
      exact (hf it (by simp)).1
  done := by
    intro X hP hw hK hc i pins s σ H E I hf st hg
    subst hP hw hK
    obtain ⟨hd, hi⟩ := hg
    obtain ⟨f0, f1, f2, f3, f4, f5⟩ := hf it (by simp)
    obtain ⟨hs, hgd, hx, es', ep', hdt, hsz, hm, ent⟩ := frzN I hd
    obtain ⟨rfl, rfl⟩ := dict_ep hod hdt
    obtain ⟨ok, ov, he⟩ := st
    rw [← hsz] at he
    exact wpAny_pyNext_items_end_raw (I.ok.hd hc) he hm (by omega) fun h' eb => ⟨rfl, I.turned (t' := s.toks) (fun b ob hb e => eb b ob hb e) f0 f1 f3 f4 f5⟩
  self := fun A i s Q E st h => let ⟨_, _, e⟩ := st; PySem.W.kcp_self e h
end
/-- the walk begins: the dict is known -/
def iItemsN (F : Addr → Prop) (P : Program) (w : World) (td : TE) : TI := fun σ H R => td σ H fun x H1 => ∃ d xs, x = .ref d ∧ H1 d = some (NdO P w d xs) ∧ ∀ o, F d → R (Itn P w d o xs) (upd H1 d (.frz o (NdO P w d xs)))
/-- not a thing that was known ahead of the call -/
def NoF (X : Cx) (d : Addr) : Prop := ∀ o' u', X.H_0 d ≠ some (.frz o' u')
theorem pi_itemsN {X : Cx} {e : Expr} {td : TE} {apos cpos : Pos} {elts : List Expr} {kk : Nat} {tpos : Pos} (he : PE X e td) (hbase : attributeBase e "items" X.env (eval e X.env) = eval e X.env := by rfl) (hline : (apos.endLine == cpos.line) = true := by rfl) :
    PI X (.Tuple elts kk tpos) (.Call (.Attribute e "items" apos) [] [] cpos) (iItemsN (NoF X) X.prog X.w td) := by
  refine ⟨fun pins s σ H R I h => ?_⟩
  refine wpAny_Call_method (T := "dict") (id := "dict.items") hbase rfl hline F.plainAttrs_dict F.slot_dict_items F.type_dict_items (thn (he.run pins s σ H _ I h) fun u s1 ⟨x, H0, I0, rx, d, xs, ex, hd0, q0⟩ => ?_)
  subst ex
  obtain rfl : u = Value.ref d := rx
  obtain ⟨o, I1⟩ := I0.lock hd0 True.intro
  have q := q0 o (I0.nofrz hd0 True.intro)
  have hd : (upd H0 d (.frz o (NdO X.prog X.w d xs))) d = some (.frz o (NdO X.prog X.w d xs)) := upd_same
  generalize upd H0 d (.frz o (NdO X.prog X.w d xs)) = H1 at *
  obtain ⟨hs, hgd, hx, es, ep, hdt, hsz, hm, ent⟩ := frzN I1 hd
  refine ⟨hm.typeIs, fun b e => by cases e; exact ⟨o, hgd, hx.2.1⟩, ?_⟩
  have I2 : Inv X pins σ H1 { s1 with heap := s1.heap.push { cls := .type "dict_items", data := .fields #[.ref d] } } := I1.kept (t' := s1.toks) fun b ob q => Heap.get?_push_of_some _ q
  have fin : wpAny (model X.prog X.w) X.A (pyIter (.ref s1.heap.objs.size)) (PIE X pins σ (.Tuple elts kk tpos) R) X.xe { s1 with heap := s1.heap.push { cls := .type "dict_items", data := .fields #[.ref d] } } := by
    refine wpAny_pyIter_items_raw (d := d) ⟨_, Heap.get?_push_size _ rfl, rfl, rfl⟩ (hm.at fun o e => Heap.get?_push_of_some _ e) (pi_one (tk := s1.toks) I2 _ (turn_itemsN _ hdt) ⟨.none, .none, ?_⟩ q)
    rw [← hsz]
    exact Heap.get?_push_size _ rfl
  show wpAny _ _ (callWith cpos (.builtin "dict.items") [.ref d] [] []) _ X.xe s1
  exact method_meetsIn F.slot_dict_items F.entry_dict_items rfl (PySem.evalArgs_none ⟨rfl, hm.typeIs, F.args_dict_items_1 _, _, meets_dict_items_raw d hs, ⟨⟨es, ep, hm⟩, fin⟩⟩)
/-- the statement ends: the dict is as any -/
def tForget (F : Addr → Prop) (P : Program) (w : World) (t : TS) : TS := fun D σ H => t ⟨fun σ' H' => ∃ d o xs, H' d = some (.frz o (NdO P w d xs)) ∧ F d ∧ D.nx σ' (upd H' d (NdO P w d xs)), fun v H' => ∃ d o xs, H' d = some (.frz o (NdO P w d xs)) ∧ F d ∧ D.rt v (upd H' d (NdO P w d xs)), fun σ' H' => ∃ d o xs, H' d = some (.frz o (NdO P w d xs)) ∧ F d ∧ D.bk σ' (upd H' d (NdO P w d xs)), fun σ' H' => ∃ d o xs, H' d = some (.frz o (NdO P w d xs)) ∧ F d ∧ D.ct σ' (upd H' d (NdO P w d xs))⟩ σ H
theorem ps_forget {X : Cx} {st : Stmt} {t : TS} (h : PS X st t) : PS X st (tForget (NoF X) X.prog X.w t) := by
  refine ⟨fun pins s σ H D I hw => ?_⟩
  refine thn (h.run pins s σ _ _ I hw) fun f s1 q => ?_
  cases f with
  | next => obtain ⟨σ', H', I2, d, o, xs, e, hf, q⟩ := q; exact ⟨σ', _, I2.unlock e hf, q⟩
  | brk => obtain ⟨σ', H', I2, d, o, xs, e, hf, q⟩ := q; exact ⟨σ', _, I2.unlock e hf, q⟩
  | cont => obtain ⟨σ', H', I2, d, o, xs, e, hf, q⟩ := q; exact ⟨σ', _, I2.unlock e hf, q⟩
  | ret v => obtain ⟨x, σ', H', I2, r, d, o, xs, e, hf, q⟩ := q; exact ⟨x, σ', _, I2.unlock e hf, r, q⟩
end Dq
set_option Elab.async false
set_option linter.all false
set_option maxRecDepth 100000
set_option maxHeartbeats 4000000
/-! Dp7: a small language and what it does, on data over a store. -/
namespace Dq
open PySem PySem.Spec PyProof.Rows L2

inductive BOp where
  | add | sub | mul | mod | div | pow
deriving DecidableEq, Repr
inductive COp where
  | eq | ne | lt | le | gt | ge | isIn | notIn
deriving DecidableEq, Repr
inductive Blt where
  | len | int | list | tuple | bool | max | min | sorted | any | all
deriving DecidableEq, Repr
inductive Mth where
  | append | index
deriving DecidableEq, Repr
/-- what a loop walks -/
inductive ItK where
  | seq | rng
deriving DecidableEq, Repr
/-- targets of a comprehension: names -/
inductive Tg where
  | name (i : Nat) | tup (ts : List Tg)
inductive E where
  | var (i : Nat) | non | bl (b : Bool) | int (i : Int) | str (x : Str) | glo (x : Str)
  | bin (o : BOp) (a b : E) | cmp (o : COp) (a b : E) | isN (neg : Bool) (a : E) | chain (a b c : E)
  | and (a b : E) | or (a b : E) | not (a : E) | ite (c a b : E)
  | tup (es : List E) | lst (es : List E) | dict (kvs : List E)
  | ix (a b : E) | sl (a : E) (lo hi : Option E)
  | call (f : Str) (es : List E) | blt (f : Blt) (es : List E) | isi (t : Ty) (a : E) | sset (a : E) | mth (m : Mth) (o : E) (es : List E)
  | lrng (es : List E)
  | lc (own : List (Str × Nat)) (tg : Tg) (k : ItK) (it : List E) (ifs : Option E) (elt : E)
/-- targets of a statement -/
inductive G where
  | name (i : Nat) | tup (gs : List G) | sub (o i : E)
inductive St where
  | asg (g : G) (e : E) | expr (e : E) | ret (e : E) | retN | ite (c : E) (a b : List St) | pass | brk | cont
  | for_ (g : Tg) (k : ItK) (it : List E) (body : List St) | while_ (c : E) (body : List St)
  | raise (x : Str) | try_ (body : List St) (hs : List (Str × D))
  /-- for t in e.items(), the dict locked -/
  | forD (t : Tg) (e : E) (body : List St)

abbrev Fun' := List D → Nat → Sto → Out D
/-- the functions, the constants, which class an error is of -/
structure Gm where
  F : Str → Option Fun'
  C : Str → Option D
  X : Str → Str → Option Bool

def binF : BOp → D → D → Nat → Sto → Out D
  | .add => addD | .sub => subD | .mul => mulD | .mod => modD | .div => divD | .pow => powD
def cmpF : COp → D → D → Nat → Sto → Out D
  | .eq => eqD false | .ne => eqD true | .lt => ordD fun i j => decide (i < j) | .le => ordD fun i j => decide (i ≤ j) | .gt => ordD fun i j => decide (j < i) | .ge => ordD fun i j => decide (j ≤ i)
  | .isIn => alt2 (inD false) (dinD false) | .notIn => alt2 (inD true) (dinD true)
def bltF : Blt → List D → Nat → Sto → Out D
  | .len => lenD | .int => intD | .list => altL listD dlistD | .tuple => tupleD | .bool => boolD | .max => pickD fun i j => decide (i < j) | .min => pickD fun i j => decide (j < i) | .sorted => sortD | .any => anyD false | .all => anyD true
def mthF : Mth → D → List D → Nat → Sto → Out D
  | .append => appD | .index => idxD

/-- list(range(a, b)) -/
def rgD (a b : Int) : List D := (List.range (b - a).toNat).map fun i => D.int (a + (i : Nat))
def lrngD (ds : List D) (S : Sto) : Out D := match ds with
  | [.int a, .int b] => if (within 4611686018427387904 a && (within 4611686018427387904 b && Nat.ble (b - a).toNat lim)) = true then .ok (.loc S.length) (S ++ [.lst (rgD a b)]) else .bad
  | _ => .bad
/-! ### what is walked -/
inductive Src where
  | seq (d : D) | rng (lo : Int) (n : Nat)
def srcOf : ItK → List D → Sto → Option Src
  | .seq, [d], S => if (itemsOf d S).isSome = true then some (.seq d) else none
  | .rng, [.int n], _ => if within 4611686018427387904 n = true then some (.rng 0 n.toNat) else none
  | .rng, [.int a, .int b], _ => if (within 4611686018427387904 a && within 4611686018427387904 b) = true then some (.rng a (b - a).toNat) else none
  | _, _, _ => none
def srcF (k : ItK) (o : Out (List D)) : Out Src := o.bind fun ds S1 => (match srcOf k ds S1 with
  | some src => .ok src S1
  | none => .bad)
def cur : Src → Sto → Nat → Option (Option D)
  | .seq d, S, i => (match itemsOf d S with
    | some ds => some ds[i]?
    | none => none)
  | .rng lo n, _, i => if Nat.blt i n = true then some (some (.int (lo + (i : Nat)))) else some none
def cnt : Src → Sto → Nat
  | .seq d, S => (match itemsOf d S with
    | some ds => ds.length
    | none => 0)
  | .rng _ n, _ => n

mutual
def asgT : Tg → D → Env' → Sto → Option Env'
  | .name i, d, ρ, _ => some (ρ.set i (some d))
  | .tup ts, d, ρ, S => (match itemsOf d S with
    | some ds => asgTs ts ds ρ S
    | none => none)
def asgTs : List Tg → List D → Env' → Sto → Option Env'
  | [], [], ρ, _ => some ρ
  | t :: ts, d :: ds, ρ, S => (match asgT t d ρ S with
    | some ρ' => asgTs ts ds ρ' S
    | none => none)
  | _, _, _, _ => none
end
def wipeD (ρ : Env') : List Nat → Env'
  | [] => ρ
  | v :: vs => (wipeD ρ vs).set v none

/-- turns of a comprehension: the list stands at n -/
def lcLoop (src : Src) (n : Nat) (turn : D → Sto → Out (Option D)) : Nat → Nat → Sto → Out D
  | 0, i, S => (match cur src S i with
    | some none => .ok (.loc n) S
    | _ => .bad)
  | f + 1, i, S => (match cur src S i with
    | some none => .ok (.loc n) S
    | some (some x) => (match turn x S with
      | .ok (some y) S4 => (match S4[n]? with
        | some (.lst acc) => if Nat.blt acc.length lim = true then lcLoop src n turn f (i + 1) (S4.set n (.lst (acc ++ [y]))) else .bad
        | _ => .bad)
      | .ok none S4 => lcLoop src n turn f (i + 1) S4
      | _ => .bad)
    | none => .bad)
def idxOpt : Option D → Option (Option Int)
  | none => some none
  | some (.int i) => some (some i)
  | _ => none
/-- key, value, key, value, .. -/
def mkKeys : List D → Option (List (Key × D))
  | [] => some []
  | k :: v :: r => (match keyOf' k, mkKeys r with
    | some k', some r => some ((k', v) :: r)
    | _, _ => none)
  | _ => none
def mergeG (kvs more : List (Key × D)) : List (Key × D) := more.foldl (fun acc kv => putG acc kv.1 kv.2) kvs

def isNon : D → Bool
  | .non => true
  | _ => false
/-- a value as a test -/
def tst (o : Out D) : Out Bool := o.bind fun d S1 => (match truD d S1 with
  | some k => .ok k S1
  | none => .bad)
mutual
def den (g : Gm) (b : Nat) : E → Env' → Sto → Out D
  | .var i, ρ, S => (match ρ[i]? with
    | some (some d) => .ok d S
    | _ => .bad)
  | .non, _, S => .ok .non S
  | .bl k, _, S => .ok (.bl k) S
  | .int i, _, S => .ok (.int i) S
  | .str x, _, S => .ok (.str x) S
  | .glo x, _, S => (match g.C x with
    | some d => .ok d S
    | none => .bad)
  | .bin o a c, ρ, S => (den g b a ρ S).bind fun x S1 => (den g b c ρ S1).bind fun y S2 => binF o x y b S2
  | .cmp o a c, ρ, S => (den g b a ρ S).bind fun x S1 => (den g b c ρ S1).bind fun y S2 => cmpF o x y b S2
  | .isN neg a, ρ, S => (den g b a ρ S).bind fun x S1 => .ok (.bl (neg ^^ isNon x)) S1
  | .chain a c e, ρ, S => (den g b a ρ S).bind fun x S1 => (den g b c ρ S1).bind fun y S2 => (match x, y with
    | .int i, .int j => if decide (i ≤ j) = true then (den g b e ρ S2).bind fun z S3 => (match z with
      | .int k => .ok (.bl (decide (j ≤ k))) S3
      | _ => .bad) else .ok (.bl false) S2
    | _, _ => .bad)
  | .and a c, ρ, S => (den g b a ρ S).bind fun x S1 => (match x with
    | .bl true => den g b c ρ S1
    | .bl false => .ok (.bl false) S1
    | _ => .bad)
  | .or a c, ρ, S => (den g b a ρ S).bind fun x S1 => (match x with
    | .bl true => .ok (.bl true) S1
    | .bl false => den g b c ρ S1
    | _ => .bad)
  | .not a, ρ, S => (tst (den g b a ρ S)).bind fun k S1 => .ok (.bl (!k)) S1
  | .ite c a e, ρ, S => (tst (den g b c ρ S)).bind fun k S1 => if k = true then den g b a ρ S1 else den g b e ρ S1
  | .tup es, ρ, S => (denL g b es ρ S).bind fun ds S1 => if Nat.ble ds.length lim = true then .ok (.tup ds) S1 else .bad
  | .lst es, ρ, S => (denL g b es ρ S).bind fun ds S1 => if Nat.ble ds.length lim = true then .ok (.loc S1.length) (S1 ++ [.lst ds]) else .bad
  | .dict es, ρ, S => (denL g b es ρ (S ++ [.dic []])).bind fun ds S1 => (match mkKeys ds, S1[S.length]? with
    | some kvs, some (.dic []) => if Nat.ble kvs.length 15 = true then .ok (.loc S.length) (S1.set S.length (.dic (mergeG [] kvs))) else .bad
    | none, some (.dic []) => (match mkN ds with
      | some kv => .ok (.loc S.length) (S1.set S.length (.nd [kv]))
      | none => .bad)
    | _, _ => .bad)
  | .ix a c, ρ, S => (den g b a ρ S).bind fun x S1 => (den g b c ρ S1).bind fun y S2 => alt2 ixD gixD x y b S2
  | .sl a lo hi, ρ, S => (den g b a ρ S).bind fun x S1 => (denO g b lo ρ S1).bind fun l S2 => (denO g b hi ρ S2).bind fun h S3 => slD x l h b S3
  | .call f es, ρ, S => (match g.F f with
    | some F => (denL g b es ρ S).bind fun ds S1 => F ds b S1
    | none => .bad)
  | .blt f es, ρ, S => (denL g b es ρ S).bind fun ds S1 => bltF f ds b S1
  | .isi t a, ρ, S => (den g b a ρ S).bind fun x S1 => isiD t x S1
  | .sset a, ρ, S => (den g b a ρ S).bind fun x S1 => ssetD x S1
  | .mth m o es, ρ, S => (den g b o ρ S).bind fun x S1 => if (lstOf x S1).isSome = true then (denL g b es ρ S1).bind fun ds S2 => mthF m x ds b S2 else .bad
  | .lrng es, ρ, S => (denL g b es ρ S).bind fun ds S1 => lrngD ds S1
  | .lc own tg k it ifs elt, ρ, S => (srcF k (denL g b it ρ S)).bind fun src S1 => lcLoop src S1.length (fun x S3 => (match asgT tg x (wipeD ρ (own.map (·.2))) S3 with
      | some ρ2 => (denIf g b ifs ρ2 S3).bind fun k S5 => if k = true then (den g b elt ρ2 S5).bind fun y S6 => .ok (some y) S6 else .ok none S5
      | none => .bad)) (cnt src (S1 ++ [.lst []])) 0 (S1 ++ [.lst []])
def denIf (g : Gm) (b : Nat) : Option E → Env' → Sto → Out Bool
  | none, _, S => .ok true S
  | some c, ρ, S => tst (den g b c ρ S)
def denO (g : Gm) (b : Nat) : Option E → Env' → Sto → Out (Option Int)
  | none, _, S => .ok none S
  | some e, ρ, S => (den g b e ρ S).bind fun x S1 => (match x with
    | .int i => .ok (some i) S1
    | _ => .bad)
def denL (g : Gm) (b : Nat) : List E → Env' → Sto → Out (List D)
  | [], _, S => .ok [] S
  | e :: es, ρ, S => (den g b e ρ S).bind fun d S1 => (denL g b es ρ S1).bind fun ds S2 => .ok (d :: ds) S2
end
/-- o[i] = v -/
def sub3 (x y v : D) (b : Nat) (S : Sto) : Option Sto := match setD x y v b S with
  | some S' => some S'
  | none => dsetD x y v b S
mutual
def asgG (g : Gm) (b : Nat) : G → D → Env' → Sto → Out Env'
  | .name i, d, ρ, S => .ok (ρ.set i (some d)) S
  | .tup gs, d, ρ, S => (match itemsOf d S with
    | some ds => if Nat.beq ds.length gs.length = true then asgGs g b gs ds ρ S else .bad
    | none => .bad)
  | .sub o i, d, ρ, S => (den g b o ρ S).bind fun x S1 => (den g b i ρ S1).bind fun y S2 => (match sub3 x y d b S2 with
    | some S3 => .ok ρ S3
    | none => .bad)
def asgGs (g : Gm) (b : Nat) : List G → List D → Env' → Sto → Out Env'
  | [], [], ρ, S => .ok ρ S
  | t :: ts, d :: ds, ρ, S => (asgG g b t d ρ S).bind fun ρ' S' => asgGs g b ts ds ρ' S'
  | _, _, _, _ => .bad
end

/-! ### statements -/
inductive Fl where
  | next (ρ : Env') | ret (d : D) | brk (ρ : Env') | cont (ρ : Env')
def forLoop (src : Src) (turn : D → Env' → Sto → Out Fl) : Nat → Nat → Env' → Sto → Out Fl
  | 0, i, ρ, S => (match cur src S i with
    | some none => .ok (.next ρ) S
    | _ => .bad)
  | f + 1, i, ρ, S => (match cur src S i with
    | some none => .ok (.next ρ) S
    | some (some x) => (turn x ρ S).bind fun r S' => (match r with
      | .next ρ' => forLoop src turn f (i + 1) ρ' S'
      | .cont ρ' => forLoop src turn f (i + 1) ρ' S'
      | .brk ρ' => .ok (.next ρ') S'
      | .ret d => .ok (.ret d) S')
    | none => .bad)
def whileLoop (c : Env' → Sto → Out Bool) (body : Env' → Sto → Out Fl) : Nat → Env' → Sto → Out Fl
  | 0, _, _ => .bad
  | f + 1, ρ, S => (c ρ S).bind fun k S1 => if k = true then (body ρ S1).bind fun r S' => (match r with
      | .next ρ' => whileLoop c body f ρ' S'
      | .cont ρ' => whileLoop c body f ρ' S'
      | .brk ρ' => .ok (.next ρ') S'
      | .ret d => .ok (.ret d) S') else .ok (.next ρ) S1
def fuel : Nat := 1099511627776
/-- the items of a dict, one by one -/
def forN (turn : D → Env' → Sto → Out Fl) : List (D × D) → Env' → Sto → Out Fl
  | [], ρ, S => .ok (.next ρ) S
  | (k, v) :: r, ρ, S => (turn (.tup [k, v]) ρ S).bind fun f S' => (match f with
      | .next ρ' => forN turn r ρ' S'
      | .cont ρ' => forN turn r ρ' S'
      | .brk ρ' => .ok (.next ρ') S'
      | .ret d => .ok (.ret d) S')
/-- the lock is taken off -/
def unlk (m : Nat) : Out Fl → Out Fl
  | .ok f S' => (match S'[m]? with
    | some (.fz kvs) => .ok f (S'.set m (.nd kvs))
    | _ => .bad)
  | _ => .bad
def forItems (turn : D → Env' → Sto → Out Fl) (d : D) (ρ : Env') (S : Sto) : Out Fl := match d with
  | .loc m => (match S[m]? with
    | some (.nd kvs) => unlk m (forN turn kvs ρ (S.set m (.fz kvs)))
    | _ => .bad)
  | _ => .bad
/-- the clause that takes an error: none: one cannot tell -/
def pick (X : Str → Str → Option Bool) (c : Str) : List (Str × D) → Option (Option D)
  | [] => some none
  | (h, d) :: r => (match X c h with
    | some true => some (some d)
    | some false => pick X c r
    | none => none)
mutual
def exe (g : Gm) (b : Nat) : St → Env' → Sto → Out Fl
  | .asg t e, ρ, S => (den g b e ρ S).bind fun d S1 => (asgG g b t d ρ S1).bind fun ρ' S2 => .ok (.next ρ') S2
  | .expr e, ρ, S => (den g b e ρ S).bind fun _ S1 => .ok (.next ρ) S1
  | .ret e, ρ, S => (den g b e ρ S).bind fun d S1 => .ok (.ret d) S1
  | .retN, _, S => .ok (.ret .non) S
  | .ite c p q, ρ, S => (tst (den g b c ρ S)).bind fun k S1 => if k = true then exes g b p ρ S1 else exes g b q ρ S1
  | .pass, ρ, S => .ok (.next ρ) S
  | .brk, ρ, S => .ok (.brk ρ) S
  | .cont, ρ, S => .ok (.cont ρ) S
  | .for_ t k it body, ρ, S => (srcF k (denL g b it ρ S)).bind fun src S1 => forLoop src (fun x ρ1 S2 => (match asgT t x ρ1 S2 with
      | some ρ2 => exes g b body ρ2 S2
      | none => .bad)) (cnt src S1) 0 ρ S1
  | .while_ c body, ρ, S => whileLoop (fun ρ1 S1 => tst (den g b c ρ1 S1)) (fun ρ1 S1 => exes g b body ρ1 S1) fuel ρ S
  | .raise x, _, S => .exc ⟨x⟩ S
  | .try_ body hs, ρ, S => (match exes g b body ρ S with
    | .exc x S1 => (match pick g.X x.cls hs with
      | some (some d) => .ok (.ret d) S1
      | some none => .exc x S1
      | none => .bad)
    | o => o)
  | .forD t e body, ρ, S => (den g b e ρ S).bind fun d S1 => forItems (fun x ρ1 S2 => (match asgT t x ρ1 S2 with
      | some ρ2 => exes g b body ρ2 S2
      | none => .bad)) d ρ S1
def exes (g : Gm) (b : Nat) : List St → Env' → Sto → Out Fl
  | [], ρ, S => .ok (.next ρ) S
  | s :: r, ρ, S => (exe g b s ρ S).bind fun f S1 => (match f with
    | .next ρ' => exes g b r ρ' S1
    | f => .ok f S1)
end

/-! ### functions -/
/-- no: what was made in the call stays; cut: it is dropped behind it, but the result; pure: the call sees no cell of its callers -/
inductive Gc where
  | no | cut | pure
/-- how many parameters, names -/
structure Fn where
  np : Nat
  nl : Nat
  gc : Gc
  body : List St
def ret1 : Out Fl → Out D
  | .ok (.next _) S => .ok .non S
  | .ok (.ret d) S => .ok d S
  | .exc x S => .exc x S
  | _ => .bad
def gcOut (b : Nat) : Out D → Out D
  | .ok d S => if below b d = true then .ok d (S.take b) else (match d with
    | .loc n => (match S[n]? with
      | some c => if belowC b c = true then .ok (.loc b) (S.take b ++ [c]) else .bad
      | none => .bad)
    | _ => .bad)
  | .exc x S => .exc x (S.take b)
  | .bad => .bad
def pureOut (S : Sto) : Out D → Out D
  | .ok d S' => if below 0 d = true then .ok d S else (match d with
    | .loc n => (match S'[n]? with
      | some c => if belowC 0 c = true then .ok (.loc S.length) (S ++ [c]) else .bad
      | none => .bad)
    | _ => .bad)
  | .exc x _ => .exc x S
  | .bad => .bad
def envOf (fd : Fn) (args : List D) : Env' := args.map some ++ List.replicate (fd.nl - args.length) none
def runFn (g : Gm) (fd : Fn) : Fun' := fun args b S =>
  if Nat.beq args.length fd.np = true then (match fd.gc with
    | .no => ret1 (exes g b fd.body (envOf fd args) S)
    | .cut => gcOut S.length (ret1 (exes g S.length fd.body (envOf fd args) S))
    | .pure => if belowAll 0 args = true then pureOut S (ret1 (exes g 0 fd.body (envOf fd args) [])) else gcOut S.length (ret1 (exes g S.length fd.body (envOf fd args) S)))
  else .bad
structure Tb where
  fn : Str → Option Fn
  C : Str → Option D
  X : Str → Str → Option Bool
def lev (T : Tb) : Nat → Gm
  | 0 => ⟨fun _ => none, T.C, T.X⟩
  | k + 1 => ⟨fun f => (match T.fn f with
    | some fd => some (runFn (lev T k) fd)
    | none => none), T.C, T.X⟩
end Dq
set_option Elab.async false
set_option linter.all false
set_option maxRecDepth 100000
set_option maxHeartbeats 4000000
/-! Dp8: the readings, and a rule for each construct. -/
namespace Dq
open PySem PySem.Spec PyProof.Rows
open L2 hiding St

/-- the ways an outcome may end -/
def End {α β : Type} (K : Kw) (W : WX) (bs : Bd) (H : Hp) (μ : List Addr) (n : Nat) (Rl : Hp → List Addr → β → α → Prop) (Q : β → Hp → Prop) : Out α → Prop
  | .ok a S' => ∀ y H' μ', PK H H' → Le μ μ' → RepS K H' μ' S' bs → Rl H' μ' y a → Q y H'
  | .exc x S' => ∀ (σ' : L2.St) H' μ', PK H H' → Le μ μ' → RepS K H' μ' S' bs → W (.ref (He.ga K x.cls)) none σ' H'
  | .bad => False
section
variable {α β γ δ : Type} {K : Kw} {W : WX} {bs : Bd} {H H1 : Hp} {μ μ1 : List Addr} {n : Nat} {Rl : Hp → List Addr → β → α → Prop} {Rm : Hp → List Addr → δ → γ → Prop} {Q : β → Hp → Prop}
theorem End.later {o : Out α} (h : End K W bs H μ n Rl Q o) (p : PK H H1) (q : Le μ μ1) : End K W bs H1 μ1 n Rl Q o := by
  cases o with
  | ok a S => exact fun y H' μ' p' q' R r => h y H' μ' (p.trans p') (q.trans q') R r
  | exc x S => exact fun σ' H' μ' p' q' R => h σ' H' μ' (p.trans p') (q.trans q') R
  | bad => exact h
theorem End.bind {o : Out γ} {f : γ → Sto → Out α} (h : End K W bs H μ n Rl Q (o.bind f)) :
    End K W bs H μ n Rm (fun y H1 => ∃ a S1 μ1, PK H H1 ∧ Le μ μ1 ∧ RepS K H1 μ1 S1 bs ∧ Rm H1 μ1 y a ∧ End K W bs H1 μ1 n Rl Q (f a S1)) o := by
  cases o with
  | ok a S => exact fun y H' μ' p q R r => ⟨a, S, μ', p, q, R, r, h.later p q⟩
  | exc x S => exact h
  | bad => exact h
theorem End.ok {a : α} {S : Sto} (h : End K W bs H μ n Rl Q (.ok a S)) (R : RepS K H μ S bs) {y : β} (r : Rl H μ y a) : Q y H := h y H μ (PK.refl H) (Le.refl μ) R r
theorem End.mono {o : Out α} {Q' : β → Hp → Prop} (h : End K W bs H μ n Rl Q o) (i : ∀ y H1, Q y H1 → Q' y H1) : End K W bs H μ n Rl Q' o := by
  cases o with
  | ok a S => exact fun y H' μ' p q R r => i _ _ (h y H' μ' p q R r)
  | exc x S => exact h
  | bad => exact h
theorem End.wish {o : Out α} {W' : WX} (h : End K W bs H μ n Rl Q o) (i : ∀ c d σ H, W c d σ H → W' c d σ H) : End K W' bs H μ n Rl Q o := by
  cases o with
  | ok a S => exact h
  | exc x S => exact fun σ' H' μ' p q R => i _ _ _ _ (h σ' H' μ' p q R)
  | bad => exact h
end
theorem End.out {K : Kw} {W : WX} {bs : Bd} {H : Hp} {μ : List Addr} {n : Nat} {Q : V → Hp → Prop} {o : Out D} (h : End K W bs H μ n (fun H μ v d => Rep K H μ v d) Q o) (hx : ∀ x S, o ≠ .exc x S) : OutV K bs H μ Q o := by
  cases o with
  | ok a S => exact h
  | exc x S => exact absurd rfl (hx x S)
  | bad => exact h

/-- the names -/
def RepE (K : Kw) (H : Hp) (μ : List Addr) (σ : L2.St) (ρ : Env') : Prop := σ.length = ρ.length ∧ ∀ (i : Nat) (d : D), ρ[i]? = some (some d) → ∃ v, σ[i]? = some (some v) ∧ Rep K H μ v d
theorem RepE.mono {K : Kw} {H H' : Hp} {μ μ' : List Addr} {σ : L2.St} {ρ : Env'} (r : RepE K H μ σ ρ) (p : PK H H') (q : Le μ μ') : RepE K H' μ' σ ρ := ⟨r.1, fun i d e => let ⟨v, h1, h2⟩ := r.2 i d e; ⟨v, h1, h2.mono p q⟩⟩
theorem RepE.set {K : Kw} {H : Hp} {μ : List Addr} {σ : L2.St} {ρ : Env'} (r : RepE K H μ σ ρ) {v : V} {d : D} (h : Rep K H μ v d) (i : Nat) : RepE K H μ (σ.set i (some v)) (ρ.set i (some d)) := by
  refine ⟨by simp [r.1], fun j e hj => ?_⟩
  by_cases hi : i = j
  · subst hi
    by_cases hl : i < ρ.length
    · rw [List.getElem?_set_self hl] at hj
      cases hj
      exact ⟨v, by rw [List.getElem?_set_self (by rw [r.1]; exact hl)], h⟩
    · rw [List.getElem?_eq_none (by simpa using hl)] at hj; cases hj
  · rw [List.getElem?_set_ne hi] at hj
    obtain ⟨w, h1, h2⟩ := r.2 j e hj
    exact ⟨w, by rw [List.getElem?_set_ne hi]; exact h1, h2⟩

abbrev RV (K : Kw) : Hp → List Addr → V → D → Prop := fun H μ v d => Rep K H μ v d
abbrev RL (K : Kw) : Hp → List Addr → List V → List D → Prop := fun H μ v d => RepAll K H μ v d
abbrev RB : Hp → List Addr → Bool → Bool → Prop := fun _ _ x y => x = y
abbrev SemE := Nat → Env' → Sto → Out D
def tE (K : Kw) (W : WX) (f : SemE) : TE := fun σ H Q => ∃ μ S bs ρ, RepS K H μ S bs ∧ RepE K H μ σ ρ ∧ End K W bs H μ σ.length (RV K) Q (f (base bs) ρ S)
def tA (K : Kw) (W : WX) (f : Nat → Env' → Sto → Out (List D)) : TA := fun σ H Q => ∃ μ S bs ρ, RepS K H μ S bs ∧ RepE K H μ σ ρ ∧ End K W bs H μ σ.length (RL K) Q (f (base bs) ρ S)
def tT (K : Kw) (W : WX) (f : Nat → Env' → Sto → Out Bool) : TT := fun σ H Q => ∃ μ S bs ρ, RepS K H μ S bs ∧ RepE K H μ σ ρ ∧ End K W bs H μ σ.length RB Q (f (base bs) ρ S)

section
variable {X : Cx} {e : Expr} {W : WX}
theorem pe_imp {t t' : TE} (h : PE X e t) (i : ∀ σ H Q, t' σ H Q → t σ H Q) : PE X e t' := ⟨fun pins s σ H Q I q => h.run pins s σ H Q I (i σ H Q q)⟩
theorem pt_imp {t t' : TT} (h : PT X e t) (i : ∀ σ H Q, t' σ H Q → t σ H Q) : PT X e t' := ⟨fun pins s σ H Q I q => h.run pins s σ H Q I (i σ H Q q)⟩
theorem pw_imp {t t' : TT} (h : PW X e t) (i : ∀ σ H Q, t' σ H Q → t σ H Q) : PW X e t' := ⟨fun wh pins s σ H Q I q => h.run wh pins s σ H Q I (i σ H Q q)⟩
theorem pa_imp {es : List Expr} {t t' : TA} (h : PA X es t) (i : ∀ σ H Q, t' σ H Q → t σ H Q) : PA X es t' := ⟨fun pos pins s σ H Q I q => h.run pos pins s σ H Q I (i σ H Q q)⟩

/-- one, then what comes -/
theorem step1 {K : Kw} {f : SemE} {α β : Type} {k : Nat → D → Sto → Out α} {Rl : Hp → List Addr → β → α → Prop} {σ : L2.St} {H : Hp} {Q : β → Hp → Prop} {Q' : V → Hp → Prop} {μ : List Addr} {S : Sto} {bs : Bd} {ρ : Env'} (R : RepS K H μ S bs) (E : RepE K H μ σ ρ)
    (h : End K W bs H μ σ.length Rl Q ((f (base bs) ρ S).bind (k (base bs))))
    (i : ∀ x H1 d S1 μ1, PK H H1 → Le μ μ1 → RepS K H1 μ1 S1 bs → RepE K H1 μ1 σ ρ → Rep K H1 μ1 x d → End K W bs H1 μ1 σ.length Rl Q (k (base bs) d S1) → Q' x H1) : tE K W f σ H Q' :=
  ⟨μ, S, bs, ρ, R, E, (h.bind (Rm := RV K)).mono fun y H1 ⟨a, S1, μ1, p, q, R1, r, h1⟩ => i y H1 a S1 μ1 p q R1 (E.mono p q) r h1⟩
theorem stepA {K : Kw} {f : Nat → Env' → Sto → Out (List D)} {α β : Type} {k : Nat → List D → Sto → Out α} {Rl : Hp → List Addr → β → α → Prop} {σ : L2.St} {H : Hp} {Q : β → Hp → Prop} {Q' : List V → Hp → Prop} {μ : List Addr} {S : Sto} {bs : Bd} {ρ : Env'} (R : RepS K H μ S bs) (E : RepE K H μ σ ρ)
    (h : End K W bs H μ σ.length Rl Q ((f (base bs) ρ S).bind (k (base bs))))
    (i : ∀ x H1 d S1 μ1, PK H H1 → Le μ μ1 → RepS K H1 μ1 S1 bs → RepE K H1 μ1 σ ρ → RepAll K H1 μ1 x d → End K W bs H1 μ1 σ.length Rl Q (k (base bs) d S1) → Q' x H1) : tA K W f σ H Q' :=
  ⟨μ, S, bs, ρ, R, E, (h.bind (Rm := RL K)).mono fun y H1 ⟨a, S1, μ1, p, q, R1, r, h1⟩ => i y H1 a S1 μ1 p q R1 (E.mono p q) r h1⟩
theorem stepT {K : Kw} {f : Nat → Env' → Sto → Out Bool} {α β : Type} {k : Nat → Bool → Sto → Out α} {Rl : Hp → List Addr → β → α → Prop} {σ : L2.St} {H : Hp} {Q : β → Hp → Prop} {Q' : Bool → Hp → Prop} {μ : List Addr} {S : Sto} {bs : Bd} {ρ : Env'} (R : RepS K H μ S bs) (E : RepE K H μ σ ρ)
    (h : End K W bs H μ σ.length Rl Q ((f (base bs) ρ S).bind (k (base bs))))
    (i : ∀ x H1 S1 μ1, PK H H1 → Le μ μ1 → RepS K H1 μ1 S1 bs → RepE K H1 μ1 σ ρ → End K W bs H1 μ1 σ.length Rl Q (k (base bs) x S1) → Q' x H1) : tT K W f σ H Q' :=
  ⟨μ, S, bs, ρ, R, E, (h.bind (Rm := RB)).mono fun y H1 ⟨a, S1, μ1, p, q, R1, r, h1⟩ => i y H1 S1 μ1 p q R1 (E.mono p q) (by rw [show y = a from r]; exact h1)⟩

/-! ### leaves -/
theorem de_const {K : Kw} {v : V} {d : D} (h : PE X e (tC v)) (r : ∀ H μ, Rep K H μ v d) : PE X e (tE K W fun _ _ S => .ok d S) :=
  pe_imp h fun σ H Q ⟨μ, S, bs, ρ, R, E, q⟩ => q.ok R (r H μ)
theorem de_var {K : Kw} {i : Nat} (h : PE X e (tVar i)) : PE X e (tE K W fun _ ρ S => match ρ[i]? with
    | some (some d) => .ok d S
    | _ => .bad) := by
  refine pe_imp h fun σ H Q ⟨μ, S, bs, ρ, R, E, q⟩ => ?_
  dsimp only at q
  split at q
  · rename_i d ed
    obtain ⟨v, h1, h2⟩ := E.2 i d ed
    exact ⟨v, h1, q.ok R h2⟩
  · exact q.elim

/-! ### operations -/
variable {a b c : Expr} {fa fb fc : SemE} {pos : Pos}
theorem op_end {K : Kw} {f : D → D → Nat → Sto → Out D} (hx : ∀ x y n S z S', f x y n S ≠ .exc z S') {x y : V} {dx dy : D} {H : Hp} {μ : List Addr} {S : Sto} {bs : Bd} {n : Nat} {Q : V → Hp → Prop} (R : RepS K H μ S bs) (rx : Rep K H μ x dx) (ry : Rep K H μ y dy)
    (h : End K W bs H μ n (RV K) Q (f dx dy (base bs) S)) : OpD K f x y H Q := ⟨μ, S, bs, dx, dy, R, rx, ry, h.out (hx _ _ _ _)⟩
def NoExc2 (f : D → D → Nat → Sto → Out D) : Prop := ∀ x y n S z S', f x y n S ≠ .exc z S'
theorem de_op2 {f : D → D → Nat → Sto → Out D} (hx : NoExc2 f) (h : PE X e (tOp (OpD X.kw f) (tE X.kw W fa) (tE X.kw W fb))) :
    PE X e (tE X.kw W fun n ρ S => (fa n ρ S).bind fun x S1 => (fb n ρ S1).bind fun y S2 => f x y n S2) := by
  refine pe_imp h fun σ H Q ⟨μ, S, bs, ρ, R, E, q⟩ => ?_
  refine step1 (k := fun n x S1 => (fb n ρ S1).bind fun y S2 => f x y n S2) R E q fun x H1 d S1 μ1 p l R1 E1 rx q1 => ?_
  refine step1 (k := fun n y S2 => f d y n S2) R1 E1 q1 fun y H2 d2 S2 μ2 p2 l2 R2 E2 ry q2 => ?_
  exact op_end hx R2 (rx.mono p2 l2) ry q2
theorem no_bin (o : BOp) : NoExc2 (binF o) := by
  intro x y n S z S' h
  cases o <;> simp only [binF] at h
  · unfold addD at h; repeat' split at h <;> first | cases h | skip
    all_goals (repeat' split at h) <;> cases h
  · unfold subD at h; split at h <;> cases h
  · unfold mulD at h; split at h <;> (repeat' split at h) <;> cases h
  · unfold modD at h; split at h <;> (repeat' split at h) <;> cases h
  · unfold divD at h; split at h <;> (repeat' split at h) <;> cases h
  · unfold powD at h; split at h <;> (repeat' split at h) <;> cases h
theorem no_alt {f g : D → D → Nat → Sto → Out D} (hf : NoExc2 f) (hg : NoExc2 g) : NoExc2 (alt2 f g) := by
  intro x y n S z S' h
  unfold alt2 at h
  split at h
  · exact hg _ _ _ _ _ _ h
  · rename_i o _
    exact hf _ _ _ _ _ _ h
theorem no_ix : NoExc2 ixD := by
  intro x y n S z S' h
  unfold ixD at h; (repeat' split at h) <;> cases h
theorem no_gixK : NoExc2 gixK := by
  intro x y n S z S' h
  unfold gixK at h; (repeat' split at h) <;> cases h
theorem no_nix : NoExc2 nixD := by
  intro x y n S z S' h
  unfold nixD at h; (repeat' split at h) <;> cases h
theorem no_gix : NoExc2 gixD := no_alt no_gixK no_nix
theorem no_in (neg : Bool) : NoExc2 (inD neg) := by
  intro x y n S z S' h
  unfold inD at h; (repeat' split at h) <;> cases h
theorem no_dinK (neg : Bool) : NoExc2 (dinK neg) := by
  intro x y n S z S' h
  unfold dinK at h; (repeat' split at h) <;> cases h
theorem no_nin (neg : Bool) : NoExc2 (ninD neg) := by
  intro x y n S z S' h
  unfold ninD at h; (repeat' split at h) <;> cases h
theorem no_din (neg : Bool) : NoExc2 (dinD neg) := no_alt (no_dinK _) (no_nin _)

theorem no_cmp (o : COp) : NoExc2 (cmpF o) := by
  cases o with
  | isIn => exact no_alt (no_in _) (no_din _)
  | notIn => exact no_alt (no_in _) (no_din _)
  | _ =>
    intro x y n S z S' h
    simp only [cmpF] at h
    first
      | (unfold eqD at h; (repeat' split at h) <;> cases h)
      | (unfold ordD at h; (repeat' split at h) <;> cases h)

/-! ### tests -/
theorem tst_end {K : Kw} {f : SemE} {σ : L2.St} {H : Hp} {Q : Bool → Hp → Prop} {μ : List Addr} {S : Sto} {bs : Bd} {ρ : Env'} (R : RepS K H μ S bs) (E : RepE K H μ σ ρ) (h : End K W bs H μ σ.length RB Q (tst (f (base bs) ρ S))) :
    tE K W f σ H fun x H1 => ∃ d S1 μ1 k, RepS K H1 μ1 S1 bs ∧ Rep K H1 μ1 x d ∧ truD d S1 = some k ∧ Q k H1 := by
  refine step1 (k := fun _ d S1 => (match truD d S1 with
    | some k => .ok k S1
    | none => .bad)) R E h fun x H1 d S1 μ1 p l R1 E1 rx q1 => ?_
  split at q1
  · rename_i k ek
    exact ⟨d, S1, μ1, k, R1, rx, ek, q1.ok R1 rfl⟩
  · exact q1.elim
abbrev SemT (f : SemE) : Nat → Env' → Sto → Out Bool := fun n ρ S => tst (f n ρ S)
/-- any test by its value's truth -/
theorem dt_plain (ha : PE X e (tE X.kw W fa)) (he : ∀ whole, isTrue e X.env whole = (do let v ← whole; standAt e.pos; holding [v] (truthy v))) : PT X e (tT X.kw W (SemT fa)) := by
  refine pt_imp (pt_truth ha he) fun σ H Q ⟨μ, S, bs, ρ, R, E, q⟩ => ?_
  obtain ⟨μ', S', bs', ρ', R', E', q'⟩ := tst_end R E q
  exact ⟨μ', S', bs', ρ', R', E', q'.mono fun x H1 ⟨d, S1, μ1, k, R1, r, e, z⟩ => ⟨k, tru_D R1 r e, z⟩⟩
/-- a test whose reading hands out a bool -/
theorem dt_bool {t : TE} (h : PT X e (tTest t)) (i : ∀ σ H Q, tE X.kw W fa σ H Q → t σ H Q) (hb : ∀ n ρ S d S', fa n ρ S = .ok d S' → ∃ k, d = .bl k) : PT X e (tT X.kw W (SemT fa)) := by
  refine pt_imp h fun σ H Q ⟨μ, S, bs, ρ, R, E, q⟩ => ?_
  refine i σ H _ ⟨μ, S, bs, ρ, R, E, ?_⟩
  have q' : End X.kw W bs H μ σ.length RB Q (tst (fa (base bs) ρ S)) := q
  unfold tst at q'
  cases ef : fa (base bs) ρ S with
  | bad => rw [ef] at q'; exact q'.elim
  | exc x S' => rw [ef] at q'; exact q'
  | ok d S' =>
    rw [ef] at q'
    obtain ⟨k, rfl⟩ := hb _ _ _ _ _ ef
    exact fun y H' μ' p l R' r => by
      cases r
      exact ⟨k, rfl, q' k H' μ' p l R' rfl⟩
theorem bind_ok {α β : Type} {o : Out α} {f : α → Sto → Out β} {d : β} {S : Sto} (h : o.bind f = .ok d S) : ∃ a S1, o = .ok a S1 ∧ f a S1 = .ok d S := by
  cases o with
  | ok a S1 => exact ⟨a, S1, rfl, h⟩
  | exc x S => cases h
  | bad => cases h
theorem in_bool {neg : Bool} {x y : D} {n : Nat} {S : Sto} {d : D} {S' : Sto} (h : alt2 (inD neg) (dinD neg) x y n S = .ok d S') : ∃ k, d = .bl k := by
  unfold alt2 at h
  split at h
  · unfold dinD alt2 at h
    split at h
    · unfold ninD at h; (repeat' split at h) <;> first | (cases h; exact ⟨_, rfl⟩) | cases h
    · rename_i o _
      unfold dinK at h; (repeat' split at h) <;> first | (cases h; exact ⟨_, rfl⟩) | cases h
  · rename_i hne
    unfold inD at h; (repeat' split at h) <;> first | (cases h; exact ⟨_, rfl⟩) | cases h
theorem cmp_bool (o : COp) {x y : D} {n : Nat} {S : Sto} {d : D} {S' : Sto} (h : cmpF o x y n S = .ok d S') : ∃ k, d = .bl k := by
  cases o with
  | isIn => exact in_bool h
  | notIn => exact in_bool h
  | _ =>
    simp only [cmpF] at h
    first
      | (unfold eqD at h; (repeat' split at h) <;> first | (cases h; exact ⟨_, rfl⟩) | cases h)
      | (unfold ordD at h; (repeat' split at h) <;> first | (cases h; exact ⟨_, rfl⟩) | cases h)
/-- and, or, not as tests -/
theorem bind_bind {α β γ : Type} (o : Out α) (f : α → Sto → Out β) (g : β → Sto → Out γ) : (o.bind f).bind g = o.bind fun a S => (f a S).bind g := by cases o <;> rfl
abbrev andF (fa fb : SemE) : SemE := fun n ρ S => (fa n ρ S).bind fun x S1 => (match x with
    | .bl true => fb n ρ S1
    | .bl false => .ok (.bl false) S1
    | _ => .bad)
abbrev orF (fa fb : SemE) : SemE := fun n ρ S => (fa n ρ S).bind fun x S1 => (match x with
    | .bl true => .ok (.bl true) S1
    | .bl false => fb n ρ S1
    | _ => .bad)
theorem and_tst {K : Kw} {σ : L2.St} {H : Hp} {Q : Bool → Hp → Prop} (h : tT K W (SemT (andF fa fb)) σ H Q) : tAnd (tT K W (SemT fa)) (tT K W (SemT fb)) σ H Q := by
  obtain ⟨μ, S, bs, ρ, R, E, q⟩ := h
  refine stepT (Rl := RB) (Q := Q) (f := SemT fa) (k := fun n x S1 => if x = true then SemT fb n ρ S1 else .ok false S1) R E ?_ fun x H1 S1 μ1 p l R1 E1 q1 => ?_
  · have q' : End K W bs H μ σ.length RB Q (tst (andF fa fb (base bs) ρ S)) := q
    show End K W bs H μ σ.length RB Q ((tst (fa (base bs) ρ S)).bind _)
    unfold tst at q' ⊢
    rw [bind_bind] at q' ⊢
    cases ef : fa (base bs) ρ S with
    | bad => rw [ef] at q'; exact q'.elim
    | exc x S' => rw [ef] at q'; exact q'
    | ok d S' =>
      rw [ef] at q'
      cases d with
      | bl k =>
        cases k with
        | true => exact q'
        | false => exact q'
      | _ => exact q'.elim
  · cases x with
    | true => rw [if_pos rfl] at q1 ⊢; exact ⟨μ1, S1, bs, ρ, R1, E1, q1⟩
    | false => rw [if_neg (by decide)] at q1 ⊢; exact q1.ok R1 rfl
theorem or_tst {K : Kw} {σ : L2.St} {H : Hp} {Q : Bool → Hp → Prop} (h : tT K W (SemT (orF fa fb)) σ H Q) : tOr (tT K W (SemT fa)) (tT K W (SemT fb)) σ H Q := by
  obtain ⟨μ, S, bs, ρ, R, E, q⟩ := h
  refine stepT (Rl := RB) (Q := Q) (f := SemT fa) (k := fun n x S1 => if x = true then .ok true S1 else SemT fb n ρ S1) R E ?_ fun x H1 S1 μ1 p l R1 E1 q1 => ?_
  · have q' : End K W bs H μ σ.length RB Q (tst (orF fa fb (base bs) ρ S)) := q
    show End K W bs H μ σ.length RB Q ((tst (fa (base bs) ρ S)).bind _)
    unfold tst at q' ⊢
    rw [bind_bind] at q' ⊢
    cases ef : fa (base bs) ρ S with
    | bad => rw [ef] at q'; exact q'.elim
    | exc x S' => rw [ef] at q'; exact q'
    | ok d S' =>
      rw [ef] at q'
      cases d with
      | bl k =>
        cases k with
        | true => exact q'
        | false => exact q'
      | _ => exact q'.elim
  · cases x with
    | true => rw [if_pos rfl] at q1 ⊢; exact q1.ok R1 rfl
    | false => rw [if_neg (by decide)] at q1 ⊢; exact ⟨μ1, S1, bs, ρ, R1, E1, q1⟩
abbrev notF (fa : SemE) : SemE := fun n ρ S => (tst (fa n ρ S)).bind fun k S1 => .ok (.bl (!k)) S1
theorem not_tst {K : Kw} {σ : L2.St} {H : Hp} {Q : Bool → Hp → Prop} (h : tT K W (SemT (notF fa)) σ H Q) : tNot (tT K W (SemT fa)) σ H Q := by
  obtain ⟨μ, S, bs, ρ, R, E, q⟩ := h
  have q' : End K W bs H μ σ.length RB Q (tst (notF fa (base bs) ρ S)) := q
  refine stepT (Rl := RB) (Q := Q) (f := SemT fa) (k := fun n x S1 => .ok (!x) S1) R E ?_ fun x H1 S1 μ1 p l R1 E1 q1 => q1.ok R1 rfl
  show End K W bs H μ σ.length RB Q ((tst (fa (base bs) ρ S)).bind _)
  unfold notF at q'
  generalize tst (fa (base bs) ρ S) = o at q' ⊢
  cases o with
  | bad => exact q'.elim
  | exc x S' => exact q'
  | ok d S' => exact q'
abbrev iteF (fc fa fb : SemE) : SemE := fun n ρ S => (tst (fc n ρ S)).bind fun k S1 => if k = true then fa n ρ S1 else fb n ρ S1
theorem ite_tst {K : Kw} {σ : L2.St} {H : Hp} {Q : Bool → Hp → Prop} (h : tT K W (SemT (iteF fc fa fb)) σ H Q) : tT K W (SemT fc) σ H fun k H1 => if k = true then tT K W (SemT fa) σ H1 Q else tT K W (SemT fb) σ H1 Q := by
  obtain ⟨μ, S, bs, ρ, R, E, q⟩ := h
  refine stepT (Rl := RB) (Q := Q) (f := SemT fc) (k := fun n x S1 => if x = true then SemT fa n ρ S1 else SemT fb n ρ S1) R E ?_ fun x H1 S1 μ1 p l R1 E1 q1 => ?_
  · have q' : End K W bs H μ σ.length RB Q (tst (iteF fc fa fb (base bs) ρ S)) := q
    unfold iteF at q'
    show End K W bs H μ σ.length RB Q ((tst (fc (base bs) ρ S)).bind _)
    generalize tst (fc (base bs) ρ S) = o at q' ⊢
    cases o with
    | bad => exact q'.elim
    | exc x S' => exact q'
    | ok d S' =>
      cases d with
      | true => exact q'
      | false => exact q'
  · cases x with
    | true => rw [if_pos rfl] at q1 ⊢; exact ⟨μ1, S1, bs, ρ, R1, E1, q1⟩
    | false => rw [if_neg (by decide)] at q1 ⊢; exact ⟨μ1, S1, bs, ρ, R1, E1, q1⟩
theorem de_ite (hc : PT X c (tT X.kw W (SemT fc))) (ha : PE X a (tE X.kw W fa)) (hb : PE X b (tE X.kw W fb)) : PE X (.IfExp c a b pos) (tE X.kw W (iteF fc fa fb)) := by
  refine pe_imp (pe_ifExp hc ha hb) fun σ H Q ⟨μ, S, bs, ρ, R, E, q⟩ => ?_
  refine stepT (f := SemT fc) (k := fun n x S1 => if x = true then fa n ρ S1 else fb n ρ S1) R E q fun x H1 S1 μ1 p l R1 E1 q1 => ?_
  cases x with
  | true => rw [if_pos rfl] at q1 ⊢; exact ⟨μ1, S1, bs, ρ, R1, E1, q1⟩
  | false => rw [if_neg (by decide)] at q1 ⊢; exact ⟨μ1, S1, bs, ρ, R1, E1, q1⟩
theorem isTrue_ite {env : Env} {whole : Sem Value} {A : Around} {M : Model} {Q : Bool → Shared → Prop} {E1 : Value → Shared → Prop} {s : Shared} (h : wpAny M A (isTrue c env (eval c env)) (fun k s1 => if k = true then wpAny M A (isTrue a env (eval a env)) Q E1 s1 else wpAny M A (isTrue b env (eval b env)) Q E1 s1) E1 s) :
    wpAny M A (isTrue (.IfExp c a b pos) env whole) Q E1 s := by
  show wpAny M A (do if ← isTrue c env (eval c env) then isTrue a env (eval a env) else isTrue b env (eval b env)) Q E1 s
  refine wpAny_bind (thn h fun k s1 h1 => ?_)
  cases k with
  | true => exact h1
  | false => exact h1
theorem dt_ite (hc : PT X c (tT X.kw W (SemT fc))) (ha : PT X a (tT X.kw W (SemT fa))) (hb : PT X b (tT X.kw W (SemT fb))) : PT X (.IfExp c a b pos) (tT X.kw W (SemT (iteF fc fa fb))) := by
  refine ⟨fun pins s σ H Q I h => isTrue_ite (thn (hc.run pins s σ H _ I (ite_tst h)) fun k s1 ⟨H1, I1, q1⟩ => ?_)⟩
  cases k with
  | true => rw [if_pos rfl] at q1 ⊢; exact ha.run pins s1 σ H1 Q I1 q1
  | false => rw [if_neg (by decide)] at q1 ⊢; exact hb.run pins s1 σ H1 Q I1 q1
/-- .. as values -/
theorem de_not (ha : PE X a (tE X.kw W fa)) : PE X (.UnaryOp .Not a pos) (tE X.kw W (notF fa)) := by
  refine ⟨fun pins s σ H Q I h => ?_⟩
  obtain ⟨μ, S, bs, ρ, R, E, q⟩ := h
  have q' : tE X.kw W fa σ H fun x H1 => ∃ d S1 μ1 k, RepS X.kw H1 μ1 S1 bs ∧ Rep X.kw H1 μ1 x d ∧ truD d S1 = some k ∧ Q (.bl (!k)) H1 := by
    have q1 : End X.kw W bs H μ σ.length (RV X.kw) Q (notF fa (base bs) ρ S) := q
    have q2 : End X.kw W bs H μ σ.length RB (fun k H1 => Q (.bl (!k)) H1) (tst (fa (base bs) ρ S)) := by
      unfold notF at q1
      generalize tst (fa (base bs) ρ S) = o at q1 ⊢
      cases o with
      | bad => exact q1.elim
      | exc x S' => exact q1
      | ok d S' => exact fun y H' μ' p l R' r => by cases r; exact q1 _ H' μ' p l R' (.bl _)
    exact tst_end R E q2
  refine UnaryOp_ (thn (ha.run pins s σ H _ I q') fun v s1 ⟨x, H1, I1, r1, d, S1, μ1, k, R1, rx, ek, z⟩ => ?_)
  exact not_of (thn (tru_ok pins s1 σ H1 x v (fun b H' => b = k ∧ H' = H1) I1 r1 ⟨k, tru_D R1 rx ek, rfl, rfl⟩) fun b s2 ⟨H2, I2, e1, e2⟩ => by subst e1 e2; exact ⟨.bl _, _, I2, rfl, z⟩)
theorem de_and {rest : List Expr} (ha : PE X a (tE X.kw W fa)) (hb : PE X (.BoolOp .And (b :: rest) pos) (tE X.kw W fb)) : PE X (.BoolOp .And (a :: b :: rest) pos) (tE X.kw W (andF fa fb)) := by
  refine pe_imp (pe_and ha hb) fun σ H Q ⟨μ, S, bs, ρ, R, E, q⟩ => ?_
  refine step1 (f := fa) (k := fun n x S1 => (match x with
    | .bl true => fb n ρ S1
    | .bl false => .ok (.bl false) S1
    | _ => .bad)) R E q fun x H1 d S1 μ1 p l R1 E1 rx q1 => ?_
  cases rx with
  | bl k =>
    cases k with
    | true => exact ⟨true, rfl, μ1, S1, bs, ρ, R1, E1, q1⟩
    | false => exact ⟨false, rfl, q1.ok R1 (.bl _)⟩
  | _ => exact q1.elim
theorem de_or {rest : List Expr} (ha : PE X a (tE X.kw W fa)) (hb : PE X (.BoolOp .Or (b :: rest) pos) (tE X.kw W fb)) : PE X (.BoolOp .Or (a :: b :: rest) pos) (tE X.kw W (orF fa fb)) := by
  refine pe_imp (pe_or ha hb) fun σ H Q ⟨μ, S, bs, ρ, R, E, q⟩ => ?_
  refine step1 (f := fa) (k := fun n x S1 => (match x with
    | .bl true => .ok (.bl true) S1
    | .bl false => fb n ρ S1
    | _ => .bad)) R E q fun x H1 d S1 μ1 p l R1 E1 rx q1 => ?_
  cases rx with
  | bl k =>
    cases k with
    | true => exact ⟨true, rfl, q1.ok R1 (.bl _)⟩
    | false => exact ⟨false, rfl, μ1, S1, bs, ρ, R1, E1, q1⟩
  | _ => exact q1.elim
end
end Dq
set_option Elab.async false
set_option linter.all false
set_option maxRecDepth 100000
set_option maxHeartbeats 4000000
/-! Dp9: further rules: lists of expressions, displays, calls, comprehensions. -/
namespace Dq
open PySem PySem.Spec PyProof.Rows
open L2 hiding St
abbrev SemA := Nat → Env' → Sto → Out (List D)
section
variable {X : Cx} {W : WX} {a b c e : Expr} {fa fb fc : SemE} {pos : Pos} {es : List Expr} {ga : SemA}

theorem da_nil : PA X [] (tA X.kw W fun _ _ S => .ok [] S) := pa_imp pa_nil fun σ H Q ⟨μ, S, bs, ρ, R, E, q⟩ => q.ok R .nil
abbrev consF (fa : SemE) (ga : SemA) : SemA := fun n ρ S => (fa n ρ S).bind fun d S1 => (ga n ρ S1).bind fun ds S2 => .ok (d :: ds) S2
theorem da_cons (ha : PE X e (tE X.kw W fa)) (hr : PA X es (tA X.kw W ga)) (hs : starEach (e :: es) X.env = (false, eval e X.env) :: starEach es X.env) : PA X (e :: es) (tA X.kw W (consF fa ga)) := by
  refine pa_imp (pa_cons ha hr hs) fun σ H Q ⟨μ, S, bs, ρ, R, E, q⟩ => ?_
  refine step1 (f := fa) (k := fun n d S1 => (ga n ρ S1).bind fun ds S2 => .ok (d :: ds) S2) R E q fun x H1 d S1 μ1 p l R1 E1 rx q1 => ?_
  refine stepA (f := ga) (k := fun n ds S2 => .ok (d :: ds) S2) R1 E1 q1 fun xs H2 ds S2 μ2 p2 l2 R2 E2 rs q2 => ?_
  exact q2.ok R2 (.cons (rx.mono p2 l2) rs)
/-- arguments, then a function of their values -/
theorem callD_end {K : Kw} {f : List D → Nat → Sto → Out D} (hx : ∀ ds n S z S', f ds n S ≠ .exc z S') {vs : List V} {ds : List D} {H : Hp} {μ : List Addr} {S : Sto} {bs : Bd} {n : Nat} {Q : V → Hp → Prop} (R : RepS K H μ S bs) (r : RepAll K H μ vs ds)
    (h : End K W bs H μ n (RV K) Q (f ds (base bs) S)) : CallD K f vs H Q := ⟨μ, S, bs, ds, R, r, h.out (hx _ _ _)⟩
def NoExcL (f : List D → Nat → Sto → Out D) : Prop := ∀ ds n S z S', f ds n S ≠ .exc z S'
abbrev appF (ga : SemA) (f : List D → Nat → Sto → Out D) : SemE := fun n ρ S => (ga n ρ S).bind fun ds S1 => f ds n S1
theorem de_blt {f : List D → Nat → Sto → Out D} (hx : NoExcL f) {t : TE} (h : PE X e t) (i : ∀ σ H Q, tA X.kw W ga σ H (fun vs H1 => CallD X.kw f vs H1 Q) → t σ H Q) : PE X e (tE X.kw W (appF ga f)) := by
  refine pe_imp h fun σ H Q ⟨μ, S, bs, ρ, R, E, q⟩ => i σ H Q ?_
  exact stepA (f := ga) (k := fun n ds S1 => f ds n S1) R E q fun xs H1 ds S1 μ1 p l R1 E1 rs q1 => callD_end hx R1 rs q1
theorem no_blt (f : Blt) : NoExcL (bltF f) := by
  intro ds n S z S' h
  cases f <;> simp only [bltF] at h
  · unfold lenD at h; (repeat' split at h) <;> cases h
  · unfold intD at h; (repeat' split at h) <;> cases h
  · unfold altL at h
    split at h
    · unfold dlistD at h; (repeat' split at h) <;> cases h
    · unfold listD at h; (repeat' split at h) <;> cases h
  · unfold tupleD at h; (repeat' split at h) <;> cases h
  · unfold boolD at h; (repeat' split at h) <;> cases h
  · unfold pickD at h; (repeat' split at h) <;> cases h
  · unfold pickD at h; (repeat' split at h) <;> cases h
  · unfold sortD at h; (repeat' split at h) <;> cases h
  · unfold anyD at h; (repeat' split at h) <;> cases h
  · unfold anyD at h; (repeat' split at h) <;> cases h

/-! ### displays -/
abbrev tupF (ga : SemA) : SemE := fun n ρ S => (ga n ρ S).bind fun ds S1 => if Nat.ble ds.length lim = true then .ok (D.tup ds) S1 else .bad
theorem de_tup {k : Nat} (h : PA X es (tA X.kw W ga)) : PE X (.Tuple es k pos) (tE X.kw W (tupF ga)) := by
  refine pe_imp (pe_tup h) fun σ H Q ⟨μ, S, bs, ρ, R, E, q⟩ => ?_
  refine stepA (f := ga) (k := fun n ds S1 => if Nat.ble ds.length lim = true then .ok (D.tup ds) S1 else .bad) R E q fun xs H1 ds S1 μ1 p l R1 E1 rs q1 => ?_
  split at q1
  · rename_i hl
    refine ⟨by rw [rs.length]; exact ble_lim hl, fun p hp => ?_⟩
    exact (q1.out fun _ _ z => nomatch z).tup R1 rs hp
  · exact q1.elim
abbrev lstF (ga : SemA) : SemE := fun n ρ S => (ga n ρ S).bind fun ds S1 => if Nat.ble ds.length lim = true then .ok (D.loc S1.length) (S1 ++ [.lst ds]) else .bad
theorem de_lst (h : PA X es (tA X.kw W ga)) : PE X (.List es pos) (tE X.kw W (lstF ga)) := by
  refine pe_imp (pe_lst h) fun σ H Q ⟨μ, S, bs, ρ, R, E, q⟩ => ?_
  refine stepA (f := ga) (k := fun n ds S1 => if Nat.ble ds.length lim = true then .ok (D.loc S1.length) (S1 ++ [.lst ds]) else .bad) R E q fun xs H1 ds S1 μ1 p l R1 E1 rs q1 => ?_
  split at q1
  · rename_i hl
    refine ⟨by rw [rs.length]; exact ble_lim hl, fun p hp => ?_⟩
    exact (q1.out fun _ _ z => nomatch z).lst R1 rs hp
  · exact q1.elim

/-! ### is None, chains -/
abbrev isNF (neg : Bool) (fa : SemE) : SemE := fun n ρ S => (fa n ρ S).bind fun x S1 => .ok (D.bl (neg ^^ isNon x)) S1
theorem non_iff {K : Kw} {H : Hp} {μ : List Addr} {x : V} {d : D} (r : Rep K H μ x d) : decide (x = .non) = isNon d := by cases r <;> rfl
theorem isN_tr {K : Kw} {σ : L2.St} {H : Hp} {Q : VK} {neg : Bool} (h : tE K W (isNF neg fa) σ H Q) : tE K W fa σ H fun x H1 => Q (.bl (neg ^^ decide (x = .non))) H1 := by
  obtain ⟨μ, S, bs, ρ, R, E, q⟩ := h
  refine step1 (f := fa) (k := fun n x S1 => .ok (D.bl (neg ^^ isNon x)) S1) R E q fun x H1 d S1 μ1 p l R1 E1 rx q1 => ?_
  rw [non_iff rx]
  exact q1.ok R1 (.bl _)
theorem de_isN {j pos'} (ha : PE X a (tE X.kw W fa)) : PE X (.Compare a [.Is] [.Constant .none j pos'] pos) (tE X.kw W (isNF false fa)) :=
  pe_imp (pe_cmp (pc_isN ha)) fun σ H Q h => by
    have := isN_tr h
    simpa [tIsN] using this
theorem de_notN {j pos'} (ha : PE X a (tE X.kw W fa)) : PE X (.Compare a [.IsNot] [.Constant .none j pos'] pos) (tE X.kw W (isNF true fa)) :=
  pe_imp (pe_cmp (pc_notN ha)) fun σ H Q h => by
    have := isN_tr h
    simpa [tNotN] using this
theorem isN_bool {neg : Bool} (n : Nat) (ρ : Env') (S : Sto) (d : D) (S' : Sto) (h : isNF neg fa n ρ S = .ok d S') : ∃ k, d = .bl k := by
  obtain ⟨x, S1, _, h2⟩ := bind_ok h
  cases h2
  exact ⟨_, rfl⟩
theorem dt_isN {j pos'} (ha : PE X a (tE X.kw W fa)) : PT X (.Compare a [.Is] [.Constant .none j pos'] pos) (tT X.kw W (SemT (isNF false fa))) :=
  dt_bool (pt_cmp (pc_isN ha)) (fun σ H Q h => by
    have := isN_tr h
    simpa [tIsN] using this) isN_bool
theorem dt_notN {j pos'} (ha : PE X a (tE X.kw W fa)) : PT X (.Compare a [.IsNot] [.Constant .none j pos'] pos) (tT X.kw W (SemT (isNF true fa))) :=
  dt_bool (pt_cmp (pc_notN ha)) (fun σ H Q h => by
    have := isN_tr h
    simpa [tNotN] using this) isN_bool
abbrev chainF (fa fb fc : SemE) : SemE := fun n ρ S => (fa n ρ S).bind fun x S1 => (fb n ρ S1).bind fun y S2 => (match x, y with
    | .int i, .int j => if decide (i ≤ j) = true then (fc n ρ S2).bind fun z S3 => (match z with
      | .int k => .ok (D.bl (decide (j ≤ k))) S3
      | _ => .bad) else .ok (D.bl false) S2
    | _, _ => .bad)
abbrev rLeI : R2 := rI0 fun i j => .bl (decide (i ≤ j))
theorem chain_tr {K : Kw} {σ : L2.St} {H : Hp} {Q : VK} (h : tE K W (chainF fa fb fc) σ H Q) : tChain rLeI rLeI (tE K W fa) (tE K W fb) (tE K W fc) σ H Q := by
  obtain ⟨μ, S, bs, ρ, R, E, q⟩ := h
  refine step1 (f := fa) (k := fun n x S1 => (fb n ρ S1).bind fun y S2 => (match x, y with
    | .int i, .int j => if decide (i ≤ j) = true then (fc n ρ S2).bind fun z S3 => (match z with
      | .int k => .ok (D.bl (decide (j ≤ k))) S3
      | _ => .bad) else .ok (D.bl false) S2
    | _, _ => .bad)) R E q fun x H1 d S1 μ1 p l R1 E1 rx q1 => ?_
  refine step1 (f := fb) (k := fun n y S2 => (match d, y with
    | .int i, .int j => if decide (i ≤ j) = true then (fc n ρ S2).bind fun z S3 => (match z with
      | .int k => .ok (D.bl (decide (j ≤ k))) S3
      | _ => .bad) else .ok (D.bl false) S2
    | _, _ => .bad)) R1 E1 q1 fun y H2 d2 S2 μ2 p2 l2 R2 E2 ry q2 => ?_
  split at q2
  · rename_i i j
    cases rx; cases ry
    refine ⟨i, j, rfl, rfl, _, rfl, ?_⟩
    by_cases hij : decide (i ≤ j) = true
    · rw [if_pos hij] at q2 ⊢
      refine step1 (f := fc) (k := fun n z S3 => (match z with
        | .int k => .ok (D.bl (decide (j ≤ k))) S3
        | _ => .bad)) R2 E2 q2 fun z H3 d3 S3 μ3 p3 l3 R3 E3 rz q3 => ?_
      cases rz with
      | int k => exact ⟨j, k, rfl, rfl, q3.ok R3 (.bl _)⟩
      | _ => exact q3.elim
    · rw [if_neg hij] at q2 ⊢
      exact q2.ok R2 (.bl _)
  · exact q2.elim
theorem chain_bool (n : Nat) (ρ : Env') (S : Sto) (d : D) (S' : Sto) (h : chainF fa fb fc n ρ S = .ok d S') : ∃ k, d = .bl k := by
  obtain ⟨x, S1, _, h2⟩ := bind_ok h
  obtain ⟨y, S2, _, h3⟩ := bind_ok h2
  split at h3
  · split at h3
    · obtain ⟨z, S3, _, h4⟩ := bind_ok h3
      split at h4
      · cases h4; exact ⟨_, rfl⟩
      · cases h4
    · cases h3; exact ⟨_, rfl⟩
  · cases h3
theorem de_chain (ha : PE X a (tE X.kw W fa)) (hb : PE X b (tE X.kw W fb)) (hc : PE X c (tE X.kw W fc)) (hm : lastMarks [CmpOp.LtE, CmpOp.LtE] [b, c] = false) : PE X (.Compare a [.LtE, .LtE] [b, c] pos) (tE X.kw W (chainF fa fb fc)) :=
  pe_imp (pe_chain op_le op_le ha hb hc hm) fun σ H Q h => chain_tr h
theorem dt_chain (ha : PE X a (tE X.kw W fa)) (hb : PE X b (tE X.kw W fb)) (hc : PE X c (tE X.kw W fc)) (hm : lastMarks [CmpOp.LtE, CmpOp.LtE] [b, c] = false) : PT X (.Compare a [.LtE, .LtE] [b, c] pos) (tT X.kw W (SemT (chainF fa fb fc))) :=
  dt_bool (pt_chain op_le op_le ha hb hc hm) (fun σ H Q h => chain_tr h) chain_bool

/-! ### binary operations, items, slices -/
abbrev op2F (f : D → D → Nat → Sto → Out D) (fa fb : SemE) : SemE := fun n ρ S => (fa n ρ S).bind fun x S1 => (fb n ρ S1).bind fun y S2 => f x y n S2
theorem de_bin {o : BOp} {op : Operator} (ho : OpR X (binaryOp op) (OpD X.kw (binF o))) (ha : PE X a (tE X.kw W fa)) (hb : PE X b (tE X.kw W fb)) : PE X (.BinOp a op b pos) (tE X.kw W (op2F (binF o) fa fb)) := de_op2 (no_bin o) (pe_op ho ha hb)
theorem de_cmp {o : COp} {op : CmpOp} (ho : OpR X (compareOp op) (OpD X.kw (cmpF o))) (ha : PE X a (tE X.kw W fa)) (hb : PE X b (tE X.kw W fb)) (hm : behindInMarks op b = false) : PE X (.Compare a [op] [b] pos) (tE X.kw W (op2F (cmpF o) fa fb)) := de_op2 (no_cmp o) (pe_cmpR ho ha hb hm)
theorem op2_tr {K : Kw} {f : D → D → Nat → Sto → Out D} (hx : NoExc2 f) {σ : L2.St} {H : Hp} {Q : VK} (h : tE K W (op2F f fa fb) σ H Q) : tOp (OpD K f) (tE K W fa) (tE K W fb) σ H Q := by
  obtain ⟨μ, S, bs, ρ, R, E, q⟩ := h
  refine step1 (f := fa) (k := fun n x S1 => (fb n ρ S1).bind fun y S2 => f x y n S2) R E q fun x H1 d S1 μ1 p l R1 E1 rx q1 => ?_
  refine step1 (f := fb) (k := fun n y S2 => f d y n S2) R1 E1 q1 fun y H2 d2 S2 μ2 p2 l2 R2 E2 ry q2 => ?_
  exact op_end hx R2 (rx.mono p2 l2) ry q2
theorem op2_bool {o : COp} (n : Nat) (ρ : Env') (S : Sto) (d : D) (S' : Sto) (h : op2F (cmpF o) fa fb n ρ S = .ok d S') : ∃ k, d = .bl k := by
  obtain ⟨x, S1, _, h2⟩ := bind_ok h
  obtain ⟨y, S2, _, h3⟩ := bind_ok h2
  exact cmp_bool o h3
theorem dt_cmp {o : COp} {op : CmpOp} (ho : OpR X (compareOp op) (OpD X.kw (cmpF o))) (ha : PE X a (tE X.kw W fa)) (hb : PE X b (tE X.kw W fb)) (hm : behindInMarks op b = false) : PT X (.Compare a [op] [b] pos) (tT X.kw W (SemT (op2F (cmpF o) fa fb))) :=
  dt_bool (pt_cmpR ho ha hb hm) (fun σ H Q h => op2_tr (no_cmp o) h) op2_bool
theorem de_ix (hu : X.A.units + 65 < cLine) (ha : PE X a (tE X.kw W fa)) (hb : PE X b (tE X.kw W fb)) (hs : PlainIx b) : PE X (.Subscript a b pos) (tE X.kw W (op2F (alt2 ixD gixD) fa fb)) := de_op2 (no_alt no_ix no_gix) (pe_ix (ix_alt ix_D (gix_D hu)) ha hb hs)
abbrev SemO := Nat → Env' → Sto → Out (Option Int)
abbrev RO : Hp → List Addr → Option Int → Option Int → Prop := fun _ _ x y => x = y
def tO (K : Kw) (W : WX) (f : SemO) : TO := fun σ H Q => ∃ μ S bs ρ, RepS K H μ S bs ∧ RepE K H μ σ ρ ∧ End K W bs H μ σ.length RO Q (f (base bs) ρ S)
theorem po_imp {o : Option Expr} {t t' : TO} (h : PO X o t) (i : ∀ σ H Q, t' σ H Q → t σ H Q) : PO X o t' := ⟨fun pins s σ H Q I q => h.run pins s σ H Q I (i σ H Q q)⟩
theorem do_none : PO X none (tO X.kw W fun _ _ S => .ok none S) := po_imp po_none fun σ H Q ⟨μ, S, bs, ρ, R, E, q⟩ => q.ok R rfl
abbrev someF (fa : SemE) : SemO := fun n ρ S => (fa n ρ S).bind fun x S1 => (match x with
    | .int i => .ok (some i) S1
    | _ => .bad)
theorem do_some (ha : PE X a (tE X.kw W fa)) : PO X (some a) (tO X.kw W (someF fa)) := by
  refine po_imp (po_some ha) fun σ H Q ⟨μ, S, bs, ρ, R, E, q⟩ => ?_
  refine step1 (f := fa) (k := fun n x S1 => (match x with
    | .int i => .ok (some i) S1
    | _ => .bad)) R E q fun x H1 d S1 μ1 p l R1 E1 rx q1 => ?_
  cases rx with
  | int i => exact ⟨i, rfl, q1.ok R1 rfl⟩
  | _ => exact q1.elim
abbrev sliF (fa : SemE) (lo hi : SemO) : SemE := fun n ρ S => (fa n ρ S).bind fun x S1 => (lo n ρ S1).bind fun l S2 => (hi n ρ S2).bind fun h S3 => slD x l h n S3
theorem stepO {K : Kw} {f : SemO} {α β : Type} {k : Nat → Option Int → Sto → Out α} {Rl : Hp → List Addr → β → α → Prop} {σ : L2.St} {H : Hp} {Q : β → Hp → Prop} {Q' : Option Int → Hp → Prop} {μ : List Addr} {S : Sto} {bs : Bd} {ρ : Env'} (R : RepS K H μ S bs) (E : RepE K H μ σ ρ)
    (h : End K W bs H μ σ.length Rl Q ((f (base bs) ρ S).bind (k (base bs))))
    (i : ∀ x H1 S1 μ1, PK H H1 → Le μ μ1 → RepS K H1 μ1 S1 bs → RepE K H1 μ1 σ ρ → End K W bs H1 μ1 σ.length Rl Q (k (base bs) x S1) → Q' x H1) : tO K W f σ H Q' :=
  ⟨μ, S, bs, ρ, R, E, (h.bind (Rm := RO)).mono fun y H1 ⟨a, S1, μ1, p, q, R1, r, h1⟩ => i y H1 S1 μ1 p q R1 (E.mono p q) (by rw [show y = a from r]; exact h1)⟩
theorem de_sl {lo hi : Option Expr} {gl gh : SemO} {p2 : Pos} (ha : PE X a (tE X.kw W fa)) (hl : PO X lo (tO X.kw W gl)) (hh : PO X hi (tO X.kw W gh)) : PE X (.Subscript a (.Slice lo hi none p2) pos) (tE X.kw W (sliF fa gl gh)) := by
  refine pe_imp (pe_slice sl_D ha hl hh) fun σ H Q ⟨μ, S, bs, ρ, R, E, q⟩ => ?_
  refine step1 (f := fa) (k := fun n x S1 => (gl n ρ S1).bind fun l S2 => (gh n ρ S2).bind fun h S3 => slD x l h n S3) R E q fun x H1 d S1 μ1 p l R1 E1 rx q1 => ?_
  refine stepO (f := gl) (k := fun n l S2 => (gh n ρ S2).bind fun h S3 => slD d l h n S3) R1 E1 q1 fun x2 H2 S2 μ2 p2 l2 R2 E2 q2 => ?_
  refine stepO (f := gh) (k := fun n h S3 => slD d x2 h n S3) R2 E2 q2 fun x3 H3 S3 μ3 p3 l3 R3 E3 q3 => ?_
  refine ⟨μ3, S3, bs, d, R3, (rx.mono p2 l2).mono p3 l3, q3.out fun z S' e => ?_⟩
  unfold slD at e; (repeat' split at e) <;> cases e

/-! ### isinstance, sorted(set(..)), methods -/
abbrev isiF (t : Ty) (fa : SemE) : SemE := fun n ρ S => (fa n ρ S).bind fun x S1 => isiD t x S1
theorem de_isi {t : Ty} {p p2 : Pos} {n : Str} (hg : Gl X "isinstance") (hm : X.mg "isinstance" = none) (hg2 : Gl X n) (hm2 : X.mg n = none) (hn : bootBuiltins n = some (.type t.name)) (hnn : n ≠ "__name__") (hnd : (n == ("__debug__" : Str)) = false) (ha : PE X a (tE X.kw W fa))
    (hs : starEach (a :: [.Name n p2]) X.env = (false, eval a X.env) :: starEach [.Name n p2] X.env) : PE X (.Call (.Name "isinstance" p) [a, .Name n p2] [] pos) (tE X.kw W (isiF t fa)) := by
  have h2 : PE X (.Name n p2) (tC (.ty t.name)) := pe_bltn hg2 hm2 hn rfl hnn hnd
  refine pe_imp (pe_callB (isi_D t) hg hm rfl (pa_cons ha (pa_cons h2 pa_nil) hs) (he := hs)) fun σ H Q ⟨μ, S, bs, ρ, R, E, q⟩ => ?_
  refine step1 (f := fa) (k := fun n x S1 => isiD t x S1) R E q fun x H1 d S1 μ1 p l R1 E1 rx q1 => ?_
  refine ⟨x, μ1, S1, bs, d, rfl, R1, rx, q1.out fun z S' e => ?_⟩
  unfold isiD at e; split at e <;> cases e
abbrev ssetF (fa : SemE) : SemE := fun n ρ S => (fa n ρ S).bind fun x S1 => ssetD x S1
theorem de_sset {p p2 pos2 : Pos} (hc : X.calm = true) (hg : Gl X "sorted") (hm : X.mg "sorted" = none) (hg2 : Gl X "set") (hm2 : X.mg "set" = none) (ha : PE X a (tE X.kw W fa)) (hs : starEach [a] X.env = (false, eval a X.env) :: starEach [] X.env) :
    PE X (.Call (.Name "sorted" p) [.Call (.Name "set" p2) [a] [] pos2] [] pos) (tE X.kw W (ssetF fa)) := by
  refine pe_imp (pe_callB (cr_sortedSet hc) hg hm rfl (pa_cons (pe_callTy (cr_setI hc) hg2 hm2 rfl (pa_cons ha pa_nil hs) (he := hs)) pa_nil)) fun σ H Q ⟨μ, S, bs, ρ, R, E, q⟩ => ?_
  refine step1 (f := fa) (k := fun n x S1 => ssetD x S1) R E q fun x H1 d S1 μ1 p l R1 E1 rx q1 => ?_
  exact sset_reads ⟨μ1, S1, bs, d, R1, rx, q1.out fun z S' e => by unfold ssetD at e; (repeat' split at e) <;> cases e⟩
abbrev mthF' (m : D → List D → Nat → Sto → Out D) (fa : SemE) (ga : SemA) : SemE := fun n ρ S => (fa n ρ S).bind fun x S1 => (ga n ρ S1).bind fun ds S2 => m x ds n S2
end
end Dq
set_option Elab.async false
set_option linter.all false
set_option maxRecDepth 100000
set_option maxHeartbeats 4000000
/-! Dp10: methods, calls, dict displays, what is walked, comprehensions. -/
namespace Dq
open PySem PySem.Spec PyProof.Rows
open L2 hiding St
section
variable {X : Cx} {W : WX} {a b c e : Expr} {fa fb fc : SemE} {pos : Pos} {es : List Expr} {ga : SemA}

/-! ### methods of lists -/
abbrev metF (m : Mth) (fa : SemE) (ga : SemA) : SemE := fun n ρ S => (fa n ρ S).bind fun x S1 => if (lstOf x S1).isSome = true then (ga n ρ S1).bind fun ds S2 => mthF m x ds n S2 else .bad
theorem no_mth (m : Mth) {x : D} {ds : List D} {n : Nat} {S : Sto} {z : Exn} {S' : Sto} (h : mthF m x ds n S = .exc z S') : False := by
  cases m <;> simp only [mthF] at h
  · unfold appD at h; (repeat' split at h) <;> cases h
  · unfold idxD at h; (repeat' split at h) <;> cases h
theorem de_mth {m : Mth} {name : Str} {id : String} {apos cpos : Pos} (slot : Slot "list" name id) (hty : typeOf (.builtin id) = pure (.type "method_descriptor")) (hm : MtR X id (MtD X.kw (mthF m))) (ho : PE X a (tE X.kw W fa)) (hs : PA X (e :: es) (tA X.kw W ga))
    (hbase : attributeBase a name X.env (eval a X.env) = eval a X.env)
    (hfew : ((backTo cpos (starEach (e :: es) X.env)).all (fun x => !x.1) && (backToKw cpos (keywordEach [] X.env)).all (fun x => x.1.isSome)
      && decide ((e :: es).length + ([] : List Keyword).length + (if ([] : List Keyword).isEmpty then 0 else 1) < 30)) = true)
    (hline : (apos.endLine == cpos.line) = true) (hst : starEach (e :: es) X.env = (false, eval e X.env) :: starEach es X.env) (hpl : (backTo cpos (starEach es X.env)).any (·.1) = false) :
    PE X (.Call (.Attribute a name apos) (e :: es) [] cpos) (tE X.kw W (metF m fa ga)) := by
  refine pe_imp (pe_bm PySem.F.plainAttrs_list slot hty hm ho hs hbase hfew hline hst hpl) fun σ H Q ⟨μ, S, bs, ρ, R, E, q⟩ => ?_
  refine step1 (f := fa) (k := fun n x S1 => if (lstOf x S1).isSome = true then (ga n ρ S1).bind fun ds S2 => mthF m x ds n S2 else .bad) R E q fun x H1 d S1 μ1 p l R1 E1 rx q1 => ?_
  split at q1
  · rename_i hl
    obtain ⟨ds, eds⟩ := Option.isSome_iff_exists.mp hl
    obtain ⟨p0, vs, rfl, r0, hq⟩ := lst_rep R1 rx eds
    refine ⟨.inl ⟨rfl, vs, hq⟩, ?_⟩
    refine stepA (f := ga) (k := fun n ds S2 => mthF m d ds n S2) R1 E1 q1 fun xs H2 ds2 S2 μ2 p2 l2 R2 E2 rs q2 => ?_
    exact ⟨μ2, S2, bs, d, ds2, R2, rx.mono p2 l2, rs, q2.out fun z S' e => no_mth m e⟩
  · exact q1.elim

/-! ### calls of functions -/
def spF (K : Kw) (F : Fun') : Sp := fun vs H Q E => ∃ μ S bs ds, RepS K H μ S bs ∧ RepAll K H μ vs ds ∧ End K (fun c d _ H => E c d H) bs H μ 0 (RV K) Q (F ds (base bs) S)
structure FnIs (X : Cx) (f : Str) (F : Fun') : Prop where
  ex : ∃ (a : Addr) (fd : FuncData) (ps : List Str) (k : Nat), FnOk X.prog X.w X.kw X.mg X.base (L2.CX X.prog X.w) k a fd ps (spF X.kw F) ∧ Room k X.A ∧ X.mg f = some (.ref a) ∧ PySem.W.keepIn X.kw (.ref a) = true ∧ Binds X.kw fd ps []
theorem end_call {K : Kw} {σ : L2.St} {bs : Bd} {H : Hp} {μ : List Addr} {Q : V → Hp → Prop} {o : Out D} (h : End K W bs H μ σ.length (RV K) Q o) : End K (fun c d _ H => W c d σ H) bs H μ 0 (RV K) Q o := by
  cases o with
  | ok d S => exact h
  | exc x S => exact fun σ' H' μ' p l R => h σ H' μ' p l R
  | bad => exact h
theorem pe_callS0 {CX : CXT} {k : Nat} {f : Addr} {fd : FuncData} {ps : List Str} {sp : Sp} {E : L2.St → XK} {x : Str} {p pos : Pos} (F : FnOk X.prog X.w X.kw X.mg X.base CX k f fd ps sp) (hr : Room k X.A) (hg : Gl X x) (hm : X.mg x = some (.ref f)) (hk : PySem.W.keepIn X.kw (.ref f) = true) (hb : Binds X.kw fd ps [])
    (hx : ∀ σ, PassesAt CX X σ (E σ)) (hdb : (x == ("__debug__" : Str)) = false) : PE X (.Call (.Name x p) [] [] pos) (tCallS sp E tNil) := by
  refine ⟨fun pins s σ H Q I h => ?_⟩
  refine wpAny_Call_Name_kw (ld_glob I hg hm ?_ hdb)
  exact PySem.W.callWith_K0 I.kIn hk (run_fnS (us := []) F hr hb (hx σ) I .nil h)
theorem de_call0 {f : Str} {F : Fun'} {p : Pos} (tk : Takes X W) (hF : FnIs X f F) (hg : Gl X f) (hdb : (f == ("__debug__" : Str)) = false) : PE X (.Call (.Name f p) [] [] pos) (tE X.kw W (appF (fun _ _ S => .ok [] S) F)) := by
  obtain ⟨a, fd, ps, k, h1, h2, h3, h4, h5⟩ := hF.ex
  refine pe_imp (pe_callS0 h1 h2 hg h3 h4 h5 (fun σ => passAt tk σ) hdb) fun σ H Q ⟨μ, S, bs, ρ, R, E, q⟩ => ?_
  have q' : End X.kw W bs H μ σ.length (RV X.kw) Q (F [] (base bs) S) := q
  exact ⟨μ, S, bs, [], R, .nil, end_call q'⟩
theorem de_call {f : Str} {F : Fun'} {p : Pos} (tk : Takes X W) (hF : FnIs X f F) (hg : Gl X f) (hdb : (f == ("__debug__" : Str)) = false) (ha : PA X (e :: es) (tA X.kw W ga)) (he : starEach (e :: es) X.env = (false, eval e X.env) :: starEach es X.env) (hpl : (backTo pos (starEach es X.env)).any (·.1) = false) :
    PE X (.Call (.Name f p) (e :: es) [] pos) (tE X.kw W (appF ga F)) := by
  obtain ⟨a, fd, ps, k, h1, h2, h3, h4, h5⟩ := hF.ex
  refine pe_imp (pe_callS h1 h2 hg h3 h4 h5 (fun σ => passAt tk σ) ha hdb he hpl) fun σ H Q ⟨μ, S, bs, ρ, R, E, q⟩ => ?_
  refine stepA (f := ga) (k := fun n ds S1 => F ds n S1) R E q fun xs H1 ds S1 μ1 p l R1 E1 rs q1 => ?_
  exact ⟨μ1, S1, bs, ds, R1, rs, end_call q1⟩

/-! ### dict displays -/
def PairsOk (K : Kw) (W : WX) (trs : List (TE × TE)) (ga : SemA) : Prop := ∀ σ H (Q : List V → Hp → Prop), tA K W ga σ H Q → tPairs trs σ H fun ps H1 => Q (ps.flatMap fun p => [p.1, p.2]) H1
theorem pairs_nil {K : Kw} : PairsOk K W [] (fun _ _ S => .ok [] S) := fun σ H Q ⟨μ, S, bs, ρ, R, E, q⟩ => q.ok R .nil
theorem pairs_cons {K : Kw} {trs : List (TE × TE)} (h : PairsOk K W trs ga) : PairsOk K W ((tE K W fa, tE K W fb) :: trs) (consF fa (consF fb ga)) := fun σ H Q ⟨μ, S, bs, ρ, R, E, q⟩ => by
  refine step1 (f := fa) (k := fun n d S1 => ((consF fb ga) n ρ S1).bind fun ds S2 => .ok (d :: ds) S2) R E q fun x H1 d S1 μ1 p l R1 E1 rx q1 => ?_
  have q1' : End K W bs H1 μ1 σ.length (RL K) Q ((fb (base bs) ρ S1).bind fun d2 S2 => ((ga (base bs) ρ S2).bind fun ds S3 => .ok (d2 :: ds) S3).bind fun ds S4 => .ok (d :: ds) S4) := by
    have z : End K W bs H1 μ1 σ.length (RL K) Q (((fb (base bs) ρ S1).bind fun d2 S2 => (ga (base bs) ρ S2).bind fun ds S3 => .ok (d2 :: ds) S3).bind fun ds S4 => .ok (d :: ds) S4) := q1
    rw [bind_bind] at z
    exact z
  refine step1 (f := fb) (k := fun n d2 S2 => ((ga n ρ S2).bind fun ds S3 => .ok (d2 :: ds) S3).bind fun ds S4 => .ok (d :: ds) S4) R1 E1 q1' fun y H2 d2 S2 μ2 p2 l2 R2 E2 ry q2 => ?_
  rw [bind_bind] at q2
  refine h σ H2 (fun vs H3 => Q (x :: y :: vs) H3) ?_
  refine stepA (f := ga) (k := fun n ds S3 => .ok (d :: d2 :: ds) S3) R2 E2 q2 fun xs H3 ds S3 μ3 p3 l3 R3 E3 rs q3 => ?_
  exact q3.ok R3 (.cons ((rx.mono p2 l2).mono p3 l3) (.cons (ry.mono p3 l3) rs))
def unflat : List V → List (V × V)
  | k :: v :: r => (k, v) :: unflat r
  | _ => []
theorem unflat_flat : ∀ ps : List (V × V), unflat (ps.flatMap fun p => [p.1, p.2]) = ps
  | [] => rfl
  | p :: ps => by
    show unflat (p.1 :: p.2 :: (ps.flatMap fun p => [p.1, p.2])) = p :: ps
    show (p.1, p.2) :: unflat (ps.flatMap fun p => [p.1, p.2]) = p :: ps
    rw [unflat_flat ps]
theorem mk_rep {K : Kw} {H : Hp} {μ : List Addr} : ∀ (ds : List D) (xs : List V) (kvs : List (Key × D)), mkKeys ds = some kvs → RepAll K H μ xs ds → ∃ vs : List (Key × V), unflat xs = vs.map (fun kv => (kV kv.1, kv.2)) ∧ RepKV K H μ vs kvs
  | [], xs, kvs, e, r => by
    cases e; cases r
    exact ⟨[], rfl, .nil⟩
  | [_], _, _, e, _ => by cases e
  | k :: v :: r, _, kvs, e, .cons (v := x) r1 (.cons (v := y) (vs := xs) r2 r3) => by
    unfold mkKeys at e
    split at e
    · rename_i k' m ek em
      cases e
      obtain ⟨vs, e1, e2⟩ := mk_rep r xs m em r3
      refine ⟨(k', y) :: vs, ?_, .cons r2 e2⟩
      show (x, y) :: unflat xs = (kV k', y) :: _
      rw [e1, ← keyOf_rep r1 ek]
    · cases e
theorem RepKV.merge {K : Kw} {H : Hp} {μ : List Addr} : ∀ {more : List (Key × V)} {ds : List (Key × D)} {vs : List (Key × V)} {es : List (Key × D)}, RepKV K H μ more ds → RepKV K H μ vs es → RepKV K H μ (mergeK vs more) (mergeG es ds)
  | _, _, _, _, .nil, r => r
  | (k, v) :: more, (_, d) :: ds, vs, es, .cons h t, r => by
    show RepKV K H μ (mergeK (putK vs k v) more) (mergeG (putG es k d) ds)
    exact RepKV.merge t (r.put k h)
abbrev dictF (ga : SemA) : SemE := fun n ρ S => (ga n ρ (S ++ [.dic []])).bind fun ds S1 => (match mkKeys ds, S1[S.length]? with
    | some kvs, some (.dic []) => if Nat.ble kvs.length 15 = true then .ok (D.loc S.length) (S1.set S.length (.dic (mergeG [] kvs))) else .bad
    | _, _ => .bad)
theorem de_dict {keys : List (Option Expr)} {values : List Expr} {trs : List (TE × TE)} (h : PPs X pos keys values trs) (hp : PairsOk X.kw W trs ga) (hall : keys.all (·.isSome) = true) (hl : keys.length = values.length) (h0 : keys ≠ []) (h15 : keys.length ≤ 15) :
    PE X (.Dict keys values pos) (tE X.kw W (dictF ga)) := by
  refine pe_imp (pe_disp h hall hl h0 h15) fun σ H Q ⟨μ, S, bs, ρ, R, E, q⟩ p hp0 => ?_
  have pk : PK H (upd H p (.dK [])) := PK.new hp0
  have R0 : RepS X.kw (upd H p (.dK [])) (μ ++ [p]) (S ++ [.dic []]) bs := R.push hp0 ⟨[], upd_same, .nil⟩
  have E0 := E.mono pk (Le.app μ [p])
  have eq : (fun (ps : List (V × V)) (H2 : Hp) => H2 p = some (.dK []) ∧ ∃ kvs : List (Key × V), ps = kvs.map (fun kv => (kV kv.1, kv.2)) ∧ kvs.length ≤ 15 ∧ Q (.ref p) (upd H2 p (.dK (mergeK [] kvs)))) =
      fun ps H2 => (fun (vs : List V) (H2 : Hp) => H2 p = some (.dK []) ∧ ∃ kvs : List (Key × V), unflat vs = kvs.map (fun kv => (kV kv.1, kv.2)) ∧ kvs.length ≤ 15 ∧ Q (.ref p) (upd H2 p (.dK (mergeK [] kvs)))) (ps.flatMap fun p => [p.1, p.2]) H2 := by
    funext ps H2
    dsimp only
    rw [unflat_flat]
  rw [eq]
  refine hp σ _ (fun (vs : List V) (H2 : Hp) => H2 p = some (.dK []) ∧ ∃ kvs : List (Key × V), unflat vs = kvs.map (fun kv => (kV kv.1, kv.2)) ∧ kvs.length ≤ 15 ∧ Q (.ref p) (upd H2 p (.dK (mergeK [] kvs)))) (stepA (f := ga) (k := fun n ds S1 => (match mkKeys ds, S1[S.length]? with
    | some kvs, some (.dic []) => if Nat.ble kvs.length 15 = true then .ok (D.loc S.length) (S1.set S.length (.dic (mergeG [] kvs))) else .bad
    | _, _ => .bad)) R0 E0 (q.later pk (Le.app μ [p])) fun xs H1 ds S1 μ1 p1 l1 R1 E1 rs q1 => ?_)
  split at q1
  · rename_i kvs em ec
    split at q1
    · rename_i hl
      have hm : μ1[S.length]? = some p := l1 _ _ (by rw [← R.len]; simp)
      obtain ⟨vs0, c1, c2⟩ := R1.cell hm ec
      cases c2
      obtain ⟨vs, e1, e2⟩ := mk_rep ds xs kvs em rs
      refine ⟨c1, vs, e1, ?_, ?_⟩
      · rw [e2.length]; exact Nat.le_of_ble_eq_true hl
      · have hb : base bs ≤ S.length := R.base_le
        have R2 := R1.setDic (ws := mergeK [] vs) (es := mergeG [] kvs) hm ec c1 fun μ2 H2 p2 h1 _ => by
          rw [h1 hb]
          exact (RepKV.merge e2 .nil).mono p2 (Le.refl _)
        exact q1 _ _ μ1 (PK.write c1 (fun xs z => nomatch z) (fun _ _ z => nomatch z)) (Le.refl _) R2 (.loc hm)
    · exact q1.elim
  · exact q1.elim

/-- the empty dict of ints and texts, as one of nested keys -/
theorem dk_empty_nd {pins : List (Addr × Obj)} {σ : L2.St} {H : Hp} {s : Shared} {a : Addr} (I : Inv X pins σ H s) (e : H a = some (.dK [])) : (a == sysModules) = false ∧ s.heap.DictOfH (nestedKind X.prog X.w) a [] := by
  obtain ⟨z, hd, ws, rel, o, es, ep, h1, h2, h3, h4, h5, h6⟩ := dk_of I.hok e
  cases rel
  have he : es.toList = [] := by
    cases e5 : es.toList with
    | nil => rfl
    | cons x l => rw [e5] at h5; exact absurd h5 (by intro z; cases z)
  exact ⟨hd, o, es, ep, h1, h2, h3, he, fun x hx => (nomatch hx), List.nodup_nil⟩
/-- {k: v} with a nested key -/
def tDispN (P : Program) (w : World) (K : Kw) (trs : List (TE × TE)) : TE := fun σ H Q => ∀ p, H p = none → tPairs trs σ (upd H p (.dK [])) fun ps H2 => H2 p = some (.dK []) ∧ ∃ (k : NestedKey) (b : Addr) (v : V), ps = [(.ref b, v)] ∧ (∃ μ d, Rep K H2 μ (.ref b) d ∧ nkT d = some k) ∧ Q (.ref p) (upd H2 p (NdO P w p [(k, b, v)]))
theorem pe_dispN {keys : List (Option Expr)} {values : List Expr} {trs : List (TE × TE)} (hu : X.A.units + 65 < cLine) (h : PPs X pos keys values trs) (hall : keys.all (·.isSome) = true) (hl : keys.length = values.length) (h0 : keys ≠ [])
    (h15 : keys.length ≤ 15) : PE X (.Dict keys values pos) (tDispN X.prog X.w X.kw trs) := by
  refine ⟨fun pins s σ H Q I q => ?_⟩
  have hn := I.hok.fresh (Nat.le_refl s.heap.objs.size)
  have I1 := I.laid (a := s.heap.objs.size) (o := .dK []) (h' := s.heap.push { cls := .type "dict", data := .dict #[] }) (t' := s.toks) (fun _ _ q => Heap.get?_push_of_some _ q) (Nat.le_refl _) (dk_empty s.heap I.big)
  have hp := pairTrees_length keys values X.env pos hall hl
  have hne : pairTrees keys values X.env pos ≠ [] := fun e => by
    rw [e] at hp
    exact h0 (List.length_eq_zero_iff.mp hp.symm)
  rw [arm_eval_Dict, zip_pairTrees keys values X.env pos hall hl, dictDisplay_pairs (pairTrees keys values X.env pos) hne (by omega)]
  refine wpAny_bind (wpAny_standAt (wpAny_bind (wpAny_subDictH (knd := nestedKind X.prog X.w) (Q := fun d s' => wpAny (model X.prog X.w) X.A (pure (Value.ref d)) _ X.xe s') (by show X.A.units + 8 < cLine; omega) (by rw [hp]; exact h15) ?_)))
  refine thn (h.run pins _ σ _ _ I1 (q _ hn)) fun ws s2 ⟨ps, H2, I2, rel, e, k, b, v, ep, ⟨μ, d, rd, ek⟩, q2⟩ => ?_
  subst ep
  cases rel with
  | @cons _ u _ us hr t =>
    cases t
    obtain ⟨u1, u2⟩ := u
    cases (show u1 = Value.ref b from hr.1)
    obtain ⟨hd, dd⟩ := dk_empty_nd I2 e
    refine ⟨[(k, b, u2)], ⟨rfl, rfl, nkT_is I2 rd ek, trivial⟩, dd, fun h' tk dd' hs => wpAny_pure ?_⟩
    have he : ∃ q, h'.get? s.heap.objs.size = some q := let ⟨q, _, _, hq, _⟩ := dd'; ⟨q, hq⟩
    have p1 : NPair [(k, b, v)] (storedAllH [] [(k, b, u2)]) := .cons ⟨rfl, rfl, hr.2⟩ .nil
    exact ⟨.ref s.heap.objs.size, _, d_write (t' := tk) I2 (by rw [e]; exact True.intro) hs he (ndO_ok (by rw [sizeLine_eq]; simp) hd p1 dd'), rfl, q2⟩
/-- both kinds of displays -/
abbrev dictF2 (ga : SemA) : SemE := fun n ρ S => (ga n ρ (S ++ [.dic []])).bind fun ds S1 => (match mkKeys ds, S1[S.length]? with
    | some kvs, some (.dic []) => if Nat.ble kvs.length 15 = true then .ok (D.loc S.length) (S1.set S.length (.dic (mergeG [] kvs))) else .bad
    | none, some (.dic []) => (match mkN ds with
      | some kv => .ok (D.loc S.length) (S1.set S.length (.nd [kv]))
      | none => .bad)
    | _, _ => .bad)
theorem de_dictN {keys : List (Option Expr)} {values : List Expr} {trs : List (TE × TE)} (hu : X.A.units + 65 < cLine) (h : PPs X pos keys values trs) (hp : PairsOk X.kw W trs ga) (hall : keys.all (·.isSome) = true) (hl : keys.length = values.length) (h0 : keys ≠ []) (h15 : keys.length ≤ 15) :
    PE X (.Dict keys values pos) (tE X.kw W fun n ρ S => (ga n ρ (S ++ [.dic []])).bind fun ds S1 => (match mkN ds, S1[S.length]? with
    | some kv, some (.dic []) => .ok (D.loc S.length) (S1.set S.length (.nd [kv]))
    | _, _ => .bad)) := by
  refine pe_imp (pe_dispN hu h hall hl h0 h15) fun σ H Q ⟨μ, S, bs, ρ, R, E, q⟩ p hp0 => ?_
  have pk : PK H (upd H p (.dK [])) := PK.new hp0
  have R0 : RepS X.kw (upd H p (.dK [])) (μ ++ [p]) (S ++ [.dic []]) bs := R.push hp0 ⟨[], upd_same, .nil⟩
  have E0 := E.mono pk (Le.app μ [p])
  have eq : (fun (ps : List (V × V)) (H2 : Hp) => H2 p = some (.dK []) ∧ ∃ (k : NestedKey) (b : Addr) (v : V), ps = [(.ref b, v)] ∧ (∃ μ d, Rep X.kw H2 μ (.ref b) d ∧ nkT d = some k) ∧ Q (.ref p) (upd H2 p (NdO X.prog X.w p [(k, b, v)]))) =
      fun ps H2 => (fun (vs : List V) (H2 : Hp) => H2 p = some (.dK []) ∧ ∃ (k : NestedKey) (b : Addr) (v : V), unflat vs = [(.ref b, v)] ∧ (∃ μ d, Rep X.kw H2 μ (.ref b) d ∧ nkT d = some k) ∧ Q (.ref p) (upd H2 p (NdO X.prog X.w p [(k, b, v)]))) (ps.flatMap fun p => [p.1, p.2]) H2 := by
    funext ps H2
    dsimp only
    rw [unflat_flat]
  show tPairs trs σ _ _
  rw [eq]
  refine hp σ _ (fun (vs : List V) (H2 : Hp) => H2 p = some (.dK []) ∧ ∃ (k : NestedKey) (b : Addr) (v : V), unflat vs = [(.ref b, v)] ∧ (∃ μ d, Rep X.kw H2 μ (.ref b) d ∧ nkT d = some k) ∧ Q (.ref p) (upd H2 p (NdO X.prog X.w p [(k, b, v)]))) (stepA (f := ga) (k := fun n ds S1 => (match mkN ds, S1[S.length]? with
    | some kv, some (.dic []) => .ok (D.loc S.length) (S1.set S.length (.nd [kv]))
    | _, _ => .bad)) R0 E0 (q.later pk (Le.app μ [p])) fun xs H1 ds S1 μ1 p1 l1 R1 E1 rs q1 => ?_)
  split at q1
  · rename_i kv em ec
    have hm : μ1[S.length]? = some p := l1 _ _ (by rw [← R.len]; simp)
    obtain ⟨vs0, c1, c2⟩ := R1.cell hm ec
    cases c2
    unfold mkN at em
    split at em
    · rename_i dk dv
      split at em
      · rename_i hk
        cases em
        obtain ⟨k, ek⟩ := Option.isSome_iff_exists.mp hk
        cases rs with
        | cons r1 r2 =>
          cases r2 with
          | cons r2 r3 =>
            cases r3
            obtain ⟨b, rfl⟩ := nkT_ref r1 ek
            refine ⟨c1, k, b, _, rfl, ⟨μ1, dk, r1, ek⟩, ?_⟩
            have hb : base bs ≤ S.length := R.base_le
            have R2 := R1.setNd (ws := [(k, b, _)]) (es := [(dk, dv)]) hm ec c1 (fun xs z => nomatch z) (fun _ _ z => nomatch z) fun μ2 H2 p2 h1 _ => by
              rw [h1 hb]
              exact .cons ek (r1.mono p2 (Le.refl _)) (r2.mono p2 (Le.refl _)) .nil
            exact q1 _ _ μ1 (PK.write c1 (fun xs z => nomatch z) (fun _ _ z => nomatch z)) (Le.refl _) R2 (.loc hm)
      · cases em
    · cases em
  · exact q1.elim

/-- {} -/
theorem de_dict0 : PE X (.Dict [] [] pos) (tE X.kw W fun _ _ S => .ok (.loc S.length) (S ++ [.dic []])) := by
  refine pe_imp pe_dnewK fun σ H Q ⟨μ, S, bs, ρ, R, E, q⟩ p hp0 => ?_
  have R0 : RepS X.kw (upd H p (.dK [])) (μ ++ [p]) (S ++ [.dic []]) bs := R.push hp0 ⟨[], upd_same, .nil⟩
  exact q _ _ (μ ++ [p]) (PK.new hp0) (Le.app μ [p]) R0 (.loc (by rw [← R.len]; simp))
theorem pe_or {e : Expr} {t1 t2 t : TE} (h1 : PE X e t1) (h2 : PE X e t2) (h : ∀ σ H Q, t σ H Q → t1 σ H Q ∨ t2 σ H Q) : PE X e t :=
  ⟨fun pins s σ H Q I q => (h σ H Q q).elim (h1.run pins s σ H Q I) (h2.run pins s σ H Q I)⟩
theorem de_dict2 {keys : List (Option Expr)} {values : List Expr} {trs : List (TE × TE)} (hu : X.A.units + 65 < cLine) (h : PPs X pos keys values trs) (hp : PairsOk X.kw W trs ga) (hall : keys.all (·.isSome) = true) (hl : keys.length = values.length) (h0 : keys ≠ []) (h15 : keys.length ≤ 15) :
    PE X (.Dict keys values pos) (tE X.kw W (dictF2 ga)) := by
  refine pe_or (de_dict h hp hall hl h0 h15) (de_dictN hu h hp hall hl h0 h15) fun σ H Q ⟨μ, S, bs, ρ, R, E, q⟩ => ?_
  cases e : ga (base bs) ρ (S ++ [.dic []]) with
  | bad =>
    refine .inl ⟨μ, S, bs, ρ, R, E, ?_⟩
    simp only [dictF2, e] at q
    simp only [dictF, e]
    exact q
  | exc x S1 =>
    refine .inl ⟨μ, S, bs, ρ, R, E, ?_⟩
    simp only [dictF2, e] at q
    simp only [dictF, e]
    exact q
  | ok ds S1 =>
    have q' : End X.kw W bs H μ σ.length (RV X.kw) Q (match mkKeys ds, S1[S.length]? with
      | some kvs, some (.dic []) => if Nat.ble kvs.length 15 = true then .ok (D.loc S.length) (S1.set S.length (.dic (mergeG [] kvs))) else .bad
      | none, some (.dic []) => (match mkN ds with
        | some kv => .ok (D.loc S.length) (S1.set S.length (.nd [kv]))
        | none => .bad)
      | _, _ => .bad) := by
      simp only [dictF2, e] at q
      exact q
    cases em : mkKeys ds with
    | some kvs =>
      refine .inl ⟨μ, S, bs, ρ, R, E, ?_⟩
      simp only [dictF, e]
      rw [em] at q'
      show End X.kw W bs H μ σ.length (RV X.kw) Q (match mkKeys ds, S1[S.length]? with
        | some kvs, some (.dic []) => if Nat.ble kvs.length 15 = true then .ok (D.loc S.length) (S1.set S.length (.dic (mergeG [] kvs))) else .bad
        | _, _ => .bad)
      rw [em]
      split at q'
      · rename_i h1 h2
        cases h1
        rw [h2]
        exact q'
      · rename_i h1 _
        cases h1
      · exact q'.elim
    | none =>
      refine .inr ⟨μ, S, bs, ρ, R, E, ?_⟩
      rw [em] at q'
      show End X.kw W bs H μ σ.length (RV X.kw) Q ((ga (base bs) ρ (S ++ [.dic []])).bind _)
      rw [e]
      show End X.kw W bs H μ σ.length (RV X.kw) Q (match mkN ds, S1[S.length]? with
        | some kv, some (.dic []) => .ok (D.loc S.length) (S1.set S.length (.nd [kv]))
        | _, _ => .bad)
      split at q'
      · rename_i h1 _
        cases h1
      · rename_i h2
        rw [h2]
        cases ek : mkN ds with
        | some kv => rw [ek] at q'; exact q'
        | none => rw [ek] at q'; exact q'
      · exact q'.elim

/-! ### what is walked -/
/-- the walk J is told by src, from H on -/
def ItOk (K : Kw) (H : Hp) (μ : List Addr) (J : It) (src : Src) : Prop := ∀ (H' : Hp) (μ' : List Addr) (S : Sto) (bs : Bd), PK H H' → Le μ μ' → RepS K H' μ' S bs → ∀ i : Nat,
  (∀ d, cur src S i = some (some d) → J.go i H' ∧ ∀ x H2, J.yld i H' x H2 → PK H' H2 ∧ RepS K H2 μ' S bs ∧ Rep K H2 μ' x d) ∧ (cur src S i = some none → J.stop i H')
theorem ItOk.later {K : Kw} {H H1 : Hp} {μ μ1 : List Addr} {J : It} {src : Src} (h : ItOk K H μ J src) (p : PK H H1) (q : Le μ μ1) : ItOk K H1 μ1 J src := fun H' μ' S bs p' q' => h H' μ' S bs (p.trans p') (q.trans q')
abbrev RI (K : Kw) : Hp → List Addr → It → Src → Prop := fun H μ J s => ItOk K H μ J s
def tI (K : Kw) (W : WX) (f : Nat → Env' → Sto → Out Src) : TI := fun σ H R => ∃ μ S bs ρ, RepS K H μ S bs ∧ RepE K H μ σ ρ ∧ End K W bs H μ σ.length (RI K) R (f (base bs) ρ S)
theorem pi_imp {tg : Expr} {wi wi' : TI} (h : PI X tg e wi) (i : ∀ σ H R, wi' σ H R → wi σ H R) : PI X tg e wi' := ⟨fun pins s σ H R I q => h.run pins s σ H R I (i σ H R q)⟩
/-- a list or a tuple, told apart as it comes -/
def iSeq (K : Kw) (tl : TE) : TI := fun σ H R => tl σ H fun x H1 => ∃ a, x = .ref a ∧ (((∃ xs, SqL K H1 a xs) ∧ R (Itl K a) H1) ∨ ((∃ xs, SqT K H1 a xs) ∧ R (Itt K a) H1))
theorem pi_seq {tg l : Expr} {tl : TE} (hl : PE X l tl) : PI X tg l (iSeq X.kw tl) := by
  refine ⟨fun pins s σ H R I h => ?_⟩
  refine thn (hl.run pins s σ H _ I h) fun v s1 ⟨x, H1, I1, r1, q1⟩ => ?_
  obtain ⟨a, rfl, q⟩ := q1
  cases r1
  have one : ∀ b ∈ [s1.heap.objs.size], FpOk X pins H1 b := fun b hb => by
    rw [List.mem_singleton.mp hb]
    exact I1.fpOk (Nat.le_refl _) (I1.hok.fresh (Nat.le_refl _))
  rcases q with ⟨⟨xs, hq⟩, q⟩ | ⟨⟨xs, hq⟩, q⟩
  · obtain ⟨its, rv, pl, hz⟩ := I1.list hq
    exact wpAny_pyIter_list pl.isList ⟨_, _, _, _, H1, rfl, I1.kept (t' := s1.toks) fun b o z => Heap.get?_push_of_some _ z, turn_list a _, ⟨_, Heap.get?_push_size _ rfl, rfl, rfl⟩, one, q⟩
  · obtain ⟨its, rv, pl, hz⟩ := I1.tuple hq
    exact wpAny_pyIter_tuple (show s1.heap.IsTuple a its.toArray from pl) ⟨_, _, _, _, H1, rfl, I1.kept (t' := s1.toks) fun b o z => Heap.get?_push_of_some _ z, turn_tuple a _, ⟨_, Heap.get?_push_size _ rfl, rfl, rfl⟩, one, q⟩
theorem cur_some {d : D} {S : Sto} {ds : List D} (e : itemsOf d S = some ds) (i : Nat) : cur (.seq d) S i = some ds[i]? := by
  show (match itemsOf d S with
    | some ds => some ds[i]?
    | none => none) = _
  rw [e]
theorem cur_none {d : D} {S : Sto} (e : itemsOf d S = none) (i : Nat) : cur (.seq d) S i = none := by
  show (match itemsOf d S with
    | some ds => some ds[i]?
    | none => none) = _
  rw [e]
theorem items_lst {d : D} {S : Sto} (h : ∀ ds, d ≠ .tup ds) : itemsOf d S = lstOf d S := by
  cases d with
  | tup ds => exact absurd rfl (h ds)
  | _ => rfl
theorem itOk_list {K : Kw} {H : Hp} {μ : List Addr} {a : Addr} {d : D} (r : Rep K H μ (.ref a) d) (ht : ∀ ds, d ≠ .tup ds) : ItOk K H μ (Itl K a) (.seq d) := fun H' μ' S bs p q R i => by
  have r' := r.mono p q
  cases e : lstOf d S with
  | none =>
    rw [cur_none ((items_lst ht).trans e)]
    exact ⟨fun _ z => (nomatch z), fun z => nomatch z⟩
  | some ds =>
    obtain ⟨a', vs, ea, rs, hs⟩ := lst_rep R r' e
    cases ea
    rw [cur_some ((items_lst ht).trans e)]
    refine ⟨fun x z => ?_, fun z => ?_⟩
    · have z' : ds[i]? = some x := Option.some.inj z
      obtain ⟨v, hv, rv⟩ := rs.get z'
      refine ⟨⟨vs, v, hs, hv⟩, fun y H2 hy => ?_⟩
      obtain ⟨rfl, hy2⟩ := hy
      have := hy2 vs hs
      rw [hv] at this; cases this
      exact ⟨PK.refl _, R, rv⟩
    · have z' : ds[i]? = none := Option.some.inj z
      exact ⟨vs, hs, by rw [rs.length]; exact List.getElem?_eq_none_iff.mp z'⟩
theorem itOk_tup {K : Kw} {H : Hp} {μ : List Addr} {a : Addr} {ds : List D} {vs : List V} (h : SqT K H a vs) (r : RepAll K H μ vs ds) : ItOk K H μ (Itt K a) (.seq (.tup ds)) := fun H' μ' S bs p q R i => by
  have h' := p.seqT h
  have r' := r.mono p q
  rw [cur_some (d := .tup ds) (ds := ds) rfl]
  refine ⟨fun x z => ?_, fun z => ?_⟩
  · have z' : ds[i]? = some x := Option.some.inj z
    obtain ⟨v, hv, rv⟩ := r'.get z'
    refine ⟨⟨vs, v, h', hv⟩, fun y H2 hy => ?_⟩
    obtain ⟨rfl, hy2⟩ := hy
    have := hy2 vs h'
    rw [hv] at this; cases this
    exact ⟨PK.refl _, R, rv⟩
  · have z' : ds[i]? = none := Option.some.inj z
    exact ⟨vs, h', by rw [r'.length]; exact List.getElem?_eq_none_iff.mp z'⟩
theorem itOk_rng {K : Kw} {H : Hp} {μ : List Addr} {lo : Int} {n : Nat} : ItOk K H μ (Itr lo n) (.rng lo n) := fun H' μ' S bs p q R i => by
  show (∀ d, (if Nat.blt i n = true then some (some (D.int (lo + (i : Nat)))) else some none) = some (some d) → _) ∧ ((if Nat.blt i n = true then some (some (D.int (lo + (i : Nat)))) else some none) = some none → _)
  by_cases hi : Nat.blt i n = true
  · rw [if_pos hi]
    refine ⟨fun d e => ?_, fun e => nomatch e⟩
    cases e
    refine ⟨Nat.blt_eq.mp hi, fun x H2 hy => ?_⟩
    obtain ⟨rfl, rfl⟩ := hy
    exact ⟨PK.refl _, R, .int _⟩
  · rw [if_neg hi]
    refine ⟨fun d e => (nomatch e), fun _ => ?_⟩
    have : ¬ i < n := fun z => hi (Nat.blt_eq.mpr z)
    show n ≤ i
    omega
/-- [e], walked -/
theorem di_seq {tg l : Expr} (hl : PE X l (tE X.kw W fa)) : PI X tg l (tI X.kw W fun n ρ S => srcF .seq (consF fa (fun _ _ S => .ok [] S) n ρ S)) := by
  refine pi_imp (pi_seq hl) fun σ H Rr ⟨μ, S, bs, ρ, R, E, q⟩ => ?_
  have q' : End X.kw W bs H μ σ.length (RI X.kw) Rr ((fa (base bs) ρ S).bind fun d S1 => if (itemsOf d S1).isSome = true then .ok (Src.seq d) S1 else .bad) := by
    have z : End X.kw W bs H μ σ.length (RI X.kw) Rr (srcF .seq (consF fa (fun _ _ S => .ok [] S) (base bs) ρ S)) := q
    unfold srcF at z
    rw [bind_bind] at z
    have e : (fun d S1 => ((Out.ok ([] : List D) S1).bind fun ds S2 => Out.ok (d :: ds) S2).bind fun ds S1 => (match srcOf .seq ds S1 with
        | some src => Out.ok src S1
        | none => Out.bad)) = fun d S1 => if (itemsOf d S1).isSome = true then Out.ok (Src.seq d) S1 else Out.bad := by
      funext d S1
      show (match (if (itemsOf d S1).isSome = true then some (Src.seq d) else none) with
        | some src => Out.ok src S1
        | none => Out.bad) = _
      split <;> rename_i h <;> split at h <;> first | cases h | skip
      · rw [if_pos (by assumption)]
      · rw [if_neg (by assumption)]
    exact e ▸ z
  refine step1 (f := fa) (k := fun n d S1 => if (itemsOf d S1).isSome = true then .ok (Src.seq d) S1 else .bad) R E q' fun x H1 d S1 μ1 p l R1 E1 rx q1 => ?_
  split at q1
  · rename_i hi
    have fin : ∀ J, ItOk X.kw H1 μ1 J (.seq d) → Rr J H1 := fun J hJ => q1.ok R1 hJ
    cases rx with
    | tup h1 h2 => exact ⟨_, rfl, .inr ⟨⟨_, h1⟩, fin _ (itOk_tup h1 h2)⟩⟩
    | arr h1 h2 => exact ⟨_, rfl, .inl ⟨⟨_, h1.seq⟩, fin _ (itOk_list (.arr h1 h2) fun _ z => nomatch z)⟩⟩
    | @loc n a m =>
      obtain ⟨ds, eds⟩ := Option.isSome_iff_exists.mp hi
      obtain ⟨a', vs, ea, rs, hs⟩ := lst_rep R1 (.loc m) ((items_lst (d := D.loc n) (fun _ z => nomatch z)).symm.trans eds)
      cases ea
      exact ⟨_, rfl, .inl ⟨⟨_, hs⟩, fin _ (itOk_list (.loc m) fun _ z => nomatch z)⟩⟩
    | _ => cases hi
  · exact q1.elim
theorem di_rng1 {tg l : Expr} {p : Pos} (hg : Gl X "range") (hm : X.mg "range" = none) (hl : PA X [l] (tA X.kw W ga)) (hs : starEach [l] X.env = [(false, eval l X.env)]) (hga : ∀ n ρ S ds S', ga n ρ S = .ok ds S' → ∃ d, ds = [d]) :
    PI X tg (.Call (.Name "range" p) [l] [] pos) (tI X.kw W fun n ρ S => srcF .rng (ga n ρ S)) := by
  refine pi_imp (pi_range1 hg hm hl hs) fun σ H Rr ⟨μ, S, bs, ρ, R, E, q⟩ => ?_
  have hone : ∀ ds S', ga (base bs) ρ S = .ok ds S' → ∃ d, ds = [d] := fun ds S' e => hga _ _ _ _ _ e
  refine ⟨μ, S, bs, ρ, R, E, ?_⟩
  have z : End X.kw W bs H μ σ.length (RI X.kw) Rr (srcF .rng (ga (base bs) ρ S)) := q
  cases eg : ga (base bs) ρ S with
  | bad => rw [eg] at z; exact z.elim
  | exc x S' => rw [eg] at z; exact z
  | ok ds S1 =>
    obtain ⟨d, rfl⟩ := hone ds S1 eg
    rw [eg] at z
    have z2 : End X.kw W bs H μ σ.length (RI X.kw) Rr (match srcOf .rng [d] S1 with
      | some src => .ok src S1
      | none => .bad) := z
    refine fun vs H' μ' p l R' rs => ?_
    cases rs with
    | cons r1 r2 =>
      cases r2
      cases r1 with
      | int j =>
        have z3 : End X.kw W bs H μ σ.length (RI X.kw) Rr (match (if within 4611686018427387904 j = true then some (Src.rng 0 j.toNat) else none) with
          | some src => .ok src S1
          | none => .bad) := z2
        by_cases hw : within 4611686018427387904 j = true
        · rw [if_pos hw] at z3
          have w := within_ok hw
          exact ⟨j, rfl, by omega, by omega, (z3.later p l).ok R' itOk_rng⟩
        · rw [if_neg hw] at z3; exact z3.elim
      | _ => exact z2.elim
theorem di_rng2 {tg l l2 : Expr} {p : Pos} (hg : Gl X "range") (hm : X.mg "range" = none) (hl : PA X [l, l2] (tA X.kw W ga)) (hs : starEach [l, l2] X.env = [(false, eval l X.env), (false, eval l2 X.env)]) (hs2 : starEach [l2] X.env = [(false, eval l2 X.env)]) (hga : ∀ n ρ S ds S', ga n ρ S = .ok ds S' → ∃ d d2, ds = [d, d2]) :
    PI X tg (.Call (.Name "range" p) [l, l2] [] pos) (tI X.kw W fun n ρ S => srcF .rng (ga n ρ S)) := by
  refine pi_imp (pi_range2 hg hm hl hs hs2) fun σ H Rr ⟨μ, S, bs, ρ, R, E, q⟩ => ?_
  refine ⟨μ, S, bs, ρ, R, E, ?_⟩
  have z : End X.kw W bs H μ σ.length (RI X.kw) Rr (srcF .rng (ga (base bs) ρ S)) := q
  cases eg : ga (base bs) ρ S with
  | bad => rw [eg] at z; exact z.elim
  | exc x S' => rw [eg] at z; exact z
  | ok ds S1 =>
    obtain ⟨d, d2, rfl⟩ := hga _ _ _ _ _ eg
    rw [eg] at z
    have z2 : End X.kw W bs H μ σ.length (RI X.kw) Rr (match srcOf .rng [d, d2] S1 with
      | some src => .ok src S1
      | none => .bad) := z
    refine fun vs H' μ' p l R' rs => ?_
    cases rs with
    | cons r1 r2 =>
      cases r2 with
      | cons r3 r4 =>
        cases r4
        cases r1 with
        | int i =>
          cases r3 with
          | int j =>
            have z3 : End X.kw W bs H μ σ.length (RI X.kw) Rr (match (if (within 4611686018427387904 i && within 4611686018427387904 j) = true then some (Src.rng i (j - i).toNat) else none) with
              | some src => .ok src S1
              | none => .bad) := z2
            by_cases hw : (within 4611686018427387904 i && within 4611686018427387904 j) = true
            · rw [if_pos hw] at z3
              rw [Bool.and_eq_true] at hw
              have w1 := within_ok hw.1
              have w2 := within_ok hw.2
              exact ⟨i, j, rfl, ⟨by omega, by omega, by omega, by omega⟩, (z3.later p l).ok R' itOk_rng⟩
            · rw [if_neg hw] at z3; exact z3.elim
          | _ => exact z2.elim
        | _ => exact z2.elim
end
end Dq
set_option Elab.async false
set_option linter.all false
set_option maxRecDepth 100000
set_option maxHeartbeats 4000000
/-! Dp11: targets, comprehensions. -/
namespace Dq
open PySem PySem.Spec PyProof.Rows
open L2 hiding St

mutual
def slots : Tg → List Nat
  | .name i => [i]
  | .tup ts => slotsL ts
def slotsL : List Tg → List Nat
  | [] => []
  | t :: ts => slots t ++ slotsL ts
end
theorem set_wipe {σ : L2.St} {i : Nat} {x : Option V} : ∀ {vs : List Nat}, i ∈ vs → wipe (σ.set i x) vs = wipe σ vs
  | [], h => nomatch h
  | v :: vs, h => by
    unfold wipe
    by_cases e : v = i
    · subst e
      by_cases hv : v ∈ vs
      · rw [set_wipe hv]
      · have : wipe (σ.set v x) vs = (wipe σ vs).set v x := wipe_set hv
        rw [this, List.set_set]
    · have hv : i ∈ vs := by
        rcases List.mem_cons.mp h with z | z
        · exact absurd z.symm e
        · exact z
      rw [set_wipe hv]
where
  wipe_set {σ : L2.St} {i : Nat} {x : Option V} : ∀ {vs : List Nat}, i ∉ vs → wipe (σ.set i x) vs = (wipe σ vs).set i x
    | [], _ => rfl
    | v :: vs, h => by
      unfold wipe
      have h1 : i ≠ v := fun e => h (by rw [e]; exact List.mem_cons_self)
      rw [wipe_set fun z => h (List.mem_cons_of_mem _ z), List.set_comm _ _ h1]
theorem wipe_wipe {σ : L2.St} : ∀ (us vs : List Nat), (∀ i ∈ us, i ∈ vs) → wipe (wipe σ us) vs = wipe σ vs
  | [], vs, _ => rfl
  | u :: us, vs, h => by
    show wipe ((wipe σ us).set u none) vs = wipe σ vs
    rw [set_wipe (h u List.mem_cons_self), wipe_wipe us vs fun i hi => h i (List.mem_cons_of_mem _ hi)]
theorem RepE.wipe {K : Kw} {H : Hp} {μ : List Addr} {σ : L2.St} {ρ : Env'} (r : RepE K H μ σ ρ) : ∀ vs : List Nat, RepE K H μ (L2.wipe σ vs) (wipeD ρ vs)
  | [] => r
  | v :: vs => by
    have h := RepE.wipe r vs
    refine ⟨by simp [L2.wipe, wipeD, h.1], fun i d e => ?_⟩
    unfold wipeD at e
    unfold L2.wipe
    by_cases hi : v = i
    · subst hi
      by_cases hl : v < (wipeD ρ vs).length
      · rw [List.getElem?_set_self hl] at e; cases e
      · rw [List.getElem?_eq_none (by simpa using hl)] at e; cases e
    · rw [List.getElem?_set_ne hi] at e ⊢
      exact h.2 i d e

/-- what an assignment to names does -/
def tG (K : Kw) (t : Tg) : TG := fun v σ H Q => ∃ μ S bs ρ d ρ', RepS K H μ S bs ∧ RepE K H μ σ ρ ∧ Rep K H μ v d ∧ asgT t d ρ S = some ρ' ∧
  ∀ σ', RepE K H μ σ' ρ' → (∀ vs : List Nat, (∀ i ∈ slots t, i ∈ vs) → wipe σ' vs = wipe σ vs) → Q σ' H
def tGs (K : Kw) (ts : List Tg) : TGs := fun us σ H Q => ∃ μ S bs ρ ds ρ', RepS K H μ S bs ∧ RepE K H μ σ ρ ∧ RepAll K H μ us ds ∧ asgTs ts ds ρ S = some ρ' ∧
  ∀ σ', RepE K H μ σ' ρ' → (∀ vs : List Nat, (∀ i ∈ slotsL ts, i ∈ vs) → wipe σ' vs = wipe σ vs) → Q σ' H
section
variable {X : Cx} {W : WX} {a b c e : Expr} {fa fb fc : SemE} {pos : Pos} {es : List Expr} {ga : SemA}
theorem pg_imp {tg : Expr} {t t' : TG} (h : PG X tg t) (i : ∀ v σ H Q, t' v σ H Q → t v σ H Q) : PG X tg t' := ⟨fun pins s σ H v u Q I r q => h.run pins s σ H v u Q I r (i v σ H Q q)⟩
theorem pgs_imp {ts : List Expr} {t t' : TGs} (h : PGs X ts t) (i : ∀ v σ H Q, t' v σ H Q → t v σ H Q) : PGs X ts t' := ⟨fun pins s σ H v u Q I r q => h.run pins s σ H v u Q I r (i v σ H Q q)⟩
theorem dg_name {i : Nat} {x : Str} (hN : X.N.Nodup) (hi : X.N[i]? = some x) (hx : Loc X.env.scope x) (hf : X.fn x = true ∨ X.env.scope.names.lookup x = some .local) : PG X (.Name x pos) (tG X.kw (.name i)) := by
  refine pg_imp (pg_name hN hi hx hf) fun v σ H Q ⟨μ, S, bs, ρ, d, ρ', R, E, r, e, q⟩ => ?_
  cases e
  exact q _ (E.set r i) fun vs h => set_wipe (h i (by simp [slots]))
theorem dgs_nil : PGs X [] (tGs X.kw []) := by
  refine pgs_imp pgs_nil fun us σ H Q ⟨μ, S, bs, ρ, ds, ρ', R, E, r, e, q⟩ => ?_
  cases r with
  | nil => cases e; exact ⟨rfl, q _ E fun _ _ => rfl⟩
  | cons _ _ => cases e
theorem dgs_cons {t : Tg} {ts : List Tg} (h1 : PG X e (tG X.kw t)) (h2 : PGs X es (tGs X.kw ts)) (hs : (assignEach (e :: es) X.env).map (·.2) = assign e X.env :: (assignEach es X.env).map (·.2)) : PGs X (e :: es) (tGs X.kw (t :: ts)) := by
  refine pgs_imp (pgs_cons h1 h2 hs) fun us σ H Q ⟨μ, S, bs, ρ, ds, ρ', R, E, r, e, q⟩ => ?_
  cases r with
  | nil => cases e
  | cons r1 r2 =>
    unfold asgTs at e
    split at e
    · rename_i ρ1 e1
      refine ⟨_, _, rfl, μ, S, bs, ρ, _, ρ1, R, E, r1, e1, fun σ1 E1 w1 => ?_⟩
      exact ⟨μ, S, bs, ρ1, _, ρ', R, E1, r2, e, fun σ' E' w' => q σ' E' fun vs h => (w' vs fun i hi => h i (by unfold slotsL; exact List.mem_append_right _ hi)).trans (w1 vs fun i hi => h i (by unfold slotsL; exact List.mem_append_left _ hi))⟩
    · cases e
/-- a, b, .. = a tuple or a list of that length -/
theorem pg_seq {k : Nat} {t : TGs} {n : Nat} (hc : X.calm = true) (h : PGs X es t) (hn : (assignEach es X.env).length = n) (hst : (assignEach es X.env).findIdx? (·.1) = none) : PG X (.Tuple es k pos) (fun v σ H Q => gTup X.kw n t v σ H Q ∨ gLst X.kw n t v σ H Q) :=
  ⟨fun pins s σ H v u Q I r q => q.elim ((pg_tup hc h hn hst).run pins s σ H v u Q I r) ((pg_lst hc h hn hst).run pins s σ H v u Q I r)⟩
theorem asgTs_len {S : Sto} : ∀ {ts : List Tg} {ds : List D} {ρ ρ' : Env'}, asgTs ts ds ρ S = some ρ' → ts.length = ds.length
  | [], [], _, _, _ => rfl
  | [], _ :: _, _, _, e => by cases e
  | _ :: _, [], _, _, e => by cases e
  | t :: ts, d :: ds, ρ, ρ', e => by
    unfold asgTs at e
    split at e
    · have := asgTs_len e; simp [this]
    · cases e
theorem dg_tup {k : Nat} {ts : List Tg} (hc : X.calm = true) (h : PGs X es (tGs X.kw ts)) (hn : (assignEach es X.env).length = ts.length) (hst : (assignEach es X.env).findIdx? (·.1) = none) : PG X (.Tuple es k pos) (tG X.kw (.tup ts)) := by
  refine pg_imp (pg_seq hc h hn hst) fun v σ H Q ⟨μ, S, bs, ρ, d, ρ', R, E, r, e, q⟩ => ?_
  unfold asgT at e
  split at e
  · rename_i ds ei
    obtain ⟨a, vs, rfl, rs, hq⟩ := items_rep R r ei
    have hl : vs.length = ts.length := by rw [rs.length, asgTs_len e]
    have fin : tGs X.kw ts vs σ H Q := ⟨μ, S, bs, ρ, ds, ρ', R, E, rs, e, fun σ' E' w => q σ' E' w⟩
    rcases hq with hq | hq
    · exact .inr ⟨a, vs, rfl, hq, hl, fin⟩
    · exact .inl ⟨a, vs, rfl, hq, hl, fin⟩
  · cases e

/-! ### comprehensions -/
abbrev SemI := Nat → Env' → Sto → Out Src
abbrev SemB := Nat → Env' → Sto → Out Bool
abbrev lcTurn (n : Nat) (ρ : Env') (vs : List Nat) (t : Tg) (ff : SemB) (fe : SemE) : D → Sto → Out (Option D) := fun x S3 => (match asgT t x (wipeD ρ vs) S3 with
      | some ρ2 => (ff n ρ2 S3).bind fun k S5 => if k = true then (fe n ρ2 S5).bind fun y S6 => .ok (some y) S6 else .ok none S5
      | none => .bad)
abbrev lcF (fi : SemI) (vs : List Nat) (t : Tg) (ff : SemB) (fe : SemE) : SemE := fun n ρ S => (fi n ρ S).bind fun src S1 => lcLoop src S1.length (lcTurn n ρ vs t ff fe) (cnt src (S1 ++ [.lst []])) 0 (S1 ++ [.lst []])
abbrev WF : WX := fun _ _ _ _ => False
theorem de_lc {elt tg iter : Expr} {ifs : List Expr} {scope : Scope} {own : List (Str × Nat)} {fi : SemI} {t : Tg} {ff : SemB} {fe : SemE} (hc : X.calm = true) (hN : X.N.Nodup) (hi : PI X tg iter (tI X.kw W fi)) (ok : BlkOk X.N X.env.scope scope own)
    (hsl : ∀ i ∈ slots t, i ∈ own.map (·.2))
    (hg : ∀ (s : Shared) (H : Hp) (C : Addr) (cl : List (Str × Addr)) (fp : List Addr), PG (X.blk s H scope (compEnvC scope cl C X.env) fp) tg (tG X.kw t))
    (ht : ∀ (s : Shared) (H : Hp) (C : Addr) (cl : List (Str × Addr)) (fp : List Addr), PTs (X.blk s H scope (compEnvC scope cl C X.env) fp) ifs (tT X.kw WF ff))
    (he : ∀ (s : Shared) (H : Hp) (C : Addr) (cl : List (Str × Addr)) (fp : List Addr), PE (X.blk s H scope (compEnvC scope cl C X.env) fp) elt (tE X.kw WF fe))
    (hs : ∀ x, foldedSetIterable iter X.env x = pure x) : PE X (.ListComp elt [⟨tg, iter, ifs, 0⟩] scope pos) (tE X.kw W (lcF fi (own.map (·.2)) t ff fe)) := by
  refine pe_imp (pe_lc hc hN hi ok hg ht he hs) fun σ H Q q0 => ?_
  exact lc_tr hsl q0
where
  lc_tr {K : Kw} {own : List (Str × Nat)} {fi : SemI} {t : Tg} {ff : SemB} {fe : SemE} (hsl : ∀ i ∈ slots t, i ∈ own.map (·.2)) {σ : L2.St} {H : Hp} {Q : VK} (q0 : tE K W (lcF fi (own.map (·.2)) t ff fe) σ H Q) :
      tLc (tI K W fi) (tG K t) (tT K WF ff) (tE K WF fe) (own.map (·.2)) σ H Q := by
    obtain ⟨μ, S, bs, ρ, R, E, q⟩ := q0
    refine ⟨μ, S, bs, ρ, R, E, (q.bind (Rm := RI K)).mono fun J H1 ⟨src, S1, μ1, p, l, R1, hJ, q1⟩ => ?_⟩
    intro D hD
    have E1 := E.mono p l
    let n := S1.length
    let turn := lcTurn (base bs) ρ (own.map (·.2)) t ff fe
    let W0 : Nat → Nat → Hp → Prop := fun i m H' => ∃ μ' S', PK H1 H' ∧ Le (μ1 ++ [D]) μ' ∧ RepS K H' μ' S' bs ∧ End K W bs H' μ' σ.length (RV K) Q (lcLoop src n turn m i S')
    have pk : PK H1 (upd H1 D (.lst [])) := PK.new hD
    refine ⟨W0, ⟨cnt src (S1 ++ [.lst []]), μ1 ++ [D], S1 ++ [.lst []], pk, Le.refl _, R1.push (c := .lst []) hD ⟨[], upd_same, .nil⟩, q1.later pk (Le.app μ1 [D])⟩, fun i m H' hW => ?_⟩
    obtain ⟨μ', S', pk', l', R', e'⟩ := hW
    have hn : μ'[n]? = some D := l' _ _ (by show (μ1 ++ [D])[S1.length]? = _; rw [← R1.len]; simp)
    have it := hJ H' μ' S' bs pk' ((Le.app μ1 [D]).trans l') R' i
    have stop : cur src S' i = some none → End K W bs H' μ' σ.length (RV K) Q (.ok (.loc n) S') → J.stop i H' ∧ Q (.ref D) H' := fun h1 h2 => ⟨it.2 h1, h2.ok R' (.loc hn)⟩
    cases m with
    | zero =>
      unfold lcLoop at e'
      split at e'
      · rename_i h1
        exact .inl (stop h1 e')
      · exact e'.elim
    | succ f =>
      unfold lcLoop at e'
      split at e'
      · rename_i h1
        exact .inl (stop h1 e')
      · rename_i x h1
        obtain ⟨hgo, hy⟩ := it.1 x h1
        refine .inr ⟨hgo, fun H'' => W0 (i + 1) f H'', fun H'' h => ⟨f, Nat.lt_succ_self f, h⟩, fun xv H2 hyl => ?_⟩
        obtain ⟨pk2, R2, rx⟩ := hy xv H2 hyl
        -- the target
        cases ea : asgT t x (wipeD ρ (own.map (·.2))) S' with
        | none =>
          have et : turn x S' = .bad := by show lcTurn _ _ _ _ _ _ x S' = _; unfold lcTurn; rw [ea]
          rw [et] at e'
          exact e'.elim
        | some ρ2 =>
          have et : turn x S' = (ff (base bs) ρ2 S').bind fun k S5 => if k = true then (fe (base bs) ρ2 S5).bind fun y S6 => .ok (some y) S6 else .ok none S5 := by show lcTurn _ _ _ _ _ _ x S' = _; unfold lcTurn; rw [ea]
          rw [et] at e'
          have E2 : RepE K H2 μ' (wipe σ (own.map (·.2))) (wipeD ρ (own.map (·.2))) := ((E1.mono (pk'.trans pk2) ((Le.app μ1 [D]).trans l')).wipe _)
          refine ⟨μ', S', bs, wipeD ρ (own.map (·.2)), x, ρ2, R2, E2, rx, ea, fun σ2 E3 hw => ⟨?_, ?_⟩⟩
          · rw [hw _ hsl, wipe_wipe _ _ fun _ h => h]
          · -- the tests
            refine ⟨μ', S', bs, ρ2, R2, E3, ?_⟩
            cases ef : ff (base bs) ρ2 S' with
            | bad => rw [ef] at e'; exact e'.elim
            | exc z S5 => rw [ef] at e'; exact e'.elim
            | ok k S5 =>
              rw [ef] at e'
              intro k' H3 μ3 p3 l3 R3 ek
              obtain rfl : k' = k := ek
              cases k' with
              | false =>
                rw [if_neg (by decide)]
                exact ⟨μ3, S5, (pk'.trans pk2).trans p3, l'.trans l3, R3, End.later e' (pk2.trans p3) l3⟩
              | true =>
                rw [if_pos rfl]
                refine ⟨μ3, S5, bs, ρ2, R3, E3.mono p3 l3, ?_⟩
                cases eg : fe (base bs) ρ2 S5 with
                | bad => simp only [Out.bind, eg, if_true] at e'; exact e'.elim
                | exc z S6 => simp only [Out.bind, eg, if_true] at e'; exact e'.elim
                | ok y S6 =>
                  simp only [Out.bind, eg, if_true] at e'
                  intro yv H4 μ4 p4 l4 R4 ry
                  split at e'
                  · rename_i acc eacc
                    split at e'
                    · rename_i hlt
                      have hn4 : μ4[n]? = some D := l4 _ _ (l3 _ _ hn)
                      obtain ⟨vs, c1, c2⟩ := R4.cell hn4 eacc
                      have hb : base bs ≤ n := R1.base_le
                      refine ⟨vs, c1, by rw [c2.length, lim_eq]; exact Nat.blt_eq.mp hlt, ?_⟩
                      have pkw : PK H4 (upd H4 D (.lst (vs ++ [yv]))) := PK.write c1 (fun xs z => nomatch z) (fun _ _ z => nomatch z)
                      have R5 := R4.setLst (ws := vs ++ [yv]) (es := acc ++ [y]) hn4 eacc c1 fun μ5 H5 p5 h5 r5 => by
                        rw [h5 hb] at r5 ⊢
                        exact (r5.append (.cons ry .nil)).mono p5 (Le.refl _)
                      exact ⟨μ4, _, (((pk'.trans pk2).trans p3).trans p4).trans pkw, (l'.trans l3).trans l4, R5, End.later e' (((pk2.trans p3).trans p4).trans pkw) (l3.trans l4)⟩
                    · exact e'.elim
                  · exact e'.elim
      · exact e'.elim
end
end Dq
set_option Elab.async false
set_option linter.all false
set_option maxRecDepth 100000
set_option maxHeartbeats 4000000
/-! Dp12: statements. -/
namespace Dq
open PySem PySem.Spec PyProof.Rows
open L2 hiding St

def EndS (K : Kw) (W : WX) (bs : Bd) (H : Hp) (μ : List Addr) (D : Ends) : Out Fl → Prop
  | .ok (.next ρ') S' => ∀ σ' H' μ', PK H H' → Le μ μ' → RepS K H' μ' S' bs → RepE K H' μ' σ' ρ' → D.nx σ' H'
  | .ok (.brk ρ') S' => ∀ σ' H' μ', PK H H' → Le μ μ' → RepS K H' μ' S' bs → RepE K H' μ' σ' ρ' → D.bk σ' H'
  | .ok (.cont ρ') S' => ∀ σ' H' μ', PK H H' → Le μ μ' → RepS K H' μ' S' bs → RepE K H' μ' σ' ρ' → D.ct σ' H'
  | .ok (.ret d) S' => ∀ v H' μ', PK H H' → Le μ μ' → RepS K H' μ' S' bs → Rep K H' μ' v d → D.rt v H'
  | .exc x S' => ∀ (σ' : L2.St) H' μ', PK H H' → Le μ μ' → RepS K H' μ' S' bs → W (.ref (He.ga K x.cls)) none σ' H'
  | .bad => False
def EndE (K : Kw) (W : WX) (bs : Bd) (H : Hp) (μ : List Addr) (Q : L2.St → Hp → Prop) : Out Env' → Prop
  | .ok ρ' S' => ∀ σ' H' μ', PK H H' → Le μ μ' → RepS K H' μ' S' bs → RepE K H' μ' σ' ρ' → Q σ' H'
  | .exc x S' => ∀ (σ' : L2.St) H' μ', PK H H' → Le μ μ' → RepS K H' μ' S' bs → W (.ref (He.ga K x.cls)) none σ' H'
  | .bad => False
section
variable {K : Kw} {W : WX} {bs : Bd} {H H1 : Hp} {μ μ1 : List Addr} {D : Ends}
theorem EndS.later {o : Out Fl} (h : EndS K W bs H μ D o) (p : PK H H1) (q : Le μ μ1) : EndS K W bs H1 μ1 D o := by
  cases o with
  | ok f S =>
    cases f with
    | next ρ => exact fun σ' H' μ' p' q' => h σ' H' μ' (p.trans p') (q.trans q')
    | brk ρ => exact fun σ' H' μ' p' q' => h σ' H' μ' (p.trans p') (q.trans q')
    | cont ρ => exact fun σ' H' μ' p' q' => h σ' H' μ' (p.trans p') (q.trans q')
    | ret d => exact fun v H' μ' p' q' => h v H' μ' (p.trans p') (q.trans q')
  | exc x S => exact fun σ' H' μ' p' q' => h σ' H' μ' (p.trans p') (q.trans q')
  | bad => exact h
theorem EndE.later {Q : L2.St → Hp → Prop} {o : Out Env'} (h : EndE K W bs H μ Q o) (p : PK H H1) (q : Le μ μ1) : EndE K W bs H1 μ1 Q o := by
  cases o with
  | ok f S => exact fun σ' H' μ' p' q' => h σ' H' μ' (p.trans p') (q.trans q')
  | exc x S => exact fun σ' H' μ' p' q' => h σ' H' μ' (p.trans p') (q.trans q')
  | bad => exact h
theorem EndS.bind {α β : Type} {n : Nat} {Rm : Hp → List Addr → β → α → Prop} {o : Out α} {f : α → Sto → Out Fl} (h : EndS K W bs H μ D (o.bind f)) :
    End K W bs H μ n Rm (fun y H1 => ∃ a S1 μ1, PK H H1 ∧ Le μ μ1 ∧ RepS K H1 μ1 S1 bs ∧ Rm H1 μ1 y a ∧ EndS K W bs H1 μ1 D (f a S1)) o := by
  cases o with
  | ok a S => exact fun y H' μ' p q R r => ⟨a, S, μ', p, q, R, r, EndS.later h p q⟩
  | exc x S => exact h
  | bad => exact h
theorem EndE.bind {α β : Type} {n : Nat} {Rm : Hp → List Addr → β → α → Prop} {Q : L2.St → Hp → Prop} {o : Out α} {f : α → Sto → Out Env'} (h : EndE K W bs H μ Q (o.bind f)) :
    End K W bs H μ n Rm (fun y H1 => ∃ a S1 μ1, PK H H1 ∧ Le μ μ1 ∧ RepS K H1 μ1 S1 bs ∧ Rm H1 μ1 y a ∧ EndE K W bs H1 μ1 Q (f a S1)) o := by
  cases o with
  | ok a S => exact fun y H' μ' p q R r => ⟨a, S, μ', p, q, R, r, EndE.later h p q⟩
  | exc x S => exact h
  | bad => exact h
theorem EndE.bindE {Q : L2.St → Hp → Prop} {o : Out Env'} {f : Env' → Sto → Out Env'} (h : EndE K W bs H μ Q (o.bind f)) :
    EndE K W bs H μ (fun σ' H1 => ∃ ρ' S1 μ1, PK H H1 ∧ Le μ μ1 ∧ RepS K H1 μ1 S1 bs ∧ RepE K H1 μ1 σ' ρ' ∧ EndE K W bs H1 μ1 Q (f ρ' S1)) o := by
  cases o with
  | ok a S => exact fun y H' μ' p q R r => ⟨a, S, μ', p, q, R, r, EndE.later h p q⟩
  | exc x S => exact h
  | bad => exact h
theorem EndS.bindE {o : Out Env'} {f : Env' → Sto → Out Fl} (h : EndS K W bs H μ D (o.bind f)) :
    EndE K W bs H μ (fun σ' H1 => ∃ ρ' S1 μ1, PK H H1 ∧ Le μ μ1 ∧ RepS K H1 μ1 S1 bs ∧ RepE K H1 μ1 σ' ρ' ∧ EndS K W bs H1 μ1 D (f ρ' S1)) o := by
  cases o with
  | ok a S => exact fun y H' μ' p q R r => ⟨a, S, μ', p, q, R, r, EndS.later h p q⟩
  | exc x S => exact h
  | bad => exact h
theorem EndE.mono {Q Q' : L2.St → Hp → Prop} {o : Out Env'} (h : EndE K W bs H μ Q o) (i : ∀ σ H, Q σ H → Q' σ H) : EndE K W bs H μ Q' o := by
  cases o with
  | ok f S => exact fun σ' H' μ' p' q' R r => i _ _ (h σ' H' μ' p' q' R r)
  | exc x S => exact h
  | bad => exact h
theorem EndE.ok {Q : L2.St → Hp → Prop} {ρ : Env'} {S : Sto} (h : EndE K W bs H μ Q (.ok ρ S)) (R : RepS K H μ S bs) {σ : L2.St} (r : RepE K H μ σ ρ) : Q σ H := h σ H μ (PK.refl H) (Le.refl μ) R r
theorem EndS.nx {ρ : Env'} {S : Sto} (h : EndS K W bs H μ D (.ok (.next ρ) S)) (R : RepS K H μ S bs) {σ : L2.St} (r : RepE K H μ σ ρ) : D.nx σ H := h σ H μ (PK.refl H) (Le.refl μ) R r
end
abbrev SemS := Nat → Env' → Sto → Out Fl
def tS (K : Kw) (W : WX) (f : SemS) : TS := fun D σ H => ∃ μ S bs ρ, RepS K H μ S bs ∧ RepE K H μ σ ρ ∧ EndS K W bs H μ D (f (base bs) ρ S)
section
variable {X : Cx} {W : WX} {a b c e : Expr} {fa fb fc : SemE} {pos : Pos} {es : List Expr} {ga : SemA} {st : Stmt} {rest : List Stmt} {fs fr : SemS}
theorem ps_imp {t t' : TS} (h : PS X st t) (i : ∀ D σ H, t' D σ H → t D σ H) : PS X st t' := ⟨fun pins s σ H D I q => h.run pins s σ H D I (i D σ H q)⟩
theorem pss_imp {t t' : TS} (h : PSs X rest t) (i : ∀ D σ H, t' D σ H → t D σ H) : PSs X rest t' := ⟨fun pins s σ H D I q => h.run pins s σ H D I (i D σ H q)⟩
theorem stepE {K : Kw} {f : SemE} {k : Nat → D → Sto → Out Fl} {D : Ends} {σ : L2.St} {H : Hp} {Q' : V → Hp → Prop} {μ : List Addr} {S : Sto} {bs : Bd} {ρ : Env'} (R : RepS K H μ S bs) (E : RepE K H μ σ ρ) (h : EndS K W bs H μ D ((f (base bs) ρ S).bind (k (base bs))))
    (i : ∀ x H1 d S1 μ1, PK H H1 → Le μ μ1 → RepS K H1 μ1 S1 bs → RepE K H1 μ1 σ ρ → Rep K H1 μ1 x d → EndS K W bs H1 μ1 D (k (base bs) d S1) → Q' x H1) : tE K W f σ H Q' :=
  ⟨μ, S, bs, ρ, R, E, (h.bind (Rm := RV K)).mono fun y H1 ⟨a, S1, μ1, p, q, R1, r, h1⟩ => i y H1 a S1 μ1 p q R1 (E.mono p q) r h1⟩
theorem stepB {K : Kw} {f : SemB} {k : Nat → Bool → Sto → Out Fl} {D : Ends} {σ : L2.St} {H : Hp} {Q' : Bool → Hp → Prop} {μ : List Addr} {S : Sto} {bs : Bd} {ρ : Env'} (R : RepS K H μ S bs) (E : RepE K H μ σ ρ) (h : EndS K W bs H μ D ((f (base bs) ρ S).bind (k (base bs))))
    (i : ∀ x H1 S1 μ1, PK H H1 → Le μ μ1 → RepS K H1 μ1 S1 bs → RepE K H1 μ1 σ ρ → EndS K W bs H1 μ1 D (k (base bs) x S1) → Q' x H1) : tT K W f σ H Q' :=
  ⟨μ, S, bs, ρ, R, E, (h.bind (Rm := RB)).mono fun y H1 ⟨a, S1, μ1, p, q, R1, r, h1⟩ => i y H1 S1 μ1 p q R1 (E.mono p q) (by rw [show y = a from r]; exact h1)⟩
/-! ### small statements -/
theorem dss_nil : PSs X [] (tS X.kw W fun _ ρ S => .ok (.next ρ) S) := pss_imp pss_nil fun D σ H ⟨μ, S, bs, ρ, R, E, q⟩ => EndS.nx q R E
abbrev seqF (fs fr : SemS) : SemS := fun n ρ S => (fs n ρ S).bind fun f S1 => (match f with
    | .next ρ' => fr n ρ' S1
    | f => .ok f S1)
theorem dss_cons (h1 : PS X st (tS X.kw W fs)) (h2 : PSs X rest (tS X.kw W fr)) : PSs X (st :: rest) (tS X.kw W (seqF fs fr)) := by
  refine pss_imp (pss_cons h1 h2) fun D σ H ⟨μ, S, bs, ρ, R, E, q⟩ => ⟨μ, S, bs, ρ, R, E, ?_⟩
  have q' : EndS X.kw W bs H μ D ((fs (base bs) ρ S).bind fun f S1 => (match f with
    | .next ρ' => fr (base bs) ρ' S1
    | f => .ok f S1)) := q
  cases ef : fs (base bs) ρ S with
  | bad => rw [ef] at q'; exact q'
  | exc x S' => rw [ef] at q'; exact q'
  | ok f S' =>
    rw [ef] at q'
    cases f with
    | next ρ' => exact fun σ' H' μ' p l R' E' => ⟨μ', S', bs, ρ', R', E', EndS.later q' p l⟩
    | brk ρ' => exact q'
    | cont ρ' => exact q'
    | ret d => exact q'
theorem ds_expr (he : PE X e (tE X.kw W fa)) (hs : swapsWith e none pos.line X.env = pure false) : PS X (.Expr e pos) (tS X.kw W fun n ρ S => (fa n ρ S).bind fun _ S1 => .ok (.next ρ) S1) :=
  ps_imp (ps_expr he hs) fun D σ H ⟨μ, S, bs, ρ, R, E, q⟩ => stepE (f := fa) (k := fun n _ S1 => .ok (Fl.next ρ) S1) R E q fun x H1 d S1 μ1 p l R1 E1 rx q1 => EndS.nx q1 R1 E1
theorem ds_ret (he : PE X e (tE X.kw W fa)) : PS X (.Return (some e) pos) (tS X.kw W fun n ρ S => (fa n ρ S).bind fun d S1 => .ok (.ret d) S1) :=
  ps_imp (ps_ret he) fun D σ H ⟨μ, S, bs, ρ, R, E, q⟩ => stepE (f := fa) (k := fun n d S1 => .ok (Fl.ret d) S1) R E q fun x H1 d S1 μ1 p l R1 E1 rx q1 => q1 x H1 μ1 (PK.refl _) (Le.refl _) R1 rx
theorem ds_retN : PS X (.Return none pos) (tS X.kw W fun n ρ S => .ok (.ret .non) S) := ps_imp ps_retN fun D σ H ⟨μ, S, bs, ρ, R, E, q⟩ => q .non H μ (PK.refl _) (Le.refl _) R .non
theorem ds_pass : PS X (.Pass pos) (tS X.kw W fun n ρ S => .ok (.next ρ) S) := ps_imp ps_pass fun D σ H ⟨μ, S, bs, ρ, R, E, q⟩ => EndS.nx q R E
theorem ds_brk : PS X (.Break pos) (tS X.kw W fun n ρ S => .ok (.brk ρ) S) := ps_imp ps_break fun D σ H ⟨μ, S, bs, ρ, R, E, q⟩ => q σ H μ (PK.refl _) (Le.refl _) R E
theorem ds_cont : PS X (.Continue pos) (tS X.kw W fun n ρ S => .ok (.cont ρ) S) := ps_imp ps_continue fun D σ H ⟨μ, S, bs, ρ, R, E, q⟩ => q σ H μ (PK.refl _) (Le.refl _) R E
abbrev ifF (fc : SemE) (fs fr : SemS) : SemS := fun n ρ S => (tst (fc n ρ S)).bind fun k S1 => if k = true then fs n ρ S1 else fr n ρ S1
theorem ds_if {p q : List Stmt} (hc : PT X c (tT X.kw W (SemT fc))) (ha : PSs X p (tS X.kw W fs)) (hb : PSs X q (tS X.kw W fr)) : PS X (.If c p q pos) (tS X.kw W (ifF fc fs fr)) := by
  refine ps_imp (ps_if hc ha hb) fun D σ H ⟨μ, S, bs, ρ, R, E, q⟩ => ?_
  refine stepB (f := SemT fc) (k := fun n k S1 => if k = true then fs n ρ S1 else fr n ρ S1) R E q fun x H1 S1 μ1 p l R1 E1 q1 => ?_
  cases x with
  | true => rw [if_pos rfl] at q1 ⊢; exact ⟨μ1, S1, bs, ρ, R1, E1, q1⟩
  | false => rw [if_neg (by decide)] at q1 ⊢; exact ⟨μ1, S1, bs, ρ, R1, E1, q1⟩

/-! ### assignments -/
abbrev SemG := D → Nat → Env' → Sto → Out Env'
def tGG (K : Kw) (W : WX) (f : SemG) : TG := fun v σ H Q => ∃ μ S bs ρ d, RepS K H μ S bs ∧ RepE K H μ σ ρ ∧ Rep K H μ v d ∧ EndE K W bs H μ Q (f d (base bs) ρ S)
def tGGs (K : Kw) (W : WX) (f : List D → Nat → Env' → Sto → Out Env') : TGs := fun us σ H Q => ∃ μ S bs ρ ds, RepS K H μ S bs ∧ RepE K H μ σ ρ ∧ RepAll K H μ us ds ∧ EndE K W bs H μ Q (f ds (base bs) ρ S)
theorem dgg_name {i : Nat} {x : Str} (hN : X.N.Nodup) (hi : X.N[i]? = some x) (hx : Loc X.env.scope x) (hf : X.fn x = true ∨ X.env.scope.names.lookup x = some .local) : PG X (.Name x pos) (tGG X.kw W fun d _ ρ S => .ok (ρ.set i (some d)) S) :=
  pg_imp (pg_name hN hi hx hf) fun v σ H Q ⟨μ, S, bs, ρ, d, R, E, r, q⟩ => q.ok R (E.set r i)
theorem dggs_nil {fg : List D → Nat → Env' → Sto → Out Env'} (h0 : ∀ n ρ S, fg [] n ρ S = .ok ρ S) (h1 : ∀ d ds n ρ S, fg (d :: ds) n ρ S = .bad) : PGs X [] (tGGs X.kw W fg) := by
  refine pgs_imp pgs_nil fun us σ H Q ⟨μ, S, bs, ρ, ds, R, E, r, q⟩ => ?_
  cases r with
  | nil => rw [h0] at q; exact ⟨rfl, q.ok R E⟩
  | cons _ _ => rw [h1] at q; exact q.elim
theorem dggs_cons {f : SemG} {fr fg : List D → Nat → Env' → Sto → Out Env'} (h0 : ∀ n ρ S, fg [] n ρ S = .bad) (h1 : ∀ d ds n ρ S, fg (d :: ds) n ρ S = (f d n ρ S).bind fun ρ' S' => fr ds n ρ' S')
    (ht : PG X e (tGG X.kw W f)) (hr : PGs X es (tGGs X.kw W fr)) (hs : (assignEach (e :: es) X.env).map (·.2) = assign e X.env :: (assignEach es X.env).map (·.2)) : PGs X (e :: es) (tGGs X.kw W fg) := by
  refine pgs_imp (pgs_cons ht hr hs) fun us σ H Q ⟨μ, S, bs, ρ, ds, R, E, r, q⟩ => ?_
  cases r with
  | nil => rw [h0] at q; exact q.elim
  | cons r1 r2 =>
    rw [h1] at q
    exact ⟨_, _, rfl, μ, S, bs, ρ, _, R, E, r1, q.bindE.mono fun σ1 H1 ⟨ρ1, S1, μ1, p, l, R1, E1, q1⟩ => ⟨μ1, S1, bs, ρ1, _, R1, E1, r2.mono p l, q1⟩⟩
theorem dgg_tup {k m : Nat} {fr : List D → Nat → Env' → Sto → Out Env'} (hc : X.calm = true) (h : PGs X es (tGGs X.kw W fr)) (hn : (assignEach es X.env).length = m) (hst : (assignEach es X.env).findIdx? (·.1) = none) (hlen : ∀ ds n ρ S, ds.length ≠ m → fr ds n ρ S = .bad) :
    PG X (.Tuple es k pos) (tGG X.kw W fun d n ρ S => match itemsOf d S with
      | some ds => fr ds n ρ S
      | none => .bad) := by
  refine pg_imp (pg_seq hc h hn hst) fun v σ H Q ⟨μ, S, bs, ρ, d, R, E, r, q⟩ => ?_
  dsimp only at q
  split at q
  · rename_i ds ei
    obtain ⟨a, vs, rfl, rs, hq⟩ := items_rep R r ei
    have fin : tGGs X.kw W fr vs σ H Q := ⟨μ, S, bs, ρ, ds, R, E, rs, q⟩
    by_cases hl : ds.length = m
    · have hl' : vs.length = m := by rw [rs.length, hl]
      rcases hq with hq | hq
      · exact .inr ⟨a, vs, rfl, hq, hl', fin⟩
      · exact .inl ⟨a, vs, rfl, hq, hl', fin⟩
    · rw [hlen ds _ _ _ hl] at q; exact q.elim
  · exact q.elim
abbrev subF (fa fb : SemE) : SemG := fun d n ρ S => (fa n ρ S).bind fun x S1 => (fb n ρ S1).bind fun y S2 => (match sub3 x y d n S2 with
    | some S3 => .ok ρ S3
    | none => .bad)
theorem dgg_sub {o i : Expr} (hu : X.A.units + 65 < cLine) (ho : PE X o (tE X.kw W fa)) (hi : PE X i (tE X.kw W fb)) (ha : ∀ v, assign (.Subscript o i pos) X.env v = (do
      let ov ← holding [v] (eval o X.env)
      let iv ← holding [v, ov] (eval i X.env)
      standAt pos
      holding [v, ov, iv] (setItem ov iv v)
      release [v, ov, iv] [])) : PG X (.Subscript o i pos) (tGG X.kw W (subF fa fb)) := by
  refine pg_imp (pg_sub ho hi (set_or set_D (dset_D hu)) ha) fun v σ H Q ⟨μ, S, bs, ρ, d, R, E, r, q⟩ => ?_
  refine ⟨μ, S, bs, ρ, R, E, (EndE.bind (Rm := RV X.kw) (n := σ.length) (o := fa (base bs) ρ S) (f := fun x S1 => (fb (base bs) ρ S1).bind fun y S2 => (match sub3 x y d (base bs) S2 with
    | some S3 => .ok ρ S3
    | none => .bad)) q).mono fun x H1 ⟨dx, S1, μ1, p1, l1, R1, r1, q1⟩ => ?_⟩
  refine ⟨μ1, S1, bs, ρ, R1, E.mono p1 l1, (EndE.bind (Rm := RV X.kw) (n := σ.length) (o := fb (base bs) ρ S1) (f := fun y S2 => (match sub3 dx y d (base bs) S2 with
    | some S3 => .ok ρ S3
    | none => .bad)) q1).mono fun y H2 ⟨dy, S2, μ2, p2, l2, R2, r2, q2⟩ => ?_⟩
  have rx := r1.mono p2 l2
  have rv := (r.mono p1 l1).mono p2 l2
  have E2 := (E.mono p1 l1).mono p2 l2
  unfold sub3 at q2
  cases e1 : setD dx dy d (base bs) S2 with
  | some S3 =>
    rw [e1] at q2
    refine .inl ⟨μ2, S2, bs, dx, dy, d, R2, rx, r2, rv, ?_⟩
    rw [e1]
    exact fun H' μ' p l R' => q2 σ H' μ' p l R' (E2.mono p l)
  | none =>
    rw [e1] at q2
    refine .inr ⟨μ2, S2, bs, dx, dy, d, R2, rx, r2, rv, ?_⟩
    cases e2 : dsetD dx dy d (base bs) S2 with
    | some S3 =>
      rw [e2] at q2
      exact fun H' μ' p l R' => q2 σ H' μ' p l R' (E2.mono p l)
    | none => rw [e2] at q2; exact q2.elim
abbrev asgF (fa : SemE) (fg : SemG) : SemS := fun n ρ S => (fa n ρ S).bind fun d S1 => (fg d n ρ S1).bind fun ρ' S2 => .ok (.next ρ') S2
theorem asg_tr {K : Kw} {fg : SemG} {D : Ends} {σ : L2.St} {H : Hp} (h : tS K W (asgF fa fg) D σ H) : tE K W fa σ H fun x H1 => tGG K W fg x σ H1 D.nx := by
  obtain ⟨μ, S, bs, ρ, R, E, q⟩ := h
  refine stepE (f := fa) (k := fun n d S1 => (fg d n ρ S1).bind fun ρ' S2 => .ok (.next ρ') S2) R E q fun x H1 d S1 μ1 p l R1 E1 rx q1 => ?_
  exact ⟨μ1, S1, bs, ρ, d, R1, E1, rx, (EndS.bindE q1).mono fun σ' H' ⟨ρ', S2, μ2, p2, l2, R2, E2, q2⟩ => EndS.nx q2 R2 E2⟩
theorem ds_asg {tg : Expr} {fg : SemG} (he : PE X e (tE X.kw W fa)) (hg : PG X tg (tGG X.kw W fg)) (hs : swapsWithSole [tg] e pos.line X.env = pure false) (hw : swappedStores [tg] e X.env = pure none) (h1 : (assignEach [tg] X.env).map (·.2) = [assign tg X.env]) :
    PS X (.Assign [tg] e pos) (tS X.kw W (asgF fa fg)) := ps_imp (ps_asg he hg hs hw h1) fun D σ H h => asg_tr h

/-! ### two, three names at once, stored from the right -/
abbrev tgF (fr : List D → Nat → Env' → Sto → Out Env') : SemG := fun d n ρ S => match itemsOf d S with
      | some ds => fr ds n ρ S
      | none => .bad
theorem tup_asg {ga : SemA} {fr : List D → Nat → Env' → Sto → Out Env'} {n : Nat} {ρ : Env'} {S : Sto} : asgF (tupF ga) (tgF fr) n ρ S = (ga n ρ S).bind fun ds S1 => if Nat.ble ds.length lim = true then (fr ds n ρ S1).bind fun ρ' S2 => .ok (.next ρ') S2 else .bad := by
  unfold asgF tupF
  cases ga n ρ S with
  | bad => rfl
  | exc x S' => rfl
  | ok ds S' =>
    show ((if Nat.ble ds.length lim = true then Out.ok (D.tup ds) S' else .bad : Out D).bind _) = ite _ _ _
    split <;> rfl
theorem ds_par {i j : Nat} {x y : Str} {px py pt : Pos} {kt k2 pt2} {fr : List D → Nat → Env' → Sto → Out Env'} (hc : X.calm = true) (hN : X.N.Nodup) (hi : X.N[i]? = some x) (hj : X.N[j]? = some y) (hij : i ≠ j)
    (hx : X.env.scope.names.lookup x = some .local) (hy : X.env.scope.names.lookup y = some .local) (ha : PA X [a, b] (tA X.kw W ga))
    (hw : swappedStores [.Tuple [.Name x px, .Name y py] kt pt] (.Tuple [a, b] k2 pt2) X.env = pure (some [x, y]))
    (hs : swapsWithSole [.Tuple [.Name x px, .Name y py] kt pt] (.Tuple [a, b] k2 pt2) pos.line X.env = pure false)
    (h2 : ∀ u v n ρ S, fr [u, v] n ρ S = .ok ((ρ.set i (some u)).set j (some v)) S) (hb : ∀ ds n ρ S, ds.length ≠ 2 → fr ds n ρ S = .bad) :
    PS X (.Assign [.Tuple [.Name x px, .Name y py] kt pt] (.Tuple [a, b] k2 pt2) pos) (tS X.kw W (asgF (tupF ga) (tgF fr))) := by
  refine ps_imp (ps_par hc hN hi hj hij hx hy ha hw hs) fun D σ H ⟨μ, S, bs, ρ, R, E, q⟩ => ?_
  rw [tup_asg] at q
  refine ⟨μ, S, bs, ρ, R, E, (EndS.bind (Rm := RL X.kw) (n := σ.length) q).mono fun us H1 ⟨ds, S1, μ1, p, l, R1, rs, q1⟩ => ?_⟩
  split at q1
  · by_cases hl : ds.length = 2
    · match ds, hl with
      | [u, v], _ =>
        rw [h2] at q1
        cases rs with
        | cons r1 rs => cases rs with
          | cons r2 rs =>
            cases rs
            exact ⟨_, _, rfl, EndS.nx q1 R1 (((E.mono p l).set r1 i).set r2 j)⟩
    · rw [hb _ _ _ _ hl] at q1
      exact q1.elim
  · exact q1.elim
theorem ds_par3 {i j m : Nat} {x y z : Str} {px py pz pt : Pos} {kt k2 pt2} {fr : List D → Nat → Env' → Sto → Out Env'} (hc : X.calm = true) (hN : X.N.Nodup) (hi : X.N[i]? = some x) (hj : X.N[j]? = some y) (hm : X.N[m]? = some z) (hij : i ≠ j) (him : i ≠ m) (hjm : j ≠ m)
    (hx : X.env.scope.names.lookup x = some .local) (hy : X.env.scope.names.lookup y = some .local) (hz : X.env.scope.names.lookup z = some .local) (ha : PA X [a, b, c] (tA X.kw W ga))
    (hw : swappedStores [.Tuple [.Name x px, .Name y py, .Name z pz] kt pt] (.Tuple [a, b, c] k2 pt2) X.env = pure (some [x, y, z]))
    (hs : swapsWithSole [.Tuple [.Name x px, .Name y py, .Name z pz] kt pt] (.Tuple [a, b, c] k2 pt2) pos.line X.env = pure false)
    (h2 : ∀ u v w n ρ S, fr [u, v, w] n ρ S = .ok (((ρ.set i (some u)).set j (some v)).set m (some w)) S) (hb : ∀ ds n ρ S, ds.length ≠ 3 → fr ds n ρ S = .bad) :
    PS X (.Assign [.Tuple [.Name x px, .Name y py, .Name z pz] kt pt] (.Tuple [a, b, c] k2 pt2) pos) (tS X.kw W (asgF (tupF ga) (tgF fr))) := by
  refine ps_imp (ps_par3 hc hN hi hj hm hij him hjm hx hy hz ha hw hs) fun D σ H ⟨μ, S, bs, ρ, R, E, q⟩ => ?_
  rw [tup_asg] at q
  refine ⟨μ, S, bs, ρ, R, E, (EndS.bind (Rm := RL X.kw) (n := σ.length) q).mono fun us H1 ⟨ds, S1, μ1, p, l, R1, rs, q1⟩ => ?_⟩
  split at q1
  · by_cases hl : ds.length = 3
    · match ds, hl with
      | [u, v, w], _ =>
        rw [h2] at q1
        cases rs with
        | cons r1 rs => cases rs with
          | cons r2 rs => cases rs with
            | cons r3 rs =>
              cases rs
              exact ⟨_, _, _, rfl, EndS.nx q1 R1 ((((E.mono p l).set r1 i).set r2 j).set r3 m)⟩
    · rw [hb _ _ _ _ hl] at q1
      exact q1.elim
  · exact q1.elim
/-- name = [..] on one line -/
theorem ds_setLc {i : Nat} {y : Str} {py : Pos} {elt tg iter : Expr} {ifs : List Expr} {scope : Scope} {own : List (Str × Nat)} {pos spos : Pos} {fi : SemI} {t : Tg} {ff : SemB} {fe : SemE} (hc : X.calm = true) (hN : X.N.Nodup) (hy : X.N[i]? = some y) (hyl : X.env.scope.names.lookup y = some .local)
    (hsw : swapsWith (.ListComp elt [⟨tg, iter, ifs, 0⟩] scope pos) (some (.Name y py)) spos.line X.env = pure true) (hi : PI X tg iter (tI X.kw W fi)) (ok : BlkOk X.N X.env.scope scope own) (hsl : ∀ i ∈ slots t, i ∈ own.map (·.2))
    (hg : ∀ (s : Shared) (H : Hp) (C : Addr) (cl : List (Str × Addr)) (fp : List Addr), PG (X.blk s H scope (compEnvC scope cl C X.env) fp) tg (tG X.kw t))
    (ht : ∀ (s : Shared) (H : Hp) (C : Addr) (cl : List (Str × Addr)) (fp : List Addr), PTs (X.blk s H scope (compEnvC scope cl C X.env) fp) ifs (tT X.kw WF ff))
    (he : ∀ (s : Shared) (H : Hp) (C : Addr) (cl : List (Str × Addr)) (fp : List Addr), PE (X.blk s H scope (compEnvC scope cl C X.env) fp) elt (tE X.kw WF fe))
    (hs : ∀ x, foldedSetIterable iter X.env x = pure x) : PS X (.Assign [.Name y py] (.ListComp elt [⟨tg, iter, ifs, 0⟩] scope pos) spos) (tS X.kw W (asgF (lcF fi (own.map (·.2)) t ff fe) fun d _ ρ S => .ok (ρ.set i (some d)) S)) := by
  refine ps_imp (ps_setLc hc hN hy hyl hsw hi ok hg ht he hs) fun D σ H h => ?_
  have h1 := asg_tr h
  -- the target's own reading, then the loop's
  have h2 : tE X.kw W (lcF fi (own.map (·.2)) t ff fe) σ H fun x H1 => gName i x σ H1 D.nx := by
    obtain ⟨μ, S, bs, ρ, R, E, q⟩ := h1
    exact ⟨μ, S, bs, ρ, R, E, q.mono fun x H1 ⟨μ1, S1, bs1, ρ1, d, R1, E1, r1, q1⟩ => q1.ok R1 (E1.set r1 i)⟩
  exact de_lc.lc_tr hsl h2

/-! ### loops -/
abbrev forF (fi : SemI) (t : Tg) (fb : SemS) : SemS := fun n ρ S => (fi n ρ S).bind fun src S1 => forLoop src (fun x ρ1 S2 => (match asgT t x ρ1 S2 with
      | some ρ2 => fb n ρ2 S2
      | none => .bad)) (cnt src S1) 0 ρ S1
theorem ds_for {tg iter : Expr} {body : List Stmt} {fi : SemI} {t : Tg} {fb : SemS} (hp : PassesOwn (model X.prog X.w) X.A X.env X.xe) (hc : X.calm = true) (hi : PI X tg iter (tI X.kw W fi)) (hg : PG X tg (tG X.kw t)) (hb : PSs X body (tS X.kw W fb))
    (hs : ∀ x, foldedSetIterable iter X.env x = pure x) : PS X (.For tg iter body [] pos) (tS X.kw W (forF fi t fb)) := by
  refine ps_imp (ps_for hp hc hi hg hb hs) fun Ed σ H ⟨μ, S, bs, ρ, R, E, q⟩ => ?_
  refine ⟨μ, S, bs, ρ, R, E, (EndS.bind (Rm := RI X.kw) (n := σ.length) q).mono fun J H1 ⟨src, S1, μ1, p, l, R1, hJ, q1⟩ => ?_⟩
  have E1 := E.mono p l
  let turn : D → Env' → Sto → Out Fl := fun x ρ1 S2 => (match asgT t x ρ1 S2 with
      | some ρ2 => fb (base bs) ρ2 S2
      | none => .bad)
  let W0 : Nat → Nat → L2.St → Hp → Prop := fun i m σ' H' => ∃ μ' S' ρ', PK H1 H' ∧ Le μ1 μ' ∧ RepS X.kw H' μ' S' bs ∧ RepE X.kw H' μ' σ' ρ' ∧ EndS X.kw W bs H' μ' Ed (forLoop src turn m i ρ' S')
  refine ⟨W0, ⟨cnt src S1, μ1, S1, ρ, PK.refl _, Le.refl _, R1, E1, q1⟩, fun i m σ' H' hW => ?_⟩
  obtain ⟨μ', S', ρ', pk', l', R', E', e'⟩ := hW
  have it := hJ H' μ' S' bs pk' l' R' i
  cases m with
  | zero =>
    unfold forLoop at e'
    split at e'
    · rename_i h1
      exact .inl ⟨it.2 h1, EndS.nx e' R' E'⟩
    · exact e'.elim
  | succ f =>
    unfold forLoop at e'
    split at e'
    · rename_i h1
      exact .inl ⟨it.2 h1, EndS.nx e' R' E'⟩
    · rename_i x h1
      obtain ⟨hgo, hy⟩ := it.1 x h1
      refine .inr ⟨hgo, fun σ'' H'' => W0 (i + 1) f σ'' H'', fun σ'' H'' h => ⟨f, Nat.lt_succ_self f, h⟩, fun xv H2 hyl => ?_⟩
      obtain ⟨pk2, R2, rx⟩ := hy xv H2 hyl
      have E2 := E'.mono pk2 (Le.refl μ')
      cases ea : asgT t x ρ' S' with
      | none =>
        have et : turn x ρ' S' = .bad := by show (match asgT t x ρ' S' with | some ρ2 => fb (base bs) ρ2 S' | none => .bad) = _; rw [ea]
        rw [et] at e'
        exact e'.elim
      | some ρ2 =>
        have et : turn x ρ' S' = fb (base bs) ρ2 S' := by show (match asgT t x ρ' S' with | some ρ2 => fb (base bs) ρ2 S' | none => .bad) = _; rw [ea]
        rw [et] at e'
        refine ⟨μ', S', bs, ρ', x, ρ2, R2, E2, rx, ea, fun σ2 E3 _ => ?_⟩
        refine ⟨μ', S', bs, ρ2, R2, E3, ?_⟩
        cases ef : fb (base bs) ρ2 S' with
        | bad => rw [ef] at e'; exact e'.elim
        | exc z S5 => rw [ef] at e'; exact fun σ' H' μ'' p3 l3 => e' σ' H' μ'' (pk2.trans p3) l3
        | ok k S5 =>
          rw [ef] at e'
          cases k with
          | next ρ3 => exact fun σ3 H3 μ3 p3 l3 R3 E3 => ⟨μ3, S5, ρ3, (pk'.trans pk2).trans p3, l'.trans l3, R3, E3, EndS.later e' (pk2.trans p3) l3⟩
          | cont ρ3 => exact fun σ3 H3 μ3 p3 l3 R3 E3 => ⟨μ3, S5, ρ3, (pk'.trans pk2).trans p3, l'.trans l3, R3, E3, EndS.later e' (pk2.trans p3) l3⟩
          | brk ρ3 => exact fun σ3 H3 μ3 p3 l3 R3 E3 => e' σ3 H3 μ3 (pk2.trans p3) l3 R3 E3
          | ret d => exact fun v H3 μ3 p3 l3 R3 r3 => e' v H3 μ3 (pk2.trans p3) l3 R3 r3
    · exact e'.elim
abbrev whileF (ft : SemB) (fb : SemS) : SemS := fun n ρ S => whileLoop (fun ρ1 S1 => ft n ρ1 S1) (fun ρ1 S1 => fb n ρ1 S1) fuel ρ S
theorem ds_while {body : List Stmt} {ft : SemB} {fb : SemS} (hp : PassesOwn (model X.prog X.w) X.A X.env X.xe) (ht : PT X c (tT X.kw W ft)) (hb : PSs X body (tS X.kw W fb)) : PS X (.While c body [] pos) (tS X.kw W (whileF ft fb)) := by
  refine ps_imp (ps_while hp ht hb) fun Ed σ H ⟨μ, S, bs, ρ, R, E, q⟩ => ?_
  let W0 : Nat → L2.St → Hp → Prop := fun m σ' H' => ∃ μ' S' ρ', PK H H' ∧ Le μ μ' ∧ RepS X.kw H' μ' S' bs ∧ RepE X.kw H' μ' σ' ρ' ∧ EndS X.kw W bs H' μ' Ed (whileLoop (fun ρ1 S1 => ft (base bs) ρ1 S1) (fun ρ1 S1 => fb (base bs) ρ1 S1) m ρ' S')
  refine ⟨W0, ⟨fuel, μ, S, ρ, PK.refl _, Le.refl _, R, E, q⟩, fun m σ' H' hW => ?_⟩
  obtain ⟨μ', S', ρ', pk', l', R', E', e'⟩ := hW
  cases m with
  | zero => exact e'.elim
  | succ f =>
    unfold whileLoop at e'
    refine stepB (f := ft) (k := fun n k S1 => if k = true then (fb n ρ' S1).bind fun r S' => (match r with
      | .next ρ' => whileLoop (fun ρ1 S1 => ft n ρ1 S1) (fun ρ1 S1 => fb n ρ1 S1) f ρ' S'
      | .cont ρ' => whileLoop (fun ρ1 S1 => ft n ρ1 S1) (fun ρ1 S1 => fb n ρ1 S1) f ρ' S'
      | .brk ρ' => .ok (.next ρ') S'
      | .ret d => .ok (.ret d) S') else .ok (.next ρ') S1) R' E' e' fun x H1 S1 μ1 p l R1 E1 q1 => ?_
    cases x with
    | false => rw [if_neg (by decide)] at q1 ⊢; exact EndS.nx q1 R1 E1
    | true =>
      rw [if_pos rfl] at q1 ⊢
      refine ⟨fun σ'' H'' => W0 f σ'' H'', fun σ'' H'' h => ⟨f, Nat.lt_succ_self f, h⟩, μ1, S1, bs, ρ', R1, E1, ?_⟩
      cases ef : fb (base bs) ρ' S1 with
      | bad => rw [ef] at q1; exact q1.elim
      | exc z S5 => rw [ef] at q1; exact q1
      | ok k S5 =>
        rw [ef] at q1
        cases k with
        | next ρ3 => exact fun σ3 H3 μ3 p3 l3 R3 E3 => ⟨μ3, S5, ρ3, (pk'.trans p).trans p3, (l'.trans l).trans l3, R3, E3, EndS.later q1 p3 l3⟩
        | cont ρ3 => exact fun σ3 H3 μ3 p3 l3 R3 E3 => ⟨μ3, S5, ρ3, (pk'.trans p).trans p3, (l'.trans l).trans l3, R3, E3, EndS.later q1 p3 l3⟩
        | brk ρ3 => exact q1
        | ret d => exact q1
/-! ### the items of a dict -/
theorem nd_at {K : Kw} {H : Hp} {μ : List Addr} : ∀ {xs : NX} {kvs : List (D × D)} {i : Nat} {k : NestedKey} {b : Addr} {v : V} {dk dv : D} {rest : List (D × D)}, RepNd K H μ xs kvs → xs[i]? = some (k, b, v) → kvs.drop i = (dk, dv) :: rest → Rep K H μ (.ref b) dk ∧ Rep K H μ v dv
  | _, _, _, _, _, _, _, _, _, .nil, e, _ => by simp at e
  | _, _, 0, _, _, _, _, _, _, .cons _ h g _, e, e2 => by
    simp at e e2
    obtain ⟨⟨rfl, rfl⟩, rfl⟩ := e2
    obtain ⟨rfl, rfl, rfl⟩ := e
    exact ⟨h, g⟩
  | _, _, i + 1, _, _, _, _, _, _, .cons _ _ _ t, e, e2 => nd_at (i := i) t (by simpa using e) (by simpa using e2)
theorem drop_tail {α : Type} {l : List α} {i : Nat} {x : α} {r : List α} (h : l.drop i = x :: r) : l.drop (i + 1) = r := by
  rw [← List.drop_drop, h]; rfl
theorem drop_lt {α : Type} {l : List α} {i : Nat} {x : α} {r : List α} (h : l.drop i = x :: r) : i < l.length := by
  by_cases z : i < l.length
  · exact z
  · rw [List.drop_eq_nil_of_le (by omega)] at h; cases h
/-- locked, unlocked -/
theorem RepS.lockN {K : Kw} {H : Hp} {μ : List Addr} {S : Sto} {bs : Bd} {m : Nat} {a : Addr} {xs : NX} {o : Obj} {kvs : List (D × D)} (R : RepS K H μ S bs) (hm : μ[m]? = some a) (hS : S[m]? = some (.nd kvs)) (hH : H a = some (NdO K.P K.w a xs)) :
    RepS K (upd H a (.frz o (NdO K.P K.w a xs))) μ (S.set m (.fz kvs)) bs := by
  have pk : PK H (upd H a (.frz o (NdO K.P K.w a xs))) := PK.write hH (fun xs z => nomatch z) (fun _ _ z => nomatch z)
  refine R.putW pk.w hm fun μ1 c1 _ _ h3 h4 => ?_
  rw [hS] at h3; cases h3
  obtain ⟨xs1, c1, c2⟩ := h4
  rw [hH] at c1
  refine ⟨o, xs1, ?_, c2.mono pk (Le.refl _)⟩
  rw [upd_same]
  injection c1 with c1
  rw [c1]
theorem rep_unfrz {K : Kw} {H : Hp} {a : Addr} {o : Obj} {xs : NX} (h : H a = some (.frz o (NdO K.P K.w a xs))) : PKw H (upd H a (NdO K.P K.w a xs)) where
  tup := fun b ys e => by rw [upd_ne (fun z => by subst z; rw [h] at e; cases e)]; exact e
  frT := fun b o ys e => by
    rw [upd_ne (fun z => by subst z; rw [h] at e; injection e with e; injection e with _ e; cases e)]; exact e
  frL := fun b o ys e => by
    rw [upd_ne (fun z => by subst z; rw [h] at e; injection e with e; injection e with _ e; cases e)]; exact e
theorem RepS.unlockN {K : Kw} {H : Hp} {μ : List Addr} {S : Sto} {bs : Bd} {m : Nat} {a : Addr} {xs : NX} {o : Obj} {ks : List (D × D)} (R : RepS K H μ S bs) (hm : μ[m]? = some a) (hS : S[m]? = some (.fz ks)) (hH : H a = some (.frz o (NdO K.P K.w a xs))) :
    RepS K (upd H a (NdO K.P K.w a xs)) μ (S.set m (.nd ks)) bs := by
  have pk := rep_unfrz (K := K) hH
  refine R.putW pk hm fun μ1 c1 _ _ h3 h4 => ?_
  rw [hS] at h3; cases h3
  obtain ⟨o1, xs1, c1, c2⟩ := h4
  rw [hH] at c1
  refine ⟨xs1, ?_, c2.monoW pk (Le.refl _)⟩
  rw [upd_same]
  injection c1 with c1
  injection c1 with _ c1
  rw [c1]
theorem RepE.monoW {K : Kw} {H H' : Hp} {μ μ' : List Addr} {σ : L2.St} {ρ : Env'} (r : RepE K H μ σ ρ) (p : PKw H H') (q : Le μ μ') : RepE K H' μ' σ ρ := ⟨r.1, fun i d e => let ⟨v, h1, h2⟩ := r.2 i d e; ⟨v, h1, h2.monoW p q⟩⟩
abbrev forItF (fa : SemE) (t : Tg) (fb : SemS) : SemS := fun n ρ S => (fa n ρ S).bind fun d S1 => forItems (fun x ρ1 S2 => (match asgT t x ρ1 S2 with
      | some ρ2 => fb n ρ2 S2
      | none => .bad)) d ρ S1
theorem ds_forIt {apos cpos : Pos} {elts : List Expr} {kk : Nat} {tpos : Pos} {body : List Stmt} {t : Tg} {fb : SemS} (hp : PassesOwn (model X.prog X.w) X.A X.env X.xe) (hc : X.calm = true) (he : PE X e (tE X.kw W fa)) (hbase : attributeBase e "items" X.env (eval e X.env) = eval e X.env) (hline : (apos.endLine == cpos.line) = true)
    (hg : PG X (.Tuple elts kk tpos) (tG X.kw t)) (hb : PSs X body (tS X.kw W fb)) :
    PS X (.For (.Tuple elts kk tpos) (.Call (.Attribute e "items" apos) [] [] cpos) body [] pos) (tS X.kw W (forItF fa t fb)) := by
  refine ps_imp (ps_forget (ps_for hp hc (pi_itemsN he hbase hline) hg hb (fun _ => rfl))) fun Ed σ H ⟨μ, S, bs, ρ, R, E, q⟩ => ?_
  refine ⟨μ, S, bs, ρ, R, E, (EndS.bind (Rm := RV X.kw) (n := σ.length) q).mono fun x H1 ⟨d, S1, μ1, p, l, R1, rx, q1⟩ => ?_⟩
  have E1 := E.mono p l
  let turn : D → Env' → Sto → Out Fl := fun x ρ1 S2 => (match asgT t x ρ1 S2 with
      | some ρ2 => fb (base bs) ρ2 S2
      | none => .bad)
  have q2 : EndS X.kw W bs H1 μ1 Ed (forItems turn d ρ S1) := q1
  clear q1 q
  unfold forItems at q2
  split at q2
  · rename_i m
    split at q2
    · rename_i kvs ek
      cases rx with
      | @loc _ a hm =>
        obtain ⟨xs, c1, c2⟩ := R1.cell hm ek
        refine ⟨a, xs, rfl, c1, fun o hF => ?_⟩
        have pk1 : PK H1 (upd H1 a (.frz o (NdO X.kw.P X.kw.w a xs))) := PK.write c1 (fun xs z => nomatch z) (fun _ _ z => nomatch z)
        have R2 := R1.lockN (o := o) hm ek c1
        have ef : (upd H1 a (.frz o (NdO X.kw.P X.kw.w a xs))) a = some (.frz o (NdO X.kw.P X.kw.w a xs)) := upd_same
        have eo : ∀ b, b ≠ a → (upd H1 a (.frz o (NdO X.kw.P X.kw.w a xs))) b = H1 b := fun b hb => upd_ne hb
        change ∃ W0 : Nat → Nat → L2.St → Hp → Prop, (∃ m, W0 0 m σ (upd H1 a (.frz o (NdO X.kw.P X.kw.w a xs)))) ∧ _
        generalize upd H1 a (.frz o (NdO X.kw.P X.kw.w a xs)) = H2 at pk1 R2 ef eo ⊢
        have E2 := E1.mono pk1 (Le.refl _)
        have kv := c2.mono pk1 (Le.refl _)
        have hlen := nd_length kv
        -- the end of all: the dict is as it was
        have fin : ∀ {H' : Hp} {μ' : List Addr} {S' : Sto} {f : Fl}, PK H2 H' → Le μ1 μ' → RepS X.kw H' μ' S' bs → EndS X.kw W bs H1 μ1 Ed (unlk m (.ok f S')) →
            (H' a = some (.frz o (NdO X.kw.P X.kw.w a xs))) ∧ PKw H' (upd H' a (NdO X.kw.P X.kw.w a xs)) ∧ ∃ S'', RepS X.kw (upd H' a (NdO X.kw.P X.kw.w a xs)) μ' S'' bs ∧ PK H1 (upd H' a (NdO X.kw.P X.kw.w a xs)) ∧ EndS X.kw W bs H1 μ1 Ed (.ok f S'') := by
          intro H' μ' S' f pk l' R' q
          have hH := pk.frz _ _ _ ef
          refine ⟨hH, rep_unfrz (K := X.kw) hH, ?_⟩
          unfold unlk at q
          dsimp only at q
          split at q
          · rename_i ks es
            refine ⟨_, R'.unlockN (l' _ _ hm) es hH, ⟨fun b ys e => ?_, fun b o' u e => ?_⟩, q⟩
            · have hb : b ≠ a := fun z => by subst z; rw [c1] at e; cases e
              rw [upd_ne hb]
              exact pk.tup b ys ((eo b hb).trans e)
            · have hb : b ≠ a := fun z => by subst z; rw [c1] at e; cases e
              rw [upd_ne hb]
              exact pk.frz b o' u ((eo b hb).trans e)
          · exact q.elim
        let W0 : Nat → Nat → L2.St → Hp → Prop := fun i n σ' H' => ∃ μ' S' ρ' rest, n = rest.length ∧ kvs.drop i = rest ∧ PK H2 H' ∧ Le μ1 μ' ∧ RepS X.kw H' μ' S' bs ∧ RepE X.kw H' μ' σ' ρ' ∧ EndS X.kw W bs H1 μ1 Ed (unlk m (forN turn rest ρ' S'))
        refine ⟨W0, ⟨kvs.length, μ1, _, ρ, kvs, rfl, rfl, PK.refl _, Le.refl _, R2, E2, q2⟩, fun i n σ' H' hW => ?_⟩
        obtain ⟨μ', S', ρ', rest, hn, hd, pk', l', R', E', e'⟩ := hW
        have hH := pk'.frz _ _ _ ef
        cases rest with
        | nil =>
          refine .inl ⟨⟨hH, ?_⟩, ?_⟩
          · have := congrArg List.length hd
            rw [List.length_drop] at this
            simp at this
            omega
          · obtain ⟨h1, pw, S'', R3, pk3, q3⟩ := fin pk' l' R' e'
            exact ⟨a, o, xs, h1, hF, q3 _ _ _ pk3 l' R3 (E'.monoW pw (Le.refl _))⟩
        | cons kv1 rest =>
          obtain ⟨dk, dv⟩ := kv1
          have hi := drop_lt hd
          refine .inr ⟨⟨hH, by omega⟩, fun σ'' H'' => W0 (i + 1) rest.length σ'' H'', fun σ'' H'' h => ⟨rest.length, by rw [hn]; exact Nat.lt_succ_self _, h⟩, fun xv H3 hyl => ?_⟩
          obtain ⟨T, k, b, v, hx, rfl, hT, rfl⟩ := hyl
          obtain ⟨r1, r2⟩ := nd_at kv hx hd
          have pk2 : PK H' (upd H' T (.tup [.ref b, v])) := PK.new hT
          have R3 : RepS X.kw (upd H' T (.tup [.ref b, v])) μ' S' bs := R'.lay hT
          have rT : Rep X.kw (upd H' T (.tup [.ref b, v])) μ' (.ref T) (.tup [dk, dv]) :=
            .tup (.inl (.inl upd_same)) (.cons ((r1.mono pk' l').mono pk2 (Le.refl _)) (.cons ((r2.mono pk' l').mono pk2 (Le.refl _)) .nil))
          have E3 := E'.mono pk2 (Le.refl μ')
          have pk3 := pk'.trans pk2
          generalize upd H' T (.tup [.ref b, v]) = H4 at pk2 R3 rT E3 pk3 ⊢
          unfold forN at e'
          cases ea : asgT t (.tup [dk, dv]) ρ' S' with
          | none =>
            have et : turn (.tup [dk, dv]) ρ' S' = .bad := by show (match asgT t (.tup [dk, dv]) ρ' S' with | some ρ2 => fb (base bs) ρ2 S' | none => .bad) = _; rw [ea]
            rw [et] at e'
            exact e'.elim
          | some ρ2 =>
            have et : turn (.tup [dk, dv]) ρ' S' = fb (base bs) ρ2 S' := by show (match asgT t (.tup [dk, dv]) ρ' S' with | some ρ2 => fb (base bs) ρ2 S' | none => .bad) = _; rw [ea]
            rw [et] at e'
            refine ⟨μ', S', bs, ρ', _, ρ2, R3, E3, rT, ea, fun σ2 E4 _ => ?_⟩
            refine ⟨μ', S', bs, ρ2, R3, E4, ?_⟩
            cases ef2 : fb (base bs) ρ2 S' with
            | bad => rw [ef2] at e'; exact e'.elim
            | exc z S5 => rw [ef2] at e'; exact e'.elim
            | ok k S5 =>
              rw [ef2] at e'
              cases k with
              | next ρ3 => exact fun σ3 H5 μ3 p3 l3 R5 E5 => ⟨μ3, S5, ρ3, rest, rfl, drop_tail hd, pk3.trans p3, l'.trans l3, R5, E5, e'⟩
              | cont ρ3 => exact fun σ3 H5 μ3 p3 l3 R5 E5 => ⟨μ3, S5, ρ3, rest, rfl, drop_tail hd, pk3.trans p3, l'.trans l3, R5, E5, e'⟩
              | brk ρ3 =>
                intro σ3 H5 μ3 p3 l3 R5 E5
                obtain ⟨h1, pw, S'', R6, pk6, q6⟩ := fin (pk3.trans p3) (l'.trans l3) R5 e'
                exact ⟨a, o, xs, h1, hF, q6 _ _ _ pk6 (l'.trans l3) R6 (E5.monoW pw (Le.refl _))⟩
              | ret d =>
                intro v H5 μ3 p3 l3 R5 r5
                obtain ⟨h1, pw, S'', R6, pk6, q6⟩ := fin (pk3.trans p3) (l'.trans l3) R5 e'
                exact ⟨a, o, xs, h1, hF, q6 _ _ _ pk6 (l'.trans l3) R6 (r5.monoW pw (Le.refl _))⟩
    · exact q2.elim
  · exact q2.elim
end
end Dq
set_option Elab.async false
set_option linter.all false
set_option maxRecDepth 100000
set_option maxHeartbeats 4000000
/-! Dp13: raise, try. -/
namespace Dq
open PySem PySem.Spec PyProof.Rows
open L2 hiding St

/-- an own class of errors, without own start -/
structure ExcIs (X : Cx) (x : Str) : Prop where
  is : PySem.W.excIn X.kw (He.ga X.kw x) He.veBase "ValueError.__new__" = true
  keep : PySem.W.keepIn X.kw (.ref (He.ga X.kw x)) = true
  sub : PySem.W.subIn X.kw (.ref (He.ga X.kw x)) (.type "BaseException") = some true
  ty : PySem.W.typeIn X.kw (.ref (He.ga X.kw x)) = some (.type "type")
  mg : X.mg x = some (.ref (He.ga X.kw x))
section
variable {X : Cx} {W : WX} {pos : Pos} {fs : SemS}
theorem ds_raise {x m : Str} {j : Nat} {p p2 p3 : Pos} (hc : X.calm = true) (tk : Takes X W) (hx : ExcIs X x) (hg : Gl X x) (hdb : (x == ("__debug__" : Str)) = false) :
    PS X (.Raise (some (.Call (.Name x p) [.Constant (.str m) j p2] [] p3)) none pos) (tS X.kw W fun _ _ S => .exc ⟨x⟩ S) :=
  ps_imp (ps_raise hc tk (pmk_own PySem.F.excBase_ValueError hx.is hx.mg hx.keep (raises_own hx.sub hx.ty) hg hdb)) fun _ σ H ⟨μ, _, _, _, R, _, q⟩ => q σ H μ (PK.refl _) (Le.refl _) R
/-- what one clause gives back -/
abbrev hdT (t : Str) : Addr → Value → Option Addr → TS := fun _ _ _ => tRet (tC (.str t))
abbrev hdL (K : Kw) (hs : List (Str × Str)) : List (Value × (Addr → Value → Option Addr → TS)) := hs.map fun p => (.ref (He.ga K p.1), hdT p.2)
inductive HdS (X : Cx) : List ExceptHandler → List (Str × Str) → Prop
  | nil : HdS X [] []
  | cons {h t : Str} {j : Nat} {p p1 p2 np : Pos} {hds : List ExceptHandler} {hs : List (Str × Str)} (hx : X.mg h = some (.ref (He.ga X.kw h))) (hg : Gl X h) (hdb : (h == ("__debug__" : Str)) = false) (r : HdS X hds hs) :
      HdS X (.ExceptHandler (some (.Name h np)) none [.Return (some (.Constant (.str t) j p)) p1] p2 :: hds) ((h, t) :: hs)
theorem HdS.ok {hds : List ExceptHandler} {hs : List (Str × Str)} (h : HdS X hds hs) : HdsOk X hds (hdL X.kw hs) := by
  induction h with
  | nil => exact .nil
  | cons hx hg hdb r ih => exact .cons ⟨hg, hdb, .inl hx⟩ (fun a oe cls d pn _ _ => pss_imp (pss_cons (ps_ret pe_str) pss_nil) fun D σ H q => q) ih
abbrev hdD (hs : List (Str × Str)) : List (Str × D) := hs.map fun p => (p.1, D.str p.2)
abbrev tryF (Xc : Str → Str → Option Bool) (fs : SemS) (hs : List (Str × Str)) : SemS := fun n ρ S => (match fs n ρ S with
    | .exc x S1 => (match pick Xc x.cls (hdD hs) with
      | some (some d) => .ok (.ret d) S1
      | some none => .exc x S1
      | none => .bad)
    | o => o)
theorem wMany_of {K : Kw} {Xc : Str → Str → Option Bool} (hX : ∀ x h b, Xc x h = some b → PySem.W.exmOne K (.ref (He.ga K x)) (.ref (He.ga K h)) = some b) {Ed : Ends} {x : Exn} {S1 : Sto} {σ : L2.St} {H : Hp} {μ : List Addr} {bs : Bd} (R : RepS K H μ S1 bs) :
    ∀ {hs : List (Str × Str)}, EndS K W bs H μ Ed (match pick Xc x.cls (hdD hs) with
      | some (some d) => .ok (.ret d) S1
      | some none => .exc x S1
      | none => .bad) → wMany K W Ed (hdL K hs) (.ref (He.ga K x.cls)) none σ H
  | [], h => h σ H μ (PK.refl _) (Le.refl _) R
  | (c, t) :: hs, h => by
    have e0 : pick Xc x.cls (hdD ((c, t) :: hs)) = (match Xc x.cls c with
      | some true => some (some (D.str t))
      | some false => pick Xc x.cls (hdD hs)
      | none => none) := rfl
    rw [e0] at h
    cases eb : Xc x.cls c with
    | none => rw [eb] at h; exact h.elim
    | some b =>
      rw [eb] at h
      refine ⟨b, hX _ _ _ eb, fun hb a ha => ?_, fun hb => ?_⟩
      · subst hb
        exact h (.str t) H μ (PK.refl _) (Le.refl _) R (.str t)
      · subst hb
        exact wMany_of hX R h
theorem ds_try {body : List Stmt} {h₀ : ExceptHandler} {hds : List ExceptHandler} {hs : List (Str × Str)} {Xc : Str → Str → Option Bool} (hst : X.stack = X.env :: X.outer) (hf : X.env.frame = some X.env.locals) (tk : Takes X W)
    (hX : ∀ x h b, Xc x h = some b → PySem.W.exmOne X.kw (.ref (He.ga X.kw x)) (.ref (He.ga X.kw h)) = some b)
    (hb : ∀ (W' : WX) (pn : List (Addr × Obj)) (xe : Value → Shared → Prop), Takes (X.tr pn xe) W' → PassesOwn (model X.prog X.w) X.A X.env xe → PSs (X.tr pn xe) body (tS X.kw W' fs))
    (hh : HdS X (h₀ :: hds) hs) : PS X (.Try body (h₀ :: hds) [] [] pos) (tS X.kw W (tryF Xc fs hs)) := by
  refine ps_imp (ps_try_many hst hf tk hb hh.ok) fun Ed σ H ⟨μ, S, bs, ρ, R, E, q⟩ => ⟨μ, S, bs, ρ, R, E, ?_⟩
  have q' : EndS X.kw W bs H μ Ed (tryF Xc fs hs (base bs) ρ S) := q
  unfold tryF at q'
  cases ef : fs (base bs) ρ S with
  | bad => rw [ef] at q'; exact q'.elim
  | ok f S' => rw [ef] at q'; cases f <;> exact q'
  | exc x S' =>
    rw [ef] at q'
    exact fun σ' H' μ' p l R' => wMany_of hX R' (EndS.later q' p l)
end
end Dq
set_option Elab.async false
set_option linter.all false
set_option maxRecDepth 100000
set_option maxHeartbeats 4000000
/-! Dp14: from the text's expressions to the small language's, and why that is right. -/
namespace Dq
open PySem PySem.Spec PyProof.Rows
open L2 hiding St

/-! ### a few more rules -/
section
variable {X : Cx} {W : WX} {a b c e : Expr} {fa fb fc : SemE} {pos : Pos} {es : List Expr} {ga : SemA}
theorem rgD_rep {K : Kw} {H : Hp} {μ : List Addr} (a b : Int) : RepAll K H μ (rgV a b) (rgD a b) := by
  unfold rgV rgD
  generalize List.range (b - a).toNat = l
  induction l with
  | nil => exact .nil
  | cons i l ih => exact .cons (.int _) ih
theorem within_bd {i : Int} (h : within 4611686018427387904 i = true) : -4611686018427387904 < i ∧ i < 4611686018427387904 := by
  unfold within at h
  rw [Bool.and_eq_true, decide_eq_true_eq, decide_eq_true_eq] at h
  exact h
abbrev lrngF (fa fb : SemE) : SemE := fun n ρ S => (consF fa (consF fb fun _ _ S => .ok [] S) n ρ S).bind fun ds S1 => lrngD ds S1
theorem de_lrng {p p2 pos2 : Pos} (hc : X.calm = true) (hg : Gl X "list") (hm : X.mg "list" = none) (hg2 : Gl X "range") (hm2 : X.mg "range" = none) (ha : PE X a (tE X.kw W fa)) (hb : PE X b (tE X.kw W fb))
    (na : starEach [a, b] X.env = (false, eval a X.env) :: starEach [b] X.env) (nb : starEach [b] X.env = (false, eval b X.env) :: starEach [] X.env) (hp : (backTo pos2 (starEach [b] X.env)).any (·.1) = false) :
    PE X (.Call (.Name "list" p) [.Call (.Name "range" p2) [a, b] [] pos2] [] pos) (tE X.kw W (lrngF fa fb)) := by
  refine pe_imp (pe_listRg hc hg hm (prg_2 hg2 hm2 ha hb na nb hp)) fun σ H Q ⟨μ, S, bs, ρ, R, E, q⟩ => ?_
  have q0 : End X.kw W bs H μ σ.length (RV X.kw) Q ((fa (base bs) ρ S).bind fun d S1 => (fb (base bs) ρ S1).bind fun d2 S2 => lrngD [d, d2] S2) := by
    have z : End X.kw W bs H μ σ.length (RV X.kw) Q (lrngF fa fb (base bs) ρ S) := q
    simp only [lrngF, consF, bind_bind] at z
    exact z
  refine step1 (f := fa) (k := fun n d S1 => (fb n ρ S1).bind fun d2 S2 => lrngD [d, d2] S2) R E q0 fun x H1 d S1 μ1 p l R1 E1 rx q1 => ?_
  refine step1 (f := fb) (k := fun n d2 S2 => lrngD [d, d2] S2) R1 E1 q1 fun y H2 d2 S2 μ2 p2 l2 R2 E2 ry q2 => ?_
  have rx2 := rx.mono p2 l2
  unfold lrngD at q2
  split at q2
  · rename_i i j e
    obtain ⟨rfl, rfl⟩ : d = .int i ∧ d2 = .int j := by simpa using e
    cases rx2
    cases ry
    split at q2
    · rename_i hw
      rw [Bool.and_eq_true, Bool.and_eq_true] at hw
      obtain ⟨h1, h2, h3⟩ := hw
      have b1 := within_bd h1
      have b2 := within_bd h2
      have h4 : (j - i).toNat ≤ lim := Nat.le_of_ble_eq_true h3
      refine ⟨i, j, rfl, rfl, ⟨by omega, by omega, by omega, by omega, by rw [show lim = 16777216 from rfl] at h4; omega⟩, fun r hr => ?_⟩
      have o : OutV X.kw bs H2 μ2 Q (.ok (.loc S2.length) (S2 ++ [.lst (rgD i j)])) := q2.out fun _ _ z => nomatch z
      exact o.lst R2 (rgD_rep i j) hr
    · exact q2.elim
  · exact q2.elim
end

/-! ### what is known at a place -/
structure Cn where
  N : List Str
  sc : Scope
  asg : Bool
  fns : List Str
  cons : List Str
  excs : List Str
def bltNames : List Str := ["len", "int", "list", "tuple", "bool", "max", "min", "sorted", "set", "range", "isinstance", "str", "any", "all"]
def noStar : Expr → Bool
  | .Starred .. => false
  | _ => true
theorem star_cons {e : Expr} {es : List Expr} {env : Env} (h : noStar e = true) : starEach (e :: es) env = (false, eval e env) :: starEach es env := by
  cases e <;> first | rfl | cases h
theorem star_any {env : Env} {pos : Pos} : ∀ {es : List Expr}, es.all noStar = true → (backTo pos (starEach es env)).any (·.1) = false
  | [], _ => rfl
  | e :: es, h => by
    rw [List.all_cons, Bool.and_eq_true] at h
    have ih := star_any (env := env) (pos := pos) h.2
    unfold backTo at ih ⊢
    rw [star_cons h.1, List.map_cons, List.any_cons, ih]
    rfl
theorem asg_cons {e : Expr} {es : List Expr} {env : Env} (h : noStar e = true) : assignEach (e :: es) env = (false, assign e env) :: assignEach es env := by
  cases e <;> first | rfl | cases h
theorem asg_len {env : Env} : ∀ {es : List Expr}, es.all noStar = true → (assignEach es env).length = es.length ∧ (assignEach es env).findIdx? (·.1) = none
  | [], _ => ⟨rfl, rfl⟩
  | e :: es, h => by
    rw [List.all_cons, Bool.and_eq_true] at h
    obtain ⟨h1, h2⟩ := asg_len (env := env) h.2
    rw [asg_cons h.1]
    refine ⟨by rw [List.length_cons, List.length_cons, h1], ?_⟩
    rw [List.findIdx?_cons, h2]
    rfl
def notMarked : Expr → Bool
  | .Set .. => false
  | _ => true
theorem marks_of {op : CmpOp} {e : Expr} (h : notMarked e = true) : behindInMarks op e = false := by cases e <;> first | rfl | cases h
theorem folded_of {e : Expr} (h : notMarked e = true) (env : Env) (x : Value) : foldedSetIterable e env x = pure x := by cases e <;> first | rfl | cases h
def notSlice : Expr → Bool
  | .Slice .. => false
  | _ => true
def notSuper : Expr → Bool
  | .Call (.Name _ _) [] [] _ => false
  | _ => true
theorem base_of {e : Expr} {name : Str} {env : Env} (h : notSuper e = true) : attributeBase e name env (eval e env) = eval e env := by
  unfold attributeBase
  split
  · cases h
  · rfl

def ixOf : List Str → Str → Option Nat
  | [], _ => none
  | y :: r, x => if y = x then some 0 else (match ixOf r x with
    | some i => some (i + 1)
    | none => none)
theorem ixOf_ok : ∀ {N : List Str} {x : Str} {i : Nat}, ixOf N x = some i → N[i]? = some x
  | [], _, _, h => by cases h
  | y :: r, x, i, h => by
    unfold ixOf at h
    split at h
    · rename_i e; cases h; rw [e]; rfl
    · split at h
      · rename_i j ej
        cases h
        show r[j]? = some x
        exact ixOf_ok ej
      · cases h
def visC (sc : Scope) (x : Str) : Bool := match sc.names.lookup x with
  | some .local => true
  | some .cell => true
  | some .free => true
  | _ => false
theorem visC_ok {sc : Scope} {x : Str} (h : visC sc x = true) : Vis sc x := by
  unfold visC at h
  unfold Vis
  split at h <;> first | (exact .inl (by assumption)) | (exact .inr (.inl (by assumption))) | (exact .inr (.inr (by assumption))) | cases h
def gloC (sc : Scope) (x : Str) : Bool := match sc.names.lookup x with
  | some .globalImplicit => true
  | _ => false
theorem gloC_ok {sc : Scope} {x : Str} (h : gloC sc x = true) : sc.names.lookup x = some .globalImplicit := by
  unfold gloC at h
  split at h <;> first | assumption | cases h
def locC (Γ : Cn) (x : Str) : Bool := match Γ.sc.names.lookup x with
  | some .local => true
  | some .cell => Γ.asg
  | _ => false
def dbg (x : Str) : Bool := x == ("__debug__" : Str)
def okN (x : Str) : Bool := !dbg x && !(x == ("__classdict__" : Str))

/-! ### the expressions -/
def cList (f : Expr → Option E) : List Expr → Option (List E)
  | [] => some []
  | e :: es => (match noStar e, f e, cList f es with
    | true, some e', some es' => some (e' :: es')
    | _, _, _ => none)
def cPairs (f : Expr → Option E) : List (Option Expr) → List Expr → Option (List E)
  | [], [] => some []
  | some k :: ks, v :: vs => (match f k, f v, cPairs f ks vs with
    | some k', some v', some r => some (k' :: v' :: r)
    | _, _, _ => none)
  | _, _ => none
def cAnd (f : Expr → Option E) : List Expr → Option E
  | [] => none
  | [e] => f e
  | e :: es => (match f e, cAnd f es with
    | some a, some b => some (.and a b)
    | _, _ => none)
def cOr (f : Expr → Option E) : List Expr → Option E
  | [] => none
  | [e] => f e
  | e :: es => (match f e, cOr f es with
    | some a, some b => some (.or a b)
    | _, _ => none)
def cOp : Operator → Option BOp
  | .Add => some .add | .Sub => some .sub | .Mult => some .mul | .Mod => some .mod | .FloorDiv => some .div | .Pow => some .pow
  | _ => none
def cCo : CmpOp → Option COp
  | .Eq => some .eq | .NotEq => some .ne | .Lt => some .lt | .LtE => some .le | .Gt => some .gt | .GtE => some .ge | .In => some .isIn | .NotIn => some .notIn
  | _ => none
def cName (Γ : Cn) (x : Str) : Option E := if okN x = true then (if visC Γ.sc x = true then (match ixOf Γ.N x with
    | some i => some (.var i)
    | none => none) else if (gloC Γ.sc x && Γ.cons.contains x) = true then some (.glo x) else none) else none
def cOpt (f : Expr → Option E) : Option Expr → Option (Option E)
  | none => some none
  | some e => (match f e with
    | some e' => some (some e')
    | none => none)
mutual
def cTg (Γ : Cn) : Nat → Expr → Option Tg
  | 0, _ => none
  | n + 1, e => (match e with
    | .Name x _ => if locC Γ x = true then (match ixOf Γ.N x with
      | some i => some (.name i)
      | none => none) else none
    | .Tuple es _ _ => (match es.all noStar, cTgs Γ n es with
      | true, some ts => some (.tup ts)
      | _, _ => none)
    | _ => none)
def cTgs (Γ : Cn) : Nat → List Expr → Option (List Tg)
  | 0, _ => none
  | n + 1, es => (match es with
    | [] => some []
    | e :: es => (match cTg Γ n e, cTgs Γ n es with
      | some t, some ts => some (t :: ts)
      | _, _ => none))
end
def cTy (x : Str) : Option Ty := if x = "int" then some .int else if x = "bool" then some .bool else if x = "str" then some .str else if x = "tuple" then some .tup else if x = "list" then some .lst else none
def cBlt (x : Str) : Option Blt := if x = "len" then some .len else if x = "int" then some .int else if x = "list" then some .list else if x = "tuple" then some .tuple else if x = "bool" then some .bool else if x = "max" then some .max
  else if x = "min" then some .min else if x = "sorted" then some .sorted else if x = "any" then some .any else if x = "all" then some .all else none
def cMth (x : Str) : Option Mth := if x = "append" then some .append else if x = "index" then some .index else none
/-- sorted(set(..)), list(range(..)) -/
def sSet (Γ : Cn) (f : Expr → Option E) (x : Str) (args : List Expr) : Option E := match args with
  | [.Call (.Name y _) [a] [] _] => if (decide (x = "sorted") && (decide (y = "set") && (gloC Γ.sc y && noStar a))) = true then (match f a with
      | some a' => some (.sset a')
      | none => none) else none
  | [.Call (.Name y _) [a, b] [] _] => if (decide (x = "list") && (decide (y = "range") && (gloC Γ.sc y && (noStar a && noStar b)))) = true then (match f a, f b with
      | some a', some b' => some (.lrng [a', b'])
      | _, _ => none) else none
  | _ => none
/-- the call of a name -/
def cCall (Γ : Cn) (f : Expr → Option E) (x : Str) (args : List Expr) : Option E :=
  if (gloC Γ.sc x && !dbg x) = true then
    (if Γ.fns.contains x = true then (match cList f args with
      | some es => some (.call x es)
      | none => none)
    else if x = "isinstance" then (match args with
      | [a, .Name t _] => (match noStar a, gloC Γ.sc t, cTy t, f a with
        | true, true, some ty, some a' => some (.isi ty a')
        | _, _, _, _ => none)
      | _ => none)
    else (match sSet Γ f x args with
      | some e => some e
      | none => (match cBlt x, cList f args with
        | some g, some (e :: es) => some (.blt g (e :: es))
        | _, _ => none)))
  else none
def cIt (Γ : Cn) (f : Expr → Option E) (e : Expr) : Option (ItK × List E) := match e with
  | .Call (.Name x _) [a] [] _ => if (decide (x = "range") && gloC Γ.sc x && !Γ.fns.contains x) = true then (match cList f [a] with
      | some es => some (.rng, es)
      | none => none) else (match f e with
      | some e' => some (.seq, [e'])
      | none => none)
  | .Call (.Name x _) [a, b] [] _ => if (decide (x = "range") && gloC Γ.sc x && !Γ.fns.contains x) = true then (match cList f [a, b] with
      | some es => some (.rng, es)
      | none => none) else (match f e with
      | some e' => some (.seq, [e'])
      | none => none)
  | _ => (match f e with
      | some e' => some (.seq, [e'])
      | none => none)
def ownOf (N : List Str) (sc : Scope) : List (Str × Nat) := sc.names.filterMap fun y => match y.2 with
  | .local => (match ixOf N y.1 with
    | some i => some (y.1, i)
    | none => none)
  | .cell => (match ixOf N y.1 with
    | some i => some (y.1, i)
    | none => none)
  | _ => none
def Cn.blk (Γ : Cn) (scope : Scope) : Cn := { Γ with sc := relS scope Γ.sc, asg := false }
def subN (xs ys : List Nat) : Bool := xs.all fun i => ys.contains i
def cLc (ft : Expr → Option Tg) (fi : Expr → Option (ItK × List E)) (f : Expr → Option E) (Γ : Cn) (elt tg iter : Expr) (ifs : List Expr) (scope : Scope) : Option E :=
  if (blkC Γ.N Γ.sc scope (ownOf Γ.N scope) && notMarked iter) = true then
    (match ft tg, fi iter, f elt with
      | some t, some (k, it), some elt' => if subN (slots t) ((ownOf Γ.N scope).map (·.2)) = true then (match ifs with
          | [] => some (.lc (ownOf Γ.N scope) t k it none elt')
          | [c] => (match f c with
            | some c' => some (.lc (ownOf Γ.N scope) t k it (some c') elt')
            | none => none)
          | _ => none) else none
      | _, _, _ => none)
  else none
def cE : Nat → Cn → Expr → Option E
  | 0, _, _ => none
  | n + 1, Γ, e => match e with
    | .Name x _ => cName Γ x
    | .Constant .none _ _ => some .non
    | .Constant (.bool k) _ _ => some (.bl k)
    | .Constant (.int i) _ _ => some (.int i)
    | .Constant (.str x) _ _ => some (.str x)
    | .BinOp a op b _ => (match cOp op, cE n Γ a, cE n Γ b with
      | some o, some a', some b' => some (.bin o a' b')
      | _, _, _ => none)
    | .Compare a [.Is] [.Constant .none _ _] _ => (match cE n Γ a with
      | some a' => some (.isN false a')
      | none => none)
    | .Compare a [.IsNot] [.Constant .none _ _] _ => (match cE n Γ a with
      | some a' => some (.isN true a')
      | none => none)
    | .Compare a [op] [b] _ => (match cCo op, cE n Γ a, cE n Γ b, notMarked b with
      | some o, some a', some b', true => some (.cmp o a' b')
      | _, _, _, _ => none)
    | .Compare a [.LtE, .LtE] [b, c] _ => (match cE n Γ a, cE n Γ b, cE n Γ c, notMarked c with
      | some a', some b', some c', true => some (.chain a' b' c')
      | _, _, _, _ => none)
    | .BoolOp .And es _ => cAnd (cE n Γ) es
    | .BoolOp .Or es _ => cOr (cE n Γ) es
    | .UnaryOp .Not a _ => (match cE n Γ a with
      | some a' => some (.not a')
      | none => none)
    | .IfExp c a b _ => (match cE n Γ c, cE n Γ a, cE n Γ b with
      | some c', some a', some b' => some (.ite c' a' b')
      | _, _, _ => none)
    | .Tuple es _ _ => (match cList (cE n Γ) es with
      | some es' => some (.tup es')
      | none => none)
    | .List es _ => (match cList (cE n Γ) es with
      | some es' => some (.lst es')
      | none => none)
    | .Dict [] [] _ => some (.dict [])
    | .Dict ks vs _ => (match cPairs (cE n Γ) ks vs, Nat.ble 1 ks.length, Nat.ble ks.length 15 with
      | some es', true, true => some (.dict es')
      | _, _, _ => none)
    | .Subscript a (.Slice lo hi none _) _ => (match cE n Γ a, cOpt (cE n Γ) lo, cOpt (cE n Γ) hi with
      | some a', some l, some h => some (.sl a' l h)
      | _, _, _ => none)
    | .Subscript a b _ => (match cE n Γ a, cE n Γ b, notSlice b with
      | some a', some b', true => some (.ix a' b')
      | _, _, _ => none)
    | .Call (.Name x _) args [] _ => cCall Γ (cE n Γ) x args
    | .Call (.Attribute o m apos) [a] [] cpos => (match cMth m, cE n Γ o, cE n Γ a, noStar a && (notSuper o && apos.endLine == cpos.line) with
      | some m', some o', some a', true => some (.mth m' o' [a'])
      | _, _, _, _ => none)
    | .ListComp elt [⟨tg, iter, ifs, 0⟩] scope _ => cLc (cTg (Γ.blk scope) n) (cIt Γ (cE n Γ)) (cE n (Γ.blk scope)) Γ elt tg iter ifs scope
    | _ => none
end Dq
set_option Elab.async false
set_option linter.all false
set_option maxRecDepth 100000
set_option maxHeartbeats 4000000
/-! Dp15: the compiled expressions mean what the text's do. -/
namespace Dq
open PySem PySem.Spec PyProof.Rows
open L2 hiding St

structure Cok (Γ : Cn) (g : Gm) (X : Cx) (W : WX) : Prop where
  N : X.N = Γ.N
  nd : Γ.N.Nodup
  sc : X.env.scope = Γ.sc
  kind : Γ.sc.kind = .function
  calm : X.calm = true
  fn : Γ.asg = true → ∀ x, X.fn x = true
  tk : Takes X W
  units : X.A.units + 100 < cLine
  F : ∀ f Fu, g.F f = some Fu → FnIs X f Fu
  C : ∀ x d, g.C x = some d → ∃ v u, X.mg x = some u ∧ RelV v u ∧ ∀ H μ, Rep X.kw H μ v d
  bltn : ∀ x ∈ bltNames, X.mg x = none
section
variable {Γ : Cn} {g : Gm} {X : Cx} {W : WX} {f : Expr → Option E} {pos : Pos}
/-- one expression's meaning -/
def SE (g : Gm) (X : Cx) (W : WX) (e : Expr) (e' : E) : Prop := PE X e (tE X.kw W fun n => den g n e') ∧ PT X e (tT X.kw W (SemT fun n => den g n e'))
theorem pe_bad {e : Expr} {fa : SemE} (h : ∀ n ρ S, fa n ρ S = .bad) : PE X e (tE X.kw W fa) := ⟨fun pins s σ H Q I ⟨μ, S, bs, ρ, R, E, q⟩ => by rw [h] at q; exact q.elim⟩
theorem SE.plain {e : Expr} {e' : E} (h : PE X e (tE X.kw W fun n => den g n e')) (he : ∀ whole, isTrue e X.env whole = (do let v ← whole; standAt e.pos; holding [v] (truthy v))) : SE g X W e e' := ⟨h, dt_plain h he⟩
theorem bltn_in {x : Str} (C : Cok Γ g X W) (h : x ∈ bltNames) : X.mg x = none := C.bltn x h
theorem gl_of {x : Str} (C : Cok Γ g X W) (h : gloC Γ.sc x = true) : Gl X x := by
  show X.env.scope.names.lookup x = _
  rw [C.sc]; exact gloC_ok h
theorem blt_mem {x : Str} {b : Blt} (h : cBlt x = some b) : x ∈ bltNames := by
  unfold cBlt at h
  repeat' split at h
  all_goals first | (rename_i hx; subst hx; decide) | cases h
theorem blt_ok {x : Str} {b : Blt} (C : Cok Γ g X W) (h : cBlt x = some b) : ((∃ id, bootBuiltins x = some (.builtin id) ∧ CallR X (.builtin id) (CallD X.kw (bltF b))) ∨ ∃ T, bootBuiltins x = some (.type T) ∧ CallR X (.type T) (CallD X.kw (bltF b))) ∧ x ≠ "__name__" := by
  have hu : X.A.units + 100 < cLine := C.units
  unfold cBlt at h
  split at h
  · rename_i e; subst e; cases h; exact ⟨.inl ⟨_, rfl, len_D⟩, by decide⟩
  split at h
  · rename_i e; subst e; cases h; exact ⟨.inr ⟨_, rfl, int_D⟩, by decide⟩
  split at h
  · rename_i e; subst e; cases h; exact ⟨.inr ⟨_, rfl, call_alt list_D (dlist_D C.calm)⟩, by decide⟩
  split at h
  · rename_i e; subst e; cases h; exact ⟨.inr ⟨_, rfl, tuple_D⟩, by decide⟩
  split at h
  · rename_i e; subst e; cases h; exact ⟨.inr ⟨_, rfl, bool_D⟩, by decide⟩
  split at h
  · rename_i e; subst e; cases h; exact ⟨.inl ⟨_, rfl, max_D C.calm⟩, by decide⟩
  split at h
  · rename_i e; subst e; cases h; exact ⟨.inl ⟨_, rfl, min_D C.calm⟩, by decide⟩
  split at h
  · rename_i e; subst e; cases h; exact ⟨.inl ⟨_, rfl, sort_D hu⟩, by decide⟩
  split at h
  · rename_i e; subst e; cases h; exact ⟨.inl ⟨_, rfl, any_D C.calm⟩, by decide⟩
  split at h
  · rename_i e; subst e; cases h; exact ⟨.inl ⟨_, rfl, all_D C.calm⟩, by decide⟩
  · cases h
theorem cList_ok (hf : ∀ e e', f e = some e' → PE X e (tE X.kw W fun n => den g n e')) : ∀ {es : List Expr} {es' : List E}, cList f es = some es' → PA X es (tA X.kw W fun n => denL g n es') ∧ es.all noStar = true ∧ es'.length = es.length
  | [], _, h => by
    cases h
    have e : (fun n => denL g n []) = fun _ _ S => .ok [] S := by funext n ρ S; simp only [denL]
    rw [e]
    exact ⟨da_nil, rfl, rfl⟩
  | e :: es, es', h => by
    unfold cList at h
    split at h
    · rename_i e1 r h1 h2 h3
      cases h
      obtain ⟨i1, i2, i3⟩ := cList_ok hf h3
      have e : (fun n => denL g n (e1 :: r)) = consF (fun n => den g n e1) (fun n => denL g n r) := by funext n ρ S; simp only [denL]
      rw [e]
      exact ⟨da_cons (hf _ _ h2) i1 (star_cons h1), by rw [List.all_cons, h1, i2]; rfl, by simp [i3]⟩
    · cases h
theorem cAnd_ok (hf : ∀ e e', f e = some e' → SE g X W e e') : ∀ {es : List Expr} {e' : E}, cAnd f es = some e' → PE X (.BoolOp .And es pos) (tE X.kw W fun n => den g n e') ∧ PW X (.BoolOp .And es pos) (tT X.kw W (SemT fun n => den g n e'))
  | [], _, h => by cases h
  | [e], e', h => ⟨pe_one (hf _ _ h).1, pw_and1 (hf _ _ h).2⟩
  | a :: b :: r, e', h => by
    unfold cAnd at h
    split at h
    · rename_i a' b' h1 h2
      cases h
      obtain ⟨i1, i2⟩ := cAnd_ok hf h2
      obtain ⟨j1, j2⟩ := hf _ _ h1
      have e : (fun n => den g n (.and a' b')) = andF (fun n => den g n a') (fun n => den g n b') := by funext n ρ S; simp only [den] <;> rfl
      rw [e]
      exact ⟨de_and j1 i1, pw_imp (pw_and j2 i2) fun σ H Q q => and_tst q⟩
    · cases h
theorem cOr_ok (hf : ∀ e e', f e = some e' → SE g X W e e') : ∀ {es : List Expr} {e' : E}, cOr f es = some e' → PE X (.BoolOp .Or es pos) (tE X.kw W fun n => den g n e') ∧ PW X (.BoolOp .Or es pos) (tT X.kw W (SemT fun n => den g n e'))
  | [], _, h => by cases h
  | [e], e', h => ⟨pe_one (hf _ _ h).1, pw_or1 (hf _ _ h).2⟩
  | a :: b :: r, e', h => by
    unfold cOr at h
    split at h
    · rename_i a' b' h1 h2
      cases h
      obtain ⟨i1, i2⟩ := cOr_ok hf h2
      obtain ⟨j1, j2⟩ := hf _ _ h1
      have e : (fun n => den g n (.or a' b')) = orF (fun n => den g n a') (fun n => den g n b') := by funext n ρ S; simp only [den] <;> rfl
      rw [e]
      exact ⟨de_or j1 i1, pw_imp (pw_or j2 i2) fun σ H Q q => or_tst q⟩
    · cases h
theorem cPairs_ok (hf : ∀ e e', f e = some e' → PE X e (tE X.kw W fun n => den g n e')) : ∀ {ks : List (Option Expr)} {vs : List Expr} {es' : List E}, cPairs f ks vs = some es' →
    (∃ trs, PPs X pos ks vs trs ∧ PairsOk X.kw W trs (fun n => denL g n es')) ∧ ks.all (·.isSome) = true ∧ ks.length = vs.length
  | [], [], _, h => by
    cases h
    have e : (fun n => denL g n []) = fun _ _ S => .ok [] S := by funext n ρ S; simp only [denL]
    rw [e]
    exact ⟨⟨[], pps_nil, pairs_nil⟩, rfl, rfl⟩
  | [], _ :: _, _, h => by cases h
  | some _ :: _, [], _, h => by cases h
  | none :: _, _, _, h => by unfold cPairs at h; cases h
  | some k :: ks, v :: vs, es', h => by
    unfold cPairs at h
    split at h
    · rename_i k' v' r h1 h2 h3
      cases h
      obtain ⟨⟨trs, i1, i2⟩, i3, i4⟩ := cPairs_ok hf h3
      have e : (fun n => denL g n (k' :: v' :: r)) = consF (fun n => den g n k') (consF (fun n => den g n v') (fun n => denL g n r)) := by funext n ρ S; simp only [denL]
      rw [e]
      exact ⟨⟨_, pps_cons (hf _ _ h1) (hf _ _ h2) i1, pairs_cons i2⟩, by rw [List.all_cons, i3]; rfl, by simp [i4]⟩
    · cases h
theorem cOpt_ok (hf : ∀ e e', f e = some e' → PE X e (tE X.kw W fun n => den g n e')) {o : Option Expr} {o' : Option E} (h : cOpt f o = some o') : PO X o (tO X.kw W fun n => denO g n o') := by
  cases o with
  | none =>
    cases h
    have e : (fun n => denO g n none) = fun _ _ S => .ok none S := by funext n ρ S; simp only [denO]
    rw [e]; exact do_none
  | some a =>
    unfold cOpt at h
    dsimp only at h
    split at h
    · rename_i e' h1
      cases h
      have e : (fun n => denO g n (some e')) = someF (fun n => den g n e') := by funext n ρ S; simp only [denO] <;> rfl
      rw [e]; exact do_some (hf _ _ h1)
    · cases h
theorem cName_ok {x : Str} {e' : E} (C : Cok Γ g X W) (h : cName Γ x = some e') : SE g X W (.Name x pos) e' := by
  refine .plain ?_ fun _ => rfl
  unfold cName at h
  split at h
  · rename_i ho
    unfold okN at ho
    rw [Bool.and_eq_true, Bool.not_eq_true', Bool.not_eq_true'] at ho
    split at h
    · rename_i hv
      split at h
      · rename_i i hi
        cases h
        have e : (fun n => den g n (.var i)) = fun _ ρ S => (match ρ[i]? with
          | some (some d) => .ok d S
          | _ => .bad) := by funext n ρ S; simp only [den] <;> rfl
        rw [e]
        exact de_var (pe_var (by rw [C.N]; exact ixOf_ok hi) (by rw [C.sc]; exact visC_ok hv) ho.1 ho.2)
      · cases h
    · split at h
      · rename_i hg
        cases h
        rw [Bool.and_eq_true] at hg
        cases ec : g.C x with
        | none => exact pe_bad fun n ρ S => by simp only [den, ec]
        | some d =>
          obtain ⟨v, u, m1, m2, m3⟩ := C.C x d ec
          have e : (fun n => den g n (.glo x)) = fun _ _ S => .ok d S := by funext n ρ S; simp only [den, ec]
          rw [e]
          exact de_const (pe_glob (gl_of C hg.1) m1 m2 ho.1) m3
      · cases h
  · cases h
theorem op_bin {op : Operator} {o : BOp} (h : cOp op = some o) : OpR X (binaryOp op) (OpD X.kw (binF o)) := by
  cases op <;> first | cases h | skip
  · exact add_D
  · exact sub_D
  · exact mul_D
  · exact mod_D
  · exact pow_D
  · exact div_D
theorem op_cmp {op : CmpOp} {o : COp} (C : Cok Γ g X W) (h : cCo op = some o) : OpR X (compareOp op) (OpD X.kw (cmpF o)) := by
  have hu : X.A.units + 65 < cLine := by have := C.units; omega
  cases op <;> first | cases h | skip
  · exact eq_D hu
  · exact ne_D hu
  · exact lt_D
  · exact le_D
  · exact gt_D
  · exact ge_D
  · exact op_alt (in_D hu) (din_D hu)
  · exact op_alt (notIn_D hu) (dnotin_D hu)
theorem ty_ok {x : Str} {t : Ty} (h : cTy x = some t) : bootBuiltins x = some (.type t.name) ∧ x ≠ "__name__" ∧ (x == ("__debug__" : Str)) = false ∧ x ∈ bltNames := by
  unfold cTy at h
  split at h
  · rename_i e; subst e; cases h; exact ⟨rfl, by decide, by decide, by decide⟩
  split at h
  · rename_i e; subst e; cases h; exact ⟨rfl, by decide, by decide, by decide⟩
  split at h
  · rename_i e; subst e; cases h; exact ⟨rfl, by decide, by decide, by decide⟩
  split at h
  · rename_i e; subst e; cases h; exact ⟨rfl, by decide, by decide, by decide⟩
  split at h
  · rename_i e; subst e; cases h; exact ⟨rfl, by decide, by decide, by decide⟩
  · cases h
theorem sSet_ok (C : Cok Γ g X W) (hf : ∀ e e', f e = some e' → PE X e (tE X.kw W fun n => den g n e')) {x : Str} {p : Pos} {args : List Expr} {e' : E} (hx : gloC Γ.sc x = true) (h : sSet Γ f x args = some e') :
    PE X (.Call (.Name x p) args [] pos) (tE X.kw W fun n => den g n e') := by
  unfold sSet at h
  split at h
  · rename_i y p2 a pos2
    split at h
    · rename_i hc
      simp only [Bool.and_eq_true, decide_eq_true_eq] at hc
      obtain ⟨rfl, rfl, h1, h2⟩ := hc
      split at h
      · rename_i a' ha
        cases h
        have e : (fun n => den g n (.sset a')) = ssetF (fun n => den g n a') := by funext n ρ S; simp only [den]
        rw [e]
        exact de_sset C.calm (gl_of C hx) (C.bltn _ (by decide)) (gl_of C h1) (C.bltn _ (by decide)) (hf _ _ ha) (star_cons h2)
      · cases h
    · cases h
  · rename_i y p2 a b pos2
    split at h
    · rename_i hc
      simp only [Bool.and_eq_true, decide_eq_true_eq] at hc
      obtain ⟨rfl, rfl, h1, h2, h3⟩ := hc
      split at h
      · rename_i a' b' ha hb
        cases h
        have e : (fun n => den g n (.lrng [a', b'])) = lrngF (fun n => den g n a') (fun n => den g n b') := by funext n ρ S; simp only [den, denL]
        rw [e]
        exact de_lrng C.calm (gl_of C hx) (C.bltn _ (by decide)) (gl_of C h1) (C.bltn _ (by decide)) (hf _ _ ha) (hf _ _ hb) (star_cons h2) (star_cons h3) (star_any (by rw [List.all_cons, h3]; rfl))
      · cases h
    · cases h
  · cases h
theorem cCall_ok (C : Cok Γ g X W) (hf : ∀ e e', f e = some e' → PE X e (tE X.kw W fun n => den g n e')) {x : Str} {p : Pos} {args : List Expr} {e' : E} (h : cCall Γ f x args = some e') :
    PE X (.Call (.Name x p) args [] pos) (tE X.kw W fun n => den g n e') := by
  unfold cCall at h
  split at h
  · rename_i hx
    rw [Bool.and_eq_true, Bool.not_eq_true'] at hx
    obtain ⟨hx, hd⟩ := hx
    split at h
    · rename_i hfn
      split at h
      · rename_i es hes
        cases h
        obtain ⟨i1, i2, i3⟩ := cList_ok hf hes
        cases eF : g.F x with
        | none => exact pe_bad fun n ρ S => by simp only [den, eF]
        | some Fu =>
          have e : (fun n => den g n (.call x es)) = appF (fun n => denL g n es) Fu := by funext n ρ S; simp only [den, eF]
          rw [e]
          cases args with
          | nil =>
            cases es with
            | nil =>
              have e2 : (fun n => denL g n []) = fun _ _ S => .ok [] S := by funext n ρ S; simp only [denL]
              rw [e2]
              exact de_call0 C.tk (C.F _ _ eF) (gl_of C hx) hd
            | cons _ _ => cases i3
          | cons a r =>
            rw [List.all_cons, Bool.and_eq_true] at i2
            exact de_call C.tk (C.F _ _ eF) (gl_of C hx) hd i1 (star_cons i2.1) (star_any i2.2)
      · cases h
    · split at h
      · rename_i ei
        subst ei
        split at h
        · rename_i a t p2
          split at h
          · rename_i ty a' h1 h2 h3 h4
            cases h
            obtain ⟨t1, t2, t3, t4⟩ := ty_ok h3
            have e : (fun n => den g n (.isi ty a')) = isiF ty (fun n => den g n a') := by funext n ρ S; simp only [den]
            rw [e]
            exact de_isi (gl_of C hx) (C.bltn _ (by decide)) (gl_of C h2) (C.bltn _ t4) t1 t2 t3 (hf _ _ h4) (star_cons h1)
          · cases h
        · cases h
      · split at h
        · rename_i e0 hs
          cases h
          exact sSet_ok C hf hx hs
        · split at h
          · rename_i b e es h1 h2
            cases h
            obtain ⟨i1, i2, i3⟩ := cList_ok hf h2
            cases args with
            | nil => cases i3
            | cons a r =>
              rw [List.all_cons, Bool.and_eq_true] at i2
              obtain ⟨hb, hn⟩ := blt_ok C h1
              have e0 : (fun n => den g n (.blt b (e :: es))) = appF (fun n => denL g n (e :: es)) (bltF b) := by funext n ρ S; simp only [den]
              rw [e0]
              rcases hb with ⟨id, b1, b2⟩ | ⟨T, b1, b2⟩
              · exact de_blt (no_blt b) (pe_callB b2 (gl_of C hx) (C.bltn _ (blt_mem h1)) b1 i1 hn hd (star_cons i2.1) (star_any i2.2)) fun σ H Q q => q
              · exact de_blt (no_blt b) (pe_callTy b2 (gl_of C hx) (C.bltn _ (blt_mem h1)) b1 i1 hn hd (star_cons i2.1) (star_any i2.2)) fun σ H Q q => q
          · cases h
  · cases h
theorem srcL1 {k : ItK} {e : E} : (fun n ρ S => srcF k (denL g n [e] ρ S)) = fun n ρ S => srcF k (consF (fun n => den g n e) (fun _ _ S => .ok [] S) n ρ S) := by funext n ρ S; simp only [denL]
theorem cIt_ok (C : Cok Γ g X W) (hf : ∀ e e', f e = some e' → PE X e (tE X.kw W fun n => den g n e')) {tg e : Expr} {k : ItK} {it : List E} (h : cIt Γ f e = some (k, it)) : PI X tg e (tI X.kw W fun n ρ S => srcF k (denL g n it ρ S)) := by
  have hs : ∀ e', f e = some e' → PI X tg e (tI X.kw W fun n ρ S => srcF .seq (denL g n [e'] ρ S)) := fun e' he => by
    rw [srcL1]; exact di_seq (hf _ _ he)
  have hone : ∀ es', es'.length = 1 → ∀ n ρ S ds S', denL g n es' ρ S = .ok ds S' → ∃ d, ds = [d] := fun es' hl n ρ S ds S' e => by
    match es', hl with
    | [a], _ =>
      simp only [denL] at e
      obtain ⟨d, S1, _, e2⟩ := bind_ok e
      obtain ⟨d2, S2, e3, e4⟩ := bind_ok e2
      cases e3; cases e4
      exact ⟨_, rfl⟩
  have htwo : ∀ es', es'.length = 2 → ∀ n ρ S ds S', denL g n es' ρ S = .ok ds S' → ∃ d d2, ds = [d, d2] := fun es' hl n ρ S ds S' e => by
    match es', hl with
    | [a, b], _ =>
      simp only [denL] at e
      obtain ⟨d, S1, _, e2⟩ := bind_ok e
      obtain ⟨d2, S2, e3, e4⟩ := bind_ok e2
      obtain ⟨d3, S3, e5, e6⟩ := bind_ok e3
      obtain ⟨d4, S4, e7, e8⟩ := bind_ok e6
      cases e7; cases e8; cases e4
      exact ⟨_, _, rfl⟩
  unfold cIt at h
  split at h
  · rename_i x p a pos
    split at h
    · rename_i hc
      simp only [Bool.and_eq_true, decide_eq_true_eq] at hc
      obtain ⟨⟨rfl, h1⟩, h2⟩ := hc
      split at h
      · rename_i es he
        cases h
        obtain ⟨i1, i2, i3⟩ := cList_ok hf he
        rw [List.all_cons, Bool.and_eq_true] at i2
        exact di_rng1 (gl_of C h1) (C.bltn _ (by decide)) i1 (star_cons i2.1) (hone _ i3)
      · cases h
    · split at h
      · rename_i he; cases h; exact hs _ he
      · cases h
  · rename_i x p a b pos
    split at h
    · rename_i hc
      simp only [Bool.and_eq_true, decide_eq_true_eq] at hc
      obtain ⟨⟨rfl, h1⟩, h2⟩ := hc
      split at h
      · rename_i es he
        cases h
        obtain ⟨i1, i2, i3⟩ := cList_ok hf he
        rw [List.all_cons, Bool.and_eq_true, List.all_cons, Bool.and_eq_true] at i2
        exact di_rng2 (gl_of C h1) (C.bltn _ (by decide)) i1 (by rw [star_cons i2.1, star_cons i2.2.1]; rfl) (star_cons i2.2.1) (htwo _ i3)
      · cases h
    · split at h
      · rename_i he; cases h; exact hs _ he
      · cases h
  · split at h
    · rename_i he; cases h; exact hs _ he
    · cases h
theorem loc_ok {x : Str} (C : Cok Γ g X W) (h : locC Γ x = true) : Loc X.env.scope x ∧ (X.fn x = true ∨ X.env.scope.names.lookup x = some .local) := by
  rw [C.sc]
  unfold locC at h
  split at h
  · rename_i e; exact ⟨.inl e, .inr e⟩
  · rename_i e; exact ⟨.inr e, .inl (C.fn h x)⟩
  · cases h
theorem cTg_ok (C : Cok Γ g X W) : ∀ n, (∀ e t, cTg Γ n e = some t → PG X e (tG X.kw t)) ∧ (∀ es ts, cTgs Γ n es = some ts → es.all noStar = true → PGs X es (tGs X.kw ts) ∧ ts.length = es.length)
  | 0 => ⟨fun e t h => (by unfold cTg at h; cases h), fun e t h => (by unfold cTgs at h; cases h)⟩
  | n + 1 => by
    obtain ⟨i1, i2⟩ := cTg_ok C n
    refine ⟨fun e t h => ?_, fun es ts h hs => ?_⟩
    · unfold cTg at h
      split at h
      · rename_i x p
        split at h
        · rename_i hl
          split at h
          · rename_i i hi
            cases h
            obtain ⟨l1, l2⟩ := loc_ok C hl
            exact dg_name (by rw [C.N]; exact C.nd) (by rw [C.N]; exact ixOf_ok hi) l1 l2
          · cases h
        · cases h
      · rename_i es k p
        split at h
        · rename_i ts h1 h2
          cases h
          obtain ⟨j1, j2⟩ := i2 _ _ h2 h1
          obtain ⟨l1, l2⟩ := asg_len (env := X.env) h1
          exact dg_tup C.calm j1 (by rw [l1, j2]) l2
        · cases h
      · cases h
    · unfold cTgs at h
      split at h
      · cases h; exact ⟨dgs_nil, rfl⟩
      · rename_i e es
        rw [List.all_cons, Bool.and_eq_true] at hs
        split at h
        · rename_i t ts h1 h2
          cases h
          obtain ⟨j1, j2⟩ := i2 _ _ h2 hs.2
          exact ⟨dgs_cons (i1 _ _ h1) j1 (by rw [asg_cons hs.1]; rfl), by simp [j2]⟩
        · cases h
end
end Dq
set_option Elab.async false
set_option linter.all false
set_option maxRecDepth 100000
set_option maxHeartbeats 4000000
/-! Dp16: all expressions. -/
namespace Dq
open PySem PySem.Spec PyProof.Rows
open L2 hiding St
section
variable {Γ : Cn} {g : Gm} {X : Cx} {W : WX} {pos : Pos}
theorem Cok.blk (C : Cok Γ g X W) {scope : Scope} {own : List (Str × Nat)} (ok : BlkOk X.N X.env.scope scope own) (s : Shared) (H : Hp) (D : Addr) (cl : List (Str × Addr)) (fp : List Addr) : Cok (Γ.blk scope) g (X.blk s H scope (compEnvC scope cl D X.env) fp) WF where
  N := C.N
  nd := C.nd
  sc := by
    show relS scope X.env.scope = relS scope Γ.sc
    rw [C.sc]
  kind := ok.kind
  calm := C.calm
  fn := fun h => nomatch (show false = true from h)
  tk := fun u s' ⟨a, B, sI, pins, σ, H, cls, d, e, I, nb, up, sky, na, os, ag, w⟩ => w.elim
  units := C.units
  F := fun f Fu h => ⟨(C.F f Fu h).ex⟩
  C := C.C
  bltn := C.bltn
theorem subN_ok {xs ys : List Nat} (h : subN xs ys = true) : ∀ i ∈ xs, i ∈ ys := fun i hi => by
  unfold subN at h
  have := List.all_eq_true.mp h i hi
  simpa using this
theorem SemT_bool {fa : SemE} {ff : SemB} (h : ∀ n ρ S, ff n ρ S = tst (fa n ρ S)) : ff = SemT fa := by funext n ρ S; exact h n ρ S
theorem cLc_ok {n : Nat} (ih : ∀ Γ g X W e e', Cok Γ g X W → cE n Γ e = some e' → SE g X W e e') (C : Cok Γ g X W) {elt tg iter : Expr} {ifs : List Expr} {scope : Scope} {e' : E}
    (h : cLc (cTg (Γ.blk scope) n) (cIt Γ (cE n Γ)) (cE n (Γ.blk scope)) Γ elt tg iter ifs scope = some e') : PE X (.ListComp elt [⟨tg, iter, ifs, 0⟩] scope pos) (tE X.kw W fun n => den g n e') ∧ ∃ t k it ifs' elt', e' = .lc (ownOf Γ.N scope) t k it ifs' elt' ∧
      ∀ (i : Nat) (y : Str) (py spos : Pos), X.N[i]? = some y → X.env.scope.names.lookup y = some .local → swapsWith (.ListComp elt [⟨tg, iter, ifs, 0⟩] scope pos) (some (.Name y py)) spos.line X.env = pure true →
        PS X (.Assign [.Name y py] (.ListComp elt [⟨tg, iter, ifs, 0⟩] scope pos) spos) (tS X.kw W (asgF (fun n => den g n e') fun d _ ρ S => .ok (ρ.set i (some d)) S)) := by
  unfold cLc at h
  split at h
  · rename_i hb
    rw [Bool.and_eq_true] at hb
    have ok : BlkOk X.N X.env.scope scope (ownOf Γ.N scope) := by rw [C.N, C.sc]; exact blkOk_by hb.1
    split at h
    · rename_i t k it elt' h1 h2 h3
      split at h
      · rename_i hs
        have hsl := subN_ok hs
        have hi : PI X tg iter (tI X.kw W fun n ρ S => srcF k (denL g n it ρ S)) := cIt_ok C (fun e e' he => (ih _ _ _ _ _ _ C he).1) h2
        have hg : ∀ (s : Shared) (H : Hp) (D : Addr) (cl : List (Str × Addr)) (fp : List Addr), PG (X.blk s H scope (compEnvC scope cl D X.env) fp) tg (tG X.kw t) := fun s H D cl fp => (cTg_ok (C.blk ok s H D cl fp) n).1 _ _ h1
        have he : ∀ (s : Shared) (H : Hp) (D : Addr) (cl : List (Str × Addr)) (fp : List Addr), PE (X.blk s H scope (compEnvC scope cl D X.env) fp) elt (tE X.kw WF fun n => den g n elt') := fun s H D cl fp => (ih _ _ _ _ _ _ (C.blk ok s H D cl fp) h3).1
        have hN : X.N.Nodup := by rw [C.N]; exact C.nd
        split at h
        · cases h
          have e : (fun n => den g n (.lc (ownOf Γ.N scope) t k it none elt')) = lcF (fun n ρ S => srcF k (denL g n it ρ S)) ((ownOf Γ.N scope).map (·.2)) t (fun n ρ S => denIf g n none ρ S) (fun n => den g n elt') := by funext n ρ S; simp only [den] <;> rfl
          have ht : ∀ (s : Shared) (H : Hp) (D : Addr) (cl : List (Str × Addr)) (fp : List Addr), PTs (X.blk s H scope (compEnvC scope cl D X.env) fp) [] (tT X.kw WF fun n ρ S => denIf g n none ρ S) := fun s H D cl fp =>
            ⟨fun pins s σ H Q I ⟨μ, S, bs, ρ, R, E, q⟩ => pts_nil.run pins s σ H Q I (by
              have q' : End X.kw WF bs H μ σ.length RB Q (.ok true S) := by simpa only [denIf] using q
              exact q'.ok R rfl)⟩
          rw [e]
          exact ⟨de_lc C.calm hN hi ok hsl hg ht he (folded_of hb.2 _), t, k, it, none, elt', rfl, fun i y py spos e1 e2 e3 => ds_setLc C.calm hN e1 e2 e3 hi ok hsl hg ht he (folded_of hb.2 _)⟩
        · rename_i c
          split at h
          · rename_i c' hc
            cases h
            have e : (fun n => den g n (.lc (ownOf Γ.N scope) t k it (some c') elt')) = lcF (fun n ρ S => srcF k (denL g n it ρ S)) ((ownOf Γ.N scope).map (·.2)) t (fun n ρ S => denIf g n (some c') ρ S) (fun n => den g n elt') := by funext n ρ S; simp only [den] <;> rfl
            have e2 : (fun n ρ S => denIf g n (some c') ρ S) = SemT (fun n => den g n c') := by funext n ρ S; simp only [denIf]
            have ht : ∀ (s : Shared) (H : Hp) (D : Addr) (cl : List (Str × Addr)) (fp : List Addr), PTs (X.blk s H scope (compEnvC scope cl D X.env) fp) [c] (tT X.kw WF fun n ρ S => denIf g n (some c') ρ S) := fun s H D cl fp => by
              rw [e2]
              exact pts_one (ih _ _ _ _ _ _ (C.blk ok s H D cl fp) hc).2
            rw [e]
            exact ⟨de_lc C.calm hN hi ok hsl hg ht he (folded_of hb.2 _), t, k, it, some c', elt', rfl, fun i y py spos e1 e2 e3 => ds_setLc C.calm hN e1 e2 e3 hi ok hsl hg ht he (folded_of hb.2 _)⟩
          · cases h
        · cases h
      · cases h
    · cases h
  · cases h
theorem meth_line {cpos : Pos} {a : Expr} {env : Env} (h : noStar a = true) : ((backTo cpos (starEach (a :: []) env)).all (fun x => !x.1) && (backToKw cpos (keywordEach [] env)).all (fun x => x.1.isSome)
      && decide ((a :: ([] : List Expr)).length + ([] : List Keyword).length + (if ([] : List Keyword).isEmpty then 0 else 1) < 30)) = true := by
  rw [star_cons h]
  rfl
theorem plain_ix {b : Expr} (h : notSlice b = true) : PlainIx b := by cases b <;> first | (exact fun _ _ => rfl) | cases h
theorem cE_ok : ∀ n Γ g X W e e', Cok Γ g X W → cE n Γ e = some e' → SE g X W e e'
  | 0, _, _, _, _, _, _, _, h => by unfold cE at h; cases h
  | n + 1, Γ, g, X, W, e, e', C, h => by
    have ih := cE_ok n
    have f1 : ∀ e e', cE n Γ e = some e' → PE X e (tE X.kw W fun n => den g n e') := fun e e' he => (ih _ _ _ _ _ _ C he).1
    have f2 : ∀ e e', cE n Γ e = some e' → SE g X W e e' := fun e e' he => ih _ _ _ _ _ _ C he
    have hu : X.A.units + 65 < cLine := by have := C.units; omega
    unfold cE at h
    split at h
    · exact cName_ok C h
    · cases h
      have e : (fun n => den g n .non) = fun _ _ S => .ok .non S := by funext n ρ S; simp only [den]
      exact .plain (by rw [e]; exact de_const pe_non fun _ _ => .non) fun _ => rfl
    · rename_i k _ _
      cases h
      have e : (fun n => den g n (.bl k)) = fun _ _ S => .ok (.bl k) S := by funext n ρ S; simp only [den]
      exact .plain (by rw [e]; exact de_const pe_bl fun _ _ => .bl k) fun _ => rfl
    · rename_i k _ _
      cases h
      have e : (fun n => den g n (.int k)) = fun _ _ S => .ok (.int k) S := by funext n ρ S; simp only [den]
      exact .plain (by rw [e]; exact de_const pe_int fun _ _ => .int k) fun _ => rfl
    · rename_i k _ _
      cases h
      have e : (fun n => den g n (.str k)) = fun _ _ S => .ok (.str k) S := by funext n ρ S; simp only [den]
      exact .plain (by rw [e]; exact de_const pe_str fun _ _ => .str k) fun _ => rfl
    · -- BinOp
      split at h
      · rename_i o a' b' h1 h2 h3
        cases h
        have e : (fun n => den g n (.bin o a' b')) = op2F (binF o) (fun n => den g n a') (fun n => den g n b') := by funext n ρ S; simp only [den]
        exact .plain (by rw [e]; exact de_bin (op_bin h1) (f1 _ _ h2) (f1 _ _ h3)) fun _ => rfl
      · cases h
    · -- is None
      split at h
      · rename_i a' h1
        cases h
        have e : (fun n => den g n (.isN false a')) = isNF false (fun n => den g n a') := by funext n ρ S; simp only [den]
        unfold SE
        rw [e]
        exact ⟨de_isN (f1 _ _ h1), dt_isN (f1 _ _ h1)⟩
      · cases h
    · split at h
      · rename_i a' h1
        cases h
        have e : (fun n => den g n (.isN true a')) = isNF true (fun n => den g n a') := by funext n ρ S; simp only [den]
        unfold SE
        rw [e]
        exact ⟨de_notN (f1 _ _ h1), dt_notN (f1 _ _ h1)⟩
      · cases h
    · -- compare
      split at h
      · rename_i o a' b' h1 h2 h3 h4
        cases h
        have e : (fun n => den g n (.cmp o a' b')) = op2F (cmpF o) (fun n => den g n a') (fun n => den g n b') := by funext n ρ S; simp only [den]
        unfold SE
        rw [e]
        exact ⟨de_cmp (op_cmp C h1) (f1 _ _ h2) (f1 _ _ h3) (marks_of h4), dt_cmp (op_cmp C h1) (f1 _ _ h2) (f1 _ _ h3) (marks_of h4)⟩
      · cases h
    · -- chain
      split at h
      · rename_i a' b' c' h1 h2 h3 h4
        cases h
        have e : (fun n => den g n (.chain a' b' c')) = chainF (fun n => den g n a') (fun n => den g n b') (fun n => den g n c') := by funext n ρ S; simp only [den] <;> rfl
        unfold SE
        rw [e]
        exact ⟨de_chain (f1 _ _ h1) (f1 _ _ h2) (f1 _ _ h3) (marks_of h4), dt_chain (f1 _ _ h1) (f1 _ _ h2) (f1 _ _ h3) (marks_of h4)⟩
      · cases h
    · have := cAnd_ok (pos := by assumption) f2 h
      exact ⟨this.1, this.2.pt⟩
    · have := cOr_ok (pos := by assumption) f2 h
      exact ⟨this.1, this.2.pt⟩
    · -- not
      split at h
      · rename_i a' h1
        cases h
        have e : (fun n => den g n (.not a')) = notF (fun n => den g n a') := by funext n ρ S; simp only [den]
        unfold SE
        rw [e]
        exact ⟨de_not (f1 _ _ h1), pt_imp (pt_not (f2 _ _ h1).2) fun σ H Q q => not_tst q⟩
      · cases h
    · -- ite
      split at h
      · rename_i c' a' b' h1 h2 h3
        cases h
        have e : (fun n => den g n (.ite c' a' b')) = iteF (fun n => den g n c') (fun n => den g n a') (fun n => den g n b') := by funext n ρ S; simp only [den]
        unfold SE
        rw [e]
        exact ⟨de_ite (f2 _ _ h1).2 (f1 _ _ h2) (f1 _ _ h3), dt_ite (f2 _ _ h1).2 (f2 _ _ h2).2 (f2 _ _ h3).2⟩
      · cases h
    · split at h
      · rename_i es' h1
        cases h
        have e : (fun n => den g n (.tup es')) = tupF (fun n => denL g n es') := by funext n ρ S; simp only [den]
        exact .plain (by rw [e]; exact de_tup (cList_ok f1 h1).1) fun _ => rfl
      · cases h
    · split at h
      · rename_i es' h1
        cases h
        have e : (fun n => den g n (.lst es')) = lstF (fun n => denL g n es') := by funext n ρ S; simp only [den]
        exact .plain (by rw [e]; exact de_lst (cList_ok f1 h1).1) fun _ => rfl
      · cases h
    · -- an empty dict
      cases h
      have e : (fun n => den g n (.dict [])) = fun _ _ S => .ok (.loc S.length) (S ++ [.dic []]) := by
        funext n ρ S
        have hk : (S ++ [Cell.dic []])[S.length]? = some (.dic []) := by simp
        simp only [den, denL, Out.bind, mkKeys, hk, mergeG, List.foldl_nil, List.length_nil]
        rw [if_pos (by rfl)]
        congr 1
        rw [List.set_append_right _ _ (Nat.le_refl _), Nat.sub_self]; rfl
      exact .plain (by rw [e]; exact de_dict0) fun _ => rfl
    · -- dict
      split at h
      · rename_i es' h1 h2 h3
        cases h
        obtain ⟨⟨trs, i1, i2⟩, i3, i4⟩ := cPairs_ok (pos := by assumption) f1 h1
        have e : (fun n => den g n (.dict es')) = dictF2 (fun n => denL g n es') := by funext n ρ S; simp only [den] <;> rfl
        exact .plain (by rw [e]; exact de_dict2 hu i1 i2 i3 i4 (fun z => by rw [z] at h2; cases h2) (Nat.le_of_ble_eq_true h3)) fun _ => rfl
      · cases h
    · -- slice
      split at h
      · rename_i a' l hh h1 h2 h3
        cases h
        have e : (fun n => den g n (.sl a' l hh)) = sliF (fun n => den g n a') (fun n => denO g n l) (fun n => denO g n hh) := by funext n ρ S; simp only [den]
        exact .plain (by rw [e]; exact de_sl (f1 _ _ h1) (cOpt_ok f1 h2) (cOpt_ok f1 h3)) fun _ => rfl
      · cases h
    · -- subscript
      split at h
      · rename_i a' b' h1 h2 h3
        cases h
        have e : (fun n => den g n (.ix a' b')) = op2F (alt2 ixD gixD) (fun n => den g n a') (fun n => den g n b') := by funext n ρ S; simp only [den]
        exact .plain (by rw [e]; exact de_ix hu (f1 _ _ h1) (f1 _ _ h2) (plain_ix h3)) fun _ => rfl
      · cases h
    · exact .plain (cCall_ok C f1 h) fun _ => rfl
    · -- a method
      rename_i o m apos a cpos
      split at h
      · rename_i m' o' a' h1 h2 h3 h4
        cases h
        rw [Bool.and_eq_true, Bool.and_eq_true] at h4
        obtain ⟨k1, k2, k3⟩ := h4
        have e : (fun n => den g n (.mth m' o' [a'])) = metF m' (fun n => den g n o') (fun n => denL g n [a']) := by funext n ρ S; simp only [den]
        have eL : (fun n => denL g n [a']) = consF (fun n => den g n a') (fun _ _ S => .ok [] S) := by funext n ρ S; simp only [denL]
        have hA : PA X [a] (tA X.kw W fun n => denL g n [a']) := by rw [eL]; exact da_cons (f1 _ _ h3) da_nil (star_cons k1)
        refine .plain ?_ fun _ => rfl
        rw [e]
        unfold cMth at h1
        split at h1
        · rename_i em
          subst em
          cases h1
          exact de_mth PySem.F.slot_list_append PySem.F.type_list_append app_D (f1 _ _ h2) hA (base_of k2) (meth_line k1) k3 (star_cons k1) rfl
        · split at h1
          · rename_i em
            subst em
            cases h1
            exact de_mth PySem.F.slot_list_index PySem.F.type_list_index (idx_D hu) (f1 _ _ h2) hA (base_of k2) (meth_line k1) k3 (star_cons k1) rfl
          · cases h1
      · cases h
    · exact .plain (cLc_ok ih C h).1 fun _ => rfl
    · cases h
end
end Dq
set_option Elab.async false
set_option linter.all false
set_option maxRecDepth 100000
set_option maxHeartbeats 4000000
/-! Dp17: statements, compiled. -/
namespace Dq
open PySem PySem.Spec PyProof.Rows
open L2 hiding St

structure CokS (Γ : Cn) (g : Gm) (X : Cx) (W : WX) : Prop where
  e : Cok Γ g X W
  pass : PassesOwn (model X.prog X.w) X.A X.env X.xe
  stk : X.stack = X.env :: X.outer
  frame : X.env.frame = some X.env.locals
  exc : ∀ x, Γ.excs.contains x = true → ExcIs X x
  X : ∀ x h b, g.X x h = some b → PySem.W.exmOne X.kw (.ref (He.ga X.kw x)) (.ref (He.ga X.kw h)) = some b
def notComp : Expr → Bool
  | .ListComp .. => false
  | .SetComp .. => false
  | .DictComp .. => false
  | _ => true
theorem swn_of {e : Expr} {o : Option Expr} {l : Nat} {env : Env} (h : notComp e = true) : swapsWith e o l env = pure false := by cases e <;> first | rfl | cases h
def isStar : Expr → Bool
  | .Starred .. => true
  | _ => false
def nmOf (sc : Scope) (line : Nat) : Expr → Option Str
  | .Name id pos => if sc.names.lookup id == some .local && pos.line == line then some id else none
  | _ => none
/-- such stores are not swapped -/
def noneC (sc : Scope) (ts vs : List Expr) : Bool := (!(ts.length == 2 || ts.length == 3) || vs.length != ts.length) || (vs.any isStar || (((ts.filterMap (nmOf sc ((ts.head?.map (·.pos.line)).getD 0))).length != ts.length) || vs.all (foldedForSure 8)))
theorem sw_red {ts vs : List Expr} {k k2 : Nat} {p p2 : Pos} {env : Env} (hk : env.scope.kind = .function) : swappedStores [.Tuple ts k p] (.Tuple vs k2 p2) env =
    (if (!(ts.length == 2 || ts.length == 3) || vs.length != ts.length || false) = true then pure none
    else if vs.any isStar = true then pure none
    else if ((ts.filterMap (nmOf env.scope ((ts.head?.map (·.pos.line)).getD 0))).length != ts.length || (ts.filterMap (nmOf env.scope ((ts.head?.map (·.pos.line)).getD 0))).eraseDups.length != (ts.filterMap (nmOf env.scope ((ts.head?.map (·.pos.line)).getD 0))).length) = true then pure none
    else if vs.all (foldedForSure 8) = true then pure none
    else if vs.all (constantsAlone 8) = true then (do unsupported "assign.tuple-of-constant-expressions:order-of-the-stores"; pure (some (ts.filterMap (nmOf env.scope ((ts.head?.map (·.pos.line)).getD 0)))))
    else pure (some (ts.filterMap (nmOf env.scope ((ts.head?.map (·.pos.line)).getD 0))))) := by
  have hb : env.blockKind = .function := by unfold Env.blockKind; rw [hk]; rfl
  unfold swappedStores
  dsimp only
  rw [hb]
  rfl
theorem sw_none {ts vs : List Expr} {k k2 : Nat} {p p2 : Pos} {env : Env} (hk : env.scope.kind = .function) (h : noneC env.scope ts vs = true) : swappedStores [.Tuple ts k p] (.Tuple vs k2 p2) env = pure none := by
  rw [sw_red hk]
  unfold noneC at h
  split
  · rfl
  rename_i h1
  split
  · rfl
  rename_i h2
  split
  · rfl
  rename_i h3
  split
  · rfl
  rename_i h4
  simp only [Bool.or_false, Bool.or_eq_true, not_or, Bool.not_eq_true] at h1 h2 h3 h4
  rw [h1.1, h1.2, h2, h3.1, h4] at h
  cases h
/-- two, three names: the stores are swapped -/
def someC (sc : Scope) (ts vs : List Expr) : Option (List Str) :=
  if ((!(ts.length == 2 || ts.length == 3) || vs.length != ts.length || false) || (vs.any isStar || (((ts.filterMap (nmOf sc ((ts.head?.map (·.pos.line)).getD 0))).length != ts.length || (ts.filterMap (nmOf sc ((ts.head?.map (·.pos.line)).getD 0))).eraseDups.length != (ts.filterMap (nmOf sc ((ts.head?.map (·.pos.line)).getD 0))).length)
    || (vs.all (foldedForSure 8) || vs.all (constantsAlone 8))))) = true then none else some (ts.filterMap (nmOf sc ((ts.head?.map (·.pos.line)).getD 0)))
theorem sw_some {ts vs : List Expr} {ns : List Str} {k k2 : Nat} {p p2 : Pos} {env : Env} (hk : env.scope.kind = .function) (h : someC env.scope ts vs = some ns) : swappedStores [.Tuple ts k p] (.Tuple vs k2 p2) env = pure (some ns) := by
  rw [sw_red hk]
  unfold someC at h
  split at h
  · cases h
  · rename_i hc
    cases h
    simp only [Bool.or_eq_true, not_or, Bool.not_eq_true] at hc
    obtain ⟨⟨⟨h1, h2⟩, h3⟩, h4, ⟨h5, h6⟩, h7, h8⟩ := hc
    rw [h1, h2, h4, h5, h6, h7, h8]
    rfl
/-- name = [..] on one line: the name's own last value is still seen -/
def swB (sc : Scope) (e : Expr) (tg : Expr) : Bool := match e with
  | .ListComp _ _ s p => (match tg with
    | .Name t pos => sc.names.lookup t == some .local && pos.line == p.line && !(s.names.any fun (n, k) => n == t && (k == .local || k == .cell))
    | _ => false)
  | _ => false
def notSD : Expr → Bool
  | .SetComp .. => false
  | .DictComp .. => false
  | _ => true
theorem sw_of {e tg : Expr} {l : Nat} {env : Env} (hk : env.scope.kind = .function) (h : notSD e = true) : swapsWith e (some tg) l env = pure (swB env.scope e tg) := by
  have hb : env.blockKind = .function := by unfold Env.blockKind; rw [hk]; rfl
  cases e <;> first | rfl | cases h | skip
  cases tg <;> first | rfl | skip
  unfold swapsWith
  dsimp only
  rw [hb]
  rfl
end Dq
set_option Elab.async false
set_option linter.all false
set_option maxRecDepth 100000
set_option maxHeartbeats 4000000
/-! Dp18: the compiled statements mean what the text's do. -/
namespace Dq
open PySem PySem.Spec PyProof.Rows
open L2 hiding St

mutual
def cG (Γ : Cn) : Nat → Expr → Option G
  | 0, _ => none
  | n + 1, e => (match e with
    | .Name x _ => if locC Γ x = true then (match ixOf Γ.N x with
      | some i => some (.name i)
      | none => none) else none
    | .Tuple es _ _ => (match es.all noStar, cGs Γ n es with
      | true, some ts => some (.tup ts)
      | _, _ => none)
    | .Subscript o i _ => (match cE n Γ o, cE n Γ i, notSlice i with
      | some o', some i', true => some (.sub o' i')
      | _, _, _ => none)
    | _ => none)
def cGs (Γ : Cn) : Nat → List Expr → Option (List G)
  | 0, _ => none
  | n + 1, es => (match es with
    | [] => some []
    | e :: es => (match cG Γ n e, cGs Γ n es with
      | some t, some ts => some (t :: ts)
      | _, _ => none))
end
/-- several names: their slots -/
def ixAll (N : List Str) : List Str → Option (List Nat)
  | [] => some []
  | x :: r => (match ixOf N x, ixAll N r with
    | some i, some is => some (i :: is)
    | _, _ => none)
def nm2 (ts : List Expr) : Option (List Str) := match ts with
  | [.Name x _, .Name y _] => some [x, y]
  | [.Name x _, .Name y _, .Name z _] => some [x, y, z]
  | _ => none
def ne2 (is : List Nat) : Bool := match is with
  | [i, j] => i != j
  | [i, j, k] => i != j && (i != k && j != k)
  | _ => false
def locAll (sc : Scope) (ns : List Str) : Bool := ns.all fun x => match sc.names.lookup x with
  | some .local => true
  | _ => false
/-- one target, one value -/
def cAsg (n : Nat) (Γ : Cn) (tg e : Expr) : Option St :=
  if swB Γ.sc e tg = true then
    (match tg, e with
      | .Name y _, .ListComp elt [⟨tg', iter, ifs, 0⟩] scope _ => (match ixOf Γ.N y, cLc (cTg (Γ.blk scope) n) (cIt Γ (cE n Γ)) (cE n (Γ.blk scope)) Γ elt tg' iter ifs scope with
        | some i, some e' => some (.asg (.name i) e')
        | _, _ => none)
      | _, _ => none)
  else (match tg, e with
    | .Tuple ts _ _, .Tuple vs _ _ => if noneC Γ.sc ts vs = true then (match cG Γ n tg, cE n Γ e with
        | some t, some e' => some (.asg t e')
        | _, _ => none)
      else (match nm2 ts, someC Γ.sc ts vs, cList (cE n Γ) vs with
        | some ns, some ns', some es => if (decide (ns = ns') && locAll Γ.sc ns) = true then (match ixAll Γ.N ns with
            | some is => if ne2 is = true then some (.asg (.tup (is.map .name)) (.tup es)) else none
            | none => none) else none
        | _, _, _ => none)
    | _, _ => (match cG Γ n tg, cE n Γ e, noStar tg && notSD e with
        | some t, some e', true => some (.asg t e')
        | _, _, _ => none))
def cHds (Γ : Cn) : List ExceptHandler → Option (List (Str × Str))
  | [] => some []
  | .ExceptHandler (some (.Name h _)) none [.Return (some (.Constant (.str t) _ _)) _] _ :: r => if (gloC Γ.sc h && (!dbg h && Γ.excs.contains h)) = true then (match cHds Γ r with
      | some hs => some ((h, t) :: hs)
      | none => none) else none
  | _ => none
/-- e.items() on one line -/
def itemsB : Expr → Option Expr
  | .Call (.Attribute e x apos) [] [] cpos => if (decide (x = "items") && (apos.endLine == cpos.line && notSuper e)) = true then some e else none
  | _ => none
def isTup : Expr → Bool
  | .Tuple .. => true
  | _ => false
mutual
def cS : Nat → Cn → Stmt → Option St
  | 0, _, _ => none
  | n + 1, Γ, s => match s with
    | .Assign [tg] e _ => cAsg n Γ tg e
    | .Expr e _ => (match cE n Γ e, notComp e with
      | some e', true => some (.expr e')
      | _, _ => none)
    | .Return (some e) _ => (match cE n Γ e with
      | some e' => some (.ret e')
      | none => none)
    | .Return none _ => some .retN
    | .If c a b _ => (match cE n Γ c, cSs n Γ a, cSs n Γ b with
      | some c', some a', some b' => some (.ite c' a' b')
      | _, _, _ => none)
    | .Pass _ => some .pass
    | .Break _ => some .brk
    | .Continue _ => some .cont
    | .For tg it body [] _ => (match itemsB it with
      | some e => (match cTg Γ n tg, isTup tg, cE n Γ e, cSs n Γ body with
        | some t, true, some e', some b => some (.forD t e' b)
        | _, _, _, _ => none)
      | none => (match cTg Γ n tg, cIt Γ (cE n Γ) it, cSs n Γ body, notMarked it with
        | some t, some (k, it'), some b, true => some (.for_ t k it' b)
        | _, _, _, _ => none))
    | .While c body [] _ => (match cE n Γ c, cSs n Γ body with
      | some c', some b => some (.while_ c' b)
      | _, _ => none)
    | .Raise (some (.Call (.Name x _) [.Constant (.str _) _ _] [] _)) none _ => if (gloC Γ.sc x && (!dbg x && Γ.excs.contains x)) = true then some (.raise x) else none
    | .Try body (h :: hds) [] [] _ => (match cSs n Γ body, cHds Γ (h :: hds) with
      | some b, some hs => some (.try_ b (hdD hs))
      | _, _ => none)
    | _ => none
def cSs : Nat → Cn → List Stmt → Option (List St)
  | 0, _, _ => none
  | n + 1, Γ, ss => match ss with
    | [] => some []
    | s :: r => (match cS n Γ s, cSs n Γ r with
      | some s', some r' => some (s' :: r')
      | _, _ => none)
end
section
variable {Γ : Cn} {g : Gm} {X : Cx} {W : WX} {pos : Pos}
theorem ixAll_ok {N : List Str} : ∀ {ns : List Str} {is : List Nat}, ixAll N ns = some is → ns.length = is.length ∧ ∀ (k : Nat) (x : Str), ns[k]? = some x → ∃ i : Nat, is[k]? = some i ∧ N[i]? = some x
  | [], _, h => by cases h; exact ⟨rfl, fun k x e => by cases e⟩
  | x :: r, is, h => by
    unfold ixAll at h
    split at h
    · rename_i i is' h1 h2
      cases h
      obtain ⟨l, a⟩ := ixAll_ok h2
      refine ⟨by simp [l], fun k y e => ?_⟩
      cases k with
      | zero => cases e; exact ⟨i, rfl, ixOf_ok h1⟩
      | succ k => exact a k y e
    · cases h
theorem sub_asg {o i : Expr} {p : Pos} {env : Env} (h : notSlice i = true) : ∀ v, assign (.Subscript o i p) env v = (do
      let ov ← holding [v] (eval o env)
      let iv ← holding [v, ov] (eval i env)
      standAt p
      holding [v, ov, iv] (setItem ov iv v)
      release [v, ov, iv] []) := by cases i <;> first | (exact fun _ => rfl) | cases h
theorem cG_ok (C : Cok Γ g X W) : ∀ n, (∀ e t, cG Γ n e = some t → PG X e (tGG X.kw W fun d b ρ S => asgG g b t d ρ S)) ∧ (∀ es ts, cGs Γ n es = some ts → es.all noStar = true → PGs X es (tGGs X.kw W fun ds b ρ S => asgGs g b ts ds ρ S) ∧ ts.length = es.length)
  | 0 => ⟨fun e t h => (by unfold cG at h; cases h), fun e t h => (by unfold cGs at h; cases h)⟩
  | n + 1 => by
    obtain ⟨i1, i2⟩ := cG_ok C n
    refine ⟨fun e t h => ?_, fun es ts h hs => ?_⟩
    · unfold cG at h
      split at h
      · rename_i x p
        split at h
        · rename_i hl
          split at h
          · rename_i i hi
            cases h
            obtain ⟨l1, l2⟩ := loc_ok C hl
            have e : (fun d b ρ S => asgG g b (.name i) d ρ S) = fun d _ ρ S => .ok (ρ.set i (some d)) S := by funext d b ρ S; simp only [asgG]
            rw [e]
            exact dgg_name (by rw [C.N]; exact C.nd) (by rw [C.N]; exact ixOf_ok hi) l1 l2
          · cases h
        · cases h
      · rename_i es k p
        split at h
        · rename_i ts h1 h2
          cases h
          obtain ⟨j1, j2⟩ := i2 _ _ h2 h1
          obtain ⟨l1, l2⟩ := asg_len (env := X.env) h1
          have e : (fun d b ρ S => asgG g b (.tup ts) d ρ S) = fun d b ρ S => (match itemsOf d S with
            | some ds => (if Nat.beq ds.length ts.length = true then asgGs g b ts ds ρ S else .bad)
            | none => .bad) := by funext d b ρ S; simp only [asgG] <;> rfl
          rw [e]
          refine dgg_tup (fr := fun ds b ρ S => if Nat.beq ds.length ts.length = true then asgGs g b ts ds ρ S else .bad) C.calm (pgs_imp j1 fun us σ H Q ⟨μ, S, bs, ρ, ds, R, E, r, q⟩ => ⟨μ, S, bs, ρ, ds, R, E, r, ?_⟩) l1 l2 fun ds b ρ S hne => ?_
          · dsimp only at q
            split at q
            · exact q
            · exact q.elim
          · show (if Nat.beq ds.length ts.length = true then asgGs g b ts ds ρ S else .bad) = .bad
            rw [if_neg]
            intro hb
            exact hne (by rw [Nat.eq_of_beq_eq_true hb, j2])
        · cases h
      · rename_i o i p
        split at h
        · rename_i o' i' h1 h2 h3
          cases h
          have e : (fun d b ρ S => asgG g b (.sub o' i') d ρ S) = subF (fun n => den g n o') (fun n => den g n i') := by funext d b ρ S; simp only [asgG] <;> rfl
          rw [e]
          exact dgg_sub (by have := C.units; omega) (cE_ok _ _ _ _ _ _ _ C h1).1 (cE_ok _ _ _ _ _ _ _ C h2).1 (sub_asg h3)
        · cases h
      · cases h
    · unfold cGs at h
      split at h
      · cases h
        refine ⟨dggs_nil (fun b ρ S => by simp only [asgGs]) (fun d ds b ρ S => by simp only [asgGs]), rfl⟩
      · rename_i e es
        rw [List.all_cons, Bool.and_eq_true] at hs
        split at h
        · rename_i t ts h1 h2
          cases h
          obtain ⟨j1, j2⟩ := i2 _ _ h2 hs.2
          exact ⟨dggs_cons (fun b ρ S => by simp only [asgGs]) (fun d ds b ρ S => by simp only [asgGs]) (i1 _ _ h1) j1 (by rw [asg_cons hs.1]; rfl), by simp [j2]⟩
        · cases h
theorem cAsg_ok {n : Nat} (C : Cok Γ g X W) {tg e : Expr} {s' : St} (h : cAsg n Γ tg e = some s') : PS X (.Assign [tg] e pos) (tS X.kw W fun n => exe g n s') := by
  have hk : X.env.scope.kind = .function := by rw [C.sc]; exact C.kind
  have hN : X.N.Nodup := by rw [C.N]; exact C.nd
  have f1 : ∀ e e', cE n Γ e = some e' → PE X e (tE X.kw W fun n => den g n e') := fun e e' he => (cE_ok _ _ _ _ _ _ _ C he).1
  have hx : ∀ t e', (fun n => exe g n (.asg t e')) = asgF (fun n => den g n e') (fun d b ρ S => asgG g b t d ρ S) := fun t e' => by funext n ρ S; simp only [exe]
  unfold cAsg at h
  split at h
  · rename_i hsw
    split at h
    · rename_i y py elt tg' iter ifs scope lp
      split at h
      · rename_i i e' h1 h2
        cases h
        obtain ⟨_, t, k, it, ifs', elt', _, hs⟩ := cLc_ok (pos := lp) (cE_ok n) C h2
        have hl : X.env.scope.names.lookup y = some .local := by
          rw [C.sc]
          simp only [swB, Bool.and_eq_true, beq_iff_eq] at hsw
          exact hsw.1.1
        have e1 : (fun d b ρ S => asgG g b (.name i) d ρ S) = fun d _ ρ S => .ok (ρ.set i (some d)) S := by funext d b ρ S; simp only [asgG]
        rw [hx, e1]
        refine hs i y py pos (by rw [C.N]; exact ixOf_ok h1) hl ?_
        rw [sw_of hk rfl, C.sc, hsw]
      · cases h
    · cases h
  · rename_i hsw
    rw [Bool.not_eq_true] at hsw
    have norm : ∀ t e', cG Γ n tg = some t → cE n Γ e = some e' → noStar tg = true → notSD e = true → swappedStores [tg] e X.env = pure none → PS X (.Assign [tg] e pos) (tS X.kw W fun n => exe g n (.asg t e')) := fun t e' h1 h2 h3 h4 h5 => by
      rw [hx]
      refine ds_asg (f1 _ _ h2) ((cG_ok C n).1 _ _ h1) ?_ h5 (by rw [asg_cons h3]; rfl)
      show swapsWith e (some tg) pos.line X.env = pure false
      rw [sw_of hk h4, C.sc, hsw]
    split at h
    · rename_i ts tk tp vs vk vp
      split at h
      · rename_i hn
        split at h
        · rename_i t e' h1 h2
          cases h
          exact norm _ _ h1 h2 rfl rfl (sw_none hk (by rw [C.sc]; exact hn))
        · cases h
      · split at h
        · rename_i ns ns' es h1 h2 h3
          split at h
          · rename_i hc
            rw [Bool.and_eq_true, decide_eq_true_eq] at hc
            obtain ⟨rfl, hloc⟩ := hc
            split at h
            · rename_i is h4
              split at h
              · rename_i h5
                cases h
                have hw := sw_some (k := tk) (k2 := vk) (p := tp) (p2 := vp) hk (by rw [C.sc]; exact h2)
                have hsole : swapsWithSole [.Tuple ts tk tp] (.Tuple vs vk vp) pos.line X.env = pure false := rfl
                have hA := (cList_ok f1 h3).1
                have lens := (cList_ok f1 h3).2.2
                have hll : ∀ x ∈ ns, X.env.scope.names.lookup x = some .local := fun x hx => by
                  rw [C.sc]
                  have := List.all_eq_true.mp hloc x hx
                  split at this
                  · assumption
                  · cases this
                have et : (fun n => den g n (.tup es)) = tupF (fun n => denL g n es) := by funext n ρ S; simp only [den]
                have eg : ∀ gs : List G, (fun d b ρ S => asgG g b (.tup gs) d ρ S) = tgF (fun ds b ρ S => if Nat.beq ds.length gs.length = true then asgGs g b gs ds ρ S else .bad) := fun gs => by funext d b ρ S; simp only [asgG] <;> rfl
                have hlen : vs.length = ts.length := by
                  unfold someC at h2
                  split at h2
                  · cases h2
                  · rename_i hc
                    simp only [Bool.or_eq_true, not_or, Bool.not_eq_true] at hc
                    have := hc.1.1.2
                    simpa using this
                rw [hx, et, eg]
                unfold nm2 at h1
                split at h1
                · rename_i x px y py _
                  cases h1
                  obtain ⟨il, ia⟩ := ixAll_ok h4
                  match is, il with
                  | [i, j], _ =>
                    obtain ⟨_, e1, n1⟩ := ia 0 x rfl
                    cases e1
                    obtain ⟨_, e2, n2⟩ := ia 1 y rfl
                    cases e2
                    have hij : i ≠ j := by simpa [ne2] using h5
                    match vs, hlen with
                    | [a, b], _ =>
                      exact ds_par C.calm hN (by rw [C.N]; exact n1) (by rw [C.N]; exact n2) hij (hll x (by simp)) (hll y (by simp)) hA hw hsole (fun u v b ρ S => by simp [asgGs, asgG, Out.bind]) (fun ds b ρ S hne => by
                        rw [if_neg]
                        intro hb
                        exact hne (Nat.eq_of_beq_eq_true hb))
                · rename_i x px y py z pz _
                  cases h1
                  obtain ⟨il, ia⟩ := ixAll_ok h4
                  match is, il with
                  | [i, j, k], _ =>
                    obtain ⟨_, e1, n1⟩ := ia 0 x rfl
                    cases e1
                    obtain ⟨_, e2, n2⟩ := ia 1 y rfl
                    cases e2
                    obtain ⟨_, e3, n3⟩ := ia 2 z rfl
                    cases e3
                    have hij : i ≠ j ∧ i ≠ k ∧ j ≠ k := by simpa [ne2] using h5
                    match vs, hlen with
                    | [a, b, c], _ =>
                      exact ds_par3 C.calm hN (by rw [C.N]; exact n1) (by rw [C.N]; exact n2) (by rw [C.N]; exact n3) hij.1 hij.2.1 hij.2.2 (hll x (by simp)) (hll y (by simp)) (hll z (by simp)) hA hw hsole (fun u v w b ρ S => by simp [asgGs, asgG, Out.bind]) (fun ds b ρ S hne => by
                        rw [if_neg]
                        intro hb
                        exact hne (Nat.eq_of_beq_eq_true hb))
                · cases h1
              · cases h
            · cases h
          · cases h
        · cases h
    · rename_i hne
      split at h
      · rename_i t e' h1 h2 h3
        cases h
        rw [Bool.and_eq_true] at h3
        refine norm _ _ h1 h2 h3.1 h3.2 ?_
        cases tg <;> first | rfl | skip
        · -- a list of targets: not compiled
          cases n <;> (unfold cG at h1; cases h1)
        · cases e <;> first | rfl | exact (hne _ _ _ _ _ _ rfl rfl).elim
      · cases h
end
end Dq
set_option Elab.async false
set_option linter.all false
set_option maxRecDepth 100000
set_option maxHeartbeats 4000000
/-! Dp19: all statements. -/
namespace Dq
open PySem PySem.Spec PyProof.Rows
open L2 hiding St
section
variable {Γ : Cn} {g : Gm} {X : Cx} {W : WX} {pos : Pos}
theorem CokS.tr (C : CokS Γ g X W) {W' : WX} {pn : List (Addr × Obj)} {xe : Value → Shared → Prop} (tk : Takes (X.tr pn xe) W') (hp : PassesOwn (model X.prog X.w) X.A X.env xe) : CokS Γ g (X.tr pn xe) W' where
  e := { N := C.e.N, nd := C.e.nd, sc := C.e.sc, kind := C.e.kind, calm := C.e.calm, fn := C.e.fn, tk := tk, units := C.e.units, F := fun f Fu h => ⟨(C.e.F f Fu h).ex⟩, C := C.e.C, bltn := C.e.bltn }
  pass := hp
  stk := C.stk
  frame := C.frame
  exc := fun x h => ⟨(C.exc x h).is, (C.exc x h).keep, (C.exc x h).sub, (C.exc x h).ty, (C.exc x h).mg⟩
  X := C.X
theorem cHds_ok (C : CokS Γ g X W) : ∀ {hds : List ExceptHandler} {hs : List (Str × Str)}, cHds Γ hds = some hs → HdS X hds hs
  | [], hs, h => by cases h; exact .nil
  | _ :: r, hs, h => by
    unfold cHds at h
    split at h
    · rename_i heq; cases heq
    · rename_i x p t j p1 p2 p3 r' heq
      cases heq
      split at h
      · rename_i hc
        rw [Bool.and_eq_true, Bool.and_eq_true, Bool.not_eq_true'] at hc
        split at h
        · rename_i hs' h1
          cases h
          exact .cons (C.exc _ hc.2.2).mg (gl_of C.e hc.1) hc.2.1 (cHds_ok C h1)
        · cases h
      · cases h
    · cases h
theorem cS_ok : ∀ n, (∀ Γ g X W s s', CokS Γ g X W → cS n Γ s = some s' → PS X s (tS X.kw W fun n => exe g n s')) ∧ (∀ Γ g X W ss ss', CokS Γ g X W → cSs n Γ ss = some ss' → PSs X ss (tS X.kw W fun n => exes g n ss'))
  | 0 => ⟨fun _ _ _ _ _ _ _ h => (by unfold cS at h; cases h), fun _ _ _ _ _ _ _ h => (by unfold cSs at h; cases h)⟩
  | n + 1 => by
    obtain ⟨i1, i2⟩ := cS_ok n
    refine ⟨fun Γ g X W s s' C h => ?_, fun Γ g X W ss ss' C h => ?_⟩
    · have f1 : ∀ e e', cE n Γ e = some e' → PE X e (tE X.kw W fun n => den g n e') := fun e e' he => (cE_ok _ _ _ _ _ _ _ C.e he).1
      have f2 : ∀ e e', cE n Γ e = some e' → SE g X W e e' := fun e e' he => cE_ok _ _ _ _ _ _ _ C.e he
      unfold cS at h
      split at h
      · exact cAsg_ok C.e h
      · split at h
        · rename_i e' h1 h2
          cases h
          have e : (fun n => exe g n (.expr e')) = fun n ρ S => (den g n e' ρ S).bind fun _ S1 => .ok (.next ρ) S1 := by funext n ρ S; simp only [exe]
          rw [e]
          exact ds_expr (fa := fun n => den g n e') (f1 _ _ h1) (swn_of h2)
        · cases h
      · split at h
        · rename_i e' h1
          cases h
          have e : (fun n => exe g n (.ret e')) = fun n ρ S => (den g n e' ρ S).bind fun d S1 => .ok (.ret d) S1 := by funext n ρ S; simp only [exe]
          rw [e]
          exact ds_ret (fa := fun n => den g n e') (f1 _ _ h1)
        · cases h
      · cases h
        have e : (fun n => exe g n .retN) = fun n ρ S => .ok (.ret .non) S := by funext n ρ S; simp only [exe]
        rw [e]
        exact ds_retN
      · split at h
        · rename_i c' a' b' h1 h2 h3
          cases h
          have e : (fun n => exe g n (.ite c' a' b')) = ifF (fun n => den g n c') (fun n => exes g n a') (fun n => exes g n b') := by funext n ρ S; simp only [exe]
          rw [e]
          exact ds_if (f2 _ _ h1).2 (i2 _ _ _ _ _ _ C h2) (i2 _ _ _ _ _ _ C h3)
        · cases h
      · cases h
        have e : (fun n => exe g n .pass) = fun n ρ S => .ok (.next ρ) S := by funext n ρ S; simp only [exe]
        rw [e]
        exact ds_pass
      · cases h
        have e : (fun n => exe g n .brk) = fun n ρ S => .ok (.brk ρ) S := by funext n ρ S; simp only [exe]
        rw [e]
        exact ds_brk
      · cases h
        have e : (fun n => exe g n .cont) = fun n ρ S => .ok (.cont ρ) S := by funext n ρ S; simp only [exe]
        rw [e]
        exact ds_cont
      · rename_i tg it body p
        split at h
        · rename_i e hit
          split at h
          · rename_i t e' b h1 h2 h3 h4
            cases h
            unfold itemsB at hit
            split at hit
            · rename_i e0 x apos cpos
              split at hit
              · rename_i hc
                cases hit
                simp only [Bool.and_eq_true, decide_eq_true_eq] at hc
                obtain ⟨rfl, hl, hs⟩ := hc
                have e2 : (fun n => exe g n (.forD t e' b)) = forItF (fun n => den g n e') t (fun n => exes g n b) := by funext n ρ S; simp only [exe] <;> rfl
                rw [e2]
                cases tg with
                | Tuple elts kk tpos =>
                  exact ds_forIt C.pass C.e.calm (f1 _ _ h3) (base_of hs) hl ((cTg_ok C.e n).1 _ _ h1) (i2 _ _ _ _ _ _ C h4)
                | _ => cases h2
              · cases hit
            · cases hit
          · cases h
        split at h
        · rename_i t k it' b h1 h2 h3 h4
          cases h
          have e : (fun n => exe g n (.for_ t k it' b)) = forF (fun n ρ S => srcF k (denL g n it' ρ S)) t (fun n => exes g n b) := by funext n ρ S; simp only [exe] <;> rfl
          rw [e]
          exact ds_for C.pass C.e.calm (cIt_ok C.e f1 h2) ((cTg_ok C.e n).1 _ _ h1) (i2 _ _ _ _ _ _ C h3) (folded_of h4 _)
        · cases h
      · split at h
        · rename_i c' b h1 h2
          cases h
          have e : (fun n => exe g n (.while_ c' b)) = whileF (SemT fun n => den g n c') (fun n => exes g n b) := by funext n ρ S; simp only [exe]
          rw [e]
          exact ds_while C.pass (f2 _ _ h1).2 (i2 _ _ _ _ _ _ C h2)
        · cases h
      · rename_i x _ _ _ _ _ _
        split at h
        · rename_i hc
          cases h
          rw [Bool.and_eq_true, Bool.and_eq_true, Bool.not_eq_true'] at hc
          have e : (fun n => exe g n (.raise x)) = fun _ _ S => .exc ⟨x⟩ S := by funext n ρ S; simp only [exe]
          rw [e]
          exact ds_raise C.e.calm C.e.tk (C.exc _ hc.2.2) (gl_of C.e hc.1) hc.2.1
        · cases h
      · split at h
        · rename_i b hs h1 h2
          cases h
          have e : (fun n => exe g n (.try_ b (hdD hs))) = tryF g.X (fun n => exes g n b) hs := by funext n ρ S; simp only [exe] <;> rfl
          rw [e]
          exact ds_try C.stk C.frame C.e.tk C.X (fun W' pn xe tk hp => i2 _ _ _ _ _ _ (C.tr tk hp) h1) (cHds_ok C h2)
        · cases h
      · cases h
    · unfold cSs at h
      split at h
      · cases h
        have e : (fun n => exes g n []) = fun _ ρ S => .ok (.next ρ) S := by funext n ρ S; simp only [exes]
        rw [e]
        exact dss_nil
      · split at h
        · rename_i s' r' h1 h2
          cases h
          have e : (fun n => exes g n (s' :: r')) = seqF (fun n => exe g n s') (fun n => exes g n r') := by funext n ρ S; simp only [exes] <;> rfl
          rw [e]
          exact dss_cons (i1 _ _ _ _ _ _ C h1) (i2 _ _ _ _ _ _ C h2)
        · cases h
end
end Dq
set_option Elab.async false
set_option linter.all false
set_option maxRecDepth 100000
set_option maxHeartbeats 4000000
/-! Dp20: functions, level by level. -/
namespace Dq
open PySem PySem.Spec PyProof.Rows
open L2 hiding St

theorem start_rep {K : Kw} {H : Hp} {μ : List Addr} {N : List Str} {vs : List V} {ds : List D} (r : RepAll K H μ vs ds) : RepE K H μ (L2.start N vs) (ds.map some ++ List.replicate (N.length - ds.length) none) := by
  refine ⟨by unfold L2.start; simp [r.length], fun i d e => ?_⟩
  by_cases hi : i < ds.length
  · rw [List.getElem?_append_left (by simpa using hi), List.getElem?_map] at e
    cases ed : ds[i]? with
    | none => rw [ed] at e; cases e
    | some d' =>
      rw [ed] at e
      cases e
      obtain ⟨v, h1, h2⟩ := r.get ed
      refine ⟨v, ?_, h2⟩
      unfold L2.start
      rw [List.getElem?_append_left (by rw [List.length_map, r.length]; exact hi), List.getElem?_map, h1]
      rfl
  · rw [List.getElem?_append_right (by simpa using Nat.le_of_not_lt hi)] at e
    rw [List.getElem?_replicate] at e
    split at e <;> cases e
section
variable {K : Kw} {bs : Bd} {H : Hp} {μ : List Addr} {E : XK} {Q : VK}
theorem ends_plain {o : Out Fl} (h : End K (fun c d _ H => E c d H) bs H μ 0 (RV K) Q (ret1 o)) : EndS K (fun c d _ H => E c d H) bs H μ { nx := fun _ H' => Q .non H', rt := Q } o := by
  cases o with
  | bad => exact h.elim
  | exc x S => exact fun σ' H' μ' p l R => h σ' H' μ' p l R
  | ok f S =>
    cases f with
    | next ρ => exact fun σ' H' μ' p l R _ => h .non H' μ' p l R .non
    | ret d => exact fun v H' μ' p l R r => h v H' μ' p l R r
    | brk ρ => exact h.elim
    | cont ρ => exact h.elim
theorem le_take {μ μ' : List Addr} {n : Nat} (l : Le μ μ') (hn : n = μ.length) : Le μ (μ'.take n) := fun i a e => by
  have hi : i < μ.length := (List.getElem?_eq_some_iff.mp e).1
  rw [List.getElem?_take_of_lt (by omega)]
  exact l i a e
theorem ends_gc {S0 : Sto} {o : Out Fl} (hl : μ.length = S0.length) (h : End K (fun c d _ H => E c d H) bs H μ 0 (RV K) Q (gcOut S0.length (ret1 o))) : EndS K (fun c d _ H => E c d H) ⟨S0.length :: bs.bs, bs.fr⟩ H μ { nx := fun _ H' => Q .non H', rt := Q } o := by
  have cutV : ∀ d S, End K (fun c d _ H => E c d H) bs H μ 0 (RV K) Q (gcOut S0.length (.ok d S)) → ∀ v H' μ', PK H H' → Le μ μ' → RepS K H' μ' S ⟨S0.length :: bs.bs, bs.fr⟩ → Rep K H' μ' v d → Q v H' := fun d S h v H' μ' p l R r => by
    have h' := h
    simp only [gcOut] at h'
    split at h'
    · rename_i hb
      exact h' v H' (μ'.take S0.length) p (le_take l hl.symm) R.out (Rep.cut hb r)
    · rename_i hnb
      split at h'
      · rename_i n
        split at h'
        · rename_i ds e
          split at h'
          · rename_i hb
            cases r with
            | loc em =>
              rename_i a
              have hn : S0.length ≤ n := by
                simp only [below] at hnb
                exact Nat.le_of_not_lt fun z => hnb (Nat.blt_eq.mpr z)
              have hlen : (S.take S0.length).length = S0.length := by rw [List.length_take]; exact Nat.min_eq_left R.b.1
              have hml : (μ'.take S0.length).length = S0.length := by rw [R.out.len, hlen]
              have R2 : RepS K H' (μ'.take S0.length ++ [a]) (S.take S0.length ++ [ds]) bs := by
                refine ⟨by simp [hml, hlen], ?_, ?_, R.fr, fun f hf x hx => ?_, R.pw⟩
                · rw [List.nodup_append]
                  refine ⟨R.out.nd, by simp, fun x hx y hy => ?_⟩
                  rw [List.mem_singleton] at hy
                  subst hy
                  intro z
                  subst z
                  obtain ⟨i, hi⟩ := List.mem_iff_getElem?.mp hx
                  have hi2 : i < S0.length := by
                    have := (List.getElem?_eq_some_iff.mp hi).1
                    omega
                  rw [List.getElem?_take_of_lt hi2] at hi
                  have := (List.getElem?_inj (by have := (List.getElem?_eq_some_iff.mp hi).1; omega) R.nd).mp (hi.trans em.symm)
                  omega
                · refine RepB.push (by rw [hml, hlen]) R.b.2.2 ?_
                  exact ((R.cell em e).cut hb).mono (PK.refl _) (Le.app _ [a]) rfl
                · refine R.dj f hf x ?_
                  rcases List.mem_append.mp hx with hx | hx
                  · exact List.mem_of_mem_take hx
                  · rw [List.mem_singleton] at hx
                    subst hx
                    exact List.mem_of_getElem? em
              exact h' (.ref a) H' _ p ((le_take l hl.symm).trans (Le.app _ [a])) R2 (.loc (by rw [List.getElem?_append_right (by rw [hml]; exact Nat.le_refl _), hml]; simp))
          · exact h'.elim
        · exact h'.elim
      · exact h'.elim
  cases o with
  | bad => exact h.elim
  | exc x S => exact fun σ' H' μ' p l R => h σ' H' (μ'.take S0.length) p (le_take l hl.symm) R.out
  | ok f S =>
    cases f with
    | next ρ => exact fun σ' H' μ' p l R _ => cutV .non S h .non H' μ' p l R .non
    | ret d => exact fun v H' μ' p l R r => cutV d S h v H' μ' p l R r
    | brk ρ => exact h.elim
    | cont ρ => exact h.elim
/-- .. of a call that saw no cell of its callers -/
theorem ends_pure {S0 : Sto} {o : Out Fl} (h : End K (fun c d _ H => E c d H) bs H μ 0 (RV K) Q (pureOut S0 (ret1 o))) : EndS K (fun c d _ H => E c d H) ⟨[], ⟨μ, S0, bs.bs⟩ :: bs.fr⟩ H [] { nx := fun _ H' => Q .non H', rt := Q } o := by
  have cutV : ∀ d S, End K (fun c d _ H => E c d H) bs H μ 0 (RV K) Q (pureOut S0 (.ok d S)) → ∀ v H' μ', PK H H' → RepS K H' μ' S ⟨[], ⟨μ, S0, bs.bs⟩ :: bs.fr⟩ → Rep K H' μ' v d → Q v H' := fun d S h v H' μ' p R r => by
    have h' := h
    simp only [pureOut] at h'
    split at h'
    · rename_i hb
      exact h' v H' μ p (Le.refl _) R.leave (rep_free hb r)
    · split at h'
      · rename_i n
        split at h'
        · rename_i ds e
          split at h'
          · rename_i hb
            cases r with
            | loc em =>
              have R2 := R.leaveL em e hb
              refine h' _ H' _ p (Le.app _ _) R2 (.loc ?_)
              rw [← R.leave.len]
              simp
          · exact h'.elim
        · exact h'.elim
      · exact h'.elim
  cases o with
  | bad => exact h.elim
  | exc x S => exact fun σ' H' μ' p l R => h σ' H' μ p (Le.refl _) R.leave
  | ok f S =>
    cases f with
    | next ρ => exact fun σ' H' μ' p l R _ => cutV .non S h .non H' μ' p R .non
    | ret d => exact fun v H' μ' p l R r => cutV d S h v H' μ' p R r
    | brk ρ => exact h.elim
    | cont ρ => exact h.elim
end

/-- the module, as the functions see it -/
structure Md where
  prog : Program
  w : World
  K : PySem.W.Frag
  mg : Str → Option Value
  base : Heap
@[reducible] def Md.kw (M : Md) : Kw := ⟨M.K, M.prog, M.w⟩
/-- a def -/
structure FnFact (M : Md) (fuel : Nat) (fns cons excs : List Str) (f : Str) (fd : Fn) : Prop where
  ex : ∃ (qual : Str) (params : Arguments) (body : List Stmt) (scope : Scope) (N ps : List Str) (a : Addr) (fdt : FuncData), FunD M.K f qual params body scope [] [] a fdt ∧ FnScope N ps scope ∧
    cSs fuel ⟨N, scope, true, fns, cons, excs⟩ body = some fd.body ∧ ps.length = fd.np ∧ N.length = fd.nl ∧ M.mg f = some (.ref a) ∧ Binds M.K fdt ps []
structure MdOk (M : Md) (T : Tb) (fns cons excs : List Str) : Prop where
  C : ∀ x d, T.C x = some d → ∃ v u, M.mg x = some u ∧ RelV v u ∧ ∀ H μ, Rep M.kw H μ v d
  bltn : ∀ x ∈ bltNames, M.mg x = none
  exc : ∀ x, excs.contains x = true → PySem.W.excIn M.K (He.ga M.K x) He.veBase "ValueError.__new__" = true ∧ PySem.W.keepIn M.K (.ref (He.ga M.K x)) = true ∧ PySem.W.subIn M.K (.ref (He.ga M.K x)) (.type "BaseException") = some true ∧ PySem.W.typeIn M.K (.ref (He.ga M.K x)) = some (.type "type") ∧ M.mg x = some (.ref (He.ga M.K x))
  X : ∀ x h b, T.X x h = some b → PySem.W.exmOne M.K (.ref (He.ga M.K x)) (.ref (He.ga M.K h)) = some b
  fn : ∀ f fd, T.fn f = some fd → ∃ fuel, FnFact M fuel fns cons excs f fd
theorem lev_X {T : Tb} : ∀ {k : Nat}, (lev T k).X = T.X
  | 0 => rfl
  | _ + 1 => rfl
theorem lev_C {T : Tb} : ∀ {k : Nat}, (lev T k).C = T.C
  | 0 => rfl
  | _ + 1 => rfl
theorem fn_step {M : Md} {T : Tb} {fns cons excs : List Str} (O : MdOk M T fns cons excs) {k fuel : Nat} {f qual : Str} {fd : Fn} {params : Arguments} {body : List Stmt} {scope : Scope} {N ps : List Str} {a : Addr} {fdt : FuncData}
    (ih : ∀ f Fu, (lev T k).F f = some Fu → ∃ (a : Addr) (fdt : FuncData) (ps : List Str), FnOk M.prog M.w M.K M.mg M.base (L2.CX M.prog M.w) k a fdt ps (spF M.kw Fu) ∧ M.mg f = some (.ref a) ∧ PySem.W.keepIn M.K (.ref a) = true ∧ Binds M.K fdt ps [])
    (F : FunD M.K f qual params body scope [] [] a fdt) (S : FnScope N ps scope) (hc : cSs fuel ⟨N, scope, true, fns, cons, excs⟩ body = some fd.body) (hp : ps.length = fd.np) (hN : N.length = fd.nl) :
    FnOk M.prog M.w M.K M.mg M.base (L2.CX M.prog M.w) (k + 1) a fdt ps (spF M.kw (runFn (lev T k) fd)) := by
  refine F.ok S (fun vs H Q E ⟨μ, Sx, bs, ds, R, r, q⟩ => ?_) (fun cdv A outer s H vs Q E hr ⟨μ, Sx, bs, ds, R, r, q⟩ => ?_)
  · unfold runFn at q
    split at q
    · rename_i hb
      rw [r.length, Nat.eq_of_beq_eq_true hb, hp]
    · exact q.elim
  · let Γ : Cn := ⟨N, scope, true, fns, cons, excs⟩
    let X := cxOf (L2.CX M.prog M.w) M.prog M.w M.K M.mg M.base N qual scope a cdv A outer s H E
    let W : WX := fun c d _ H => E c d H
    have hst : X.stack = X.env :: X.outer := rfl
    have hfr : X.env.frame = some X.env.locals := rfl
    have C : CokS Γ (lev T k) X W := {
      e := {
        N := rfl
        nd := S.nd
        sc := rfl
        kind := S.kind
        calm := rfl
        fn := fun _ _ => rfl
        tk := takes_of hst hfr rfl rfl
        units := by have := hr.un; show (A.deeper _).units + 100 < _; omega
        F := fun f' Fu' h' => by
          obtain ⟨a', fdt', ps', g1, g2, g3, g4⟩ := ih f' Fu' h'
          exact ⟨a', fdt', ps', k, g1, hr, g2, g3, g4⟩
        C := fun x d h => O.C x d (by rw [lev_C] at h; exact h)
        bltn := O.bltn }
      pass := passes_of (K := fun e s'' => L2.CX M.prog M.w outer H s E e s'') rfl
      stk := hst
      frame := hfr
      exc := fun x h => by
        obtain ⟨e1, e2, e3, e4, e5⟩ := O.exc x h
        exact ⟨e1, e2, e3, e4, e5⟩
      X := fun x h b e => O.X x h b (by rw [lev_X] at e; exact e) }
    refine ⟨_, (cS_ok fuel).2 Γ (lev T k) X W body fd.body C hc, ?_⟩
    unfold runFn at q
    split at q
    · rename_i hb
      have e0 : envOf fd ds = ds.map some ++ List.replicate (N.length - ds.length) none := by unfold envOf; rw [hN]
      rw [e0] at q
      split at q
      · exact ⟨μ, Sx, bs, _, R, start_rep r, ends_plain q⟩
      · exact ⟨μ, Sx, ⟨Sx.length :: bs.bs, bs.fr⟩, _, R.into, start_rep r, ends_gc R.len q⟩
      · split at q
        · rename_i hp
          have r0 : RepAll M.kw H [] vs ds := (RepAll.cut hp r).mono (PK.refl _) fun n a e => by simp at e
          exact ⟨[], [], ⟨[], ⟨μ, Sx, bs.bs⟩ :: bs.fr⟩, _, R.enter, start_rep r0, ends_pure q⟩
        · exact ⟨μ, Sx, ⟨Sx.length :: bs.bs, bs.fr⟩, _, R.into, start_rep r, ends_gc R.len q⟩
    · exact q.elim
theorem fn_level {M : Md} {T : Tb} {fns cons excs : List Str} (O : MdOk M T fns cons excs) : ∀ (k : Nat) (f : Str) (Fu : Fun'), (lev T k).F f = some Fu →
    ∃ (a : Addr) (fdt : FuncData) (ps : List Str), FnOk M.prog M.w M.K M.mg M.base (L2.CX M.prog M.w) k a fdt ps (spF M.kw Fu) ∧ M.mg f = some (.ref a) ∧ PySem.W.keepIn M.K (.ref a) = true ∧ Binds M.K fdt ps []
  | 0, f, Fu, h => by cases h
  | k + 1, f, Fu, h => by
    have ih := fn_level O k
    have h' : (match T.fn f with
      | some fd => some (runFn (lev T k) fd)
      | none => none) = some Fu := h
    split at h'
    · rename_i fd hfd
      cases h'
      obtain ⟨fuel, ⟨qual, params, body, scope, N, ps, a, fdt, F, S, hc, hp, hN, hm, hB⟩⟩ := O.fn f fd hfd
      exact ⟨a, fdt, ps, fn_step O ih F S hc hp hN, hm, F.kp, hB⟩
    · cases h'
end Dq
set_option Elab.async false
set_option linter.all false
set_option maxRecDepth 100000
set_option maxHeartbeats 4000000
/-! Dp21: the head's look, with a look at the module's constants; the law's end. -/
namespace Dq
open PySem PySem.Spec PyProof.Rows
open L2 hiding St

def obsX (p : PySem.W.Frag → Bool) (fa : List He.Fa) (fn : List He.DefD) (K : PySem.W.Frag) : He.AlD := (p K && (He.obsD fa fn K).1, (He.obsD fa fn K).2)
def obsXG (n : Nat) (p : PySem.W.Frag → Bool) (fa : List He.Fa) (fn : List He.DefD) (g : Addr → Option Obj) : He.AlD := obsX p fa fn (He.frG g (He.asD g n))
def hookX (n : Nat) (p : PySem.W.Frag → Bool) (fa : List He.Fa) (fn : List He.DefD) : PySem.W.Hook where
  α := He.AlD
  obs := fun s => obsXG n p fa fn s.heap.get?
  val := fun _ => He.valD fn
  says := fun _ h => ∃ K : PySem.W.Frag, K.In h ∧ obsX p fa fn K = He.valD fn
  of := fun _ _ e => ⟨_, He.frG_in, e⟩
  keeps := fun _ _ _ ⟨K, hK, c⟩ k => ⟨K, PySem.W.Frag.In.keeps hK k, c⟩
theorem obsXG_eq {n : Nat} {p : PySem.W.Frag → Bool} {fa : List He.Fa} {fn : List He.DefD} {g : Addr → Option Obj} {s : Shared} (h : ∀ a, g a = s.heap.get? a) : obsXG n p fa fn g = (hookX n p fa fn).obs s := by
  have e : g = s.heap.get? := funext h
  rw [e] <;> rfl
theorem obsX_says {p : PySem.W.Frag → Bool} {fa : List He.Fa} {fn : List He.DefD} {K : PySem.W.Frag} (c : obsX p fa fn K = He.valD fn) : p K = true ∧ He.SaysD fa fn K := by
  have h1 : (p K && (He.obsD fa fn K).1) = true := congrArg (fun z : He.AlD => z.1) c
  have h2 : (He.obsD fa fn K).2 = fn.map He.DefD.val := congrArg (fun z : He.AlD => z.2) c
  obtain ⟨k1, k2⟩ := He.ba h1
  exact ⟨k1, Prod.ext k2 h2⟩
/-- constants: tuples of the module -/
def cstB (cs : List (Str × List He.Dv)) (K : PySem.W.Frag) : Bool := cs.all fun c => He.tupB K c.1 c.2
theorem cst_at {cs : List (Str × List He.Dv)} {K : PySem.W.Frag} (h : cstB cs K = true) {c : Str × List He.Dv} (hc : c ∈ cs) (H : Hp) : SqT K H (He.ga K c.1) (c.2.map (He.Dv.v K)) := He.tupB_ok (List.all_eq_true.mp h c hc) H
theorem says_glo {fa : List He.Fa} {fn : List He.DefD} {K : PySem.W.Frag} (c : He.SaysD fa fn K) {f : He.Fa} (h : f ∈ fa) : f.ok K = true := by
  have c1 := (He.ba (show ((fa.all fun f => f.ok K) && fn.all fun d => d.ok K) = true from congrArg (fun z : He.AlD => z.1) c)).1
  exact List.all_eq_true.mp c1 f h
theorem fact_row {M : Md} {h : Heap} {fa : List He.Fa} {fn : List He.DefD} {fns cons excs : List Str} (KX : M.K.In h) (G : h.Ns mainGlobals M.mg) (c : He.SaysD fa fn M.K) {x : Str} {st : Stmt} {N : List Str} {fd : Fn} (i fuel : Nat)
    (hd : fn[i]? = some ⟨(x, none), x, x, defArgs st, defBody st, defScope st, [], []⟩) (hg : (He.Fa.glo x).ok M.K = true) (hs : C8.scC N (N.take fd.np) (defScope st) = true) (hc : cSs fuel ⟨N, defScope st, true, fns, cons, excs⟩ (defBody st) = some fd.body)
    (hp : (N.take fd.np).length = fd.np) (hN : N.length = fd.nl)
    (hb : ∀ (kV doc pm : Value) (an : Option Addr) (cdv ct : Value) (us : List Value), us.length = (N.take fd.np).length → bindArgs (PySem.W.fnOf x x (defArgs st) (defBody st) (defScope st) .none kV doc pm an cdv ct) ⟨us, []⟩ = pure ((N.take fd.np).zip us)) :
    ∃ fdt, FunD M.K x x (defArgs st) (defBody st) (defScope st) [] [] (He.ga M.K x) fdt ∧ FnFact M fuel fns cons excs x fd := by
  obtain ⟨fdt, F⟩ := c.def_ i hd
  have F' : FunD M.K x x (defArgs st) (defBody st) (defScope st) [] [] (He.ga M.K x) fdt := F
  exact ⟨fdt, F', ⟨x, defArgs st, defBody st, defScope st, N, N.take fd.np, _, fdt, F', C8.fnScope_by hs, hc, hp, hN, He.glo_ok KX G hg, F'.bindsN hb⟩⟩
/-- the end, for a law whose defs may let errors out to one another -/
theorem walk_x {l : PySem.W.OpenLaw} {n k : Nat} {q : Program} {loose : List Str} {XP : (Str → Option Value) → Heap → Prop} {YP : World → Heap → Prop} {d : DefRec} {x : Str} (h1 : l.most = some n) (h2 : n ≤ sizeLine) (h3 : d.params.defaults = []) (h4 : Room k callerA)
    (F : ∀ (w : World) (mg : Str → Option Value) (fa : Addr) (h : Heap), YP w h → h.Ns mainGlobals mg → mg d.name = some (.ref fa) →
      ∃ (K : PySem.W.Frag) (fd : FuncData) (sp : Sp), K.In h ∧ (∀ (s : Shared) (u : Value), BindsTo s fd ⟨[u], []⟩ [(x, u)]) ∧ (∀ (H : Hp) (a : Addr) (ns : List Int), ns.length ≤ n → Only H → SqL K H a (ns.map V.int) → sp [.ref a] H (fun v _ => v = .bl true) fun _ _ _ => False) ∧
        ∀ base : Heap, K.In base → base.Ns mainGlobals mg → FnOk l.prog w K mg base (L2.CX l.prog w) k fa fd [x] sp) : PySem.W.WalkO q loose XP YP l.row.toRowW d [] (fun f vs => PySem.call f vs) := by
  refine Att.attach_call h1 h3 fun w s₀ s₁ mg mb fa o pm cd doc a vs ns G Y _ _ _ m1 m2 m3 m4 m5 => ?_
  obtain ⟨K, fd, sp, f1, f2, f3, f4⟩ := F w mg fa _ Y G.T.g m1
  refine law_call f1 G.T.g G.T.b G.T.builtins G.T.nolimit m5 m2 m3 (Nat.le_trans m4 h2) h4 f4 f2 (fun H hO hS => f3 H a ns m4 hO hS) fun H e s' z => ?_
  obtain ⟨_, _, _, _, _, _, _, _, _, _, _, _, z⟩ := z
  exact z
/-- the script's ints -/
theorem ints_rep {K : Kw} {H : Hp} {μ : List Addr} : ∀ {ns : List Int}, RepAll K H μ (ns.map V.int) (ns.map D.int)
  | [] => .nil
  | n :: ns => .cons (.int n) ints_rep
theorem law_sp {K : Kw} {F : Fun'} {n : Nat} (h : ∀ ns : List Int, ns.length ≤ n → ∃ S, F [.arr (ns.map D.int)] 0 [] = .ok (.bl true) S) (H : Hp) (a : Addr) (ns : List Int) (hl : ns.length ≤ n) (hO : Only H) (hS : SqL K H a (ns.map V.int)) :
    spF K F [.ref a] H (fun v _ => v = .bl true) fun _ _ _ => False := by
  have hF : SqF K H a (ns.map V.int) := by
    rcases hS with (hS | hS) | hS
    · rcases hO a with z | ⟨o, xs, z⟩
      · rw [z] at hS; cases hS
      · rw [z] at hS; cases hS
    · exact .inl hS
    · exact .inr hS
  obtain ⟨S, e⟩ := h ns hl
  refine ⟨[], [], ⟨[], []⟩, _, ⟨rfl, List.nodup_nil, fun n a c e => by simp at e, (fun f hf => nomatch hf), (fun f hf => nomatch hf), .nil⟩, .cons (.arr hF ints_rep) .nil, ?_⟩
  show End K _ ⟨[], []⟩ H [] 0 (RV K) _ (F [.arr (ns.map D.int)] 0 [])
  rw [e]
  intro y H' μ' p l R r
  cases r
  rfl
end Dq
set_option Elab.async false
set_option linter.all false
set_option maxRecDepth 100000
set_option maxHeartbeats 0

namespace Lw
open PySem PySem.Spec PyProof.Rows L2 Dq
def top (i : Nat) : Stmt := PySem.Challenge.pw_believedheld_k23_the_least_keeping.main.body.getD i (.Pass ⟨0, 0, 0, 0⟩)
def fnsL_0 : List PySem.Str := ["is_whole", "is_wide", "is_word", "is_right_world", "is_right_rule", "numbers_in", "need_world", "need_rule", "with_client", "ranked", "events_at", "asked_for", "arrived", "later", "ticked", "happened", "step", "is_alone", "comes", "ways", "harmful", "least_keep", "_law_source", "_law_pick", "_law_chosen", "_law_terms", "_law_known", "_law_standing", "_law_events", "_law_come"]
def fnsL_1 : List PySem.Str := ["_law_happen", "_law_next", "_law_at", "_law_first", "_law_ways", "_law_bad", "_law_harms", "_law_outcome"]
def fnsL : List PySem.Str := fnsL_0 ++ fnsL_1
def consL : List PySem.Str := ["HARMS", "CLIENTS", "FREE", "FAR", "FIRST", "GREATEST_KEEP"]
def excsL : List PySem.Str := ["InvalidWorld", "InvalidRule"]
def N_is_whole : List PySem.Str := ["value", "low", "high"]
def N_is_wide : List PySem.Str := ["value", "size"]
def N_is_word : List PySem.Str := ["value", "words"]
def N_is_right_world : List PySem.Str := ["value"]
def N_is_right_rule : List PySem.Str := ["value"]
def N_numbers_in : List PySem.Str := ["stand", "found", "client", "house", "used", "one", "other"]
def N_need_world : List PySem.Str := ["value"]
def N_need_rule : List PySem.Str := ["value"]
def N_with_client : List PySem.Str := ["stand", "client", "value"]
def N_ranked : List PySem.Str := ["stand", "order", "found", "house", "used", "one", "other", "left", "number", "way"]
def N_events_at : List PySem.Str := ["world", "stand", "found", "late", "client", "words", "left", "number", "way", "word"]
def N_asked_for : List PySem.Str := ["rule", "stand", "client", "there", "house", "used", "left", "number", "way", "holder", "kept", "rest", "last"]
def N_arrived : List PySem.Str := ["rule", "stand", "client", "there", "new", "left", "number", "way"]
def N_later : List PySem.Str := ["rule", "client", "left", "number", "way", "since"]
def N_ticked : List PySem.Str := ["rule", "stand", "house", "holder", "kept", "rest", "last"]
def N_happened : List PySem.Str := ["rule", "stand", "event", "word", "client", "left", "number", "way"]
def N_step : List PySem.Str := ["rule", "stand", "event", "there", "word"]
def N_is_alone : List PySem.Str := ["stand", "client"]
def N_comes : List PySem.Str := ["harm", "stand", "event", "there", "word"]
def N_ways : List PySem.Str := ["world", "rule", "found", "line", "more", "stand", "event", "there"]
def N_harmful : List PySem.Str := ["world", "rule", "found", "stand", "run", "event", "harm", "there", "word"]
def N_least_keep : List PySem.Str := ["world", "rule", "keep"]
def N__law_source : List PySem.Str := ["_law_script", "_law_k", "_law_number", "_law_start"]
def N__law_pick : List PySem.Str := ["_law_source_here", "_law_many", "_law_found"]
def N__law_chosen : List PySem.Str := ["_law_source_here", "_law_things"]
def N__law_terms : List PySem.Str := ["_law_source_here", "_law_most", "_law_first_here", "_law_more"]
def N__law_known : List PySem.Str := ["_law_spot", "_law_pair", "_law_house", "_law_used", "_law_one", "_law_other", "_law_left", "_law_number", "_law_way", "_law_road"]
def N__law_standing : List PySem.Str := ["_law_terms_here", "_law_all_so", "_law_numbers", "_law_kept", "_law_first_here", "_law_now", "_law_house", "_law_used", "_law_pair", "_law_until", "_law_number", "_law_road", "_law_order", "_law_found", "_law_way", "_law_gone"]
def N__law_events : List PySem.Str := ["_law_place", "_law_all_so", "_law_client", "_law_now", "_law_pair", "_law_found", "_law_until", "_law_number", "_law_road", "_law_some", "_law_word", "_law_event"]
def N__law_come : List PySem.Str := ["_law_terms_here", "_law_all_so", "_law_client", "_law_holder", "_law_free", "_law_now", "_law_house", "_law_used", "_law_pair", "_law_until", "_law_number", "_law_road", "_law_there"]
def N__law_happen : List PySem.Str := ["_law_terms_here", "_law_old", "_law_event", "_law_found", "_law_now", "_law_word", "_law_one", "_law_number"]
def N__law_next : List PySem.Str := ["_law_terms_here", "_law_spot", "_law_event", "_law_found", "_law_word"]
def N__law_at : List PySem.Str := ["_law_place", "_law_spot"]
def N__law_first : List PySem.Str := []
def N__law_ways : List PySem.Str := ["_law_place", "_law_terms_here", "_law_begin", "_law_found", "_law_line", "_law_spot_so", "_law_spot", "_law_event", "_law_there"]
def N__law_bad : List PySem.Str := ["_law_spot", "_law_event", "_law_there", "_law_word", "_law_found", "_law_client"]
def N__law_harms : List PySem.Str := ["_law_place", "_law_terms_here", "_law_ways_so", "_law_found", "_law_spot", "_law_row", "_law_event", "_law_harm", "_law_there", "_law_word"]
def N__law_outcome : List PySem.Str := ["_law_place", "_law_terms_here"]
def N_law : List PySem.Str := ["_law_script", "_law_k", "_law_some", "_law_source_here", "_law_due", "_law_keep", "_law_late", "_law_fall", "_law_place", "_law_terms_here", "_law_other", "_law_bad_here", "_law_origin", "_law_pause"]
def d_is_whole : He.DefD := ⟨("is_whole", none), "is_whole", "is_whole", defArgs (top 10), defBody (top 10), defScope (top 10), [], []⟩
def d_is_wide : He.DefD := ⟨("is_wide", none), "is_wide", "is_wide", defArgs (top 11), defBody (top 11), defScope (top 11), [], []⟩
def d_is_word : He.DefD := ⟨("is_word", none), "is_word", "is_word", defArgs (top 12), defBody (top 12), defScope (top 12), [], []⟩
def d_is_right_world : He.DefD := ⟨("is_right_world", none), "is_right_world", "is_right_world", defArgs (top 13), defBody (top 13), defScope (top 13), [], []⟩
def d_is_right_rule : He.DefD := ⟨("is_right_rule", none), "is_right_rule", "is_right_rule", defArgs (top 14), defBody (top 14), defScope (top 14), [], []⟩
def d_numbers_in : He.DefD := ⟨("numbers_in", none), "numbers_in", "numbers_in", defArgs (top 15), defBody (top 15), defScope (top 15), [], []⟩
def d_need_world : He.DefD := ⟨("need_world", none), "need_world", "need_world", defArgs (top 16), defBody (top 16), defScope (top 16), [], []⟩
def d_need_rule : He.DefD := ⟨("need_rule", none), "need_rule", "need_rule", defArgs (top 17), defBody (top 17), defScope (top 17), [], []⟩
def d_with_client : He.DefD := ⟨("with_client", none), "with_client", "with_client", defArgs (top 19), defBody (top 19), defScope (top 19), [], []⟩
def d_ranked : He.DefD := ⟨("ranked", none), "ranked", "ranked", defArgs (top 20), defBody (top 20), defScope (top 20), [], []⟩
def d_events_at : He.DefD := ⟨("events_at", none), "events_at", "events_at", defArgs (top 21), defBody (top 21), defScope (top 21), [], []⟩
def d_asked_for : He.DefD := ⟨("asked_for", none), "asked_for", "asked_for", defArgs (top 22), defBody (top 22), defScope (top 22), [], []⟩
def d_arrived : He.DefD := ⟨("arrived", none), "arrived", "arrived", defArgs (top 23), defBody (top 23), defScope (top 23), [], []⟩
def d_later : He.DefD := ⟨("later", none), "later", "later", defArgs (top 24), defBody (top 24), defScope (top 24), [], []⟩
def d_ticked : He.DefD := ⟨("ticked", none), "ticked", "ticked", defArgs (top 25), defBody (top 25), defScope (top 25), [], []⟩
def d_happened : He.DefD := ⟨("happened", none), "happened", "happened", defArgs (top 26), defBody (top 26), defScope (top 26), [], []⟩
def d_step : He.DefD := ⟨("step", none), "step", "step", defArgs (top 27), defBody (top 27), defScope (top 27), [], []⟩
def d_is_alone : He.DefD := ⟨("is_alone", none), "is_alone", "is_alone", defArgs (top 30), defBody (top 30), defScope (top 30), [], []⟩
def d_comes : He.DefD := ⟨("comes", none), "comes", "comes", defArgs (top 31), defBody (top 31), defScope (top 31), [], []⟩
def d_ways : He.DefD := ⟨("ways", none), "ways", "ways", defArgs (top 32), defBody (top 32), defScope (top 32), [], []⟩
def d_harmful : He.DefD := ⟨("harmful", none), "harmful", "harmful", defArgs (top 33), defBody (top 33), defScope (top 33), [], []⟩
def d_least_keep : He.DefD := ⟨("least_keep", none), "least_keep", "least_keep", defArgs (top 34), defBody (top 34), defScope (top 34), [], []⟩
def d__law_source : He.DefD := ⟨("_law_source", none), "_law_source", "_law_source", defArgs (top 36), defBody (top 36), defScope (top 36), [], []⟩
def d__law_pick : He.DefD := ⟨("_law_pick", none), "_law_pick", "_law_pick", defArgs (top 37), defBody (top 37), defScope (top 37), [], []⟩
def d__law_chosen : He.DefD := ⟨("_law_chosen", none), "_law_chosen", "_law_chosen", defArgs (top 38), defBody (top 38), defScope (top 38), [], []⟩
def d__law_terms : He.DefD := ⟨("_law_terms", none), "_law_terms", "_law_terms", defArgs (top 39), defBody (top 39), defScope (top 39), [], []⟩
def d__law_known : He.DefD := ⟨("_law_known", none), "_law_known", "_law_known", defArgs (top 40), defBody (top 40), defScope (top 40), [], []⟩
def d__law_standing : He.DefD := ⟨("_law_standing", none), "_law_standing", "_law_standing", defArgs (top 41), defBody (top 41), defScope (top 41), [], []⟩
def d__law_events : He.DefD := ⟨("_law_events", none), "_law_events", "_law_events", defArgs (top 42), defBody (top 42), defScope (top 42), [], []⟩
def d__law_come : He.DefD := ⟨("_law_come", none), "_law_come", "_law_come", defArgs (top 43), defBody (top 43), defScope (top 43), [], []⟩
def d__law_happen : He.DefD := ⟨("_law_happen", none), "_law_happen", "_law_happen", defArgs (top 44), defBody (top 44), defScope (top 44), [], []⟩
def d__law_next : He.DefD := ⟨("_law_next", none), "_law_next", "_law_next", defArgs (top 45), defBody (top 45), defScope (top 45), [], []⟩
def d__law_at : He.DefD := ⟨("_law_at", none), "_law_at", "_law_at", defArgs (top 46), defBody (top 46), defScope (top 46), [], []⟩
def d__law_first : He.DefD := ⟨("_law_first", none), "_law_first", "_law_first", defArgs (top 47), defBody (top 47), defScope (top 47), [], []⟩
def d__law_ways : He.DefD := ⟨("_law_ways", none), "_law_ways", "_law_ways", defArgs (top 48), defBody (top 48), defScope (top 48), [], []⟩
def d__law_bad : He.DefD := ⟨("_law_bad", none), "_law_bad", "_law_bad", defArgs (top 49), defBody (top 49), defScope (top 49), [], []⟩
def d__law_harms : He.DefD := ⟨("_law_harms", none), "_law_harms", "_law_harms", defArgs (top 50), defBody (top 50), defScope (top 50), [], []⟩
def d__law_outcome : He.DefD := ⟨("_law_outcome", none), "_law_outcome", "_law_outcome", defArgs (top 51), defBody (top 51), defScope (top 51), [], []⟩
def d_law : He.DefD := ⟨("law", none), "law", "law", defArgs (top 52), defBody (top 52), defScope (top 52), [], []⟩
def fn_0 : List He.DefD := [d_is_whole, d_is_wide, d_is_word, d_is_right_world, d_is_right_rule, d_numbers_in, d_need_world, d_need_rule, d_with_client, d_ranked, d_events_at, d_asked_for, d_arrived, d_later, d_ticked, d_happened, d_step, d_is_alone, d_comes, d_ways, d_harmful, d_least_keep, d__law_source, d__law_pick, d__law_chosen, d__law_terms, d__law_known, d__law_standing, d__law_events, d__law_come]
def fn_1 : List He.DefD := [d__law_happen, d__law_next, d__law_at, d__law_first, d__law_ways, d__law_bad, d__law_harms, d__law_outcome, d_law]
def fn : List He.DefD := fn_0 ++ fn_1
def fa_0 : List He.Fa := [.free "len", .free "int", .free "list", .free "tuple", .free "bool", .free "max", .free "min", .free "sorted", .free "set", .free "range", .free "isinstance", .free "str", .free "any", .free "all", .glo "is_whole", .glo "is_wide", .glo "is_word", .glo "is_right_world", .glo "is_right_rule", .glo "numbers_in", .glo "need_world", .glo "need_rule", .glo "with_client", .glo "ranked", .glo "events_at", .glo "asked_for", .glo "arrived", .glo "later", .glo "ticked", .glo "happened"]
def fa_1 : List He.Fa := [.glo "step", .glo "is_alone", .glo "comes", .glo "ways", .glo "harmful", .glo "least_keep", .glo "_law_source", .glo "_law_pick", .glo "_law_chosen", .glo "_law_terms", .glo "_law_known", .glo "_law_standing", .glo "_law_events", .glo "_law_come", .glo "_law_happen", .glo "_law_next", .glo "_law_at", .glo "_law_first", .glo "_law_ways", .glo "_law_bad", .glo "_law_harms", .glo "_law_outcome", .glo "law", .glo "HARMS", .glo "CLIENTS", .glo "FREE", .glo "FAR", .glo "FIRST", .glo "InvalidWorld", .glo "InvalidRule"]
def fa_2 : List He.Fa := [.int "GREATEST_KEEP" 4, .exc "InvalidWorld", .exc "InvalidRule", .exm "InvalidWorld" "InvalidWorld" true, .exm "InvalidWorld" "InvalidRule" false, .exm "InvalidRule" "InvalidWorld" false, .exm "InvalidRule" "InvalidRule" true]
def fa : List He.Fa := fa_0 ++ fa_1 ++ fa_2
def cst : List (PySem.Str × List He.Dv) := [("HARMS", [.str "alone", .str "elder", .str "two"]), ("CLIENTS", [.int 0, .int 1]), ("FREE", [.non, .int 0, .int 0, .int 0]), ("FAR", [.int 0, .int 0, .non]), ("FIRST", [.glo "FREE", .int 0, .glo "FAR", .glo "FAR"])]
def names_0 : List PySem.Str := ["BeliefError", "InvalidWorld", "InvalidRule", "HARMS", "CLIENTS", "FREE", "FAR", "FIRST", "is_whole", "is_wide", "is_word", "is_right_world", "is_right_rule", "numbers_in", "need_world", "need_rule", "with_client", "ranked", "events_at", "asked_for", "arrived", "later", "ticked", "happened", "step", "GREATEST_KEEP", "is_alone", "comes", "ways", "harmful"]
def names_1 : List PySem.Str := ["least_keep", "_law_source", "_law_pick", "_law_chosen", "_law_terms", "_law_known", "_law_standing", "_law_events", "_law_come", "_law_happen", "_law_next", "_law_at", "_law_first", "_law_ways", "_law_bad", "_law_harms", "_law_outcome"]
def names : List PySem.Str := names_0 ++ names_1
abbrev R : PySem.W.OpenRow := PySem.W.OpenLaw.row PySem.Challenge.rw_believedheld_k23_the_least_keeping
abbrev hk : PySem.W.Hook := hookX 4 (cstB cst) fa fn
def ob (s : PySem.W.SharedT) : He.AlD := obsXG 4 (cstB cst) fa fn (HandSHeadRun.getT s)
theorem ob_eq (s : PySem.W.SharedT) : ob s = hk.obs s.abs := obsXG_eq (HandSHeadRun.getT_eq s)
theorem run (w : World) : HandSHeadRun.RunEq R (PySem.W.view R.prog [52]) hk ob 4000 names w := by
  intro os
  kernel_rfl
end Lw
set_option Elab.async false
set_option linter.all false
set_option maxRecDepth 100000
set_option maxHeartbeats 0

namespace Lw
open PySem PySem.Spec PyProof.Rows L2 Dq
def b_is_whole : List Dq.St := [(.ret (.and (.isi .int (.var 0)) (.and (.not (.isi .bool (.var 0))) (.chain (.var 1) (.var 0) (.var 2)))))]
def f_is_whole : Fn := ⟨3, 3, .pure, b_is_whole⟩
def b_is_wide : List Dq.St := [(.ret (.and (.isi .tup (.var 0)) (.cmp .eq (.blt .len [(.var 0)]) (.var 1))))]
def f_is_wide : Fn := ⟨2, 2, .pure, b_is_wide⟩
def b_is_word : List Dq.St := [(.ret (.and (.isi .str (.var 0)) (.cmp .isIn (.var 0) (.var 1))))]
def f_is_word : Fn := ⟨2, 2, .pure, b_is_word⟩
def b_is_right_world : List Dq.St := [(.ret (.and (.call "is_wide" [(.var 0), (.int 3)]) (.and (.call "is_whole" [(.ix (.var 0) (.int 0)), (.int 0), (.int 2)]) (.and (.isi .bool (.ix (.var 0) (.int 1))) (.isi .bool (.ix (.var 0) (.int 2)))))))]
def f_is_right_world : Fn := ⟨1, 1, .pure, b_is_right_world⟩
def b_is_right_rule : List Dq.St := [(.ite (.or (.not (.call "is_wide" [(.var 0), (.int 6)])) (.or (.not (.call "is_whole" [(.ix (.var 0) (.int 0)), (.int 1), (.int 4)])) (.not (.call "is_whole" [(.ix (.var 0) (.int 1)), (.int 1), (.int 4)])))) [(.ret (.bl false))] []), (.ite (.or (.not (.call "is_word" [(.ix (.var 0) (.int 2)), (.tup [(.str "asked"), (.str "came")])])) (.not (.call "is_word" [(.ix (.var 0) (.int 3)), (.tup [(.str "no"), (.str "yes")])]))) [(.ret (.bl false))] []), (.ret (.and (.call "is_word" [(.ix (.var 0) (.int 4)), (.tup [(.str "no"), (.str "number")])]) (.call "is_whole" [(.ix (.var 0) (.int 5)), (.int 0), (.int 4)])))]
def f_is_right_rule : Fn := ⟨1, 1, .pure, b_is_right_rule⟩
def b_numbers_in : List Dq.St := [(.asg (.tup [(.name 3), (.name 4), (.name 5), (.name 6)]) (.var 0)), (.asg (.name 1) (.lst [(.ix (.var 3) (.int 3)), (.var 4), (.ix (.var 5) (.int 1)), (.ix (.var 6) (.int 1))])), (.for_ (.name 2) .seq [(.tup [(.var 5), (.var 6)])] [(.ite (.isN true (.ix (.var 2) (.int 2))) [(.expr (.mth .append (.var 1) [(.ix (.ix (.var 2) (.int 2)) (.int 3))]))] [])]), (.ret (.var 1))]
def f_numbers_in : Fn := ⟨1, 7, .pure, b_numbers_in⟩
def b_need_world : List Dq.St := [(.ite (.not (.call "is_right_world" [(.var 0)])) [(.raise "InvalidWorld")] [])]
def f_need_world : Fn := ⟨1, 1, .pure, b_need_world⟩
def b_need_rule : List Dq.St := [(.ite (.not (.call "is_right_rule" [(.var 0)])) [(.raise "InvalidRule")] [])]
def f_need_rule : Fn := ⟨1, 1, .pure, b_need_rule⟩
def b_with_client : List Dq.St := [(.ret (.bin .add (.sl (.var 0) none (some (.int 2))) (.ite (.cmp .eq (.var 1) (.int 0)) (.tup [(.var 2), (.ix (.var 0) (.int 3))]) (.tup [(.ix (.var 0) (.int 2)), (.var 2)]))))]
def f_with_client : Fn := ⟨3, 3, .pure, b_with_client⟩
def b_ranked : List Dq.St := [(.asg (.name 1) (.sset (.bin .add (.call "numbers_in" [(.var 0)]) (.lst [(.int 0)])))), (.asg (.tup [(.name 3), (.name 4), (.name 5), (.name 6)]) (.var 0)), (.asg (.name 2) (.lst [])), (.for_ (.tup [(.name 7), (.name 8), (.name 9)]) .seq [(.tup [(.var 5), (.var 6)])] [(.ite (.isN true (.var 9)) [(.asg (.name 9) (.bin .add (.sl (.var 9) none (some (.int 3))) (.tup [(.mth .index (.var 1) [(.ix (.var 9) (.int 3))])])))] []), (.expr (.mth .append (.var 2) [(.tup [(.var 7), (.mth .index (.var 1) [(.var 8)]), (.var 9)])]))]), (.ret (.tup [(.bin .add (.sl (.var 3) none (some (.int 3))) (.tup [(.mth .index (.var 1) [(.ix (.var 3) (.int 3))])])), (.mth .index (.var 1) [(.var 4)]), (.ix (.var 2) (.int 0)), (.ix (.var 2) (.int 1))]))]
def f_ranked : Fn := ⟨1, 10, .pure, b_ranked⟩
def b_events_at : List Dq.St := [(.asg (.name 2) (.ite (.ix (.var 0) (.int 2)) (.lst [(.tup [(.str "fall")])]) (.lst []))), (.asg (.name 3) (.bl false)), (.for_ (.name 4) .seq [(.glo "CLIENTS")] [(.asg (.tup [(.name 6), (.name 7), (.name 8)]) (.ix (.var 1) (.bin .add (.int 2) (.var 4)))), (.asg (.name 5) (.ite (.cmp .gt (.var 6) (.int 0)) (.lst [(.str "use")]) (.lst []))), (.ite (.isN false (.var 8)) [(.asg (.name 5) (.bin .add (.var 5) (.ite (.cmp .gt (.var 6) (.int 0)) (.lst [(.str "renew"), (.str "back")]) (.lst [(.str "ask")]))))] [(.asg (.name 3) (.or (.var 3) (.cmp .eq (.ix (.var 8) (.int 1)) (.ix (.var 0) (.int 0))))), (.asg (.name 5) (.bin .add (.var 5) (.ite (.ix (.var 0) (.int 1)) (.lst [(.str "arrive"), (.str "lose")]) (.lst [(.str "arrive")]))))]), (.asg (.name 2) (.bin .add (.var 2) (.lc [("word", 9)] (.name 9) .seq [(.var 5)] none (.tup [(.var 9), (.var 4)]))))]), (.ret (.blt .sorted [(.ite (.var 3) (.var 2) (.bin .add (.var 2) (.lst [(.tup [(.str "tick")])])))]))]
def f_events_at : Fn := ⟨2, 10, .pure, b_events_at⟩
def b_asked_for : List Dq.St := [(.asg (.tup [(.name 4), (.name 5)]) (.tup [(.ix (.var 1) (.int 0)), (.ix (.var 1) (.int 1))])), (.asg (.tup [(.name 6), (.name 7), (.name 8)]) (.ix (.var 1) (.bin .add (.int 2) (.var 2)))), (.asg (.tup [(.name 9), (.name 10), (.name 11), (.name 12)]) (.var 4)), (.ite (.and (.isN false (.var 9)) (.and (.cmp .eq (.var 11) (.int 0)) (.or (.cmp .eq (.ix (.var 8) (.int 0)) (.str "ask")) (.cmp .eq (.ix (.var 0) (.int 3)) (.str "yes"))))) [(.asg (.name 12) (.bin .add (.var 12) (.int 1)))] [(.ite (.cmp .ne (.var 9) (.var 2)) [(.ret (.tup [(.call "with_client" [(.var 1), (.var 2), (.tup [(.var 6), (.var 7), .non])]), (.str "refused")]))] [])]), (.asg (.name 3) (.bin .add (.tup [(.tup [(.var 2), (.ix (.var 0) (.int 0)), (.int 0), (.var 12)])]) (.sl (.var 1) (some (.int 1)) none))), (.ret (.tup [(.call "with_client" [(.var 3), (.var 2), (.tup [(.var 6), (.var 7), (.tup [(.str "yes"), (.int 0), (.ix (.var 8) (.int 2)), (.var 12)])])]), (.str "granted")]))]
def f_asked_for : Fn := ⟨3, 13, .pure, b_asked_for⟩
def b_arrived : List Dq.St := [(.asg (.tup [(.name 5), (.name 6), (.name 7)]) (.ix (.var 1) (.bin .add (.int 2) (.var 2)))), (.ite (.cmp .isIn (.ix (.var 7) (.int 0)) (.tup [(.str "ask"), (.str "renew")])) [(.ret (.call "asked_for" [(.var 0), (.var 1), (.var 2)]))] []), (.asg (.name 3) (.call "with_client" [(.var 1), (.var 2), (.tup [(.var 5), (.var 6), .non])])), (.ite (.cmp .eq (.ix (.var 7) (.int 0)) (.str "back")) [(.ite (.cmp .ne (.ix (.ix (.var 1) (.int 0)) (.int 0)) (.var 2)) [(.ret (.tup [(.var 3), (.str "late")]))] []), (.ret (.tup [(.bin .add (.tup [(.bin .add (.tup [.non, (.int 0)]) (.sl (.ix (.var 1) (.int 0)) (some (.int 2)) none))]) (.sl (.var 3) (some (.int 1)) none)), (.str "freed")]))] []), (.asg (.name 4) (.ite (.cmp .eq (.ix (.var 0) (.int 2)) (.str "asked")) (.bin .sub (.ix (.var 0) (.int 1)) (.ix (.var 7) (.int 2))) (.ix (.var 0) (.int 1)))), (.ite (.cmp .le (.var 4) (.var 5)) [(.ret (.tup [(.var 3), (.str "late")]))] []), (.ret (.tup [(.call "with_client" [(.var 1), (.var 2), (.tup [(.var 4), (.ix (.var 7) (.int 3)), .non])]), (.str "held")]))]
def f_arrived : Fn := ⟨3, 8, .pure, b_arrived⟩
def b_later : List Dq.St := [(.asg (.tup [(.name 2), (.name 3), (.name 4)]) (.var 1)), (.ite (.isN true (.var 4)) [(.asg (.name 5) (.ite (.cmp .ne (.ix (.var 4) (.int 0)) (.str "back")) (.blt .min [(.ix (.var 0) (.int 1)), (.bin .add (.ix (.var 4) (.int 2)) (.int 1))]) (.int 0))), (.asg (.name 4) (.tup [(.ix (.var 4) (.int 0)), (.bin .add (.ix (.var 4) (.int 1)) (.int 1)), (.var 5), (.ix (.var 4) (.int 3))]))] []), (.ret (.ite (.cmp .gt (.var 2) (.int 1)) (.tup [(.bin .sub (.var 2) (.int 1)), (.var 3), (.var 4)]) (.tup [(.int 0), (.int 0), (.var 4)])))]
def f_later : Fn := ⟨2, 6, .pure, b_later⟩
def b_ticked : List Dq.St := [(.asg (.tup [(.name 3), (.name 4), (.name 5), (.name 6)]) (.ix (.var 1) (.int 0))), (.asg (.name 2) (.ite (.cmp .gt (.var 4) (.int 1)) (.tup [(.var 3), (.bin .sub (.var 4) (.int 1)), (.int 0), (.var 6)]) (.tup [.non, (.int 0), (.blt .max [(.int 0), (.bin .sub (.var 5) (.int 1))]), (.var 6)]))), (.ret (.tup [(.var 2), (.ix (.var 1) (.int 1)), (.call "later" [(.var 0), (.ix (.var 1) (.int 2))]), (.call "later" [(.var 0), (.ix (.var 1) (.int 3))])]))]
def f_ticked : Fn := ⟨2, 7, .pure, b_ticked⟩
def b_happened : List Dq.St := [(.asg (.name 3) (.ix (.var 2) (.int 0))), (.ite (.cmp .eq (.var 3) (.str "tick")) [(.ret (.tup [(.call "ticked" [(.var 0), (.var 1)]), (.str "done")]))] []), (.ite (.cmp .eq (.var 3) (.str "fall")) [(.ret (.tup [(.bin .add (.tup [(.tup [.non, (.int 0), (.ix (.var 0) (.int 5)), (.ix (.ix (.var 1) (.int 0)) (.int 3))])]) (.sl (.var 1) (some (.int 1)) none)), (.str "done")]))] []), (.asg (.name 4) (.ix (.var 2) (.int 1))), (.asg (.tup [(.name 5), (.name 6), (.name 7)]) (.ix (.var 1) (.bin .add (.int 2) (.var 4)))), (.ite (.cmp .eq (.var 3) (.str "arrive")) [(.ret (.call "arrived" [(.var 0), (.var 1), (.var 4)]))] []), (.ite (.cmp .eq (.var 3) (.str "use")) [(.ite (.and (.cmp .eq (.ix (.var 0) (.int 4)) (.str "number")) (.cmp .lt (.var 6) (.ix (.var 1) (.int 1)))) [(.ret (.tup [(.var 1), (.str "barred")]))] []), (.ret (.tup [(.bin .add (.bin .add (.sl (.var 1) none (some (.int 1))) (.tup [(.blt .max [(.var 6), (.ix (.var 1) (.int 1))])])) (.sl (.var 1) (some (.int 2)) none)), (.str "used")]))] []), (.ite (.cmp .eq (.var 3) (.str "lose")) [(.ret (.tup [(.call "with_client" [(.var 1), (.var 4), (.tup [(.var 5), (.var 6), .non])]), (.str "done")]))] []), (.ite (.cmp .eq (.var 3) (.str "back")) [(.ret (.tup [(.call "with_client" [(.var 1), (.var 4), (.tup [(.int 0), (.int 0), (.tup [(.str "back"), (.int 0), (.int 0), (.int 0)])])]), (.str "done")]))] []), (.ret (.tup [(.call "with_client" [(.var 1), (.var 4), (.tup [(.var 5), (.var 6), (.tup [(.var 3), (.int 0), (.int 0), (.int 0)])])]), (.str "done")]))]
def f_happened : Fn := ⟨3, 8, .pure, b_happened⟩
def b_step : List Dq.St := [(.asg (.tup [(.name 3), (.name 4)]) (.call "happened" [(.var 0), (.var 1), (.var 2)])), (.ret (.tup [(.call "ranked" [(.var 3)]), (.var 4)]))]
def f_step : Fn := ⟨3, 5, .pure, b_step⟩
def b_is_alone : List Dq.St := [(.ret (.blt .any [(.lc [("client", 1)] (.name 1) .seq [(.glo "CLIENTS")] none (.and (.cmp .gt (.ix (.ix (.var 0) (.bin .add (.int 2) (.var 1))) (.int 0)) (.int 0)) (.cmp .ne (.ix (.ix (.var 0) (.int 0)) (.int 0)) (.var 1))))]))]
def f_is_alone : Fn := ⟨1, 2, .pure, b_is_alone⟩
def b_comes : List Dq.St := [(.ite (.cmp .eq (.var 0) (.str "alone")) [(.ret (.call "is_alone" [(.var 3)]))] []), (.ite (.cmp .eq (.var 0) (.str "two")) [(.ret (.and (.cmp .gt (.ix (.ix (.var 3) (.int 2)) (.int 0)) (.int 0)) (.cmp .gt (.ix (.ix (.var 3) (.int 3)) (.int 0)) (.int 0))))] []), (.ret (.and (.cmp .eq (.ix (.var 2) (.int 0)) (.str "use")) (.and (.cmp .eq (.var 4) (.str "used")) (.cmp .lt (.ix (.ix (.var 1) (.bin .add (.int 2) (.ix (.var 2) (.int 1)))) (.int 1)) (.ix (.var 1) (.int 1))))))]
def f_comes : Fn := ⟨5, 5, .pure, b_comes⟩
def b_ways : List Dq.St := [(.asg (.name 2) (.dict [])), (.asg (.sub (.var 2) (.glo "FIRST")) (.tup [])), (.asg (.name 3) (.lst [(.glo "FIRST")])), (.while_ (.cmp .ne (.var 3) (.lst [])) [(.asg (.name 4) (.lst [])), (.for_ (.name 5) .seq [(.var 3)] [(.for_ (.name 6) .seq [(.call "events_at" [(.var 0), (.var 5)])] [(.asg (.name 7) (.ix (.call "step" [(.var 1), (.var 5), (.var 6)]) (.int 0))), (.ite (.cmp .notIn (.var 7) (.var 2)) [(.asg (.sub (.var 2) (.var 7)) (.bin .add (.ix (.var 2) (.var 5)) (.tup [(.var 6)]))), (.expr (.mth .append (.var 4) [(.var 7)]))] [])])]), (.asg (.name 3) (.var 4))]), (.ret (.var 2))]
def f_ways : Fn := ⟨2, 8, .pure, b_ways⟩
def b_harmful : List Dq.St := [(.asg (.name 2) (.dict [])), (.forD (.tup [(.name 3), (.name 4)]) (.call "ways" [(.var 0), (.var 1)]) [(.for_ (.name 5) .seq [(.call "events_at" [(.var 0), (.var 3)])] [(.asg (.tup [(.name 7), (.name 8)]) (.call "step" [(.var 1), (.var 3), (.var 5)])), (.for_ (.name 6) .seq [(.glo "HARMS")] [(.ite (.and (.cmp .notIn (.var 6) (.var 2)) (.call "comes" [(.var 6), (.var 3), (.var 5), (.var 7), (.var 8)])) [(.asg (.sub (.var 2) (.var 6)) (.bin .add (.var 4) (.tup [(.var 5)])))] [])])])]), (.ret (.var 2))]
def f_harmful : Fn := ⟨2, 9, .pure, b_harmful⟩
def b_least_keep : List Dq.St := [(.expr (.call "need_world" [(.var 0)])), (.expr (.call "need_rule" [(.var 1)])), (.for_ (.name 2) .rng [(.int 1), (.bin .add (.glo "GREATEST_KEEP") (.int 1))] [(.ite (.cmp .notIn (.str "two") (.call "harmful" [(.var 0), (.bin .add (.tup [(.var 2)]) (.sl (.var 1) (some (.int 1)) none))])) [(.ret (.var 2))] [])]), (.ret .non)]
def f_least_keep : Fn := ⟨2, 3, .pure, b_least_keep⟩
def b__law_source : List Dq.St := [(.asg (.name 2) (.int 0)), (.ite (.cmp .gt (.blt .len [(.var 0)]) (.var 1)) [(.asg (.name 2) (.blt .int [(.ix (.var 0) (.var 1))]))] []), (.asg (.name 3) (.bin .mod (.bin .add (.bin .add (.bin .mul (.var 2) (.int 16807)) (.bin .mul (.int 60919) (.var 1))) (.int 31)) (.int 2147481173))), (.asg (.name 3) (.bin .add (.bin .add (.bin .mod (.bin .mul (.var 3) (.var 3)) (.int 2147481151)) (.bin .mul (.int 2) (.var 1))) (.int 5))), (.ret (.lst [(.ite (.cmp .ge (.var 2) (.bin .pow (.int 10) (.int 18))) (.var 2) (.int 0)), (.var 3)]))]
def f__law_source : Fn := ⟨2, 4, .pure, b__law_source⟩
def b__law_pick : List Dq.St := [(.ite (.cmp .gt (.ix (.var 0) (.int 0)) (.int 0)) [(.asg (.name 2) (.bin .mod (.blt .int [(.ix (.var 0) (.int 0))]) (.var 1))), (.asg (.sub (.var 0) (.int 0)) (.bin .div (.blt .int [(.ix (.var 0) (.int 0))]) (.var 1))), (.ret (.var 2))] []), (.asg (.sub (.var 0) (.int 1)) (.bin .mod (.blt .int [(.bin .add (.bin .mul (.ix (.var 0) (.int 1)) (.int 44497)) (.int 9973))]) (.int 2147483647))), (.ret (.bin .mod (.bin .div (.bin .mod (.blt .int [(.bin .mul (.ix (.var 0) (.int 1)) (.ix (.var 0) (.int 1)))]) (.int 2147483399)) (.int 11)) (.var 1)))]
def f__law_pick : Fn := ⟨2, 3, .cut, b__law_pick⟩
def b__law_chosen : List Dq.St := [(.ret (.ix (.var 1) (.call "_law_pick" [(.var 0), (.blt .len [(.var 1)])])))]
def f__law_chosen : Fn := ⟨2, 2, .cut, b__law_chosen⟩
def b__law_terms : List Dq.St := [(.asg (.name 2) (.tup [(.bin .add (.int 1) (.call "_law_pick" [(.var 0), (.var 1)])), (.bin .add (.int 1) (.call "_law_pick" [(.var 0), (.var 1)])), (.call "_law_chosen" [(.var 0), (.lst [(.str "asked"), (.str "came")])])])), (.asg (.name 3) (.tup [(.call "_law_chosen" [(.var 0), (.lst [(.str "no"), (.str "yes")])]), (.call "_law_chosen" [(.var 0), (.lst [(.str "no"), (.str "number")])])])), (.ret (.bin .add (.bin .add (.var 2) (.var 3)) (.tup [(.call "_law_pick" [(.var 0), (.bin .add (.var 1) (.int 1))])])))]
def f__law_terms : Fn := ⟨2, 4, .cut, b__law_terms⟩
def b__law_known : List Dq.St := [(.asg (.tup [(.name 2), (.name 3), (.name 4), (.name 5)]) (.var 0)), (.asg (.name 1) (.lst [])), (.for_ (.tup [(.name 6), (.name 7), (.name 8)]) .seq [(.tup [(.var 4), (.var 5)])] [(.asg (.name 9) (.ite (.isN false (.var 8)) .non (.lst [(.ix (.var 8) (.int 0)), (.bin .sub (.int 50) (.ix (.var 8) (.int 1))), (.bin .sub (.int 50) (.ix (.var 8) (.int 2))), (.ix (.var 8) (.int 3))]))), (.expr (.mth .append (.var 1) [(.lst [(.bin .add (.int 50) (.var 6)), (.var 7), (.var 9)])]))]), (.ret (.lst [(.int 50), (.lst [(.ix (.var 2) (.int 0)), (.bin .add (.int 50) (.ix (.var 2) (.int 1))), (.bin .add (.int 50) (.ix (.var 2) (.int 2))), (.ix (.var 2) (.int 3))]), (.var 3), (.var 1)]))]
def f__law_known : Fn := ⟨1, 10, .no, b__law_known⟩
def b__law_standing : List Dq.St := [(.asg (.tup [(.name 5), (.name 6), (.name 7), (.name 8)]) (.var 1)), (.asg (.name 2) (.dict [(.int 0), (.int 0), (.ix (.var 6) (.int 3)), (.int 0), (.var 7), (.int 0)])), (.for_ (.tup [(.name 9), (.name 10), (.name 11)]) .seq [(.var 8)] [(.asg (.sub (.var 2) (.ite (.cmp .gt (.var 9) (.var 5)) (.var 10) (.int 0))) (.int 0)), (.ite (.isN true (.var 11)) [(.asg (.sub (.var 2) (.ix (.var 11) (.int 3))) (.int 0))] [])]), (.asg (.tup [(.name 12), (.name 13)]) (.tup [(.blt .sorted [(.blt .list [(.var 2)])]), (.lst [])])), (.for_ (.tup [(.name 9), (.name 10), (.name 11)]) .seq [(.var 8)] [(.asg (.name 14) .non), (.ite (.isN true (.var 11)) [(.asg (.name 15) (.ite (.cmp .eq (.ix (.var 11) (.int 0)) (.str "back")) (.int 0) (.blt .min [(.ix (.var 0) (.int 1)), (.bin .sub (.var 5) (.ix (.var 11) (.int 2)))]))), (.asg (.name 14) (.tup [(.ix (.var 11) (.int 0)), (.bin .sub (.var 5) (.ix (.var 11) (.int 1))), (.var 15), (.mth .index (.var 12) [(.ix (.var 11) (.int 3))])]))] []), (.expr (.mth .append (.var 13) [(.ite (.cmp .gt (.var 9) (.var 5)) (.tup [(.bin .sub (.var 9) (.var 5)), (.mth .index (.var 12) [(.var 10)]), (.var 14)]) (.tup [(.int 0), (.int 0), (.var 14)]))]))]), (.asg (.name 3) (.and (.isN true (.ix (.var 6) (.int 0))) (.cmp .gt (.ix (.var 6) (.int 1)) (.var 5)))), (.asg (.name 4) (.ite (.var 3) (.tup [(.ix (.var 6) (.int 0)), (.bin .sub (.ix (.var 6) (.int 1)) (.var 5)), (.int 0)]) (.tup [.non, (.int 0), (.blt .max [(.int 0), (.bin .sub (.ix (.var 6) (.int 2)) (.var 5))])]))), (.ret (.tup [(.bin .add (.var 4) (.tup [(.mth .index (.var 12) [(.ix (.var 6) (.int 3))])])), (.mth .index (.var 12) [(.var 7)]), (.ix (.var 13) (.int 0)), (.ix (.var 13) (.int 1))]))]
def f__law_standing : Fn := ⟨2, 16, .cut, b__law_standing⟩
def b__law_events : List Dq.St := [(.asg (.tup [(.name 3), (.name 4), (.name 5)]) (.tup [(.ix (.var 1) (.int 0)), (.ix (.var 1) (.int 3)), (.lst [(.tup [(.str "tick")])])])), (.for_ (.name 2) .seq [(.tup [(.int 0), (.int 1)])] [(.asg (.tup [(.name 6), (.name 7), (.name 8)]) (.ix (.var 4) (.var 2))), (.ite (.cmp .gt (.var 6) (.var 3)) [(.expr (.mth .append (.var 5) [(.tup [(.str "use"), (.var 2)])]))] []), (.ite (.isN false (.var 8)) [(.asg (.name 9) (.ite (.cmp .gt (.var 6) (.var 3)) (.lst [(.str "renew"), (.str "back")]) (.lst [(.str "ask")]))), (.asg (.name 5) (.bin .add (.var 5) (.lc [("_law_word", 10)] (.name 10) .seq [(.var 9)] none (.tup [(.var 10), (.var 2)]))))] [(.asg (.name 5) (.bin .add (.bin .add (.var 5) (.lst [(.tup [(.str "arrive"), (.var 2)])])) (.bin .mul (.lst [(.tup [(.str "lose"), (.var 2)])]) (.blt .int [(.ix (.var 0) (.int 1))])))), (.ite (.cmp .ge (.bin .sub (.var 3) (.ix (.var 8) (.int 1))) (.ix (.var 0) (.int 0))) [(.asg (.name 5) (.lc [("_law_event", 11)] (.name 11) .seq [(.var 5)] (some (.cmp .ne (.var 11) (.tup [(.str "tick")]))) (.var 11)))] [])])]), (.ret (.blt .sorted [(.bin .add (.var 5) (.bin .mul (.lst [(.tup [(.str "fall")])]) (.blt .int [(.ix (.var 0) (.int 2))])))]))]
def f__law_events : Fn := ⟨2, 12, .cut, b__law_events⟩
def b__law_come : List Dq.St := [(.asg (.tup [(.name 5), (.name 6), (.name 7), (.name 8)]) (.var 1)), (.asg (.tup [(.name 9), (.name 10), (.name 11)]) (.ix (.var 8) (.var 2))), (.asg (.sub (.ix (.var 8) (.var 2)) (.int 2)) .non), (.asg (.name 3) (.ite (.cmp .gt (.ix (.var 6) (.int 1)) (.var 5)) (.ix (.var 6) (.int 0)) .non)), (.ite (.cmp .eq (.ix (.var 11) (.int 0)) (.str "back")) [(.ite (.cmp .eq (.var 3) (.var 2)) [(.asg (.tup [(.sub (.var 6) (.int 0)), (.sub (.var 6) (.int 1)), (.sub (.var 6) (.int 2))]) (.tup [.non, (.var 5), (.var 5)]))] []), (.ret (.ite (.cmp .eq (.var 3) (.var 2)) (.str "freed") (.str "late")))] []), (.ite (.cmp .eq (.ix (.var 11) (.int 0)) (.str "yes")) [(.asg (.name 12) (.bin .add (.ite (.cmp .eq (.ix (.var 0) (.int 2)) (.str "asked")) (.ix (.var 11) (.int 2)) (.var 5)) (.ix (.var 0) (.int 1)))), (.ite (.cmp .le (.var 12) (.blt .max [(.var 9), (.var 5)])) [(.ret (.str "late"))] []), (.asg (.tup [(.sub (.ix (.var 8) (.var 2)) (.int 0)), (.sub (.ix (.var 8) (.var 2)) (.int 1))]) (.tup [(.var 12), (.ix (.var 11) (.int 3))])), (.ret (.str "held"))] []), (.asg (.name 4) (.and (.isN false (.var 3)) (.and (.cmp .le (.ix (.var 6) (.int 2)) (.var 5)) (.or (.cmp .eq (.ix (.var 11) (.int 0)) (.str "ask")) (.cmp .eq (.ix (.var 0) (.int 3)) (.str "yes")))))), (.ite (.and (.cmp .ne (.var 3) (.var 2)) (.not (.var 4))) [(.ret (.str "refused"))] []), (.asg (.sub (.var 6) (.int 3)) (.bin .add (.ix (.var 6) (.int 3)) (.blt .int [(.var 4)]))), (.asg (.tup [(.sub (.var 6) (.int 0)), (.sub (.var 6) (.int 1)), (.sub (.var 6) (.int 2))]) (.tup [(.var 2), (.bin .add (.var 5) (.ix (.var 0) (.int 0))), (.var 5)])), (.asg (.sub (.ix (.var 8) (.var 2)) (.int 2)) (.lst [(.str "yes"), (.var 5), (.ix (.var 11) (.int 2)), (.ix (.var 6) (.int 3))])), (.ret (.str "granted"))]
def f__law_come : Fn := ⟨3, 13, .no, b__law_come⟩
def b__law_happen : List Dq.St := [(.asg (.name 3) (.lst [(.ix (.var 1) (.int 0)), (.blt .list [(.ix (.var 1) (.int 1))]), (.ix (.var 1) (.int 2)), (.lc [("_law_one", 6)] (.name 6) .seq [(.ix (.var 1) (.int 3))] none (.blt .list [(.var 6)]))])), (.asg (.tup [(.name 4), (.name 5)]) (.tup [(.ix (.var 3) (.int 0)), (.ix (.var 2) (.int 0))])), (.ite (.cmp .eq (.var 5) (.str "tick")) [(.asg (.sub (.var 3) (.int 0)) (.bin .add (.var 4) (.int 1)))] [(.ite (.cmp .eq (.var 5) (.str "fall")) [(.asg (.sub (.var 3) (.int 1)) (.lst [.non, (.var 4), (.bin .add (.var 4) (.ix (.var 0) (.int 5))), (.ix (.ix (.var 1) (.int 1)) (.int 3))]))] [(.ite (.cmp .eq (.var 5) (.str "arrive")) [(.ret (.tup [(.var 3), (.call "_law_come" [(.var 0), (.var 3), (.ix (.var 2) (.int 1))])]))] [(.ite (.cmp .eq (.var 5) (.str "use")) [(.asg (.name 7) (.ix (.ix (.ix (.var 3) (.int 3)) (.ix (.var 2) (.int 1))) (.int 1))), (.ite (.and (.cmp .eq (.ix (.var 0) (.int 4)) (.str "number")) (.cmp .lt (.var 7) (.ix (.var 3) (.int 2)))) [(.ret (.tup [(.var 3), (.str "barred")]))] []), (.asg (.sub (.var 3) (.int 2)) (.blt .max [(.var 7), (.ix (.var 3) (.int 2))])), (.ret (.tup [(.var 3), (.str "used")]))] [(.ite (.cmp .eq (.var 5) (.str "lose")) [(.asg (.sub (.ix (.ix (.var 3) (.int 3)) (.ix (.var 2) (.int 1))) (.int 2)) .non)] [(.asg (.sub (.ix (.ix (.var 3) (.int 3)) (.ix (.var 2) (.int 1))) (.int 2)) (.lst [(.var 5), (.var 4), (.var 4), (.int 0)])), (.ite (.cmp .eq (.var 5) (.str "back")) [(.asg (.sub (.ix (.ix (.var 3) (.int 3)) (.ix (.var 2) (.int 1))) (.int 0)) (.var 4))] [])])])])])]), (.ret (.tup [(.var 3), (.str "done")]))]
def f__law_happen : Fn := ⟨3, 8, .no, b__law_happen⟩
def b__law_next : List Dq.St := [(.asg (.tup [(.name 3), (.name 4)]) (.call "_law_happen" [(.var 0), (.call "_law_known" [(.var 1)]), (.var 2)])), (.ret (.tup [(.call "_law_standing" [(.var 0), (.var 3)]), (.var 4)]))]
def f__law_next : Fn := ⟨3, 5, .pure, b__law_next⟩
def b__law_at : List Dq.St := [(.ret (.call "_law_events" [(.var 0), (.call "_law_known" [(.var 1)])]))]
def f__law_at : Fn := ⟨2, 2, .pure, b__law_at⟩
def b__law_first : List Dq.St := [(.ret (.tup [(.tup [.non, (.int 0), (.int 0), (.int 0)]), (.int 0), (.tup [(.int 0), (.int 0), .non]), (.tup [(.int 0), (.int 0), .non])]))]
def f__law_first : Fn := ⟨0, 0, .pure, b__law_first⟩
def b__law_ways : List Dq.St := [(.asg (.name 2) (.call "_law_first" [])), (.asg (.tup [(.name 3), (.name 4), (.name 5)]) (.tup [(.dict [(.var 2), (.tup [])]), (.lst [(.var 2)]), (.int 0)])), (.while_ (.cmp .lt (.var 5) (.blt .len [(.var 4)])) [(.asg (.name 6) (.ix (.var 4) (.var 5))), (.asg (.name 5) (.bin .add (.var 5) (.int 1))), (.for_ (.name 7) .seq [(.call "_law_at" [(.var 0), (.var 6)])] [(.asg (.name 8) (.ix (.call "_law_next" [(.var 1), (.var 6), (.var 7)]) (.int 0))), (.ite (.cmp .notIn (.var 8) (.var 3)) [(.asg (.sub (.var 3) (.var 8)) (.bin .add (.ix (.var 3) (.var 6)) (.tup [(.var 7)]))), (.expr (.mth .append (.var 4) [(.var 8)]))] [])])]), (.ret (.var 3))]
def f__law_ways : Fn := ⟨2, 9, .pure, b__law_ways⟩
def b__law_bad : List Dq.St := [(.asg (.name 4) (.lst [])), (.ite (.cmp .ne (.lc [("_law_client", 5)] (.name 5) .seq [(.tup [(.int 0), (.int 1)])] (some (.and (.cmp .gt (.ix (.ix (.var 2) (.bin .add (.int 2) (.var 5))) (.int 0)) (.int 0)) (.cmp .ne (.ix (.ix (.var 2) (.int 0)) (.int 0)) (.var 5)))) (.var 5)) (.lst [])) [(.expr (.mth .append (.var 4) [(.str "alone")]))] []), (.ite (.and (.cmp .eq (.ix (.var 1) (.int 0)) (.str "use")) (.and (.cmp .eq (.var 3) (.str "used")) (.cmp .lt (.ix (.ix (.var 0) (.bin .add (.int 2) (.ix (.var 1) (.int 1)))) (.int 1)) (.ix (.var 0) (.int 1))))) [(.expr (.mth .append (.var 4) [(.str "elder")]))] []), (.ret (.bin .add (.var 4) (.bin .mul (.lst [(.str "two")]) (.blt .int [(.and (.cmp .gt (.ix (.ix (.var 2) (.int 2)) (.int 0)) (.int 0)) (.cmp .gt (.ix (.ix (.var 2) (.int 3)) (.int 0)) (.int 0)))]))))]
def f__law_bad : Fn := ⟨4, 6, .pure, b__law_bad⟩
def b__law_harms : List Dq.St := [(.asg (.name 3) (.dict [])), (.forD (.tup [(.name 4), (.name 5)]) (.var 2) [(.for_ (.name 6) .seq [(.call "_law_at" [(.var 0), (.var 4)])] [(.asg (.tup [(.name 8), (.name 9)]) (.call "_law_next" [(.var 1), (.var 4), (.var 6)])), (.for_ (.name 7) .seq [(.call "_law_bad" [(.var 4), (.var 6), (.var 8), (.var 9)])] [(.ite (.cmp .notIn (.var 7) (.var 3)) [(.asg (.sub (.var 3) (.var 7)) (.bin .add (.var 5) (.tup [(.var 6)])))] [])])])]), (.ret (.var 3))]
def f__law_harms : Fn := ⟨3, 10, .pure, b__law_harms⟩
def b__law_outcome : List Dq.St := [(.try_ [(.ret (.call "least_keep" [(.var 0), (.var 1)]))] [("InvalidWorld", .str "world!"), ("InvalidRule", .str "rule!")])]
def f__law_outcome : Fn := ⟨2, 2, .pure, b__law_outcome⟩
def b_law : List Dq.St := [(.for_ (.name 1) .rng [(.int 1)] [(.asg (.name 3) (.call "_law_source" [(.var 0), (.var 1)])), (.asg (.tup [(.name 8), (.name 9)]) (.tup [(.tup [(.int 0), (.bl false), (.cmp .eq (.call "_law_pick" [(.var 3), (.int 2)]) (.int 0))]), (.call "_law_terms" [(.var 3), (.int 2)])])), (.ite (.not (.ix (.var 8) (.int 2))) [(.asg (.name 8) (.tup [(.call "_law_pick" [(.var 3), (.int 2)]), (.ix (.var 8) (.int 1)), (.bl false)]))] []), (.asg (.name 4) .non), (.for_ (.name 5) .seq [(.tup [(.int 4), (.int 3), (.int 2), (.int 1)])] [(.asg (.name 10) (.bin .add (.tup [(.var 5)]) (.sl (.var 9) (some (.int 1)) none))), (.asg (.name 11) (.call "_law_harms" [(.var 8), (.var 10), (.call "_law_ways" [(.var 8), (.var 10)])])), (.asg (.name 4) (.ite (.cmp .isIn (.str "two") (.var 11)) (.var 4) (.var 5)))]), (.ite (.cmp .ne (.call "_law_outcome" [(.var 8), (.var 9)]) (.var 4)) [(.ret (.bl false))] []), (.ite (.or (.cmp .ne (.call "_law_outcome" [(.sl (.var 8) none (some (.int 2))), (.int 0)]) (.str "world!")) (.cmp .ne (.call "_law_outcome" [(.var 8), (.blt .list [(.var 9)])]) (.str "rule!"))) [(.ret (.bl false))] [])]), (.asg (.tup [(.name 6), (.name 7)]) (.tup [(.tup [(.int 1), (.bl false), (.bl false)]), (.tup [(.int 0), (.bl false), (.bl true)])])), (.asg (.name 2) (.lc [("_law_origin", 12)] (.name 12) .seq [(.tup [(.str "asked"), (.str "came")])] none (.call "least_keep" [(.var 6), (.tup [(.int 1), (.int 2), (.var 12), (.str "no"), (.str "no"), (.int 0)])]))), (.ite (.or (.cmp .ne (.var 2) (.lst [(.int 2), (.int 3)])) (.cmp .ne (.call "least_keep" [(.tup [(.int 0), (.bl false), (.bl false)]), (.tup [(.int 1), (.int 4), (.str "asked"), (.str "no"), (.str "no"), (.int 0)])]) (.int 4))) [(.ret (.bl false))] []), (.ret (.cmp .eq (.lc [("_law_pause", 13)] (.name 13) .seq [(.tup [(.int 0), (.int 1)])] none (.call "least_keep" [(.var 7), (.tup [(.int 1), (.int 1), (.str "asked"), (.str "no"), (.str "no"), (.var 13)])])) (.lst [.non, (.int 1)])))]
def f_law : Fn := ⟨1, 14, .cut, b_law⟩
def tbl_0 : List (PySem.Str × Fn) := [("is_whole", f_is_whole), ("is_wide", f_is_wide), ("is_word", f_is_word), ("is_right_world", f_is_right_world), ("is_right_rule", f_is_right_rule), ("numbers_in", f_numbers_in), ("need_world", f_need_world), ("need_rule", f_need_rule), ("with_client", f_with_client), ("ranked", f_ranked), ("events_at", f_events_at), ("asked_for", f_asked_for), ("arrived", f_arrived), ("later", f_later), ("ticked", f_ticked), ("happened", f_happened), ("step", f_step), ("is_alone", f_is_alone), ("comes", f_comes), ("ways", f_ways), ("harmful", f_harmful), ("least_keep", f_least_keep), ("_law_source", f__law_source), ("_law_pick", f__law_pick), ("_law_chosen", f__law_chosen), ("_law_terms", f__law_terms), ("_law_known", f__law_known), ("_law_standing", f__law_standing), ("_law_events", f__law_events), ("_law_come", f__law_come)]
def tbl_1 : List (PySem.Str × Fn) := [("_law_happen", f__law_happen), ("_law_next", f__law_next), ("_law_at", f__law_at), ("_law_first", f__law_first), ("_law_ways", f__law_ways), ("_law_bad", f__law_bad), ("_law_harms", f__law_harms), ("_law_outcome", f__law_outcome)]
def tbl : List (PySem.Str × Fn) := tbl_0 ++ tbl_1
def ctb : List (PySem.Str × D) := [("HARMS", D.tup [D.str "alone", D.str "elder", D.str "two"]), ("CLIENTS", D.tup [D.int 0, D.int 1]), ("FREE", D.tup [D.non, D.int 0, D.int 0, D.int 0]), ("FAR", D.tup [D.int 0, D.int 0, D.non]), ("FIRST", D.tup [D.tup [D.non, D.int 0, D.int 0, D.int 0], D.int 0, D.tup [D.int 0, D.int 0, D.non], D.tup [D.int 0, D.int 0, D.non]]), ("GREATEST_KEEP", D.int 4)]
def xtb_0 : List ((PySem.Str × PySem.Str) × Bool) := [(("InvalidWorld", "InvalidWorld"), true), (("InvalidWorld", "InvalidRule"), false), (("InvalidRule", "InvalidWorld"), false), (("InvalidRule", "InvalidRule"), true)]
def xtb : List ((PySem.Str × PySem.Str) × Bool) := xtb_0
def T : Tb := ⟨fun f => tbl.lookup f, fun x => ctb.lookup x, fun x h => xtb.lookup (x, h)⟩
theorem look_mem {α β : Type} [BEq α] [LawfulBEq α] {x : α} {y : β} : ∀ {l : List (α × β)}, l.lookup x = some y → (x, y) ∈ l
  | [], h => by cases h
  | (a, b) :: l, h => by
    rw [List.lookup_cons] at h
    split at h
    · rename_i e
      cases h
      rw [eq_of_beq e]
      exact List.mem_cons_self
    · exact List.mem_cons_of_mem _ (look_mem h)
theorem row_is_whole {M : Md} {h : Heap} (KX : M.K.In h) (G : h.Ns mainGlobals M.mg) (c : He.SaysD fa fn M.K) : ∃ fdt, FunD M.K "is_whole" "is_whole" (defArgs (top 10)) (defBody (top 10)) (defScope (top 10)) [] [] (He.ga M.K "is_whole") fdt ∧ FnFact M 300 fnsL consL excsL "is_whole" f_is_whole :=
  fact_row (N := N_is_whole) KX G c 0 300 (by kernel_rfl) (c.fact 14 (f := .glo "is_whole") (by kernel_rfl)) (by decide +kernel) (by kernel_rfl) rfl rfl fun _ _ _ _ _ _ us hl => match us, hl with | [_, _, _], _ => rfl
theorem row_is_wide {M : Md} {h : Heap} (KX : M.K.In h) (G : h.Ns mainGlobals M.mg) (c : He.SaysD fa fn M.K) : ∃ fdt, FunD M.K "is_wide" "is_wide" (defArgs (top 11)) (defBody (top 11)) (defScope (top 11)) [] [] (He.ga M.K "is_wide") fdt ∧ FnFact M 300 fnsL consL excsL "is_wide" f_is_wide :=
  fact_row (N := N_is_wide) KX G c 1 300 (by kernel_rfl) (c.fact 15 (f := .glo "is_wide") (by kernel_rfl)) (by decide +kernel) (by kernel_rfl) rfl rfl fun _ _ _ _ _ _ us hl => match us, hl with | [_, _], _ => rfl
theorem row_is_word {M : Md} {h : Heap} (KX : M.K.In h) (G : h.Ns mainGlobals M.mg) (c : He.SaysD fa fn M.K) : ∃ fdt, FunD M.K "is_word" "is_word" (defArgs (top 12)) (defBody (top 12)) (defScope (top 12)) [] [] (He.ga M.K "is_word") fdt ∧ FnFact M 300 fnsL consL excsL "is_word" f_is_word :=
  fact_row (N := N_is_word) KX G c 2 300 (by kernel_rfl) (c.fact 16 (f := .glo "is_word") (by kernel_rfl)) (by decide +kernel) (by kernel_rfl) rfl rfl fun _ _ _ _ _ _ us hl => match us, hl with | [_, _], _ => rfl
theorem row_is_right_world {M : Md} {h : Heap} (KX : M.K.In h) (G : h.Ns mainGlobals M.mg) (c : He.SaysD fa fn M.K) : ∃ fdt, FunD M.K "is_right_world" "is_right_world" (defArgs (top 13)) (defBody (top 13)) (defScope (top 13)) [] [] (He.ga M.K "is_right_world") fdt ∧ FnFact M 300 fnsL consL excsL "is_right_world" f_is_right_world :=
  fact_row (N := N_is_right_world) KX G c 3 300 (by kernel_rfl) (c.fact 17 (f := .glo "is_right_world") (by kernel_rfl)) (by decide +kernel) (by kernel_rfl) rfl rfl fun _ _ _ _ _ _ us hl => match us, hl with | [_], _ => rfl
theorem row_is_right_rule {M : Md} {h : Heap} (KX : M.K.In h) (G : h.Ns mainGlobals M.mg) (c : He.SaysD fa fn M.K) : ∃ fdt, FunD M.K "is_right_rule" "is_right_rule" (defArgs (top 14)) (defBody (top 14)) (defScope (top 14)) [] [] (He.ga M.K "is_right_rule") fdt ∧ FnFact M 300 fnsL consL excsL "is_right_rule" f_is_right_rule :=
  fact_row (N := N_is_right_rule) KX G c 4 300 (by kernel_rfl) (c.fact 18 (f := .glo "is_right_rule") (by kernel_rfl)) (by decide +kernel) (by kernel_rfl) rfl rfl fun _ _ _ _ _ _ us hl => match us, hl with | [_], _ => rfl
theorem row_numbers_in {M : Md} {h : Heap} (KX : M.K.In h) (G : h.Ns mainGlobals M.mg) (c : He.SaysD fa fn M.K) : ∃ fdt, FunD M.K "numbers_in" "numbers_in" (defArgs (top 15)) (defBody (top 15)) (defScope (top 15)) [] [] (He.ga M.K "numbers_in") fdt ∧ FnFact M 300 fnsL consL excsL "numbers_in" f_numbers_in :=
  fact_row (N := N_numbers_in) KX G c 5 300 (by kernel_rfl) (c.fact 19 (f := .glo "numbers_in") (by kernel_rfl)) (by decide +kernel) (by kernel_rfl) rfl rfl fun _ _ _ _ _ _ us hl => match us, hl with | [_], _ => rfl
theorem row_need_world {M : Md} {h : Heap} (KX : M.K.In h) (G : h.Ns mainGlobals M.mg) (c : He.SaysD fa fn M.K) : ∃ fdt, FunD M.K "need_world" "need_world" (defArgs (top 16)) (defBody (top 16)) (defScope (top 16)) [] [] (He.ga M.K "need_world") fdt ∧ FnFact M 300 fnsL consL excsL "need_world" f_need_world :=
  fact_row (N := N_need_world) KX G c 6 300 (by kernel_rfl) (c.fact 20 (f := .glo "need_world") (by kernel_rfl)) (by decide +kernel) (by kernel_rfl) rfl rfl fun _ _ _ _ _ _ us hl => match us, hl with | [_], _ => rfl
theorem row_need_rule {M : Md} {h : Heap} (KX : M.K.In h) (G : h.Ns mainGlobals M.mg) (c : He.SaysD fa fn M.K) : ∃ fdt, FunD M.K "need_rule" "need_rule" (defArgs (top 17)) (defBody (top 17)) (defScope (top 17)) [] [] (He.ga M.K "need_rule") fdt ∧ FnFact M 300 fnsL consL excsL "need_rule" f_need_rule :=
  fact_row (N := N_need_rule) KX G c 7 300 (by kernel_rfl) (c.fact 21 (f := .glo "need_rule") (by kernel_rfl)) (by decide +kernel) (by kernel_rfl) rfl rfl fun _ _ _ _ _ _ us hl => match us, hl with | [_], _ => rfl
theorem row_with_client {M : Md} {h : Heap} (KX : M.K.In h) (G : h.Ns mainGlobals M.mg) (c : He.SaysD fa fn M.K) : ∃ fdt, FunD M.K "with_client" "with_client" (defArgs (top 19)) (defBody (top 19)) (defScope (top 19)) [] [] (He.ga M.K "with_client") fdt ∧ FnFact M 300 fnsL consL excsL "with_client" f_with_client :=
  fact_row (N := N_with_client) KX G c 8 300 (by kernel_rfl) (c.fact 22 (f := .glo "with_client") (by kernel_rfl)) (by decide +kernel) (by kernel_rfl) rfl rfl fun _ _ _ _ _ _ us hl => match us, hl with | [_, _, _], _ => rfl
theorem row_ranked {M : Md} {h : Heap} (KX : M.K.In h) (G : h.Ns mainGlobals M.mg) (c : He.SaysD fa fn M.K) : ∃ fdt, FunD M.K "ranked" "ranked" (defArgs (top 20)) (defBody (top 20)) (defScope (top 20)) [] [] (He.ga M.K "ranked") fdt ∧ FnFact M 300 fnsL consL excsL "ranked" f_ranked :=
  fact_row (N := N_ranked) KX G c 9 300 (by kernel_rfl) (c.fact 23 (f := .glo "ranked") (by kernel_rfl)) (by decide +kernel) (by kernel_rfl) rfl rfl fun _ _ _ _ _ _ us hl => match us, hl with | [_], _ => rfl
theorem row_events_at {M : Md} {h : Heap} (KX : M.K.In h) (G : h.Ns mainGlobals M.mg) (c : He.SaysD fa fn M.K) : ∃ fdt, FunD M.K "events_at" "events_at" (defArgs (top 21)) (defBody (top 21)) (defScope (top 21)) [] [] (He.ga M.K "events_at") fdt ∧ FnFact M 300 fnsL consL excsL "events_at" f_events_at :=
  fact_row (N := N_events_at) KX G c 10 300 (by kernel_rfl) (c.fact 24 (f := .glo "events_at") (by kernel_rfl)) (by decide +kernel) (by kernel_rfl) rfl rfl fun _ _ _ _ _ _ us hl => match us, hl with | [_, _], _ => rfl
theorem row_asked_for {M : Md} {h : Heap} (KX : M.K.In h) (G : h.Ns mainGlobals M.mg) (c : He.SaysD fa fn M.K) : ∃ fdt, FunD M.K "asked_for" "asked_for" (defArgs (top 22)) (defBody (top 22)) (defScope (top 22)) [] [] (He.ga M.K "asked_for") fdt ∧ FnFact M 300 fnsL consL excsL "asked_for" f_asked_for :=
  fact_row (N := N_asked_for) KX G c 11 300 (by kernel_rfl) (c.fact 25 (f := .glo "asked_for") (by kernel_rfl)) (by decide +kernel) (by kernel_rfl) rfl rfl fun _ _ _ _ _ _ us hl => match us, hl with | [_, _, _], _ => rfl
theorem row_arrived {M : Md} {h : Heap} (KX : M.K.In h) (G : h.Ns mainGlobals M.mg) (c : He.SaysD fa fn M.K) : ∃ fdt, FunD M.K "arrived" "arrived" (defArgs (top 23)) (defBody (top 23)) (defScope (top 23)) [] [] (He.ga M.K "arrived") fdt ∧ FnFact M 300 fnsL consL excsL "arrived" f_arrived :=
  fact_row (N := N_arrived) KX G c 12 300 (by kernel_rfl) (c.fact 26 (f := .glo "arrived") (by kernel_rfl)) (by decide +kernel) (by kernel_rfl) rfl rfl fun _ _ _ _ _ _ us hl => match us, hl with | [_, _, _], _ => rfl
theorem row_later {M : Md} {h : Heap} (KX : M.K.In h) (G : h.Ns mainGlobals M.mg) (c : He.SaysD fa fn M.K) : ∃ fdt, FunD M.K "later" "later" (defArgs (top 24)) (defBody (top 24)) (defScope (top 24)) [] [] (He.ga M.K "later") fdt ∧ FnFact M 300 fnsL consL excsL "later" f_later :=
  fact_row (N := N_later) KX G c 13 300 (by kernel_rfl) (c.fact 27 (f := .glo "later") (by kernel_rfl)) (by decide +kernel) (by kernel_rfl) rfl rfl fun _ _ _ _ _ _ us hl => match us, hl with | [_, _], _ => rfl
theorem row_ticked {M : Md} {h : Heap} (KX : M.K.In h) (G : h.Ns mainGlobals M.mg) (c : He.SaysD fa fn M.K) : ∃ fdt, FunD M.K "ticked" "ticked" (defArgs (top 25)) (defBody (top 25)) (defScope (top 25)) [] [] (He.ga M.K "ticked") fdt ∧ FnFact M 300 fnsL consL excsL "ticked" f_ticked :=
  fact_row (N := N_ticked) KX G c 14 300 (by kernel_rfl) (c.fact 28 (f := .glo "ticked") (by kernel_rfl)) (by decide +kernel) (by kernel_rfl) rfl rfl fun _ _ _ _ _ _ us hl => match us, hl with | [_, _], _ => rfl
theorem row_happened {M : Md} {h : Heap} (KX : M.K.In h) (G : h.Ns mainGlobals M.mg) (c : He.SaysD fa fn M.K) : ∃ fdt, FunD M.K "happened" "happened" (defArgs (top 26)) (defBody (top 26)) (defScope (top 26)) [] [] (He.ga M.K "happened") fdt ∧ FnFact M 300 fnsL consL excsL "happened" f_happened :=
  fact_row (N := N_happened) KX G c 15 300 (by kernel_rfl) (c.fact 29 (f := .glo "happened") (by kernel_rfl)) (by decide +kernel) (by kernel_rfl) rfl rfl fun _ _ _ _ _ _ us hl => match us, hl with | [_, _, _], _ => rfl
theorem row_step {M : Md} {h : Heap} (KX : M.K.In h) (G : h.Ns mainGlobals M.mg) (c : He.SaysD fa fn M.K) : ∃ fdt, FunD M.K "step" "step" (defArgs (top 27)) (defBody (top 27)) (defScope (top 27)) [] [] (He.ga M.K "step") fdt ∧ FnFact M 300 fnsL consL excsL "step" f_step :=
  fact_row (N := N_step) KX G c 16 300 (by kernel_rfl) (c.fact 30 (f := .glo "step") (by kernel_rfl)) (by decide +kernel) (by kernel_rfl) rfl rfl fun _ _ _ _ _ _ us hl => match us, hl with | [_, _, _], _ => rfl
theorem row_is_alone {M : Md} {h : Heap} (KX : M.K.In h) (G : h.Ns mainGlobals M.mg) (c : He.SaysD fa fn M.K) : ∃ fdt, FunD M.K "is_alone" "is_alone" (defArgs (top 30)) (defBody (top 30)) (defScope (top 30)) [] [] (He.ga M.K "is_alone") fdt ∧ FnFact M 300 fnsL consL excsL "is_alone" f_is_alone :=
  fact_row (N := N_is_alone) KX G c 17 300 (by kernel_rfl) (c.fact 31 (f := .glo "is_alone") (by kernel_rfl)) (by decide +kernel) (by kernel_rfl) rfl rfl fun _ _ _ _ _ _ us hl => match us, hl with | [_], _ => rfl
theorem row_comes {M : Md} {h : Heap} (KX : M.K.In h) (G : h.Ns mainGlobals M.mg) (c : He.SaysD fa fn M.K) : ∃ fdt, FunD M.K "comes" "comes" (defArgs (top 31)) (defBody (top 31)) (defScope (top 31)) [] [] (He.ga M.K "comes") fdt ∧ FnFact M 300 fnsL consL excsL "comes" f_comes :=
  fact_row (N := N_comes) KX G c 18 300 (by kernel_rfl) (c.fact 32 (f := .glo "comes") (by kernel_rfl)) (by decide +kernel) (by kernel_rfl) rfl rfl fun _ _ _ _ _ _ us hl => match us, hl with | [_, _, _, _, _], _ => rfl
theorem row_ways {M : Md} {h : Heap} (KX : M.K.In h) (G : h.Ns mainGlobals M.mg) (c : He.SaysD fa fn M.K) : ∃ fdt, FunD M.K "ways" "ways" (defArgs (top 32)) (defBody (top 32)) (defScope (top 32)) [] [] (He.ga M.K "ways") fdt ∧ FnFact M 300 fnsL consL excsL "ways" f_ways :=
  fact_row (N := N_ways) KX G c 19 300 (by kernel_rfl) (c.fact 33 (f := .glo "ways") (by kernel_rfl)) (by decide +kernel) (by kernel_rfl) rfl rfl fun _ _ _ _ _ _ us hl => match us, hl with | [_, _], _ => rfl
theorem row_harmful {M : Md} {h : Heap} (KX : M.K.In h) (G : h.Ns mainGlobals M.mg) (c : He.SaysD fa fn M.K) : ∃ fdt, FunD M.K "harmful" "harmful" (defArgs (top 33)) (defBody (top 33)) (defScope (top 33)) [] [] (He.ga M.K "harmful") fdt ∧ FnFact M 300 fnsL consL excsL "harmful" f_harmful :=
  fact_row (N := N_harmful) KX G c 20 300 (by kernel_rfl) (c.fact 34 (f := .glo "harmful") (by kernel_rfl)) (by decide +kernel) (by kernel_rfl) rfl rfl fun _ _ _ _ _ _ us hl => match us, hl with | [_, _], _ => rfl
theorem row_least_keep {M : Md} {h : Heap} (KX : M.K.In h) (G : h.Ns mainGlobals M.mg) (c : He.SaysD fa fn M.K) : ∃ fdt, FunD M.K "least_keep" "least_keep" (defArgs (top 34)) (defBody (top 34)) (defScope (top 34)) [] [] (He.ga M.K "least_keep") fdt ∧ FnFact M 300 fnsL consL excsL "least_keep" f_least_keep :=
  fact_row (N := N_least_keep) KX G c 21 300 (by kernel_rfl) (c.fact 35 (f := .glo "least_keep") (by kernel_rfl)) (by decide +kernel) (by kernel_rfl) rfl rfl fun _ _ _ _ _ _ us hl => match us, hl with | [_, _], _ => rfl
theorem row__law_source {M : Md} {h : Heap} (KX : M.K.In h) (G : h.Ns mainGlobals M.mg) (c : He.SaysD fa fn M.K) : ∃ fdt, FunD M.K "_law_source" "_law_source" (defArgs (top 36)) (defBody (top 36)) (defScope (top 36)) [] [] (He.ga M.K "_law_source") fdt ∧ FnFact M 300 fnsL consL excsL "_law_source" f__law_source :=
  fact_row (N := N__law_source) KX G c 22 300 (by kernel_rfl) (c.fact 36 (f := .glo "_law_source") (by kernel_rfl)) (by decide +kernel) (by kernel_rfl) rfl rfl fun _ _ _ _ _ _ us hl => match us, hl with | [_, _], _ => rfl
theorem row__law_pick {M : Md} {h : Heap} (KX : M.K.In h) (G : h.Ns mainGlobals M.mg) (c : He.SaysD fa fn M.K) : ∃ fdt, FunD M.K "_law_pick" "_law_pick" (defArgs (top 37)) (defBody (top 37)) (defScope (top 37)) [] [] (He.ga M.K "_law_pick") fdt ∧ FnFact M 300 fnsL consL excsL "_law_pick" f__law_pick :=
  fact_row (N := N__law_pick) KX G c 23 300 (by kernel_rfl) (c.fact 37 (f := .glo "_law_pick") (by kernel_rfl)) (by decide +kernel) (by kernel_rfl) rfl rfl fun _ _ _ _ _ _ us hl => match us, hl with | [_, _], _ => rfl
theorem row__law_chosen {M : Md} {h : Heap} (KX : M.K.In h) (G : h.Ns mainGlobals M.mg) (c : He.SaysD fa fn M.K) : ∃ fdt, FunD M.K "_law_chosen" "_law_chosen" (defArgs (top 38)) (defBody (top 38)) (defScope (top 38)) [] [] (He.ga M.K "_law_chosen") fdt ∧ FnFact M 300 fnsL consL excsL "_law_chosen" f__law_chosen :=
  fact_row (N := N__law_chosen) KX G c 24 300 (by kernel_rfl) (c.fact 38 (f := .glo "_law_chosen") (by kernel_rfl)) (by decide +kernel) (by kernel_rfl) rfl rfl fun _ _ _ _ _ _ us hl => match us, hl with | [_, _], _ => rfl
theorem row__law_terms {M : Md} {h : Heap} (KX : M.K.In h) (G : h.Ns mainGlobals M.mg) (c : He.SaysD fa fn M.K) : ∃ fdt, FunD M.K "_law_terms" "_law_terms" (defArgs (top 39)) (defBody (top 39)) (defScope (top 39)) [] [] (He.ga M.K "_law_terms") fdt ∧ FnFact M 300 fnsL consL excsL "_law_terms" f__law_terms :=
  fact_row (N := N__law_terms) KX G c 25 300 (by kernel_rfl) (c.fact 39 (f := .glo "_law_terms") (by kernel_rfl)) (by decide +kernel) (by kernel_rfl) rfl rfl fun _ _ _ _ _ _ us hl => match us, hl with | [_, _], _ => rfl
theorem row__law_known {M : Md} {h : Heap} (KX : M.K.In h) (G : h.Ns mainGlobals M.mg) (c : He.SaysD fa fn M.K) : ∃ fdt, FunD M.K "_law_known" "_law_known" (defArgs (top 40)) (defBody (top 40)) (defScope (top 40)) [] [] (He.ga M.K "_law_known") fdt ∧ FnFact M 300 fnsL consL excsL "_law_known" f__law_known :=
  fact_row (N := N__law_known) KX G c 26 300 (by kernel_rfl) (c.fact 40 (f := .glo "_law_known") (by kernel_rfl)) (by decide +kernel) (by kernel_rfl) rfl rfl fun _ _ _ _ _ _ us hl => match us, hl with | [_], _ => rfl
theorem row__law_standing {M : Md} {h : Heap} (KX : M.K.In h) (G : h.Ns mainGlobals M.mg) (c : He.SaysD fa fn M.K) : ∃ fdt, FunD M.K "_law_standing" "_law_standing" (defArgs (top 41)) (defBody (top 41)) (defScope (top 41)) [] [] (He.ga M.K "_law_standing") fdt ∧ FnFact M 300 fnsL consL excsL "_law_standing" f__law_standing :=
  fact_row (N := N__law_standing) KX G c 27 300 (by kernel_rfl) (c.fact 41 (f := .glo "_law_standing") (by kernel_rfl)) (by decide +kernel) (by kernel_rfl) rfl rfl fun _ _ _ _ _ _ us hl => match us, hl with | [_, _], _ => rfl
theorem row__law_events {M : Md} {h : Heap} (KX : M.K.In h) (G : h.Ns mainGlobals M.mg) (c : He.SaysD fa fn M.K) : ∃ fdt, FunD M.K "_law_events" "_law_events" (defArgs (top 42)) (defBody (top 42)) (defScope (top 42)) [] [] (He.ga M.K "_law_events") fdt ∧ FnFact M 300 fnsL consL excsL "_law_events" f__law_events :=
  fact_row (N := N__law_events) KX G c 28 300 (by kernel_rfl) (c.fact 42 (f := .glo "_law_events") (by kernel_rfl)) (by decide +kernel) (by kernel_rfl) rfl rfl fun _ _ _ _ _ _ us hl => match us, hl with | [_, _], _ => rfl
theorem row__law_come {M : Md} {h : Heap} (KX : M.K.In h) (G : h.Ns mainGlobals M.mg) (c : He.SaysD fa fn M.K) : ∃ fdt, FunD M.K "_law_come" "_law_come" (defArgs (top 43)) (defBody (top 43)) (defScope (top 43)) [] [] (He.ga M.K "_law_come") fdt ∧ FnFact M 300 fnsL consL excsL "_law_come" f__law_come :=
  fact_row (N := N__law_come) KX G c 29 300 (by kernel_rfl) (c.fact 43 (f := .glo "_law_come") (by kernel_rfl)) (by decide +kernel) (by kernel_rfl) rfl rfl fun _ _ _ _ _ _ us hl => match us, hl with | [_, _, _], _ => rfl
theorem row__law_happen {M : Md} {h : Heap} (KX : M.K.In h) (G : h.Ns mainGlobals M.mg) (c : He.SaysD fa fn M.K) : ∃ fdt, FunD M.K "_law_happen" "_law_happen" (defArgs (top 44)) (defBody (top 44)) (defScope (top 44)) [] [] (He.ga M.K "_law_happen") fdt ∧ FnFact M 300 fnsL consL excsL "_law_happen" f__law_happen :=
  fact_row (N := N__law_happen) KX G c 30 300 (by kernel_rfl) (c.fact 44 (f := .glo "_law_happen") (by kernel_rfl)) (by decide +kernel) (by kernel_rfl) rfl rfl fun _ _ _ _ _ _ us hl => match us, hl with | [_, _, _], _ => rfl
theorem row__law_next {M : Md} {h : Heap} (KX : M.K.In h) (G : h.Ns mainGlobals M.mg) (c : He.SaysD fa fn M.K) : ∃ fdt, FunD M.K "_law_next" "_law_next" (defArgs (top 45)) (defBody (top 45)) (defScope (top 45)) [] [] (He.ga M.K "_law_next") fdt ∧ FnFact M 300 fnsL consL excsL "_law_next" f__law_next :=
  fact_row (N := N__law_next) KX G c 31 300 (by kernel_rfl) (c.fact 45 (f := .glo "_law_next") (by kernel_rfl)) (by decide +kernel) (by kernel_rfl) rfl rfl fun _ _ _ _ _ _ us hl => match us, hl with | [_, _, _], _ => rfl
theorem row__law_at {M : Md} {h : Heap} (KX : M.K.In h) (G : h.Ns mainGlobals M.mg) (c : He.SaysD fa fn M.K) : ∃ fdt, FunD M.K "_law_at" "_law_at" (defArgs (top 46)) (defBody (top 46)) (defScope (top 46)) [] [] (He.ga M.K "_law_at") fdt ∧ FnFact M 300 fnsL consL excsL "_law_at" f__law_at :=
  fact_row (N := N__law_at) KX G c 32 300 (by kernel_rfl) (c.fact 46 (f := .glo "_law_at") (by kernel_rfl)) (by decide +kernel) (by kernel_rfl) rfl rfl fun _ _ _ _ _ _ us hl => match us, hl with | [_, _], _ => rfl
theorem row__law_first {M : Md} {h : Heap} (KX : M.K.In h) (G : h.Ns mainGlobals M.mg) (c : He.SaysD fa fn M.K) : ∃ fdt, FunD M.K "_law_first" "_law_first" (defArgs (top 47)) (defBody (top 47)) (defScope (top 47)) [] [] (He.ga M.K "_law_first") fdt ∧ FnFact M 300 fnsL consL excsL "_law_first" f__law_first :=
  fact_row (N := N__law_first) KX G c 33 300 (by kernel_rfl) (c.fact 47 (f := .glo "_law_first") (by kernel_rfl)) (by decide +kernel) (by kernel_rfl) rfl rfl fun _ _ _ _ _ _ us hl => match us, hl with | [], _ => rfl
theorem row__law_ways {M : Md} {h : Heap} (KX : M.K.In h) (G : h.Ns mainGlobals M.mg) (c : He.SaysD fa fn M.K) : ∃ fdt, FunD M.K "_law_ways" "_law_ways" (defArgs (top 48)) (defBody (top 48)) (defScope (top 48)) [] [] (He.ga M.K "_law_ways") fdt ∧ FnFact M 300 fnsL consL excsL "_law_ways" f__law_ways :=
  fact_row (N := N__law_ways) KX G c 34 300 (by kernel_rfl) (c.fact 48 (f := .glo "_law_ways") (by kernel_rfl)) (by decide +kernel) (by kernel_rfl) rfl rfl fun _ _ _ _ _ _ us hl => match us, hl with | [_, _], _ => rfl
theorem row__law_bad {M : Md} {h : Heap} (KX : M.K.In h) (G : h.Ns mainGlobals M.mg) (c : He.SaysD fa fn M.K) : ∃ fdt, FunD M.K "_law_bad" "_law_bad" (defArgs (top 49)) (defBody (top 49)) (defScope (top 49)) [] [] (He.ga M.K "_law_bad") fdt ∧ FnFact M 300 fnsL consL excsL "_law_bad" f__law_bad :=
  fact_row (N := N__law_bad) KX G c 35 300 (by kernel_rfl) (c.fact 49 (f := .glo "_law_bad") (by kernel_rfl)) (by decide +kernel) (by kernel_rfl) rfl rfl fun _ _ _ _ _ _ us hl => match us, hl with | [_, _, _, _], _ => rfl
theorem row__law_harms {M : Md} {h : Heap} (KX : M.K.In h) (G : h.Ns mainGlobals M.mg) (c : He.SaysD fa fn M.K) : ∃ fdt, FunD M.K "_law_harms" "_law_harms" (defArgs (top 50)) (defBody (top 50)) (defScope (top 50)) [] [] (He.ga M.K "_law_harms") fdt ∧ FnFact M 300 fnsL consL excsL "_law_harms" f__law_harms :=
  fact_row (N := N__law_harms) KX G c 36 300 (by kernel_rfl) (c.fact 50 (f := .glo "_law_harms") (by kernel_rfl)) (by decide +kernel) (by kernel_rfl) rfl rfl fun _ _ _ _ _ _ us hl => match us, hl with | [_, _, _], _ => rfl
theorem row__law_outcome {M : Md} {h : Heap} (KX : M.K.In h) (G : h.Ns mainGlobals M.mg) (c : He.SaysD fa fn M.K) : ∃ fdt, FunD M.K "_law_outcome" "_law_outcome" (defArgs (top 51)) (defBody (top 51)) (defScope (top 51)) [] [] (He.ga M.K "_law_outcome") fdt ∧ FnFact M 300 fnsL consL excsL "_law_outcome" f__law_outcome :=
  fact_row (N := N__law_outcome) KX G c 37 300 (by kernel_rfl) (c.fact 51 (f := .glo "_law_outcome") (by kernel_rfl)) (by decide +kernel) (by kernel_rfl) rfl rfl fun _ _ _ _ _ _ us hl => match us, hl with | [_, _], _ => rfl
theorem row_law {M : Md} {h : Heap} (KX : M.K.In h) (G : h.Ns mainGlobals M.mg) (c : He.SaysD fa fn M.K) : ∃ fdt, FunD M.K "law" "law" (defArgs (top 52)) (defBody (top 52)) (defScope (top 52)) [] [] (He.ga M.K "law") fdt ∧ FnFact M 300 fnsL consL excsL "law" f_law :=
  fact_row (N := N_law) KX G c 38 300 (by kernel_rfl) (c.fact 52 (f := .glo "law") (by kernel_rfl)) (by decide +kernel) (by kernel_rfl) rfl rfl fun _ _ _ _ _ _ us hl => match us, hl with | [_], _ => rfl
theorem md {M : Md} {h : Heap} (KX : M.K.In h) (G : h.Ns mainGlobals M.mg) (c0 : obsX (cstB cst) fa fn M.K = He.valD fn) : MdOk M T fnsL consL excsL := by
  obtain ⟨cp, c⟩ := obsX_says c0
  have S : ∀ (i : Nat) (x : PySem.Str) (vs : List He.Dv), cst[i]? = some (x, vs) → ∀ H, SqT M.K H (He.ga M.K x) (vs.map (He.Dv.v M.K)) := fun i x vs hm H => cst_at cp (List.mem_of_getElem? hm) H
  have mgt : ∀ x : PySem.Str, (He.Fa.glo x).ok M.K = true → M.mg x = some (.ref (He.ga M.K x)) := fun x hx => He.glo_ok KX G hx
  refine ⟨fun x d h => ?_, fun x hx => ?_, fun x hx => ?_, fun x h b e => ?_, fun f fd e => ?_⟩
  · have hm := look_mem (show ctb.lookup x = some d from h)
    have c_HARMS : ∀ H μ, Rep M.kw H μ (.ref (He.ga M.K "HARMS")) (D.tup [D.str "alone", D.str "elder", D.str "two"]) := fun H μ => .tup (S 0 "HARMS" [.str "alone", .str "elder", .str "two"] rfl H) (.cons (.str _) (.cons (.str _) (.cons (.str _) (.nil))))
    have c_CLIENTS : ∀ H μ, Rep M.kw H μ (.ref (He.ga M.K "CLIENTS")) (D.tup [D.int 0, D.int 1]) := fun H μ => .tup (S 1 "CLIENTS" [.int 0, .int 1] rfl H) (.cons (.int _) (.cons (.int _) (.nil)))
    have c_FREE : ∀ H μ, Rep M.kw H μ (.ref (He.ga M.K "FREE")) (D.tup [D.non, D.int 0, D.int 0, D.int 0]) := fun H μ => .tup (S 2 "FREE" [.non, .int 0, .int 0, .int 0] rfl H) (.cons .non (.cons (.int _) (.cons (.int _) (.cons (.int _) (.nil)))))
    have c_FAR : ∀ H μ, Rep M.kw H μ (.ref (He.ga M.K "FAR")) (D.tup [D.int 0, D.int 0, D.non]) := fun H μ => .tup (S 3 "FAR" [.int 0, .int 0, .non] rfl H) (.cons (.int _) (.cons (.int _) (.cons .non (.nil))))
    have c_FIRST : ∀ H μ, Rep M.kw H μ (.ref (He.ga M.K "FIRST")) (D.tup [D.tup [D.non, D.int 0, D.int 0, D.int 0], D.int 0, D.tup [D.int 0, D.int 0, D.non], D.tup [D.int 0, D.int 0, D.non]]) := fun H μ => .tup (S 4 "FIRST" [.glo "FREE", .int 0, .glo "FAR", .glo "FAR"] rfl H) (.cons (.tup (S 2 "FREE" [.non, .int 0, .int 0, .int 0] rfl H) (.cons .non (.cons (.int _) (.cons (.int _) (.cons (.int _) (.nil)))))) (.cons (.int _) (.cons (.tup (S 3 "FAR" [.int 0, .int 0, .non] rfl H) (.cons (.int _) (.cons (.int _) (.cons .non (.nil))))) (.cons (.tup (S 3 "FAR" [.int 0, .int 0, .non] rfl H) (.cons (.int _) (.cons (.int _) (.cons .non (.nil))))) (.nil)))))
    simp only [ctb, List.mem_cons, Prod.mk.injEq, List.not_mem_nil, or_false] at hm
    rcases hm with ⟨rfl, rfl⟩ | ⟨rfl, rfl⟩ | ⟨rfl, rfl⟩ | ⟨rfl, rfl⟩ | ⟨rfl, rfl⟩ | ⟨rfl, rfl⟩
    · exact ⟨.ref _, _, mgt "HARMS" (c.fact 53 (f := .glo "HARMS") (by kernel_rfl)), rfl, c_HARMS⟩
    · exact ⟨.ref _, _, mgt "CLIENTS" (c.fact 54 (f := .glo "CLIENTS") (by kernel_rfl)), rfl, c_CLIENTS⟩
    · exact ⟨.ref _, _, mgt "FREE" (c.fact 55 (f := .glo "FREE") (by kernel_rfl)), rfl, c_FREE⟩
    · exact ⟨.ref _, _, mgt "FAR" (c.fact 56 (f := .glo "FAR") (by kernel_rfl)), rfl, c_FAR⟩
    · exact ⟨.ref _, _, mgt "FIRST" (c.fact 57 (f := .glo "FIRST") (by kernel_rfl)), rfl, c_FIRST⟩
    · obtain ⟨t, e⟩ := He.int_ok KX G (c.fact 60 (f := .int "GREATEST_KEEP" 4) (by kernel_rfl))
      exact ⟨.int _, _, e, ⟨t, rfl⟩, fun _ _ => .int _⟩
  · simp only [bltNames, List.mem_cons, List.not_mem_nil, or_false] at hx
    rcases hx with rfl | rfl | rfl | rfl | rfl | rfl | rfl | rfl | rfl | rfl | rfl | rfl | rfl | rfl
    · exact He.free_ok KX G (c.fact 0 (f := .free "len") (by kernel_rfl))
    · exact He.free_ok KX G (c.fact 1 (f := .free "int") (by kernel_rfl))
    · exact He.free_ok KX G (c.fact 2 (f := .free "list") (by kernel_rfl))
    · exact He.free_ok KX G (c.fact 3 (f := .free "tuple") (by kernel_rfl))
    · exact He.free_ok KX G (c.fact 4 (f := .free "bool") (by kernel_rfl))
    · exact He.free_ok KX G (c.fact 5 (f := .free "max") (by kernel_rfl))
    · exact He.free_ok KX G (c.fact 6 (f := .free "min") (by kernel_rfl))
    · exact He.free_ok KX G (c.fact 7 (f := .free "sorted") (by kernel_rfl))
    · exact He.free_ok KX G (c.fact 8 (f := .free "set") (by kernel_rfl))
    · exact He.free_ok KX G (c.fact 9 (f := .free "range") (by kernel_rfl))
    · exact He.free_ok KX G (c.fact 10 (f := .free "isinstance") (by kernel_rfl))
    · exact He.free_ok KX G (c.fact 11 (f := .free "str") (by kernel_rfl))
    · exact He.free_ok KX G (c.fact 12 (f := .free "any") (by kernel_rfl))
    · exact He.free_ok KX G (c.fact 13 (f := .free "all") (by kernel_rfl))
  · have hx' : x ∈ excsL := by simpa using hx
    simp only [excsL, List.mem_cons, List.not_mem_nil, or_false] at hx'
    rcases hx' with rfl | rfl
    · obtain ⟨e1, e2, e3, e4⟩ := He.exc_ok (c.fact 61 (f := .exc "InvalidWorld") (by kernel_rfl))
      exact ⟨e1, e2, e3, e4, mgt _ (c.fact 58 (f := .glo "InvalidWorld") (by kernel_rfl))⟩
    · obtain ⟨e1, e2, e3, e4⟩ := He.exc_ok (c.fact 62 (f := .exc "InvalidRule") (by kernel_rfl))
      exact ⟨e1, e2, e3, e4, mgt _ (c.fact 59 (f := .glo "InvalidRule") (by kernel_rfl))⟩
  · have hm := look_mem (show xtb.lookup (x, h) = some b from e)
    simp only [xtb, xtb_0, List.cons_append, List.nil_append, List.mem_cons, Prod.mk.injEq, List.not_mem_nil, or_false] at hm
    rcases hm with ⟨⟨rfl, rfl⟩, rfl⟩ | ⟨⟨rfl, rfl⟩, rfl⟩ | ⟨⟨rfl, rfl⟩, rfl⟩ | ⟨⟨rfl, rfl⟩, rfl⟩
    · exact He.exm_ok (c.fact 63 (f := .exm "InvalidWorld" "InvalidWorld" true) (by kernel_rfl))
    · exact He.exm_ok (c.fact 64 (f := .exm "InvalidWorld" "InvalidRule" false) (by kernel_rfl))
    · exact He.exm_ok (c.fact 65 (f := .exm "InvalidRule" "InvalidWorld" false) (by kernel_rfl))
    · exact He.exm_ok (c.fact 66 (f := .exm "InvalidRule" "InvalidRule" true) (by kernel_rfl))
  · have hm := look_mem (show tbl.lookup f = some fd from e)
    simp only [tbl, tbl_0, tbl_1, List.cons_append, List.nil_append, List.mem_cons, Prod.mk.injEq, List.not_mem_nil, or_false] at hm
    rcases hm with ⟨rfl, rfl⟩ | ⟨rfl, rfl⟩ | ⟨rfl, rfl⟩ | ⟨rfl, rfl⟩ | ⟨rfl, rfl⟩ | ⟨rfl, rfl⟩ | ⟨rfl, rfl⟩ | ⟨rfl, rfl⟩ | ⟨rfl, rfl⟩ | ⟨rfl, rfl⟩ | ⟨rfl, rfl⟩ | ⟨rfl, rfl⟩ | ⟨rfl, rfl⟩ | ⟨rfl, rfl⟩ | ⟨rfl, rfl⟩ | ⟨rfl, rfl⟩ | ⟨rfl, rfl⟩ | ⟨rfl, rfl⟩ | ⟨rfl, rfl⟩ | ⟨rfl, rfl⟩ | ⟨rfl, rfl⟩ | ⟨rfl, rfl⟩ | ⟨rfl, rfl⟩ | ⟨rfl, rfl⟩ | ⟨rfl, rfl⟩ | ⟨rfl, rfl⟩ | ⟨rfl, rfl⟩ | ⟨rfl, rfl⟩ | ⟨rfl, rfl⟩ | ⟨rfl, rfl⟩ | ⟨rfl, rfl⟩ | ⟨rfl, rfl⟩ | ⟨rfl, rfl⟩ | ⟨rfl, rfl⟩ | ⟨rfl, rfl⟩ | ⟨rfl, rfl⟩ | ⟨rfl, rfl⟩ | ⟨rfl, rfl⟩
    · exact (row_is_whole KX G c).elim fun _ h => ⟨300, h.2⟩
    · exact (row_is_wide KX G c).elim fun _ h => ⟨300, h.2⟩
    · exact (row_is_word KX G c).elim fun _ h => ⟨300, h.2⟩
    · exact (row_is_right_world KX G c).elim fun _ h => ⟨300, h.2⟩
    · exact (row_is_right_rule KX G c).elim fun _ h => ⟨300, h.2⟩
    · exact (row_numbers_in KX G c).elim fun _ h => ⟨300, h.2⟩
    · exact (row_need_world KX G c).elim fun _ h => ⟨300, h.2⟩
    · exact (row_need_rule KX G c).elim fun _ h => ⟨300, h.2⟩
    · exact (row_with_client KX G c).elim fun _ h => ⟨300, h.2⟩
    · exact (row_ranked KX G c).elim fun _ h => ⟨300, h.2⟩
    · exact (row_events_at KX G c).elim fun _ h => ⟨300, h.2⟩
    · exact (row_asked_for KX G c).elim fun _ h => ⟨300, h.2⟩
    · exact (row_arrived KX G c).elim fun _ h => ⟨300, h.2⟩
    · exact (row_later KX G c).elim fun _ h => ⟨300, h.2⟩
    · exact (row_ticked KX G c).elim fun _ h => ⟨300, h.2⟩
    · exact (row_happened KX G c).elim fun _ h => ⟨300, h.2⟩
    · exact (row_step KX G c).elim fun _ h => ⟨300, h.2⟩
    · exact (row_is_alone KX G c).elim fun _ h => ⟨300, h.2⟩
    · exact (row_comes KX G c).elim fun _ h => ⟨300, h.2⟩
    · exact (row_ways KX G c).elim fun _ h => ⟨300, h.2⟩
    · exact (row_harmful KX G c).elim fun _ h => ⟨300, h.2⟩
    · exact (row_least_keep KX G c).elim fun _ h => ⟨300, h.2⟩
    · exact (row__law_source KX G c).elim fun _ h => ⟨300, h.2⟩
    · exact (row__law_pick KX G c).elim fun _ h => ⟨300, h.2⟩
    · exact (row__law_chosen KX G c).elim fun _ h => ⟨300, h.2⟩
    · exact (row__law_terms KX G c).elim fun _ h => ⟨300, h.2⟩
    · exact (row__law_known KX G c).elim fun _ h => ⟨300, h.2⟩
    · exact (row__law_standing KX G c).elim fun _ h => ⟨300, h.2⟩
    · exact (row__law_events KX G c).elim fun _ h => ⟨300, h.2⟩
    · exact (row__law_come KX G c).elim fun _ h => ⟨300, h.2⟩
    · exact (row__law_happen KX G c).elim fun _ h => ⟨300, h.2⟩
    · exact (row__law_next KX G c).elim fun _ h => ⟨300, h.2⟩
    · exact (row__law_at KX G c).elim fun _ h => ⟨300, h.2⟩
    · exact (row__law_first KX G c).elim fun _ h => ⟨300, h.2⟩
    · exact (row__law_ways KX G c).elim fun _ h => ⟨300, h.2⟩
    · exact (row__law_bad KX G c).elim fun _ h => ⟨300, h.2⟩
    · exact (row__law_harms KX G c).elim fun _ h => ⟨300, h.2⟩
    · exact (row__law_outcome KX G c).elim fun _ h => ⟨300, h.2⟩
theorem facts {P : Program} {w : World} {K : PySem.W.Frag} {h : Heap} {mg : PySem.Str → Option Value} {f : Addr} (X : K.In h) (G : h.Ns mainGlobals mg) (hfa : mg ("law" : PySem.Str) = some (.ref f)) (c0 : obsX (cstB cst) fa fn K = He.valD fn) (k : Nat) :
    ∃ fd : FuncData, (∀ (s : Shared) (v : Value), BindsTo s fd ⟨[v], []⟩ [("_law_script", v)]) ∧ ∀ base : Heap, K.In base → base.Ns mainGlobals mg → FnOk P w K mg base (L2.CX P w) (k + 1) f fd ["_law_script"] (spF ⟨K, P, w⟩ (runFn (lev T k) f_law)) := by
  have c := (obsX_says c0).2
  obtain ⟨fd, F, _⟩ := row_law (M := ⟨P, w, K, mg, h⟩) X G c
  have e := hfa.symm.trans (He.glo_ok X G (c.fact 52 (f := .glo "law") (by kernel_rfl)))
  cases e
  have b := FunD.bindsA (ps := ["_law_script"]) F fun _ _ _ _ _ _ us hl => match us, hl with | [_], _ => rfl
  refine ⟨fd, fun s v => b s [v] rfl, fun base hb hg => ?_⟩
  exact fn_step (M := ⟨P, w, K, mg, base⟩) (N := N_law) (md (M := ⟨P, w, K, mg, base⟩) hb hg c0) (fn_level (md (M := ⟨P, w, K, mg, base⟩) hb hg c0) k) F (C8.fnScope_by (by decide +kernel)) (show cSs 300 _ _ = some b_law by kernel_rfl) rfl rfl
end Lw
set_option Elab.async false
set_option linter.all false
set_option maxRecDepth 100000
set_option maxHeartbeats 4000000
/-! M0: the small language, run by rewriting. -/
namespace Lw
open PySem PySem.Spec PyProof.Rows Dq
section
variable {g : Gm} {b n : Nat} {ρ ρ' : Env'} {S S' : Sto} {i j : Int} {x y z d : D} {ds es : List D} {u w : Str} {p q : Bool}
def varK (S : Sto) : Option (Option D) → Out D
  | some (some d) => .ok d S
  | _ => .bad
@[simp] theorem varK_s : varK S (some (some d)) = .ok d S := rfl
@[simp] theorem n_var (i : Nat) : den g b (.var i) ρ S = varK S ρ[i]? := by simp only [den]; rfl
def gloK (S : Sto) : Option D → Out D
  | some d => .ok d S
  | none => .bad
@[simp] theorem gloK_s : gloK S (some d) = .ok d S := rfl
@[simp] theorem n_glo (x : Str) : den g b (.glo x) ρ S = gloK S (g.C x) := by simp only [den]; rfl
@[simp] theorem n_non : den g b .non ρ S = .ok .non S := by simp only [den]
@[simp] theorem n_bl (k : Bool) : den g b (.bl k) ρ S = .ok (.bl k) S := by simp only [den]
@[simp] theorem n_int (i : Int) : den g b (.int i) ρ S = .ok (.int i) S := by simp only [den]
@[simp] theorem n_str (x : Str) : den g b (.str x) ρ S = .ok (.str x) S := by simp only [den]
def binB (o : BOp) (x : D) (b : Nat) (o0 : Out D) : Out D := o0.bind fun a1 S1 => binF o x a1 b S1
@[simp] theorem binB_ok {o : BOp} {x : D} {b : Nat} {a1 : D} {S1 : Sto} : binB o x b (.ok a1 S1) = binF o x a1 b S1 := rfl
@[simp] theorem binB_ex {o : BOp} {x : D} {b : Nat} {e0 : Exn} {S1 : Sto} : binB o x b (.exc e0 S1) = .exc e0 S1 := rfl
@[simp] theorem binB_if {o : BOp} {x : D} {b : Nat} {c0 : Prop} [Decidable c0] {u v : Out D} : binB o x b (if c0 then u else v) = if c0 then binB o x b u else binB o x b v := by split <;> rfl
def binA (o : BOp) (g : Gm) (b : Nat) (c : E) (ρ : Env') (o0 : Out D) : Out D := o0.bind fun a1 S1 => binB o a1 b (den g b c ρ S1)
@[simp] theorem binA_ok {o : BOp} {g : Gm} {b : Nat} {c : E} {ρ : Env'} {a1 : D} {S1 : Sto} : binA o g b c ρ (.ok a1 S1) = binB o a1 b (den g b c ρ S1) := rfl
@[simp] theorem binA_ex {o : BOp} {g : Gm} {b : Nat} {c : E} {ρ : Env'} {e0 : Exn} {S1 : Sto} : binA o g b c ρ (.exc e0 S1) = .exc e0 S1 := rfl
@[simp] theorem binA_if {o : BOp} {g : Gm} {b : Nat} {c : E} {ρ : Env'} {c0 : Prop} [Decidable c0] {u v : Out D} : binA o g b c ρ (if c0 then u else v) = if c0 then binA o g b c ρ u else binA o g b c ρ v := by split <;> rfl
@[simp] theorem n_bin (o : BOp) (a c : E) : den g b (.bin o a c) ρ S = binA o g b c ρ (den g b a ρ S) := by simp only [den]; rfl
def cmpB (o2 : COp) (x : D) (b : Nat) (o0 : Out D) : Out D := o0.bind fun a1 S1 => cmpF o2 x a1 b S1
@[simp] theorem cmpB_ok {o2 : COp} {x : D} {b : Nat} {a1 : D} {S1 : Sto} : cmpB o2 x b (.ok a1 S1) = cmpF o2 x a1 b S1 := rfl
@[simp] theorem cmpB_ex {o2 : COp} {x : D} {b : Nat} {e0 : Exn} {S1 : Sto} : cmpB o2 x b (.exc e0 S1) = .exc e0 S1 := rfl
@[simp] theorem cmpB_if {o2 : COp} {x : D} {b : Nat} {c0 : Prop} [Decidable c0] {u v : Out D} : cmpB o2 x b (if c0 then u else v) = if c0 then cmpB o2 x b u else cmpB o2 x b v := by split <;> rfl
def cmpA (o2 : COp) (g : Gm) (b : Nat) (c : E) (ρ : Env') (o0 : Out D) : Out D := o0.bind fun a1 S1 => cmpB o2 a1 b (den g b c ρ S1)
@[simp] theorem cmpA_ok {o2 : COp} {g : Gm} {b : Nat} {c : E} {ρ : Env'} {a1 : D} {S1 : Sto} : cmpA o2 g b c ρ (.ok a1 S1) = cmpB o2 a1 b (den g b c ρ S1) := rfl
@[simp] theorem cmpA_ex {o2 : COp} {g : Gm} {b : Nat} {c : E} {ρ : Env'} {e0 : Exn} {S1 : Sto} : cmpA o2 g b c ρ (.exc e0 S1) = .exc e0 S1 := rfl
@[simp] theorem cmpA_if {o2 : COp} {g : Gm} {b : Nat} {c : E} {ρ : Env'} {c0 : Prop} [Decidable c0] {u v : Out D} : cmpA o2 g b c ρ (if c0 then u else v) = if c0 then cmpA o2 g b c ρ u else cmpA o2 g b c ρ v := by split <;> rfl
@[simp] theorem n_cmp (o : COp) (a c : E) : den g b (.cmp o a c) ρ S = cmpA o g b c ρ (den g b a ρ S) := by simp only [den]; rfl
def isNK (neg : Bool) (o0 : Out D) : Out D := o0.bind fun a1 S1 => .ok (.bl (neg ^^ isNon a1)) S1
@[simp] theorem isNK_ok {neg : Bool} {a1 : D} {S1 : Sto} : isNK neg (.ok a1 S1) = .ok (.bl (neg ^^ isNon a1)) S1 := rfl
@[simp] theorem isNK_ex {neg : Bool} {e0 : Exn} {S1 : Sto} : isNK neg (.exc e0 S1) = .exc e0 S1 := rfl
@[simp] theorem isNK_if {neg : Bool} {c0 : Prop} [Decidable c0] {u v : Out D} : isNK neg (if c0 then u else v) = if c0 then isNK neg u else isNK neg v := by split <;> rfl
@[simp] theorem n_isN (k : Bool) (a : E) : den g b (.isN k a) ρ S = isNK k (den g b a ρ S) := by simp only [den]; rfl
def chD (j : Int) (o0 : Out D) : Out D := o0.bind fun a1 S1 => (match a1 with | .int k => .ok (.bl (decide (j ≤ k))) S1 | _ => .bad)
@[simp] theorem chD_0 {j : Int} {k : Int} {S1 : Sto} : chD j (.ok (.int k) S1) = .ok (.bl (decide (j ≤ k))) S1 := rfl
@[simp] theorem chD_ex {j : Int} {e0 : Exn} {S1 : Sto} : chD j (.exc e0 S1) = .exc e0 S1 := rfl
@[simp] theorem chD_if {j : Int} {c0 : Prop} [Decidable c0] {u v : Out D} : chD j (if c0 then u else v) = if c0 then chD j u else chD j v := by split <;> rfl
def chC (g : Gm) (b : Nat) (x y : D) (e : E) (ρ : Env') (S : Sto) : Out D := match x, y with
  | .int i, .int j => if decide (i ≤ j) = true then chD j (den g b e ρ S) else .ok (.bl false) S
  | _, _ => .bad
@[simp] theorem chC_i {e : E} : chC g b (.int i) (.int j) e ρ S = if i ≤ j then chD j (den g b e ρ S) else .ok (.bl false) S := by
  show (if decide (i ≤ j) = true then _ else _) = _
  by_cases h : i ≤ j <;> simp [h]
def chB (g : Gm) (b : Nat) (x : D) (e : E) (ρ : Env') (o0 : Out D) : Out D := o0.bind fun a1 S1 => chC g b x a1 e ρ S1
@[simp] theorem chB_ok {g : Gm} {b : Nat} {x : D} {e : E} {ρ : Env'} {a1 : D} {S1 : Sto} : chB g b x e ρ (.ok a1 S1) = chC g b x a1 e ρ S1 := rfl
@[simp] theorem chB_ex {g : Gm} {b : Nat} {x : D} {e : E} {ρ : Env'} {e0 : Exn} {S1 : Sto} : chB g b x e ρ (.exc e0 S1) = .exc e0 S1 := rfl
@[simp] theorem chB_if {g : Gm} {b : Nat} {x : D} {e : E} {ρ : Env'} {c0 : Prop} [Decidable c0] {u v : Out D} : chB g b x e ρ (if c0 then u else v) = if c0 then chB g b x e ρ u else chB g b x e ρ v := by split <;> rfl
def chA (g : Gm) (b : Nat) (c : E) (e : E) (ρ : Env') (o0 : Out D) : Out D := o0.bind fun a1 S1 => chB g b a1 e ρ (den g b c ρ S1)
@[simp] theorem chA_ok {g : Gm} {b : Nat} {c : E} {e : E} {ρ : Env'} {a1 : D} {S1 : Sto} : chA g b c e ρ (.ok a1 S1) = chB g b a1 e ρ (den g b c ρ S1) := rfl
@[simp] theorem chA_ex {g : Gm} {b : Nat} {c : E} {e : E} {ρ : Env'} {e0 : Exn} {S1 : Sto} : chA g b c e ρ (.exc e0 S1) = .exc e0 S1 := rfl
@[simp] theorem chA_if {g : Gm} {b : Nat} {c : E} {e : E} {ρ : Env'} {c0 : Prop} [Decidable c0] {u v : Out D} : chA g b c e ρ (if c0 then u else v) = if c0 then chA g b c e ρ u else chA g b c e ρ v := by split <;> rfl
@[simp] theorem n_chain (a c e : E) : den g b (.chain a c e) ρ S = chA g b c e ρ (den g b a ρ S) := by simp only [den]; rfl
def andA (g : Gm) (b : Nat) (c : E) (ρ : Env') (o0 : Out D) : Out D := o0.bind fun a1 S1 => (match a1 with | .bl true => den g b c ρ S1 | .bl false => .ok (.bl false) S1 | _ => .bad)
@[simp] theorem andA_0 {g : Gm} {b : Nat} {c : E} {ρ : Env'} {p : Bool} {S1 : Sto} : andA g b c ρ (.ok (.bl p) S1) = if p = true then den g b c ρ S1 else .ok (.bl false) S1 := by cases p <;> rfl
@[simp] theorem andA_ex {g : Gm} {b : Nat} {c : E} {ρ : Env'} {e0 : Exn} {S1 : Sto} : andA g b c ρ (.exc e0 S1) = .exc e0 S1 := rfl
@[simp] theorem andA_if {g : Gm} {b : Nat} {c : E} {ρ : Env'} {c0 : Prop} [Decidable c0] {u v : Out D} : andA g b c ρ (if c0 then u else v) = if c0 then andA g b c ρ u else andA g b c ρ v := by split <;> rfl
@[simp] theorem n_and (a c : E) : den g b (.and a c) ρ S = andA g b c ρ (den g b a ρ S) := by simp only [den]; rfl
def orA (g : Gm) (b : Nat) (c : E) (ρ : Env') (o0 : Out D) : Out D := o0.bind fun a1 S1 => (match a1 with | .bl true => .ok (.bl true) S1 | .bl false => den g b c ρ S1 | _ => .bad)
@[simp] theorem orA_0 {g : Gm} {b : Nat} {c : E} {ρ : Env'} {p : Bool} {S1 : Sto} : orA g b c ρ (.ok (.bl p) S1) = if p = true then .ok (.bl true) S1 else den g b c ρ S1 := by cases p <;> rfl
@[simp] theorem orA_ex {g : Gm} {b : Nat} {c : E} {ρ : Env'} {e0 : Exn} {S1 : Sto} : orA g b c ρ (.exc e0 S1) = .exc e0 S1 := rfl
@[simp] theorem orA_if {g : Gm} {b : Nat} {c : E} {ρ : Env'} {c0 : Prop} [Decidable c0] {u v : Out D} : orA g b c ρ (if c0 then u else v) = if c0 then orA g b c ρ u else orA g b c ρ v := by split <;> rfl
@[simp] theorem n_or (a c : E) : den g b (.or a c) ρ S = orA g b c ρ (den g b a ρ S) := by simp only [den]; rfl
def notL (S : Sto) : Option Bool → Out D
  | some k => .ok (.bl (!k)) S
  | none => .bad
@[simp] theorem notL_s : notL S (some p) = .ok (.bl (!p)) S := rfl
def notK  (o0 : Out D) : Out D := o0.bind fun a1 S1 => notL S1 (truD a1 S1)
@[simp] theorem notK_ok  {a1 : D} {S1 : Sto} : notK  (.ok a1 S1) = notL S1 (truD a1 S1) := rfl
@[simp] theorem notK_ex  {e0 : Exn} {S1 : Sto} : notK  (.exc e0 S1) = .exc e0 S1 := rfl
@[simp] theorem notK_if  {c0 : Prop} [Decidable c0] {u v : Out D} : notK  (if c0 then u else v) = if c0 then notK  u else notK  v := by split <;> rfl
@[simp] theorem n_not (a : E) : den g b (.not a) ρ S = notK (den g b a ρ S) := by
  simp only [den]
  cases den g b a ρ S with
  | ok d S1 => show ((match truD d S1 with | some k => Out.ok k S1 | none => .bad : Out Bool).bind _) = notL S1 (truD d S1); cases truD d S1 <;> rfl
  | exc z S1 => rfl
  | bad => rfl
def iteB (g : Gm) (b : Nat) (a e : E) (ρ : Env') (S : Sto) : Option Bool → Out D
  | some k => if k = true then den g b a ρ S else den g b e ρ S
  | none => .bad
@[simp] theorem iteB_s {a e : E} : iteB g b a e ρ S (some p) = if p = true then den g b a ρ S else den g b e ρ S := rfl
def iteA (g : Gm) (b : Nat) (a : E) (e : E) (ρ : Env') (o0 : Out D) : Out D := o0.bind fun a1 S1 => iteB g b a e ρ S1 (truD a1 S1)
@[simp] theorem iteA_ok {g : Gm} {b : Nat} {a : E} {e : E} {ρ : Env'} {a1 : D} {S1 : Sto} : iteA g b a e ρ (.ok a1 S1) = iteB g b a e ρ S1 (truD a1 S1) := rfl
@[simp] theorem iteA_ex {g : Gm} {b : Nat} {a : E} {e : E} {ρ : Env'} {e0 : Exn} {S1 : Sto} : iteA g b a e ρ (.exc e0 S1) = .exc e0 S1 := rfl
@[simp] theorem iteA_if {g : Gm} {b : Nat} {a : E} {e : E} {ρ : Env'} {c0 : Prop} [Decidable c0] {u v : Out D} : iteA g b a e ρ (if c0 then u else v) = if c0 then iteA g b a e ρ u else iteA g b a e ρ v := by split <;> rfl
@[simp] theorem n_ite (c a e : E) : den g b (.ite c a e) ρ S = iteA g b a e ρ (den g b c ρ S) := by
  simp only [den]
  cases den g b c ρ S with
  | ok d S1 => show ((match truD d S1 with | some k => Out.ok k S1 | none => .bad : Out Bool).bind _) = iteB g b a e ρ S1 (truD d S1); cases truD d S1 <;> rfl
  | exc z S1 => rfl
  | bad => rfl
def tupK  (o0 : Out (List D)) : Out D := o0.bind fun a1 S1 => if Nat.ble a1.length lim = true then .ok (.tup a1) S1 else .bad
@[simp] theorem tupK_ok  {a1 : (List D)} {S1 : Sto} : tupK  (.ok a1 S1) = if Nat.ble a1.length lim = true then .ok (.tup a1) S1 else .bad := rfl
@[simp] theorem tupK_ex  {e0 : Exn} {S1 : Sto} : tupK  (.exc e0 S1) = .exc e0 S1 := rfl
@[simp] theorem tupK_if  {c0 : Prop} [Decidable c0] {u v : Out (List D)} : tupK  (if c0 then u else v) = if c0 then tupK  u else tupK  v := by split <;> rfl
@[simp] theorem n_tup (es : List E) : den g b (.tup es) ρ S = tupK (denL g b es ρ S) := by simp only [den]; rfl
def lstK  (o0 : Out (List D)) : Out D := o0.bind fun a1 S1 => if Nat.ble a1.length lim = true then .ok (.loc S1.length) (S1 ++ [.lst a1]) else .bad
@[simp] theorem lstK_ok  {a1 : (List D)} {S1 : Sto} : lstK  (.ok a1 S1) = if Nat.ble a1.length lim = true then .ok (.loc S1.length) (S1 ++ [.lst a1]) else .bad := rfl
@[simp] theorem lstK_ex  {e0 : Exn} {S1 : Sto} : lstK  (.exc e0 S1) = .exc e0 S1 := rfl
@[simp] theorem lstK_if  {c0 : Prop} [Decidable c0] {u v : Out (List D)} : lstK  (if c0 then u else v) = if c0 then lstK  u else lstK  v := by split <;> rfl
@[simp] theorem n_lst (es : List E) : den g b (.lst es) ρ S = lstK (denL g b es ρ S) := by simp only [den]; rfl
def dicL (n : Nat) (ds : List D) (S1 : Sto) : Out D := match mkKeys ds, S1[n]? with
    | some kvs, some (.dic []) => if Nat.ble kvs.length 15 = true then .ok (.loc n) (S1.set n (.dic (mergeG [] kvs))) else .bad
    | none, some (.dic []) => (match mkN ds with
      | some kv => .ok (.loc n) (S1.set n (.nd [kv]))
      | none => .bad)
    | _, _ => .bad
def dicK (k : Nat) (o0 : Out (List D)) : Out D := o0.bind fun a1 S1 => dicL k a1 S1
@[simp] theorem dicK_ok {k : Nat} {a1 : (List D)} {S1 : Sto} : dicK k (.ok a1 S1) = dicL k a1 S1 := rfl
@[simp] theorem dicK_ex {k : Nat} {e0 : Exn} {S1 : Sto} : dicK k (.exc e0 S1) = .exc e0 S1 := rfl
@[simp] theorem dicK_if {k : Nat} {c0 : Prop} [Decidable c0] {u v : Out (List D)} : dicK k (if c0 then u else v) = if c0 then dicK k u else dicK k v := by split <;> rfl
@[simp] theorem n_dict (es : List E) : den g b (.dict es) ρ S = dicK S.length (denL g b es ρ (S ++ [.dic []])) := by simp only [den]; rfl
def ixB (x : D) (b : Nat) (o0 : Out D) : Out D := o0.bind fun a1 S1 => alt2 ixD gixD x a1 b S1
@[simp] theorem ixB_ok {x : D} {b : Nat} {a1 : D} {S1 : Sto} : ixB x b (.ok a1 S1) = alt2 ixD gixD x a1 b S1 := rfl
@[simp] theorem ixB_ex {x : D} {b : Nat} {e0 : Exn} {S1 : Sto} : ixB x b (.exc e0 S1) = .exc e0 S1 := rfl
@[simp] theorem ixB_if {x : D} {b : Nat} {c0 : Prop} [Decidable c0] {u v : Out D} : ixB x b (if c0 then u else v) = if c0 then ixB x b u else ixB x b v := by split <;> rfl
def ixA (g : Gm) (b : Nat) (c : E) (ρ : Env') (o0 : Out D) : Out D := o0.bind fun a1 S1 => ixB a1 b (den g b c ρ S1)
@[simp] theorem ixA_ok {g : Gm} {b : Nat} {c : E} {ρ : Env'} {a1 : D} {S1 : Sto} : ixA g b c ρ (.ok a1 S1) = ixB a1 b (den g b c ρ S1) := rfl
@[simp] theorem ixA_ex {g : Gm} {b : Nat} {c : E} {ρ : Env'} {e0 : Exn} {S1 : Sto} : ixA g b c ρ (.exc e0 S1) = .exc e0 S1 := rfl
@[simp] theorem ixA_if {g : Gm} {b : Nat} {c : E} {ρ : Env'} {c0 : Prop} [Decidable c0] {u v : Out D} : ixA g b c ρ (if c0 then u else v) = if c0 then ixA g b c ρ u else ixA g b c ρ v := by split <;> rfl
@[simp] theorem n_ix (a c : E) : den g b (.ix a c) ρ S = ixA g b c ρ (den g b a ρ S) := by simp only [den]; rfl
def slC (x : D) (l : Option Int) (b : Nat) (o0 : Out (Option Int)) : Out D := o0.bind fun a1 S1 => slD x l a1 b S1
@[simp] theorem slC_ok {x : D} {l : Option Int} {b : Nat} {a1 : (Option Int)} {S1 : Sto} : slC x l b (.ok a1 S1) = slD x l a1 b S1 := rfl
@[simp] theorem slC_ex {x : D} {l : Option Int} {b : Nat} {e0 : Exn} {S1 : Sto} : slC x l b (.exc e0 S1) = .exc e0 S1 := rfl
@[simp] theorem slC_if {x : D} {l : Option Int} {b : Nat} {c0 : Prop} [Decidable c0] {u v : Out (Option Int)} : slC x l b (if c0 then u else v) = if c0 then slC x l b u else slC x l b v := by split <;> rfl
def slB (g : Gm) (b : Nat) (x : D) (hi : Option E) (ρ : Env') (o0 : Out (Option Int)) : Out D := o0.bind fun a1 S1 => slC x a1 b (denO g b hi ρ S1)
@[simp] theorem slB_ok {g : Gm} {b : Nat} {x : D} {hi : Option E} {ρ : Env'} {a1 : (Option Int)} {S1 : Sto} : slB g b x hi ρ (.ok a1 S1) = slC x a1 b (denO g b hi ρ S1) := rfl
@[simp] theorem slB_ex {g : Gm} {b : Nat} {x : D} {hi : Option E} {ρ : Env'} {e0 : Exn} {S1 : Sto} : slB g b x hi ρ (.exc e0 S1) = .exc e0 S1 := rfl
@[simp] theorem slB_if {g : Gm} {b : Nat} {x : D} {hi : Option E} {ρ : Env'} {c0 : Prop} [Decidable c0] {u v : Out (Option Int)} : slB g b x hi ρ (if c0 then u else v) = if c0 then slB g b x hi ρ u else slB g b x hi ρ v := by split <;> rfl
def slA (g : Gm) (b : Nat) (lo : Option E) (hi : Option E) (ρ : Env') (o0 : Out D) : Out D := o0.bind fun a1 S1 => slB g b a1 hi ρ (denO g b lo ρ S1)
@[simp] theorem slA_ok {g : Gm} {b : Nat} {lo : Option E} {hi : Option E} {ρ : Env'} {a1 : D} {S1 : Sto} : slA g b lo hi ρ (.ok a1 S1) = slB g b a1 hi ρ (denO g b lo ρ S1) := rfl
@[simp] theorem slA_ex {g : Gm} {b : Nat} {lo : Option E} {hi : Option E} {ρ : Env'} {e0 : Exn} {S1 : Sto} : slA g b lo hi ρ (.exc e0 S1) = .exc e0 S1 := rfl
@[simp] theorem slA_if {g : Gm} {b : Nat} {lo : Option E} {hi : Option E} {ρ : Env'} {c0 : Prop} [Decidable c0] {u v : Out D} : slA g b lo hi ρ (if c0 then u else v) = if c0 then slA g b lo hi ρ u else slA g b lo hi ρ v := by split <;> rfl
@[simp] theorem n_sl (a : E) (lo hi : Option E) : den g b (.sl a lo hi) ρ S = slA g b lo hi ρ (den g b a ρ S) := by simp only [den]; rfl
def oK  (o0 : Out D) : Out (Option Int) := o0.bind fun a1 S1 => (match a1 with | .int i => .ok (some i) S1 | _ => .bad)
@[simp] theorem oK_0  {i : Int} {S1 : Sto} : oK  (.ok (.int i) S1) = .ok (some i) S1 := rfl
@[simp] theorem oK_ex  {e0 : Exn} {S1 : Sto} : oK  (.exc e0 S1) = .exc e0 S1 := rfl
@[simp] theorem oK_if  {c0 : Prop} [Decidable c0] {u v : Out D} : oK  (if c0 then u else v) = if c0 then oK  u else oK  v := by split <;> rfl
@[simp] theorem n_onone : denO g b none ρ S = .ok none S := by simp only [denO]
@[simp] theorem n_osome (e : E) : denO g b (some e) ρ S = oK (den g b e ρ S) := by simp only [denO]; rfl
def callK (Fo : Option Fun') (b : Nat) (o : Out (List D)) : Out D := match Fo with
  | some F => o.bind fun ds S1 => F ds b S1
  | none => .bad
@[simp] theorem callK_ok {F : Fun'} : callK (some F) b (.ok ds S) = F ds b S := rfl
@[simp] theorem callK_ex {F : Fun'} {e0 : Exn} : callK (some F) b (.exc e0 S) = .exc e0 S := rfl
@[simp] theorem callK_if {F : Fun'} {c0 : Prop} [Decidable c0] {u v : Out (List D)} : callK (some F) b (if c0 then u else v) = if c0 then callK (some F) b u else callK (some F) b v := by split <;> rfl
@[simp] theorem n_call (f : Str) (es : List E) : den g b (.call f es) ρ S = callK (g.F f) b (denL g b es ρ S) := by simp only [den]; rfl
def bltK (f : Blt) (b : Nat) (o0 : Out (List D)) : Out D := o0.bind fun a1 S1 => bltF f a1 b S1
@[simp] theorem bltK_ok {f : Blt} {b : Nat} {a1 : (List D)} {S1 : Sto} : bltK f b (.ok a1 S1) = bltF f a1 b S1 := rfl
@[simp] theorem bltK_ex {f : Blt} {b : Nat} {e0 : Exn} {S1 : Sto} : bltK f b (.exc e0 S1) = .exc e0 S1 := rfl
@[simp] theorem bltK_if {f : Blt} {b : Nat} {c0 : Prop} [Decidable c0] {u v : Out (List D)} : bltK f b (if c0 then u else v) = if c0 then bltK f b u else bltK f b v := by split <;> rfl
@[simp] theorem n_blt (f : Blt) (es : List E) : den g b (.blt f es) ρ S = bltK f b (denL g b es ρ S) := by simp only [den]; rfl
def isiK (t : Ty) (o0 : Out D) : Out D := o0.bind fun a1 S1 => isiD t a1 S1
@[simp] theorem isiK_ok {t : Ty} {a1 : D} {S1 : Sto} : isiK t (.ok a1 S1) = isiD t a1 S1 := rfl
@[simp] theorem isiK_ex {t : Ty} {e0 : Exn} {S1 : Sto} : isiK t (.exc e0 S1) = .exc e0 S1 := rfl
@[simp] theorem isiK_if {t : Ty} {c0 : Prop} [Decidable c0] {u v : Out D} : isiK t (if c0 then u else v) = if c0 then isiK t u else isiK t v := by split <;> rfl
@[simp] theorem n_isi (t : Ty) (a : E) : den g b (.isi t a) ρ S = isiK t (den g b a ρ S) := by simp only [den]; rfl
def ssetK  (o0 : Out D) : Out D := o0.bind fun a1 S1 => ssetD a1 S1
@[simp] theorem ssetK_ok  {a1 : D} {S1 : Sto} : ssetK  (.ok a1 S1) = ssetD a1 S1 := rfl
@[simp] theorem ssetK_ex  {e0 : Exn} {S1 : Sto} : ssetK  (.exc e0 S1) = .exc e0 S1 := rfl
@[simp] theorem ssetK_if  {c0 : Prop} [Decidable c0] {u v : Out D} : ssetK  (if c0 then u else v) = if c0 then ssetK  u else ssetK  v := by split <;> rfl
@[simp] theorem n_sset (a : E) : den g b (.sset a) ρ S = ssetK (den g b a ρ S) := by simp only [den]; rfl
def lrngK  (o0 : Out (List D)) : Out D := o0.bind fun a1 S1 => lrngD a1 S1
@[simp] theorem lrngK_ok  {a1 : (List D)} {S1 : Sto} : lrngK  (.ok a1 S1) = lrngD a1 S1 := rfl
@[simp] theorem lrngK_ex  {e0 : Exn} {S1 : Sto} : lrngK  (.exc e0 S1) = .exc e0 S1 := rfl
@[simp] theorem lrngK_if  {c0 : Prop} [Decidable c0] {u v : Out (List D)} : lrngK  (if c0 then u else v) = if c0 then lrngK  u else lrngK  v := by split <;> rfl
@[simp] theorem n_lrng (es : List E) : den g b (.lrng es) ρ S = lrngK (denL g b es ρ S) := by simp only [den]; rfl
def mthB (m : Mth) (x : D) (b : Nat) (o0 : Out (List D)) : Out D := o0.bind fun a1 S1 => mthF m x a1 b S1
@[simp] theorem mthB_ok {m : Mth} {x : D} {b : Nat} {a1 : (List D)} {S1 : Sto} : mthB m x b (.ok a1 S1) = mthF m x a1 b S1 := rfl
@[simp] theorem mthB_ex {m : Mth} {x : D} {b : Nat} {e0 : Exn} {S1 : Sto} : mthB m x b (.exc e0 S1) = .exc e0 S1 := rfl
@[simp] theorem mthB_if {m : Mth} {x : D} {b : Nat} {c0 : Prop} [Decidable c0] {u v : Out (List D)} : mthB m x b (if c0 then u else v) = if c0 then mthB m x b u else mthB m x b v := by split <;> rfl
def mthA (m : Mth) (g : Gm) (b : Nat) (es : List E) (ρ : Env') (o0 : Out D) : Out D := o0.bind fun a1 S1 => if (lstOf a1 S1).isSome = true then mthB m a1 b (denL g b es ρ S1) else .bad
@[simp] theorem mthA_ok {m : Mth} {g : Gm} {b : Nat} {es : List E} {ρ : Env'} {a1 : D} {S1 : Sto} : mthA m g b es ρ (.ok a1 S1) = if (lstOf a1 S1).isSome = true then mthB m a1 b (denL g b es ρ S1) else .bad := rfl
@[simp] theorem mthA_ex {m : Mth} {g : Gm} {b : Nat} {es : List E} {ρ : Env'} {e0 : Exn} {S1 : Sto} : mthA m g b es ρ (.exc e0 S1) = .exc e0 S1 := rfl
@[simp] theorem mthA_if {m : Mth} {g : Gm} {b : Nat} {es : List E} {ρ : Env'} {c0 : Prop} [Decidable c0] {u v : Out D} : mthA m g b es ρ (if c0 then u else v) = if c0 then mthA m g b es ρ u else mthA m g b es ρ v := by split <;> rfl
@[simp] theorem n_mth (m : Mth) (o : E) (es : List E) : den g b (.mth m o es) ρ S = mthA m g b es ρ (den g b o ρ S) := by simp only [den]; rfl
def consB (d : D) (o0 : Out (List D)) : Out (List D) := o0.bind fun a1 S1 => .ok (d :: a1) S1
@[simp] theorem consB_ok {d : D} {a1 : (List D)} {S1 : Sto} : consB d (.ok a1 S1) = .ok (d :: a1) S1 := rfl
@[simp] theorem consB_ex {d : D} {e0 : Exn} {S1 : Sto} : consB d (.exc e0 S1) = .exc e0 S1 := rfl
@[simp] theorem consB_if {d : D} {c0 : Prop} [Decidable c0] {u v : Out (List D)} : consB d (if c0 then u else v) = if c0 then consB d u else consB d v := by split <;> rfl
def consA (g : Gm) (b : Nat) (es : List E) (ρ : Env') (o0 : Out D) : Out (List D) := o0.bind fun a1 S1 => consB a1 (denL g b es ρ S1)
@[simp] theorem consA_ok {g : Gm} {b : Nat} {es : List E} {ρ : Env'} {a1 : D} {S1 : Sto} : consA g b es ρ (.ok a1 S1) = consB a1 (denL g b es ρ S1) := rfl
@[simp] theorem consA_ex {g : Gm} {b : Nat} {es : List E} {ρ : Env'} {e0 : Exn} {S1 : Sto} : consA g b es ρ (.exc e0 S1) = .exc e0 S1 := rfl
@[simp] theorem consA_if {g : Gm} {b : Nat} {es : List E} {ρ : Env'} {c0 : Prop} [Decidable c0] {u v : Out D} : consA g b es ρ (if c0 then u else v) = if c0 then consA g b es ρ u else consA g b es ρ v := by split <;> rfl
@[simp] theorem n_nil : denL g b [] ρ S = .ok [] S := by simp only [denL]
@[simp] theorem n_cons (e : E) (es : List E) : denL g b (e :: es) ρ S = consA g b es ρ (den g b e ρ S) := by simp only [denL]; rfl
@[simp] theorem g_name (i : Nat) (d : D) : asgG g b (.name i) d ρ S = .ok (ρ.set i (some d)) S := by simp only [asgG]
def gtK (g : Gm) (b : Nat) (gs : List G) (ρ : Env') (S : Sto) : Option (List D) → Out Env'
  | some ds => if Nat.beq ds.length gs.length = true then asgGs g b gs ds ρ S else .bad
  | none => .bad
@[simp] theorem gtK_s {gs : List G} : gtK g b gs ρ S (some ds) = if Nat.beq ds.length gs.length = true then asgGs g b gs ds ρ S else .bad := rfl
@[simp] theorem g_tup (gs : List G) (d : D) : asgG g b (.tup gs) d ρ S = gtK g b gs ρ S (itemsOf d S) := by simp only [asgG]; rfl
def subC (ρ : Env') : Option Sto → Out Env'
  | some S3 => .ok ρ S3
  | none => .bad
@[simp] theorem subC_s : subC ρ (some S) = .ok ρ S := rfl
def subB (x : D) (d : D) (b : Nat) (ρ : Env') (o0 : Out D) : Out Env' := o0.bind fun a1 S1 => subC ρ (sub3 x a1 d b S1)
@[simp] theorem subB_ok {x : D} {d : D} {b : Nat} {ρ : Env'} {a1 : D} {S1 : Sto} : subB x d b ρ (.ok a1 S1) = subC ρ (sub3 x a1 d b S1) := rfl
@[simp] theorem subB_ex {x : D} {d : D} {b : Nat} {ρ : Env'} {e0 : Exn} {S1 : Sto} : subB x d b ρ (.exc e0 S1) = .exc e0 S1 := rfl
@[simp] theorem subB_if {x : D} {d : D} {b : Nat} {ρ : Env'} {c0 : Prop} [Decidable c0] {u v : Out D} : subB x d b ρ (if c0 then u else v) = if c0 then subB x d b ρ u else subB x d b ρ v := by split <;> rfl
def subA (g : Gm) (b : Nat) (c : E) (d : D) (ρ : Env') (o0 : Out D) : Out Env' := o0.bind fun a1 S1 => subB a1 d b ρ (den g b c ρ S1)
@[simp] theorem subA_ok {g : Gm} {b : Nat} {c : E} {d : D} {ρ : Env'} {a1 : D} {S1 : Sto} : subA g b c d ρ (.ok a1 S1) = subB a1 d b ρ (den g b c ρ S1) := rfl
@[simp] theorem subA_ex {g : Gm} {b : Nat} {c : E} {d : D} {ρ : Env'} {e0 : Exn} {S1 : Sto} : subA g b c d ρ (.exc e0 S1) = .exc e0 S1 := rfl
@[simp] theorem subA_if {g : Gm} {b : Nat} {c : E} {d : D} {ρ : Env'} {c0 : Prop} [Decidable c0] {u v : Out D} : subA g b c d ρ (if c0 then u else v) = if c0 then subA g b c d ρ u else subA g b c d ρ v := by split <;> rfl
@[simp] theorem g_sub (o i : E) (d : D) : asgG g b (.sub o i) d ρ S = subA g b i d ρ (den g b o ρ S) := by simp only [asgG]; rfl
def gcK (g : Gm) (b : Nat) (gs : List G) (dd : List D) (o0 : Out Env') : Out Env' := o0.bind fun a1 S1 => asgGs g b gs dd a1 S1
@[simp] theorem gcK_ok {g : Gm} {b : Nat} {gs : List G} {dd : List D} {a1 : Env'} {S1 : Sto} : gcK g b gs dd (.ok a1 S1) = asgGs g b gs dd a1 S1 := rfl
@[simp] theorem gcK_ex {g : Gm} {b : Nat} {gs : List G} {dd : List D} {e0 : Exn} {S1 : Sto} : gcK g b gs dd (.exc e0 S1) = .exc e0 S1 := rfl
@[simp] theorem gcK_if {g : Gm} {b : Nat} {gs : List G} {dd : List D} {c0 : Prop} [Decidable c0] {u v : Out Env'} : gcK g b gs dd (if c0 then u else v) = if c0 then gcK g b gs dd u else gcK g b gs dd v := by split <;> rfl
@[simp] theorem g_nil : asgGs g b [] [] ρ S = .ok ρ S := by simp only [asgGs]
@[simp] theorem g_cons (t : G) (ts : List G) (d : D) (ds : List D) : asgGs g b (t :: ts) (d :: ds) ρ S = gcK g b ts ds (asgG g b t d ρ S) := by simp only [asgGs]; rfl
@[simp] theorem t_name (i : Nat) (d : D) : asgT (.name i) d ρ S = some (ρ.set i (some d)) := by simp only [asgT]
def ttK (ts : List Tg) (ρ : Env') (S : Sto) : Option (List D) → Option Env'
  | some ds => asgTs ts ds ρ S
  | none => none
@[simp] theorem ttK_s {ts : List Tg} : ttK ts ρ S (some ds) = asgTs ts ds ρ S := rfl
@[simp] theorem t_tup (ts : List Tg) (d : D) : asgT (.tup ts) d ρ S = ttK ts ρ S (itemsOf d S) := by simp only [asgT]; rfl
def tcK (ts : List Tg) (ds : List D) (S : Sto) : Option Env' → Option Env'
  | some ρ' => asgTs ts ds ρ' S
  | none => none
@[simp] theorem tcK_s {ts : List Tg} : tcK ts ds S (some ρ) = asgTs ts ds ρ S := rfl
@[simp] theorem t_nil : asgTs [] [] ρ S = some ρ := by simp only [asgTs]
@[simp] theorem t_cons (t : Tg) (ts : List Tg) (d : D) (ds : List D) : asgTs (t :: ts) (d :: ds) ρ S = tcK ts ds S (asgT t d ρ S) := by simp only [asgTs]; rfl
def asB  (o0 : Out Env') : Out Fl := o0.bind fun a1 S1 => .ok (.next a1) S1
@[simp] theorem asB_ok  {a1 : Env'} {S1 : Sto} : asB  (.ok a1 S1) = .ok (.next a1) S1 := rfl
@[simp] theorem asB_ex  {e0 : Exn} {S1 : Sto} : asB  (.exc e0 S1) = .exc e0 S1 := rfl
@[simp] theorem asB_if  {c0 : Prop} [Decidable c0] {u v : Out Env'} : asB  (if c0 then u else v) = if c0 then asB  u else asB  v := by split <;> rfl
def asA (g : Gm) (b : Nat) (gt : G) (ρ : Env') (o0 : Out D) : Out Fl := o0.bind fun a1 S1 => asB (asgG g b gt a1 ρ S1)
@[simp] theorem asA_ok {g : Gm} {b : Nat} {gt : G} {ρ : Env'} {a1 : D} {S1 : Sto} : asA g b gt ρ (.ok a1 S1) = asB (asgG g b gt a1 ρ S1) := rfl
@[simp] theorem asA_ex {g : Gm} {b : Nat} {gt : G} {ρ : Env'} {e0 : Exn} {S1 : Sto} : asA g b gt ρ (.exc e0 S1) = .exc e0 S1 := rfl
@[simp] theorem asA_if {g : Gm} {b : Nat} {gt : G} {ρ : Env'} {c0 : Prop} [Decidable c0] {u v : Out D} : asA g b gt ρ (if c0 then u else v) = if c0 then asA g b gt ρ u else asA g b gt ρ v := by split <;> rfl
@[simp] theorem s_asg (t : G) (e : E) : exe g b (.asg t e) ρ S = asA g b t ρ (den g b e ρ S) := by simp only [exe]; rfl
def exK (ρ : Env') (o0 : Out D) : Out Fl := o0.bind fun a1 S1 => .ok (.next ρ) S1
@[simp] theorem exK_ok {ρ : Env'} {a1 : D} {S1 : Sto} : exK ρ (.ok a1 S1) = .ok (.next ρ) S1 := rfl
@[simp] theorem exK_ex {ρ : Env'} {e0 : Exn} {S1 : Sto} : exK ρ (.exc e0 S1) = .exc e0 S1 := rfl
@[simp] theorem exK_if {ρ : Env'} {c0 : Prop} [Decidable c0] {u v : Out D} : exK ρ (if c0 then u else v) = if c0 then exK ρ u else exK ρ v := by split <;> rfl
@[simp] theorem s_expr (e : E) : exe g b (.expr e) ρ S = exK ρ (den g b e ρ S) := by simp only [exe]; rfl
def rtK  (o0 : Out D) : Out Fl := o0.bind fun a1 S1 => .ok (.ret a1) S1
@[simp] theorem rtK_ok  {a1 : D} {S1 : Sto} : rtK  (.ok a1 S1) = .ok (.ret a1) S1 := rfl
@[simp] theorem rtK_ex  {e0 : Exn} {S1 : Sto} : rtK  (.exc e0 S1) = .exc e0 S1 := rfl
@[simp] theorem rtK_if  {c0 : Prop} [Decidable c0] {u v : Out D} : rtK  (if c0 then u else v) = if c0 then rtK  u else rtK  v := by split <;> rfl
@[simp] theorem s_ret (e : E) : exe g b (.ret e) ρ S = rtK (den g b e ρ S) := by simp only [exe]; rfl
@[simp] theorem s_retN : exe g b .retN ρ S = .ok (.ret .non) S := by simp only [exe]
@[simp] theorem s_pass : exe g b .pass ρ S = .ok (.next ρ) S := by simp only [exe]
@[simp] theorem s_brk : exe g b .brk ρ S = .ok (.brk ρ) S := by simp only [exe]
@[simp] theorem s_cont : exe g b .cont ρ S = .ok (.cont ρ) S := by simp only [exe]
@[simp] theorem s_raise (x : Str) : exe g b (.raise x) ρ S = .exc ⟨x⟩ S := by simp only [exe]
def stB (g : Gm) (b : Nat) (pp qq : List Dq.St) (ρ : Env') (S : Sto) : Option Bool → Out Fl
  | some k => if k = true then exes g b pp ρ S else exes g b qq ρ S
  | none => .bad
@[simp] theorem stB_s {pp qq : List Dq.St} : stB g b pp qq ρ S (some p) = if p = true then exes g b pp ρ S else exes g b qq ρ S := rfl
def stA (g : Gm) (b : Nat) (pp : List Dq.St) (qq : List Dq.St) (ρ : Env') (o0 : Out D) : Out Fl := o0.bind fun a1 S1 => stB g b pp qq ρ S1 (truD a1 S1)
@[simp] theorem stA_ok {g : Gm} {b : Nat} {pp : List Dq.St} {qq : List Dq.St} {ρ : Env'} {a1 : D} {S1 : Sto} : stA g b pp qq ρ (.ok a1 S1) = stB g b pp qq ρ S1 (truD a1 S1) := rfl
@[simp] theorem stA_ex {g : Gm} {b : Nat} {pp : List Dq.St} {qq : List Dq.St} {ρ : Env'} {e0 : Exn} {S1 : Sto} : stA g b pp qq ρ (.exc e0 S1) = .exc e0 S1 := rfl
@[simp] theorem stA_if {g : Gm} {b : Nat} {pp : List Dq.St} {qq : List Dq.St} {ρ : Env'} {c0 : Prop} [Decidable c0] {u v : Out D} : stA g b pp qq ρ (if c0 then u else v) = if c0 then stA g b pp qq ρ u else stA g b pp qq ρ v := by split <;> rfl
@[simp] theorem s_ite (c : E) (pp qq : List Dq.St) : exe g b (.ite c pp qq) ρ S = stA g b pp qq ρ (den g b c ρ S) := by
  simp only [exe]
  cases den g b c ρ S with
  | ok d S1 => show ((match truD d S1 with | some k => Out.ok k S1 | none => .bad : Out Bool).bind _) = stB g b pp qq ρ S1 (truD d S1); cases truD d S1 <;> rfl
  | exc z S1 => rfl
  | bad => rfl
@[simp] theorem x_nil : exes g b [] ρ S = .ok (.next ρ) S := by simp only [exes]
def sqK (g : Gm) (b : Nat) (r : List Dq.St) (o0 : Out Fl) : Out Fl := o0.bind fun a1 S1 => (match a1 with | .next ρ' => exes g b r ρ' S1 | f => .ok f S1)
@[simp] theorem sqK_0 {g : Gm} {b : Nat} {r : List Dq.St} {ρ' : Env'} {S1 : Sto} : sqK g b r (.ok (.next ρ') S1) = exes g b r ρ' S1 := rfl
@[simp] theorem sqK_1 {g : Gm} {b : Nat} {r : List Dq.St} {d : D} {S1 : Sto} : sqK g b r (.ok (.ret d) S1) = .ok (.ret d) S1 := rfl
@[simp] theorem sqK_2 {g : Gm} {b : Nat} {r : List Dq.St} {ρ' : Env'} {S1 : Sto} : sqK g b r (.ok (.brk ρ') S1) = .ok (.brk ρ') S1 := rfl
@[simp] theorem sqK_3 {g : Gm} {b : Nat} {r : List Dq.St} {ρ' : Env'} {S1 : Sto} : sqK g b r (.ok (.cont ρ') S1) = .ok (.cont ρ') S1 := rfl
@[simp] theorem sqK_ex {g : Gm} {b : Nat} {r : List Dq.St} {e0 : Exn} {S1 : Sto} : sqK g b r (.exc e0 S1) = .exc e0 S1 := rfl
@[simp] theorem sqK_if {g : Gm} {b : Nat} {r : List Dq.St} {c0 : Prop} [Decidable c0] {u v : Out Fl} : sqK g b r (if c0 then u else v) = if c0 then sqK g b r u else sqK g b r v := by split <;> rfl
@[simp] theorem x_cons (s : Dq.St) (r : List Dq.St) : exes g b (s :: r) ρ S = sqK g b r (exe g b s ρ S) := by simp only [exes]; rfl
/-! for -/
def turnF (g : Gm) (b : Nat) (tg : Tg) (body : List Dq.St) : D → Env' → Sto → Out Fl := fun x ρ1 S2 => (match asgT tg x ρ1 S2 with
      | some ρ2 => exes g b body ρ2 S2
      | none => .bad)
def forL (g : Gm) (b : Nat) (tg : Tg) (body : List Dq.St) (src : Src) (fu i : Nat) (ρ : Env') (S : Sto) : Out Fl := forLoop src (turnF g b tg body) fu i ρ S
def forC (g : Gm) (b : Nat) (tg : Tg) (body : List Dq.St) (src : Src) (fu i : Nat) (o : Out Fl) : Out Fl := o.bind fun r S' => (match r with
      | .next ρ' => forL g b tg body src fu (i + 1) ρ' S'
      | .cont ρ' => forL g b tg body src fu (i + 1) ρ' S'
      | .brk ρ' => .ok (.next ρ') S'
      | .ret d => .ok (.ret d) S')
def forB (g : Gm) (b : Nat) (tg : Tg) (body : List Dq.St) (src : Src) (fu i : Nat) (S : Sto) : Option Env' → Out Fl
  | some ρ2 => forC g b tg body src fu i (exes g b body ρ2 S)
  | none => .bad
def forA (g : Gm) (b : Nat) (tg : Tg) (body : List Dq.St) (src : Src) (fu i : Nat) (ρ : Env') (S : Sto) : Option (Option D) → Out Fl
  | some none => .ok (.next ρ) S
  | some (some x) => forB g b tg body src fu i S (asgT tg x ρ S)
  | none => .bad
def forE (g : Gm) (b : Nat) (tg : Tg) (body : List Dq.St) (src : Src) (i : Nat) (ρ : Env') (S : Sto) : Option (Option D) → Out Fl
  | some none => .ok (.next ρ) S
  | _ => .bad
section
variable {tg : Tg} {body : List Dq.St} {src : Src} {fu i : Nat}
@[simp] theorem forA_n : forA g b tg body src fu i ρ S (some none) = .ok (.next ρ) S := rfl
@[simp] theorem forA_s : forA g b tg body src fu i ρ S (some (some x)) = forB g b tg body src fu i S (asgT tg x ρ S) := rfl
@[simp] theorem forE_n : forE g b tg body src i ρ S (some none) = .ok (.next ρ) S := rfl
@[simp] theorem forB_s : forB g b tg body src fu i S (some ρ) = forC g b tg body src fu i (exes g b body ρ S) := rfl
@[simp] theorem forC_n : forC g b tg body src fu i (.ok (.next ρ) S) = forL g b tg body src fu (i + 1) ρ S := rfl
@[simp] theorem forC_c : forC g b tg body src fu i (.ok (.cont ρ) S) = forL g b tg body src fu (i + 1) ρ S := rfl
@[simp] theorem forC_b : forC g b tg body src fu i (.ok (.brk ρ) S) = .ok (.next ρ) S := rfl
@[simp] theorem forC_r : forC g b tg body src fu i (.ok (.ret d) S) = .ok (.ret d) S := rfl
@[simp] theorem forC_ex {e0 : Exn} : forC g b tg body src fu i (.exc e0 S) = .exc e0 S := rfl
@[simp] theorem forC_if {c0 : Prop} [Decidable c0] {u v : Out Fl} : forC g b tg body src fu i (if c0 then u else v) = if c0 then forC g b tg body src fu i u else forC g b tg body src fu i v := by split <;> rfl
@[simp] theorem forL_0 : forL g b tg body src 0 i ρ S = forE g b tg body src i ρ S (cur src S i) := by
  unfold forL forLoop forE
  split <;> simp_all
@[simp] theorem forL_s : forL g b tg body src (fu + 1) i ρ S = forA g b tg body src fu i ρ S (cur src S i) := by
  show forLoop src (turnF g b tg body) (fu + 1) i ρ S = _
  unfold forLoop
  cases cur src S i with
  | none => rfl
  | some o =>
    cases o with
    | none => rfl
    | some x =>
      show (turnF g b tg body x ρ S).bind _ = forB g b tg body src fu i S (asgT tg x ρ S)
      unfold turnF
      cases asgT tg x ρ S <;> rfl
end
def forZ (g : Gm) (b : Nat) (tg : Tg) (r : List Dq.St) (ρ : Env') (o0 : Out Src) : Out Fl := o0.bind fun a1 S1 => forL g b tg r a1 (cnt a1 S1) 0 ρ S1
@[simp] theorem forZ_ok {g : Gm} {b : Nat} {tg : Tg} {r : List Dq.St} {ρ : Env'} {a1 : Src} {S1 : Sto} : forZ g b tg r ρ (.ok a1 S1) = forL g b tg r a1 (cnt a1 S1) 0 ρ S1 := rfl
@[simp] theorem forZ_ex {g : Gm} {b : Nat} {tg : Tg} {r : List Dq.St} {ρ : Env'} {e0 : Exn} {S1 : Sto} : forZ g b tg r ρ (.exc e0 S1) = .exc e0 S1 := rfl
@[simp] theorem forZ_if {g : Gm} {b : Nat} {tg : Tg} {r : List Dq.St} {ρ : Env'} {c0 : Prop} [Decidable c0] {u v : Out Src} : forZ g b tg r ρ (if c0 then u else v) = if c0 then forZ g b tg r ρ u else forZ g b tg r ρ v := by split <;> rfl
@[simp] theorem s_for (t : Tg) (k : ItK) (it : List E) (body : List Dq.St) : exe g b (.for_ t k it body) ρ S = forZ g b t body ρ (srcF k (denL g b it ρ S)) := by simp only [exe]; rfl
theorem srcF_seq (h : itemsOf d S = some ds) : srcF .seq (.ok [d] S) = .ok (.seq d) S := by
  show (match srcOf .seq [d] S with | some src => Out.ok src S | none => .bad) = _
  unfold srcOf
  dsimp only
  rw [h]
  rfl
@[simp] theorem srcF_tup : srcF .seq (.ok [.tup ds] S) = .ok (.seq (.tup ds)) S := srcF_seq rfl
@[simp] theorem cur_tup {i : Nat} : cur (.seq (.tup ds)) S i = some ds[i]? := rfl
@[simp] theorem cnt_tup : cnt (.seq (.tup ds)) S = ds.length := rfl
/-! try -/
def tryL (Xc : Str → Str → Option Bool) (hs : List (Str × D)) (x : Exn) (S : Sto) : Option (Option D) → Out Fl
  | some (some d) => .ok (.ret d) S
  | some none => .exc x S
  | none => .bad
@[simp] theorem tryL_s {Xc : Str → Str → Option Bool} {hs : List (Str × D)} {e0 : Exn} : tryL Xc hs e0 S (some (some d)) = .ok (.ret d) S := rfl
def tryK (Xc : Str → Str → Option Bool) (hs : List (Str × D)) : Out Fl → Out Fl
  | .exc x S1 => tryL Xc hs x S1 (pick Xc x.cls hs)
  | o => o
@[simp] theorem tryK_ok {Xc : Str → Str → Option Bool} {hs : List (Str × D)} {f : Fl} : tryK Xc hs (.ok f S) = .ok f S := rfl
@[simp] theorem tryK_ex {Xc : Str → Str → Option Bool} {hs : List (Str × D)} {e0 : Exn} : tryK Xc hs (.exc e0 S) = tryL Xc hs e0 S (pick Xc e0.cls hs) := rfl
@[simp] theorem tryK_if {Xc : Str → Str → Option Bool} {hs : List (Str × D)} {c0 : Prop} [Decidable c0] {u v : Out Fl} : tryK Xc hs (if c0 then u else v) = if c0 then tryK Xc hs u else tryK Xc hs v := by split <;> rfl
@[simp] theorem s_try (body : List Dq.St) (hs : List (Str × D)) : exe g b (.try_ body hs) ρ S = tryK g.X hs (exes g b body ρ S) := by
  simp only [exe]
  cases exes g b body ρ S with
  | exc x S1 =>
    show (match pick g.X x.cls hs with | some (some d) => Out.ok (.ret d) S1 | some none => .exc x S1 | none => .bad) = tryL g.X hs x S1 (pick g.X x.cls hs)
    cases pick g.X x.cls hs with
    | none => rfl
    | some o => cases o <;> rfl
  | ok f S1 => rfl
  | bad => rfl
/-! while; a dict's items -/
def whB (g : Gm) (b : Nat) (c : E) (body : List Dq.St) (fu : Nat) : Out Fl → Out Fl
  | .ok (.next ρ) S => whileLoop (fun ρ1 S1 => tst (den g b c ρ1 S1)) (fun ρ1 S1 => exes g b body ρ1 S1) fu ρ S
  | .ok (.cont ρ) S => whileLoop (fun ρ1 S1 => tst (den g b c ρ1 S1)) (fun ρ1 S1 => exes g b body ρ1 S1) fu ρ S
  | .ok (.brk ρ) S => .ok (.next ρ) S
  | .ok (.ret d) S => .ok (.ret d) S
  | .exc x S => .exc x S
  | .bad => .bad
def whL (g : Gm) (b : Nat) (c : E) (body : List Dq.St) (fu : Nat) (ρ : Env') (S : Sto) : Out Fl := whileLoop (fun ρ1 S1 => tst (den g b c ρ1 S1)) (fun ρ1 S1 => exes g b body ρ1 S1) fu ρ S
theorem whL_s {c : E} {body : List Dq.St} {fu : Nat} : whL g b c body (fu + 1) ρ S = (tst (den g b c ρ S)).bind fun k S1 => if k = true then whB g b c body fu (exes g b body ρ S1) else .ok (.next ρ) S1 := by
  unfold whL
  rw [whileLoop]
  congr 1
  funext k S1
  split
  · cases exes g b body ρ S1 with
    | ok f S2 => cases f <;> rfl
    | exc x S2 => rfl
    | bad => rfl
  · rfl
theorem s_while (c : E) (body : List Dq.St) : exe g b (.while_ c body) ρ S = whL g b c body fuel ρ S := by simp only [exe]; rfl
def itmT (g : Gm) (b : Nat) (tg : Tg) (body : List Dq.St) : D → Env' → Sto → Out Fl := fun x ρ1 S2 => (match asgT tg x ρ1 S2 with
      | some ρ2 => exes g b body ρ2 S2
      | none => .bad)
def itmK (g : Gm) (b : Nat) (tg : Tg) (body : List Dq.St) (ρ : Env') : Out D → Out Fl
  | .ok d S1 => forItems (itmT g b tg body) d ρ S1
  | .exc x S1 => .exc x S1
  | .bad => .bad
theorem s_forD (tg : Tg) (e : E) (body : List Dq.St) : exe g b (.forD tg e body) ρ S = itmK g b tg body ρ (den g b e ρ S) := by
  simp only [exe]
  cases den g b e ρ S <;> rfl
@[simp] theorem r_next : ret1 (.ok (.next ρ) S) = .ok .non S := rfl
@[simp] theorem r_ret : ret1 (.ok (.ret d) S) = .ok d S := rfl
@[simp] theorem r_exc {x : Exn} : ret1 (.exc x S) = .exc x S := rfl
@[simp] theorem r_ite {c : Prop} [Decidable c] {x y : Out Fl} : ret1 (if c then x else y) = if c then ret1 x else ret1 y := by split <;> rfl
/-! values -/
@[simp] theorem add_ii : addD (.int i) (.int j) n S = .ok (.int (i + j)) S := rfl
@[simp] theorem add_tt : addD (.tup ds) (.tup es) n S = if Nat.ble (ds.length + es.length) lim = true then .ok (.tup (ds ++ es)) S else .bad := rfl
@[simp] theorem sub_ii : subD (.int i) (.int j) n S = .ok (.int (i - j)) S := rfl
@[simp] theorem ord_ii (f : Int → Int → Bool) : ordD f (.int i) (.int j) n S = .ok (.bl (f i j)) S := rfl
@[simp] theorem tru_bl : truD (.bl p) S = some p := rfl
@[simp] theorem tru_int : truD (.int i) S = some (i != 0) := rfl
@[simp] theorem max_ii (f : Int → Int → Bool) : pickD f [.int i, .int j] n S = .ok (.int (if f i j = true then j else i)) S := rfl
@[simp] theorem eq_ii (k : Bool) : eqD k (.int i) (.int j) n S = .ok (.bl (k ^^ decide (i = j))) S := by
  show Out.ok (D.bl (k ^^ (i == j))) S = _
  congr
@[simp] theorem eq_bb (k : Bool) : eqD k (.bl p) (.bl q) n S = .ok (.bl (k ^^ (p == q))) S := rfl
@[simp] theorem eq_ni (k : Bool) : eqD k .non (.int j) n S = .ok (.bl (k ^^ false)) S := rfl
@[simp] theorem eq_in (k : Bool) : eqD k (.int j) .non n S = .ok (.bl (k ^^ false)) S := rfl
@[simp] theorem its_tup : itemsOf (.tup ds) S = some ds := rfl
@[simp] theorem isNon_non : isNon .non = true := rfl
@[simp] theorem isNon_int : isNon (.int i) = false := rfl
@[simp] theorem isNon_tup : isNon (.tup ds) = false := rfl
@[simp] theorem isi_int (t : Ty) : isiD t (.int i) S = .ok (.bl (isK .int t)) S := rfl
@[simp] theorem isi_bl (t : Ty) : isiD t (.bl p) S = .ok (.bl (isK .bl t)) S := rfl
@[simp] theorem isi_str (t : Ty) : isiD t (.str u) S = .ok (.bl (isK .str t)) S := rfl
@[simp] theorem isi_non (t : Ty) : isiD t .non S = .ok (.bl (isK .non t)) S := rfl
@[simp] theorem isi_tup (t : Ty) : isiD t (.tup ds) S = .ok (.bl (isK .tup t)) S := rfl
@[simp] theorem len_tup : lenD [.tup ds] n S = .ok (.int (ds.length : Nat)) S := rfl
@[simp] theorem int_i : intD [.int i] n S = .ok (.int i) S := rfl
@[simp] theorem int_b : intD [.bl p] n S = .ok (.int (if p = true then 1 else 0)) S := rfl
def atK (S : Sto) : Option D → Out D
  | some d => .ok d S
  | none => .bad
@[simp] theorem atK_s : atK S (some d) = .ok d S := rfl
theorem ix_of (h : itemsOf x S = some ds) : alt2 ixD gixD x (.int i) n S = atK S (L2.atI ds i) := by
  unfold alt2 ixD
  dsimp only
  rw [h]
  dsimp only
  cases L2.atI ds i with
  | some d => rfl
  | none =>
    show gixD x (.int i) n S = .bad
    unfold gixD alt2 gixK nixD
    cases x with
    | loc m =>
      have h' : (match S[m]? with | some (.lst ds) => some ds | _ => none) = some ds := h
      cases e : S[m]? with
      | none => rw [e] at h'; cases h'
      | some c =>
        cases c with
        | lst xs => dsimp only [keyOf']; rw [e]; rfl
        | _ => rw [e] at h'; cases h'
    | _ => rfl
@[simp] theorem ix_tup : alt2 ixD gixD (.tup ds) (.int i) n S = atK S (L2.atI ds i) := ix_of rfl
end
end Lw
set_option Elab.async false
set_option linter.all false
set_option maxRecDepth 100000
set_option maxHeartbeats 4000000
/-! M1: words, equality, calls. -/
namespace Lw
open PySem PySem.Spec PyProof.Rows Dq
theorem toNat_inj {a b : Char} (h : a.toNat = b.toNat) : a = b := by
  apply Char.ext
  exact UInt32.toNat_inj.mp h
@[simp] theorem ofS_eq (a b : String) : (Str.ofString a = Str.ofString b) ↔ a = b := by
  constructor
  · intro h
    rw [Str.ofString_eq_toList, Str.ofString_eq_toList] at h
    injection h with h
    have h2 : a.toList.map Char.toNat = b.toList.map Char.toNat := by
      have := congrArg Array.toList h
      simpa using this
    have h3 : a.toList = b.toList := (List.map_inj_right fun _ _ e => toNat_inj e).mp h2
    exact String.toList_injective h3
  · intro h; rw [h]
section
variable {g : Gm} {b : Nat} {ρ : Env'} {S S' : Sto} {i j : Int} {n k : Nat} {x y : Str} {d : D} {ds es : List D} {p q : Bool}
/-! ### data -/
@[simp] theorem py_non : py S (k + 1) .non = some .none := rfl
@[simp] theorem py_bl : py S (k + 1) (.bl p) = some (.bool p) := rfl
@[simp] theorem py_int : py S (k + 1) (.int i) = some (.int i) := rfl
@[simp] theorem py_str (h : PyData.strOk x = true) : py S (k + 1) (.str x) = some (.str x) := by
  show (if PyData.strOk x = true then some (PyData.str x) else none) = _
  rw [if_pos h]
@[simp] theorem py_tup : py S (k + 1) (.tup ds) = (match optMap (py S k) ds with
      | some ps => some (.tuple ps)
      | none => none) := rfl
@[simp] theorem om_nil {α β : Type} (f : α → Option β) : optMap f [] = some [] := rfl
@[simp] theorem om_cons {α β : Type} (f : α → Option β) (x : α) (xs : List α) : optMap f (x :: xs) = (match f x with
    | some y => (match optMap f xs with
      | some ys => some (y :: ys)
      | none => none)
    | none => none) := rfl
@[simp] theorem eqv_ii : PyData.eqv (.int i) (.int j) = decide (i = j) := rfl
@[simp] theorem eqv_ss : PyData.eqv (.str x) (.str y) = decide (x = y) := by
  show (x == y) = _
  by_cases h : x = y <;> simp [h]
@[simp] theorem eqv_si : PyData.eqv (.str x) (.int j) = false := rfl
@[simp] theorem eqv_is : PyData.eqv (.int j) (.str x) = false := rfl
@[simp] theorem eqv_tt {a c : List PyData} : PyData.eqv (.tuple a) (.tuple c) = PyData.eqvAll a c := rfl
@[simp] theorem eqvA_nn : PyData.eqvAll [] [] = true := rfl
@[simp] theorem eqvA_cc {a c : PyData} {as cs : List PyData} : PyData.eqvAll (a :: as) (c :: cs) = (PyData.eqv a c && PyData.eqvAll as cs) := rfl
@[simp] theorem eqvA_nc {c : PyData} {cs : List PyData} : PyData.eqvAll [] (c :: cs) = false := rfl
@[simp] theorem eqvA_cn {c : PyData} {cs : List PyData} : PyData.eqvAll (c :: cs) [] = false := rfl
@[simp] theorem eq_ss (m : Bool) (h : PyData.strOk x = true) (h' : PyData.strOk y = true) : eqD m (.str x) (.str y) n S = .ok (.bl (m ^^ decide (x = y))) S := by
  unfold eqD
  rw [show dep = 15 + 1 from rfl, py_str h, py_str h']
  simp
/-! ### calls -/
@[simp] theorem po_bl : pureOut S (.ok (.bl p) S') = .ok (.bl p) S := rfl
@[simp] theorem po_int : pureOut S (.ok (.int i) S') = .ok (.int i) S := rfl
@[simp] theorem po_non : pureOut S (.ok .non S') = .ok .non S := rfl
@[simp] theorem po_str : pureOut S (.ok (.str x) S') = .ok (.str x) S := rfl
theorem po_d (h : below 0 d = true) : pureOut S (.ok d S') = .ok d S := by
  show (if below 0 d = true then Out.ok d S else _) = _
  rw [if_pos h]
theorem po_tup (h : belowAll 0 ds = true) : pureOut S (.ok (.tup ds) S') = .ok (.tup ds) S := po_d (by simpa only [below] using h)
@[simp] theorem po_exc (z : Exn) : pureOut S (.exc z S') = .exc z S := rfl
@[simp] theorem po_ite {c : Prop} [Decidable c] (u v : Out D) : pureOut S (if c then u else v) = if c then pureOut S u else pureOut S v := by split <;> rfl
theorem run_pure {fd : Fn} {args : List D} (h1 : fd.gc = .pure) (h2 : Nat.beq args.length fd.np = true) (h3 : belowAll 0 args = true) : runFn g fd args b S = pureOut S (ret1 (exes g 0 fd.body (Dq.envOf fd args) [])) := by
  unfold runFn
  rw [if_pos h2, h1]
  dsimp only
  rw [if_pos h3]
@[simp] theorem bel_bl : below b (.bl p) = true := rfl
@[simp] theorem bel_int : below b (.int i) = true := rfl
@[simp] theorem bel_str : below b (.str x) = true := rfl
@[simp] theorem bel_non : below b .non = true := rfl
@[simp] theorem bel_tup : below b (.tup ds) = belowAll b ds := by simp only [below]
@[simp] theorem bel_nil : belowAll b [] = true := by simp only [belowAll]
@[simp] theorem bel_cons : belowAll b (d :: ds) = (below b d && belowAll b ds) := by simp only [belowAll]
@[simp] theorem isK_non_int : isK .non .int = false := rfl
@[simp] theorem isK_non_bool : isK .non .bool = false := rfl
@[simp] theorem isK_non_str : isK .non .str = false := rfl
@[simp] theorem isK_non_tup : isK .non .tup = false := rfl
@[simp] theorem isK_non_lst : isK .non .lst = false := rfl
@[simp] theorem isK_bl_int : isK .bl .int = true := rfl
@[simp] theorem isK_bl_bool : isK .bl .bool = true := rfl
@[simp] theorem isK_bl_str : isK .bl .str = false := rfl
@[simp] theorem isK_bl_tup : isK .bl .tup = false := rfl
@[simp] theorem isK_bl_lst : isK .bl .lst = false := rfl
@[simp] theorem isK_int_int : isK .int .int = true := rfl
@[simp] theorem isK_int_bool : isK .int .bool = false := rfl
@[simp] theorem isK_int_str : isK .int .str = false := rfl
@[simp] theorem isK_int_tup : isK .int .tup = false := rfl
@[simp] theorem isK_int_lst : isK .int .lst = false := rfl
@[simp] theorem isK_str_int : isK .str .int = false := rfl
@[simp] theorem isK_str_bool : isK .str .bool = false := rfl
@[simp] theorem isK_str_str : isK .str .str = true := rfl
@[simp] theorem isK_str_tup : isK .str .tup = false := rfl
@[simp] theorem isK_str_lst : isK .str .lst = false := rfl
@[simp] theorem isK_tup_int : isK .tup .int = false := rfl
@[simp] theorem isK_tup_bool : isK .tup .bool = false := rfl
@[simp] theorem isK_tup_str : isK .tup .str = false := rfl
@[simp] theorem isK_tup_tup : isK .tup .tup = true := rfl
@[simp] theorem isK_tup_lst : isK .tup .lst = false := rfl
@[simp] theorem isK_lst_int : isK .lst .int = false := rfl
@[simp] theorem isK_lst_bool : isK .lst .bool = false := rfl
@[simp] theorem isK_lst_str : isK .lst .str = false := rfl
@[simp] theorem isK_lst_tup : isK .lst .tup = false := rfl
@[simp] theorem isK_lst_lst : isK .lst .lst = true := rfl
@[simp] theorem isK_dic_int : isK .dic .int = false := rfl
@[simp] theorem isK_dic_bool : isK .dic .bool = false := rfl
@[simp] theorem isK_dic_str : isK .dic .str = false := rfl
@[simp] theorem isK_dic_tup : isK .dic .tup = false := rfl
@[simp] theorem isK_dic_lst : isK .dic .lst = false := rfl
/-! ### operations by name -/
@[simp] theorem bin_add {x y : D} : binF .add x y n S = addD x y n S := rfl
@[simp] theorem bin_sub {x y : D} : binF .sub x y n S = subD x y n S := rfl
@[simp] theorem bin_mul {x y : D} : binF .mul x y n S = mulD x y n S := rfl
@[simp] theorem bin_mod {x y : D} : binF .mod x y n S = modD x y n S := rfl
@[simp] theorem bin_div {x y : D} : binF .div x y n S = divD x y n S := rfl
@[simp] theorem bin_pow {x y : D} : binF .pow x y n S = powD x y n S := rfl
@[simp] theorem cmp_eq {x y : D} : cmpF .eq x y n S = eqD false x y n S := rfl
@[simp] theorem cmp_ne {x y : D} : cmpF .ne x y n S = eqD true x y n S := rfl
@[simp] theorem cmp_lt {x y : D} : cmpF .lt x y n S = ordD (fun i j => decide (i < j)) x y n S := rfl
@[simp] theorem cmp_le {x y : D} : cmpF .le x y n S = ordD (fun i j => decide (i ≤ j)) x y n S := rfl
@[simp] theorem cmp_gt {x y : D} : cmpF .gt x y n S = ordD (fun i j => decide (j < i)) x y n S := rfl
@[simp] theorem cmp_ge {x y : D} : cmpF .ge x y n S = ordD (fun i j => decide (j ≤ i)) x y n S := rfl
@[simp] theorem cmp_in {x y : D} : cmpF .isIn x y n S = alt2 (inD false) (dinD false) x y n S := rfl
@[simp] theorem cmp_ni {x y : D} : cmpF .notIn x y n S = alt2 (inD true) (dinD true) x y n S := rfl
@[simp] theorem blt_len : bltF .len ds n S = lenD ds n S := rfl
@[simp] theorem blt_int : bltF .int ds n S = intD ds n S := rfl
@[simp] theorem blt_list : bltF .list ds n S = altL listD dlistD ds n S := rfl
@[simp] theorem blt_tuple : bltF .tuple ds n S = tupleD ds n S := rfl
@[simp] theorem blt_bool : bltF .bool ds n S = boolD ds n S := rfl
@[simp] theorem blt_max : bltF .max ds n S = pickD (fun i j => decide (i < j)) ds n S := rfl
@[simp] theorem blt_min : bltF .min ds n S = pickD (fun i j => decide (j < i)) ds n S := rfl
@[simp] theorem blt_sorted : bltF .sorted ds n S = sortD ds n S := rfl
@[simp] theorem mth_app {x : D} : mthF .append x ds n S = appD x ds n S := rfl
@[simp] theorem mth_idx {x : D} : mthF .index x ds n S = idxD x ds n S := rfl
@[simp] theorem lim_is : lim = 16777216 := rfl
theorem atI_nat {α : Type} (xs : List α) (m : Nat) : L2.atI xs (m : Int) = xs[m]? := by
  unfold L2.atI L2.ixN
  by_cases h : m < xs.length
  · simp [h]
  · have : xs[m]? = none := List.getElem?_eq_none (Nat.le_of_not_lt h)
    simp [h, this]
@[simp] theorem atI_0 {α : Type} (xs : List α) : L2.atI xs 0 = xs[0]? := atI_nat xs 0
@[simp] theorem atI_1 {α : Type} (xs : List α) : L2.atI xs 1 = xs[1]? := atI_nat xs 1
@[simp] theorem atI_2 {α : Type} (xs : List α) : L2.atI xs 2 = xs[2]? := atI_nat xs 2
@[simp] theorem atI_3 {α : Type} (xs : List α) : L2.atI xs 3 = xs[3]? := atI_nat xs 3
@[simp] theorem atI_4 {α : Type} (xs : List α) : L2.atI xs 4 = xs[4]? := atI_nat xs 4
@[simp] theorem atI_5 {α : Type} (xs : List α) : L2.atI xs 5 = xs[5]? := atI_nat xs 5
end
@[simp] theorem so_0 : PyData.strOk "believedheld.errors" = true := by decide +kernel
@[simp] theorem so_1 : PyData.strOk "believedheld.rules" = true := by decide +kernel
@[simp] theorem so_2 : PyData.strOk "alone" = true := by decide +kernel
@[simp] theorem so_3 : PyData.strOk "elder" = true := by decide +kernel
@[simp] theorem so_4 : PyData.strOk "two" = true := by decide +kernel
@[simp] theorem so_5 : PyData.strOk "asked" = true := by decide +kernel
@[simp] theorem so_6 : PyData.strOk "came" = true := by decide +kernel
@[simp] theorem so_7 : PyData.strOk "no" = true := by decide +kernel
@[simp] theorem so_8 : PyData.strOk "yes" = true := by decide +kernel
@[simp] theorem so_9 : PyData.strOk "number" = true := by decide +kernel
@[simp] theorem so_10 : PyData.strOk "no world" = true := by decide +kernel
@[simp] theorem so_11 : PyData.strOk "no rule" = true := by decide +kernel
@[simp] theorem so_12 : PyData.strOk "believedheld.events" = true := by decide +kernel
@[simp] theorem so_13 : PyData.strOk "fall" = true := by decide +kernel
@[simp] theorem so_14 : PyData.strOk "use" = true := by decide +kernel
@[simp] theorem so_15 : PyData.strOk "renew" = true := by decide +kernel
@[simp] theorem so_16 : PyData.strOk "back" = true := by decide +kernel
@[simp] theorem so_17 : PyData.strOk "ask" = true := by decide +kernel
@[simp] theorem so_18 : PyData.strOk "arrive" = true := by decide +kernel
@[simp] theorem so_19 : PyData.strOk "lose" = true := by decide +kernel
@[simp] theorem so_20 : PyData.strOk "tick" = true := by decide +kernel
@[simp] theorem so_21 : PyData.strOk "refused" = true := by decide +kernel
@[simp] theorem so_22 : PyData.strOk "granted" = true := by decide +kernel
@[simp] theorem so_23 : PyData.strOk "freed" = true := by decide +kernel
@[simp] theorem so_24 : PyData.strOk "late" = true := by decide +kernel
@[simp] theorem so_25 : PyData.strOk "held" = true := by decide +kernel
@[simp] theorem so_26 : PyData.strOk "done" = true := by decide +kernel
@[simp] theorem so_27 : PyData.strOk "used" = true := by decide +kernel
@[simp] theorem so_28 : PyData.strOk "barred" = true := by decide +kernel
@[simp] theorem so_29 : PyData.strOk "believedheld.deciding" = true := by decide +kernel
@[simp] theorem so_30 : PyData.strOk "law_believedheld_k23_the_least_keeping" = true := by decide +kernel
@[simp] theorem so_31 : PyData.strOk "world!" = true := by decide +kernel
@[simp] theorem so_32 : PyData.strOk "rule!" = true := by decide +kernel
@[simp] theorem F_is_whole (k : Nat) : (lev T (k + 1)).F "is_whole" = some (runFn (lev T k) f_is_whole) := rfl
@[simp] theorem F_is_wide (k : Nat) : (lev T (k + 1)).F "is_wide" = some (runFn (lev T k) f_is_wide) := rfl
@[simp] theorem F_is_word (k : Nat) : (lev T (k + 1)).F "is_word" = some (runFn (lev T k) f_is_word) := rfl
@[simp] theorem F_is_right_world (k : Nat) : (lev T (k + 1)).F "is_right_world" = some (runFn (lev T k) f_is_right_world) := rfl
@[simp] theorem F_is_right_rule (k : Nat) : (lev T (k + 1)).F "is_right_rule" = some (runFn (lev T k) f_is_right_rule) := rfl
@[simp] theorem F_numbers_in (k : Nat) : (lev T (k + 1)).F "numbers_in" = some (runFn (lev T k) f_numbers_in) := rfl
@[simp] theorem F_need_world (k : Nat) : (lev T (k + 1)).F "need_world" = some (runFn (lev T k) f_need_world) := rfl
@[simp] theorem F_need_rule (k : Nat) : (lev T (k + 1)).F "need_rule" = some (runFn (lev T k) f_need_rule) := rfl
@[simp] theorem F_with_client (k : Nat) : (lev T (k + 1)).F "with_client" = some (runFn (lev T k) f_with_client) := rfl
@[simp] theorem F_ranked (k : Nat) : (lev T (k + 1)).F "ranked" = some (runFn (lev T k) f_ranked) := rfl
@[simp] theorem F_events_at (k : Nat) : (lev T (k + 1)).F "events_at" = some (runFn (lev T k) f_events_at) := rfl
@[simp] theorem F_asked_for (k : Nat) : (lev T (k + 1)).F "asked_for" = some (runFn (lev T k) f_asked_for) := rfl
@[simp] theorem F_arrived (k : Nat) : (lev T (k + 1)).F "arrived" = some (runFn (lev T k) f_arrived) := rfl
@[simp] theorem F_later (k : Nat) : (lev T (k + 1)).F "later" = some (runFn (lev T k) f_later) := rfl
@[simp] theorem F_ticked (k : Nat) : (lev T (k + 1)).F "ticked" = some (runFn (lev T k) f_ticked) := rfl
@[simp] theorem F_happened (k : Nat) : (lev T (k + 1)).F "happened" = some (runFn (lev T k) f_happened) := rfl
@[simp] theorem F_step (k : Nat) : (lev T (k + 1)).F "step" = some (runFn (lev T k) f_step) := rfl
@[simp] theorem F_is_alone (k : Nat) : (lev T (k + 1)).F "is_alone" = some (runFn (lev T k) f_is_alone) := rfl
@[simp] theorem F_comes (k : Nat) : (lev T (k + 1)).F "comes" = some (runFn (lev T k) f_comes) := rfl
@[simp] theorem F_ways (k : Nat) : (lev T (k + 1)).F "ways" = some (runFn (lev T k) f_ways) := rfl
@[simp] theorem F_harmful (k : Nat) : (lev T (k + 1)).F "harmful" = some (runFn (lev T k) f_harmful) := rfl
@[simp] theorem F_least_keep (k : Nat) : (lev T (k + 1)).F "least_keep" = some (runFn (lev T k) f_least_keep) := rfl
@[simp] theorem F__law_source (k : Nat) : (lev T (k + 1)).F "_law_source" = some (runFn (lev T k) f__law_source) := rfl
@[simp] theorem F__law_pick (k : Nat) : (lev T (k + 1)).F "_law_pick" = some (runFn (lev T k) f__law_pick) := rfl
@[simp] theorem F__law_chosen (k : Nat) : (lev T (k + 1)).F "_law_chosen" = some (runFn (lev T k) f__law_chosen) := rfl
@[simp] theorem F__law_terms (k : Nat) : (lev T (k + 1)).F "_law_terms" = some (runFn (lev T k) f__law_terms) := rfl
@[simp] theorem F__law_known (k : Nat) : (lev T (k + 1)).F "_law_known" = some (runFn (lev T k) f__law_known) := rfl
@[simp] theorem F__law_standing (k : Nat) : (lev T (k + 1)).F "_law_standing" = some (runFn (lev T k) f__law_standing) := rfl
@[simp] theorem F__law_events (k : Nat) : (lev T (k + 1)).F "_law_events" = some (runFn (lev T k) f__law_events) := rfl
@[simp] theorem F__law_come (k : Nat) : (lev T (k + 1)).F "_law_come" = some (runFn (lev T k) f__law_come) := rfl
@[simp] theorem F__law_happen (k : Nat) : (lev T (k + 1)).F "_law_happen" = some (runFn (lev T k) f__law_happen) := rfl
@[simp] theorem F__law_next (k : Nat) : (lev T (k + 1)).F "_law_next" = some (runFn (lev T k) f__law_next) := rfl
@[simp] theorem F__law_at (k : Nat) : (lev T (k + 1)).F "_law_at" = some (runFn (lev T k) f__law_at) := rfl
@[simp] theorem F__law_first (k : Nat) : (lev T (k + 1)).F "_law_first" = some (runFn (lev T k) f__law_first) := rfl
@[simp] theorem F__law_ways (k : Nat) : (lev T (k + 1)).F "_law_ways" = some (runFn (lev T k) f__law_ways) := rfl
@[simp] theorem F__law_bad (k : Nat) : (lev T (k + 1)).F "_law_bad" = some (runFn (lev T k) f__law_bad) := rfl
@[simp] theorem F__law_harms (k : Nat) : (lev T (k + 1)).F "_law_harms" = some (runFn (lev T k) f__law_harms) := rfl
@[simp] theorem F__law_outcome (k : Nat) : (lev T (k + 1)).F "_law_outcome" = some (runFn (lev T k) f__law_outcome) := rfl
end Lw
set_option Elab.async false
set_option linter.all false
set_option maxRecDepth 100000
set_option maxHeartbeats 4000000
/-! M2: the package's functions. -/
namespace Lw
open PySem PySem.Spec PyProof.Rows Dq
section
variable {G : Gm} {n k : Nat} {S : Sto}
theorem p_is_whole (i lo hi : Int) : runFn G f_is_whole [.int i, .int lo, .int hi] n S = .ok (.bl (decide (lo ≤ i) && decide (i ≤ hi))) S := by
  rw [run_pure rfl rfl (by simp)]
  simp [f_is_whole, b_is_whole, Dq.envOf]
  by_cases h : lo ≤ i <;> simp [h]
/-- the kinds of a request under way -/
inductive Kw where
  | ask | renew | back | yes
deriving DecidableEq
def Kw.w : Kw → Str
  | .ask => "ask" | .renew => "renew" | .back => "back" | .yes => "yes"
@[simp] theorem kw_0 : Kw.ask.w = "ask" := rfl
@[simp] theorem kw_1 : Kw.renew.w = "renew" := rfl
@[simp] theorem kw_2 : Kw.back.w = "back" := rfl
@[simp] theorem kw_3 : Kw.yes.w = "yes" := rfl
structure Way where
  k : Kw
  age : Int
  since : Int
  num : Int
structure Cl where
  left : Int
  num : Int
  way : Option Way
structure Ru where
  keep : Int
  lease : Int
  asked : Bool
  again : Bool
  numb : Bool
  rest : Int
def dWay : Option Way → D
  | none => .non
  | some w => .tup [.str w.k.w, .int w.age, .int w.since, .int w.num]
@[simp] theorem dWay_n : dWay none = .non := rfl
@[simp] theorem dWay_s (w : Way) : dWay (some w) = .tup [.str w.k.w, .int w.age, .int w.since, .int w.num] := rfl
def dCl (c : Cl) : D := .tup [.int c.left, .int c.num, dWay c.way]
def wAsked (b : Bool) : Str := if b = true then "asked" else "came"
def wYes (b : Bool) : Str := if b = true then "yes" else "no"
def wNum (b : Bool) : Str := if b = true then "number" else "no"
def dRu (r : Ru) : D := .tup [.int r.keep, .int r.lease, .str (wAsked r.asked), .str (wYes r.again), .str (wNum r.numb), .int r.rest]
def laterW (r : Ru) (w : Way) : Way := ⟨w.k, w.age + 1, match w.k with
  | .back => 0
  | _ => if w.since + 1 < r.lease then w.since + 1 else r.lease, w.num⟩
def laterM (r : Ru) (c : Cl) : Cl := if 1 < c.left then ⟨c.left - 1, c.num, c.way.map (laterW r)⟩ else ⟨0, 0, c.way.map (laterW r)⟩
theorem p_later (r : Ru) (c : Cl) : runFn G f_later [dRu r, dCl c] n S = .ok (dCl (laterM r c)) S := by
  obtain ⟨l, m, w⟩ := c
  cases w with
  | none =>
    rw [run_pure rfl rfl (by simp [dRu, dCl])]
    simp [f_later, b_later, Dq.envOf, dRu, dCl, laterM]
    by_cases h : 1 < l <;> simp [h, po_tup]
  | some w =>
    obtain ⟨kw, a, s, u⟩ := w
    rw [run_pure rfl rfl (by simp [dRu, dCl])]
    cases kw <;> simp [f_later, b_later, Dq.envOf, dRu, dCl, laterM, laterW, Kw.w] <;> by_cases h : 1 < l <;> simp [h, po_tup]
/-! ### the stand -/
structure Ho where
  who : Option Bool
  left : Int
  rest : Int
  num : Int
structure Sd where
  ho : Ho
  used : Int
  one : Cl
  two : Cl
def dC (c : Bool) : D := .int (if c = true then 1 else 0)
def dWho : Option Bool → D
  | none => .non
  | some c => dC c
def dHo (h : Ho) : D := .tup [dWho h.who, .int h.left, .int h.rest, .int h.num]
def dSd (s : Sd) : D := .tup [dHo s.ho, .int s.used, dCl s.one, dCl s.two]
@[simp] theorem dWho_n : dWho none = .non := rfl
@[simp] theorem dWho_s (c : Bool) : dWho (some c) = dC c := rfl
@[simp] theorem dC_0 : dC false = .int 0 := rfl
@[simp] theorem dC_1 : dC true = .int 1 := rfl
@[simp] theorem bel_way {b : Nat} (w : Option Way) : below b (dWay w) = true := by cases w <;> simp [dWay]
@[simp] theorem bel_cl {b : Nat} (c : Cl) : below b (dCl c) = true := by simp [dCl]
@[simp] theorem bel_C {b : Nat} (c : Bool) : below b (dC c) = true := rfl
@[simp] theorem bel_who {b : Nat} (w : Option Bool) : below b (dWho w) = true := by cases w <;> rfl
@[simp] theorem bel_ho {b : Nat} (h : Ho) : below b (dHo h) = true := by simp [dHo]
@[simp] theorem bel_sd {b : Nat} (s : Sd) : below b (dSd s) = true := by simp [dSd]
@[simp] theorem bel_ru {b : Nat} (r : Ru) : below b (dRu r) = true := by simp [dRu]
def Sd.cl (s : Sd) (c : Bool) : Cl := if c = true then s.two else s.one
def Sd.put (s : Sd) (c : Bool) (v : Cl) : Sd := if c = true then { s with two := v } else { s with one := v }
@[simp] theorem cut_a {a b c d : D} : cutD [a, b, c, d] none (some 2) = [a, b] := rfl
@[simp] theorem cut_b {a b c d : D} : cutD [a, b, c, d] (some 2) none = [c, d] := rfl
@[simp] theorem cut_c {a b c d : D} : cutD [a, b, c, d] (some 1) none = [b, c, d] := rfl
@[simp] theorem cut_d {a b c d : D} : cutD [a, b, c, d] none (some 1) = [a] := rfl
@[simp] theorem cut_e {a b c d : D} : cutD [a, b, c, d] none (some 3) = [a, b, c] := rfl
@[simp] theorem sl_tup {ds : List D} {lo hi : Option Int} : slD (.tup ds) lo hi n S = .ok (.tup (cutD ds lo hi)) S := rfl
@[simp] theorem p_with0 {a b x y v : D} (h : belowAll 0 [a, b, x, y, v] = true) : runFn G f_with_client [.tup [a, b, x, y], .int 0, v] n S = .ok (.tup [a, b, v, y]) S := by
  simp only [bel_cons, bel_nil, Bool.and_eq_true, Bool.and_true] at h
  rw [run_pure rfl rfl (by simp [h])]
  simp [f_with_client, b_with_client, Dq.envOf, po_tup, h]
@[simp] theorem p_with1 {a b x y v : D} (h : belowAll 0 [a, b, x, y, v] = true) : runFn G f_with_client [.tup [a, b, x, y], .int 1, v] n S = .ok (.tup [a, b, x, v]) S := by
  simp only [bel_cons, bel_nil, Bool.and_eq_true, Bool.and_true] at h
  rw [run_pure rfl rfl (by simp [h])]
  simp [f_with_client, b_with_client, Dq.envOf, po_tup, h]
def tickedM (r : Ru) (s : Sd) : Sd := ⟨if 1 < s.ho.left then ⟨s.ho.who, s.ho.left - 1, 0, s.ho.num⟩ else ⟨none, 0, if 0 < s.ho.rest - 1 then s.ho.rest - 1 else 0, s.ho.num⟩, s.used, laterM r s.one, laterM r s.two⟩
theorem p_ticked (r : Ru) (s : Sd) : runFn (lev T (k + 1)) f_ticked [dRu r, dSd s] n S = .ok (dSd (tickedM r s)) S := by
  rw [run_pure rfl rfl (by simp)]
  obtain ⟨⟨w, l, e, m⟩, u, o, t⟩ := s
  simp [f_ticked, b_ticked, Dq.envOf, dSd, dHo, p_later, tickedM]
  by_cases h : 1 < l <;> simp [h, po_tup]
/-! ### a request comes -/
def askedM (r : Ru) (s : Sd) (c : Bool) (w : Way) : Sd × Str :=
  if s.ho.who = none ∧ s.ho.rest = 0 ∧ (w.k = .ask ∨ r.again = true) then
    ((Sd.mk ⟨some c, r.keep, 0, s.ho.num + 1⟩ s.used s.one s.two).put c ⟨(s.cl c).left, (s.cl c).num, some ⟨.yes, 0, w.since, s.ho.num + 1⟩⟩, "granted")
  else if s.ho.who = some c then
    ((Sd.mk ⟨some c, r.keep, 0, s.ho.num⟩ s.used s.one s.two).put c ⟨(s.cl c).left, (s.cl c).num, some ⟨.yes, 0, w.since, s.ho.num⟩⟩, "granted")
  else (s.put c ⟨(s.cl c).left, (s.cl c).num, none⟩, "refused")
theorem p_asked_for (r : Ru) (s : Sd) (c : Bool) (w : Way) (hw : (s.cl c).way = some w) (hk : w.k = .ask ∨ w.k = .renew) : runFn (lev T (k + 1)) f_asked_for [dRu r, dSd s, dC c] n S = .ok (.tup [dSd (askedM r s c w).1, .str (askedM r s c w).2]) S := by
  rw [run_pure rfl rfl (by simp)]
  obtain ⟨⟨wh, l, e, m⟩, u, ⟨l1, n1, w1⟩, ⟨l2, n2, w2⟩⟩ := s
  obtain ⟨r1, r2, r3, r4, r5, r6⟩ := r
  obtain ⟨kw, a, si, nu⟩ := w
  dsimp only at hk
  cases c with
  | false =>
    dsimp only [Sd.cl, Bool.false_eq_true, if_false] at hw
    subst hw
    rcases hk with rfl | rfl <;> rcases wh with _ | _ | _ <;> cases r4 <;> simp [f_asked_for, b_asked_for, Dq.envOf, dSd, dHo, dCl, dRu, askedM, Sd.put, Sd.cl, Kw.w, wYes] <;>
      first
        | (by_cases h : e = 0 <;> simp [h, po_tup])
        | simp [po_tup]
  | true =>
    dsimp only [Sd.cl, if_true] at hw
    subst hw
    rcases hk with rfl | rfl <;> rcases wh with _ | _ | _ <;> cases r4 <;> simp [f_asked_for, b_asked_for, Dq.envOf, dSd, dHo, dCl, dRu, askedM, Sd.put, Sd.cl, Kw.w, wYes] <;>
      first
        | (by_cases h : e = 0 <;> simp [h, po_tup])
        | simp [po_tup]
end
end Lw
set_option Elab.async false
set_option linter.all false
set_option maxRecDepth 100000
set_option maxHeartbeats 4000000
/-! M3: what an event does. -/
namespace Lw
open PySem PySem.Spec PyProof.Rows Dq
section
variable {G : Gm} {n k : Nat} {S : Sto}
@[simp] theorem in_tup {m : Bool} {x : D} {ds : List D} : alt2 (inD m) (dinD m) x (.tup ds) n S = (match py S 16 x, optMap (py S 15) ds with
    | some a, some ps => .ok (.bl (m ^^ ps.any fun z => PyData.eqv z a)) S
    | _, _ => .bad) := by
  unfold alt2 inD
  rw [show dep = 15 + 1 from rfl, py_tup]
  cases py S (15 + 1) x with
  | none => cases optMap (py S 15) ds <;> rfl
  | some a => cases optMap (py S 15) ds <;> rfl
/-! ### parts of a stand, a client, .. -/
@[simp] theorem its_sd (s : Sd) : itemsOf (dSd s) S = some [dHo s.ho, .int s.used, dCl s.one, dCl s.two] := rfl
@[simp] theorem its_ho (h : Ho) : itemsOf (dHo h) S = some [dWho h.who, .int h.left, .int h.rest, .int h.num] := rfl
@[simp] theorem its_cl (c : Cl) : itemsOf (dCl c) S = some [.int c.left, .int c.num, dWay c.way] := rfl
@[simp] theorem ix_sd (s : Sd) (i : Int) : alt2 ixD gixD (dSd s) (.int i) n S = atK S (L2.atI [dHo s.ho, .int s.used, dCl s.one, dCl s.two] i) := ix_tup
@[simp] theorem ix_ho (h : Ho) (i : Int) : alt2 ixD gixD (dHo h) (.int i) n S = atK S (L2.atI [dWho h.who, .int h.left, .int h.rest, .int h.num] i) := ix_tup
@[simp] theorem ix_cl (c : Cl) (i : Int) : alt2 ixD gixD (dCl c) (.int i) n S = atK S (L2.atI [.int c.left, .int c.num, dWay c.way] i) := ix_tup
@[simp] theorem ix_ru (r : Ru) (i : Int) : alt2 ixD gixD (dRu r) (.int i) n S = atK S (L2.atI [.int r.keep, .int r.lease, .str (wAsked r.asked), .str (wYes r.again), .str (wNum r.numb), .int r.rest] i) := ix_tup
@[simp] theorem sl_sd (s : Sd) {lo hi : Option Int} : slD (dSd s) lo hi n S = .ok (.tup (cutD [dHo s.ho, .int s.used, dCl s.one, dCl s.two] lo hi)) S := rfl
@[simp] theorem sl_ho (h : Ho) {lo hi : Option Int} : slD (dHo h) lo hi n S = .ok (.tup (cutD [dWho h.who, .int h.left, .int h.rest, .int h.num] lo hi)) S := rfl
@[simp] theorem p_with0s (s : Sd) {v : D} (h : below 0 v = true) : runFn G f_with_client [dSd s, .int 0, v] n S = .ok (.tup [dHo s.ho, .int s.used, v, dCl s.two]) S := p_with0 (by simp [h])
@[simp] theorem p_with1s (s : Sd) {v : D} (h : below 0 v = true) : runFn G f_with_client [dSd s, .int 1, v] n S = .ok (.tup [dHo s.ho, .int s.used, dCl s.one, v]) S := p_with1 (by simp [h])
@[simp] theorem isNon_way (w : Option Way) : isNon (dWay w) = w.isNone := by cases w <;> rfl
@[simp] theorem isNon_who (w : Option Bool) : isNon (dWho w) = w.isNone := by cases w <;> rfl
@[simp] theorem so_kw (w : Kw) : PyData.strOk w.w = true := by cases w <;> simp
/-- equality of holders -/
@[simp] theorem eq_who (m : Bool) (w : Option Bool) (c : Bool) : eqD m (dWho w) (dC c) n S = .ok (.bl (m ^^ decide (w = some c))) S := by
  rcases w with _ | _ | _ <;> cases c <;> cases m <;> rfl
@[simp] theorem eq_who0 (m : Bool) (w : Option Bool) : eqD m (dWho w) (.int 0) n S = .ok (.bl (m ^^ decide (w = some false))) S := eq_who m w false
@[simp] theorem eq_who1 (m : Bool) (w : Option Bool) : eqD m (dWho w) (.int 1) n S = .ok (.bl (m ^^ decide (w = some true))) S := eq_who m w true
def arrivedM (r : Ru) (s : Sd) (c : Bool) (w : Way) : Sd × Str :=
  match w.k with
  | .back => if s.ho.who = some c then ((Sd.mk ⟨none, 0, s.ho.rest, s.ho.num⟩ s.used s.one s.two).put c ⟨(s.cl c).left, (s.cl c).num, none⟩, "freed") else (s.put c ⟨(s.cl c).left, (s.cl c).num, none⟩, "late")
  | .yes => if (if r.asked = true then r.lease - w.since else r.lease) ≤ (s.cl c).left then (s.put c ⟨(s.cl c).left, (s.cl c).num, none⟩, "late")
    else (s.put c ⟨if r.asked = true then r.lease - w.since else r.lease, w.num, none⟩, "held")
  | _ => askedM r s c w
theorem p_arrived (r : Ru) (s : Sd) (c : Bool) (w : Way) (hw : (s.cl c).way = some w) : runFn (lev T (k + 2)) f_arrived [dRu r, dSd s, dC c] n S = .ok (.tup [dSd (arrivedM r s c w).1, .str (arrivedM r s c w).2]) S := by
  have hA : w.k = .ask ∨ w.k = .renew → runFn (lev T (k + 1)) f_asked_for [dRu r, dSd s, dC c] 0 [] = .ok (.tup [dSd (askedM r s c w).1, .str (askedM r s c w).2]) [] := fun hk => p_asked_for r s c w hw hk
  rw [run_pure rfl rfl (by simp)]
  obtain ⟨kw, a, si, nu⟩ := w
  have hask : (kw = .ask ∨ kw = .renew) → pureOut S (ret1 (exes (lev T (k + 2)) 0 f_arrived.body (Dq.envOf f_arrived [dRu r, dSd s, dC c]) [])) = .ok (.tup [dSd (arrivedM r s c ⟨kw, a, si, nu⟩).1, .str (arrivedM r s c ⟨kw, a, si, nu⟩).2]) S := fun hk => by
    have hB := hA hk
    have hM : arrivedM r s c ⟨kw, a, si, nu⟩ = askedM r s c ⟨kw, a, si, nu⟩ := by rcases hk with rfl | rfl <;> rfl
    rw [hM]
    generalize askedM r s c ⟨kw, a, si, nu⟩ = q at hB
    cases c with
    | false =>
      have hw' : s.one.way = some ⟨kw, a, si, nu⟩ := hw
      rw [dC_0] at hB
      rcases hk with rfl | rfl <;> simp [f_arrived, b_arrived, Dq.envOf, hw', hB, po_tup]
    | true =>
      have hw' : s.two.way = some ⟨kw, a, si, nu⟩ := hw
      rw [dC_1] at hB
      rcases hk with rfl | rfl <;> simp [f_arrived, b_arrived, Dq.envOf, hw', hB, po_tup]
  cases kw with
  | ask => exact hask (.inl rfl)
  | renew => exact hask (.inr rfl)
  | back =>
    cases c with
    | false =>
      have hw' : s.one.way = some ⟨.back, a, si, nu⟩ := hw
      by_cases h : s.ho.who = some false <;> simp [f_arrived, b_arrived, Dq.envOf, hw', h, po_tup, arrivedM, Sd.put, Sd.cl] <;> simp [dSd, dHo, dCl]
    | true =>
      have hw' : s.two.way = some ⟨.back, a, si, nu⟩ := hw
      by_cases h : s.ho.who = some true <;> simp [f_arrived, b_arrived, Dq.envOf, hw', h, po_tup, arrivedM, Sd.put, Sd.cl] <;> simp [dSd, dHo, dCl]
  | yes =>
    obtain ⟨r1, r2, r3, r4, r5, r6⟩ := r
    cases c with
    | false =>
      have hw' : s.one.way = some ⟨.yes, a, si, nu⟩ := hw
      cases r3 with
      | false => by_cases h : r2 ≤ s.one.left <;> simp [f_arrived, b_arrived, Dq.envOf, hw', h, po_tup, arrivedM, Sd.put, Sd.cl, wAsked] <;> simp [dSd, dHo, dCl]
      | true => by_cases h : r2 - si ≤ s.one.left <;> simp [f_arrived, b_arrived, Dq.envOf, hw', h, po_tup, arrivedM, Sd.put, Sd.cl, wAsked] <;> simp [dSd, dHo, dCl]
    | true =>
      have hw' : s.two.way = some ⟨.yes, a, si, nu⟩ := hw
      cases r3 with
      | false => by_cases h : r2 ≤ s.two.left <;> simp [f_arrived, b_arrived, Dq.envOf, hw', h, po_tup, arrivedM, Sd.put, Sd.cl, wAsked] <;> simp [dSd, dHo, dCl]
      | true => by_cases h : r2 - si ≤ s.two.left <;> simp [f_arrived, b_arrived, Dq.envOf, hw', h, po_tup, arrivedM, Sd.put, Sd.cl, wAsked] <;> simp [dSd, dHo, dCl]
end
end Lw
set_option Elab.async false
set_option linter.all false
set_option maxRecDepth 100000
set_option maxHeartbeats 4000000
/-! M4: events; numbers, ranks. -/
namespace Lw
open PySem PySem.Spec PyProof.Rows Dq
section
variable {G : Gm} {n k : Nat} {S : Sto}
inductive Op where
  | ask | renew | back | use | arrive | lose
deriving DecidableEq
def Op.w : Op → Str
  | .ask => "ask" | .renew => "renew" | .back => "back" | .use => "use" | .arrive => "arrive" | .lose => "lose"
@[simp] theorem op_0 : Op.ask.w = "ask" := rfl
@[simp] theorem op_1 : Op.renew.w = "renew" := rfl
@[simp] theorem op_2 : Op.back.w = "back" := rfl
@[simp] theorem op_3 : Op.use.w = "use" := rfl
@[simp] theorem op_4 : Op.arrive.w = "arrive" := rfl
@[simp] theorem op_5 : Op.lose.w = "lose" := rfl
inductive Ev where
  | tick | fall | op (o : Op) (c : Bool)
deriving DecidableEq
def dEv : Ev → D
  | .tick => .tup [.str "tick"]
  | .fall => .tup [.str "fall"]
  | .op o c => .tup [.str o.w, dC c]
@[simp] theorem bel_ev {b : Nat} (e : Ev) : below b (dEv e) = true := by cases e <;> simp [dEv]
def happenedM (r : Ru) (s : Sd) : Ev → Sd × Str
  | .tick => (tickedM r s, "done")
  | .fall => (⟨⟨none, 0, r.rest, s.ho.num⟩, s.used, s.one, s.two⟩, "done")
  | .op .arrive c => (match (s.cl c).way with
    | some w => arrivedM r s c w
    | none => (s, "done"))
  | .op .use c => if r.numb = true ∧ (s.cl c).num < s.used then (s, "barred") else (⟨s.ho, if (s.cl c).num < s.used then s.used else (s.cl c).num, s.one, s.two⟩, "used")
  | .op .lose c => (s.put c ⟨(s.cl c).left, (s.cl c).num, none⟩, "done")
  | .op .back c => (s.put c ⟨0, 0, some ⟨.back, 0, 0, 0⟩⟩, "done")
  | .op .ask c => (s.put c ⟨(s.cl c).left, (s.cl c).num, some ⟨.ask, 0, 0, 0⟩⟩, "done")
  | .op .renew c => (s.put c ⟨(s.cl c).left, (s.cl c).num, some ⟨.renew, 0, 0, 0⟩⟩, "done")
theorem p_happened (r : Ru) (s : Sd) (e : Ev) (he : ∀ c, e = .op .arrive c → (s.cl c).way ≠ none) : runFn (lev T (k + 3)) f_happened [dRu r, dSd s, dEv e] n S = .ok (.tup [dSd (happenedM r s e).1, .str (happenedM r s e).2]) S := by
  rw [run_pure rfl rfl (by simp)]
  cases e with
  | tick => simp [f_happened, b_happened, Dq.envOf, dEv, happenedM, p_ticked, po_tup]
  | fall =>
    simp [f_happened, b_happened, Dq.envOf, dEv, happenedM, po_tup]
    simp [dSd, dHo]
  | op o c =>
    cases o with
    | arrive =>
      cases hw : (s.cl c).way with
      | none => exact absurd hw (he c rfl)
      | some w =>
        have hB : runFn (lev T (k + 2)) f_arrived [dRu r, dSd s, dC c] 0 [] = .ok (.tup [dSd (arrivedM r s c w).1, .str (arrivedM r s c w).2]) [] := p_arrived r s c w hw
        simp only [happenedM, hw]
        generalize arrivedM r s c w = q at hB
        cases c <;> simp only [dC_0, dC_1] at hB <;> simp [f_happened, b_happened, Dq.envOf, dEv, hB, po_tup]
    | use =>
      obtain ⟨r1, r2, r3, r4, r5, r6⟩ := r
      cases c with
      | false => cases r5 <;> by_cases h : s.one.num < s.used <;> simp [f_happened, b_happened, Dq.envOf, dEv, happenedM, po_tup, wNum, h, Sd.cl] <;> simp [dSd]
      | true => cases r5 <;> by_cases h : s.two.num < s.used <;> simp [f_happened, b_happened, Dq.envOf, dEv, happenedM, po_tup, wNum, h, Sd.cl] <;> simp [dSd]
    | ask => cases c <;> simp [f_happened, b_happened, Dq.envOf, dEv, happenedM, po_tup, Sd.put, Sd.cl] <;> simp [dSd, dCl]
    | renew => cases c <;> simp [f_happened, b_happened, Dq.envOf, dEv, happenedM, po_tup, Sd.put, Sd.cl] <;> simp [dSd, dCl]
    | back => cases c <;> simp [f_happened, b_happened, Dq.envOf, dEv, happenedM, po_tup, Sd.put, Sd.cl] <;> simp [dSd, dCl]
    | lose => cases c <;> simp [f_happened, b_happened, Dq.envOf, dEv, happenedM, po_tup, Sd.put, Sd.cl] <;> simp [dSd, dCl]
end
end Lw
set_option Elab.async false
set_option linter.all false
set_option maxRecDepth 100000
set_option maxHeartbeats 4000000
/-! M5: numbers, ranks. -/
namespace Lw
open PySem PySem.Spec PyProof.Rows Dq
section
variable {G : Gm} {n k : Nat} {S S' : Sto}
/-! ### lists in cells -/
def lenL (S : Sto) : Option Cell → Out D
  | some (.lst ds) => .ok (.int (ds.length : Nat)) S
  | _ => .bad
def appL (m : Nat) (v : D) (b : Nat) (S : Sto) : Option Cell → Out D
  | some (.lst xs) => if (okw b m v && Nat.blt xs.length lim) = true then .ok .non (S.set m (.lst (xs ++ [v]))) else .bad
  | _ => .bad
@[simp] theorem appL_s {m b : Nat} {v : D} {xs : List D} : appL m v b S (some (.lst xs)) = if (okw b m v && Nat.blt xs.length lim) = true then .ok .non (S.set m (.lst (xs ++ [v]))) else .bad := rfl
@[simp] theorem app_loc {m b : Nat} {v : D} : appD (.loc m) [v] b S = appL m v b S S[m]? := by
  unfold appD
  dsimp only
  cases S[m]? with
  | none => rfl
  | some c => cases c <;> rfl
def addL (S : Sto) : Option Cell → Option Cell → Out D
  | some (.lst x), some (.lst y) => if Nat.ble (x.length + y.length) lim = true then .ok (.loc S.length) (S ++ [.lst (x ++ y)]) else .bad
  | _, _ => .bad
@[simp] theorem addL_s {x y : List D} : addL S (some (.lst x)) (some (.lst y)) = if Nat.ble (x.length + y.length) lim = true then .ok (.loc S.length) (S ++ [.lst (x ++ y)]) else .bad := rfl
@[simp] theorem add_loc {a b : Nat} : addD (.loc a) (.loc b) n S = addL S S[a]? S[b]? := by
  unfold addD
  dsimp only
  cases S[a]? with
  | none => rfl
  | some c =>
    cases S[b]? with
    | none => cases c <;> rfl
    | some c' => cases c <;> cases c' <;> rfl
def ixL (S : Sto) (i : Int) : Option Cell → Out D
  | some (.lst ds) => atK S (L2.atI ds i)
  | some (.dic kvs) => atK S (getK (.inl i) kvs)
  | _ => .bad
@[simp] theorem ixL_s {i : Int} {ds : List D} : ixL S i (some (.lst ds)) = atK S (L2.atI ds i) := rfl
@[simp] theorem ix_loc {m : Nat} {i : Int} : alt2 ixD gixD (.loc m) (.int i) n S = ixL S i S[m]? := by
  have hi : itemsOf (.loc m) S = (match S[m]? with | some (.lst ds) => some ds | _ => none) := rfl
  cases e : S[m]? with
  | none => unfold alt2 ixD gixD alt2 gixK nixD; dsimp only [keyOf']; rw [hi, e]; rfl
  | some c =>
    cases c with
    | lst ds => exact ix_of (by rw [hi, e])
    | dic kvs =>
      unfold alt2 ixD gixD alt2 gixK nixD
      dsimp only [keyOf']
      rw [hi, e]
      dsimp only
      show _ = atK S (getK (.inl i) kvs)
      cases getK (.inl i) kvs <;> rfl
    | _ => unfold alt2 ixD gixD alt2 gixK nixD; dsimp only [keyOf']; rw [hi, e]; rfl
def poL (S : Sto) : Option Cell → Out D
  | some c => if belowC 0 c = true then .ok (.loc S.length) (S ++ [c]) else .bad
  | none => .bad
@[simp] theorem poL_s {ds : List D} : poL S (some (.lst ds)) = if belowAll 0 ds = true then .ok (.loc S.length) (S ++ [.lst ds]) else .bad := rfl
@[simp] theorem po_loc {m : Nat} : pureOut S (.ok (.loc m) S') = poL S S'[m]? := by
  have hb : below 0 (D.loc m) = false := by
    simp only [below]
    cases m <;> rfl
  unfold pureOut
  dsimp only
  rw [hb]
  cases S'[m]? with
  | none => rfl
  | some c => cases c <;> rfl
@[simp] theorem lstOf_loc {m : Nat} : lstOf (.loc m) S = (match S[m]? with
    | some (.lst ds) => some ds
    | _ => none) := rfl
@[simp] theorem okw_0 {m : Nat} {v : D} : okw 0 m v = true := rfl
theorem allInts_map (L : List Int) : allInts (L.map D.int) = some L := by
  induction L with
  | nil => rfl
  | cons i L ih => simp only [List.map_cons, allInts, ih]
def ssL (S : Sto) : Option Cell → Out D
  | some (.lst ds) => (match allInts ds with
    | some ns => if Nat.blt ns.length 64 = true then .ok (.loc S.length) (S ++ [.lst ((sset ns).map D.int)]) else .bad
    | none => .bad)
  | _ => .bad
@[simp] theorem ssL_s {L : List Int} : ssL S (some (.lst (L.map D.int))) = if Nat.blt L.length 64 = true then .ok (.loc S.length) (S ++ [.lst ((sset L).map D.int)]) else .bad := by
  show (match allInts (L.map D.int) with | some ns => _ | none => _) = _
  rw [allInts_map]
@[simp] theorem sset_loc {m : Nat} : ssetD (.loc m) S = ssL S S[m]? := by
  unfold ssetD
  rw [lstOf_loc]
  unfold ssL
  cases S[m]? with
  | none => rfl
  | some c => cases c <;> rfl
/-! ### places in lists of ints -/
theorem py_ints (L : List Int) (k : Nat) : optMap (py S (k + 1)) (L.map D.int) = some (L.map PyData.int) := by
  induction L with
  | nil => rfl
  | cons i L ih => simp only [List.map_cons, om_cons, py_int, ih]
theorem find_ints (x : Int) : ∀ (L : List Int) (i : Nat), x ∈ L → findP (.int x) (L.map PyData.int) i = some (i + L.idxOf x)
  | [], i, h => by cases h
  | y :: L, i, h => by
    simp only [List.map_cons, findP, eqv_ii, List.idxOf_cons]
    by_cases e : y = x
    · simp [e]
    · have h' : x ∈ L := by
        rcases List.mem_cons.mp h with z | z
        · exact absurd z.symm e
        · exact z
      have e' : (y == x) = false := by simp [e]
      simp only [e, decide_false, Bool.false_eq_true, if_false, find_ints x L (i + 1) h', e', cond_false]
      congr 1
      omega
def idxL (S : Sto) (x : Int) : Option Cell → Out D
  | some (.lst ds) => (match optMap (py S 15) ds with
    | some ps => (match findP (.int x) ps 0 with
      | some j => .ok (.int (j : Nat)) S
      | none => .bad)
    | none => .bad)
  | _ => .bad
@[simp] theorem idx_loc {m : Nat} {x : Int} : idxD (.loc m) [.int x] n S = idxL S x S[m]? := by
  show (match (match S[m]? with
      | some (.lst ds) => (match optMap (py S 15) ds with
        | some ps => some (PyData.list ps)
        | none => none)
      | _ => none), some (PyData.int x) with
    | some (.list ps), some p => _
    | _, _ => _) = _
  unfold idxL
  cases S[m]? with
  | none => rfl
  | some c =>
    cases c with
    | lst ds =>
      dsimp only
      cases optMap (py S 15) ds with
      | none => rfl
      | some ps => rfl
    | _ => rfl
/-- the place among the members, ascending -/
def rk (L : List Int) (x : Int) : Int := ((sset L).idxOf x : Nat)
@[simp] theorem idxL_ss {L : List Int} {x : Int} (h : x ∈ L) : idxL S x (some (.lst ((sset L).map D.int))) = .ok (.int (rk L x)) S := by
  show (match optMap (py S (14 + 1)) ((sset L).map D.int) with | some ps => _ | none => _) = _
  rw [py_ints]
  dsimp only
  rw [find_ints x _ 0 ((mem_sset x L).mpr h)]
  simp [rk]
/-! ### the numbers of a stand -/
def wNums : Option Way → List Int
  | none => []
  | some w => [w.num]
def numsM (s : Sd) : List Int := [s.ho.num, s.used, s.one.num, s.two.num] ++ (wNums s.one.way ++ wNums s.two.way)
@[simp] theorem ix_wy (w : Way) (i : Int) : alt2 ixD gixD (D.tup [.str w.k.w, .int w.age, .int w.since, .int w.num]) (.int i) n S = atK S (L2.atI [.str w.k.w, .int w.age, .int w.since, .int w.num] i) := ix_tup
theorem p_numbers_in (s : Sd) : runFn G f_numbers_in [dSd s] n S = .ok (.loc S.length) (S ++ [.lst ((numsM s).map D.int)]) := by
  rw [run_pure rfl rfl (by simp)]
  obtain ⟨ho, u, ⟨l1, n1, w1⟩, ⟨l2, n2, w2⟩⟩ := s
  cases w1 <;> cases w2 <;> simp [f_numbers_in, b_numbers_in, Dq.envOf, numsM, wNums]
/-! ### ranks -/
def rkWay (L : List Int) (w : Way) : Way := ⟨w.k, w.age, w.since, rk L w.num⟩
def rkCl (L : List Int) (c : Cl) : Cl := ⟨c.left, rk L c.num, c.way.map (rkWay L)⟩
def rankBy (L : List Int) (s : Sd) : Sd := ⟨⟨s.ho.who, s.ho.left, s.ho.rest, rk L s.ho.num⟩, rk L s.used, rkCl L s.one, rkCl L s.two⟩
def rankM (s : Sd) : Sd := rankBy (numsM s ++ [0]) s
@[simp] theorem ssL_a {L : List Int} {x : Int} : ssL S (some (.lst (L.map D.int ++ [.int x]))) = if Nat.blt (L ++ [x]).length 64 = true then .ok (.loc S.length) (S ++ [.lst ((sset (L ++ [x])).map D.int)]) else .bad := by
  rw [show L.map D.int ++ [D.int x] = (L ++ [x]).map D.int from by simp, ssL_s]
theorem p_ranked (s : Sd) : runFn (lev T (k + 1)) f_ranked [dSd s] n S = .ok (dSd (rankM s)) S := by
  rw [run_pure rfl rfl (by simp)]
  have hl : ((numsM s).map D.int).length ≤ 6 := by
    obtain ⟨ho, u, ⟨l1, n1, w1⟩, ⟨l2, n2, w2⟩⟩ := s
    cases w1 <;> cases w2 <;> simp [numsM, wNums]
  have m1 : s.ho.num ∈ numsM s ++ [0] := by simp [numsM]
  have m2 : s.used ∈ numsM s ++ [0] := by simp [numsM]
  have m3 : s.one.num ∈ numsM s ++ [0] := by simp [numsM]
  have m4 : s.two.num ∈ numsM s ++ [0] := by simp [numsM]
  have m5 : ∀ w, s.one.way = some w → w.num ∈ numsM s ++ [0] := fun w h => by simp [numsM, wNums, h]
  have m6 : ∀ w, s.two.way = some w → w.num ∈ numsM s ++ [0] := fun w h => by simp [numsM, wNums, h]
  have hN : runFn (lev T k) f_numbers_in [dSd s] 0 [] = .ok (.loc 0) [.lst ((numsM s).map D.int)] := p_numbers_in s
  have h2 : (numsM s).length ≤ 6 := by simpa using hl
  have h3 : (numsM s).length + 1 ≤ 16777216 := by omega
  have h4 : (numsM s).length + 1 < 64 := by omega
  unfold rankM
  generalize hL : numsM s = L at *
  obtain ⟨⟨wh, hl', hr, hn⟩, u, ⟨l1, n1, w1⟩, ⟨l2, n2, w2⟩⟩ := s
  dsimp only at m1 m2 m3 m4 m5 m6
  cases w1 with
  | none =>
    cases w2 with
    | none => simp [f_ranked, b_ranked, Dq.envOf, hN, h3, h4, m1, m2, m3, m4, po_tup, rankBy, rkCl]; simp [dSd, dHo, dCl]
    | some w2 =>
      have m6' := m6 _ rfl
      simp [f_ranked, b_ranked, Dq.envOf, hN, h3, h4, m1, m2, m3, m4, m6', po_tup, rankBy, rkCl]; simp [dSd, dHo, dCl, rkWay]
  | some w1 =>
    have m5' := m5 _ rfl
    cases w2 with
    | none => simp [f_ranked, b_ranked, Dq.envOf, hN, h3, h4, m1, m2, m3, m4, m5', po_tup, rankBy, rkCl]; simp [dSd, dHo, dCl, rkWay]
    | some w2 =>
      have m6' := m6 _ rfl
      simp [f_ranked, b_ranked, Dq.envOf, hN, h3, h4, m1, m2, m3, m4, m5', m6', po_tup, rankBy, rkCl]; simp [dSd, dHo, dCl, rkWay]
end
end Lw
set_option Elab.async false
set_option linter.all false
set_option maxRecDepth 100000
set_option maxHeartbeats 4000000
/-! M6: a step; what may happen. -/
namespace Lw
open PySem PySem.Spec PyProof.Rows Dq
section
variable {G : Gm} {n k : Nat} {S S' : Sto}
def stepM (r : Ru) (s : Sd) (e : Ev) : Sd × Str := (rankM (happenedM r s e).1, (happenedM r s e).2)
theorem p_step (r : Ru) (s : Sd) (e : Ev) (he : ∀ c, e = .op .arrive c → (s.cl c).way ≠ none) : runFn (lev T (k + 4)) f_step [dRu r, dSd s, dEv e] n S = .ok (.tup [dSd (stepM r s e).1, .str (stepM r s e).2]) S := by
  rw [run_pure rfl rfl (by simp)]
  have hH : runFn (lev T (k + 3)) f_happened [dRu r, dSd s, dEv e] 0 [] = .ok (.tup [dSd (happenedM r s e).1, .str (happenedM r s e).2]) [] := p_happened r s e he
  simp [f_step, b_step, Dq.envOf, hH, p_ranked, po_tup, stepM]
/-! ### calls that keep, calls that drop what they made -/
variable {g : Gm} {b : Nat} {ρ : Env'}
theorem run_no {fd : Fn} {args : List D} (h1 : fd.gc = .no) (h2 : Nat.beq args.length fd.np = true) : runFn g fd args b S = ret1 (exes g b fd.body (Dq.envOf fd args) S) := by
  unfold runFn
  rw [if_pos h2, h1]
theorem run_cut {fd : Fn} {args : List D} (h1 : fd.gc = .cut) (h2 : Nat.beq args.length fd.np = true) : runFn g fd args b S = gcOut S.length (ret1 (exes g S.length fd.body (Dq.envOf fd args) S)) := by
  unfold runFn
  rw [if_pos h2, h1]
theorem gc_pure {d : D} {m : Nat} (h : below m d = true) : gcOut m (.ok d S) = .ok d (S.take m) := by
  show (if below m d = true then Out.ok d (S.take m) else _) = _
  rw [if_pos h]
/-! ### cells again -/
def itsL : Option Cell → Option (List D)
  | some (.lst ds) => some ds
  | _ => none
@[simp] theorem itsL_s {ds : List D} : itsL (some (.lst ds)) = some ds := rfl
@[simp] theorem its_loc {m : Nat} : itemsOf (.loc m) S = itsL S[m]? := by
  show (match S[m]? with | some (.lst ds) => some ds | _ => none) = _
  cases S[m]? with
  | none => rfl
  | some c => cases c <;> rfl
def srcL (S : Sto) (m : Nat) : Option (List D) → Out Src
  | some _ => .ok (.seq (.loc m)) S
  | none => .bad
@[simp] theorem srcL_s {m : Nat} {ds : List D} : srcL S m (some ds) = .ok (.seq (.loc m)) S := rfl
@[simp] theorem srcF_loc {m : Nat} : srcF .seq (.ok [.loc m] S) = srcL S m (itsL S[m]?) := by
  rw [← its_loc]
  show (match srcOf .seq [.loc m] S with | some src => Out.ok src S | none => .bad) = _
  unfold srcOf
  dsimp only
  cases itemsOf (.loc m) S <;> rfl
def curL (i : Nat) : Option (List D) → Option (Option D)
  | some ds => some ds[i]?
  | none => none
@[simp] theorem curL_s {i : Nat} {ds : List D} : curL i (some ds) = some ds[i]? := rfl
@[simp] theorem cur_loc {m i : Nat} : cur (.seq (.loc m)) S i = curL i (itsL S[m]?) := by
  rw [← its_loc]
  show (match itemsOf (.loc m) S with | some ds => some ds[i]? | none => none) = _
  cases itemsOf (.loc m) S <;> rfl
def cntL : Option (List D) → Nat
  | some ds => ds.length
  | none => 0
@[simp] theorem cntL_s {ds : List D} : cntL (some ds) = ds.length := rfl
@[simp] theorem cnt_loc {m : Nat} : cnt (.seq (.loc m)) S = cntL (itsL S[m]?) := by
  rw [← its_loc]
  show (match itemsOf (.loc m) S with | some ds => ds.length | none => 0) = _
  cases itemsOf (.loc m) S <;> rfl
def keyD : L2.Key → D
  | .inl i => .int i
  | .inr x => .str x
def lsL (S : Sto) : Option Cell → Out D
  | some (.lst ds) => .ok (.loc S.length) (S ++ [.lst ds])
  | some (.dic kvs) => .ok (.loc S.length) (S ++ [.lst (kvs.map fun p => keyD p.1)])
  | _ => .bad
@[simp] theorem lsL_s {ds : List D} : lsL S (some (.lst ds)) = .ok (.loc S.length) (S ++ [.lst ds]) := rfl
@[simp] theorem lsL_d {kvs : List (L2.Key × D)} : lsL S (some (.dic kvs)) = .ok (.loc S.length) (S ++ [.lst (kvs.map fun p => keyD p.1)]) := rfl
@[simp] theorem list_loc {m : Nat} : altL listD dlistD [.loc m] n S = lsL S S[m]? := by
  unfold altL listD dlistD
  dsimp only
  rw [its_loc]
  cases S[m]? with
  | none => rfl
  | some c =>
    cases c with
    | lst ds => rfl
    | dic kvs =>
      show Out.ok (D.loc S.length) (S ++ [.lst (kvs.map fun p => match p.1 with
        | .inl i => .int i
        | .inr x => .str x)]) = _
      rfl
    | _ => rfl
def subL (m : Nat) (i : Int) (v : D) (b : Nat) (S : Sto) : Option Cell → Option Sto
  | some (.lst ds) => (match L2.ixN ds.length i with
      | some j => if okw b m v = true then some (S.set m (.lst (ds.set j v))) else none
      | none => none)
  | some (.dic kvs) => if (okw b m v && Nat.blt kvs.length lim) = true then some (S.set m (.dic (putG kvs (.inl i) v))) else none
  | _ => none
@[simp] theorem subL_s {m : Nat} {i : Int} {v : D} {ds : List D} : subL m i v b S (some (.lst ds)) = (match L2.ixN ds.length i with
      | some j => if okw b m v = true then some (S.set m (.lst (ds.set j v))) else none
      | none => none) := rfl
@[simp] theorem subL_d {m : Nat} {i : Int} {v : D} {kvs : List (L2.Key × D)} : subL m i v b S (some (.dic kvs)) = if (okw b m v && Nat.blt kvs.length lim) = true then some (S.set m (.dic (putG kvs (.inl i) v))) else none := rfl
theorem dset_int {m : Nat} {i : Int} {v : D} : dsetD (.loc m) (.int i) v b S = dsetK (.loc m) (.int i) v b S := by
  unfold dsetD
  cases dsetK (.loc m) (.int i) v b S <;> rfl
@[simp] theorem sub_loc {m : Nat} {i : Int} {v : D} : sub3 (.loc m) (.int i) v b S = subL m i v b S S[m]? := by
  unfold sub3
  rw [dset_int]
  unfold setD dsetK
  dsimp only [keyOf']
  cases S[m]? with
  | none => rfl
  | some c =>
    cases c with
    | lst ds =>
      dsimp only
      unfold subL
      dsimp only
      cases L2.ixN ds.length i with
      | none => rfl
      | some j => cases okw b m v <;> rfl
    | dic kvs => rfl
    | _ => rfl
@[simp] theorem ixN_0 {m : Nat} : L2.ixN (m + 1) 0 = some 0 := by simp [L2.ixN]
@[simp] theorem ixN_1 {m : Nat} : L2.ixN (m + 2) 1 = some 1 := by simp [L2.ixN]; omega
@[simp] theorem ixN_2 {m : Nat} : L2.ixN (m + 3) 2 = some 2 := by simp [L2.ixN]; omega
@[simp] theorem ixN_3 {m : Nat} : L2.ixN (m + 4) 3 = some 3 := by simp [L2.ixN]; omega
/-! ### comprehensions -/
def lcL (g : Gm) (b : Nat) (vs : List Nat) (tg : Tg) (ifs : Option E) (elt : E) (ρ : Env') (src : Src) (m fu i : Nat) (S : Sto) : Out D := lcLoop src m (fun x S3 => (match asgT tg x (wipeD ρ vs) S3 with
      | some ρ2 => (denIf g b ifs ρ2 S3).bind fun k S5 => if k = true then (den g b elt ρ2 S5).bind fun y S6 => .ok (some y) S6 else .ok none S5
      | none => .bad)) fu i S
def lcF4 (g : Gm) (b : Nat) (vs : List Nat) (tg : Tg) (ifs : Option E) (elt : E) (ρ : Env') (src : Src) (m fu i : Nat) (y : D) (S : Sto) : Option Cell → Out D
  | some (.lst acc) => if Nat.blt acc.length lim = true then lcL g b vs tg ifs elt ρ src m fu (i + 1) (S.set m (.lst (acc ++ [y]))) else .bad
  | _ => .bad
def lcD (g : Gm) (b : Nat) (vs : List Nat) (tg : Tg) (ifs : Option E) (elt : E) (ρ : Env') (src : Src) (m fu i : Nat) : Out D → Out D
  | .ok y S4 => lcF4 g b vs tg ifs elt ρ src m fu i y S4 S4[m]?
  | _ => .bad
def lcT (g : Gm) (b : Nat) (vs : List Nat) (tg : Tg) (ifs : Option E) (elt : E) (ρ : Env') (src : Src) (m fu i : Nat) (ρ2 : Env') : Out Bool → Out D
  | .ok k S5 => if k = true then lcD g b vs tg ifs elt ρ src m fu i (den g b elt ρ2 S5) else lcL g b vs tg ifs elt ρ src m fu (i + 1) S5
  | _ => .bad
def lcB (g : Gm) (b : Nat) (vs : List Nat) (tg : Tg) (ifs : Option E) (elt : E) (ρ : Env') (src : Src) (m fu i : Nat) (S : Sto) : Option Env' → Out D
  | some ρ2 => lcT g b vs tg ifs elt ρ src m fu i ρ2 (denIf g b ifs ρ2 S)
  | none => .bad
def lcA (g : Gm) (b : Nat) (vs : List Nat) (tg : Tg) (ifs : Option E) (elt : E) (ρ : Env') (src : Src) (m fu i : Nat) (S : Sto) : Option (Option D) → Out D
  | some none => .ok (.loc m) S
  | some (some x) => lcB g b vs tg ifs elt ρ src m fu i S (asgT tg x (wipeD ρ vs) S)
  | none => .bad
def lcE (m : Nat) (S : Sto) : Option (Option D) → Out D
  | some none => .ok (.loc m) S
  | _ => .bad
section
variable {vs : List Nat} {tg : Tg} {ifs : Option E} {elt : E} {src : Src} {m fu i : Nat} {ρ2 : Env'} {x y : D} {acc : List D}
@[simp] theorem lcF4_s : lcF4 g b vs tg ifs elt ρ src m fu i y S (some (.lst acc)) = if Nat.blt acc.length lim = true then lcL g b vs tg ifs elt ρ src m fu (i + 1) (S.set m (.lst (acc ++ [y]))) else .bad := rfl
@[simp] theorem lcD_s : lcD g b vs tg ifs elt ρ src m fu i (.ok y S) = lcF4 g b vs tg ifs elt ρ src m fu i y S S[m]? := rfl
@[simp] theorem lcT_s {k : Bool} : lcT g b vs tg ifs elt ρ src m fu i ρ2 (.ok k S) = if k = true then lcD g b vs tg ifs elt ρ src m fu i (den g b elt ρ2 S) else lcL g b vs tg ifs elt ρ src m fu (i + 1) S := rfl
@[simp] theorem lcB_s : lcB g b vs tg ifs elt ρ src m fu i S (some ρ2) = lcT g b vs tg ifs elt ρ src m fu i ρ2 (denIf g b ifs ρ2 S) := rfl
@[simp] theorem lcA_n : lcA g b vs tg ifs elt ρ src m fu i S (some none) = .ok (.loc m) S := rfl
@[simp] theorem lcA_s : lcA g b vs tg ifs elt ρ src m fu i S (some (some x)) = lcB g b vs tg ifs elt ρ src m fu i S (asgT tg x (wipeD ρ vs) S) := rfl
@[simp] theorem lcE_n : lcE m S (some none) = .ok (.loc m) S := rfl
@[simp] theorem lcL_0 : lcL g b vs tg ifs elt ρ src m 0 i S = lcE m S (cur src S i) := by
  unfold lcL lcLoop
  cases cur src S i with
  | none => rfl
  | some o => cases o <;> rfl
@[simp] theorem lcL_s : lcL g b vs tg ifs elt ρ src m (fu + 1) i S = lcA g b vs tg ifs elt ρ src m fu i S (cur src S i) := by
  unfold lcL
  rw [lcLoop]
  cases cur src S i with
  | none => rfl
  | some o =>
    cases o with
    | none => rfl
    | some x =>
      show _ = lcB g b vs tg ifs elt ρ src m fu i S (asgT tg x (wipeD ρ vs) S)
      dsimp only
      cases asgT tg x (wipeD ρ vs) S with
      | none => rfl
      | some ρ2 =>
        show _ = lcT g b vs tg ifs elt ρ src m fu i ρ2 (denIf g b ifs ρ2 S)
        dsimp only
        cases denIf g b ifs ρ2 S with
        | bad => rfl
        | exc e0 S1 => rfl
        | ok k S1 =>
          cases k with
          | false => rfl
          | true =>
            show (match (den g b elt ρ2 S1).bind fun y S6 => Out.ok (some y) S6 with | .ok (some y) S4 => _ | .ok none S4 => _ | _ => Out.bad) = lcD g b vs tg ifs elt ρ src m fu i (den g b elt ρ2 S1)
            cases den g b elt ρ2 S1 with
            | bad => rfl
            | exc e0 S2 => rfl
            | ok y S2 =>
              show (match S2[m]? with | some (.lst acc) => _ | _ => Out.bad) = lcF4 g b vs tg ifs elt ρ src m fu i y S2 S2[m]?
              cases S2[m]? with
              | none => rfl
              | some c => cases c <;> rfl
end
@[simp] theorem if_none : denIf g b none ρ S = .ok true S := by simp only [denIf]
def ifL (S : Sto) : Option Bool → Out Bool
  | some k => .ok k S
  | none => .bad
@[simp] theorem ifL_s {p : Bool} : ifL S (some p) = .ok p S := rfl
def ifK (o : Out D) : Out Bool := o.bind fun d S1 => ifL S1 (truD d S1)
@[simp] theorem ifK_s {d : D} : ifK (.ok d S) = ifL S (truD d S) := rfl
@[simp] theorem if_some (e : E) : denIf g b (some e) ρ S = ifK (den g b e ρ S) := by
  simp only [denIf]
  cases den g b e ρ S with
  | ok d S1 =>
    show (match truD d S1 with | some k => Out.ok k S1 | none => .bad) = ifL S1 (truD d S1)
    cases truD d S1 <;> rfl
  | exc e0 S1 => rfl
  | bad => rfl
def lcZ (g : Gm) (b : Nat) (vs : List Nat) (tg : Tg) (ifs : Option E) (elt : E) (ρ : Env') : Out Src → Out D
  | .ok src S1 => lcL g b vs tg ifs elt ρ src S1.length (cnt src (S1 ++ [.lst []])) 0 (S1 ++ [.lst []])
  | .exc e0 S1 => .exc e0 S1
  | .bad => .bad
@[simp] theorem lcZ_s {vs : List Nat} {tg : Tg} {ifs : Option E} {elt : E} {src : Src} : lcZ g b vs tg ifs elt ρ (.ok src S) = lcL g b vs tg ifs elt ρ src S.length (cnt src (S ++ [.lst []])) 0 (S ++ [.lst []]) := rfl
@[simp] theorem n_lc (own : List (Str × Nat)) (tg : Tg) (k : ItK) (it : List E) (ifs : Option E) (elt : E) : den g b (.lc own tg k it ifs elt) ρ S = lcZ g b (own.map (·.2)) tg ifs elt ρ (srcF k (denL g b it ρ S)) := by
  simp only [den]
  cases srcF k (denL g b it ρ S) <;> rfl
@[simp] theorem wipe_nil : wipeD ρ [] = ρ := rfl
@[simp] theorem wipe_cons {v : Nat} {vs : List Nat} : wipeD ρ (v :: vs) = (wipeD ρ vs).set v none := rfl
end
end Lw
set_option Elab.async false
set_option linter.all false
set_option maxRecDepth 100000
set_option maxHeartbeats 4000000
/-! M7: the law's own account of a stand. -/
namespace Lw
open PySem PySem.Spec PyProof.Rows Dq
section
variable {g : Gm} {b n k : Nat} {S U : Sto}
/-! ### cells behind others -/
@[simp] theorem app_get {j : Nat} : (S ++ U)[S.length + j]? = U[j]? := by rw [List.getElem?_append_right (by omega)]; congr 1; omega
@[simp] theorem app_get0 : (S ++ U)[S.length]? = U[0]? := by rw [List.getElem?_append_right (by omega)]; congr 1; omega
@[simp] theorem app_set {j : Nat} {c : Cell} : (S ++ U).set (S.length + j) c = S ++ U.set j c := by rw [List.set_append_right _ _ (by omega)]; congr 2; omega
@[simp] theorem app_set0 {c : Cell} : (S ++ U).set S.length c = S ++ U.set 0 c := by rw [List.set_append_right _ _ (by omega)]; congr 2; omega
theorem get_app {a : Nat} {c : Cell} (h : S[a]? = some c) (U : Sto) : (S ++ U)[a]? = some c := by
  rw [List.getElem?_append_left (List.getElem?_eq_some_iff.mp h).1]; exact h
/-! ### dicts of numbers -/
def dk (L : List Int) : List (L2.Key × D) := L.map fun i => (.inl i, .int 0)
def insK (L : List Int) (x : Int) : List Int := if x ∈ L then L else L ++ [x]
theorem any_dk {L : List Int} {x : Int} : ((dk L).any fun kv => decide (kv.1 = (.inl x : L2.Key))) = decide (x ∈ L) := by
  unfold dk
  induction L with
  | nil => simp
  | cons y L ih =>
    rw [List.map_cons, List.any_cons, ih]
    by_cases h : y = x
    · simp [h]
    · have h' : ¬ x = y := fun e => h e.symm
      simp [h, h']
theorem repl_dk {L : List Int} {x : Int} : ((dk L).map fun kv => if kv.1 = (.inl x : L2.Key) then (kv.1, D.int 0) else kv) = dk L := by
  unfold dk
  rw [List.map_map]
  refine List.map_congr_left fun y _ => ?_
  show (if (Sum.inl y : L2.Key) = .inl x then _ else _) = _
  split <;> rfl
@[simp] theorem put_dk {L : List Int} {x : Int} : putG (dk L) (.inl x) (.int 0) = dk (insK L x) := by
  unfold putG insK
  rw [any_dk, repl_dk]
  by_cases h : x ∈ L
  · simp [h]
  · simp [h, dk]
@[simp] theorem dk_nil {x : Int} : putG ([] : List (L2.Key × D)) (.inl x) (.int 0) = dk [x] := rfl
/-- not long -/
def Sm (k : Nat) (L : List Int) : Prop := L.length + k ≤ 1000
@[simp] theorem sm_one {k : Nat} {x : Int} : Sm k [x] ↔ 1 + k ≤ 1000 := Iff.rfl
@[simp] theorem mem_insK {L : List Int} {x y : Int} : y ∈ insK L x ↔ y ∈ L ∨ y = x := by
  unfold insK
  by_cases h : x ∈ L
  · simp only [h, if_true]
    exact ⟨.inl, fun z => z.elim id fun e => e ▸ h⟩
  · simp [h]
@[simp] theorem nd_insK {L : List Int} {x : Int} (h : L.Nodup) : (insK L x).Nodup := by
  unfold insK
  split
  · exact h
  · rename_i hx
    exact List.nodup_append.mpr ⟨h, by simp, fun a ha b hb => by simp at hb; subst hb; exact fun z => hx (z ▸ ha)⟩
theorem len_insK {L : List Int} {x : Int} : (insK L x).length ≤ L.length + 1 := by
  unfold insK
  split <;> simp
@[simp] theorem sm_insK {k : Nat} {L : List Int} {x : Int} (h : Sm (k + 1) L) : Sm k (insK L x) := by
  have := len_insK (L := L) (x := x)
  unfold Sm at *
  omega
@[simp] theorem keys_dk {L : List Int} : (dk L).map (fun p => keyD p.1) = L.map D.int := by
  unfold dk
  rw [List.map_map]
  rfl
@[simp] theorem dk_len {L : List Int} : (dk L).length = L.length := by simp [dk]
/-! ### sorted ints -/
theorem leD_ints (a c : Int) : (leD (D.int a, PyData.int a) (D.int c, PyData.int c)) = leI a c := by
  show (!PySem.W.dataLt (.int c) (.int a)) = decide (a ≤ c)
  rw [PySem.W.dataLt_int]
  by_cases h : a ≤ c
  · simp [h]
  · simp [h]; omega
theorem zip_ints (L : List Int) : (L.map D.int).zip (L.map PyData.int) = L.map fun i => (D.int i, PyData.int i) := by
  induction L with
  | nil => rfl
  | cons i L ih => simp only [List.map_cons, List.zip_cons_cons, ih]
theorem sort_zip (L : List Int) : (isort leD ((L.map D.int).zip (L.map PyData.int))).map (·.1) = (isort leI L).map D.int := by
  rw [zip_ints, ← isort_map (fun i : Int => (D.int i, PyData.int i)) leI leD (fun a c => (leD_ints a c).symm) L, List.map_map]
  rfl
theorem sset_nodup {L : List Int} (h : L.Nodup) : isort leI L = sset L := by
  unfold sset
  congr 1
  induction L with
  | nil => rfl
  | cons x L ih =>
    rw [List.nodup_cons] at h
    unfold dedup
    rw [if_neg, ← ih h.2]
    intro z
    obtain ⟨y, hy, e⟩ := List.any_eq_true.mp z
    exact h.1 (eq_of_beq e ▸ hy)
theorem ok_ints (L : List Int) : sortOk (L.map PyData.int) = true := by
  unfold sortOk
  rw [Bool.and_eq_true, Bool.or_eq_true]
  refine ⟨?_, .inr ?_⟩
  · rw [List.all_eq_true]
    intro p hp
    rw [List.all_eq_true]
    intro q hq
    obtain ⟨i, _, rfl⟩ := List.mem_map.mp hp
    obtain ⟨j, _, rfl⟩ := List.mem_map.mp hq
    rfl
  · rw [List.all_eq_true]
    intro p hp
    obtain ⟨i, _, rfl⟩ := List.mem_map.mp hp
    rfl
def srtL (S : Sto) : Option Cell → Out D
  | some (.lst ds) => (match optMap (py S dep) ds with
      | some ps => if (sortOk ps && Nat.ble ds.length lim) = true then .ok (.loc S.length) (S ++ [.lst ((isort leD (ds.zip ps)).map (·.1))]) else .bad
      | none => .bad)
  | _ => .bad
@[simp] theorem sort_loc {m : Nat} : sortD [.loc m] n S = srtL S S[m]? := by
  unfold sortD
  dsimp only
  rw [lstOf_loc]
  cases S[m]? with
  | none => rfl
  | some c => cases c <;> rfl
@[simp] theorem srtL_ints {L : List Int} (h : L.Nodup) (hs : Sm 0 L) : srtL S (some (.lst (L.map D.int))) = .ok (.loc S.length) (S ++ [.lst ((sset L).map D.int)]) := by
  have hl : L.length ≤ 16777216 := by unfold Sm at hs; omega
  unfold srtL
  dsimp only
  rw [show dep = 15 + 1 from rfl, py_ints]
  dsimp only
  rw [if_pos (by rw [ok_ints, Bool.true_and]; exact Nat.ble_eq_true_of_le (by simpa using hl)), sort_zip, sset_nodup h]
end
end Lw
set_option Elab.async false
set_option linter.all false
set_option maxRecDepth 100000
set_option maxHeartbeats 4000000
/-! M8: from the law's account back to a stand. -/
namespace Lw
open PySem PySem.Spec PyProof.Rows Dq
section
variable {g : Gm} {b n k : Nat} {S U : Sto}
/-- a request under way, by the clock -/
structure Rd where
  k : Kw
  t1 : Int
  t2 : Int
  num : Int
structure As where
  now : Int
  who : Option Bool
  hu : Int
  hr : Int
  hn : Int
  used : Int
  u1 : Int
  n1 : Int
  r1 : Option Rd
  u2 : Int
  n2 : Int
  r2 : Option Rd
def insR (L : List Int) : Option Rd → List Int
  | none => L
  | some r => insK L r.num
def nsA (a : As) : List Int := insR (insK (insR (insK (insK (insK [0] a.hn) a.used) (if a.now < a.u1 then a.n1 else 0)) a.r1) (if a.now < a.u2 then a.n2 else 0)) a.r2
def wayA (r : Ru) (now : Int) (L : List Int) (q : Rd) : Way := ⟨q.k, now - q.t1, if q.k = .back then 0 else if now - q.t2 < r.lease then now - q.t2 else r.lease, rk L q.num⟩
def clA (r : Ru) (now : Int) (L : List Int) (u m : Int) (q : Option Rd) : Cl := if now < u then ⟨u - now, rk L m, q.map (wayA r now L)⟩ else ⟨0, 0, q.map (wayA r now L)⟩
def standM (r : Ru) (a : As) : Sd := ⟨if a.who ≠ none ∧ a.now < a.hu then ⟨a.who, a.hu - a.now, 0, rk (nsA a) a.hn⟩ else ⟨none, 0, if 0 < a.hr - a.now then a.hr - a.now else 0, rk (nsA a) a.hn⟩,
  rk (nsA a) a.used, clA r a.now (nsA a) a.u1 a.n1 a.r1, clA r a.now (nsA a) a.u2 a.n2 a.r2⟩
def cRd (q : Rd) : Cell := .lst [.str q.k.w, .int q.t1, .int q.t2, .int q.num]
/-- how the account lies in the cells -/
structure KnS (S : Sto) (p : Nat) (a : As) (h q p1 p2 : Nat) : Prop where
  root : S[p]? = some (.lst [.int a.now, .loc h, .int a.used, .loc q])
  house : S[h]? = some (.lst [dWho a.who, .int a.hu, .int a.hr, .int a.hn])
  pair : S[q]? = some (.lst [.loc p1, .loc p2])
@[simp] theorem okw_b {m j : Nat} {v : D} : okw m (m + j) v = true := by
  unfold okw
  rw [Nat.ble_eq_true_of_le (Nat.le_add_right m j)]
  rfl
@[simp] theorem okw_b0 {m : Nat} {v : D} : okw m m v = true := okw_b (j := 0)
@[simp high] theorem subL_dk {m : Nat} {i : Int} {L : List Int} (h : Sm 0 L) (hk : okw b m (.int 0) = true) : subL m i (.int 0) b S (some (.dic (dk L))) = some (S.set m (.dic (dk (insK L i)))) := by
  have hl : Nat.blt (dk L).length lim = true := by
    rw [dk_len, Nat.blt_eq]
    unfold Sm at h
    show L.length < 16777216
    omega
  rw [subL_d, hk, hl, put_dk]
  rfl
@[simp] theorem isNon_loc {m : Nat} : isNon (.loc m) = false := rfl
@[simp] theorem isNon_C (c : Bool) : isNon (dC c) = false := rfl
@[simp] theorem kw_back {w : Kw} : (w.w = Str.ofString "back") ↔ w = .back := by cases w <;> simp
theorem p_standing00 (r : Ru) (a : As) {p h q p1 p2 : Nat} (K : KnS S p a h q p1 p2) (h1 : a.r1 = none) (c1 : S[p1]? = some (.lst [.int a.u1, .int a.n1, .non])) (h2 : a.r2 = none) (c2 : S[p2]? = some (.lst [.int a.u2, .int a.n2, .non])) :
    runFn g f__law_standing [dRu r, .loc p] b S = .ok (dSd (standM r a)) S := by
  obtain ⟨k1, k2, k3⟩ := K
  have k1' := get_app k1
  have k2' := get_app k2
  have k3' := get_app k3
  have c1' := get_app c1
  have c2' := get_app c2
  obtain ⟨now, who, hu, hr, hn, used, u1, n1, r1, u2, n2, r2⟩ := a
  dsimp only at h1 h2
  subst h1 h2
  dsimp only at *
  rw [run_cut rfl rfl]
  by_cases e1 : now < u1 <;> by_cases e2 : now < u2 <;> by_cases e3 : now < hu <;> cases who <;>
    simp (maxDischargeDepth := 20) [f__law_standing, b__law_standing, Dq.envOf, k1, k2, k3, c1, c2, k1', k2', k3', c1', c2', dicL, mkKeys, keyOf', mergeG, e1, e2, e3, standM, clA, nsA, insR, gc_pure, dSd, dHo, dCl, wayA]
theorem p_standing01 (r : Ru) (a : As) {p h q p1 p2 : Nat} (K : KnS S p a h q p1 p2) (h1 : a.r1 = none) (c1 : S[p1]? = some (.lst [.int a.u1, .int a.n1, .non])) {g2 : Nat} {q2 : Rd} (h2 : a.r2 = some q2) (c2 : S[p2]? = some (.lst [.int a.u2, .int a.n2, .loc g2])) (d2 : S[g2]? = some (cRd q2)) :
    runFn g f__law_standing [dRu r, .loc p] b S = .ok (dSd (standM r a)) S := by
  obtain ⟨k1, k2, k3⟩ := K
  unfold cRd at d2
  have k1' := get_app k1
  have k2' := get_app k2
  have k3' := get_app k3
  have c1' := get_app c1
  have c2' := get_app c2
  have d2' := get_app d2
  obtain ⟨now, who, hu, hr, hn, used, u1, n1, r1, u2, n2, r2⟩ := a
  dsimp only at h1 h2
  subst h1 h2
  dsimp only at *
  rw [run_cut rfl rfl]
  by_cases e1 : now < u1 <;> by_cases e2 : now < u2 <;> by_cases e3 : now < hu <;> cases who <;> by_cases f2 : q2.k = .back <;>
    simp (maxDischargeDepth := 20) [f__law_standing, b__law_standing, Dq.envOf, k1, k2, k3, c1, c2, d2, k1', k2', k3', c1', c2', d2', dicL, mkKeys, keyOf', mergeG, e1, e2, e3, standM, clA, nsA, insR, gc_pure, dSd, dHo, dCl, wayA, f2]
theorem p_standing10 (r : Ru) (a : As) {p h q p1 p2 : Nat} (K : KnS S p a h q p1 p2) {g1 : Nat} {q1 : Rd} (h1 : a.r1 = some q1) (c1 : S[p1]? = some (.lst [.int a.u1, .int a.n1, .loc g1])) (d1 : S[g1]? = some (cRd q1)) (h2 : a.r2 = none) (c2 : S[p2]? = some (.lst [.int a.u2, .int a.n2, .non])) :
    runFn g f__law_standing [dRu r, .loc p] b S = .ok (dSd (standM r a)) S := by
  obtain ⟨k1, k2, k3⟩ := K
  unfold cRd at d1
  have k1' := get_app k1
  have k2' := get_app k2
  have k3' := get_app k3
  have c1' := get_app c1
  have c2' := get_app c2
  have d1' := get_app d1
  obtain ⟨now, who, hu, hr, hn, used, u1, n1, r1, u2, n2, r2⟩ := a
  dsimp only at h1 h2
  subst h1 h2
  dsimp only at *
  rw [run_cut rfl rfl]
  by_cases e1 : now < u1 <;> by_cases e2 : now < u2 <;> by_cases e3 : now < hu <;> cases who <;> by_cases f1 : q1.k = .back <;>
    simp (maxDischargeDepth := 20) [f__law_standing, b__law_standing, Dq.envOf, k1, k2, k3, c1, c2, d1, k1', k2', k3', c1', c2', d1', dicL, mkKeys, keyOf', mergeG, e1, e2, e3, standM, clA, nsA, insR, gc_pure, dSd, dHo, dCl, wayA, f1]
theorem p_standing11 (r : Ru) (a : As) {p h q p1 p2 : Nat} (K : KnS S p a h q p1 p2) {g1 : Nat} {q1 : Rd} (h1 : a.r1 = some q1) (c1 : S[p1]? = some (.lst [.int a.u1, .int a.n1, .loc g1])) (d1 : S[g1]? = some (cRd q1)) {g2 : Nat} {q2 : Rd} (h2 : a.r2 = some q2) (c2 : S[p2]? = some (.lst [.int a.u2, .int a.n2, .loc g2])) (d2 : S[g2]? = some (cRd q2)) :
    runFn g f__law_standing [dRu r, .loc p] b S = .ok (dSd (standM r a)) S := by
  obtain ⟨k1, k2, k3⟩ := K
  unfold cRd at d1
  unfold cRd at d2
  have k1' := get_app k1
  have k2' := get_app k2
  have k3' := get_app k3
  have c1' := get_app c1
  have c2' := get_app c2
  have d1' := get_app d1
  have d2' := get_app d2
  obtain ⟨now, who, hu, hr, hn, used, u1, n1, r1, u2, n2, r2⟩ := a
  dsimp only at h1 h2
  subst h1 h2
  dsimp only at *
  rw [run_cut rfl rfl]
  by_cases e1 : now < u1 <;> by_cases e2 : now < u2 <;> by_cases e3 : now < hu <;> cases who <;> by_cases f1 : q1.k = .back <;> by_cases f2 : q2.k = .back <;>
    simp (maxDischargeDepth := 20) [f__law_standing, b__law_standing, Dq.envOf, k1, k2, k3, c1, c2, d1, d2, k1', k2', k3', c1', c2', d1', d2', dicL, mkKeys, keyOf', mergeG, e1, e2, e3, standM, clA, nsA, insR, gc_pure, dSd, dHo, dCl, wayA, f1, f2]
end
end Lw
set_option Elab.async false
set_option linter.all false
set_option maxRecDepth 100000
set_option maxHeartbeats 4000000
/-! M9: the law's next stand. -/
namespace Lw
open PySem PySem.Spec PyProof.Rows Dq
section
variable {g : Gm} {b n k : Nat} {S U : Sto}
theorem run_known {x : D} : runFn g f__law_known [x] b S = ret1 (exes g b b__law_known [some x, none, none, none, none, none, none, none, none, none] S) := rfl
theorem run_happen {x y z : D} : runFn g f__law_happen [x, y, z] b S = ret1 (exes g b b__law_happen [some x, some y, some z, none, none, none, none, none] S) := rfl
theorem run_come {x y z : D} : runFn g f__law_come [x, y, z] b S = ret1 (exes g b b__law_come [some x, some y, some z, none, none, none, none, none, none, none, none, none, none] S) := rfl
def rdOf (w : Way) : Rd := ⟨w.k, 50 - w.age, 50 - w.since, w.num⟩
def asOf (s : Sd) : As := ⟨50, s.ho.who, 50 + s.ho.left, 50 + s.ho.rest, s.ho.num, s.used, 50 + s.one.left, s.one.num, s.one.way.map rdOf, 50 + s.two.left, s.two.num, s.two.way.map rdOf⟩
def hoC (s : Sd) : Cell := .lst [dWho s.ho.who, .int (50 + s.ho.left), .int (50 + s.ho.rest), .int s.ho.num]
theorem p_known00 (s : Sd) (h1 : s.one.way = none) (h2 : s.two.way = none) : runFn g f__law_known [dSd s] 0 [] = .ok (.loc 4) [.lst [.loc 1, .loc 2], .lst [.int (50 + s.one.left), .int s.one.num, .non], .lst [.int (50 + s.two.left), .int s.two.num, .non], hoC s, .lst [.int 50, .loc 3, .int s.used, .loc 0]] := by
  rw [run_known]
  simp [b__law_known, h1, h2, hoC]
theorem p_known01 (s : Sd) {w : Way} (h1 : s.one.way = none) (h2 : s.two.way = some w) : runFn g f__law_known [dSd s] 0 [] = .ok (.loc 5) [.lst [.loc 1, .loc 3], .lst [.int (50 + s.one.left), .int s.one.num, .non], cRd (rdOf w), .lst [.int (50 + s.two.left), .int s.two.num, .loc 2], hoC s, .lst [.int 50, .loc 4, .int s.used, .loc 0]] := by
  rw [run_known]
  simp [b__law_known, h1, h2, hoC, cRd, rdOf]
theorem p_known10 (s : Sd) {w : Way} (h1 : s.one.way = some w) (h2 : s.two.way = none) : runFn g f__law_known [dSd s] 0 [] = .ok (.loc 5) [.lst [.loc 2, .loc 3], cRd (rdOf w), .lst [.int (50 + s.one.left), .int s.one.num, .loc 1], .lst [.int (50 + s.two.left), .int s.two.num, .non], hoC s, .lst [.int 50, .loc 4, .int s.used, .loc 0]] := by
  rw [run_known]
  simp [b__law_known, h1, h2, hoC, cRd, rdOf]
theorem p_known11 (s : Sd) {w v : Way} (h1 : s.one.way = some w) (h2 : s.two.way = some v) : runFn g f__law_known [dSd s] 0 [] = .ok (.loc 6) [.lst [.loc 2, .loc 4], cRd (rdOf w), .lst [.int (50 + s.one.left), .int s.one.num, .loc 1], cRd (rdOf v), .lst [.int (50 + s.two.left), .int s.two.num, .loc 3], hoC s, .lst [.int 50, .loc 5, .int s.used, .loc 0]] := by
  rw [run_known]
  simp [b__law_known, h1, h2, hoC, cRd, rdOf]
/-! ### what an event does to the account -/
def As.u (a : As) (c : Bool) : Int := if c = true then a.u2 else a.u1
def As.m (a : As) (c : Bool) : Int := if c = true then a.n2 else a.n1
def As.r (a : As) (c : Bool) : Option Rd := if c = true then a.r2 else a.r1
def As.put (a : As) (c : Bool) (u m : Int) (q : Option Rd) : As := if c = true then { a with u2 := u, n2 := m, r2 := q } else { a with u1 := u, n1 := m, r1 := q }
def comeM (r : Ru) (a : As) (c : Bool) (q : Rd) : As × Str :=
  match q.k with
  | .back => if a.now < a.hu ∧ a.who = some c then ({ (a.put c (a.u c) (a.m c) none) with who := none, hu := a.now, hr := a.now }, "freed") else (a.put c (a.u c) (a.m c) none, "late")
  | .yes => if (if r.asked = true then q.t2 else a.now) + r.lease ≤ (if a.u c < a.now then a.now else a.u c) then (a.put c (a.u c) (a.m c) none, "late")
    else (a.put c ((if r.asked = true then q.t2 else a.now) + r.lease) q.num none, "held")
  | _ => if ¬ (a.now < a.hu ∧ a.who ≠ none) ∧ a.hr ≤ a.now ∧ (q.k = .ask ∨ r.again = true) then
      ({ (a.put c (a.u c) (a.m c) (some ⟨.yes, a.now, q.t2, a.hn + 1⟩)) with who := some c, hu := a.now + r.keep, hr := a.now, hn := a.hn + 1 }, "granted")
    else if a.now < a.hu ∧ a.who = some c then
      ({ (a.put c (a.u c) (a.m c) (some ⟨.yes, a.now, q.t2, a.hn⟩)) with who := some c, hu := a.now + r.keep, hr := a.now }, "granted")
    else (a.put c (a.u c) (a.m c) none, "refused")
def accM (r : Ru) (a : As) : Ev → As × Str
  | .tick => ({ a with now := a.now + 1 }, "done")
  | .fall => ({ a with who := none, hu := a.now, hr := a.now + r.rest }, "done")
  | .op .use c => if r.numb = true ∧ a.m c < a.used then (a, "barred") else ({ a with used := if a.m c < a.used then a.used else a.m c }, "used")
  | .op .lose c => (a.put c (a.u c) (a.m c) none, "done")
  | .op .back c => (a.put c a.now (a.m c) (some ⟨.back, a.now, a.now, 0⟩), "done")
  | .op .ask c => (a.put c (a.u c) (a.m c) (some ⟨.ask, a.now, a.now, 0⟩), "done")
  | .op .renew c => (a.put c (a.u c) (a.m c) (some ⟨.renew, a.now, a.now, 0⟩), "done")
  | .op .arrive c => (match a.r c with
    | some q => comeM r a c q
    | none => (a, "done"))
end
end Lw
set_option Elab.async false
set_option linter.all false
set_option maxRecDepth 100000
set_option maxHeartbeats 4000000
/-! M10: the law's next stand, event by event. -/
namespace Lw
open PySem PySem.Spec PyProof.Rows Dq
section
variable {n k : Nat} {S : Sto}
theorem next00_tick (r : Ru) (s : Sd) (h1 : s.one.way = none) (h2 : s.two.way = none) : runFn (lev T (k + 3)) f__law_next [dRu r, dSd s, dEv .tick] n S = .ok (.tup [dSd (standM r (accM r (asOf s) .tick).1), .str (accM r (asOf s) .tick).2]) S := by
  rw [run_pure rfl rfl (by simp)]
  have hK : runFn (lev T (k + 2)) f__law_known [dSd s] 0 [] = _ := p_known00 s h1 h2
  (simp [f__law_next, b__law_next, Dq.envOf, hK, run_happen, b__law_happen, dEv, hoC, wNum]
   generalize hA : accM r (asOf s) .tick = A
   simp [accM, asOf, h1, h2, As.put, As.u, As.m, As.r] at hA
   rw [p_standing00 (a := A.1)]
   case K => subst hA; exact ⟨rfl, rfl, rfl⟩
   case h1 => subst hA; rfl
   case c1 => subst hA; rfl
   case h2 => subst hA; rfl
   case c2 => subst hA; rfl
   subst hA; simp [po_tup])
theorem next00_fall (r : Ru) (s : Sd) (h1 : s.one.way = none) (h2 : s.two.way = none) : runFn (lev T (k + 3)) f__law_next [dRu r, dSd s, dEv .fall] n S = .ok (.tup [dSd (standM r (accM r (asOf s) .fall).1), .str (accM r (asOf s) .fall).2]) S := by
  rw [run_pure rfl rfl (by simp)]
  have hK : runFn (lev T (k + 2)) f__law_known [dSd s] 0 [] = _ := p_known00 s h1 h2
  (simp [f__law_next, b__law_next, Dq.envOf, hK, run_happen, b__law_happen, dEv, hoC, wNum]
   generalize hA : accM r (asOf s) .fall = A
   simp [accM, asOf, h1, h2, As.put, As.u, As.m, As.r] at hA
   rw [p_standing00 (a := A.1)]
   case K => subst hA; exact ⟨rfl, rfl, rfl⟩
   case h1 => subst hA; rfl
   case c1 => subst hA; rfl
   case h2 => subst hA; rfl
   case c2 => subst hA; rfl
   subst hA; simp [po_tup])
theorem next00_use0 (r : Ru) (s : Sd) (h1 : s.one.way = none) (h2 : s.two.way = none) : runFn (lev T (k + 3)) f__law_next [dRu r, dSd s, dEv (.op .use false)] n S = .ok (.tup [dSd (standM r (accM r (asOf s) (.op .use false)).1), .str (accM r (asOf s) (.op .use false)).2]) S := by
  rw [run_pure rfl rfl (by simp)]
  have hK : runFn (lev T (k + 2)) f__law_known [dSd s] 0 [] = _ := p_known00 s h1 h2
  cases e1 : r.numb <;>
  by_cases e2 : s.one.num < s.used <;>
  (simp [f__law_next, b__law_next, Dq.envOf, hK, run_happen, b__law_happen, dEv, hoC, wNum, e1, e2]
   generalize hA : accM r (asOf s) (.op .use false) = A
   simp [accM, asOf, h1, h2, As.put, As.u, As.m, As.r, e1, e2] at hA
   rw [p_standing00 (a := A.1)]
   case K => subst hA; exact ⟨rfl, rfl, rfl⟩
   case h1 => subst hA; rfl
   case c1 => subst hA; rfl
   case h2 => subst hA; rfl
   case c2 => subst hA; rfl
   subst hA; simp [po_tup])
theorem next00_lose0 (r : Ru) (s : Sd) (h1 : s.one.way = none) (h2 : s.two.way = none) : runFn (lev T (k + 3)) f__law_next [dRu r, dSd s, dEv (.op .lose false)] n S = .ok (.tup [dSd (standM r (accM r (asOf s) (.op .lose false)).1), .str (accM r (asOf s) (.op .lose false)).2]) S := by
  rw [run_pure rfl rfl (by simp)]
  have hK : runFn (lev T (k + 2)) f__law_known [dSd s] 0 [] = _ := p_known00 s h1 h2
  (simp [f__law_next, b__law_next, Dq.envOf, hK, run_happen, b__law_happen, dEv, hoC, wNum]
   generalize hA : accM r (asOf s) (.op .lose false) = A
   simp [accM, asOf, h1, h2, As.put, As.u, As.m, As.r] at hA
   rw [p_standing00 (a := A.1)]
   case K => subst hA; exact ⟨rfl, rfl, rfl⟩
   case h1 => subst hA; rfl
   case c1 => subst hA; rfl
   case h2 => subst hA; rfl
   case c2 => subst hA; rfl
   subst hA; simp [po_tup])
theorem next00_ask0 (r : Ru) (s : Sd) (h1 : s.one.way = none) (h2 : s.two.way = none) : runFn (lev T (k + 3)) f__law_next [dRu r, dSd s, dEv (.op .ask false)] n S = .ok (.tup [dSd (standM r (accM r (asOf s) (.op .ask false)).1), .str (accM r (asOf s) (.op .ask false)).2]) S := by
  rw [run_pure rfl rfl (by simp)]
  have hK : runFn (lev T (k + 2)) f__law_known [dSd s] 0 [] = _ := p_known00 s h1 h2
  (simp [f__law_next, b__law_next, Dq.envOf, hK, run_happen, b__law_happen, dEv, hoC, wNum]
   generalize hA : accM r (asOf s) (.op .ask false) = A
   simp [accM, asOf, h1, h2, As.put, As.u, As.m, As.r] at hA
   rw [p_standing10 (a := A.1)]
   case K => subst hA; exact ⟨rfl, rfl, rfl⟩
   case h1 => subst hA; rfl
   case c1 => subst hA; rfl
   case d1 => subst hA; rfl
   case h2 => subst hA; rfl
   case c2 => subst hA; rfl
   subst hA; simp [po_tup])
theorem next00_renew0 (r : Ru) (s : Sd) (h1 : s.one.way = none) (h2 : s.two.way = none) : runFn (lev T (k + 3)) f__law_next [dRu r, dSd s, dEv (.op .renew false)] n S = .ok (.tup [dSd (standM r (accM r (asOf s) (.op .renew false)).1), .str (accM r (asOf s) (.op .renew false)).2]) S := by
  rw [run_pure rfl rfl (by simp)]
  have hK : runFn (lev T (k + 2)) f__law_known [dSd s] 0 [] = _ := p_known00 s h1 h2
  (simp [f__law_next, b__law_next, Dq.envOf, hK, run_happen, b__law_happen, dEv, hoC, wNum]
   generalize hA : accM r (asOf s) (.op .renew false) = A
   simp [accM, asOf, h1, h2, As.put, As.u, As.m, As.r] at hA
   rw [p_standing10 (a := A.1)]
   case K => subst hA; exact ⟨rfl, rfl, rfl⟩
   case h1 => subst hA; rfl
   case c1 => subst hA; rfl
   case d1 => subst hA; rfl
   case h2 => subst hA; rfl
   case c2 => subst hA; rfl
   subst hA; simp [po_tup])
theorem next00_back0 (r : Ru) (s : Sd) (h1 : s.one.way = none) (h2 : s.two.way = none) : runFn (lev T (k + 3)) f__law_next [dRu r, dSd s, dEv (.op .back false)] n S = .ok (.tup [dSd (standM r (accM r (asOf s) (.op .back false)).1), .str (accM r (asOf s) (.op .back false)).2]) S := by
  rw [run_pure rfl rfl (by simp)]
  have hK : runFn (lev T (k + 2)) f__law_known [dSd s] 0 [] = _ := p_known00 s h1 h2
  (simp [f__law_next, b__law_next, Dq.envOf, hK, run_happen, b__law_happen, dEv, hoC, wNum]
   generalize hA : accM r (asOf s) (.op .back false) = A
   simp [accM, asOf, h1, h2, As.put, As.u, As.m, As.r] at hA
   rw [p_standing10 (a := A.1)]
   case K => subst hA; exact ⟨rfl, rfl, rfl⟩
   case h1 => subst hA; rfl
   case c1 => subst hA; rfl
   case d1 => subst hA; rfl
   case h2 => subst hA; rfl
   case c2 => subst hA; rfl
   subst hA; simp [po_tup])
theorem next00_use1 (r : Ru) (s : Sd) (h1 : s.one.way = none) (h2 : s.two.way = none) : runFn (lev T (k + 3)) f__law_next [dRu r, dSd s, dEv (.op .use true)] n S = .ok (.tup [dSd (standM r (accM r (asOf s) (.op .use true)).1), .str (accM r (asOf s) (.op .use true)).2]) S := by
  rw [run_pure rfl rfl (by simp)]
  have hK : runFn (lev T (k + 2)) f__law_known [dSd s] 0 [] = _ := p_known00 s h1 h2
  cases e1 : r.numb <;>
  by_cases e2 : s.two.num < s.used <;>
  (simp [f__law_next, b__law_next, Dq.envOf, hK, run_happen, b__law_happen, dEv, hoC, wNum, e1, e2]
   generalize hA : accM r (asOf s) (.op .use true) = A
   simp [accM, asOf, h1, h2, As.put, As.u, As.m, As.r, e1, e2] at hA
   rw [p_standing00 (a := A.1)]
   case K => subst hA; exact ⟨rfl, rfl, rfl⟩
   case h1 => subst hA; rfl
   case c1 => subst hA; rfl
   case h2 => subst hA; rfl
   case c2 => subst hA; rfl
   subst hA; simp [po_tup])
theorem next00_lose1 (r : Ru) (s : Sd) (h1 : s.one.way = none) (h2 : s.two.way = none) : runFn (lev T (k + 3)) f__law_next [dRu r, dSd s, dEv (.op .lose true)] n S = .ok (.tup [dSd (standM r (accM r (asOf s) (.op .lose true)).1), .str (accM r (asOf s) (.op .lose true)).2]) S := by
  rw [run_pure rfl rfl (by simp)]
  have hK : runFn (lev T (k + 2)) f__law_known [dSd s] 0 [] = _ := p_known00 s h1 h2
  (simp [f__law_next, b__law_next, Dq.envOf, hK, run_happen, b__law_happen, dEv, hoC, wNum]
   generalize hA : accM r (asOf s) (.op .lose true) = A
   simp [accM, asOf, h1, h2, As.put, As.u, As.m, As.r] at hA
   rw [p_standing00 (a := A.1)]
   case K => subst hA; exact ⟨rfl, rfl, rfl⟩
   case h1 => subst hA; rfl
   case c1 => subst hA; rfl
   case h2 => subst hA; rfl
   case c2 => subst hA; rfl
   subst hA; simp [po_tup])
theorem next00_ask1 (r : Ru) (s : Sd) (h1 : s.one.way = none) (h2 : s.two.way = none) : runFn (lev T (k + 3)) f__law_next [dRu r, dSd s, dEv (.op .ask true)] n S = .ok (.tup [dSd (standM r (accM r (asOf s) (.op .ask true)).1), .str (accM r (asOf s) (.op .ask true)).2]) S := by
  rw [run_pure rfl rfl (by simp)]
  have hK : runFn (lev T (k + 2)) f__law_known [dSd s] 0 [] = _ := p_known00 s h1 h2
  (simp [f__law_next, b__law_next, Dq.envOf, hK, run_happen, b__law_happen, dEv, hoC, wNum]
   generalize hA : accM r (asOf s) (.op .ask true) = A
   simp [accM, asOf, h1, h2, As.put, As.u, As.m, As.r] at hA
   rw [p_standing01 (a := A.1)]
   case K => subst hA; exact ⟨rfl, rfl, rfl⟩
   case h1 => subst hA; rfl
   case c1 => subst hA; rfl
   case h2 => subst hA; rfl
   case c2 => subst hA; rfl
   case d2 => subst hA; rfl
   subst hA; simp [po_tup])
theorem next00_renew1 (r : Ru) (s : Sd) (h1 : s.one.way = none) (h2 : s.two.way = none) : runFn (lev T (k + 3)) f__law_next [dRu r, dSd s, dEv (.op .renew true)] n S = .ok (.tup [dSd (standM r (accM r (asOf s) (.op .renew true)).1), .str (accM r (asOf s) (.op .renew true)).2]) S := by
  rw [run_pure rfl rfl (by simp)]
  have hK : runFn (lev T (k + 2)) f__law_known [dSd s] 0 [] = _ := p_known00 s h1 h2
  (simp [f__law_next, b__law_next, Dq.envOf, hK, run_happen, b__law_happen, dEv, hoC, wNum]
   generalize hA : accM r (asOf s) (.op .renew true) = A
   simp [accM, asOf, h1, h2, As.put, As.u, As.m, As.r] at hA
   rw [p_standing01 (a := A.1)]
   case K => subst hA; exact ⟨rfl, rfl, rfl⟩
   case h1 => subst hA; rfl
   case c1 => subst hA; rfl
   case h2 => subst hA; rfl
   case c2 => subst hA; rfl
   case d2 => subst hA; rfl
   subst hA; simp [po_tup])
theorem next00_back1 (r : Ru) (s : Sd) (h1 : s.one.way = none) (h2 : s.two.way = none) : runFn (lev T (k + 3)) f__law_next [dRu r, dSd s, dEv (.op .back true)] n S = .ok (.tup [dSd (standM r (accM r (asOf s) (.op .back true)).1), .str (accM r (asOf s) (.op .back true)).2]) S := by
  rw [run_pure rfl rfl (by simp)]
  have hK : runFn (lev T (k + 2)) f__law_known [dSd s] 0 [] = _ := p_known00 s h1 h2
  (simp [f__law_next, b__law_next, Dq.envOf, hK, run_happen, b__law_happen, dEv, hoC, wNum]
   generalize hA : accM r (asOf s) (.op .back true) = A
   simp [accM, asOf, h1, h2, As.put, As.u, As.m, As.r] at hA
   rw [p_standing01 (a := A.1)]
   case K => subst hA; exact ⟨rfl, rfl, rfl⟩
   case h1 => subst hA; rfl
   case c1 => subst hA; rfl
   case h2 => subst hA; rfl
   case c2 => subst hA; rfl
   case d2 => subst hA; rfl
   subst hA; simp [po_tup])
theorem next01_tick (r : Ru) (s : Sd) (h1 : s.one.way = none) {v : Way} (h2 : s.two.way = some v) : runFn (lev T (k + 3)) f__law_next [dRu r, dSd s, dEv .tick] n S = .ok (.tup [dSd (standM r (accM r (asOf s) .tick).1), .str (accM r (asOf s) .tick).2]) S := by
  rw [run_pure rfl rfl (by simp)]
  have hK : runFn (lev T (k + 2)) f__law_known [dSd s] 0 [] = _ := p_known01 s h1 h2
  (simp [f__law_next, b__law_next, Dq.envOf, hK, run_happen, b__law_happen, dEv, hoC, wNum]
   generalize hA : accM r (asOf s) .tick = A
   simp [accM, asOf, h1, h2, As.put, As.u, As.m, As.r] at hA
   rw [p_standing01 (a := A.1)]
   case K => subst hA; exact ⟨rfl, rfl, rfl⟩
   case h1 => subst hA; rfl
   case c1 => subst hA; rfl
   case h2 => subst hA; rfl
   case c2 => subst hA; rfl
   case d2 => subst hA; rfl
   subst hA; simp [po_tup])
theorem next01_fall (r : Ru) (s : Sd) (h1 : s.one.way = none) {v : Way} (h2 : s.two.way = some v) : runFn (lev T (k + 3)) f__law_next [dRu r, dSd s, dEv .fall] n S = .ok (.tup [dSd (standM r (accM r (asOf s) .fall).1), .str (accM r (asOf s) .fall).2]) S := by
  rw [run_pure rfl rfl (by simp)]
  have hK : runFn (lev T (k + 2)) f__law_known [dSd s] 0 [] = _ := p_known01 s h1 h2
  (simp [f__law_next, b__law_next, Dq.envOf, hK, run_happen, b__law_happen, dEv, hoC, wNum]
   generalize hA : accM r (asOf s) .fall = A
   simp [accM, asOf, h1, h2, As.put, As.u, As.m, As.r] at hA
   rw [p_standing01 (a := A.1)]
   case K => subst hA; exact ⟨rfl, rfl, rfl⟩
   case h1 => subst hA; rfl
   case c1 => subst hA; rfl
   case h2 => subst hA; rfl
   case c2 => subst hA; rfl
   case d2 => subst hA; rfl
   subst hA; simp [po_tup])
theorem next01_use0 (r : Ru) (s : Sd) (h1 : s.one.way = none) {v : Way} (h2 : s.two.way = some v) : runFn (lev T (k + 3)) f__law_next [dRu r, dSd s, dEv (.op .use false)] n S = .ok (.tup [dSd (standM r (accM r (asOf s) (.op .use false)).1), .str (accM r (asOf s) (.op .use false)).2]) S := by
  rw [run_pure rfl rfl (by simp)]
  have hK : runFn (lev T (k + 2)) f__law_known [dSd s] 0 [] = _ := p_known01 s h1 h2
  cases e1 : r.numb <;>
  by_cases e2 : s.one.num < s.used <;>
  (simp [f__law_next, b__law_next, Dq.envOf, hK, run_happen, b__law_happen, dEv, hoC, wNum, e1, e2]
   generalize hA : accM r (asOf s) (.op .use false) = A
   simp [accM, asOf, h1, h2, As.put, As.u, As.m, As.r, e1, e2] at hA
   rw [p_standing01 (a := A.1)]
   case K => subst hA; exact ⟨rfl, rfl, rfl⟩
   case h1 => subst hA; rfl
   case c1 => subst hA; rfl
   case h2 => subst hA; rfl
   case c2 => subst hA; rfl
   case d2 => subst hA; rfl
   subst hA; simp [po_tup])
theorem next01_lose0 (r : Ru) (s : Sd) (h1 : s.one.way = none) {v : Way} (h2 : s.two.way = some v) : runFn (lev T (k + 3)) f__law_next [dRu r, dSd s, dEv (.op .lose false)] n S = .ok (.tup [dSd (standM r (accM r (asOf s) (.op .lose false)).1), .str (accM r (asOf s) (.op .lose false)).2]) S := by
  rw [run_pure rfl rfl (by simp)]
  have hK : runFn (lev T (k + 2)) f__law_known [dSd s] 0 [] = _ := p_known01 s h1 h2
  (simp [f__law_next, b__law_next, Dq.envOf, hK, run_happen, b__law_happen, dEv, hoC, wNum]
   generalize hA : accM r (asOf s) (.op .lose false) = A
   simp [accM, asOf, h1, h2, As.put, As.u, As.m, As.r] at hA
   rw [p_standing01 (a := A.1)]
   case K => subst hA; exact ⟨rfl, rfl, rfl⟩
   case h1 => subst hA; rfl
   case c1 => subst hA; rfl
   case h2 => subst hA; rfl
   case c2 => subst hA; rfl
   case d2 => subst hA; rfl
   subst hA; simp [po_tup])
theorem next01_ask0 (r : Ru) (s : Sd) (h1 : s.one.way = none) {v : Way} (h2 : s.two.way = some v) : runFn (lev T (k + 3)) f__law_next [dRu r, dSd s, dEv (.op .ask false)] n S = .ok (.tup [dSd (standM r (accM r (asOf s) (.op .ask false)).1), .str (accM r (asOf s) (.op .ask false)).2]) S := by
  rw [run_pure rfl rfl (by simp)]
  have hK : runFn (lev T (k + 2)) f__law_known [dSd s] 0 [] = _ := p_known01 s h1 h2
  (simp [f__law_next, b__law_next, Dq.envOf, hK, run_happen, b__law_happen, dEv, hoC, wNum]
   generalize hA : accM r (asOf s) (.op .ask false) = A
   simp [accM, asOf, h1, h2, As.put, As.u, As.m, As.r] at hA
   rw [p_standing11 (a := A.1)]
   case K => subst hA; exact ⟨rfl, rfl, rfl⟩
   case h1 => subst hA; rfl
   case c1 => subst hA; rfl
   case d1 => subst hA; rfl
   case h2 => subst hA; rfl
   case c2 => subst hA; rfl
   case d2 => subst hA; rfl
   subst hA; simp [po_tup])
theorem next01_renew0 (r : Ru) (s : Sd) (h1 : s.one.way = none) {v : Way} (h2 : s.two.way = some v) : runFn (lev T (k + 3)) f__law_next [dRu r, dSd s, dEv (.op .renew false)] n S = .ok (.tup [dSd (standM r (accM r (asOf s) (.op .renew false)).1), .str (accM r (asOf s) (.op .renew false)).2]) S := by
  rw [run_pure rfl rfl (by simp)]
  have hK : runFn (lev T (k + 2)) f__law_known [dSd s] 0 [] = _ := p_known01 s h1 h2
  (simp [f__law_next, b__law_next, Dq.envOf, hK, run_happen, b__law_happen, dEv, hoC, wNum]
   generalize hA : accM r (asOf s) (.op .renew false) = A
   simp [accM, asOf, h1, h2, As.put, As.u, As.m, As.r] at hA
   rw [p_standing11 (a := A.1)]
   case K => subst hA; exact ⟨rfl, rfl, rfl⟩
   case h1 => subst hA; rfl
   case c1 => subst hA; rfl
   case d1 => subst hA; rfl
   case h2 => subst hA; rfl
   case c2 => subst hA; rfl
   case d2 => subst hA; rfl
   subst hA; simp [po_tup])
theorem next01_back0 (r : Ru) (s : Sd) (h1 : s.one.way = none) {v : Way} (h2 : s.two.way = some v) : runFn (lev T (k + 3)) f__law_next [dRu r, dSd s, dEv (.op .back false)] n S = .ok (.tup [dSd (standM r (accM r (asOf s) (.op .back false)).1), .str (accM r (asOf s) (.op .back false)).2]) S := by
  rw [run_pure rfl rfl (by simp)]
  have hK : runFn (lev T (k + 2)) f__law_known [dSd s] 0 [] = _ := p_known01 s h1 h2
  (simp [f__law_next, b__law_next, Dq.envOf, hK, run_happen, b__law_happen, dEv, hoC, wNum]
   generalize hA : accM r (asOf s) (.op .back false) = A
   simp [accM, asOf, h1, h2, As.put, As.u, As.m, As.r] at hA
   rw [p_standing11 (a := A.1)]
   case K => subst hA; exact ⟨rfl, rfl, rfl⟩
   case h1 => subst hA; rfl
   case c1 => subst hA; rfl
   case d1 => subst hA; rfl
   case h2 => subst hA; rfl
   case c2 => subst hA; rfl
   case d2 => subst hA; rfl
   subst hA; simp [po_tup])
theorem next01_use1 (r : Ru) (s : Sd) (h1 : s.one.way = none) {v : Way} (h2 : s.two.way = some v) : runFn (lev T (k + 3)) f__law_next [dRu r, dSd s, dEv (.op .use true)] n S = .ok (.tup [dSd (standM r (accM r (asOf s) (.op .use true)).1), .str (accM r (asOf s) (.op .use true)).2]) S := by
  rw [run_pure rfl rfl (by simp)]
  have hK : runFn (lev T (k + 2)) f__law_known [dSd s] 0 [] = _ := p_known01 s h1 h2
  cases e1 : r.numb <;>
  by_cases e2 : s.two.num < s.used <;>
  (simp [f__law_next, b__law_next, Dq.envOf, hK, run_happen, b__law_happen, dEv, hoC, wNum, e1, e2]
   generalize hA : accM r (asOf s) (.op .use true) = A
   simp [accM, asOf, h1, h2, As.put, As.u, As.m, As.r, e1, e2] at hA
   rw [p_standing01 (a := A.1)]
   case K => subst hA; exact ⟨rfl, rfl, rfl⟩
   case h1 => subst hA; rfl
   case c1 => subst hA; rfl
   case h2 => subst hA; rfl
   case c2 => subst hA; rfl
   case d2 => subst hA; rfl
   subst hA; simp [po_tup])
theorem next01_lose1 (r : Ru) (s : Sd) (h1 : s.one.way = none) {v : Way} (h2 : s.two.way = some v) : runFn (lev T (k + 3)) f__law_next [dRu r, dSd s, dEv (.op .lose true)] n S = .ok (.tup [dSd (standM r (accM r (asOf s) (.op .lose true)).1), .str (accM r (asOf s) (.op .lose true)).2]) S := by
  rw [run_pure rfl rfl (by simp)]
  have hK : runFn (lev T (k + 2)) f__law_known [dSd s] 0 [] = _ := p_known01 s h1 h2
  (simp [f__law_next, b__law_next, Dq.envOf, hK, run_happen, b__law_happen, dEv, hoC, wNum]
   generalize hA : accM r (asOf s) (.op .lose true) = A
   simp [accM, asOf, h1, h2, As.put, As.u, As.m, As.r] at hA
   rw [p_standing00 (a := A.1)]
   case K => subst hA; exact ⟨rfl, rfl, rfl⟩
   case h1 => subst hA; rfl
   case c1 => subst hA; rfl
   case h2 => subst hA; rfl
   case c2 => subst hA; rfl
   subst hA; simp [po_tup])
theorem next01_ask1 (r : Ru) (s : Sd) (h1 : s.one.way = none) {v : Way} (h2 : s.two.way = some v) : runFn (lev T (k + 3)) f__law_next [dRu r, dSd s, dEv (.op .ask true)] n S = .ok (.tup [dSd (standM r (accM r (asOf s) (.op .ask true)).1), .str (accM r (asOf s) (.op .ask true)).2]) S := by
  rw [run_pure rfl rfl (by simp)]
  have hK : runFn (lev T (k + 2)) f__law_known [dSd s] 0 [] = _ := p_known01 s h1 h2
  (simp [f__law_next, b__law_next, Dq.envOf, hK, run_happen, b__law_happen, dEv, hoC, wNum]
   generalize hA : accM r (asOf s) (.op .ask true) = A
   simp [accM, asOf, h1, h2, As.put, As.u, As.m, As.r] at hA
   rw [p_standing01 (a := A.1)]
   case K => subst hA; exact ⟨rfl, rfl, rfl⟩
   case h1 => subst hA; rfl
   case c1 => subst hA; rfl
   case h2 => subst hA; rfl
   case c2 => subst hA; rfl
   case d2 => subst hA; rfl
   subst hA; simp [po_tup])
theorem next01_renew1 (r : Ru) (s : Sd) (h1 : s.one.way = none) {v : Way} (h2 : s.two.way = some v) : runFn (lev T (k + 3)) f__law_next [dRu r, dSd s, dEv (.op .renew true)] n S = .ok (.tup [dSd (standM r (accM r (asOf s) (.op .renew true)).1), .str (accM r (asOf s) (.op .renew true)).2]) S := by
  rw [run_pure rfl rfl (by simp)]
  have hK : runFn (lev T (k + 2)) f__law_known [dSd s] 0 [] = _ := p_known01 s h1 h2
  (simp [f__law_next, b__law_next, Dq.envOf, hK, run_happen, b__law_happen, dEv, hoC, wNum]
   generalize hA : accM r (asOf s) (.op .renew true) = A
   simp [accM, asOf, h1, h2, As.put, As.u, As.m, As.r] at hA
   rw [p_standing01 (a := A.1)]
   case K => subst hA; exact ⟨rfl, rfl, rfl⟩
   case h1 => subst hA; rfl
   case c1 => subst hA; rfl
   case h2 => subst hA; rfl
   case c2 => subst hA; rfl
   case d2 => subst hA; rfl
   subst hA; simp [po_tup])
theorem next01_back1 (r : Ru) (s : Sd) (h1 : s.one.way = none) {v : Way} (h2 : s.two.way = some v) : runFn (lev T (k + 3)) f__law_next [dRu r, dSd s, dEv (.op .back true)] n S = .ok (.tup [dSd (standM r (accM r (asOf s) (.op .back true)).1), .str (accM r (asOf s) (.op .back true)).2]) S := by
  rw [run_pure rfl rfl (by simp)]
  have hK : runFn (lev T (k + 2)) f__law_known [dSd s] 0 [] = _ := p_known01 s h1 h2
  (simp [f__law_next, b__law_next, Dq.envOf, hK, run_happen, b__law_happen, dEv, hoC, wNum]
   generalize hA : accM r (asOf s) (.op .back true) = A
   simp [accM, asOf, h1, h2, As.put, As.u, As.m, As.r] at hA
   rw [p_standing01 (a := A.1)]
   case K => subst hA; exact ⟨rfl, rfl, rfl⟩
   case h1 => subst hA; rfl
   case c1 => subst hA; rfl
   case h2 => subst hA; rfl
   case c2 => subst hA; rfl
   case d2 => subst hA; rfl
   subst hA; simp [po_tup])
theorem next10_tick (r : Ru) (s : Sd) {w : Way} (h1 : s.one.way = some w) (h2 : s.two.way = none) : runFn (lev T (k + 3)) f__law_next [dRu r, dSd s, dEv .tick] n S = .ok (.tup [dSd (standM r (accM r (asOf s) .tick).1), .str (accM r (asOf s) .tick).2]) S := by
  rw [run_pure rfl rfl (by simp)]
  have hK : runFn (lev T (k + 2)) f__law_known [dSd s] 0 [] = _ := p_known10 s h1 h2
  (simp [f__law_next, b__law_next, Dq.envOf, hK, run_happen, b__law_happen, dEv, hoC, wNum]
   generalize hA : accM r (asOf s) .tick = A
   simp [accM, asOf, h1, h2, As.put, As.u, As.m, As.r] at hA
   rw [p_standing10 (a := A.1)]
   case K => subst hA; exact ⟨rfl, rfl, rfl⟩
   case h1 => subst hA; rfl
   case c1 => subst hA; rfl
   case d1 => subst hA; rfl
   case h2 => subst hA; rfl
   case c2 => subst hA; rfl
   subst hA; simp [po_tup])
theorem next10_fall (r : Ru) (s : Sd) {w : Way} (h1 : s.one.way = some w) (h2 : s.two.way = none) : runFn (lev T (k + 3)) f__law_next [dRu r, dSd s, dEv .fall] n S = .ok (.tup [dSd (standM r (accM r (asOf s) .fall).1), .str (accM r (asOf s) .fall).2]) S := by
  rw [run_pure rfl rfl (by simp)]
  have hK : runFn (lev T (k + 2)) f__law_known [dSd s] 0 [] = _ := p_known10 s h1 h2
  (simp [f__law_next, b__law_next, Dq.envOf, hK, run_happen, b__law_happen, dEv, hoC, wNum]
   generalize hA : accM r (asOf s) .fall = A
   simp [accM, asOf, h1, h2, As.put, As.u, As.m, As.r] at hA
   rw [p_standing10 (a := A.1)]
   case K => subst hA; exact ⟨rfl, rfl, rfl⟩
   case h1 => subst hA; rfl
   case c1 => subst hA; rfl
   case d1 => subst hA; rfl
   case h2 => subst hA; rfl
   case c2 => subst hA; rfl
   subst hA; simp [po_tup])
theorem next10_use0 (r : Ru) (s : Sd) {w : Way} (h1 : s.one.way = some w) (h2 : s.two.way = none) : runFn (lev T (k + 3)) f__law_next [dRu r, dSd s, dEv (.op .use false)] n S = .ok (.tup [dSd (standM r (accM r (asOf s) (.op .use false)).1), .str (accM r (asOf s) (.op .use false)).2]) S := by
  rw [run_pure rfl rfl (by simp)]
  have hK : runFn (lev T (k + 2)) f__law_known [dSd s] 0 [] = _ := p_known10 s h1 h2
  cases e1 : r.numb <;>
  by_cases e2 : s.one.num < s.used <;>
  (simp [f__law_next, b__law_next, Dq.envOf, hK, run_happen, b__law_happen, dEv, hoC, wNum, e1, e2]
   generalize hA : accM r (asOf s) (.op .use false) = A
   simp [accM, asOf, h1, h2, As.put, As.u, As.m, As.r, e1, e2] at hA
   rw [p_standing10 (a := A.1)]
   case K => subst hA; exact ⟨rfl, rfl, rfl⟩
   case h1 => subst hA; rfl
   case c1 => subst hA; rfl
   case d1 => subst hA; rfl
   case h2 => subst hA; rfl
   case c2 => subst hA; rfl
   subst hA; simp [po_tup])
theorem next10_lose0 (r : Ru) (s : Sd) {w : Way} (h1 : s.one.way = some w) (h2 : s.two.way = none) : runFn (lev T (k + 3)) f__law_next [dRu r, dSd s, dEv (.op .lose false)] n S = .ok (.tup [dSd (standM r (accM r (asOf s) (.op .lose false)).1), .str (accM r (asOf s) (.op .lose false)).2]) S := by
  rw [run_pure rfl rfl (by simp)]
  have hK : runFn (lev T (k + 2)) f__law_known [dSd s] 0 [] = _ := p_known10 s h1 h2
  (simp [f__law_next, b__law_next, Dq.envOf, hK, run_happen, b__law_happen, dEv, hoC, wNum]
   generalize hA : accM r (asOf s) (.op .lose false) = A
   simp [accM, asOf, h1, h2, As.put, As.u, As.m, As.r] at hA
   rw [p_standing00 (a := A.1)]
   case K => subst hA; exact ⟨rfl, rfl, rfl⟩
   case h1 => subst hA; rfl
   case c1 => subst hA; rfl
   case h2 => subst hA; rfl
   case c2 => subst hA; rfl
   subst hA; simp [po_tup])
theorem next10_ask0 (r : Ru) (s : Sd) {w : Way} (h1 : s.one.way = some w) (h2 : s.two.way = none) : runFn (lev T (k + 3)) f__law_next [dRu r, dSd s, dEv (.op .ask false)] n S = .ok (.tup [dSd (standM r (accM r (asOf s) (.op .ask false)).1), .str (accM r (asOf s) (.op .ask false)).2]) S := by
  rw [run_pure rfl rfl (by simp)]
  have hK : runFn (lev T (k + 2)) f__law_known [dSd s] 0 [] = _ := p_known10 s h1 h2
  (simp [f__law_next, b__law_next, Dq.envOf, hK, run_happen, b__law_happen, dEv, hoC, wNum]
   generalize hA : accM r (asOf s) (.op .ask false) = A
   simp [accM, asOf, h1, h2, As.put, As.u, As.m, As.r] at hA
   rw [p_standing10 (a := A.1)]
   case K => subst hA; exact ⟨rfl, rfl, rfl⟩
   case h1 => subst hA; rfl
   case c1 => subst hA; rfl
   case d1 => subst hA; rfl
   case h2 => subst hA; rfl
   case c2 => subst hA; rfl
   subst hA; simp [po_tup])
theorem next10_renew0 (r : Ru) (s : Sd) {w : Way} (h1 : s.one.way = some w) (h2 : s.two.way = none) : runFn (lev T (k + 3)) f__law_next [dRu r, dSd s, dEv (.op .renew false)] n S = .ok (.tup [dSd (standM r (accM r (asOf s) (.op .renew false)).1), .str (accM r (asOf s) (.op .renew false)).2]) S := by
  rw [run_pure rfl rfl (by simp)]
  have hK : runFn (lev T (k + 2)) f__law_known [dSd s] 0 [] = _ := p_known10 s h1 h2
  (simp [f__law_next, b__law_next, Dq.envOf, hK, run_happen, b__law_happen, dEv, hoC, wNum]
   generalize hA : accM r (asOf s) (.op .renew false) = A
   simp [accM, asOf, h1, h2, As.put, As.u, As.m, As.r] at hA
   rw [p_standing10 (a := A.1)]
   case K => subst hA; exact ⟨rfl, rfl, rfl⟩
   case h1 => subst hA; rfl
   case c1 => subst hA; rfl
   case d1 => subst hA; rfl
   case h2 => subst hA; rfl
   case c2 => subst hA; rfl
   subst hA; simp [po_tup])
theorem next10_back0 (r : Ru) (s : Sd) {w : Way} (h1 : s.one.way = some w) (h2 : s.two.way = none) : runFn (lev T (k + 3)) f__law_next [dRu r, dSd s, dEv (.op .back false)] n S = .ok (.tup [dSd (standM r (accM r (asOf s) (.op .back false)).1), .str (accM r (asOf s) (.op .back false)).2]) S := by
  rw [run_pure rfl rfl (by simp)]
  have hK : runFn (lev T (k + 2)) f__law_known [dSd s] 0 [] = _ := p_known10 s h1 h2
  (simp [f__law_next, b__law_next, Dq.envOf, hK, run_happen, b__law_happen, dEv, hoC, wNum]
   generalize hA : accM r (asOf s) (.op .back false) = A
   simp [accM, asOf, h1, h2, As.put, As.u, As.m, As.r] at hA
   rw [p_standing10 (a := A.1)]
   case K => subst hA; exact ⟨rfl, rfl, rfl⟩
   case h1 => subst hA; rfl
   case c1 => subst hA; rfl
   case d1 => subst hA; rfl
   case h2 => subst hA; rfl
   case c2 => subst hA; rfl
   subst hA; simp [po_tup])
theorem next10_use1 (r : Ru) (s : Sd) {w : Way} (h1 : s.one.way = some w) (h2 : s.two.way = none) : runFn (lev T (k + 3)) f__law_next [dRu r, dSd s, dEv (.op .use true)] n S = .ok (.tup [dSd (standM r (accM r (asOf s) (.op .use true)).1), .str (accM r (asOf s) (.op .use true)).2]) S := by
  rw [run_pure rfl rfl (by simp)]
  have hK : runFn (lev T (k + 2)) f__law_known [dSd s] 0 [] = _ := p_known10 s h1 h2
  cases e1 : r.numb <;>
  by_cases e2 : s.two.num < s.used <;>
  (simp [f__law_next, b__law_next, Dq.envOf, hK, run_happen, b__law_happen, dEv, hoC, wNum, e1, e2]
   generalize hA : accM r (asOf s) (.op .use true) = A
   simp [accM, asOf, h1, h2, As.put, As.u, As.m, As.r, e1, e2] at hA
   rw [p_standing10 (a := A.1)]
   case K => subst hA; exact ⟨rfl, rfl, rfl⟩
   case h1 => subst hA; rfl
   case c1 => subst hA; rfl
   case d1 => subst hA; rfl
   case h2 => subst hA; rfl
   case c2 => subst hA; rfl
   subst hA; simp [po_tup])
theorem next10_lose1 (r : Ru) (s : Sd) {w : Way} (h1 : s.one.way = some w) (h2 : s.two.way = none) : runFn (lev T (k + 3)) f__law_next [dRu r, dSd s, dEv (.op .lose true)] n S = .ok (.tup [dSd (standM r (accM r (asOf s) (.op .lose true)).1), .str (accM r (asOf s) (.op .lose true)).2]) S := by
  rw [run_pure rfl rfl (by simp)]
  have hK : runFn (lev T (k + 2)) f__law_known [dSd s] 0 [] = _ := p_known10 s h1 h2
  (simp [f__law_next, b__law_next, Dq.envOf, hK, run_happen, b__law_happen, dEv, hoC, wNum]
   generalize hA : accM r (asOf s) (.op .lose true) = A
   simp [accM, asOf, h1, h2, As.put, As.u, As.m, As.r] at hA
   rw [p_standing10 (a := A.1)]
   case K => subst hA; exact ⟨rfl, rfl, rfl⟩
   case h1 => subst hA; rfl
   case c1 => subst hA; rfl
   case d1 => subst hA; rfl
   case h2 => subst hA; rfl
   case c2 => subst hA; rfl
   subst hA; simp [po_tup])
theorem next10_ask1 (r : Ru) (s : Sd) {w : Way} (h1 : s.one.way = some w) (h2 : s.two.way = none) : runFn (lev T (k + 3)) f__law_next [dRu r, dSd s, dEv (.op .ask true)] n S = .ok (.tup [dSd (standM r (accM r (asOf s) (.op .ask true)).1), .str (accM r (asOf s) (.op .ask true)).2]) S := by
  rw [run_pure rfl rfl (by simp)]
  have hK : runFn (lev T (k + 2)) f__law_known [dSd s] 0 [] = _ := p_known10 s h1 h2
  (simp [f__law_next, b__law_next, Dq.envOf, hK, run_happen, b__law_happen, dEv, hoC, wNum]
   generalize hA : accM r (asOf s) (.op .ask true) = A
   simp [accM, asOf, h1, h2, As.put, As.u, As.m, As.r] at hA
   rw [p_standing11 (a := A.1)]
   case K => subst hA; exact ⟨rfl, rfl, rfl⟩
   case h1 => subst hA; rfl
   case c1 => subst hA; rfl
   case d1 => subst hA; rfl
   case h2 => subst hA; rfl
   case c2 => subst hA; rfl
   case d2 => subst hA; rfl
   subst hA; simp [po_tup])
theorem next10_renew1 (r : Ru) (s : Sd) {w : Way} (h1 : s.one.way = some w) (h2 : s.two.way = none) : runFn (lev T (k + 3)) f__law_next [dRu r, dSd s, dEv (.op .renew true)] n S = .ok (.tup [dSd (standM r (accM r (asOf s) (.op .renew true)).1), .str (accM r (asOf s) (.op .renew true)).2]) S := by
  rw [run_pure rfl rfl (by simp)]
  have hK : runFn (lev T (k + 2)) f__law_known [dSd s] 0 [] = _ := p_known10 s h1 h2
  (simp [f__law_next, b__law_next, Dq.envOf, hK, run_happen, b__law_happen, dEv, hoC, wNum]
   generalize hA : accM r (asOf s) (.op .renew true) = A
   simp [accM, asOf, h1, h2, As.put, As.u, As.m, As.r] at hA
   rw [p_standing11 (a := A.1)]
   case K => subst hA; exact ⟨rfl, rfl, rfl⟩
   case h1 => subst hA; rfl
   case c1 => subst hA; rfl
   case d1 => subst hA; rfl
   case h2 => subst hA; rfl
   case c2 => subst hA; rfl
   case d2 => subst hA; rfl
   subst hA; simp [po_tup])
theorem next10_back1 (r : Ru) (s : Sd) {w : Way} (h1 : s.one.way = some w) (h2 : s.two.way = none) : runFn (lev T (k + 3)) f__law_next [dRu r, dSd s, dEv (.op .back true)] n S = .ok (.tup [dSd (standM r (accM r (asOf s) (.op .back true)).1), .str (accM r (asOf s) (.op .back true)).2]) S := by
  rw [run_pure rfl rfl (by simp)]
  have hK : runFn (lev T (k + 2)) f__law_known [dSd s] 0 [] = _ := p_known10 s h1 h2
  (simp [f__law_next, b__law_next, Dq.envOf, hK, run_happen, b__law_happen, dEv, hoC, wNum]
   generalize hA : accM r (asOf s) (.op .back true) = A
   simp [accM, asOf, h1, h2, As.put, As.u, As.m, As.r] at hA
   rw [p_standing11 (a := A.1)]
   case K => subst hA; exact ⟨rfl, rfl, rfl⟩
   case h1 => subst hA; rfl
   case c1 => subst hA; rfl
   case d1 => subst hA; rfl
   case h2 => subst hA; rfl
   case c2 => subst hA; rfl
   case d2 => subst hA; rfl
   subst hA; simp [po_tup])
theorem next11_tick (r : Ru) (s : Sd) {w : Way} (h1 : s.one.way = some w) {v : Way} (h2 : s.two.way = some v) : runFn (lev T (k + 3)) f__law_next [dRu r, dSd s, dEv .tick] n S = .ok (.tup [dSd (standM r (accM r (asOf s) .tick).1), .str (accM r (asOf s) .tick).2]) S := by
  rw [run_pure rfl rfl (by simp)]
  have hK : runFn (lev T (k + 2)) f__law_known [dSd s] 0 [] = _ := p_known11 s h1 h2
  (simp [f__law_next, b__law_next, Dq.envOf, hK, run_happen, b__law_happen, dEv, hoC, wNum]
   generalize hA : accM r (asOf s) .tick = A
   simp [accM, asOf, h1, h2, As.put, As.u, As.m, As.r] at hA
   rw [p_standing11 (a := A.1)]
   case K => subst hA; exact ⟨rfl, rfl, rfl⟩
   case h1 => subst hA; rfl
   case c1 => subst hA; rfl
   case d1 => subst hA; rfl
   case h2 => subst hA; rfl
   case c2 => subst hA; rfl
   case d2 => subst hA; rfl
   subst hA; simp [po_tup])
theorem next11_fall (r : Ru) (s : Sd) {w : Way} (h1 : s.one.way = some w) {v : Way} (h2 : s.two.way = some v) : runFn (lev T (k + 3)) f__law_next [dRu r, dSd s, dEv .fall] n S = .ok (.tup [dSd (standM r (accM r (asOf s) .fall).1), .str (accM r (asOf s) .fall).2]) S := by
  rw [run_pure rfl rfl (by simp)]
  have hK : runFn (lev T (k + 2)) f__law_known [dSd s] 0 [] = _ := p_known11 s h1 h2
  (simp [f__law_next, b__law_next, Dq.envOf, hK, run_happen, b__law_happen, dEv, hoC, wNum]
   generalize hA : accM r (asOf s) .fall = A
   simp [accM, asOf, h1, h2, As.put, As.u, As.m, As.r] at hA
   rw [p_standing11 (a := A.1)]
   case K => subst hA; exact ⟨rfl, rfl, rfl⟩
   case h1 => subst hA; rfl
   case c1 => subst hA; rfl
   case d1 => subst hA; rfl
   case h2 => subst hA; rfl
   case c2 => subst hA; rfl
   case d2 => subst hA; rfl
   subst hA; simp [po_tup])
theorem next11_use0 (r : Ru) (s : Sd) {w : Way} (h1 : s.one.way = some w) {v : Way} (h2 : s.two.way = some v) : runFn (lev T (k + 3)) f__law_next [dRu r, dSd s, dEv (.op .use false)] n S = .ok (.tup [dSd (standM r (accM r (asOf s) (.op .use false)).1), .str (accM r (asOf s) (.op .use false)).2]) S := by
  rw [run_pure rfl rfl (by simp)]
  have hK : runFn (lev T (k + 2)) f__law_known [dSd s] 0 [] = _ := p_known11 s h1 h2
  cases e1 : r.numb <;>
  by_cases e2 : s.one.num < s.used <;>
  (simp [f__law_next, b__law_next, Dq.envOf, hK, run_happen, b__law_happen, dEv, hoC, wNum, e1, e2]
   generalize hA : accM r (asOf s) (.op .use false) = A
   simp [accM, asOf, h1, h2, As.put, As.u, As.m, As.r, e1, e2] at hA
   rw [p_standing11 (a := A.1)]
   case K => subst hA; exact ⟨rfl, rfl, rfl⟩
   case h1 => subst hA; rfl
   case c1 => subst hA; rfl
   case d1 => subst hA; rfl
   case h2 => subst hA; rfl
   case c2 => subst hA; rfl
   case d2 => subst hA; rfl
   subst hA; simp [po_tup])
theorem next11_lose0 (r : Ru) (s : Sd) {w : Way} (h1 : s.one.way = some w) {v : Way} (h2 : s.two.way = some v) : runFn (lev T (k + 3)) f__law_next [dRu r, dSd s, dEv (.op .lose false)] n S = .ok (.tup [dSd (standM r (accM r (asOf s) (.op .lose false)).1), .str (accM r (asOf s) (.op .lose false)).2]) S := by
  rw [run_pure rfl rfl (by simp)]
  have hK : runFn (lev T (k + 2)) f__law_known [dSd s] 0 [] = _ := p_known11 s h1 h2
  (simp [f__law_next, b__law_next, Dq.envOf, hK, run_happen, b__law_happen, dEv, hoC, wNum]
   generalize hA : accM r (asOf s) (.op .lose false) = A
   simp [accM, asOf, h1, h2, As.put, As.u, As.m, As.r] at hA
   rw [p_standing01 (a := A.1)]
   case K => subst hA; exact ⟨rfl, rfl, rfl⟩
   case h1 => subst hA; rfl
   case c1 => subst hA; rfl
   case h2 => subst hA; rfl
   case c2 => subst hA; rfl
   case d2 => subst hA; rfl
   subst hA; simp [po_tup])
theorem next11_ask0 (r : Ru) (s : Sd) {w : Way} (h1 : s.one.way = some w) {v : Way} (h2 : s.two.way = some v) : runFn (lev T (k + 3)) f__law_next [dRu r, dSd s, dEv (.op .ask false)] n S = .ok (.tup [dSd (standM r (accM r (asOf s) (.op .ask false)).1), .str (accM r (asOf s) (.op .ask false)).2]) S := by
  rw [run_pure rfl rfl (by simp)]
  have hK : runFn (lev T (k + 2)) f__law_known [dSd s] 0 [] = _ := p_known11 s h1 h2
  (simp [f__law_next, b__law_next, Dq.envOf, hK, run_happen, b__law_happen, dEv, hoC, wNum]
   generalize hA : accM r (asOf s) (.op .ask false) = A
   simp [accM, asOf, h1, h2, As.put, As.u, As.m, As.r] at hA
   rw [p_standing11 (a := A.1)]
   case K => subst hA; exact ⟨rfl, rfl, rfl⟩
   case h1 => subst hA; rfl
   case c1 => subst hA; rfl
   case d1 => subst hA; rfl
   case h2 => subst hA; rfl
   case c2 => subst hA; rfl
   case d2 => subst hA; rfl
   subst hA; simp [po_tup])
theorem next11_renew0 (r : Ru) (s : Sd) {w : Way} (h1 : s.one.way = some w) {v : Way} (h2 : s.two.way = some v) : runFn (lev T (k + 3)) f__law_next [dRu r, dSd s, dEv (.op .renew false)] n S = .ok (.tup [dSd (standM r (accM r (asOf s) (.op .renew false)).1), .str (accM r (asOf s) (.op .renew false)).2]) S := by
  rw [run_pure rfl rfl (by simp)]
  have hK : runFn (lev T (k + 2)) f__law_known [dSd s] 0 [] = _ := p_known11 s h1 h2
  (simp [f__law_next, b__law_next, Dq.envOf, hK, run_happen, b__law_happen, dEv, hoC, wNum]
   generalize hA : accM r (asOf s) (.op .renew false) = A
   simp [accM, asOf, h1, h2, As.put, As.u, As.m, As.r] at hA
   rw [p_standing11 (a := A.1)]
   case K => subst hA; exact ⟨rfl, rfl, rfl⟩
   case h1 => subst hA; rfl
   case c1 => subst hA; rfl
   case d1 => subst hA; rfl
   case h2 => subst hA; rfl
   case c2 => subst hA; rfl
   case d2 => subst hA; rfl
   subst hA; simp [po_tup])
theorem next11_back0 (r : Ru) (s : Sd) {w : Way} (h1 : s.one.way = some w) {v : Way} (h2 : s.two.way = some v) : runFn (lev T (k + 3)) f__law_next [dRu r, dSd s, dEv (.op .back false)] n S = .ok (.tup [dSd (standM r (accM r (asOf s) (.op .back false)).1), .str (accM r (asOf s) (.op .back false)).2]) S := by
  rw [run_pure rfl rfl (by simp)]
  have hK : runFn (lev T (k + 2)) f__law_known [dSd s] 0 [] = _ := p_known11 s h1 h2
  (simp [f__law_next, b__law_next, Dq.envOf, hK, run_happen, b__law_happen, dEv, hoC, wNum]
   generalize hA : accM r (asOf s) (.op .back false) = A
   simp [accM, asOf, h1, h2, As.put, As.u, As.m, As.r] at hA
   rw [p_standing11 (a := A.1)]
   case K => subst hA; exact ⟨rfl, rfl, rfl⟩
   case h1 => subst hA; rfl
   case c1 => subst hA; rfl
   case d1 => subst hA; rfl
   case h2 => subst hA; rfl
   case c2 => subst hA; rfl
   case d2 => subst hA; rfl
   subst hA; simp [po_tup])
theorem next11_use1 (r : Ru) (s : Sd) {w : Way} (h1 : s.one.way = some w) {v : Way} (h2 : s.two.way = some v) : runFn (lev T (k + 3)) f__law_next [dRu r, dSd s, dEv (.op .use true)] n S = .ok (.tup [dSd (standM r (accM r (asOf s) (.op .use true)).1), .str (accM r (asOf s) (.op .use true)).2]) S := by
  rw [run_pure rfl rfl (by simp)]
  have hK : runFn (lev T (k + 2)) f__law_known [dSd s] 0 [] = _ := p_known11 s h1 h2
  cases e1 : r.numb <;>
  by_cases e2 : s.two.num < s.used <;>
  (simp [f__law_next, b__law_next, Dq.envOf, hK, run_happen, b__law_happen, dEv, hoC, wNum, e1, e2]
   generalize hA : accM r (asOf s) (.op .use true) = A
   simp [accM, asOf, h1, h2, As.put, As.u, As.m, As.r, e1, e2] at hA
   rw [p_standing11 (a := A.1)]
   case K => subst hA; exact ⟨rfl, rfl, rfl⟩
   case h1 => subst hA; rfl
   case c1 => subst hA; rfl
   case d1 => subst hA; rfl
   case h2 => subst hA; rfl
   case c2 => subst hA; rfl
   case d2 => subst hA; rfl
   subst hA; simp [po_tup])
theorem next11_lose1 (r : Ru) (s : Sd) {w : Way} (h1 : s.one.way = some w) {v : Way} (h2 : s.two.way = some v) : runFn (lev T (k + 3)) f__law_next [dRu r, dSd s, dEv (.op .lose true)] n S = .ok (.tup [dSd (standM r (accM r (asOf s) (.op .lose true)).1), .str (accM r (asOf s) (.op .lose true)).2]) S := by
  rw [run_pure rfl rfl (by simp)]
  have hK : runFn (lev T (k + 2)) f__law_known [dSd s] 0 [] = _ := p_known11 s h1 h2
  (simp [f__law_next, b__law_next, Dq.envOf, hK, run_happen, b__law_happen, dEv, hoC, wNum]
   generalize hA : accM r (asOf s) (.op .lose true) = A
   simp [accM, asOf, h1, h2, As.put, As.u, As.m, As.r] at hA
   rw [p_standing10 (a := A.1)]
   case K => subst hA; exact ⟨rfl, rfl, rfl⟩
   case h1 => subst hA; rfl
   case c1 => subst hA; rfl
   case d1 => subst hA; rfl
   case h2 => subst hA; rfl
   case c2 => subst hA; rfl
   subst hA; simp [po_tup])
theorem next11_ask1 (r : Ru) (s : Sd) {w : Way} (h1 : s.one.way = some w) {v : Way} (h2 : s.two.way = some v) : runFn (lev T (k + 3)) f__law_next [dRu r, dSd s, dEv (.op .ask true)] n S = .ok (.tup [dSd (standM r (accM r (asOf s) (.op .ask true)).1), .str (accM r (asOf s) (.op .ask true)).2]) S := by
  rw [run_pure rfl rfl (by simp)]
  have hK : runFn (lev T (k + 2)) f__law_known [dSd s] 0 [] = _ := p_known11 s h1 h2
  (simp [f__law_next, b__law_next, Dq.envOf, hK, run_happen, b__law_happen, dEv, hoC, wNum]
   generalize hA : accM r (asOf s) (.op .ask true) = A
   simp [accM, asOf, h1, h2, As.put, As.u, As.m, As.r] at hA
   rw [p_standing11 (a := A.1)]
   case K => subst hA; exact ⟨rfl, rfl, rfl⟩
   case h1 => subst hA; rfl
   case c1 => subst hA; rfl
   case d1 => subst hA; rfl
   case h2 => subst hA; rfl
   case c2 => subst hA; rfl
   case d2 => subst hA; rfl
   subst hA; simp [po_tup])
theorem next11_renew1 (r : Ru) (s : Sd) {w : Way} (h1 : s.one.way = some w) {v : Way} (h2 : s.two.way = some v) : runFn (lev T (k + 3)) f__law_next [dRu r, dSd s, dEv (.op .renew true)] n S = .ok (.tup [dSd (standM r (accM r (asOf s) (.op .renew true)).1), .str (accM r (asOf s) (.op .renew true)).2]) S := by
  rw [run_pure rfl rfl (by simp)]
  have hK : runFn (lev T (k + 2)) f__law_known [dSd s] 0 [] = _ := p_known11 s h1 h2
  (simp [f__law_next, b__law_next, Dq.envOf, hK, run_happen, b__law_happen, dEv, hoC, wNum]
   generalize hA : accM r (asOf s) (.op .renew true) = A
   simp [accM, asOf, h1, h2, As.put, As.u, As.m, As.r] at hA
   rw [p_standing11 (a := A.1)]
   case K => subst hA; exact ⟨rfl, rfl, rfl⟩
   case h1 => subst hA; rfl
   case c1 => subst hA; rfl
   case d1 => subst hA; rfl
   case h2 => subst hA; rfl
   case c2 => subst hA; rfl
   case d2 => subst hA; rfl
   subst hA; simp [po_tup])
theorem next11_back1 (r : Ru) (s : Sd) {w : Way} (h1 : s.one.way = some w) {v : Way} (h2 : s.two.way = some v) : runFn (lev T (k + 3)) f__law_next [dRu r, dSd s, dEv (.op .back true)] n S = .ok (.tup [dSd (standM r (accM r (asOf s) (.op .back true)).1), .str (accM r (asOf s) (.op .back true)).2]) S := by
  rw [run_pure rfl rfl (by simp)]
  have hK : runFn (lev T (k + 2)) f__law_known [dSd s] 0 [] = _ := p_known11 s h1 h2
  (simp [f__law_next, b__law_next, Dq.envOf, hK, run_happen, b__law_happen, dEv, hoC, wNum]
   generalize hA : accM r (asOf s) (.op .back true) = A
   simp [accM, asOf, h1, h2, As.put, As.u, As.m, As.r] at hA
   rw [p_standing11 (a := A.1)]
   case K => subst hA; exact ⟨rfl, rfl, rfl⟩
   case h1 => subst hA; rfl
   case c1 => subst hA; rfl
   case d1 => subst hA; rfl
   case h2 => subst hA; rfl
   case c2 => subst hA; rfl
   case d2 => subst hA; rfl
   subst hA; simp [po_tup])
end
end Lw
set_option Elab.async false
set_option linter.all false
set_option maxRecDepth 100000
set_option maxHeartbeats 4000000
/-! M11: the law's next stand behind an arrival. -/
namespace Lw
open PySem PySem.Spec PyProof.Rows Dq
section
variable {n k : Nat} {S : Sto}
@[simp] theorem lt50 (x : Int) : (50 < 50 + x) ↔ 0 < x := by omega
@[simp] theorem le50 (x : Int) : (50 + x ≤ 50) ↔ x ≤ 0 := by omega
@[simp] theorem gt50 (x : Int) : (50 + x < 50) ↔ x < 0 := by omega
theorem nextback_011 (r : Ru) (s : Sd) (h1 : s.one.way = none) {v : Way} (h2 : s.two.way = some v) (hk : v.k = .back)  : runFn (lev T (k + 3)) f__law_next [dRu r, dSd s, dEv (.op .arrive true)] n S = .ok (.tup [dSd (standM r (accM r (asOf s) (.op .arrive true)).1), .str (accM r (asOf s) (.op .arrive true)).2]) S := by
  rw [run_pure rfl rfl (by simp)]
  have hK : runFn (lev T (k + 2)) f__law_known [dSd s] 0 [] = _ := p_known01 s h1 h2
  by_cases e1 : 0 < s.ho.left <;>
  rcases hw : s.ho.who with _ | _ | _ <;>
  (simp [f__law_next, b__law_next, Dq.envOf, hK, run_happen, b__law_happen, run_come, b__law_come, dEv, hoC, cRd, rdOf, wAsked, wYes, hk, e1, hw]
   generalize hA : accM r (asOf s) (.op .arrive true) = A
   simp [accM, comeM, asOf, rdOf, h1, h2, As.put, As.u, As.m, As.r, hk, e1, hw] at hA
   (rw [p_standing00 (a := A.1)]
    case K => subst hA; exact ⟨rfl, rfl, rfl⟩
    case h1 => subst hA; rfl
    case c1 => subst hA; rfl
    case h2 => subst hA; rfl
    case c2 => subst hA; rfl
    subst hA; simp [po_tup]))
theorem nextaskFree_011 (r : Ru) (s : Sd) (h1 : s.one.way = none) {v : Way} (h2 : s.two.way = some v) (hk : v.k = .ask) (e1 : s.ho.who = none) (e2 : s.ho.rest ≤ 0) : runFn (lev T (k + 3)) f__law_next [dRu r, dSd s, dEv (.op .arrive true)] n S = .ok (.tup [dSd (standM r (accM r (asOf s) (.op .arrive true)).1), .str (accM r (asOf s) (.op .arrive true)).2]) S := by
  rw [run_pure rfl rfl (by simp)]
  have hK : runFn (lev T (k + 2)) f__law_known [dSd s] 0 [] = _ := p_known01 s h1 h2
  (simp [f__law_next, b__law_next, Dq.envOf, hK, run_happen, b__law_happen, run_come, b__law_come, dEv, hoC, cRd, rdOf, wAsked, wYes, hk, e1, e2]
   generalize hA : accM r (asOf s) (.op .arrive true) = A
   simp [accM, comeM, asOf, rdOf, h1, h2, As.put, As.u, As.m, As.r, hk, e1, e2] at hA
   (rw [p_standing01 (a := A.1)]
    case K => subst hA; exact ⟨rfl, rfl, rfl⟩
    case h1 => subst hA; rfl
    case c1 => subst hA; rfl
    case h2 => subst hA; rfl
    case c2 => subst hA; rfl
    case d2 => subst hA; rfl
    subst hA; simp [po_tup]))
theorem nextaskRest_011 (r : Ru) (s : Sd) (h1 : s.one.way = none) {v : Way} (h2 : s.two.way = some v) (hk : v.k = .ask) (e1 : s.ho.who = none) (e2 : ¬ s.ho.rest ≤ 0) : runFn (lev T (k + 3)) f__law_next [dRu r, dSd s, dEv (.op .arrive true)] n S = .ok (.tup [dSd (standM r (accM r (asOf s) (.op .arrive true)).1), .str (accM r (asOf s) (.op .arrive true)).2]) S := by
  rw [run_pure rfl rfl (by simp)]
  have hK : runFn (lev T (k + 2)) f__law_known [dSd s] 0 [] = _ := p_known01 s h1 h2
  by_cases e3 : 0 < s.ho.left <;>
  (simp [f__law_next, b__law_next, Dq.envOf, hK, run_happen, b__law_happen, run_come, b__law_come, dEv, hoC, cRd, rdOf, wAsked, wYes, hk, e1, e2, e3]
   generalize hA : accM r (asOf s) (.op .arrive true) = A
   simp [accM, comeM, asOf, rdOf, h1, h2, As.put, As.u, As.m, As.r, hk, e1, e2, e3] at hA
   (rw [p_standing00 (a := A.1)]
    case K => subst hA; exact ⟨rfl, rfl, rfl⟩
    case h1 => subst hA; rfl
    case c1 => subst hA; rfl
    case h2 => subst hA; rfl
    case c2 => subst hA; rfl
    subst hA; simp [po_tup]))
theorem nextaskMine_011 (r : Ru) (s : Sd) (h1 : s.one.way = none) {v : Way} (h2 : s.two.way = some v) (hk : v.k = .ask) (e1 : s.ho.who = some true) (e3 : 0 < s.ho.left) : runFn (lev T (k + 3)) f__law_next [dRu r, dSd s, dEv (.op .arrive true)] n S = .ok (.tup [dSd (standM r (accM r (asOf s) (.op .arrive true)).1), .str (accM r (asOf s) (.op .arrive true)).2]) S := by
  rw [run_pure rfl rfl (by simp)]
  have hK : runFn (lev T (k + 2)) f__law_known [dSd s] 0 [] = _ := p_known01 s h1 h2
  (simp [f__law_next, b__law_next, Dq.envOf, hK, run_happen, b__law_happen, run_come, b__law_come, dEv, hoC, cRd, rdOf, wAsked, wYes, hk, e1, e3]
   generalize hA : accM r (asOf s) (.op .arrive true) = A
   simp [accM, comeM, asOf, rdOf, h1, h2, As.put, As.u, As.m, As.r, hk, e1, e3] at hA
   (rw [p_standing01 (a := A.1)]
    case K => subst hA; exact ⟨rfl, rfl, rfl⟩
    case h1 => subst hA; rfl
    case c1 => subst hA; rfl
    case h2 => subst hA; rfl
    case c2 => subst hA; rfl
    case d2 => subst hA; rfl
    subst hA; simp [po_tup]))
theorem nextaskOther_011 (r : Ru) (s : Sd) (h1 : s.one.way = none) {v : Way} (h2 : s.two.way = some v) (hk : v.k = .ask) (e1 : s.ho.who = some false) (e3 : 0 < s.ho.left) : runFn (lev T (k + 3)) f__law_next [dRu r, dSd s, dEv (.op .arrive true)] n S = .ok (.tup [dSd (standM r (accM r (asOf s) (.op .arrive true)).1), .str (accM r (asOf s) (.op .arrive true)).2]) S := by
  rw [run_pure rfl rfl (by simp)]
  have hK : runFn (lev T (k + 2)) f__law_known [dSd s] 0 [] = _ := p_known01 s h1 h2
  (simp [f__law_next, b__law_next, Dq.envOf, hK, run_happen, b__law_happen, run_come, b__law_come, dEv, hoC, cRd, rdOf, wAsked, wYes, hk, e1, e3]
   generalize hA : accM r (asOf s) (.op .arrive true) = A
   simp [accM, comeM, asOf, rdOf, h1, h2, As.put, As.u, As.m, As.r, hk, e1, e3] at hA
   (rw [p_standing00 (a := A.1)]
    case K => subst hA; exact ⟨rfl, rfl, rfl⟩
    case h1 => subst hA; rfl
    case c1 => subst hA; rfl
    case h2 => subst hA; rfl
    case c2 => subst hA; rfl
    subst hA; simp [po_tup]))
theorem nextrenewFree_011 (r : Ru) (s : Sd) (h1 : s.one.way = none) {v : Way} (h2 : s.two.way = some v) (hk : v.k = .renew) (e1 : s.ho.who = none) (e2 : s.ho.rest ≤ 0) (ea : r.again = true) : runFn (lev T (k + 3)) f__law_next [dRu r, dSd s, dEv (.op .arrive true)] n S = .ok (.tup [dSd (standM r (accM r (asOf s) (.op .arrive true)).1), .str (accM r (asOf s) (.op .arrive true)).2]) S := by
  rw [run_pure rfl rfl (by simp)]
  have hK : runFn (lev T (k + 2)) f__law_known [dSd s] 0 [] = _ := p_known01 s h1 h2
  (simp [f__law_next, b__law_next, Dq.envOf, hK, run_happen, b__law_happen, run_come, b__law_come, dEv, hoC, cRd, rdOf, wAsked, wYes, hk, e1, e2, ea]
   generalize hA : accM r (asOf s) (.op .arrive true) = A
   simp [accM, comeM, asOf, rdOf, h1, h2, As.put, As.u, As.m, As.r, hk, e1, e2, ea] at hA
   (rw [p_standing01 (a := A.1)]
    case K => subst hA; exact ⟨rfl, rfl, rfl⟩
    case h1 => subst hA; rfl
    case c1 => subst hA; rfl
    case h2 => subst hA; rfl
    case c2 => subst hA; rfl
    case d2 => subst hA; rfl
    subst hA; simp [po_tup]))
theorem nextrenewRest_011 (r : Ru) (s : Sd) (h1 : s.one.way = none) {v : Way} (h2 : s.two.way = some v) (hk : v.k = .renew) (e1 : s.ho.who = none) (e2 : ¬ s.ho.rest ≤ 0) : runFn (lev T (k + 3)) f__law_next [dRu r, dSd s, dEv (.op .arrive true)] n S = .ok (.tup [dSd (standM r (accM r (asOf s) (.op .arrive true)).1), .str (accM r (asOf s) (.op .arrive true)).2]) S := by
  rw [run_pure rfl rfl (by simp)]
  have hK : runFn (lev T (k + 2)) f__law_known [dSd s] 0 [] = _ := p_known01 s h1 h2
  by_cases e3 : 0 < s.ho.left <;>
  (simp [f__law_next, b__law_next, Dq.envOf, hK, run_happen, b__law_happen, run_come, b__law_come, dEv, hoC, cRd, rdOf, wAsked, wYes, hk, e1, e2, e3]
   generalize hA : accM r (asOf s) (.op .arrive true) = A
   simp [accM, comeM, asOf, rdOf, h1, h2, As.put, As.u, As.m, As.r, hk, e1, e2, e3] at hA
   (rw [p_standing00 (a := A.1)]
    case K => subst hA; exact ⟨rfl, rfl, rfl⟩
    case h1 => subst hA; rfl
    case c1 => subst hA; rfl
    case h2 => subst hA; rfl
    case c2 => subst hA; rfl
    subst hA; simp [po_tup]))
theorem nextrenewNo_011 (r : Ru) (s : Sd) (h1 : s.one.way = none) {v : Way} (h2 : s.two.way = some v) (hk : v.k = .renew) (e1 : s.ho.who = none) (ea : r.again = false) : runFn (lev T (k + 3)) f__law_next [dRu r, dSd s, dEv (.op .arrive true)] n S = .ok (.tup [dSd (standM r (accM r (asOf s) (.op .arrive true)).1), .str (accM r (asOf s) (.op .arrive true)).2]) S := by
  rw [run_pure rfl rfl (by simp)]
  have hK : runFn (lev T (k + 2)) f__law_known [dSd s] 0 [] = _ := p_known01 s h1 h2
  by_cases e3 : 0 < s.ho.left <;>
  (simp [f__law_next, b__law_next, Dq.envOf, hK, run_happen, b__law_happen, run_come, b__law_come, dEv, hoC, cRd, rdOf, wAsked, wYes, hk, e1, ea, e3]
   generalize hA : accM r (asOf s) (.op .arrive true) = A
   simp [accM, comeM, asOf, rdOf, h1, h2, As.put, As.u, As.m, As.r, hk, e1, ea, e3] at hA
   (rw [p_standing00 (a := A.1)]
    case K => subst hA; exact ⟨rfl, rfl, rfl⟩
    case h1 => subst hA; rfl
    case c1 => subst hA; rfl
    case h2 => subst hA; rfl
    case c2 => subst hA; rfl
    subst hA; simp [po_tup]))
theorem nextrenewMine_011 (r : Ru) (s : Sd) (h1 : s.one.way = none) {v : Way} (h2 : s.two.way = some v) (hk : v.k = .renew) (e1 : s.ho.who = some true) (e3 : 0 < s.ho.left) : runFn (lev T (k + 3)) f__law_next [dRu r, dSd s, dEv (.op .arrive true)] n S = .ok (.tup [dSd (standM r (accM r (asOf s) (.op .arrive true)).1), .str (accM r (asOf s) (.op .arrive true)).2]) S := by
  rw [run_pure rfl rfl (by simp)]
  have hK : runFn (lev T (k + 2)) f__law_known [dSd s] 0 [] = _ := p_known01 s h1 h2
  (simp [f__law_next, b__law_next, Dq.envOf, hK, run_happen, b__law_happen, run_come, b__law_come, dEv, hoC, cRd, rdOf, wAsked, wYes, hk, e1, e3]
   generalize hA : accM r (asOf s) (.op .arrive true) = A
   simp [accM, comeM, asOf, rdOf, h1, h2, As.put, As.u, As.m, As.r, hk, e1, e3] at hA
   (rw [p_standing01 (a := A.1)]
    case K => subst hA; exact ⟨rfl, rfl, rfl⟩
    case h1 => subst hA; rfl
    case c1 => subst hA; rfl
    case h2 => subst hA; rfl
    case c2 => subst hA; rfl
    case d2 => subst hA; rfl
    subst hA; simp [po_tup]))
theorem nextrenewOther_011 (r : Ru) (s : Sd) (h1 : s.one.way = none) {v : Way} (h2 : s.two.way = some v) (hk : v.k = .renew) (e1 : s.ho.who = some false) (e3 : 0 < s.ho.left) : runFn (lev T (k + 3)) f__law_next [dRu r, dSd s, dEv (.op .arrive true)] n S = .ok (.tup [dSd (standM r (accM r (asOf s) (.op .arrive true)).1), .str (accM r (asOf s) (.op .arrive true)).2]) S := by
  rw [run_pure rfl rfl (by simp)]
  have hK : runFn (lev T (k + 2)) f__law_known [dSd s] 0 [] = _ := p_known01 s h1 h2
  (simp [f__law_next, b__law_next, Dq.envOf, hK, run_happen, b__law_happen, run_come, b__law_come, dEv, hoC, cRd, rdOf, wAsked, wYes, hk, e1, e3]
   generalize hA : accM r (asOf s) (.op .arrive true) = A
   simp [accM, comeM, asOf, rdOf, h1, h2, As.put, As.u, As.m, As.r, hk, e1, e3] at hA
   (rw [p_standing00 (a := A.1)]
    case K => subst hA; exact ⟨rfl, rfl, rfl⟩
    case h1 => subst hA; rfl
    case c1 => subst hA; rfl
    case h2 => subst hA; rfl
    case c2 => subst hA; rfl
    subst hA; simp [po_tup]))
theorem nextyesC_011 (r : Ru) (s : Sd) (h1 : s.one.way = none) {v : Way} (h2 : s.two.way = some v) (hk : v.k = .yes) (e3 : ¬ s.two.left < 0) (e4 : r.asked = false) : runFn (lev T (k + 3)) f__law_next [dRu r, dSd s, dEv (.op .arrive true)] n S = .ok (.tup [dSd (standM r (accM r (asOf s) (.op .arrive true)).1), .str (accM r (asOf s) (.op .arrive true)).2]) S := by
  rw [run_pure rfl rfl (by simp)]
  have hK : runFn (lev T (k + 2)) f__law_known [dSd s] 0 [] = _ := p_known01 s h1 h2
  by_cases e5 : r.lease ≤ s.two.left <;>
  (simp [f__law_next, b__law_next, Dq.envOf, hK, run_happen, b__law_happen, run_come, b__law_come, dEv, hoC, cRd, rdOf, wAsked, wYes, hk, e3, e4, e5]
   generalize hA : accM r (asOf s) (.op .arrive true) = A
   simp [accM, comeM, asOf, rdOf, h1, h2, As.put, As.u, As.m, As.r, hk, e3, e4, e5] at hA
   (rw [p_standing00 (a := A.1)]
    case K => subst hA; exact ⟨rfl, rfl, rfl⟩
    case h1 => subst hA; rfl
    case c1 => subst hA; rfl
    case h2 => subst hA; rfl
    case c2 => subst hA; rfl
    subst hA; simp [po_tup]))
theorem nextyesA_011 (r : Ru) (s : Sd) (h1 : s.one.way = none) {v : Way} (h2 : s.two.way = some v) (hk : v.k = .yes) (e3 : ¬ s.two.left < 0) (e4 : r.asked = true) : runFn (lev T (k + 3)) f__law_next [dRu r, dSd s, dEv (.op .arrive true)] n S = .ok (.tup [dSd (standM r (accM r (asOf s) (.op .arrive true)).1), .str (accM r (asOf s) (.op .arrive true)).2]) S := by
  rw [run_pure rfl rfl (by simp)]
  have hK : runFn (lev T (k + 2)) f__law_known [dSd s] 0 [] = _ := p_known01 s h1 h2
  by_cases e5 : 50 - v.since + r.lease ≤ 50 + s.two.left <;>
  (simp [f__law_next, b__law_next, Dq.envOf, hK, run_happen, b__law_happen, run_come, b__law_come, dEv, hoC, cRd, rdOf, wAsked, wYes, hk, e3, e4, e5]
   generalize hA : accM r (asOf s) (.op .arrive true) = A
   simp [accM, comeM, asOf, rdOf, h1, h2, As.put, As.u, As.m, As.r, hk, e3, e4, e5] at hA
   (rw [p_standing00 (a := A.1)]
    case K => subst hA; exact ⟨rfl, rfl, rfl⟩
    case h1 => subst hA; rfl
    case c1 => subst hA; rfl
    case h2 => subst hA; rfl
    case c2 => subst hA; rfl
    subst hA; simp [po_tup]))
theorem nextback_100 (r : Ru) (s : Sd) {w : Way} (h1 : s.one.way = some w) (h2 : s.two.way = none) (hk : w.k = .back)  : runFn (lev T (k + 3)) f__law_next [dRu r, dSd s, dEv (.op .arrive false)] n S = .ok (.tup [dSd (standM r (accM r (asOf s) (.op .arrive false)).1), .str (accM r (asOf s) (.op .arrive false)).2]) S := by
  rw [run_pure rfl rfl (by simp)]
  have hK : runFn (lev T (k + 2)) f__law_known [dSd s] 0 [] = _ := p_known10 s h1 h2
  by_cases e1 : 0 < s.ho.left <;>
  rcases hw : s.ho.who with _ | _ | _ <;>
  (simp [f__law_next, b__law_next, Dq.envOf, hK, run_happen, b__law_happen, run_come, b__law_come, dEv, hoC, cRd, rdOf, wAsked, wYes, hk, e1, hw]
   generalize hA : accM r (asOf s) (.op .arrive false) = A
   simp [accM, comeM, asOf, rdOf, h1, h2, As.put, As.u, As.m, As.r, hk, e1, hw] at hA
   (rw [p_standing00 (a := A.1)]
    case K => subst hA; exact ⟨rfl, rfl, rfl⟩
    case h1 => subst hA; rfl
    case c1 => subst hA; rfl
    case h2 => subst hA; rfl
    case c2 => subst hA; rfl
    subst hA; simp [po_tup]))
theorem nextaskFree_100 (r : Ru) (s : Sd) {w : Way} (h1 : s.one.way = some w) (h2 : s.two.way = none) (hk : w.k = .ask) (e1 : s.ho.who = none) (e2 : s.ho.rest ≤ 0) : runFn (lev T (k + 3)) f__law_next [dRu r, dSd s, dEv (.op .arrive false)] n S = .ok (.tup [dSd (standM r (accM r (asOf s) (.op .arrive false)).1), .str (accM r (asOf s) (.op .arrive false)).2]) S := by
  rw [run_pure rfl rfl (by simp)]
  have hK : runFn (lev T (k + 2)) f__law_known [dSd s] 0 [] = _ := p_known10 s h1 h2
  (simp [f__law_next, b__law_next, Dq.envOf, hK, run_happen, b__law_happen, run_come, b__law_come, dEv, hoC, cRd, rdOf, wAsked, wYes, hk, e1, e2]
   generalize hA : accM r (asOf s) (.op .arrive false) = A
   simp [accM, comeM, asOf, rdOf, h1, h2, As.put, As.u, As.m, As.r, hk, e1, e2] at hA
   (rw [p_standing10 (a := A.1)]
    case K => subst hA; exact ⟨rfl, rfl, rfl⟩
    case h1 => subst hA; rfl
    case c1 => subst hA; rfl
    case d1 => subst hA; rfl
    case h2 => subst hA; rfl
    case c2 => subst hA; rfl
    subst hA; simp [po_tup]))
theorem nextaskRest_100 (r : Ru) (s : Sd) {w : Way} (h1 : s.one.way = some w) (h2 : s.two.way = none) (hk : w.k = .ask) (e1 : s.ho.who = none) (e2 : ¬ s.ho.rest ≤ 0) : runFn (lev T (k + 3)) f__law_next [dRu r, dSd s, dEv (.op .arrive false)] n S = .ok (.tup [dSd (standM r (accM r (asOf s) (.op .arrive false)).1), .str (accM r (asOf s) (.op .arrive false)).2]) S := by
  rw [run_pure rfl rfl (by simp)]
  have hK : runFn (lev T (k + 2)) f__law_known [dSd s] 0 [] = _ := p_known10 s h1 h2
  by_cases e3 : 0 < s.ho.left <;>
  (simp [f__law_next, b__law_next, Dq.envOf, hK, run_happen, b__law_happen, run_come, b__law_come, dEv, hoC, cRd, rdOf, wAsked, wYes, hk, e1, e2, e3]
   generalize hA : accM r (asOf s) (.op .arrive false) = A
   simp [accM, comeM, asOf, rdOf, h1, h2, As.put, As.u, As.m, As.r, hk, e1, e2, e3] at hA
   (rw [p_standing00 (a := A.1)]
    case K => subst hA; exact ⟨rfl, rfl, rfl⟩
    case h1 => subst hA; rfl
    case c1 => subst hA; rfl
    case h2 => subst hA; rfl
    case c2 => subst hA; rfl
    subst hA; simp [po_tup]))
theorem nextaskMine_100 (r : Ru) (s : Sd) {w : Way} (h1 : s.one.way = some w) (h2 : s.two.way = none) (hk : w.k = .ask) (e1 : s.ho.who = some false) (e3 : 0 < s.ho.left) : runFn (lev T (k + 3)) f__law_next [dRu r, dSd s, dEv (.op .arrive false)] n S = .ok (.tup [dSd (standM r (accM r (asOf s) (.op .arrive false)).1), .str (accM r (asOf s) (.op .arrive false)).2]) S := by
  rw [run_pure rfl rfl (by simp)]
  have hK : runFn (lev T (k + 2)) f__law_known [dSd s] 0 [] = _ := p_known10 s h1 h2
  (simp [f__law_next, b__law_next, Dq.envOf, hK, run_happen, b__law_happen, run_come, b__law_come, dEv, hoC, cRd, rdOf, wAsked, wYes, hk, e1, e3]
   generalize hA : accM r (asOf s) (.op .arrive false) = A
   simp [accM, comeM, asOf, rdOf, h1, h2, As.put, As.u, As.m, As.r, hk, e1, e3] at hA
   (rw [p_standing10 (a := A.1)]
    case K => subst hA; exact ⟨rfl, rfl, rfl⟩
    case h1 => subst hA; rfl
    case c1 => subst hA; rfl
    case d1 => subst hA; rfl
    case h2 => subst hA; rfl
    case c2 => subst hA; rfl
    subst hA; simp [po_tup]))
theorem nextaskOther_100 (r : Ru) (s : Sd) {w : Way} (h1 : s.one.way = some w) (h2 : s.two.way = none) (hk : w.k = .ask) (e1 : s.ho.who = some true) (e3 : 0 < s.ho.left) : runFn (lev T (k + 3)) f__law_next [dRu r, dSd s, dEv (.op .arrive false)] n S = .ok (.tup [dSd (standM r (accM r (asOf s) (.op .arrive false)).1), .str (accM r (asOf s) (.op .arrive false)).2]) S := by
  rw [run_pure rfl rfl (by simp)]
  have hK : runFn (lev T (k + 2)) f__law_known [dSd s] 0 [] = _ := p_known10 s h1 h2
  (simp [f__law_next, b__law_next, Dq.envOf, hK, run_happen, b__law_happen, run_come, b__law_come, dEv, hoC, cRd, rdOf, wAsked, wYes, hk, e1, e3]
   generalize hA : accM r (asOf s) (.op .arrive false) = A
   simp [accM, comeM, asOf, rdOf, h1, h2, As.put, As.u, As.m, As.r, hk, e1, e3] at hA
   (rw [p_standing00 (a := A.1)]
    case K => subst hA; exact ⟨rfl, rfl, rfl⟩
    case h1 => subst hA; rfl
    case c1 => subst hA; rfl
    case h2 => subst hA; rfl
    case c2 => subst hA; rfl
    subst hA; simp [po_tup]))
theorem nextrenewFree_100 (r : Ru) (s : Sd) {w : Way} (h1 : s.one.way = some w) (h2 : s.two.way = none) (hk : w.k = .renew) (e1 : s.ho.who = none) (e2 : s.ho.rest ≤ 0) (ea : r.again = true) : runFn (lev T (k + 3)) f__law_next [dRu r, dSd s, dEv (.op .arrive false)] n S = .ok (.tup [dSd (standM r (accM r (asOf s) (.op .arrive false)).1), .str (accM r (asOf s) (.op .arrive false)).2]) S := by
  rw [run_pure rfl rfl (by simp)]
  have hK : runFn (lev T (k + 2)) f__law_known [dSd s] 0 [] = _ := p_known10 s h1 h2
  (simp [f__law_next, b__law_next, Dq.envOf, hK, run_happen, b__law_happen, run_come, b__law_come, dEv, hoC, cRd, rdOf, wAsked, wYes, hk, e1, e2, ea]
   generalize hA : accM r (asOf s) (.op .arrive false) = A
   simp [accM, comeM, asOf, rdOf, h1, h2, As.put, As.u, As.m, As.r, hk, e1, e2, ea] at hA
   (rw [p_standing10 (a := A.1)]
    case K => subst hA; exact ⟨rfl, rfl, rfl⟩
    case h1 => subst hA; rfl
    case c1 => subst hA; rfl
    case d1 => subst hA; rfl
    case h2 => subst hA; rfl
    case c2 => subst hA; rfl
    subst hA; simp [po_tup]))
theorem nextrenewRest_100 (r : Ru) (s : Sd) {w : Way} (h1 : s.one.way = some w) (h2 : s.two.way = none) (hk : w.k = .renew) (e1 : s.ho.who = none) (e2 : ¬ s.ho.rest ≤ 0) : runFn (lev T (k + 3)) f__law_next [dRu r, dSd s, dEv (.op .arrive false)] n S = .ok (.tup [dSd (standM r (accM r (asOf s) (.op .arrive false)).1), .str (accM r (asOf s) (.op .arrive false)).2]) S := by
  rw [run_pure rfl rfl (by simp)]
  have hK : runFn (lev T (k + 2)) f__law_known [dSd s] 0 [] = _ := p_known10 s h1 h2
  by_cases e3 : 0 < s.ho.left <;>
  (simp [f__law_next, b__law_next, Dq.envOf, hK, run_happen, b__law_happen, run_come, b__law_come, dEv, hoC, cRd, rdOf, wAsked, wYes, hk, e1, e2, e3]
   generalize hA : accM r (asOf s) (.op .arrive false) = A
   simp [accM, comeM, asOf, rdOf, h1, h2, As.put, As.u, As.m, As.r, hk, e1, e2, e3] at hA
   (rw [p_standing00 (a := A.1)]
    case K => subst hA; exact ⟨rfl, rfl, rfl⟩
    case h1 => subst hA; rfl
    case c1 => subst hA; rfl
    case h2 => subst hA; rfl
    case c2 => subst hA; rfl
    subst hA; simp [po_tup]))
theorem nextrenewNo_100 (r : Ru) (s : Sd) {w : Way} (h1 : s.one.way = some w) (h2 : s.two.way = none) (hk : w.k = .renew) (e1 : s.ho.who = none) (ea : r.again = false) : runFn (lev T (k + 3)) f__law_next [dRu r, dSd s, dEv (.op .arrive false)] n S = .ok (.tup [dSd (standM r (accM r (asOf s) (.op .arrive false)).1), .str (accM r (asOf s) (.op .arrive false)).2]) S := by
  rw [run_pure rfl rfl (by simp)]
  have hK : runFn (lev T (k + 2)) f__law_known [dSd s] 0 [] = _ := p_known10 s h1 h2
  by_cases e3 : 0 < s.ho.left <;>
  (simp [f__law_next, b__law_next, Dq.envOf, hK, run_happen, b__law_happen, run_come, b__law_come, dEv, hoC, cRd, rdOf, wAsked, wYes, hk, e1, ea, e3]
   generalize hA : accM r (asOf s) (.op .arrive false) = A
   simp [accM, comeM, asOf, rdOf, h1, h2, As.put, As.u, As.m, As.r, hk, e1, ea, e3] at hA
   (rw [p_standing00 (a := A.1)]
    case K => subst hA; exact ⟨rfl, rfl, rfl⟩
    case h1 => subst hA; rfl
    case c1 => subst hA; rfl
    case h2 => subst hA; rfl
    case c2 => subst hA; rfl
    subst hA; simp [po_tup]))
theorem nextrenewMine_100 (r : Ru) (s : Sd) {w : Way} (h1 : s.one.way = some w) (h2 : s.two.way = none) (hk : w.k = .renew) (e1 : s.ho.who = some false) (e3 : 0 < s.ho.left) : runFn (lev T (k + 3)) f__law_next [dRu r, dSd s, dEv (.op .arrive false)] n S = .ok (.tup [dSd (standM r (accM r (asOf s) (.op .arrive false)).1), .str (accM r (asOf s) (.op .arrive false)).2]) S := by
  rw [run_pure rfl rfl (by simp)]
  have hK : runFn (lev T (k + 2)) f__law_known [dSd s] 0 [] = _ := p_known10 s h1 h2
  (simp [f__law_next, b__law_next, Dq.envOf, hK, run_happen, b__law_happen, run_come, b__law_come, dEv, hoC, cRd, rdOf, wAsked, wYes, hk, e1, e3]
   generalize hA : accM r (asOf s) (.op .arrive false) = A
   simp [accM, comeM, asOf, rdOf, h1, h2, As.put, As.u, As.m, As.r, hk, e1, e3] at hA
   (rw [p_standing10 (a := A.1)]
    case K => subst hA; exact ⟨rfl, rfl, rfl⟩
    case h1 => subst hA; rfl
    case c1 => subst hA; rfl
    case d1 => subst hA; rfl
    case h2 => subst hA; rfl
    case c2 => subst hA; rfl
    subst hA; simp [po_tup]))
theorem nextrenewOther_100 (r : Ru) (s : Sd) {w : Way} (h1 : s.one.way = some w) (h2 : s.two.way = none) (hk : w.k = .renew) (e1 : s.ho.who = some true) (e3 : 0 < s.ho.left) : runFn (lev T (k + 3)) f__law_next [dRu r, dSd s, dEv (.op .arrive false)] n S = .ok (.tup [dSd (standM r (accM r (asOf s) (.op .arrive false)).1), .str (accM r (asOf s) (.op .arrive false)).2]) S := by
  rw [run_pure rfl rfl (by simp)]
  have hK : runFn (lev T (k + 2)) f__law_known [dSd s] 0 [] = _ := p_known10 s h1 h2
  (simp [f__law_next, b__law_next, Dq.envOf, hK, run_happen, b__law_happen, run_come, b__law_come, dEv, hoC, cRd, rdOf, wAsked, wYes, hk, e1, e3]
   generalize hA : accM r (asOf s) (.op .arrive false) = A
   simp [accM, comeM, asOf, rdOf, h1, h2, As.put, As.u, As.m, As.r, hk, e1, e3] at hA
   (rw [p_standing00 (a := A.1)]
    case K => subst hA; exact ⟨rfl, rfl, rfl⟩
    case h1 => subst hA; rfl
    case c1 => subst hA; rfl
    case h2 => subst hA; rfl
    case c2 => subst hA; rfl
    subst hA; simp [po_tup]))
theorem nextyesC_100 (r : Ru) (s : Sd) {w : Way} (h1 : s.one.way = some w) (h2 : s.two.way = none) (hk : w.k = .yes) (e3 : ¬ s.one.left < 0) (e4 : r.asked = false) : runFn (lev T (k + 3)) f__law_next [dRu r, dSd s, dEv (.op .arrive false)] n S = .ok (.tup [dSd (standM r (accM r (asOf s) (.op .arrive false)).1), .str (accM r (asOf s) (.op .arrive false)).2]) S := by
  rw [run_pure rfl rfl (by simp)]
  have hK : runFn (lev T (k + 2)) f__law_known [dSd s] 0 [] = _ := p_known10 s h1 h2
  by_cases e5 : r.lease ≤ s.one.left <;>
  (simp [f__law_next, b__law_next, Dq.envOf, hK, run_happen, b__law_happen, run_come, b__law_come, dEv, hoC, cRd, rdOf, wAsked, wYes, hk, e3, e4, e5]
   generalize hA : accM r (asOf s) (.op .arrive false) = A
   simp [accM, comeM, asOf, rdOf, h1, h2, As.put, As.u, As.m, As.r, hk, e3, e4, e5] at hA
   (rw [p_standing00 (a := A.1)]
    case K => subst hA; exact ⟨rfl, rfl, rfl⟩
    case h1 => subst hA; rfl
    case c1 => subst hA; rfl
    case h2 => subst hA; rfl
    case c2 => subst hA; rfl
    subst hA; simp [po_tup]))
theorem nextyesA_100 (r : Ru) (s : Sd) {w : Way} (h1 : s.one.way = some w) (h2 : s.two.way = none) (hk : w.k = .yes) (e3 : ¬ s.one.left < 0) (e4 : r.asked = true) : runFn (lev T (k + 3)) f__law_next [dRu r, dSd s, dEv (.op .arrive false)] n S = .ok (.tup [dSd (standM r (accM r (asOf s) (.op .arrive false)).1), .str (accM r (asOf s) (.op .arrive false)).2]) S := by
  rw [run_pure rfl rfl (by simp)]
  have hK : runFn (lev T (k + 2)) f__law_known [dSd s] 0 [] = _ := p_known10 s h1 h2
  by_cases e5 : 50 - w.since + r.lease ≤ 50 + s.one.left <;>
  (simp [f__law_next, b__law_next, Dq.envOf, hK, run_happen, b__law_happen, run_come, b__law_come, dEv, hoC, cRd, rdOf, wAsked, wYes, hk, e3, e4, e5]
   generalize hA : accM r (asOf s) (.op .arrive false) = A
   simp [accM, comeM, asOf, rdOf, h1, h2, As.put, As.u, As.m, As.r, hk, e3, e4, e5] at hA
   (rw [p_standing00 (a := A.1)]
    case K => subst hA; exact ⟨rfl, rfl, rfl⟩
    case h1 => subst hA; rfl
    case c1 => subst hA; rfl
    case h2 => subst hA; rfl
    case c2 => subst hA; rfl
    subst hA; simp [po_tup]))
theorem nextback_110 (r : Ru) (s : Sd) {w : Way} (h1 : s.one.way = some w) {v : Way} (h2 : s.two.way = some v) (hk : w.k = .back)  : runFn (lev T (k + 3)) f__law_next [dRu r, dSd s, dEv (.op .arrive false)] n S = .ok (.tup [dSd (standM r (accM r (asOf s) (.op .arrive false)).1), .str (accM r (asOf s) (.op .arrive false)).2]) S := by
  rw [run_pure rfl rfl (by simp)]
  have hK : runFn (lev T (k + 2)) f__law_known [dSd s] 0 [] = _ := p_known11 s h1 h2
  by_cases e1 : 0 < s.ho.left <;>
  rcases hw : s.ho.who with _ | _ | _ <;>
  (simp [f__law_next, b__law_next, Dq.envOf, hK, run_happen, b__law_happen, run_come, b__law_come, dEv, hoC, cRd, rdOf, wAsked, wYes, hk, e1, hw]
   generalize hA : accM r (asOf s) (.op .arrive false) = A
   simp [accM, comeM, asOf, rdOf, h1, h2, As.put, As.u, As.m, As.r, hk, e1, hw] at hA
   (rw [p_standing01 (a := A.1)]
    case K => subst hA; exact ⟨rfl, rfl, rfl⟩
    case h1 => subst hA; rfl
    case c1 => subst hA; rfl
    case h2 => subst hA; rfl
    case c2 => subst hA; rfl
    case d2 => subst hA; rfl
    subst hA; simp [po_tup]))
theorem nextaskFree_110 (r : Ru) (s : Sd) {w : Way} (h1 : s.one.way = some w) {v : Way} (h2 : s.two.way = some v) (hk : w.k = .ask) (e1 : s.ho.who = none) (e2 : s.ho.rest ≤ 0) : runFn (lev T (k + 3)) f__law_next [dRu r, dSd s, dEv (.op .arrive false)] n S = .ok (.tup [dSd (standM r (accM r (asOf s) (.op .arrive false)).1), .str (accM r (asOf s) (.op .arrive false)).2]) S := by
  rw [run_pure rfl rfl (by simp)]
  have hK : runFn (lev T (k + 2)) f__law_known [dSd s] 0 [] = _ := p_known11 s h1 h2
  (simp [f__law_next, b__law_next, Dq.envOf, hK, run_happen, b__law_happen, run_come, b__law_come, dEv, hoC, cRd, rdOf, wAsked, wYes, hk, e1, e2]
   generalize hA : accM r (asOf s) (.op .arrive false) = A
   simp [accM, comeM, asOf, rdOf, h1, h2, As.put, As.u, As.m, As.r, hk, e1, e2] at hA
   (rw [p_standing11 (a := A.1)]
    case K => subst hA; exact ⟨rfl, rfl, rfl⟩
    case h1 => subst hA; rfl
    case c1 => subst hA; rfl
    case d1 => subst hA; rfl
    case h2 => subst hA; rfl
    case c2 => subst hA; rfl
    case d2 => subst hA; rfl
    subst hA; simp [po_tup]))
theorem nextaskRest_110 (r : Ru) (s : Sd) {w : Way} (h1 : s.one.way = some w) {v : Way} (h2 : s.two.way = some v) (hk : w.k = .ask) (e1 : s.ho.who = none) (e2 : ¬ s.ho.rest ≤ 0) : runFn (lev T (k + 3)) f__law_next [dRu r, dSd s, dEv (.op .arrive false)] n S = .ok (.tup [dSd (standM r (accM r (asOf s) (.op .arrive false)).1), .str (accM r (asOf s) (.op .arrive false)).2]) S := by
  rw [run_pure rfl rfl (by simp)]
  have hK : runFn (lev T (k + 2)) f__law_known [dSd s] 0 [] = _ := p_known11 s h1 h2
  by_cases e3 : 0 < s.ho.left <;>
  (simp [f__law_next, b__law_next, Dq.envOf, hK, run_happen, b__law_happen, run_come, b__law_come, dEv, hoC, cRd, rdOf, wAsked, wYes, hk, e1, e2, e3]
   generalize hA : accM r (asOf s) (.op .arrive false) = A
   simp [accM, comeM, asOf, rdOf, h1, h2, As.put, As.u, As.m, As.r, hk, e1, e2, e3] at hA
   (rw [p_standing01 (a := A.1)]
    case K => subst hA; exact ⟨rfl, rfl, rfl⟩
    case h1 => subst hA; rfl
    case c1 => subst hA; rfl
    case h2 => subst hA; rfl
    case c2 => subst hA; rfl
    case d2 => subst hA; rfl
    subst hA; simp [po_tup]))
theorem nextaskMine_110 (r : Ru) (s : Sd) {w : Way} (h1 : s.one.way = some w) {v : Way} (h2 : s.two.way = some v) (hk : w.k = .ask) (e1 : s.ho.who = some false) (e3 : 0 < s.ho.left) : runFn (lev T (k + 3)) f__law_next [dRu r, dSd s, dEv (.op .arrive false)] n S = .ok (.tup [dSd (standM r (accM r (asOf s) (.op .arrive false)).1), .str (accM r (asOf s) (.op .arrive false)).2]) S := by
  rw [run_pure rfl rfl (by simp)]
  have hK : runFn (lev T (k + 2)) f__law_known [dSd s] 0 [] = _ := p_known11 s h1 h2
  (simp [f__law_next, b__law_next, Dq.envOf, hK, run_happen, b__law_happen, run_come, b__law_come, dEv, hoC, cRd, rdOf, wAsked, wYes, hk, e1, e3]
   generalize hA : accM r (asOf s) (.op .arrive false) = A
   simp [accM, comeM, asOf, rdOf, h1, h2, As.put, As.u, As.m, As.r, hk, e1, e3] at hA
   (rw [p_standing11 (a := A.1)]
    case K => subst hA; exact ⟨rfl, rfl, rfl⟩
    case h1 => subst hA; rfl
    case c1 => subst hA; rfl
    case d1 => subst hA; rfl
    case h2 => subst hA; rfl
    case c2 => subst hA; rfl
    case d2 => subst hA; rfl
    subst hA; simp [po_tup]))
theorem nextaskOther_110 (r : Ru) (s : Sd) {w : Way} (h1 : s.one.way = some w) {v : Way} (h2 : s.two.way = some v) (hk : w.k = .ask) (e1 : s.ho.who = some true) (e3 : 0 < s.ho.left) : runFn (lev T (k + 3)) f__law_next [dRu r, dSd s, dEv (.op .arrive false)] n S = .ok (.tup [dSd (standM r (accM r (asOf s) (.op .arrive false)).1), .str (accM r (asOf s) (.op .arrive false)).2]) S := by
  rw [run_pure rfl rfl (by simp)]
  have hK : runFn (lev T (k + 2)) f__law_known [dSd s] 0 [] = _ := p_known11 s h1 h2
  (simp [f__law_next, b__law_next, Dq.envOf, hK, run_happen, b__law_happen, run_come, b__law_come, dEv, hoC, cRd, rdOf, wAsked, wYes, hk, e1, e3]
   generalize hA : accM r (asOf s) (.op .arrive false) = A
   simp [accM, comeM, asOf, rdOf, h1, h2, As.put, As.u, As.m, As.r, hk, e1, e3] at hA
   (rw [p_standing01 (a := A.1)]
    case K => subst hA; exact ⟨rfl, rfl, rfl⟩
    case h1 => subst hA; rfl
    case c1 => subst hA; rfl
    case h2 => subst hA; rfl
    case c2 => subst hA; rfl
    case d2 => subst hA; rfl
    subst hA; simp [po_tup]))
theorem nextrenewFree_110 (r : Ru) (s : Sd) {w : Way} (h1 : s.one.way = some w) {v : Way} (h2 : s.two.way = some v) (hk : w.k = .renew) (e1 : s.ho.who = none) (e2 : s.ho.rest ≤ 0) (ea : r.again = true) : runFn (lev T (k + 3)) f__law_next [dRu r, dSd s, dEv (.op .arrive false)] n S = .ok (.tup [dSd (standM r (accM r (asOf s) (.op .arrive false)).1), .str (accM r (asOf s) (.op .arrive false)).2]) S := by
  rw [run_pure rfl rfl (by simp)]
  have hK : runFn (lev T (k + 2)) f__law_known [dSd s] 0 [] = _ := p_known11 s h1 h2
  (simp [f__law_next, b__law_next, Dq.envOf, hK, run_happen, b__law_happen, run_come, b__law_come, dEv, hoC, cRd, rdOf, wAsked, wYes, hk, e1, e2, ea]
   generalize hA : accM r (asOf s) (.op .arrive false) = A
   simp [accM, comeM, asOf, rdOf, h1, h2, As.put, As.u, As.m, As.r, hk, e1, e2, ea] at hA
   (rw [p_standing11 (a := A.1)]
    case K => subst hA; exact ⟨rfl, rfl, rfl⟩
    case h1 => subst hA; rfl
    case c1 => subst hA; rfl
    case d1 => subst hA; rfl
    case h2 => subst hA; rfl
    case c2 => subst hA; rfl
    case d2 => subst hA; rfl
    subst hA; simp [po_tup]))
theorem nextrenewRest_110 (r : Ru) (s : Sd) {w : Way} (h1 : s.one.way = some w) {v : Way} (h2 : s.two.way = some v) (hk : w.k = .renew) (e1 : s.ho.who = none) (e2 : ¬ s.ho.rest ≤ 0) : runFn (lev T (k + 3)) f__law_next [dRu r, dSd s, dEv (.op .arrive false)] n S = .ok (.tup [dSd (standM r (accM r (asOf s) (.op .arrive false)).1), .str (accM r (asOf s) (.op .arrive false)).2]) S := by
  rw [run_pure rfl rfl (by simp)]
  have hK : runFn (lev T (k + 2)) f__law_known [dSd s] 0 [] = _ := p_known11 s h1 h2
  by_cases e3 : 0 < s.ho.left <;>
  (simp [f__law_next, b__law_next, Dq.envOf, hK, run_happen, b__law_happen, run_come, b__law_come, dEv, hoC, cRd, rdOf, wAsked, wYes, hk, e1, e2, e3]
   generalize hA : accM r (asOf s) (.op .arrive false) = A
   simp [accM, comeM, asOf, rdOf, h1, h2, As.put, As.u, As.m, As.r, hk, e1, e2, e3] at hA
   (rw [p_standing01 (a := A.1)]
    case K => subst hA; exact ⟨rfl, rfl, rfl⟩
    case h1 => subst hA; rfl
    case c1 => subst hA; rfl
    case h2 => subst hA; rfl
    case c2 => subst hA; rfl
    case d2 => subst hA; rfl
    subst hA; simp [po_tup]))
theorem nextrenewNo_110 (r : Ru) (s : Sd) {w : Way} (h1 : s.one.way = some w) {v : Way} (h2 : s.two.way = some v) (hk : w.k = .renew) (e1 : s.ho.who = none) (ea : r.again = false) : runFn (lev T (k + 3)) f__law_next [dRu r, dSd s, dEv (.op .arrive false)] n S = .ok (.tup [dSd (standM r (accM r (asOf s) (.op .arrive false)).1), .str (accM r (asOf s) (.op .arrive false)).2]) S := by
  rw [run_pure rfl rfl (by simp)]
  have hK : runFn (lev T (k + 2)) f__law_known [dSd s] 0 [] = _ := p_known11 s h1 h2
  by_cases e3 : 0 < s.ho.left <;>
  (simp [f__law_next, b__law_next, Dq.envOf, hK, run_happen, b__law_happen, run_come, b__law_come, dEv, hoC, cRd, rdOf, wAsked, wYes, hk, e1, ea, e3]
   generalize hA : accM r (asOf s) (.op .arrive false) = A
   simp [accM, comeM, asOf, rdOf, h1, h2, As.put, As.u, As.m, As.r, hk, e1, ea, e3] at hA
   (rw [p_standing01 (a := A.1)]
    case K => subst hA; exact ⟨rfl, rfl, rfl⟩
    case h1 => subst hA; rfl
    case c1 => subst hA; rfl
    case h2 => subst hA; rfl
    case c2 => subst hA; rfl
    case d2 => subst hA; rfl
    subst hA; simp [po_tup]))
theorem nextrenewMine_110 (r : Ru) (s : Sd) {w : Way} (h1 : s.one.way = some w) {v : Way} (h2 : s.two.way = some v) (hk : w.k = .renew) (e1 : s.ho.who = some false) (e3 : 0 < s.ho.left) : runFn (lev T (k + 3)) f__law_next [dRu r, dSd s, dEv (.op .arrive false)] n S = .ok (.tup [dSd (standM r (accM r (asOf s) (.op .arrive false)).1), .str (accM r (asOf s) (.op .arrive false)).2]) S := by
  rw [run_pure rfl rfl (by simp)]
  have hK : runFn (lev T (k + 2)) f__law_known [dSd s] 0 [] = _ := p_known11 s h1 h2
  (simp [f__law_next, b__law_next, Dq.envOf, hK, run_happen, b__law_happen, run_come, b__law_come, dEv, hoC, cRd, rdOf, wAsked, wYes, hk, e1, e3]
   generalize hA : accM r (asOf s) (.op .arrive false) = A
   simp [accM, comeM, asOf, rdOf, h1, h2, As.put, As.u, As.m, As.r, hk, e1, e3] at hA
   (rw [p_standing11 (a := A.1)]
    case K => subst hA; exact ⟨rfl, rfl, rfl⟩
    case h1 => subst hA; rfl
    case c1 => subst hA; rfl
    case d1 => subst hA; rfl
    case h2 => subst hA; rfl
    case c2 => subst hA; rfl
    case d2 => subst hA; rfl
    subst hA; simp [po_tup]))
theorem nextrenewOther_110 (r : Ru) (s : Sd) {w : Way} (h1 : s.one.way = some w) {v : Way} (h2 : s.two.way = some v) (hk : w.k = .renew) (e1 : s.ho.who = some true) (e3 : 0 < s.ho.left) : runFn (lev T (k + 3)) f__law_next [dRu r, dSd s, dEv (.op .arrive false)] n S = .ok (.tup [dSd (standM r (accM r (asOf s) (.op .arrive false)).1), .str (accM r (asOf s) (.op .arrive false)).2]) S := by
  rw [run_pure rfl rfl (by simp)]
  have hK : runFn (lev T (k + 2)) f__law_known [dSd s] 0 [] = _ := p_known11 s h1 h2
  (simp [f__law_next, b__law_next, Dq.envOf, hK, run_happen, b__law_happen, run_come, b__law_come, dEv, hoC, cRd, rdOf, wAsked, wYes, hk, e1, e3]
   generalize hA : accM r (asOf s) (.op .arrive false) = A
   simp [accM, comeM, asOf, rdOf, h1, h2, As.put, As.u, As.m, As.r, hk, e1, e3] at hA
   (rw [p_standing01 (a := A.1)]
    case K => subst hA; exact ⟨rfl, rfl, rfl⟩
    case h1 => subst hA; rfl
    case c1 => subst hA; rfl
    case h2 => subst hA; rfl
    case c2 => subst hA; rfl
    case d2 => subst hA; rfl
    subst hA; simp [po_tup]))
theorem nextyesC_110 (r : Ru) (s : Sd) {w : Way} (h1 : s.one.way = some w) {v : Way} (h2 : s.two.way = some v) (hk : w.k = .yes) (e3 : ¬ s.one.left < 0) (e4 : r.asked = false) : runFn (lev T (k + 3)) f__law_next [dRu r, dSd s, dEv (.op .arrive false)] n S = .ok (.tup [dSd (standM r (accM r (asOf s) (.op .arrive false)).1), .str (accM r (asOf s) (.op .arrive false)).2]) S := by
  rw [run_pure rfl rfl (by simp)]
  have hK : runFn (lev T (k + 2)) f__law_known [dSd s] 0 [] = _ := p_known11 s h1 h2
  by_cases e5 : r.lease ≤ s.one.left <;>
  (simp [f__law_next, b__law_next, Dq.envOf, hK, run_happen, b__law_happen, run_come, b__law_come, dEv, hoC, cRd, rdOf, wAsked, wYes, hk, e3, e4, e5]
   generalize hA : accM r (asOf s) (.op .arrive false) = A
   simp [accM, comeM, asOf, rdOf, h1, h2, As.put, As.u, As.m, As.r, hk, e3, e4, e5] at hA
   (rw [p_standing01 (a := A.1)]
    case K => subst hA; exact ⟨rfl, rfl, rfl⟩
    case h1 => subst hA; rfl
    case c1 => subst hA; rfl
    case h2 => subst hA; rfl
    case c2 => subst hA; rfl
    case d2 => subst hA; rfl
    subst hA; simp [po_tup]))
theorem nextyesA_110 (r : Ru) (s : Sd) {w : Way} (h1 : s.one.way = some w) {v : Way} (h2 : s.two.way = some v) (hk : w.k = .yes) (e3 : ¬ s.one.left < 0) (e4 : r.asked = true) : runFn (lev T (k + 3)) f__law_next [dRu r, dSd s, dEv (.op .arrive false)] n S = .ok (.tup [dSd (standM r (accM r (asOf s) (.op .arrive false)).1), .str (accM r (asOf s) (.op .arrive false)).2]) S := by
  rw [run_pure rfl rfl (by simp)]
  have hK : runFn (lev T (k + 2)) f__law_known [dSd s] 0 [] = _ := p_known11 s h1 h2
  by_cases e5 : 50 - w.since + r.lease ≤ 50 + s.one.left <;>
  (simp [f__law_next, b__law_next, Dq.envOf, hK, run_happen, b__law_happen, run_come, b__law_come, dEv, hoC, cRd, rdOf, wAsked, wYes, hk, e3, e4, e5]
   generalize hA : accM r (asOf s) (.op .arrive false) = A
   simp [accM, comeM, asOf, rdOf, h1, h2, As.put, As.u, As.m, As.r, hk, e3, e4, e5] at hA
   (rw [p_standing01 (a := A.1)]
    case K => subst hA; exact ⟨rfl, rfl, rfl⟩
    case h1 => subst hA; rfl
    case c1 => subst hA; rfl
    case h2 => subst hA; rfl
    case c2 => subst hA; rfl
    case d2 => subst hA; rfl
    subst hA; simp [po_tup]))
theorem nextback_111 (r : Ru) (s : Sd) {w : Way} (h1 : s.one.way = some w) {v : Way} (h2 : s.two.way = some v) (hk : v.k = .back)  : runFn (lev T (k + 3)) f__law_next [dRu r, dSd s, dEv (.op .arrive true)] n S = .ok (.tup [dSd (standM r (accM r (asOf s) (.op .arrive true)).1), .str (accM r (asOf s) (.op .arrive true)).2]) S := by
  rw [run_pure rfl rfl (by simp)]
  have hK : runFn (lev T (k + 2)) f__law_known [dSd s] 0 [] = _ := p_known11 s h1 h2
  by_cases e1 : 0 < s.ho.left <;>
  rcases hw : s.ho.who with _ | _ | _ <;>
  (simp [f__law_next, b__law_next, Dq.envOf, hK, run_happen, b__law_happen, run_come, b__law_come, dEv, hoC, cRd, rdOf, wAsked, wYes, hk, e1, hw]
   generalize hA : accM r (asOf s) (.op .arrive true) = A
   simp [accM, comeM, asOf, rdOf, h1, h2, As.put, As.u, As.m, As.r, hk, e1, hw] at hA
   (rw [p_standing10 (a := A.1)]
    case K => subst hA; exact ⟨rfl, rfl, rfl⟩
    case h1 => subst hA; rfl
    case c1 => subst hA; rfl
    case d1 => subst hA; rfl
    case h2 => subst hA; rfl
    case c2 => subst hA; rfl
    subst hA; simp [po_tup]))
theorem nextaskFree_111 (r : Ru) (s : Sd) {w : Way} (h1 : s.one.way = some w) {v : Way} (h2 : s.two.way = some v) (hk : v.k = .ask) (e1 : s.ho.who = none) (e2 : s.ho.rest ≤ 0) : runFn (lev T (k + 3)) f__law_next [dRu r, dSd s, dEv (.op .arrive true)] n S = .ok (.tup [dSd (standM r (accM r (asOf s) (.op .arrive true)).1), .str (accM r (asOf s) (.op .arrive true)).2]) S := by
  rw [run_pure rfl rfl (by simp)]
  have hK : runFn (lev T (k + 2)) f__law_known [dSd s] 0 [] = _ := p_known11 s h1 h2
  (simp [f__law_next, b__law_next, Dq.envOf, hK, run_happen, b__law_happen, run_come, b__law_come, dEv, hoC, cRd, rdOf, wAsked, wYes, hk, e1, e2]
   generalize hA : accM r (asOf s) (.op .arrive true) = A
   simp [accM, comeM, asOf, rdOf, h1, h2, As.put, As.u, As.m, As.r, hk, e1, e2] at hA
   (rw [p_standing11 (a := A.1)]
    case K => subst hA; exact ⟨rfl, rfl, rfl⟩
    case h1 => subst hA; rfl
    case c1 => subst hA; rfl
    case d1 => subst hA; rfl
    case h2 => subst hA; rfl
    case c2 => subst hA; rfl
    case d2 => subst hA; rfl
    subst hA; simp [po_tup]))
theorem nextaskRest_111 (r : Ru) (s : Sd) {w : Way} (h1 : s.one.way = some w) {v : Way} (h2 : s.two.way = some v) (hk : v.k = .ask) (e1 : s.ho.who = none) (e2 : ¬ s.ho.rest ≤ 0) : runFn (lev T (k + 3)) f__law_next [dRu r, dSd s, dEv (.op .arrive true)] n S = .ok (.tup [dSd (standM r (accM r (asOf s) (.op .arrive true)).1), .str (accM r (asOf s) (.op .arrive true)).2]) S := by
  rw [run_pure rfl rfl (by simp)]
  have hK : runFn (lev T (k + 2)) f__law_known [dSd s] 0 [] = _ := p_known11 s h1 h2
  by_cases e3 : 0 < s.ho.left <;>
  (simp [f__law_next, b__law_next, Dq.envOf, hK, run_happen, b__law_happen, run_come, b__law_come, dEv, hoC, cRd, rdOf, wAsked, wYes, hk, e1, e2, e3]
   generalize hA : accM r (asOf s) (.op .arrive true) = A
   simp [accM, comeM, asOf, rdOf, h1, h2, As.put, As.u, As.m, As.r, hk, e1, e2, e3] at hA
   (rw [p_standing10 (a := A.1)]
    case K => subst hA; exact ⟨rfl, rfl, rfl⟩
    case h1 => subst hA; rfl
    case c1 => subst hA; rfl
    case d1 => subst hA; rfl
    case h2 => subst hA; rfl
    case c2 => subst hA; rfl
    subst hA; simp [po_tup]))
theorem nextaskMine_111 (r : Ru) (s : Sd) {w : Way} (h1 : s.one.way = some w) {v : Way} (h2 : s.two.way = some v) (hk : v.k = .ask) (e1 : s.ho.who = some true) (e3 : 0 < s.ho.left) : runFn (lev T (k + 3)) f__law_next [dRu r, dSd s, dEv (.op .arrive true)] n S = .ok (.tup [dSd (standM r (accM r (asOf s) (.op .arrive true)).1), .str (accM r (asOf s) (.op .arrive true)).2]) S := by
  rw [run_pure rfl rfl (by simp)]
  have hK : runFn (lev T (k + 2)) f__law_known [dSd s] 0 [] = _ := p_known11 s h1 h2
  (simp [f__law_next, b__law_next, Dq.envOf, hK, run_happen, b__law_happen, run_come, b__law_come, dEv, hoC, cRd, rdOf, wAsked, wYes, hk, e1, e3]
   generalize hA : accM r (asOf s) (.op .arrive true) = A
   simp [accM, comeM, asOf, rdOf, h1, h2, As.put, As.u, As.m, As.r, hk, e1, e3] at hA
   (rw [p_standing11 (a := A.1)]
    case K => subst hA; exact ⟨rfl, rfl, rfl⟩
    case h1 => subst hA; rfl
    case c1 => subst hA; rfl
    case d1 => subst hA; rfl
    case h2 => subst hA; rfl
    case c2 => subst hA; rfl
    case d2 => subst hA; rfl
    subst hA; simp [po_tup]))
theorem nextaskOther_111 (r : Ru) (s : Sd) {w : Way} (h1 : s.one.way = some w) {v : Way} (h2 : s.two.way = some v) (hk : v.k = .ask) (e1 : s.ho.who = some false) (e3 : 0 < s.ho.left) : runFn (lev T (k + 3)) f__law_next [dRu r, dSd s, dEv (.op .arrive true)] n S = .ok (.tup [dSd (standM r (accM r (asOf s) (.op .arrive true)).1), .str (accM r (asOf s) (.op .arrive true)).2]) S := by
  rw [run_pure rfl rfl (by simp)]
  have hK : runFn (lev T (k + 2)) f__law_known [dSd s] 0 [] = _ := p_known11 s h1 h2
  (simp [f__law_next, b__law_next, Dq.envOf, hK, run_happen, b__law_happen, run_come, b__law_come, dEv, hoC, cRd, rdOf, wAsked, wYes, hk, e1, e3]
   generalize hA : accM r (asOf s) (.op .arrive true) = A
   simp [accM, comeM, asOf, rdOf, h1, h2, As.put, As.u, As.m, As.r, hk, e1, e3] at hA
   (rw [p_standing10 (a := A.1)]
    case K => subst hA; exact ⟨rfl, rfl, rfl⟩
    case h1 => subst hA; rfl
    case c1 => subst hA; rfl
    case d1 => subst hA; rfl
    case h2 => subst hA; rfl
    case c2 => subst hA; rfl
    subst hA; simp [po_tup]))
theorem nextrenewFree_111 (r : Ru) (s : Sd) {w : Way} (h1 : s.one.way = some w) {v : Way} (h2 : s.two.way = some v) (hk : v.k = .renew) (e1 : s.ho.who = none) (e2 : s.ho.rest ≤ 0) (ea : r.again = true) : runFn (lev T (k + 3)) f__law_next [dRu r, dSd s, dEv (.op .arrive true)] n S = .ok (.tup [dSd (standM r (accM r (asOf s) (.op .arrive true)).1), .str (accM r (asOf s) (.op .arrive true)).2]) S := by
  rw [run_pure rfl rfl (by simp)]
  have hK : runFn (lev T (k + 2)) f__law_known [dSd s] 0 [] = _ := p_known11 s h1 h2
  (simp [f__law_next, b__law_next, Dq.envOf, hK, run_happen, b__law_happen, run_come, b__law_come, dEv, hoC, cRd, rdOf, wAsked, wYes, hk, e1, e2, ea]
   generalize hA : accM r (asOf s) (.op .arrive true) = A
   simp [accM, comeM, asOf, rdOf, h1, h2, As.put, As.u, As.m, As.r, hk, e1, e2, ea] at hA
   (rw [p_standing11 (a := A.1)]
    case K => subst hA; exact ⟨rfl, rfl, rfl⟩
    case h1 => subst hA; rfl
    case c1 => subst hA; rfl
    case d1 => subst hA; rfl
    case h2 => subst hA; rfl
    case c2 => subst hA; rfl
    case d2 => subst hA; rfl
    subst hA; simp [po_tup]))
theorem nextrenewRest_111 (r : Ru) (s : Sd) {w : Way} (h1 : s.one.way = some w) {v : Way} (h2 : s.two.way = some v) (hk : v.k = .renew) (e1 : s.ho.who = none) (e2 : ¬ s.ho.rest ≤ 0) : runFn (lev T (k + 3)) f__law_next [dRu r, dSd s, dEv (.op .arrive true)] n S = .ok (.tup [dSd (standM r (accM r (asOf s) (.op .arrive true)).1), .str (accM r (asOf s) (.op .arrive true)).2]) S := by
  rw [run_pure rfl rfl (by simp)]
  have hK : runFn (lev T (k + 2)) f__law_known [dSd s] 0 [] = _ := p_known11 s h1 h2
  by_cases e3 : 0 < s.ho.left <;>
  (simp [f__law_next, b__law_next, Dq.envOf, hK, run_happen, b__law_happen, run_come, b__law_come, dEv, hoC, cRd, rdOf, wAsked, wYes, hk, e1, e2, e3]
   generalize hA : accM r (asOf s) (.op .arrive true) = A
   simp [accM, comeM, asOf, rdOf, h1, h2, As.put, As.u, As.m, As.r, hk, e1, e2, e3] at hA
   (rw [p_standing10 (a := A.1)]
    case K => subst hA; exact ⟨rfl, rfl, rfl⟩
    case h1 => subst hA; rfl
    case c1 => subst hA; rfl
    case d1 => subst hA; rfl
    case h2 => subst hA; rfl
    case c2 => subst hA; rfl
    subst hA; simp [po_tup]))
theorem nextrenewNo_111 (r : Ru) (s : Sd) {w : Way} (h1 : s.one.way = some w) {v : Way} (h2 : s.two.way = some v) (hk : v.k = .renew) (e1 : s.ho.who = none) (ea : r.again = false) : runFn (lev T (k + 3)) f__law_next [dRu r, dSd s, dEv (.op .arrive true)] n S = .ok (.tup [dSd (standM r (accM r (asOf s) (.op .arrive true)).1), .str (accM r (asOf s) (.op .arrive true)).2]) S := by
  rw [run_pure rfl rfl (by simp)]
  have hK : runFn (lev T (k + 2)) f__law_known [dSd s] 0 [] = _ := p_known11 s h1 h2
  by_cases e3 : 0 < s.ho.left <;>
  (simp [f__law_next, b__law_next, Dq.envOf, hK, run_happen, b__law_happen, run_come, b__law_come, dEv, hoC, cRd, rdOf, wAsked, wYes, hk, e1, ea, e3]
   generalize hA : accM r (asOf s) (.op .arrive true) = A
   simp [accM, comeM, asOf, rdOf, h1, h2, As.put, As.u, As.m, As.r, hk, e1, ea, e3] at hA
   (rw [p_standing10 (a := A.1)]
    case K => subst hA; exact ⟨rfl, rfl, rfl⟩
    case h1 => subst hA; rfl
    case c1 => subst hA; rfl
    case d1 => subst hA; rfl
    case h2 => subst hA; rfl
    case c2 => subst hA; rfl
    subst hA; simp [po_tup]))
theorem nextrenewMine_111 (r : Ru) (s : Sd) {w : Way} (h1 : s.one.way = some w) {v : Way} (h2 : s.two.way = some v) (hk : v.k = .renew) (e1 : s.ho.who = some true) (e3 : 0 < s.ho.left) : runFn (lev T (k + 3)) f__law_next [dRu r, dSd s, dEv (.op .arrive true)] n S = .ok (.tup [dSd (standM r (accM r (asOf s) (.op .arrive true)).1), .str (accM r (asOf s) (.op .arrive true)).2]) S := by
  rw [run_pure rfl rfl (by simp)]
  have hK : runFn (lev T (k + 2)) f__law_known [dSd s] 0 [] = _ := p_known11 s h1 h2
  (simp [f__law_next, b__law_next, Dq.envOf, hK, run_happen, b__law_happen, run_come, b__law_come, dEv, hoC, cRd, rdOf, wAsked, wYes, hk, e1, e3]
   generalize hA : accM r (asOf s) (.op .arrive true) = A
   simp [accM, comeM, asOf, rdOf, h1, h2, As.put, As.u, As.m, As.r, hk, e1, e3] at hA
   (rw [p_standing11 (a := A.1)]
    case K => subst hA; exact ⟨rfl, rfl, rfl⟩
    case h1 => subst hA; rfl
    case c1 => subst hA; rfl
    case d1 => subst hA; rfl
    case h2 => subst hA; rfl
    case c2 => subst hA; rfl
    case d2 => subst hA; rfl
    subst hA; simp [po_tup]))
theorem nextrenewOther_111 (r : Ru) (s : Sd) {w : Way} (h1 : s.one.way = some w) {v : Way} (h2 : s.two.way = some v) (hk : v.k = .renew) (e1 : s.ho.who = some false) (e3 : 0 < s.ho.left) : runFn (lev T (k + 3)) f__law_next [dRu r, dSd s, dEv (.op .arrive true)] n S = .ok (.tup [dSd (standM r (accM r (asOf s) (.op .arrive true)).1), .str (accM r (asOf s) (.op .arrive true)).2]) S := by
  rw [run_pure rfl rfl (by simp)]
  have hK : runFn (lev T (k + 2)) f__law_known [dSd s] 0 [] = _ := p_known11 s h1 h2
  (simp [f__law_next, b__law_next, Dq.envOf, hK, run_happen, b__law_happen, run_come, b__law_come, dEv, hoC, cRd, rdOf, wAsked, wYes, hk, e1, e3]
   generalize hA : accM r (asOf s) (.op .arrive true) = A
   simp [accM, comeM, asOf, rdOf, h1, h2, As.put, As.u, As.m, As.r, hk, e1, e3] at hA
   (rw [p_standing10 (a := A.1)]
    case K => subst hA; exact ⟨rfl, rfl, rfl⟩
    case h1 => subst hA; rfl
    case c1 => subst hA; rfl
    case d1 => subst hA; rfl
    case h2 => subst hA; rfl
    case c2 => subst hA; rfl
    subst hA; simp [po_tup]))
theorem nextyesC_111 (r : Ru) (s : Sd) {w : Way} (h1 : s.one.way = some w) {v : Way} (h2 : s.two.way = some v) (hk : v.k = .yes) (e3 : ¬ s.two.left < 0) (e4 : r.asked = false) : runFn (lev T (k + 3)) f__law_next [dRu r, dSd s, dEv (.op .arrive true)] n S = .ok (.tup [dSd (standM r (accM r (asOf s) (.op .arrive true)).1), .str (accM r (asOf s) (.op .arrive true)).2]) S := by
  rw [run_pure rfl rfl (by simp)]
  have hK : runFn (lev T (k + 2)) f__law_known [dSd s] 0 [] = _ := p_known11 s h1 h2
  by_cases e5 : r.lease ≤ s.two.left <;>
  (simp [f__law_next, b__law_next, Dq.envOf, hK, run_happen, b__law_happen, run_come, b__law_come, dEv, hoC, cRd, rdOf, wAsked, wYes, hk, e3, e4, e5]
   generalize hA : accM r (asOf s) (.op .arrive true) = A
   simp [accM, comeM, asOf, rdOf, h1, h2, As.put, As.u, As.m, As.r, hk, e3, e4, e5] at hA
   (rw [p_standing10 (a := A.1)]
    case K => subst hA; exact ⟨rfl, rfl, rfl⟩
    case h1 => subst hA; rfl
    case c1 => subst hA; rfl
    case d1 => subst hA; rfl
    case h2 => subst hA; rfl
    case c2 => subst hA; rfl
    subst hA; simp [po_tup]))
theorem nextyesA_111 (r : Ru) (s : Sd) {w : Way} (h1 : s.one.way = some w) {v : Way} (h2 : s.two.way = some v) (hk : v.k = .yes) (e3 : ¬ s.two.left < 0) (e4 : r.asked = true) : runFn (lev T (k + 3)) f__law_next [dRu r, dSd s, dEv (.op .arrive true)] n S = .ok (.tup [dSd (standM r (accM r (asOf s) (.op .arrive true)).1), .str (accM r (asOf s) (.op .arrive true)).2]) S := by
  rw [run_pure rfl rfl (by simp)]
  have hK : runFn (lev T (k + 2)) f__law_known [dSd s] 0 [] = _ := p_known11 s h1 h2
  by_cases e5 : 50 - v.since + r.lease ≤ 50 + s.two.left <;>
  (simp [f__law_next, b__law_next, Dq.envOf, hK, run_happen, b__law_happen, run_come, b__law_come, dEv, hoC, cRd, rdOf, wAsked, wYes, hk, e3, e4, e5]
   generalize hA : accM r (asOf s) (.op .arrive true) = A
   simp [accM, comeM, asOf, rdOf, h1, h2, As.put, As.u, As.m, As.r, hk, e3, e4, e5] at hA
   (rw [p_standing10 (a := A.1)]
    case K => subst hA; exact ⟨rfl, rfl, rfl⟩
    case h1 => subst hA; rfl
    case c1 => subst hA; rfl
    case d1 => subst hA; rfl
    case h2 => subst hA; rfl
    case c2 => subst hA; rfl
    subst hA; simp [po_tup]))
end
end Lw
set_option Elab.async false
set_option linter.all false
set_option maxRecDepth 100000
set_option maxHeartbeats 4000000
/-! M12: plain: the account told as a stand is what the package does. -/
namespace Lw
open PySem PySem.Spec PyProof.Rows Dq
section
theorem sset_congr {L L' : List Int} (h : ∀ x, x ∈ L ↔ x ∈ L') : sset L = sset L' := lt_unique (sset_lt L) (sset_lt L') fun x => by rw [mem_sset, mem_sset]; exact h x
theorem rk_congr {L L' : List Int} (h : ∀ x, x ∈ L ↔ x ∈ L') (x : Int) : rk L x = rk L' x := by unfold rk; rw [sset_congr h]
/-- 0 is the least -/
theorem rk_zero {L : List Int} (h0 : (0 : Int) ∈ L) (hp : ∀ x ∈ L, 0 ≤ x) : rk L 0 = 0 := by
  have h1 : (0 : Int) ∈ sset L := (mem_sset 0 L).mpr h0
  have h2 := sset_lt L
  unfold rk
  cases e : sset L with
  | nil => rw [e] at h1; cases h1
  | cons y r =>
    rw [e] at h1 h2
    rcases List.mem_cons.mp h1 with z | z
    · rw [← z]; simp
    · have hy : y < 0 := (List.pairwise_cons.mp h2).1 0 z
      have : y ∈ L := (mem_sset y L).mp (by rw [e]; exact List.mem_cons_self)
      have := hp y this
      omega
def preWay (r : Ru) (now : Int) (q : Rd) : Way := ⟨q.k, now - q.t1, if q.k = .back then 0 else if now - q.t2 < r.lease then now - q.t2 else r.lease, q.num⟩
def preCl (r : Ru) (now u m : Int) (q : Option Rd) : Cl := if now < u then ⟨u - now, m, q.map (preWay r now)⟩ else ⟨0, 0, q.map (preWay r now)⟩
def preM (r : Ru) (a : As) : Sd := ⟨if a.who ≠ none ∧ a.now < a.hu then ⟨a.who, a.hu - a.now, 0, a.hn⟩ else ⟨none, 0, if 0 < a.hr - a.now then a.hr - a.now else 0, a.hn⟩, a.used, preCl r a.now a.u1 a.n1 a.r1, preCl r a.now a.u2 a.n2 a.r2⟩
theorem mem_pre (r : Ru) (a : As) (x : Int) : x ∈ nsA a ↔ x ∈ numsM (preM r a) ++ [0] := by
  obtain ⟨now, who, hu, hr, hn, used, u1, n1, r1, u2, n2, r2⟩ := a
  have e0 : (preM r ⟨now, who, hu, hr, hn, used, u1, n1, r1, u2, n2, r2⟩).ho.num = hn := by unfold preM; dsimp only; split <;> rfl
  by_cases e1 : now < u1 <;> by_cases e2 : now < u2 <;> cases r1 <;> cases r2 <;>
    simp only [numsM, e0] <;> simp [nsA, insR, preM, preCl, preWay, wNums, e1, e2] <;> constructor <;> intro h <;> omega
theorem rankBy_congr {L L' : List Int} (h : ∀ x, rk L x = rk L' x) (s : Sd) : rankBy L s = rankBy L' s := by
  have e : rk L = rk L' := funext h
  have e1 : rkWay L = rkWay L' := by funext w; unfold rkWay; rw [e]
  have e2 : rkCl L = rkCl L' := by funext c; unfold rkCl; rw [e, e1]
  unfold rankBy
  rw [e, e2]
theorem stand_rank (r : Ru) (a : As) (hp : ∀ x ∈ nsA a, 0 ≤ x) : standM r a = rankM (preM r a) := by
  have h0 : (0 : Int) ∈ nsA a := (mem_pre r a 0).mpr (by simp)
  have hz := rk_zero h0 hp
  unfold rankM
  rw [rankBy_congr (L' := nsA a) fun x => (rk_congr (mem_pre r a) x).symm]
  unfold standM rankBy
  generalize nsA a = L at hz
  obtain ⟨now, who, hu, hr, hn, used, u1, n1, r1, u2, n2, r2⟩ := a
  have hcl : ∀ (u m : Int) (q : Option Rd), clA r now L u m q = rkCl L (preCl r now u m q) := fun u m q => by
    unfold clA preCl rkCl
    split
    · cases q <;> simp [rkWay, preWay, wayA]
    · cases q <;> simp [hz, rkWay, preWay, wayA]
  simp only [preM, hcl]
  congr 1
  split <;> rfl
end
end Lw
set_option Elab.async false
set_option linter.all false
set_option maxRecDepth 100000
set_option maxHeartbeats 4000000
/-! M13: the two accounts of an event agree. -/
namespace Lw
open PySem PySem.Spec PyProof.Rows Dq
section
structure OkW (r : Ru) (w : Way) : Prop where
  s0 : 0 ≤ w.since
  s1 : w.since ≤ r.lease
  bk : w.k = .back → w.since = 0
structure OkC (r : Ru) (c : Cl) : Prop where
  l0 : 0 ≤ c.left
  z : c.left = 0 → c.num = 0
  w : ∀ w, c.way = some w → OkW r w
structure OkS (r : Ru) (s : Sd) : Prop where
  keep : 1 ≤ r.keep
  lease : 1 ≤ r.lease
  rest : 0 ≤ r.rest
  some_ : ∀ c, s.ho.who = some c → 1 ≤ s.ho.left ∧ s.ho.rest = 0
  none_ : s.ho.who = none → s.ho.left = 0 ∧ 0 ≤ s.ho.rest
  one : OkC r s.one
  two : OkC r s.two
theorem pre_cl (r : Ru) (c : Cl) (o : OkC r c) (hl : 1 ≤ r.lease) : preCl r 50 (50 + c.left) c.num (c.way.map rdOf) = c := by
  obtain ⟨l, m, w⟩ := c
  have h0 := o.l0
  have hz := o.z
  dsimp only at h0 hz
  have hw : (w.map rdOf).map (preWay r 50) = w := by
    cases w with
    | none => rfl
    | some w =>
      obtain ⟨k, a, s, u⟩ := w
      have q := o.w _ rfl
      have q1 := q.s0
      have q2 := q.s1
      have q3 := q.bk
      dsimp only at q1 q2 q3
      simp only [Option.map_some, preWay, rdOf, Option.some.injEq, Way.mk.injEq, true_and, and_true]
      refine ⟨by omega, ?_⟩
      split
      · rename_i e; rw [q3 e]
      · split <;> omega
  unfold preCl
  dsimp only
  rw [hw]
  split
  · congr 1; omega
  · have : l = 0 := by omega
    rw [hz this, this]
theorem pre_ho (r : Ru) (s : Sd) (o : OkS r s) : (preM r (asOf s)).ho = s.ho := by
  obtain ⟨⟨wh, l, e, m⟩, u, c1, c2⟩ := s
  have h1 := o.some_
  have h2 := o.none_
  dsimp only at h1 h2
  unfold preM asOf
  dsimp only
  cases wh with
  | none =>
    obtain ⟨z1, z2⟩ := h2 rfl
    simp
    omega
  | some c =>
    obtain ⟨z1, z2⟩ := h1 c rfl
    rw [if_pos ⟨by simp, by omega⟩]
    subst z2
    congr 1
    omega
theorem pre_id (r : Ru) (s : Sd) (o : OkS r s) : preM r (asOf s) = s := by
  have h1 := pre_ho r s o
  have h2 := pre_cl r s.one o.one o.lease
  have h3 := pre_cl r s.two o.two o.lease
  have e : preM r (asOf s) = ⟨(preM r (asOf s)).ho, s.used, preCl r 50 (50 + s.one.left) s.one.num (s.one.way.map rdOf), preCl r 50 (50 + s.two.left) s.two.num (s.two.way.map rdOf)⟩ := rfl
  rw [e, h1, h2, h3]
end
end Lw
set_option Elab.async false
set_option linter.all false
set_option maxRecDepth 100000
set_option maxHeartbeats 4000000
/-! M14: the two accounts agree, event by event. -/
namespace Lw
open PySem PySem.Spec PyProof.Rows Dq
section
theorem pre_later (r : Ru) (c : Cl) (o : OkC r c) : preCl r 51 (50 + c.left) c.num (c.way.map rdOf) = laterM r c := by
  obtain ⟨l, m, w⟩ := c
  have h0 := o.l0
  dsimp only at h0
  have hw : (w.map rdOf).map (preWay r 51) = w.map (laterW r) := by
    cases w with
    | none => rfl
    | some w =>
      obtain ⟨k, a, s, u⟩ := w
      simp only [Option.map_some, preWay, rdOf, laterW, Option.some.injEq, Way.mk.injEq, true_and, and_true]
      refine ⟨by omega, ?_⟩
      cases k <;> simp <;> (repeat' split) <;> omega
  unfold preCl laterM
  dsimp only
  rw [hw]
  by_cases h : 1 < l
  · rw [if_pos (by omega), if_pos h]
    congr 1
    omega
  · rw [if_neg (by omega), if_neg h]
theorem acc_tick (r : Ru) (s : Sd) (o : OkS r s) : preM r (accM r (asOf s) .tick).1 = tickedM r s := by
  have h2 := pre_later r s.one o.one
  have h3 := pre_later r s.two o.two
  have ee : preM r (accM r (asOf s) .tick).1 = ⟨(preM r (accM r (asOf s) .tick).1).ho, s.used, preCl r 51 (50 + s.one.left) s.one.num (s.one.way.map rdOf), preCl r 51 (50 + s.two.left) s.two.num (s.two.way.map rdOf)⟩ := rfl
  rw [ee, h2, h3]
  clear ee h2 h3
  unfold tickedM
  congr 1
  obtain ⟨⟨wh, l, e, m⟩, u, c1, c2⟩ := s
  have h1 := o.some_
  have h4 := o.none_
  dsimp only at h1 h4
  show (if wh ≠ none ∧ (50 : Int) + 1 < 50 + l then Ho.mk wh (50 + l - (50 + 1)) 0 m else ⟨none, 0, if (0 : Int) < 50 + e - (50 + 1) then 50 + e - (50 + 1) else 0, m⟩) = if 1 < l then ⟨wh, l - 1, 0, m⟩ else ⟨none, 0, if 0 < e - 1 then e - 1 else 0, m⟩
  have e1 : (50 : Int) + l - (50 + 1) = l - 1 := by omega
  have e2 : (50 : Int) + e - (50 + 1) = e - 1 := by omega
  rw [e1, e2]
  by_cases h : 1 < l
  · rw [if_pos h, if_pos]
    refine ⟨fun z => ?_, by omega⟩
    have := (h4 z).1
    omega
  · rw [if_neg h, if_neg]
    intro z
    omega
theorem acc_fall (r : Ru) (s : Sd) (o : OkS r s) : preM r (accM r (asOf s) .fall).1 = (happenedM r s .fall).1 := by
  have h2 := pre_cl r s.one o.one o.lease
  have h3 := pre_cl r s.two o.two o.lease
  have h4 := o.rest
  have ee : preM r (accM r (asOf s) .fall).1 = ⟨if (none : Option Bool) ≠ none ∧ (50 : Int) < 50 then ⟨none, 50 - 50, 0, s.ho.num⟩ else ⟨none, 0, if 0 < 50 + r.rest - 50 then 50 + r.rest - 50 else 0, s.ho.num⟩, s.used, preCl r 50 (50 + s.one.left) s.one.num (s.one.way.map rdOf), preCl r 50 (50 + s.two.left) s.two.num (s.two.way.map rdOf)⟩ := rfl
  rw [ee, h2, h3, if_neg (fun z => z.1 rfl)]
  have e1 : (if (0 : Int) < 50 + r.rest - 50 then 50 + r.rest - 50 else 0) = r.rest := by split <;> omega
  rw [e1]
  rfl
/-- a client put, the house as it was -/
theorem acc_put (r : Ru) (s : Sd) (o : OkS r s) (c : Bool) (u m : Int) (q : Option Rd) (v : Cl) (h : preCl r 50 u m q = v) : preM r ((asOf s).put c u m q) = s.put c v := by
  have h1 := pre_ho r s o
  have h2 := pre_cl r s.one o.one o.lease
  have h3 := pre_cl r s.two o.two o.lease
  cases c with
  | false =>
    have e : preM r ((asOf s).put false u m q) = ⟨(preM r (asOf s)).ho, s.used, preCl r 50 u m q, preCl r 50 (50 + s.two.left) s.two.num (s.two.way.map rdOf)⟩ := rfl
    rw [e, h1, h3, h]
    rfl
  | true =>
    have e : preM r ((asOf s).put true u m q) = ⟨(preM r (asOf s)).ho, s.used, preCl r 50 (50 + s.one.left) s.one.num (s.one.way.map rdOf), preCl r 50 u m q⟩ := rfl
    rw [e, h1, h2, h]
    rfl
theorem pre_put (r : Ru) (c : Cl) (o : OkC r c) (q : Option Rd) : preCl r 50 (50 + c.left) c.num q = ⟨c.left, c.num, q.map (preWay r 50)⟩ := by
  obtain ⟨l, m, w⟩ := c
  have h0 := o.l0
  have hz := o.z
  dsimp only at h0 hz
  unfold preCl
  dsimp only
  split
  · congr 1; omega
  · have : l = 0 := by omega
    rw [hz this, this]
theorem OkS.cl {r : Ru} {s : Sd} (o : OkS r s) (c : Bool) : OkC r (s.cl c) := by cases c <;> first | exact o.one | exact o.two
theorem asU (s : Sd) (c : Bool) : (asOf s).u c = 50 + (s.cl c).left ∧ (asOf s).m c = (s.cl c).num := by cases c <;> exact ⟨rfl, rfl⟩
theorem acc_lose (r : Ru) (s : Sd) (o : OkS r s) (c : Bool) : preM r (accM r (asOf s) (.op .lose c)).1 = (happenedM r s (.op .lose c)).1 := by
  obtain ⟨e1, e2⟩ := asU s c
  show preM r ((asOf s).put c ((asOf s).u c) ((asOf s).m c) none) = s.put c ⟨(s.cl c).left, (s.cl c).num, none⟩
  rw [e1, e2]
  exact acc_put r s o c _ _ _ _ (pre_put r _ (o.cl c) none)
theorem new_way (r : Ru) (k : Kw) (hl : 1 ≤ r.lease) : preWay r 50 ⟨k, 50, 50, 0⟩ = ⟨k, 0, 0, 0⟩ := by
  unfold preWay
  dsimp only
  have : (if k = .back then (0 : Int) else if (50 : Int) - 50 < r.lease then 50 - 50 else r.lease) = 0 := by
    split
    · rfl
    · rw [if_pos (by omega)]; rfl
  rw [this]
  rfl
theorem acc_ask (r : Ru) (s : Sd) (o : OkS r s) (c : Bool) : preM r (accM r (asOf s) (.op .ask c)).1 = (happenedM r s (.op .ask c)).1 := by
  obtain ⟨e1, e2⟩ := asU s c
  show preM r ((asOf s).put c ((asOf s).u c) ((asOf s).m c) (some ⟨.ask, 50, 50, 0⟩)) = s.put c ⟨(s.cl c).left, (s.cl c).num, some ⟨.ask, 0, 0, 0⟩⟩
  rw [e1, e2]
  refine acc_put r s o c _ _ _ _ ?_
  rw [pre_put r _ (o.cl c)]
  simp [new_way r _ o.lease]
theorem acc_renew (r : Ru) (s : Sd) (o : OkS r s) (c : Bool) : preM r (accM r (asOf s) (.op .renew c)).1 = (happenedM r s (.op .renew c)).1 := by
  obtain ⟨e1, e2⟩ := asU s c
  show preM r ((asOf s).put c ((asOf s).u c) ((asOf s).m c) (some ⟨.renew, 50, 50, 0⟩)) = s.put c ⟨(s.cl c).left, (s.cl c).num, some ⟨.renew, 0, 0, 0⟩⟩
  rw [e1, e2]
  refine acc_put r s o c _ _ _ _ ?_
  rw [pre_put r _ (o.cl c)]
  simp [new_way r _ o.lease]
theorem acc_back (r : Ru) (s : Sd) (o : OkS r s) (c : Bool) : preM r (accM r (asOf s) (.op .back c)).1 = (happenedM r s (.op .back c)).1 := by
  show preM r ((asOf s).put c 50 ((asOf s).m c) (some ⟨.back, 50, 50, 0⟩)) = s.put c ⟨0, 0, some ⟨.back, 0, 0, 0⟩⟩
  refine acc_put r s o c _ _ _ _ ?_
  unfold preCl
  rw [if_neg (by omega)]
  simp [new_way r _ o.lease]
theorem acc_use (r : Ru) (s : Sd) (o : OkS r s) (c : Bool) : preM r (accM r (asOf s) (.op .use c)).1 = (happenedM r s (.op .use c)).1 ∧ (accM r (asOf s) (.op .use c)).2 = (happenedM r s (.op .use c)).2 := by
  obtain ⟨e1, e2⟩ := asU s c
  have h0 := pre_id r s o
  have e3 : (asOf s).used = s.used := rfl
  simp only [accM, happenedM, e2, e3]
  by_cases h : r.numb = true ∧ (s.cl c).num < s.used
  · rw [if_pos h, if_pos h]
    exact ⟨h0, rfl⟩
  · rw [if_neg h, if_neg h]
    refine ⟨?_, rfl⟩
    generalize (if (s.cl c).num < s.used then s.used else (s.cl c).num) = x
    have e4 : preM r { asOf s with used := x } = { preM r (asOf s) with used := x } := rfl
    show preM r { asOf s with used := x } = _
    rw [e4, h0]
end
end Lw
set_option Elab.async false
set_option linter.all false
set_option maxRecDepth 100000
set_option maxHeartbeats 4000000
/-! M15: right stands stay right. -/
namespace Lw
open PySem PySem.Spec PyProof.Rows Dq
section
structure Wo where
  delay : Int
  lossy : Bool
  falls : Bool
def dWo (w : Wo) : D := .tup [.int w.delay, .bl w.lossy, .bl w.falls]
structure VR (r : Ru) : Prop where
  k0 : 1 ≤ r.keep
  k1 : r.keep ≤ 4
  l0 : 1 ≤ r.lease
  l1 : r.lease ≤ 4
  r0 : 0 ≤ r.rest
  r1 : r.rest ≤ 4
structure VP (w : Wo) : Prop where
  d0 : 0 ≤ w.delay
  d1 : w.delay ≤ 2
structure VW (w : Wo) (r : Ru) (M : Int) (y : Way) : Prop where
  a0 : 0 ≤ y.age
  a1 : y.age ≤ w.delay
  s0 : 0 ≤ y.since
  s1 : y.since ≤ r.lease
  bk : y.k = .back → y.since = 0
  nb : y.k ≠ .back → y.age ≤ y.since ∨ r.lease ≤ y.since
  n0 : 0 ≤ y.num
  n1 : y.num ≤ M
  ny : 0 < y.num ↔ y.k = .yes
structure VC (w : Wo) (r : Ru) (M : Int) (c : Cl) : Prop where
  l0 : 0 ≤ c.left
  l1 : c.left ≤ r.lease
  n0 : 0 ≤ c.num
  n1 : c.num ≤ M
  ln : 0 < c.left ↔ 0 < c.num
  w : ∀ y, c.way = some y → VW w r M y
structure VS (w : Wo) (r : Ru) (s : Sd) : Prop where
  vr : VR r
  vp : VP w
  some_ : ∀ c, s.ho.who = some c → 1 ≤ s.ho.left ∧ s.ho.left ≤ r.keep ∧ s.ho.rest = 0 ∧ 0 < s.ho.num
  none_ : s.ho.who = none → s.ho.left = 0 ∧ 0 ≤ s.ho.rest ∧ s.ho.rest ≤ r.rest
  h0 : 0 ≤ s.ho.num
  u0 : 0 ≤ s.used
  u1 : s.used ≤ s.ho.num
  one : VC w r s.ho.num s.one
  two : VC w r s.ho.num s.two
/-- what may happen -/
def Pos (w : Wo) (s : Sd) : Ev → Prop
  | .tick => (∀ y, s.one.way = some y → y.age ≠ w.delay) ∧ (∀ y, s.two.way = some y → y.age ≠ w.delay)
  | .fall => w.falls = true
  | .op .use c => 0 < (s.cl c).left
  | .op .ask c => (s.cl c).way = none ∧ ¬ 0 < (s.cl c).left
  | .op .renew c => (s.cl c).way = none ∧ 0 < (s.cl c).left
  | .op .back c => (s.cl c).way = none ∧ 0 < (s.cl c).left
  | .op .arrive c => (s.cl c).way ≠ none
  | .op .lose c => (s.cl c).way ≠ none ∧ w.lossy = true
theorem VW.up {w : Wo} {r : Ru} {M N : Int} {y : Way} (v : VW w r M y) (h : M ≤ N) : VW w r N y :=
  ⟨v.a0, v.a1, v.s0, v.s1, v.bk, v.nb, v.n0, Int.le_trans v.n1 h, v.ny⟩
theorem VC.up {w : Wo} {r : Ru} {M N : Int} {c : Cl} (v : VC w r M c) (h : M ≤ N) : VC w r N c :=
  ⟨v.l0, v.l1, v.n0, Int.le_trans v.n1 h, v.ln, fun y e => (v.w y e).up h⟩
theorem VC.drop {w : Wo} {r : Ru} {M : Int} {c : Cl} (v : VC w r M c) : VC w r M ⟨c.left, c.num, none⟩ :=
  ⟨v.l0, v.l1, v.n0, v.n1, v.ln, fun y e => (nomatch e)⟩
theorem VC.wy {w : Wo} {r : Ru} {M : Int} {c : Cl} (v : VC w r M c) {y : Way} (h : VW w r M y) : VC w r M ⟨c.left, c.num, some y⟩ :=
  ⟨v.l0, v.l1, v.n0, v.n1, v.ln, fun z e => by cases e; exact h⟩
theorem VS.cl {w : Wo} {r : Ru} {s : Sd} (v : VS w r s) (c : Bool) : VC w r s.ho.num (s.cl c) := by
  cases c
  · exact v.one
  · exact v.two
theorem VS.put {w : Wo} {r : Ru} {s : Sd} (v : VS w r s) (c : Bool) {x : Cl} (h : VC w r s.ho.num x) : VS w r (s.put c x) := by
  cases c
  · exact ⟨v.vr, v.vp, v.some_, v.none_, v.h0, v.u0, v.u1, h, v.two⟩
  · exact ⟨v.vr, v.vp, v.some_, v.none_, v.h0, v.u0, v.u1, v.one, h⟩
theorem VS.ho {w : Wo} {r : Ru} {s : Sd} (v : VS w r s) (h : Ho) (h1 : ∀ c, h.who = some c → 1 ≤ h.left ∧ h.left ≤ r.keep ∧ h.rest = 0 ∧ 0 < h.num) (h2 : h.who = none → h.left = 0 ∧ 0 ≤ h.rest ∧ h.rest ≤ r.rest) (h3 : s.ho.num ≤ h.num) : VS w r ⟨h, s.used, s.one, s.two⟩ :=
  ⟨v.vr, v.vp, h1, h2, Int.le_trans v.h0 h3, v.u0, Int.le_trans v.u1 h3, v.one.up h3, v.two.up h3⟩
theorem VW.new {w : Wo} {r : Ru} {M : Int} {k : Kw} (hk : k ≠ .yes) (vp : VP w) (vr : VR r) (hM : 0 ≤ M) : VW w r M ⟨k, 0, 0, 0⟩ :=
  ⟨by simp, vp.d0, by simp, by have := vr.l0; show 0 ≤ r.lease; omega, fun _ => rfl, fun _ => .inl (by simp), by simp, hM, ⟨fun h => by simp at h, fun h => absurd h hk⟩⟩
theorem VC.later {w : Wo} {r : Ru} {M : Int} {c : Cl} (v : VC w r M c) (vr : VR r) (h : ∀ y, c.way = some y → y.age ≠ w.delay) (hM : 0 ≤ M) : VC w r M (laterM r c) := by
  obtain ⟨l, m, y⟩ := c
  have hw : ∀ z, y.map (laterW r) = some z → VW w r M z := fun z e => by
    cases y with
    | none => cases e
    | some y =>
      cases e
      have q := v.w y rfl
      have q0 := h y rfl
      obtain ⟨k, a, s, n⟩ := y
      have := q.a0
      have := q.a1
      have := q.s0
      have := q.s1
      have q1 := q.nb
      have := vr.l0
      dsimp only at *
      refine ⟨?_, ?_, ?_, ?_, ?_, ?_, q.n0, q.n1, q.ny⟩
      · show 0 ≤ a + 1; omega
      · show a + 1 ≤ w.delay; omega
      · cases k <;> simp only [laterW] <;> (try split) <;> omega
      · cases k <;> simp only [laterW] <;> (try split) <;> omega
      · intro e; cases k <;> simp only [laterW] at e ⊢ <;> first | rfl | cases e
      · intro e
        have e' : k ≠ .back := e
        have := q1 e'
        cases k <;> simp only [laterW] <;> first | exact absurd rfl e' | (split <;> omega)
  have a := v.l0
  have b := v.l1
  have c := v.n0
  have d := v.n1
  have e := v.ln
  dsimp only at a b c d e
  unfold laterM
  dsimp only
  split
  · exact ⟨by show 0 ≤ l - 1; omega, by show l - 1 ≤ r.lease; omega, c, d, ⟨fun _ => e.mp (by omega), fun _ => by show 0 < l - 1; omega⟩, hw⟩
  · exact ⟨by simp, by have := vr.l0; show 0 ≤ r.lease; omega, by simp, hM, by simp, hw⟩
theorem VS.asked {w : Wo} {r : Ru} {s : Sd} (v : VS w r s) (c : Bool) (y : Way) (hy : (s.cl c).way = some y) (hk : y.k = .ask ∨ y.k = .renew) : VS w r (askedM r s c y).1 := by
  have q := (v.cl c).w y hy
  have vr := v.vr
  have hyes : ∀ N, s.ho.num ≤ N → 0 < N → VW w r N ⟨.yes, 0, y.since, N⟩ := fun N h1 h2 =>
    ⟨by simp, v.vp.d0, q.s0, q.s1, fun e => (nomatch e), fun _ => .inl q.s0, by show 0 ≤ N; omega, Int.le_refl _, ⟨fun _ => rfl, fun _ => h2⟩⟩
  unfold askedM
  split
  · have h := v.ho ⟨some c, r.keep, 0, s.ho.num + 1⟩ (fun _ _ => ⟨vr.k0, Int.le_refl _, rfl, by have := v.h0; show 0 < s.ho.num + 1; omega⟩) (fun e => (nomatch e)) (by show s.ho.num ≤ s.ho.num + 1; omega)
    exact h.put c (VC.wy ((v.cl c).up (by show s.ho.num ≤ s.ho.num + 1; omega)) (hyes (s.ho.num + 1) (by omega) (by have := v.h0; omega)))
  · split
    · rename_i e
      obtain ⟨h1, h2, h3, h4⟩ := v.some_ c e
      have h := v.ho ⟨some c, r.keep, 0, s.ho.num⟩ (fun _ _ => ⟨vr.k0, Int.le_refl _, rfl, h4⟩) (fun e => (nomatch e)) (Int.le_refl _)
      exact h.put c (VC.wy (v.cl c) (hyes _ (Int.le_refl _) h4))
    · exact v.put c (v.cl c).drop
theorem VS.arrived {w : Wo} {r : Ru} {s : Sd} (v : VS w r s) (c : Bool) (y : Way) (hy : (s.cl c).way = some y) : VS w r (arrivedM r s c y).1 := by
  have q := (v.cl c).w y hy
  have vr := v.vr
  cases hk : y.k with
  | ask =>
    have : arrivedM r s c y = askedM r s c y := by unfold arrivedM; rw [hk]
    rw [this]; exact v.asked c y hy (.inl hk)
  | renew =>
    have : arrivedM r s c y = askedM r s c y := by unfold arrivedM; rw [hk]
    rw [this]; exact v.asked c y hy (.inr hk)
  | back =>
    unfold arrivedM
    rw [hk]
    dsimp only
    split
    · rename_i e
      obtain ⟨h1, h2, h3, h4⟩ := v.some_ c e
      have h := v.ho ⟨none, 0, s.ho.rest, s.ho.num⟩ (fun _ e => (nomatch e)) (fun _ => ⟨rfl, by show 0 ≤ s.ho.rest; omega, by have := vr.r0; show s.ho.rest ≤ r.rest; omega⟩) (Int.le_refl _)
      exact h.put c (v.cl c).drop
    · exact v.put c (v.cl c).drop
  | yes =>
    unfold arrivedM
    rw [hk]
    dsimp only
    have := q.s0
    have := q.s1
    have := (v.cl c).l0
    generalize hx : (if r.asked = true then r.lease - y.since else r.lease) = x
    have hx1 : x ≤ r.lease := by subst hx; split <;> omega
    split
    · exact v.put c (v.cl c).drop
    · rename_i e
      have hn := q.ny.mpr hk
      exact v.put c ⟨by show 0 ≤ x; omega, hx1, q.n0, q.n1, ⟨fun _ => hn, fun _ => by show 0 < x; omega⟩, fun _ e => (nomatch e)⟩
theorem VS.happened {w : Wo} {r : Ru} {s : Sd} (v : VS w r s) (e : Ev) (p : Pos w s e) : VS w r (happenedM r s e).1 := by
  have vr := v.vr
  cases e with
  | tick =>
    obtain ⟨p1, p2⟩ := p
    show VS w r (tickedM r s)
    unfold tickedM
    have h1 := v.one.later vr p1 v.h0
    have h2 := v.two.later vr p2 v.h0
    have h3 := v.some_
    have h4 := v.none_
    have h5 := vr.r0
    by_cases h : 1 < s.ho.left
    · rw [if_pos h]
      have hw : s.ho.who ≠ none := fun e => by have := (h4 e).1; omega
      exact ⟨vr, v.vp, fun c e => by
        obtain ⟨a, b, c, d⟩ := h3 c e
        exact ⟨by show 1 ≤ s.ho.left - 1; omega, by show s.ho.left - 1 ≤ r.keep; omega, rfl, d⟩, fun e => absurd e hw, v.h0, v.u0, v.u1, h1, h2⟩
    · rw [if_neg h]
      have hr : s.ho.rest ≤ r.rest := by
        cases e : s.ho.who with
        | none => exact (h4 e).2.2
        | some c => have := (h3 c e).2.2.1; omega
      exact ⟨vr, v.vp, fun c e => (nomatch e), fun _ => ⟨rfl, by show 0 ≤ (if 0 < s.ho.rest - 1 then s.ho.rest - 1 else 0); split <;> omega, by show (if 0 < s.ho.rest - 1 then s.ho.rest - 1 else 0) ≤ r.rest; split <;> omega⟩, v.h0, v.u0, v.u1, h1, h2⟩
  | fall => exact v.ho ⟨none, 0, r.rest, s.ho.num⟩ (fun _ e => (nomatch e)) (fun _ => ⟨rfl, vr.r0, Int.le_refl _⟩) (Int.le_refl _)
  | op o c =>
    cases o with
    | ask => exact v.put c (VC.wy (v.cl c) (VW.new (by simp) v.vp vr v.h0))
    | renew => exact v.put c (VC.wy (v.cl c) (VW.new (by simp) v.vp vr v.h0))
    | back =>
      refine v.put c ⟨by simp, by have := vr.l0; show 0 ≤ r.lease; omega, by simp, v.h0, by simp, fun z e => ?_⟩
      cases e
      exact VW.new (by simp) v.vp vr v.h0
    | use =>
      have a := (v.cl c).n0
      have b := (v.cl c).n1
      unfold happenedM
      dsimp only
      split
      · exact v
      · have := v.u0
        have := v.u1
        exact ⟨vr, v.vp, v.some_, v.none_, v.h0, by show 0 ≤ (if (s.cl c).num < s.used then s.used else (s.cl c).num); split <;> omega, by show (if (s.cl c).num < s.used then s.used else (s.cl c).num) ≤ s.ho.num; split <;> omega, v.one, v.two⟩
    | lose => exact v.put c (v.cl c).drop
    | arrive =>
      cases h : (s.cl c).way with
      | none => exact absurd h p
      | some y =>
        have : (happenedM r s (.op .arrive c)) = arrivedM r s c y := by simp only [happenedM, h]
        rw [this]
        exact v.arrived c y h
theorem VS.ok {w : Wo} {r : Ru} {s : Sd} (v : VS w r s) : OkS r s := by
  have hc : ∀ c, VC w r s.ho.num c → OkC r c := fun c h => ⟨h.l0, fun e => by
    have := h.n0
    have := h.ln
    omega, fun y e => ⟨(h.w y e).s0, (h.w y e).s1, (h.w y e).bk⟩⟩
  exact ⟨v.vr.k0, v.vr.l0, v.vr.r0, fun c e => ⟨(v.some_ c e).1, (v.some_ c e).2.2.1⟩, fun e => ⟨(v.none_ e).1, (v.none_ e).2.1⟩, hc _ v.one, hc _ v.two⟩
def firstM : Sd := ⟨⟨none, 0, 0, 0⟩, 0, ⟨0, 0, none⟩, ⟨0, 0, none⟩⟩
theorem VS.first {w : Wo} {r : Ru} (vr : VR r) (vp : VP w) : VS w r firstM := by
  have hc : VC w r 0 ⟨0, 0, none⟩ := ⟨by simp, by have := vr.l0; show 0 ≤ r.lease; omega, by simp, by simp, by simp, fun _ e => (nomatch e)⟩
  exact ⟨vr, vp, fun _ e => (nomatch e), fun _ => ⟨rfl, by simp [firstM], vr.r0⟩, by simp [firstM], by simp [firstM], by simp [firstM], hc, hc⟩
end
end Lw
set_option Elab.async false
set_option linter.all false
set_option maxRecDepth 100000
set_option maxHeartbeats 4000000
/-! M16: a stand told by ranks. -/
namespace Lw
open PySem PySem.Spec PyProof.Rows Dq
section
theorem len_sset (L : List Int) : (sset L).length ≤ L.length := by
  have h : ∀ l : List Int, (dedup l).length ≤ l.length := fun l => by
    induction l with
    | nil => exact Nat.le_refl _
    | cons x r ih =>
      unfold dedup
      split
      · exact Nat.le_succ_of_le ih
      · exact Nat.succ_le_succ ih
  have : (sset L).length = (dedup L).length := (isort_perm leI (dedup L)).length_eq
  rw [this]
  exact h L
theorem pw_get {G : List Int} (h : G.Pairwise (· < ·)) {i j : Nat} (hi : i < j) (hj : j < G.length) : G[i]'(Nat.lt_trans hi hj) < G[j] := List.pairwise_iff_getElem.mp h i j _ hj hi
theorem idx_get {G : List Int} {x : Int} (h : x ∈ G) : ∃ hl : G.idxOf x < G.length, G[G.idxOf x] = x :=
  ⟨List.idxOf_lt_length_of_mem h, List.getElem_idxOf _⟩
theorem idx_mono {G : List Int} (h : G.Pairwise (· < ·)) {x y : Int} (hx : x ∈ G) (hy : y ∈ G) (e : x < y) : G.idxOf x < G.idxOf y := by
  obtain ⟨a, b⟩ := idx_get hx
  obtain ⟨c, d⟩ := idx_get hy
  rcases Nat.lt_trichotomy (G.idxOf x) (G.idxOf y) with z | z | z
  · exact z
  · have : G[G.idxOf x] = G[G.idxOf y] := by congr 1
    omega
  · have := pw_get h z a
    omega
theorem idx_of_get {G : List Int} (h : G.Pairwise (· < ·)) {i : Nat} (hi : i < G.length) : G.idxOf G[i] = i := by
  obtain ⟨a, b⟩ := idx_get (G := G) (x := G[i]) (List.getElem_mem hi)
  rcases Nat.lt_trichotomy (G.idxOf G[i]) i with z | z | z
  · have := pw_get h z hi
    omega
  · exact z
  · have := pw_get h z a
    omega
theorem rk_lt {L : List Int} {x y : Int} (hx : x ∈ L) (hy : y ∈ L) (e : x < y) : rk L x < rk L y := by
  have := idx_mono (sset_lt L) ((mem_sset x L).mpr hx) ((mem_sset y L).mpr hy) e
  unfold rk
  omega
theorem rk_le {L : List Int} {x y : Int} (hx : x ∈ L) (hy : y ∈ L) (e : x ≤ y) : rk L x ≤ rk L y := by
  by_cases h : x = y
  · rw [h]; exact Int.le_refl _
  · have := rk_lt hx hy (by omega)
    omega
theorem rk_nn {L : List Int} {x : Int} : 0 ≤ rk L x := by unfold rk; omega
theorem rk_pos {L : List Int} {x : Int} (h0 : (0 : Int) ∈ L) (hp : ∀ x ∈ L, 0 ≤ x) (hx : x ∈ L) : 0 < rk L x ↔ 0 < x := by
  have hz := rk_zero h0 hp
  constructor
  · intro h
    have := hp x hx
    by_cases e : x = 0
    · rw [e, hz] at h; omega
    · omega
  · intro h
    have := rk_lt h0 hx h
    omega
/-- numbers are ranks -/
def Rkd (s : Sd) : Prop := ∃ m : Nat, m ≤ 6 ∧ s.ho.num = (m : Int) ∧ (∀ x ∈ numsM s, 0 ≤ x ∧ x ≤ (m : Int)) ∧ ∀ i : Int, 1 ≤ i → i ≤ (m : Int) → i ∈ numsM s
theorem nums_rank (L : List Int) (s : Sd) : numsM (rankBy L s) = (numsM s).map (rk L) := by
  obtain ⟨ho, u, ⟨l1, n1, w1⟩, ⟨l2, n2, w2⟩⟩ := s
  cases w1 <;> cases w2 <;> rfl
theorem nums_len (s : Sd) : (numsM s).length ≤ 6 := by
  obtain ⟨ho, u, ⟨l1, n1, w1⟩, ⟨l2, n2, w2⟩⟩ := s
  cases w1 <;> cases w2 <;> simp [numsM, wNums]
theorem mem_one {s : Sd} {y : Way} (h : s.one.way = some y) : y.num ∈ numsM s := by simp [numsM, wNums, h]
theorem mem_two {s : Sd} {y : Way} (h : s.two.way = some y) : y.num ∈ numsM s := by simp [numsM, wNums, h]
theorem VS.nums {w : Wo} {r : Ru} {s : Sd} (v : VS w r s) : ∀ x ∈ numsM s, 0 ≤ x ∧ x ≤ s.ho.num := by
  intro x hx
  have hw : ∀ c, VC w r s.ho.num c → x ∈ wNums c.way → 0 ≤ x ∧ x ≤ s.ho.num := fun c hc h => by
    cases e : c.way with
    | none => rw [e] at h; cases h
    | some y =>
      rw [e] at h
      have : x = y.num := by simpa [wNums] using h
      have q := hc.w y e
      rw [this]
      exact ⟨q.n0, q.n1⟩
  unfold numsM at hx
  rcases List.mem_append.mp hx with h | h
  · have a := v.h0
    have b := v.u0
    have c := v.u1
    have d := v.one.n0
    have e := v.one.n1
    have f := v.two.n0
    have g := v.two.n1
    simp only [List.mem_cons, List.not_mem_nil, or_false] at h
    omega
  · rcases List.mem_append.mp h with h | h
    · exact hw _ v.one h
    · exact hw _ v.two h
theorem VS.ranked {w : Wo} {r : Ru} {s : Sd} (v : VS w r s) : VS w r (rankM s) ∧ Rkd (rankM s) := by
  have hn := v.nums
  have hlen := nums_len s
  unfold rankM
  have m0 : (0 : Int) ∈ numsM s ++ [0] := by simp
  have hb : ∀ x ∈ numsM s ++ [0], 0 ≤ x ∧ x ≤ s.ho.num := fun x hx => by
    rcases List.mem_append.mp hx with h | h
    · exact hn x h
    · have : x = 0 := by simpa using h
      have := v.h0
      omega
  have mh : s.ho.num ∈ numsM s ++ [0] := by simp [numsM]
  have mu : s.used ∈ numsM s ++ [0] := by simp [numsM]
  have m1 : s.one.num ∈ numsM s ++ [0] := by simp [numsM]
  have m2 : s.two.num ∈ numsM s ++ [0] := by simp [numsM]
  have w1 : ∀ y, s.one.way = some y → y.num ∈ numsM s ++ [0] := fun y e => List.mem_append_left _ (mem_one e)
  have w2 : ∀ y, s.two.way = some y → y.num ∈ numsM s ++ [0] := fun y e => List.mem_append_left _ (mem_two e)
  have hL : ∀ i ∈ numsM s ++ [0], i ≠ 0 → i ∈ numsM s := fun i h e => by
    rcases List.mem_append.mp h with h | h
    · exact h
    · exact absurd (by simpa using h) e
  have hl7 : (sset (numsM s ++ [0])).length ≤ 7 := Nat.le_trans (len_sset _) (by rw [List.length_append]; simp only [List.length_cons, List.length_nil]; omega)
  have hnr := nums_rank (numsM s ++ [0]) s
  have hsub : ∀ x ∈ numsM s, x ∈ numsM s ++ [0] := fun x h => List.mem_append_left _ h
  generalize numsM s ++ [0] = L at *
  have hp : ∀ x ∈ L, 0 ≤ x := fun x h => (hb x h).1
  have hM : ∀ x ∈ L, rk L x ≤ rk L s.ho.num := fun x h => rk_le h mh (hb x h).2
  have hc : ∀ c, VC w r s.ho.num c → c.num ∈ L → (∀ y, c.way = some y → y.num ∈ L) → VC w r (rk L s.ho.num) (rkCl L c) := fun c q q1 q2 =>
    ⟨q.l0, q.l1, rk_nn, hM _ q1, q.ln.trans (rk_pos m0 hp q1).symm, fun y e => by
      cases e' : c.way with
      | none => rw [show (rkCl L c).way = c.way.map (rkWay L) from rfl, e'] at e; cases e
      | some z =>
        rw [show (rkCl L c).way = c.way.map (rkWay L) from rfl, e'] at e
        cases e
        have t := q.w z e'
        have u := q2 z e'
        exact ⟨t.a0, t.a1, t.s0, t.s1, t.bk, t.nb, rk_nn, hM _ u, (rk_pos m0 hp u).trans t.ny⟩⟩
  refine ⟨⟨v.vr, v.vp, fun c e => ?_, v.none_, rk_nn, rk_nn, hM _ mu, hc _ v.one m1 w1, hc _ v.two m2 w2⟩, ?_⟩
  · obtain ⟨a, b, c, d⟩ := v.some_ c e
    exact ⟨a, b, c, (rk_pos m0 hp mh).mpr d⟩
  · have hlt : (sset L).idxOf s.ho.num < (sset L).length := (idx_get ((mem_sset _ L).mpr mh)).1
    refine ⟨(sset L).idxOf s.ho.num, by omega, rfl, fun x hx => ?_, fun i h1 h2 => ?_⟩
    · rw [hnr] at hx
      obtain ⟨y, hy, rfl⟩ := List.mem_map.mp hx
      have : y ∈ L := by
        by_cases e : y = 0
        · rw [e]; exact m0
        · exact hsub y hy
      exact ⟨rk_nn, hM _ this⟩
    · have hi : i.toNat < (sset L).length := by omega
      have hm : (sset L)[i.toNat] ∈ L := (mem_sset _ L).mp (List.getElem_mem hi)
      have hr : rk L (sset L)[i.toNat] = i := by
        unfold rk
        rw [idx_of_get (sset_lt L) hi]
        omega
      rw [hnr]
      refine List.mem_map.mpr ⟨_, hL _ hm fun e => ?_, hr⟩
      rw [e, rk_zero m0 hp] at hr
      omega
theorem Rkd.first : Rkd firstM := by
  refine ⟨0, by simp, rfl, fun x hx => ?_, fun i h1 h2 => ?_⟩
  · have : x = 0 := by simpa [numsM, firstM, wNums] using hx
    subst this
    simp
  · simp at h2; omega
end
end Lw
set_option Elab.async false
set_option linter.all false
set_option maxRecDepth 100000
set_option maxHeartbeats 4000000
/-! M17: right worlds, rules, stands are told so. -/
namespace Lw
open PySem PySem.Spec PyProof.Rows Dq
section
variable {G : Gm} {n k : Nat} {S S' : Sto}
@[simp] theorem ix_wo (w : Wo) (i : Int) : alt2 ixD gixD (dWo w) (.int i) n S = atK S (L2.atI [.int w.delay, .bl w.lossy, .bl w.falls] i) := ix_tup
@[simp] theorem its_wo (w : Wo) : itemsOf (dWo w) S = some [.int w.delay, .bl w.lossy, .bl w.falls] := rfl
@[simp] theorem bel_wo {b : Nat} (w : Wo) : below b (dWo w) = true := by simp [dWo]
@[simp] theorem its_ru (r : Ru) : itemsOf (dRu r) S = some [.int r.keep, .int r.lease, .str (wAsked r.asked), .str (wYes r.again), .str (wNum r.numb), .int r.rest] := rfl
@[simp] theorem kd_wo (w : Wo) : kdOf (dWo w) S = some .tup := rfl
@[simp] theorem kd_ru (r : Ru) : kdOf (dRu r) S = some .tup := rfl
@[simp] theorem kd_sd (s : Sd) : kdOf (dSd s) S = some .tup := rfl
@[simp] theorem kd_ho (h : Ho) : kdOf (dHo h) S = some .tup := rfl
@[simp] theorem kd_cl (c : Cl) : kdOf (dCl c) S = some .tup := rfl
@[simp] theorem p_wide {ds : List D} {i : Int} (h : belowAll 0 ds = true) : runFn G f_is_wide [.tup ds, .int i] n S = .ok (.bl (decide ((ds.length : Int) = i))) S := by
  rw [run_pure rfl rfl (by simp [h])]
  simp [f_is_wide, b_is_wide, Dq.envOf]
@[simp] theorem w_wo (w : Wo) {i : Int} : runFn G f_is_wide [dWo w, .int i] n S = .ok (.bl (decide (3 = i))) S := p_wide (by simp)
@[simp] theorem w_ru (r : Ru) {i : Int} : runFn G f_is_wide [dRu r, .int i] n S = .ok (.bl (decide (6 = i))) S := p_wide (by simp)
@[simp] theorem w_sd (s : Sd) {i : Int} : runFn G f_is_wide [dSd s, .int i] n S = .ok (.bl (decide (4 = i))) S := p_wide (by simp)
@[simp] theorem w_ho (h : Ho) {i : Int} : runFn G f_is_wide [dHo h, .int i] n S = .ok (.bl (decide (4 = i))) S := p_wide (by simp)
@[simp] theorem w_cl (c : Cl) {i : Int} : runFn G f_is_wide [dCl c, .int i] n S = .ok (.bl (decide (3 = i))) S := p_wide (by simp)
@[simp] theorem p_word {x y z : Str} (hx : PyData.strOk x = true) (hy : PyData.strOk y = true) (hz : PyData.strOk z = true) : runFn G f_is_word [.str x, .tup [.str y, .str z]] n S = .ok (.bl (decide (y = x) || decide (z = x))) S := by
  rw [run_pure rfl rfl (by simp)]
  simp [f_is_word, b_is_word, Dq.envOf, hx, hy, hz]
@[simp] theorem p_word4 {x y z u v : Str} (hx : PyData.strOk x = true) (hy : PyData.strOk y = true) (hz : PyData.strOk z = true) (hu : PyData.strOk u = true) (hv : PyData.strOk v = true) : runFn G f_is_word [.str x, .tup [.str y, .str z, .str u, .str v]] n S = .ok (.bl (decide (y = x) || (decide (z = x) || (decide (u = x) || decide (v = x))))) S := by
  rw [run_pure rfl rfl (by simp)]
  simp [f_is_word, b_is_word, Dq.envOf, hx, hy, hz, hu, hv]
@[simp] theorem so_asked (b : Bool) : PyData.strOk (wAsked b) = true := by cases b <;> simp [wAsked]
@[simp] theorem so_yes (b : Bool) : PyData.strOk (wYes b) = true := by cases b <;> simp [wYes]
@[simp] theorem so_num (b : Bool) : PyData.strOk (wNum b) = true := by cases b <;> simp [wNum]
theorem p_right_world (w : Wo) (v : VP w) : runFn (lev T (k + 1)) f_is_right_world [dWo w] n S = .ok (.bl true) S := by
  rw [run_pure rfl rfl (by simp)]
  simp [f_is_right_world, b_is_right_world, Dq.envOf, p_is_whole, v.d0, v.d1]
theorem p_right_rule (r : Ru) (v : VR r) : runFn (lev T (k + 1)) f_is_right_rule [dRu r] n S = .ok (.bl true) S := by
  rw [run_pure rfl rfl (by simp)]
  obtain ⟨r1, r2, r3, r4, r5, r6⟩ := r
  have h1 := v.k0
  have h2 := v.k1
  have h3 := v.l0
  have h4 := v.l1
  have h5 := v.r0
  have h6 := v.r1
  dsimp only at *
  cases r3 <;> cases r4 <;> cases r5 <;> simp [f_is_right_rule, b_is_right_rule, Dq.envOf, p_is_whole, wAsked, wYes, wNum, h1, h2, h3, h4, h5, h6]
end
end Lw
set_option Elab.async false
set_option linter.all false
set_option maxRecDepth 100000
set_option maxHeartbeats 4000000
/-! M18: comprehensions over cells; which stands are right. -/
namespace Lw
open PySem PySem.Spec PyProof.Rows Dq
section
variable {G g : Gm} {b n k : Nat} {S S' : Sto}
theorem set_same {m : Nat} {c : Cell} (h : S[m]? = some c) : S.set m c = S := by
  obtain ⟨hl, e⟩ := List.getElem?_eq_some_iff.mp h
  rw [← e]
  exact List.set_getElem_self hl
theorem get_set_ne {m q : Nat} {c : Cell} (h : q ≠ m) : (S.set m c)[q]? = S[q]? := by
  rw [List.getElem?_set, if_neg (fun e => h e.symm)]
theorem get_set_eq {m : Nat} {c c' : Cell} (h : S[m]? = some c) : (S.set m c')[m]? = some c' := by
  obtain ⟨hl, _⟩ := List.getElem?_eq_some_iff.mp h
  rw [List.getElem?_set, if_pos rfl, if_pos hl]
theorem lc_gen {vs : List Nat} {tg : Tg} {ifs : Option E} {elt : E} {ρ : Env'} {ds : List D} {q m : Nat} (f : D → Option D)
    (ht : ∀ x ∈ ds, ∀ S', ∃ ρ2, asgT tg x (wipeD ρ vs) S' = some ρ2 ∧ ((f x = none ∧ denIf g b ifs ρ2 S' = .ok false S') ∨ (∃ y, f x = some y ∧ denIf g b ifs ρ2 S' = .ok true S' ∧ den g b elt ρ2 S' = .ok y S')))
    (hq : q ≠ m) : ∀ (fu i : Nat) (acc : List D) (S : Sto), i + fu = ds.length → S[q]? = some (.lst ds) → S[m]? = some (.lst acc) → acc.length + fu ≤ 1000 →
      lcL g b vs tg ifs elt ρ (.seq (.loc q)) m fu i S = .ok (.loc m) (S.set m (.lst (acc ++ (ds.drop i).filterMap f)))
  | 0, i, acc, S, h1, h2, h3, h4 => by
    have e : ds[i]? = none := List.getElem?_eq_none (by omega)
    have e2 : ds.drop i = [] := List.drop_eq_nil_of_le (by omega)
    rw [lcL_0, cur_loc, h2, itsL_s, curL_s, e, e2, lcE_n, List.filterMap_nil, List.append_nil, set_same h3]
  | fu + 1, i, acc, S, h1, h2, h3, h4 => by
    have hi : i < ds.length := by omega
    have e : ds[i]? = some ds[i] := List.getElem?_eq_getElem hi
    rw [lcL_s, cur_loc, h2, itsL_s, curL_s, e, lcA_s, List.drop_eq_getElem_cons hi]
    obtain ⟨ρ2, a1, a2⟩ := ht ds[i] (List.getElem_mem hi) S
    rw [a1, lcB_s]
    rcases a2 with ⟨a2, a3⟩ | ⟨y, a2, a3, a4⟩
    · rw [a3, lcT_s, if_neg (by simp), List.filterMap_cons, a2]
      exact lc_gen f ht hq fu (i + 1) acc S (by omega) h2 h3 (by omega)
    · have hb : Nat.blt acc.length lim = true := by
        rw [Nat.blt_eq]
        show acc.length < 16777216
        omega
      rw [a3, lcT_s, if_pos rfl, a4, lcD_s, h3, lcF4_s, if_pos hb, List.filterMap_cons, a2]
      rw [lc_gen f ht hq fu (i + 1) (acc ++ [y]) _ (by omega) (by rw [get_set_ne hq]; exact h2) (get_set_eq h3) (by rw [List.length_append]; simp; omega), List.set_set]
      simp
theorem lcZ_gen {vs : List Nat} {tg : Tg} {ifs : Option E} {elt : E} {ρ : Env'} {ds : List D} {q : Nat} (f : D → Option D)
    (ht : ∀ x ∈ ds, ∀ S', ∃ ρ2, asgT tg x (wipeD ρ vs) S' = some ρ2 ∧ ((f x = none ∧ denIf g b ifs ρ2 S' = .ok false S') ∨ (∃ y, f x = some y ∧ denIf g b ifs ρ2 S' = .ok true S' ∧ den g b elt ρ2 S' = .ok y S')))
    (h : S[q]? = some (.lst ds)) (hl : ds.length ≤ 1000) : lcZ g b vs tg ifs elt ρ (.ok (.seq (.loc q)) S) = .ok (.loc S.length) (S ++ [.lst (ds.filterMap f)]) := by
  have hq : q < S.length := (List.getElem?_eq_some_iff.mp h).1
  have h2 : (S ++ [Cell.lst []])[q]? = some (.lst ds) := get_app h _
  rw [lcZ_s, cnt_loc, h2, itsL_s, cntL_s, lc_gen f ht (by omega) ds.length 0 [] _ (by omega) h2 (by simp) (by simpa using hl)]
  simp
/-! ### lists compared -/
def eqL (neg : Bool) (S : Sto) : Option Cell → Option Cell → Out D
  | some (.lst x), some (.lst y) => (match optMap (py S 15) x, optMap (py S 15) y with
    | some p, some q => .ok (.bl (neg ^^ PyData.eqv (.list p) (.list q))) S
    | _, _ => .bad)
  | _, _ => .bad
@[simp] theorem eq_loc {neg : Bool} {a c : Nat} : eqD neg (.loc a) (.loc c) n S = eqL neg S S[a]? S[c]? := by
  have hp : ∀ a, py S dep (.loc a) = (match S[a]? with
      | some (.lst ds) => (match optMap (py S 15) ds with
        | some ps => some (PyData.list ps)
        | none => none)
      | _ => none) := fun a => rfl
  unfold eqD
  rw [hp, hp]
  unfold eqL
  cases S[a]? with
  | none => rfl
  | some x =>
    cases x with
    | lst x =>
      cases S[c]? with
      | none => dsimp only; cases optMap (py S 15) x <;> rfl
      | some y =>
        cases y with
        | lst y => dsimp only; cases optMap (py S 15) x <;> cases optMap (py S 15) y <;> rfl
        | _ => dsimp only; cases optMap (py S 15) x <;> rfl
    | _ => rfl
theorem eqvA_ints : ∀ L L' : List Int, PyData.eqvAll (L.map PyData.int) (L'.map PyData.int) = decide (L = L')
  | [], [] => rfl
  | [], _ :: _ => rfl
  | _ :: _, [] => rfl
  | a :: L, c :: L' => by
    rw [List.map_cons, List.map_cons, eqvA_cc, eqv_ii, eqvA_ints L L']
    by_cases h : a = c
    · by_cases h' : L = L' <;> simp [h, h']
    · simp [h]
@[simp] theorem eqL_ints {neg : Bool} {L L' : List Int} : eqL neg S (some (.lst (L.map D.int))) (some (.lst (L'.map D.int))) = .ok (.bl (neg ^^ decide (L = L'))) S := by
  have e : PyData.eqv (.list (L.map PyData.int)) (.list (L'.map PyData.int)) = decide (L = L') := eqvA_ints L L'
  unfold eqL
  dsimp only
  rw [show (15 : Nat) = 14 + 1 from rfl, py_ints, py_ints]
  dsimp only
  rw [e]
/-! ### which stands are right -/
@[simp] theorem len_loc {m : Nat} : lenD [.loc m] n S = lenL S S[m]? := by
  show (match itemsOf (.loc m) S with
    | some ds => Out.ok (D.int (ds.length : Nat)) S
    | none => .bad) = _
  rw [its_loc]
  cases S[m]? with
  | none => rfl
  | some c => cases c <;> rfl
@[simp] theorem lenL_s {ds : List D} : lenL S (some (.lst ds)) = .ok (.int (ds.length : Nat)) S := rfl
end
end Lw
set_option Elab.async false
set_option linter.all false
set_option maxRecDepth 100000
set_option maxHeartbeats 4000000
/-! M19: what is needed; values that are none. -/
namespace Lw
open PySem PySem.Spec PyProof.Rows Dq
section
variable {G g : Gm} {b n k : Nat} {S S' : Sto}
theorem p_need_world (w : Wo) (v : VP w) : runFn (lev T (k + 2)) f_need_world [dWo w] n S = .ok .non S := by
  have h : runFn (lev T (k + 1)) f_is_right_world [dWo w] 0 [] = .ok (.bl true) [] := p_right_world w v
  rw [run_pure rfl rfl (by simp)]
  simp [f_need_world, b_need_world, Dq.envOf, h]
theorem p_need_rule (r : Ru) (v : VR r) : runFn (lev T (k + 2)) f_need_rule [dRu r] n S = .ok .non S := by
  have h : runFn (lev T (k + 1)) f_is_right_rule [dRu r] 0 [] = .ok (.bl true) [] := p_right_rule r v
  rw [run_pure rfl rfl (by simp)]
  simp [f_need_rule, b_need_rule, Dq.envOf, h]
end
end Lw
set_option Elab.async false
set_option linter.all false
set_option maxRecDepth 100000
set_option maxHeartbeats 4000000
/-! M20: lists of events, ascending. -/
namespace Lw
open PySem PySem.Spec PyProof.Rows Dq
section
variable {G g : Gm} {b n k : Nat} {S S' : Sto}
def pEv : Ev → PyData
  | .tick => .tuple [.str "tick"]
  | .fall => .tuple [.str "fall"]
  | .op o c => .tuple [.str o.w, .int (if c = true then 1 else 0)]
def evA : List Ev := [.fall, .tick, .op .ask false, .op .ask true, .op .renew false, .op .renew true, .op .back false, .op .back true, .op .use false, .op .use true, .op .arrive false, .op .arrive true, .op .lose false, .op .lose true]
theorem mem_evA (e : Ev) : e ∈ evA := by
  cases e with
  | op o c => cases o <;> cases c <;> decide
  | _ => decide
@[simp] theorem so_op (o : Op) : PyData.strOk o.w = true := by cases o <;> simp
theorem py_ev (e : Ev) : py S (k + 2) (dEv e) = some (pEv e) := by
  cases e with
  | op o c => cases c <;> simp [dEv, pEv]
  | _ => simp [dEv, pEv]
theorem eqv_ev (e f : Ev) : PyData.eqv (pEv e) (pEv f) = decide (e = f) := by
  have h : (evA.all fun e => evA.all fun f => PyData.eqv (pEv e) (pEv f) == decide (e = f)) = true := by decide +kernel
  exact eq_of_beq (List.all_eq_true.mp (List.all_eq_true.mp h e (mem_evA e)) f (mem_evA f))
theorem alike_ev (e f : Ev) : PySem.W.alike (pEv e) (pEv f) = true := by
  have h : (evA.all fun e => evA.all fun f => PySem.W.alike (pEv e) (pEv f)) = true := by decide +kernel
  exact List.all_eq_true.mp (List.all_eq_true.mp h e (mem_evA e)) f (mem_evA f)
def leEv (e f : Ev) : Bool := !PySem.W.dataLt (pEv f) (pEv e)
theorem pys_ev (L : List Ev) : optMap (py S (k + 2)) (L.map dEv) = some (L.map pEv) := by
  induction L with
  | nil => rfl
  | cons e L ih => simp only [List.map_cons, om_cons, py_ev, ih]
theorem zip_ev (L : List Ev) : (L.map dEv).zip (L.map pEv) = L.map fun e => (dEv e, pEv e) := by
  induction L with
  | nil => rfl
  | cons e L ih => simp only [List.map_cons, List.zip_cons_cons, ih]
theorem sort_ev (L : List Ev) : (isort leD ((L.map dEv).zip (L.map pEv))).map (·.1) = (isort leEv L).map dEv := by
  rw [zip_ev, ← isort_map (fun e : Ev => (dEv e, pEv e)) leEv leD (fun _ _ => rfl) L, List.map_map]
  rfl
theorem ok_ev (L : List Ev) : sortOk (L.map pEv) = true := by
  unfold sortOk
  rw [Bool.and_eq_true, Bool.or_eq_true]
  refine ⟨?_, .inl ?_⟩
  · rw [List.all_eq_true]
    intro p hp
    rw [List.all_eq_true]
    intro q hq
    obtain ⟨i, _, rfl⟩ := List.mem_map.mp hp
    obtain ⟨j, _, rfl⟩ := List.mem_map.mp hq
    exact alike_ev i j
  · rw [List.all_eq_true]
    intro p hp
    obtain ⟨i, _, rfl⟩ := List.mem_map.mp hp
    cases i <;> rfl
theorem srtL_ev {L : List Ev} (hs : L.length ≤ 1000) : srtL S (some (.lst (L.map dEv))) = .ok (.loc S.length) (S ++ [.lst ((isort leEv L).map dEv)]) := by
  have hl : L.length ≤ 16777216 := by omega
  unfold srtL
  dsimp only
  rw [show dep = 14 + 2 from rfl, pys_ev]
  dsimp only
  rw [if_pos (by rw [ok_ev, Bool.true_and]; exact Nat.ble_eq_true_of_le (by simpa using hl)), sort_ev]
theorem eqvA_ev : ∀ L L' : List Ev, PyData.eqvAll (L.map pEv) (L'.map pEv) = decide (L = L')
  | [], [] => rfl
  | [], _ :: _ => rfl
  | _ :: _, [] => rfl
  | a :: L, c :: L' => by
    rw [List.map_cons, List.map_cons, eqvA_cc, eqv_ev, eqvA_ev L L']
    by_cases h : a = c
    · by_cases h' : L = L' <;> simp [h, h']
    · simp [h]
theorem eqL_ev {neg : Bool} {L L' : List Ev} : eqL neg S (some (.lst (L.map dEv))) (some (.lst (L'.map dEv))) = .ok (.bl (neg ^^ decide (L = L'))) S := by
  have e : PyData.eqv (.list (L.map pEv)) (.list (L'.map pEv)) = decide (L = L') := eqvA_ev L L'
  unfold eqL
  dsimp only
  rw [show (15 : Nat) = 13 + 2 from rfl, pys_ev, pys_ev]
  dsimp only
  rw [e]
theorem any_ev (L : List Ev) (e : Ev) : ((L.map pEv).any fun z => PyData.eqv z (pEv e)) = decide (e ∈ L) := by
  induction L with
  | nil => rfl
  | cons f L ih =>
    rw [List.map_cons, List.any_cons, ih, eqv_ev]
    by_cases h : f = e
    · simp [h]
    · have h' : ¬ e = f := fun z => h z.symm
      simp [h, h']
theorem in_ev {m : Bool} {e : Ev} {a : Nat} {L : List Ev} (h : S[a]? = some (.lst (L.map dEv))) : alt2 (inD m) (dinD m) (dEv e) (.loc a) n S = .ok (.bl (m ^^ decide (e ∈ L))) S := by
  have h2 : py S dep (.loc a) = some (.list (L.map pEv)) := by
    show (match S[a]? with
      | some (.lst ds) => (match optMap (py S 15) ds with
        | some ps => some (PyData.list ps)
        | none => none)
      | _ => none) = _
    rw [h]
    dsimp only
    rw [show (15 : Nat) = 13 + 2 from rfl, pys_ev]
  unfold alt2 inD
  rw [h2, show dep = 14 + 2 from rfl, py_ev]
  dsimp only
  rw [any_ev]
/-! ### which may happen -/
def cw (lossy p q c : Bool) : List Ev := (if p = true then [.op .use c] else []) ++ (if q = true then (if lossy = true then [.op .arrive c, .op .lose c] else [.op .arrive c]) else if p = true then [.op .renew c, .op .back c] else [.op .ask c])
def evU (falls lossy p1 q1 p2 q2 late : Bool) : List Ev := (if falls = true then [.fall] else []) ++ cw lossy p1 q1 false ++ cw lossy p2 q2 true ++ (if late = true then [] else [.tick])
def stepL (lossy p q t c : Bool) (W : List Ev) : List Ev := if (q && t) = true then (W ++ cw lossy p q c).filter (fun e => decide (e ≠ .tick)) else W ++ cw lossy p q c
def evW (falls lossy p1 q1 t1 p2 q2 t2 : Bool) : List Ev := stepL lossy p2 q2 t2 true (stepL lossy p1 q1 t1 false [.tick]) ++ (if falls = true then [.fall] else [])
theorem ev_same (falls lossy p1 q1 t1 p2 q2 t2 : Bool) : isort leEv (evW falls lossy p1 q1 t1 p2 q2 t2) = isort leEv (evU falls lossy p1 q1 p2 q2 ((q1 && t1) || (q2 && t2))) := by
  have h : (∀ falls lossy p1 q1 t1 p2 q2 t2 : Bool, isort leEv (evW falls lossy p1 q1 t1 p2 q2 t2) = isort leEv (evU falls lossy p1 q1 p2 q2 ((q1 && t1) || (q2 && t2)))) := by decide +kernel
  exact h falls lossy p1 q1 t1 p2 q2 t2
def lateC (w : Wo) (c : Cl) : Bool := match c.way with
  | none => false
  | some y => decide (y.age = w.delay)
def evL (w : Wo) (s : Sd) : List Ev := isort leEv (evU w.falls w.lossy (decide (0 < s.one.left)) s.one.way.isSome (decide (0 < s.two.left)) s.two.way.isSome (lateC w s.one || lateC w s.two))
theorem len_evU (falls lossy p1 q1 p2 q2 late : Bool) : (evU falls lossy p1 q1 p2 q2 late).length ≤ 8 := by
  have h : ∀ falls lossy p1 q1 p2 q2 late : Bool, (evU falls lossy p1 q1 p2 q2 late).length ≤ 8 := by decide +kernel
  exact h falls lossy p1 q1 p2 q2 late
theorem len_evL (w : Wo) (s : Sd) : (evL w s).length ≤ 8 := by
  unfold evL
  rw [(isort_perm leEv _).length_eq]
  exact len_evU _ _ _ _ _ _ _
theorem mem_evL (w : Wo) (s : Sd) (e : Ev) : e ∈ evL w s ↔ Pos w s e := by
  unfold evL
  rw [(isort_perm leEv _).mem_iff]
  have hq : ∀ o : Option Way, o ≠ none ↔ o.isSome = true := fun o => by cases o <;> simp
  have hn : ∀ o : Option Way, o = none ↔ o.isSome = false := fun o => by cases o <;> simp
  cases e with
  | tick =>
    have h1 : ∀ c : Cl, (∀ y, c.way = some y → y.age ≠ w.delay) ↔ lateC w c = false := fun c => by
      unfold lateC
      cases c.way <;> simp
    show _ ↔ _ ∧ _
    rw [h1, h1]
    cases w.falls <;> cases w.lossy <;> cases decide (0 < s.one.left) <;> cases s.one.way.isSome <;> cases decide (0 < s.two.left) <;> cases s.two.way.isSome <;> cases lateC w s.one <;> cases lateC w s.two <;> decide
  | fall =>
    show _ ↔ w.falls = true
    cases w.falls <;> cases w.lossy <;> cases decide (0 < s.one.left) <;> cases s.one.way.isSome <;> cases decide (0 < s.two.left) <;> cases s.two.way.isSome <;> cases (lateC w s.one || lateC w s.two) <;> decide
  | op o c =>
    have hm : (.op o c : Ev) ∈ evU w.falls w.lossy (decide (0 < s.one.left)) s.one.way.isSome (decide (0 < s.two.left)) s.two.way.isSome (lateC w s.one || lateC w s.two) ↔ (.op o c : Ev) ∈ cw w.lossy (decide (0 < (s.cl c).left)) (s.cl c).way.isSome c := by
      cases c with
      | false =>
        show _ ↔ _ ∈ cw w.lossy (decide (0 < s.one.left)) s.one.way.isSome false
        cases o <;> cases w.falls <;> cases w.lossy <;> cases decide (0 < s.one.left) <;> cases s.one.way.isSome <;> cases decide (0 < s.two.left) <;> cases s.two.way.isSome <;> cases (lateC w s.one || lateC w s.two) <;> decide
      | true =>
        show _ ↔ _ ∈ cw w.lossy (decide (0 < s.two.left)) s.two.way.isSome true
        cases o <;> cases w.falls <;> cases w.lossy <;> cases decide (0 < s.one.left) <;> cases s.one.way.isSome <;> cases decide (0 < s.two.left) <;> cases s.two.way.isSome <;> cases (lateC w s.one || lateC w s.two) <;> decide
    rw [hm]
    generalize hd : decide (0 < (s.cl c).left) = d
    have hp : 0 < (s.cl c).left ↔ d = true := by rw [← hd]; simp
    cases o <;> simp only [Pos, hq, hn] <;> (try rw [hp]) <;> cases w.lossy <;> cases d <;> cases (s.cl c).way.isSome <;> cases c <;> decide
end
end Lw
set_option Elab.async false
set_option linter.all false
set_option maxRecDepth 100000
set_option maxHeartbeats 4000000
/-! M21: the two accounts of an arrival agree. -/
namespace Lw
open PySem PySem.Spec PyProof.Rows Dq
section
/-- a client put, the house as given -/
theorem acc_ho (r : Ru) (s : Sd) (o : OkS r s) (c : Bool) (u m : Int) (q : Option Rd) (v : Cl) (W : Option Bool) (HU HR HN : Int) (H : Ho) (h : preCl r 50 u m q = v)
    (hh : (if W ≠ none ∧ (50 : Int) < HU then Ho.mk W (HU - 50) 0 HN else ⟨none, 0, if 0 < HR - 50 then HR - 50 else 0, HN⟩) = H) :
    preM r { (asOf s).put c u m q with who := W, hu := HU, hr := HR, hn := HN } = (Sd.mk H s.used s.one s.two).put c v := by
  have h2 := pre_cl r s.one o.one o.lease
  have h3 := pre_cl r s.two o.two o.lease
  cases c with
  | false =>
    have e : preM r { (asOf s).put false u m q with who := W, hu := HU, hr := HR, hn := HN } = ⟨if W ≠ none ∧ (50 : Int) < HU then Ho.mk W (HU - 50) 0 HN else ⟨none, 0, if 0 < HR - 50 then HR - 50 else 0, HN⟩, s.used, preCl r 50 u m q, preCl r 50 (50 + s.two.left) s.two.num (s.two.way.map rdOf)⟩ := rfl
    rw [e, hh, h3, h]
    rfl
  | true =>
    have e : preM r { (asOf s).put true u m q with who := W, hu := HU, hr := HR, hn := HN } = ⟨if W ≠ none ∧ (50 : Int) < HU then Ho.mk W (HU - 50) 0 HN else ⟨none, 0, if 0 < HR - 50 then HR - 50 else 0, HN⟩, s.used, preCl r 50 (50 + s.one.left) s.one.num (s.one.way.map rdOf), preCl r 50 u m q⟩ := rfl
    rw [e, hh, h2, h]
    rfl
theorem put_none (r : Ru) (s : Sd) (o : OkS r s) (c : Bool) : preM r ((asOf s).put c ((asOf s).u c) ((asOf s).m c) none) = s.put c ⟨(s.cl c).left, (s.cl c).num, none⟩ := acc_lose r s o c
theorem as_put_same (a : As) (c : Bool) (u m : Int) (q : Option Rd) : (a.put c u m q).who = a.who ∧ (a.put c u m q).hu = a.hu ∧ (a.put c u m q).hr = a.hr ∧ (a.put c u m q).hn = a.hn := by cases c <;> exact ⟨rfl, rfl, rfl, rfl⟩
theorem pre_yes (r : Ru) (c : Cl) (o : OkC r c) (y : Way) (oy : OkW r y) (N : Int) : preCl r 50 (50 + c.left) c.num (some ⟨.yes, 50, 50 - y.since, N⟩) = ⟨c.left, c.num, some ⟨.yes, 0, y.since, N⟩⟩ := by
  rw [pre_put r c o]
  have h0 := oy.s0
  have h1 := oy.s1
  have e : preWay r 50 ⟨.yes, 50, 50 - y.since, N⟩ = ⟨.yes, 0, y.since, N⟩ := by
    unfold preWay
    dsimp only
    rw [if_neg (by simp)]
    congr 1
    split <;> omega
  simp only [Option.map_some, e]
theorem come_ask (r : Ru) (s : Sd) (o : OkS r s) (c : Bool) (y : Way) (hy : (s.cl c).way = some y) (hk : y.k = .ask ∨ y.k = .renew) :
    preM r (comeM r (asOf s) c (rdOf y)).1 = (askedM r s c y).1 ∧ (comeM r (asOf s) c (rdOf y)).2 = (askedM r s c y).2 := by
  obtain ⟨eu, em⟩ := asU s c
  have oc := o.cl c
  have oy := oc.w y hy
  have hs := o.some_
  have hn := o.none_
  have hkp := o.keep
  have f1 : (¬ ((50 : Int) < 50 + s.ho.left ∧ s.ho.who ≠ none) ∧ 50 + s.ho.rest ≤ 50 ∧ (y.k = .ask ∨ r.again = true)) ↔ (s.ho.who = none ∧ s.ho.rest = 0 ∧ (y.k = .ask ∨ r.again = true)) := by
    cases e : s.ho.who with
    | none =>
      obtain ⟨a, b⟩ := hn e
      simp only [ne_eq, not_true_eq_false, and_false, not_false_eq_true, true_and]
      constructor
      · rintro ⟨p, q⟩; exact ⟨by omega, q⟩
      · rintro ⟨p, q⟩; exact ⟨by omega, q⟩
    | some d =>
      obtain ⟨a, b⟩ := hs d e
      constructor
      · rintro ⟨p, q⟩; exact absurd ⟨by omega, by simp⟩ p
      · rintro ⟨p, q⟩; cases p
  have f2 : ((50 : Int) < 50 + s.ho.left ∧ s.ho.who = some c) ↔ s.ho.who = some c := by
    constructor
    · exact fun h => h.2
    · intro h
      obtain ⟨a, b⟩ := hs c h
      exact ⟨by omega, h⟩
  have hc : comeM r (asOf s) c (rdOf y) = if ¬ ((50 : Int) < 50 + s.ho.left ∧ s.ho.who ≠ none) ∧ 50 + s.ho.rest ≤ 50 ∧ (y.k = .ask ∨ r.again = true) then
      ({ ((asOf s).put c ((asOf s).u c) ((asOf s).m c) (some ⟨.yes, 50, 50 - y.since, s.ho.num + 1⟩)) with who := some c, hu := 50 + r.keep, hr := 50, hn := s.ho.num + 1 }, ("granted" : Str))
    else if (50 : Int) < 50 + s.ho.left ∧ s.ho.who = some c then
      ({ ((asOf s).put c ((asOf s).u c) ((asOf s).m c) (some ⟨.yes, 50, 50 - y.since, s.ho.num⟩)) with who := some c, hu := 50 + r.keep, hr := 50 }, ("granted" : Str))
    else ((asOf s).put c ((asOf s).u c) ((asOf s).m c) none, ("refused" : Str)) := by
    have e : (rdOf y).k = y.k := rfl
    rcases hk with h | h <;> (unfold comeM; rw [e, h]; rfl)
  have hh : ∀ N : Int, (if (some c) ≠ none ∧ (50 : Int) < 50 + r.keep then Ho.mk (some c) (50 + r.keep - 50) 0 N else ⟨none, 0, if (0 : Int) < 50 - 50 then 50 - 50 else 0, N⟩) = ⟨some c, r.keep, 0, N⟩ := fun N => by
    rw [if_pos ⟨by simp, by omega⟩]
    congr 1
    omega
  rw [hc]
  unfold askedM
  by_cases c1 : s.ho.who = none ∧ s.ho.rest = 0 ∧ (y.k = .ask ∨ r.again = true)
  · rw [if_pos c1, if_pos (f1.mpr c1)]
    refine ⟨?_, rfl⟩
    rw [eu, em]
    exact acc_ho r s o c _ _ _ _ (some c) (50 + r.keep) 50 (s.ho.num + 1) ⟨some c, r.keep, 0, s.ho.num + 1⟩ (pre_yes r _ oc y oy _) (hh _)
  · rw [if_neg c1, if_neg (fun h => c1 (f1.mp h))]
    by_cases c2 : s.ho.who = some c
    · rw [if_pos c2, if_pos (f2.mpr c2)]
      refine ⟨?_, rfl⟩
      have e4 : ((asOf s).put c ((asOf s).u c) ((asOf s).m c) (some ⟨.yes, 50, 50 - y.since, s.ho.num⟩)).hn = s.ho.num := by cases c <;> rfl
      have e5 : ∀ a : As, a.hn = s.ho.num → { a with who := some c, hu := 50 + r.keep, hr := 50 } = { a with who := some c, hu := 50 + r.keep, hr := 50, hn := s.ho.num } := fun a h => by rw [← h]
      show preM r { ((asOf s).put c ((asOf s).u c) ((asOf s).m c) (some ⟨.yes, 50, 50 - y.since, s.ho.num⟩)) with who := some c, hu := 50 + r.keep, hr := 50 } = _
      rw [e5 _ e4, eu, em]
      exact acc_ho r s o c _ _ _ _ (some c) (50 + r.keep) 50 s.ho.num ⟨some c, r.keep, 0, s.ho.num⟩ (pre_yes r _ oc y oy _) (hh _)
    · rw [if_neg c2, if_neg (fun h => c2 (f2.mp h))]
      exact ⟨put_none r s o c, rfl⟩
theorem come_arr (r : Ru) (s : Sd) (o : OkS r s) (c : Bool) (y : Way) (hy : (s.cl c).way = some y) :
    preM r (comeM r (asOf s) c (rdOf y)).1 = (arrivedM r s c y).1 ∧ (comeM r (asOf s) c (rdOf y)).2 = (arrivedM r s c y).2 := by
  obtain ⟨eu, em⟩ := asU s c
  have oc := o.cl c
  have oy := oc.w y hy
  have hs := o.some_
  have ek : (rdOf y).k = y.k := rfl
  cases hk : y.k with
  | ask =>
    have e : arrivedM r s c y = askedM r s c y := by unfold arrivedM; rw [hk]
    rw [e]
    exact come_ask r s o c y hy (.inl hk)
  | renew =>
    have e : arrivedM r s c y = askedM r s c y := by unfold arrivedM; rw [hk]
    rw [e]
    exact come_ask r s o c y hy (.inr hk)
  | back =>
    have hc : comeM r (asOf s) c (rdOf y) = if (50 : Int) < 50 + s.ho.left ∧ s.ho.who = some c then ({ ((asOf s).put c ((asOf s).u c) ((asOf s).m c) none) with who := none, hu := 50, hr := 50 }, ("freed" : Str)) else ((asOf s).put c ((asOf s).u c) ((asOf s).m c) none, ("late" : Str)) := by
      unfold comeM
      rw [ek, hk]
      rfl
    rw [hc]
    unfold arrivedM
    rw [hk]
    dsimp only
    by_cases c2 : s.ho.who = some c
    · obtain ⟨a, b⟩ := hs c c2
      rw [if_pos c2, if_pos ⟨by omega, c2⟩]
      refine ⟨?_, rfl⟩
      have e4 : ((asOf s).put c ((asOf s).u c) ((asOf s).m c) none).hn = s.ho.num := by cases c <;> rfl
      have e5 : ∀ a : As, a.hn = s.ho.num → { a with who := none, hu := 50, hr := 50 } = { a with who := none, hu := 50, hr := 50, hn := s.ho.num } := fun a h => by rw [← h]
      show preM r { ((asOf s).put c ((asOf s).u c) ((asOf s).m c) none) with who := none, hu := 50, hr := 50 } = _
      rw [e5 _ e4, eu, em]
      refine acc_ho r s o c _ _ _ _ none 50 50 s.ho.num ⟨none, 0, s.ho.rest, s.ho.num⟩ (pre_put r _ oc none) ?_
      rw [if_neg (fun h => h.1 rfl), b]
      rfl
    · rw [if_neg c2, if_neg (fun h => c2 h.2)]
      exact ⟨put_none r s o c, rfl⟩
  | yes =>
    have h0 := oc.l0
    have hc : comeM r (asOf s) c (rdOf y) = if (if r.asked = true then 50 - y.since else 50) + r.lease ≤ (if (asOf s).u c < 50 then 50 else (asOf s).u c) then ((asOf s).put c ((asOf s).u c) ((asOf s).m c) none, ("late" : Str))
        else ((asOf s).put c ((if r.asked = true then 50 - y.since else 50) + r.lease) y.num none, ("held" : Str)) := by
      unfold comeM
      rw [ek, hk]
      rfl
    rw [hc]
    unfold arrivedM
    rw [hk]
    dsimp only
    have ex : (if r.asked = true then (50 : Int) - y.since else 50) + r.lease = 50 + (if r.asked = true then r.lease - y.since else r.lease) := by split <;> omega
    have ey : (if (asOf s).u c < 50 then (50 : Int) else (asOf s).u c) = 50 + (s.cl c).left := by rw [eu]; split <;> omega
    rw [ex, ey]
    generalize (if r.asked = true then r.lease - y.since else r.lease) = x
    by_cases c2 : x ≤ (s.cl c).left
    · rw [if_pos c2, if_pos (by omega)]
      exact ⟨put_none r s o c, rfl⟩
    · rw [if_neg c2, if_neg (by omega)]
      refine ⟨?_, rfl⟩
      refine acc_put r s o c _ _ _ _ ?_
      unfold preCl
      rw [if_pos (by omega)]
      show Cl.mk (50 + x - 50) y.num none = _
      congr 1
      omega
/-- the two accounts of an event agree -/
theorem acc_all (r : Ru) (s : Sd) (o : OkS r s) (e : Ev) (he : ∀ c, e = .op .arrive c → (s.cl c).way ≠ none) : preM r (accM r (asOf s) e).1 = (happenedM r s e).1 ∧ (accM r (asOf s) e).2 = (happenedM r s e).2 := by
  cases e with
  | tick => exact ⟨acc_tick r s o, rfl⟩
  | fall => exact ⟨acc_fall r s o, rfl⟩
  | op p c =>
    cases p with
    | ask => exact ⟨acc_ask r s o c, rfl⟩
    | renew => exact ⟨acc_renew r s o c, rfl⟩
    | back => exact ⟨acc_back r s o c, rfl⟩
    | use => exact acc_use r s o c
    | lose => exact ⟨acc_lose r s o c, rfl⟩
    | arrive =>
      cases hy : (s.cl c).way with
      | none => exact absurd hy (he c rfl)
      | some y =>
        have h1 : (happenedM r s (.op .arrive c)) = arrivedM r s c y := by simp only [happenedM, hy]
        have h2 : accM r (asOf s) (.op .arrive c) = comeM r (asOf s) c (rdOf y) := by
          have : (asOf s).r c = some (rdOf y) := by
            cases c with
            | false =>
              have hy' : s.one.way = some y := hy
              show s.one.way.map rdOf = _
              rw [hy']; rfl
            | true =>
              have hy' : s.two.way = some y := hy
              show s.two.way.map rdOf = _
              rw [hy']; rfl
          simp only [accM, this]
        rw [h1, h2]
        exact come_arr r s o c y hy
/-- the law's next stand is the package's -/
theorem stand_step {w : Wo} {r : Ru} {s : Sd} (v : VS w r s) (e : Ev) (p : Pos w s e) : standM r (accM r (asOf s) e).1 = (stepM r s e).1 ∧ (accM r (asOf s) e).2 = (stepM r s e).2 := by
  have he : ∀ c, e = .op .arrive c → (s.cl c).way ≠ none := fun c h => by subst h; exact p
  obtain ⟨h1, h2⟩ := acc_all r s v.ok e he
  refine ⟨?_, h2⟩
  rw [stand_rank, h1]
  · rfl
  · intro x hx
    have hx := (mem_pre r _ x).mp hx
    rw [h1] at hx
    rcases List.mem_append.mp hx with h | h
    · exact ((v.happened e p).nums x h).1
    · have : x = 0 := by simpa using h
      omega
end
end Lw
set_option Elab.async false
set_option linter.all false
set_option maxRecDepth 100000
set_option maxHeartbeats 4000000
/-! M22: the law's next stand is the package's step. -/
namespace Lw
open PySem PySem.Spec PyProof.Rows Dq
section
variable {n k : Nat} {S : Sto}
theorem law_next {w : Wo} {r : Ru} {s : Sd} (v : VS w r s) (e : Ev) (p : Pos w s e) : runFn (lev T (k + 3)) f__law_next [dRu r, dSd s, dEv e] n S = .ok (.tup [dSd (stepM r s e).1, .str (stepM r s e).2]) S := by
  obtain ⟨g1, g2⟩ := stand_step v e p
  rw [← g1, ← g2]
  have hs := v.some_
  have l1 := v.one.l0
  have l2 := v.two.l0
  cases h1 : s.one.way with
  | none =>
    cases h2 : s.two.way with
    | none =>
      cases e with
      | tick => exact next00_tick r s h1 h2
      | fall => exact next00_fall r s h1 h2
      | op o c =>
        cases c with
        | false =>
          cases o with
          | ask => exact next00_ask0 r s h1 h2
          | renew => exact next00_renew0 r s h1 h2
          | back => exact next00_back0 r s h1 h2
          | use => exact next00_use0 r s h1 h2
          | lose => exact next00_lose0 r s h1 h2
          | arrive =>
            exact absurd h1 p
        | true =>
          cases o with
          | ask => exact next00_ask1 r s h1 h2
          | renew => exact next00_renew1 r s h1 h2
          | back => exact next00_back1 r s h1 h2
          | use => exact next00_use1 r s h1 h2
          | lose => exact next00_lose1 r s h1 h2
          | arrive =>
            exact absurd h2 p
    | some y2 =>
      cases e with
      | tick => exact next01_tick r s h1 h2
      | fall => exact next01_fall r s h1 h2
      | op o c =>
        cases c with
        | false =>
          cases o with
          | ask => exact next01_ask0 r s h1 h2
          | renew => exact next01_renew0 r s h1 h2
          | back => exact next01_back0 r s h1 h2
          | use => exact next01_use0 r s h1 h2
          | lose => exact next01_lose0 r s h1 h2
          | arrive =>
            exact absurd h1 p
        | true =>
          cases o with
          | ask => exact next01_ask1 r s h1 h2
          | renew => exact next01_renew1 r s h1 h2
          | back => exact next01_back1 r s h1 h2
          | use => exact next01_use1 r s h1 h2
          | lose => exact next01_lose1 r s h1 h2
          | arrive =>
            cases hk : y2.k with
            | back => exact nextback_011 r s h1 h2 hk
            | yes =>
              cases e4 : r.asked with
              | false => exact nextyesC_011 r s h1 h2 hk (by omega) e4
              | true => exact nextyesA_011 r s h1 h2 hk (by omega) e4
            | ask =>
              cases e1 : s.ho.who with
              | none =>
                by_cases e2 : s.ho.rest ≤ 0
                · exact nextaskFree_011 r s h1 h2 hk e1 e2
                · exact nextaskRest_011 r s h1 h2 hk e1 e2
              | some d =>
                have e3 : 0 < s.ho.left := by have := (hs d e1).1; omega
                cases d with
                | false => exact nextaskOther_011 r s h1 h2 hk e1 e3
                | true => exact nextaskMine_011 r s h1 h2 hk e1 e3
            | renew =>
              cases e1 : s.ho.who with
              | none =>
                cases ea : r.again with
                | false => exact nextrenewNo_011 r s h1 h2 hk e1 ea
                | true =>
                  by_cases e2 : s.ho.rest ≤ 0
                  · exact nextrenewFree_011 r s h1 h2 hk e1 e2 ea
                  · exact nextrenewRest_011 r s h1 h2 hk e1 e2
              | some d =>
                have e3 : 0 < s.ho.left := by have := (hs d e1).1; omega
                cases d with
                | false => exact nextrenewOther_011 r s h1 h2 hk e1 e3
                | true => exact nextrenewMine_011 r s h1 h2 hk e1 e3
  | some y1 =>
    cases h2 : s.two.way with
    | none =>
      cases e with
      | tick => exact next10_tick r s h1 h2
      | fall => exact next10_fall r s h1 h2
      | op o c =>
        cases c with
        | false =>
          cases o with
          | ask => exact next10_ask0 r s h1 h2
          | renew => exact next10_renew0 r s h1 h2
          | back => exact next10_back0 r s h1 h2
          | use => exact next10_use0 r s h1 h2
          | lose => exact next10_lose0 r s h1 h2
          | arrive =>
            cases hk : y1.k with
            | back => exact nextback_100 r s h1 h2 hk
            | yes =>
              cases e4 : r.asked with
              | false => exact nextyesC_100 r s h1 h2 hk (by omega) e4
              | true => exact nextyesA_100 r s h1 h2 hk (by omega) e4
            | ask =>
              cases e1 : s.ho.who with
              | none =>
                by_cases e2 : s.ho.rest ≤ 0
                · exact nextaskFree_100 r s h1 h2 hk e1 e2
                · exact nextaskRest_100 r s h1 h2 hk e1 e2
              | some d =>
                have e3 : 0 < s.ho.left := by have := (hs d e1).1; omega
                cases d with
                | false => exact nextaskMine_100 r s h1 h2 hk e1 e3
                | true => exact nextaskOther_100 r s h1 h2 hk e1 e3
            | renew =>
              cases e1 : s.ho.who with
              | none =>
                cases ea : r.again with
                | false => exact nextrenewNo_100 r s h1 h2 hk e1 ea
                | true =>
                  by_cases e2 : s.ho.rest ≤ 0
                  · exact nextrenewFree_100 r s h1 h2 hk e1 e2 ea
                  · exact nextrenewRest_100 r s h1 h2 hk e1 e2
              | some d =>
                have e3 : 0 < s.ho.left := by have := (hs d e1).1; omega
                cases d with
                | false => exact nextrenewMine_100 r s h1 h2 hk e1 e3
                | true => exact nextrenewOther_100 r s h1 h2 hk e1 e3
        | true =>
          cases o with
          | ask => exact next10_ask1 r s h1 h2
          | renew => exact next10_renew1 r s h1 h2
          | back => exact next10_back1 r s h1 h2
          | use => exact next10_use1 r s h1 h2
          | lose => exact next10_lose1 r s h1 h2
          | arrive =>
            exact absurd h2 p
    | some y2 =>
      cases e with
      | tick => exact next11_tick r s h1 h2
      | fall => exact next11_fall r s h1 h2
      | op o c =>
        cases c with
        | false =>
          cases o with
          | ask => exact next11_ask0 r s h1 h2
          | renew => exact next11_renew0 r s h1 h2
          | back => exact next11_back0 r s h1 h2
          | use => exact next11_use0 r s h1 h2
          | lose => exact next11_lose0 r s h1 h2
          | arrive =>
            cases hk : y1.k with
            | back => exact nextback_110 r s h1 h2 hk
            | yes =>
              cases e4 : r.asked with
              | false => exact nextyesC_110 r s h1 h2 hk (by omega) e4
              | true => exact nextyesA_110 r s h1 h2 hk (by omega) e4
            | ask =>
              cases e1 : s.ho.who with
              | none =>
                by_cases e2 : s.ho.rest ≤ 0
                · exact nextaskFree_110 r s h1 h2 hk e1 e2
                · exact nextaskRest_110 r s h1 h2 hk e1 e2
              | some d =>
                have e3 : 0 < s.ho.left := by have := (hs d e1).1; omega
                cases d with
                | false => exact nextaskMine_110 r s h1 h2 hk e1 e3
                | true => exact nextaskOther_110 r s h1 h2 hk e1 e3
            | renew =>
              cases e1 : s.ho.who with
              | none =>
                cases ea : r.again with
                | false => exact nextrenewNo_110 r s h1 h2 hk e1 ea
                | true =>
                  by_cases e2 : s.ho.rest ≤ 0
                  · exact nextrenewFree_110 r s h1 h2 hk e1 e2 ea
                  · exact nextrenewRest_110 r s h1 h2 hk e1 e2
              | some d =>
                have e3 : 0 < s.ho.left := by have := (hs d e1).1; omega
                cases d with
                | false => exact nextrenewMine_110 r s h1 h2 hk e1 e3
                | true => exact nextrenewOther_110 r s h1 h2 hk e1 e3
        | true =>
          cases o with
          | ask => exact next11_ask1 r s h1 h2
          | renew => exact next11_renew1 r s h1 h2
          | back => exact next11_back1 r s h1 h2
          | use => exact next11_use1 r s h1 h2
          | lose => exact next11_lose1 r s h1 h2
          | arrive =>
            cases hk : y2.k with
            | back => exact nextback_111 r s h1 h2 hk
            | yes =>
              cases e4 : r.asked with
              | false => exact nextyesC_111 r s h1 h2 hk (by omega) e4
              | true => exact nextyesA_111 r s h1 h2 hk (by omega) e4
            | ask =>
              cases e1 : s.ho.who with
              | none =>
                by_cases e2 : s.ho.rest ≤ 0
                · exact nextaskFree_111 r s h1 h2 hk e1 e2
                · exact nextaskRest_111 r s h1 h2 hk e1 e2
              | some d =>
                have e3 : 0 < s.ho.left := by have := (hs d e1).1; omega
                cases d with
                | false => exact nextaskOther_111 r s h1 h2 hk e1 e3
                | true => exact nextaskMine_111 r s h1 h2 hk e1 e3
            | renew =>
              cases e1 : s.ho.who with
              | none =>
                cases ea : r.again with
                | false => exact nextrenewNo_111 r s h1 h2 hk e1 ea
                | true =>
                  by_cases e2 : s.ho.rest ≤ 0
                  · exact nextrenewFree_111 r s h1 h2 hk e1 e2 ea
                  · exact nextrenewRest_111 r s h1 h2 hk e1 e2
              | some d =>
                have e3 : 0 < s.ho.left := by have := (hs d e1).1; omega
                cases d with
                | false => exact nextrenewOther_111 r s h1 h2 hk e1 e3
                | true => exact nextrenewMine_111 r s h1 h2 hk e1 e3
end
end Lw
set_option Elab.async false
set_option linter.all false
set_option maxRecDepth 100000
set_option maxHeartbeats 4000000
/-! M23: events_at. -/
namespace Lw
open PySem PySem.Spec PyProof.Rows Dq
section
variable {G g : Gm} {b n k : Nat} {S S' : Sto}
def evB : List Dq.St := [(.asg (.tup [(.name 6), (.name 7), (.name 8)]) (.ix (.var 1) (.bin .add (.int 2) (.var 4)))), (.asg (.name 5) (.ite (.cmp .gt (.var 6) (.int 0)) (.lst [(.str "use")]) (.lst []))), (.ite (.isN false (.var 8)) [(.asg (.name 5) (.bin .add (.var 5) (.ite (.cmp .gt (.var 6) (.int 0)) (.lst [(.str "renew"), (.str "back")]) (.lst [(.str "ask")]))))] [(.asg (.name 3) (.or (.var 3) (.cmp .eq (.ix (.var 8) (.int 1)) (.ix (.var 0) (.int 0))))), (.asg (.name 5) (.bin .add (.var 5) (.ite (.ix (.var 0) (.int 1)) (.lst [(.str "arrive"), (.str "lose")]) (.lst [(.str "arrive")]))))]), (.asg (.name 2) (.bin .add (.var 2) (.lc [("word", 9)] (.name 9) .seq [(.var 5)] none (.tup [(.var 9), (.var 4)]))))]
/-- what lies behind a turn -/
def EvP (w : Wo) (s : Sd) (c : Bool) (l : Bool) (W : List Ev) : Out Fl → Prop
  | .ok (.next [a, e, some (.loc f), t, d, _, _, _, _, _]) S' => a = some (dWo w) ∧ e = some (dSd s) ∧ t = some (.bl l) ∧ d = some (dC c) ∧ S'[f]? = some (.lst (W.map dEv))
  | _ => False
theorem EvP.elim {w : Wo} {s : Sd} {c l : Bool} {W : List Ev} {o : Out Fl} (h : EvP w s c l W o) : ∃ f x5 x6 x7 x8 x9 S', o = .ok (.next [some (dWo w), some (dSd s), some (.loc f), some (.bl l), some (dC c), x5, x6, x7, x8, x9]) S' ∧ S'[f]? = some (.lst (W.map dEv)) := by
  unfold EvP at h
  split at h
  · obtain ⟨rfl, rfl, rfl, rfl, h⟩ := h
    exact ⟨_, _, _, _, _, _, _, rfl, h⟩
  · exact h.elim
theorem ev_turn (w : Wo) (s : Sd) (c : Bool) (l : Bool) (W : List Ev) {f : Nat} (x5 x6 x7 x8 x9 : Option D) (hS : S[f]? = some (.lst (W.map dEv))) (hW : W.length ≤ 900) :
    EvP w s c (l || lateC w (s.cl c)) (W ++ cw w.lossy (decide (0 < (s.cl c).left)) (s.cl c).way.isSome c) (exes g 0 evB [some (dWo w), some (dSd s), some (.loc f), some (.bl l), some (dC c), x5, x6, x7, x8, x9] S) := by
  have hS' := get_app hS
  have n1 : W.length + 1 ≤ 16777216 := by omega
  have n2 : W.length + 2 ≤ 16777216 := by omega
  have n3 : W.length + 3 ≤ 16777216 := by omega
  cases c with
  | false =>
    show EvP w s false (l || lateC w s.one) (W ++ cw w.lossy (decide (0 < s.one.left)) s.one.way.isSome false) _
    cases hw : s.one.way with
    | none => by_cases h : 0 < s.one.left <;> simp [evB, hw, h, hS, hS', n1, n2, n3, EvP, lateC, cw, dEv]
    | some y => by_cases h : 0 < s.one.left <;> cases hl : w.lossy <;> cases l <;> simp [evB, hw, h, hl, hS, hS', n1, n2, n3, EvP, lateC, cw, dEv]
  | true =>
    show EvP w s true (l || lateC w s.two) (W ++ cw w.lossy (decide (0 < s.two.left)) s.two.way.isSome true) _
    cases hw : s.two.way with
    | none => by_cases h : 0 < s.two.left <;> simp [evB, hw, h, hS, hS', n1, n2, n3, EvP, lateC, cw, dEv]
    | some y => by_cases h : 0 < s.two.left <;> cases hl : w.lossy <;> cases l <;> simp [evB, hw, h, hl, hS, hS', n1, n2, n3, EvP, lateC, cw, dEv]
@[simp] theorem bel_evs {b : Nat} (L : List Ev) : belowAll b (L.map dEv) = true := by
  induction L with
  | nil => simp
  | cons e L ih => simp [ih]
theorem cl_0 (s : Sd) : s.cl false = s.one := rfl
theorem cl_1 (s : Sd) : s.cl true = s.two := rfl
theorem C_clients (k : Nat) : (lev T k).C "CLIENTS" = some (.tup [.int 0, .int 1]) := by cases k <;> kernel_rfl
theorem p_events_at (w : Wo) (s : Sd) : runFn (lev T k) f_events_at [dWo w, dSd s] n S = .ok (.loc S.length) (S ++ [.lst ((evL w s).map dEv)]) := by
  rw [run_pure rfl rfl (by simp)]
  show pureOut S (ret1 (exes (lev T k) 0 [(.asg (.name 2) (.ite (.ix (.var 0) (.int 2)) (.lst [(.tup [(.str "fall")])]) (.lst []))), (.asg (.name 3) (.bl false)), (.for_ (.name 4) .seq [(.glo "CLIENTS")] evB), (.ret (.blt .sorted [(.ite (.var 3) (.var 2) (.bin .add (.var 2) (.lst [(.tup [(.str "tick")])])))]))] [some (dWo w), some (dSd s), none, none, none, none, none, none, none, none] [])) = _
  have hC := C_clients k
  have key : ∀ W0 : List Ev, W0.length ≤ 1 → ∀ S0 : Sto, S0[0]? = some (.lst (W0.map dEv)) →
      ∃ f x5 x6 x7 x8 x9 S', forL (lev T k) 0 (.name 4) evB (.seq (.tup [.int 0, .int 1])) 2 0 [some (dWo w), some (dSd s), some (.loc 0), some (.bl false), none, none, none, none, none, none] S0 = .ok (.next [some (dWo w), some (dSd s), some (.loc f), some (.bl (lateC w s.one || lateC w s.two)), some (.int 1), x5, x6, x7, x8, x9]) S' ∧
        S'[f]? = some (.lst ((W0 ++ cw w.lossy (decide (0 < s.one.left)) s.one.way.isSome false ++ cw w.lossy (decide (0 < s.two.left)) s.two.way.isSome true).map dEv)) := fun W0 h0 S0 hS0 => by
    have hl : ∀ p q c, (cw w.lossy p q c).length ≤ 3 := fun p q c => by
      unfold cw
      cases p <;> cases q <;> cases w.lossy <;> simp
    obtain ⟨f1, x5, x6, x7, x8, x9, S1, e1, h1⟩ := (ev_turn (g := lev T k) w s false false W0 none none none none none hS0 (by omega)).elim
    obtain ⟨f2, y5, y6, y7, y8, y9, S2, e2, h2⟩ := (ev_turn (g := lev T k) w s true (lateC w s.one) _ x5 x6 x7 x8 x9 h1 (by
      have := hl (decide (0 < (s.cl false).left)) (s.cl false).way.isSome false
      rw [List.length_append]
      omega)).elim
    refine ⟨f2, y5, y6, y7, y8, y9, S2, ?_, h2⟩
    simp only [dC_0, dC_1, cl_0, cl_1, Bool.false_or] at e1 e2
    simp [e1, e2]
  have hlate := len_evU w.falls w.lossy (decide (0 < s.one.left)) s.one.way.isSome (decide (0 < s.two.left)) s.two.way.isSome (lateC w s.one || lateC w s.two)
  unfold evL
  unfold evU at hlate ⊢
  -- the list behind the loop is Y
  have fin : ∀ (Y : List Ev) (late : Bool) (f : Nat) (x5 x6 x7 x8 x9 : Option D) (S' : Sto), S'[f]? = some (.lst (Y.map dEv)) → (Y ++ if late = true then [] else [Ev.tick]).length ≤ 8 →
      pureOut S (ret1 (exes (lev T k) 0 [(.ret (.blt .sorted [(.ite (.var 3) (.var 2) (.bin .add (.var 2) (.lst [(.tup [(.str "tick")])])))]))] [some (dWo w), some (dSd s), some (.loc f), some (.bl late), some (.int 1), x5, x6, x7, x8, x9] S')) = .ok (.loc S.length) (S ++ [.lst ((isort leEv (Y ++ if late = true then [] else [Ev.tick])).map dEv)]) := fun Y late f x5 x6 x7 x8 x9 S' h hl => by
    cases late with
    | true =>
      rw [if_pos rfl, List.append_nil] at hl ⊢
      have hs : ∀ S, srtL S (some (.lst (Y.map dEv))) = .ok (.loc S.length) (S ++ [.lst ((isort leEv Y).map dEv)]) := fun S => srtL_ev (by omega)
      simp [h, hs]
    | false =>
      rw [if_neg (by simp)] at hl ⊢
      have hs : ∀ S, srtL S (some (.lst (Y.map dEv ++ [.tup [.str "tick"]]))) = .ok (.loc S.length) (S ++ [.lst ((isort leEv (Y ++ [Ev.tick])).map dEv)]) := fun S => by
        rw [show Y.map dEv ++ [D.tup [.str "tick"]] = (Y ++ [Ev.tick]).map dEv from by simp [dEv]]
        exact srtL_ev (by omega)
      have hn : Y.length + 1 ≤ 16777216 := by rw [List.length_append] at hl; simp at hl; omega
      have hh := get_app h
      simp [h, hh, hs, hn]
  cases hf : w.falls with
  | false =>
    obtain ⟨f, x5, x6, x7, x8, x9, S', e, h⟩ := key [] (by simp) [.lst []] rfl
    rw [hf] at hlate
    refine Eq.trans ?_ (fin _ _ f x5 x6 x7 x8 x9 S' h hlate)
    simp [-forL_s, hC, hf, e]
  | true =>
    obtain ⟨f, x5, x6, x7, x8, x9, S', e, h⟩ := key [.fall] (by simp) [.lst [.tup [.str "fall"]]] rfl
    rw [hf] at hlate
    refine Eq.trans ?_ (fin _ _ f x5 x6 x7 x8 x9 S' h hlate)
    simp [-forL_s, hC, hf, e]
end
end Lw
set_option Elab.async false
set_option linter.all false
set_option maxRecDepth 100000
set_option maxHeartbeats 4000000
/-! M24: the law's own list of events. -/
namespace Lw
open PySem PySem.Spec PyProof.Rows Dq
section
variable {G g : Gm} {b n k : Nat} {S S' U : Sto}
/-- what lay there lies there -/
def Kp (N : Nat) (S S' : Sto) : Prop := N ≤ S'.length ∧ ∀ m, m < N → S'[m]? = S[m]?
theorem Kp.refl {N : Nat} (h : N ≤ S.length) : Kp N S S := ⟨h, fun _ _ => rfl⟩
theorem Kp.app {N : Nat} (h : Kp N S S') : Kp N S (S' ++ U) := ⟨by rw [List.length_append]; have := h.1; omega, fun m hm => by
  rw [← h.2 m hm]
  exact List.getElem?_append_left (by have := h.1; omega)⟩
theorem Kp.set {N f : Nat} {c : Cell} (h : Kp N S S') (hf : N ≤ f) : Kp N S (S'.set f c) := ⟨by rw [List.length_set]; exact h.1, fun m hm => by
  rw [← h.2 m hm, List.getElem?_set, if_neg (by omega)]⟩
theorem Kp.get {N m : Nat} {c : Cell} (h : Kp N S S') (hm : m < N) (e : S[m]? = some c) : S'[m]? = some c := (h.2 m hm).trans e
theorem Kp.trans {N : Nat} {S1 S2 S3 : Sto} (h : Kp N S1 S2) (h' : Kp N S2 S3) : Kp N S1 S3 := ⟨h'.1, fun m hm => (h'.2 m hm).trans (h.2 m hm)⟩
def mulL (S : Sto) (k : Int) : Option Cell → Out D
  | some (.lst x) => if (within 9223372036854775808 k && Nat.ble (x.length * k.toNat) lim) = true then .ok (.loc S.length) (S ++ [.lst (List.replicate k.toNat x).flatten]) else .bad
  | _ => .bad
@[simp] theorem mul_loc {a : Nat} {k : Int} : mulD (.loc a) (.int k) n S = mulL S k S[a]? := by
  unfold mulD
  dsimp only
  cases S[a]? with
  | none => rfl
  | some c => cases c <;> rfl
@[simp] theorem mulL_1 {x : D} : mulL S 1 (some (.lst [x])) = .ok (.loc S.length) (S ++ [.lst [x]]) := rfl
@[simp] theorem mulL_0 {x : D} : mulL S 0 (some (.lst [x])) = .ok (.loc S.length) (S ++ [.lst []]) := rfl
@[simp] theorem int_bl {p : Bool} : intD [.bl p] n S = .ok (.int (if p = true then 1 else 0)) S := rfl
theorem eq_evs {m : Bool} (e e' : Ev) : eqD m (dEv e) (dEv e') n S = .ok (.bl (m ^^ decide (e = e'))) S := by
  unfold eqD
  rw [show dep = 14 + 2 from rfl, py_ev, py_ev]
  dsimp only
  rw [eqv_ev]
def tickF (d : D) : Option D := match d with
  | .tup [.str x] => if x = ("tick" : Str) then none else some d
  | _ => some d
theorem tickF_ev (e : Ev) : tickF (dEv e) = if e = .tick then none else some (dEv e) := by
  cases e with
  | tick => rfl
  | fall =>
    have h : ¬ (("fall" : Str) = "tick") := by simp
    exact (if_neg h : (if ("fall" : Str) = "tick" then none else some (dEv .fall)) = some (dEv .fall))
  | op o c => rfl
theorem tickF_evs (W : List Ev) : (W.map dEv).filterMap tickF = (W.filter (fun e => decide (e ≠ .tick))).map dEv := by
  induction W with
  | nil => rfl
  | cons e W ih =>
    rw [List.map_cons, List.filterMap_cons, List.filter_cons, tickF_ev]
    by_cases h : e = .tick
    · rw [if_pos h]; simp [h, ih]
    · rw [if_neg h]; simp [h, ih]
theorem lc_tick (ρ : Env') (W : List Ev) {f : Nat} (h : S[f]? = some (.lst (W.map dEv))) (hl : W.length ≤ 900) (hρ : 11 < ρ.length) : lcZ g b [11] (.name 11) (some (.cmp .ne (.var 11) (.tup [.str "tick"]))) (.var 11) ρ (.ok (.seq (.loc f)) S) = .ok (.loc S.length) (S ++ [.lst ((W.filter (fun e => decide (e ≠ .tick))).map dEv)]) := by
  rw [lcZ_gen (ds := W.map dEv) tickF ?_ h (by rw [List.length_map]; omega), tickF_evs]
  intro x hx S'
  obtain ⟨e, _, rfl⟩ := List.mem_map.mp hx
  refine ⟨(ρ.set 11 none).set 11 (some (dEv e)), rfl, ?_⟩
  have hg : (List.set ρ 11 (some (dEv e)))[11]? = some (some (dEv e)) := by simp [hρ]
  have he : ∀ S, eqD true (dEv e) (.tup [.str "tick"]) b S = .ok (.bl (true ^^ decide (e = .tick))) S := fun S => eq_evs e .tick
  rw [tickF_ev]
  by_cases h : e = .tick
  · have he2 : ∀ S, eqD true (dEv e) (.tup [.str "tick"]) b S = .ok (.bl false) S := fun S => by rw [he, decide_eq_true h]; rfl
    exact .inl ⟨if_pos h, by simp [hg, he2]⟩
  · have he2 : ∀ S, eqD true (dEv e) (.tup [.str "tick"]) b S = .ok (.bl true) S := fun S => by rw [he, decide_eq_false h]; rfl
    exact .inr ⟨dEv e, if_neg h, by simp [hg, he2], by simp [hg]⟩
@[simp] theorem lt50' (x : Int) : (50 < 50 + x) ↔ 0 < x := by omega
def lwA : List Dq.St := [(.asg (.tup [(.name 6), (.name 7), (.name 8)]) (.ix (.var 4) (.var 2))), (.ite (.cmp .gt (.var 6) (.var 3)) [(.expr (.mth .append (.var 5) [(.tup [(.str "use"), (.var 2)])]))] [])]
def lwC : List Dq.St := [(.ite (.isN false (.var 8)) [(.asg (.name 9) (.ite (.cmp .gt (.var 6) (.var 3)) (.lst [(.str "renew"), (.str "back")]) (.lst [(.str "ask")]))), (.asg (.name 5) (.bin .add (.var 5) (.lc [("_law_word", 10)] (.name 10) .seq [(.var 9)] none (.tup [(.var 10), (.var 2)]))))] [(.asg (.name 5) (.bin .add (.bin .add (.var 5) (.lst [(.tup [(.str "arrive"), (.var 2)])])) (.bin .mul (.lst [(.tup [(.str "lose"), (.var 2)])]) (.blt .int [(.ix (.var 0) (.int 1))])))), (.ite (.cmp .ge (.bin .sub (.var 3) (.ix (.var 8) (.int 1))) (.ix (.var 0) (.int 0))) [(.asg (.name 5) (.lc [("_law_event", 11)] (.name 11) .seq [(.var 5)] (some (.cmp .ne (.var 11) (.tup [(.str "tick")]))) (.var 11)))] [])])]
def LwP (w : Wo) (root q : Nat) (N : Nat) (S : Sto) (c : Bool) (x6 x8 : D) (W : List Ev) : Out Fl → Prop
  | .ok (.next [a0, a1, a2, a3, a4, some (.loc f), a6, _, a8, _, _, _]) S' => a0 = some (dWo w) ∧ a1 = some (.loc root) ∧ a2 = some (dC c) ∧ a3 = some (.int 50) ∧ a4 = some (.loc q) ∧ a6 = some x6 ∧ a8 = some x8 ∧ N ≤ f ∧ Kp N S S' ∧ S'[f]? = some (.lst (W.map dEv))
  | _ => False
theorem LwP.elim {w : Wo} {root q N : Nat} {c : Bool} {x6 x8 : D} {W : List Ev} {o : Out Fl} (h : LwP w root q N S c x6 x8 W o) : ∃ f x7 x9 x10 x11 S', o = .ok (.next [some (dWo w), some (.loc root), some (dC c), some (.int 50), some (.loc q), some (.loc f), some x6, x7, some x8, x9, x10, x11]) S' ∧ N ≤ f ∧ Kp N S S' ∧ S'[f]? = some (.lst (W.map dEv)) := by
  unfold LwP at h
  split at h
  · obtain ⟨rfl, rfl, rfl, rfl, rfl, rfl, rfl, h1, h2, h3⟩ := h
    exact ⟨_, _, _, _, _, _, rfl, h1, h2, h3⟩
  · exact h.elim
@[simp] theorem okw_v {m : Nat} {v : D} (h : below 0 v = true) : okw b m v = true := by
  unfold okw
  rw [h, Bool.or_true]
theorem lw_a (w : Wo) (root q p1 p2 : Nat) {N : Nat} (c : Bool) (left num : Int) (dr : D) (W : List Ev) {f : Nat} (x6 x7 x8 x9 x10 x11 : Option D) (hN : N ≤ S.length) (hf : N ≤ f) (hS : S[f]? = some (.lst (W.map dEv))) (hW : W.length ≤ 900)
    (hq : S[q]? = some (.lst [.loc p1, .loc p2])) (hp : S[if c = true then p2 else p1]? = some (.lst [.int (50 + left), .int num, dr])) :
    LwP w root q N S c (.int (50 + left)) dr (W ++ if decide (0 < left) = true then [.op .use c] else []) (exes g b lwA [some (dWo w), some (.loc root), some (dC c), some (.int 50), some (.loc q), some (.loc f), x6, x7, x8, x9, x10, x11] S) := by
  have n1 : W.length < 16777216 := by omega
  have k0 := Kp.refl hN
  have k1 := fun c => k0.set (f := f) (c := c) hf
  have hset : ∀ c, (List.set S f c)[f]? = some c := fun c => get_set_eq hS
  cases c with
  | false =>
    rw [if_neg (by simp)] at hp
    by_cases h : 0 < left <;> simp [lwA, hq, hp, h, hS, n1, LwP, k0, k1, hf, hset, dEv]
  | true =>
    rw [if_pos rfl] at hp
    by_cases h : 0 < left <;> simp [lwA, hq, hp, h, hS, n1, LwP, k0, k1, hf, hset, dEv]
def Rdd (S : Sto) (y : Option Way) (d : D) : Prop := match y with
  | none => d = .non
  | some z => ∃ g, d = .loc g ∧ S[g]? = some (cRd (rdOf z))
def cx (lossy p q c : Bool) : List Ev := if q = true then (if lossy = true then [.op .arrive c, .op .lose c] else [.op .arrive c]) else if p = true then [.op .renew c, .op .back c] else [.op .ask c]
theorem lw_c (w : Wo) (root q : Nat) {N : Nat} (c : Bool) (left : Int) (y : Option Way) (dr : D) (W : List Ev) {f : Nat} (x7 x9 x10 x11 : Option D) (hN : N ≤ S.length) (hf : N ≤ f) (hS : S[f]? = some (.lst (W.map dEv))) (hW : W.length ≤ 800)
    (hy : Rdd S y dr) (ha : ∀ z, y = some z → z.age ≤ w.delay) :
    LwP w root q N S c (.int (50 + left)) dr (if (y.isSome && lateC w ⟨0, 0, y⟩) = true then (W ++ cx w.lossy (decide (0 < left)) y.isSome c).filter (fun e => decide (e ≠ .tick)) else W ++ cx w.lossy (decide (0 < left)) y.isSome c) (exes g b lwC [some (dWo w), some (.loc root), some (dC c), some (.int 50), some (.loc q), some (.loc f), some (.int (50 + left)), x7, some dr, x9, x10, x11] S) := by
  have n1 : W.length + 1 ≤ 16777216 := by omega
  have n2 : W.length + 2 ≤ 16777216 := by omega
  have n0 : W.length + 1 + 1 ≤ 16777216 := by omega
  have k0 := Kp.refl hN
  have k1 := fun U => k0.app (U := U)
  have hS' := get_app hS
  have hN2 : ∀ j, N ≤ S.length + j := fun j => by omega
  cases y with
  | none =>
    have hy : dr = .non := hy
    subst hy
    by_cases h : 0 < left
    · simp [lwC, h, hS, hS', n1, n2, LwP, k0, k1, hN, hN2, dEv, cx]
    · simp [lwC, h, hS, hS', n1, n2, LwP, k0, k1, hN, hN2, dEv, cx]
  | some z =>
    obtain ⟨gd, rfl, hg⟩ := hy
    have hg' := get_app hg
    unfold cRd rdOf at hg hg'
    dsimp only at hg hg'
    have ha := ha z rfl
    have hlc : ∀ X : List Ev, X.length ≤ 2 → ∀ (ρ : Env') (S : Sto) (f : Nat), S[f]? = some (.lst (W.map dEv ++ X.map dEv)) → 11 < ρ.length → lcZ g b [11] (.name 11) (some (.cmp .ne (.var 11) (.tup [.str "tick"]))) (.var 11) ρ (.ok (.seq (.loc f)) S) = .ok (.loc S.length) (S ++ [.lst (((W ++ X).filter (fun e => decide (e ≠ .tick))).map dEv)]) := fun X hX ρ S f h hρ => lc_tick ρ (W ++ X) (by rw [List.map_append]; exact h) (by rw [List.length_append]; omega) hρ
    have h1 := hlc [.op .arrive c] (by simp)
    have h2 := hlc [.op .arrive c, .op .lose c] (by simp)
    have hsub : (50 : Int) - (50 - z.age) = z.age := by omega
    by_cases hd : z.age = w.delay
    · have hd2 : w.delay ≤ z.age := by omega
      have hd3 : w.delay ≤ 50 - (50 - w.delay) := by omega
      cases hl : w.lossy <;> simp [-lcZ_s, -List.filter_append, hd3, lwC, h1, h2, hg, hg', hl, hd, hd2, hsub, hS, hS', n0, n1, n2, LwP, k0, k1, hN, hN2, dEv, cx, lateC]
    · have hd2 : ¬ w.delay ≤ z.age := by omega
      cases hl : w.lossy <;> simp [lwC, hg, hg', hl, hd, hd2, hsub, hS, hS', n0, n1, n2, LwP, k0, k1, hN, hN2, dEv, cx, lateC]
end
end Lw
set_option Elab.async false
set_option linter.all false
set_option maxRecDepth 100000
set_option maxHeartbeats 4000000
/-! M25: the law's own list of events, whole. -/
namespace Lw
open PySem PySem.Spec PyProof.Rows Dq
section
variable {G g : Gm} {b n k : Nat} {S S' U : Sto}
theorem exes_then {B : List Dq.St} {ρ' : Env'} {S1 : Sto} : ∀ (A : List Dq.St) (ρ : Env') (S : Sto), exes g b A ρ S = .ok (.next ρ') S1 → exes g b (A ++ B) ρ S = exes g b B ρ' S1
  | [], ρ, S, h => by
    simp only [exes] at h
    cases h
    rfl
  | s :: A, ρ, S, h => by
    rw [List.cons_append]
    simp only [exes] at h ⊢
    cases e : exe g b s ρ S with
    | ok f S2 =>
      rw [e] at h
      cases f with
      | next ρ2 => exact exes_then A ρ2 S2 h
      | ret d => cases h
      | brk ρ2 => cases h
      | cont ρ2 => cases h
    | exc x S2 => rw [e] at h; cases h
    | bad => rw [e] at h; cases h
theorem cw_cx (lossy p q c : Bool) (W : List Ev) : W ++ (if p = true then [.op .use c] else []) ++ cx lossy p q c = W ++ cw lossy p q c := by
  unfold cw cx
  rw [List.append_assoc]
theorem len_stepL (lossy p q t c : Bool) (W : List Ev) : (stepL lossy p q t c W).length ≤ W.length + 3 := by
  have h : (cw lossy p q c).length ≤ 3 := by
    unfold cw
    cases p <;> cases q <;> cases lossy <;> simp
  unfold stepL
  split
  · have := List.length_filter_le (fun e => decide (e ≠ Ev.tick)) (W ++ cw lossy p q c)
    rw [List.length_append] at this
    omega
  · rw [List.length_append]
    omega
theorem lw_turn (w : Wo) (root q p1 p2 : Nat) {N : Nat} (c : Bool) (cl : Cl) (dr : D) (W : List Ev) {f : Nat} (x6 x7 x8 x9 x10 x11 : Option D) (hN : N ≤ S.length) (hf : N ≤ f) (hS : S[f]? = some (.lst (W.map dEv))) (hW : W.length ≤ 700)
    (hqN : q < N) (hq : S[q]? = some (.lst [.loc p1, .loc p2])) (hp : S[if c = true then p2 else p1]? = some (.lst [.int (50 + cl.left), .int cl.num, dr])) (hy : Rdd S cl.way dr) (hyN : ∀ z, cl.way = some z → ∀ g, dr = .loc g → g < N) (ha : ∀ z, cl.way = some z → z.age ≤ w.delay) :
    LwP w root q N S c (.int (50 + cl.left)) dr (stepL w.lossy (decide (0 < cl.left)) cl.way.isSome (lateC w cl) c W) (exes g b (lwA ++ lwC) [some (dWo w), some (.loc root), some (dC c), some (.int 50), some (.loc q), some (.loc f), x6, x7, x8, x9, x10, x11] S) := by
  obtain ⟨f1, x7, x9, x10, x11, S1, e1, g1, g2, g3⟩ := (lw_a (g := g) (b := b) w root q p1 p2 c cl.left cl.num dr W x6 x7 x8 x9 x10 x11 hN hf hS (by omega) hq hp).elim
  rw [exes_then _ _ _ e1]
  have hy1 : Rdd S1 cl.way dr := by
    cases h : cl.way with
    | none => rw [h] at hy; exact hy
    | some z =>
      rw [h] at hy
      obtain ⟨gd, hd, hg⟩ := hy
      exact ⟨gd, hd, g2.get (hyN z h gd hd) hg⟩
  have h2 := lw_c (g := g) (b := b) w root q c cl.left cl.way dr _ x7 x9 x10 x11 g2.1 g1 g3 (by
    rw [List.length_append]
    have : (if decide (0 < cl.left) = true then [Ev.op .use c] else []).length ≤ 1 := by split <;> simp
    omega) hy1 ha
  rw [cw_cx] at h2
  obtain ⟨f2, y7, y9, y10, y11, S2, e2, q1, q2, q3⟩ := h2.elim
  rw [e2]
  exact ⟨rfl, rfl, rfl, rfl, rfl, rfl, rfl, q1, g2.trans q2, q3⟩
theorem gc_loc {m : Nat} {ds : List D} (h : S'[m]? = some (.lst ds)) (hb : b ≤ m) (hd : belowAll b ds = true) : gcOut b (.ok (.loc m) S') = .ok (.loc b) (S'.take b ++ [.lst ds]) := by
  have e : below b (.loc m) = false := by
    simp only [below]
    cases e : Nat.blt m b with
    | false => rfl
    | true => exact absurd (Nat.blt_eq.mp e) (by omega)
  unfold gcOut
  dsimp only
  rw [e, h]
  dsimp only
  rw [show belowC b (.lst ds) = belowAll b ds from rfl, hd]
  rfl
theorem p_law_events {w : Wo} {r : Ru} {s : Sd} (v : VS w r s) {root h q p1 p2 : Nat} {d1 d2 : D} (k1 : S[root]? = some (.lst [.int 50, .loc h, .int s.used, .loc q])) (k2 : S[q]? = some (.lst [.loc p1, .loc p2]))
    (c1 : S[p1]? = some (.lst [.int (50 + s.one.left), .int s.one.num, d1])) (c2 : S[p2]? = some (.lst [.int (50 + s.two.left), .int s.two.num, d2])) (r1 : Rdd S s.one.way d1) (r2 : Rdd S s.two.way d2) :
    runFn (lev T k) f__law_events [dWo w, .loc root] n S = .ok (.loc S.length) (S ++ [.lst ((evL w s).map dEv)]) := by
  rw [run_cut rfl rfl]
  show gcOut S.length (ret1 (exes (lev T k) S.length [(.asg (.tup [(.name 3), (.name 4), (.name 5)]) (.tup [(.ix (.var 1) (.int 0)), (.ix (.var 1) (.int 3)), (.lst [(.tup [(.str "tick")])])])), (.for_ (.name 2) .seq [(.tup [(.int 0), (.int 1)])] (lwA ++ lwC)), (.ret (.blt .sorted [(.bin .add (.var 5) (.bin .mul (.lst [(.tup [(.str "fall")])]) (.blt .int [(.ix (.var 0) (.int 2))])))]))] [some (dWo w), some (.loc root), none, none, none, none, none, none, none, none, none, none] S)) = _
  have lt : ∀ {m : Nat} {c : Cell}, S[m]? = some c → m < S.length := fun h => (List.getElem?_eq_some_iff.mp h).1
  have hR : ∀ {y : Option Way} {d : D}, Rdd S y d → ∀ z, y = some z → ∀ g, d = .loc g → g < S.length := fun h z e g e' => by
    subst e e'
    obtain ⟨g', h1, h2⟩ := h
    cases h1
    exact lt h2
  have hRk : ∀ {y : Option Way} {d : D} {S' : Sto}, Kp S.length S S' → Rdd S y d → Rdd S' y d := fun {y d S'} K h => by
    cases y with
    | none => exact h
    | some z =>
      obtain ⟨g', h1, h2⟩ := h
      exact ⟨g', h1, K.get (lt h2) h2⟩
  have K0 : Kp S.length S (S ++ [Cell.lst (([Ev.tick] : List Ev).map dEv)]) := (Kp.refl (Nat.le_refl _)).app
  obtain ⟨f1, x7, x9, x10, x11, S1, e1, a1, a2, a3⟩ := (lw_turn (g := lev T k) (b := S.length) w root q p1 p2 (N := S.length) false s.one d1 [.tick] none none none none none none K0.1 (Nat.le_refl _) (by simp) (by simp) (lt k2) (K0.get (lt k2) k2) (K0.get (lt c1) c1) (hRk K0 r1) (hR r1) (fun z e => (v.one.w z e).a1)).elim
  have K1 := K0.trans a2
  have l1 := len_stepL w.lossy (decide (0 < s.one.left)) s.one.way.isSome (lateC w s.one) false [.tick]
  obtain ⟨f2, y7, y9, y10, y11, S2, e2, b1, b2, b3⟩ := (lw_turn (g := lev T k) (b := S.length) w root q p1 p2 (N := S.length) true s.two d2 _ (some (.int (50 + s.one.left))) x7 (some d1) x9 x10 x11 K1.1 a1 a3 (by simp at l1; omega) (lt k2) (K1.get (lt k2) k2) (K1.get (lt c2) c2) (hRk K1 r2) (hR r2) (fun z e => (v.two.w z e).a1)).elim
  have K2 := K1.trans b2
  have l2 := len_stepL w.lossy (decide (0 < s.two.left)) s.two.way.isSome (lateC w s.two) true (stepL w.lossy (decide (0 < s.one.left)) s.one.way.isSome (lateC w s.one) false [.tick])
  have hev : evL w s = isort leEv (evW w.falls w.lossy (decide (0 < s.one.left)) s.one.way.isSome (lateC w s.one) (decide (0 < s.two.left)) s.two.way.isSome (lateC w s.two)) := by
    have hl : ∀ c : Cl, (c.way.isSome && lateC w c) = lateC w c := fun c => by
      unfold lateC
      cases c.way <;> simp
    rw [ev_same, hl, hl]
    rfl
  rw [hev]
  unfold evW
  generalize stepL w.lossy (decide (0 < s.two.left)) s.two.way.isSome (lateC w s.two) true (stepL w.lossy (decide (0 < s.one.left)) s.one.way.isSome (lateC w s.one) false [.tick]) = Y at *
  have hY : Y.length ≤ 7 := by simp at l1; omega
  simp only [dC_0, dC_1, List.map_cons, List.map_nil, show dEv .tick = D.tup [.str "tick"] from rfl] at e1 e2
  have hk2 : S2.take S.length = S := by
    apply List.ext_getElem?
    intro m
    rw [List.getElem?_take]
    split
    · rename_i hm; exact K2.2 m hm
    · rename_i hm; exact (List.getElem?_eq_none (by omega)).symm
  have n1 : Y.length + 1 ≤ 16777216 := by omega
  have n0 : Y.length ≤ 16777216 := by omega
  cases hf : w.falls with
  | false =>
    have hs : ∀ S, srtL S (some (.lst (Y.map dEv))) = .ok (.loc S.length) (S ++ [.lst ((isort leEv Y).map dEv)]) := fun S => srtL_ev (by omega)
    have b3' := get_app b3
    simp [k1, e1, e2, hf, b3, b3', hs, n0]
    rw [gc_loc (ds := (isort leEv Y).map dEv) (by simp) (by have := K2.1; omega) (by simp), List.take_append_of_le_length K2.1, hk2]
  | true =>
    have hs : ∀ S, srtL S (some (.lst (Y.map dEv ++ [.tup [.str "fall"]]))) = .ok (.loc S.length) (S ++ [.lst ((isort leEv (Y ++ [Ev.fall])).map dEv)]) := fun S => by
      rw [show Y.map dEv ++ [D.tup [.str "fall"]] = (Y ++ [Ev.fall]).map dEv from by simp [dEv]]
      exact srtL_ev (by rw [List.length_append]; simp; omega)
    have b3' := get_app b3
    simp [k1, e1, e2, hf, b3, b3', hs, n1]
    rw [gc_loc (ds := (isort leEv (Y ++ [Ev.fall])).map dEv) (by simp) (by have := K2.1; omega) (by simp), List.take_append_of_le_length K2.1, hk2]
theorem at_of {w : Wo} {r : Ru} {s : Sd} (v : VS w r s) {K : Sto} {root h q p1 p2 : Nat} {d1 d2 : D} (hK : runFn (lev T k) f__law_known [dSd s] 0 [] = .ok (.loc root) K) (k1 : K[root]? = some (.lst [.int 50, .loc h, .int s.used, .loc q])) (k2 : K[q]? = some (.lst [.loc p1, .loc p2]))
    (c1 : K[p1]? = some (.lst [.int (50 + s.one.left), .int s.one.num, d1])) (c2 : K[p2]? = some (.lst [.int (50 + s.two.left), .int s.two.num, d2])) (r1 : Rdd K s.one.way d1) (r2 : Rdd K s.two.way d2) :
    runFn (lev T (k + 1)) f__law_at [dWo w, dSd s] n S = .ok (.loc S.length) (S ++ [.lst ((evL w s).map dEv)]) := by
  rw [run_pure rfl rfl (by simp)]
  have hE : runFn (lev T k) f__law_events [dWo w, .loc root] 0 K = .ok (.loc K.length) (K ++ [.lst ((evL w s).map dEv)]) := p_law_events v k1 k2 c1 c2 r1 r2
  simp [f__law_at, b__law_at, Dq.envOf, hK, hE]
theorem p_law_at {w : Wo} {r : Ru} {s : Sd} (v : VS w r s) : runFn (lev T (k + 1)) f__law_at [dWo w, dSd s] n S = .ok (.loc S.length) (S ++ [.lst ((evL w s).map dEv)]) := by
  cases h1 : s.one.way with
  | none =>
    cases h2 : s.two.way with
    | none => exact at_of v (p_known00 s h1 h2) rfl rfl rfl rfl (by rw [h1]; rfl) (by rw [h2]; rfl)
    | some y2 => exact at_of v (p_known01 s h1 h2) rfl rfl rfl rfl (by rw [h1]; rfl) (by rw [h2]; exact ⟨2, rfl, rfl⟩)
  | some y1 =>
    cases h2 : s.two.way with
    | none => exact at_of v (p_known10 s h1 h2) rfl rfl rfl rfl (by rw [h1]; exact ⟨1, rfl, rfl⟩) (by rw [h2]; rfl)
    | some y2 => exact at_of v (p_known11 s h1 h2) rfl rfl rfl rfl (by rw [h1]; exact ⟨1, rfl, rfl⟩) (by rw [h2]; exact ⟨3, rfl, rfl⟩)
end
end Lw
set_option Elab.async false
set_option linter.all false
set_option maxRecDepth 100000
set_option maxHeartbeats 4000000
/-! M26: possible, after; what the law's call tells. -/
namespace Lw
open PySem PySem.Spec PyProof.Rows Dq
section
variable {G g : Gm} {b n k : Nat} {S S' U : Sto}
@[simp] theorem eq_tt {m : Bool} {a c : List D} : eqD m (.tup a) (.tup c) n S = (match optMap (py S 15) a, optMap (py S 15) c with
    | some p, some q => .ok (.bl (m ^^ PyData.eqvAll p q)) S
    | _, _ => .bad) := by
  unfold eqD
  rw [show dep = 15 + 1 from rfl, py_tup, py_tup]
  cases optMap (py S 15) a with
  | none => rfl
  | some p => cases optMap (py S 15) c <;> rfl
@[simp] theorem kd_ev (e : Ev) : kdOf (dEv e) S = some .tup := by cases e <;> rfl
@[simp] theorem its_ev0 : itemsOf (dEv .tick) S = some [.str "tick"] := rfl
/-- a pure function that sees a cell -/
theorem run_seen {fd : Fn} {args : List D} (h1 : fd.gc = .pure) (h2 : Nat.beq args.length fd.np = true) (h3 : belowAll 0 args = false) : runFn g fd args b S = gcOut S.length (ret1 (exes g S.length fd.body (Dq.envOf fd args) S)) := by
  unfold runFn
  rw [if_pos h2, h1]
  dsimp only
  rw [if_neg (by rw [h3]; simp)]
@[simp] theorem bel_loc0 {m : Nat} : below 0 (D.loc m) = false := by
  simp only [below]
  cases m <;> rfl
@[simp] theorem gc_exc {x : Exn} : gcOut S.length (.exc x S) = .exc x S := by
  show Out.exc x (S.take S.length) = _
  rw [List.take_length]
theorem gc_ok {d : D} (h : below 0 d = true) (hb : below S.length d = true) : gcOut S.length (.ok d S) = .ok d S := by
  rw [gc_pure hb, List.take_length]
@[simp] theorem gc_bl {p : Bool} : gcOut S.length (.ok (.bl p) S) = .ok (.bl p) S := gc_ok rfl rfl
@[simp] theorem gc_str {x : Str} : gcOut S.length (.ok (.str x) S) = .ok (.str x) S := gc_ok rfl rfl
end
end Lw
set_option Elab.async false
set_option linter.all false
set_option maxRecDepth 100000
set_option maxHeartbeats 4000000
/-! M28: what numbers are drawn from. -/
namespace Lw
open PySem PySem.Spec PyProof.Rows Dq
section
variable {G g : Gm} {b n k : Nat} {S S' U : Sto}
def SrcZ (Z : Cell) : Prop := ∃ a c : Int, Z = .lst [.int a, .int c] ∧ 0 ≤ a ∧ 0 ≤ c ∧ c < 4294967296
@[simp] theorem okw_i {m : Nat} {i : Int} : okw b m (.int i) = true := okw_v rfl
@[simp] theorem bin_mod_i {i j : Int} (h : 0 < j) : modD (.int i) (.int j) n S = .ok (.int (i % j)) S := by
  show (if decide (0 < j) = true then Out.ok (D.int (i % j)) S else .bad) = _
  rw [if_pos (by simpa using h)]
theorem div_i {i j : Int} (h : 0 < j) (h' : j < 1073741824) : divD (.int i) (.int j) n S = .ok (.int (i / j)) S := by
  show (if (decide (0 < j) && decide (j < 1073741824)) = true then Out.ok (D.int (i / j)) S else .bad) = _
  rw [if_pos (by simp [h, h'])]
theorem mul_i {i j : Int} (h : within 18446744073709551616 i = true ∨ within 18446744073709551616 j = true) : mulD (.int i) (.int j) n S = .ok (.int (i * j)) S := by
  show (if (within 18446744073709551616 i || within 18446744073709551616 j) = true then Out.ok (D.int (i * j)) S else .bad) = _
  rw [if_pos (by rw [Bool.or_eq_true]; exact h)]
theorem within_of {m i : Int} (h1 : -m < i) (h2 : i < m) : within m i = true := by
  unfold within
  simp [h1, h2]
/-- the call cuts back to where it began -/
theorem gc_take {d : D} {m : Nat} (h : below m d = true) : gcOut m (.ok d S) = .ok d (S.take m) := gc_pure h
theorem p_pick {m : Int} {s : Nat} {Z : Cell} (hm : 0 < m) (hm' : m < 1073741824) (hZ : SrcZ Z) (hS : S[s]? = some Z) : ∃ j Z', 0 ≤ j ∧ j < m ∧ SrcZ Z' ∧ runFn g f__law_pick [.loc s, .int m] b S = .ok (.int j) (S.set s Z') := by
  obtain ⟨a, c, rfl, ha, hc, hc'⟩ := hZ
  have hl : (S.set s (.lst [.int a, .int c])).length = S.length := by rw [List.length_set]
  have hset : ∀ c, (List.set S s c)[s]? = some c := fun c => get_set_eq hS
  have htake : ∀ c, (List.set S s c).take S.length = List.set S s c := fun c => List.take_of_length_le (by rw [List.length_set]; exact Nat.le_refl _)
  by_cases h : 0 < a
  · refine ⟨a % m, .lst [.int (a / m), .int c], Int.emod_nonneg _ (by omega), Int.emod_lt_of_pos _ hm, ⟨_, _, rfl, Int.ediv_nonneg ha (by omega), hc, hc'⟩, ?_⟩
    rw [run_cut rfl rfl]
    have h1 := div_i (n := S.length) (S := S) (i := a) hm hm'
    simp [f__law_pick, b__law_pick, Dq.envOf, hS, h, hm, h1]
    rw [gc_pure rfl, htake]
  · generalize hx : (c * 44497 + 9973) % 2147483647 = x
    have x0 : 0 ≤ x := by rw [← hx]; exact Int.emod_nonneg _ (by omega)
    have x1 : x < 2147483647 := by rw [← hx]; exact Int.emod_lt_of_pos _ (by omega)
    refine ⟨x * x % 2147483399 / 11 % m, .lst [.int a, .int x], Int.emod_nonneg _ (by omega), Int.emod_lt_of_pos _ hm, ⟨_, _, rfl, ha, x0, by omega⟩, ?_⟩
    have m1 : ∀ S : Sto, mulD (.int c) (.int 44497) S.length S = .ok (.int (c * 44497)) S := fun S => mul_i (.inr (by decide))
    have m1' : ∀ n, ∀ S : Sto, mulD (.int c) (.int 44497) n S = .ok (.int (c * 44497)) S := fun n S => mul_i (.inr (by decide))
    have m2 : ∀ n, ∀ S : Sto, mulD (.int x) (.int x) n S = .ok (.int (x * x)) S := fun n S => mul_i (.inl (within_of (by omega) (by omega)))
    have m3 : ∀ n, ∀ S : Sto, modD (.int (c * 44497 + 9973)) (.int 2147483647) n S = .ok (.int x) S := fun n S => by rw [bin_mod_i (by omega), hx]
    have m4 : ∀ i : Int, ∀ n, ∀ S : Sto, modD (.int i) (.int 2147483399) n S = .ok (.int (i % 2147483399)) S := fun i n S => bin_mod_i (by omega)
    have m5 : ∀ i : Int, ∀ n, ∀ S : Sto, divD (.int i) (.int 11) n S = .ok (.int (i / 11)) S := fun i n S => div_i (by omega) (by omega)
    have m6 : ∀ i : Int, ∀ n, ∀ S : Sto, modD (.int i) (.int m) n S = .ok (.int (i % m)) S := fun i n S => bin_mod_i hm
    rw [run_cut rfl rfl]
    simp [-bin_mod_i, f__law_pick, b__law_pick, Dq.envOf, hS, h, hset, m1', m2, m3, m4, m5, m6]
    rw [gc_pure rfl, htake]
theorem p_chosen {s m : Nat} {Z : Cell} {ds : List D} (hZ : SrcZ Z) (hS : S[s]? = some Z) (hm : S[m]? = some (.lst ds)) (hsm : m ≠ s) (h0 : 0 < ds.length) (h1 : ds.length ≤ 1000) (hb : ∀ x ∈ ds, below S.length x = true) :
    ∃ d Z', d ∈ ds ∧ SrcZ Z' ∧ runFn (lev T (k + 1)) f__law_chosen [.loc s, .loc m] b S = .ok d (S.set s Z') := by
  obtain ⟨j, Z', j0, j1, hZ', hp⟩ := p_pick (g := lev T k) (b := S.length) (m := (ds.length : Int)) (by omega) (by omega) hZ hS
  obtain ⟨i, rfl⟩ : ∃ i : Nat, j = (i : Int) := ⟨j.toNat, by omega⟩
  have hi : i < ds.length := by omega
  have htake : (List.set S s Z').take S.length = List.set S s Z' := List.take_of_length_le (by rw [List.length_set]; exact Nat.le_refl _)
  have hm' : (List.set S s Z')[m]? = some (.lst ds) := by rw [get_set_ne hsm]; exact hm
  refine ⟨ds[i], Z', List.getElem_mem hi, hZ', ?_⟩
  have hat : L2.atI ds (i : Int) = some ds[i] := by rw [atI_nat]; exact List.getElem?_eq_getElem hi
  rw [run_cut rfl rfl]
  simp [f__law_chosen, b__law_chosen, Dq.envOf, hm, hm', hp, hat]
  rw [gc_pure (hb _ (List.getElem_mem hi)), htake]
end
end Lw
set_option Elab.async false
set_option linter.all false
set_option maxRecDepth 100000
set_option maxHeartbeats 4000000
/-! M29: drawn worlds, drawn rules. -/
namespace Lw
open PySem PySem.Spec PyProof.Rows Dq
section
variable {G g : Gm} {b n k : Nat} {S S' U : Sto}
theorem set_app {s : Nat} {Z : Cell} (h : s < S.length) : List.set (S ++ U) s Z = S.set s Z ++ U := List.set_append_left _ _ h
theorem p_terms {m : Int} (hm0 : 1 ≤ m) (hm4 : m ≤ 4) {s : Nat} {Z : Cell} (hZ : SrcZ Z) (hS : S[s]? = some Z) : ∃ r Z', VR r ∧ (r.keep ≤ m ∧ r.lease ≤ m ∧ r.rest ≤ m) ∧ SrcZ Z' ∧ runFn (lev T (k + 2)) f__law_terms [.loc s, .int m] b S = .ok (dRu r) (S.set s Z') := by
  have hs : s < S.length := (List.getElem?_eq_some_iff.mp hS).1
  have hl : ∀ Z : Cell, s < (S.set s Z).length := fun Z => by rw [List.length_set]; exact hs
  have hg : ∀ Z : Cell, (S.set s Z)[s]? = some Z := fun Z => get_set_eq hS
  obtain ⟨j1, Z1, a1, c1, z1, e1⟩ := p_pick (g := lev T (k + 1)) (b := S.length) (m := m) (by omega) (by omega) hZ hS
  obtain ⟨j2, Z2, a2, c2, z2, e2⟩ := p_pick (g := lev T (k + 1)) (b := S.length) (m := m) (by omega) (by omega) z1 (hg Z1)
  rw [List.set_set] at e2
  obtain ⟨d3, Z3, m3, z3, e3⟩ := p_chosen (k := k) (b := S.length) (S := S.set s Z2 ++ [.lst [.str "asked", .str "came"]]) (m := S.length) z2 (get_app (hg Z2) _) (ds := [.str "asked", .str "came"]) (by simp) (by omega) (by simp) (by simp) (by simp)
  rw [set_app (hl _), List.set_set] at e3
  obtain ⟨d4, Z4, m4, z4, e4⟩ := p_chosen (k := k) (b := S.length) (S := S.set s Z3 ++ [.lst [.str "asked", .str "came"], .lst [.str "no", .str "yes"]]) (m := S.length + 1) z3 (get_app (hg Z3) _) (ds := [.str "no", .str "yes"]) (by simp) (by omega) (by simp) (by simp) (by simp)
  rw [set_app (hl _), List.set_set] at e4
  obtain ⟨d5, Z5, m5, z5, e5⟩ := p_chosen (k := k) (b := S.length) (S := S.set s Z4 ++ [.lst [.str "asked", .str "came"], .lst [.str "no", .str "yes"], .lst [.str "no", .str "number"]]) (m := S.length + 2) z4 (get_app (hg Z4) _) (ds := [.str "no", .str "number"]) (by simp) (by omega) (by simp) (by simp) (by simp)
  rw [set_app (hl _), List.set_set] at e5
  obtain ⟨j6, Z6, a6, c6, z6, e6⟩ := p_pick (g := lev T (k + 1)) (b := S.length) (m := m + 1) (by omega) (by omega) z5 (S := S.set s Z5 ++ [.lst [.str "asked", .str "came"], .lst [.str "no", .str "yes"], .lst [.str "no", .str "number"]]) (get_app (hg Z5) _)
  rw [set_app (hl _), List.set_set] at e6
  obtain ⟨b3, rfl⟩ : ∃ b3, d3 = .str (wAsked b3) := by
    simp only [List.mem_cons, List.not_mem_nil, or_false] at m3
    rcases m3 with rfl | rfl
    · exact ⟨true, rfl⟩
    · exact ⟨false, rfl⟩
  obtain ⟨b4, rfl⟩ : ∃ b4, d4 = .str (wYes b4) := by
    simp only [List.mem_cons, List.not_mem_nil, or_false] at m4
    rcases m4 with rfl | rfl
    · exact ⟨false, rfl⟩
    · exact ⟨true, rfl⟩
  obtain ⟨b5, rfl⟩ : ∃ b5, d5 = .str (wNum b5) := by
    simp only [List.mem_cons, List.not_mem_nil, or_false] at m5
    rcases m5 with rfl | rfl
    · exact ⟨false, rfl⟩
    · exact ⟨true, rfl⟩
  refine ⟨⟨1 + j1, 1 + j2, b3, b4, b5, j6⟩, Z6, ⟨by show 1 ≤ 1 + j1; omega, by show 1 + j1 ≤ 4; omega, by show 1 ≤ 1 + j2; omega, by show 1 + j2 ≤ 4; omega, a6, by show j6 ≤ 4; omega⟩, ⟨by show 1 + j1 ≤ m; omega, by show 1 + j2 ≤ m; omega, by show j6 ≤ m; omega⟩, z6, ?_⟩
  rw [run_cut rfl rfl]
  simp [f__law_terms, b__law_terms, Dq.envOf, e1, e2, e3, e4, e5, e6]
  rw [gc_pure (by simp), List.take_append_of_le_length (by rw [List.length_set]; exact Nat.le_refl _), List.take_of_length_le (by rw [List.length_set]; exact Nat.le_refl _)]
  rfl
theorem p_source (ns : List Int) (i : Nat) (hi : i ≤ 63) (hn : ns.length ≤ 63) : ∃ Z, SrcZ Z ∧ runFn (lev T k) f__law_source [.arr (ns.map D.int), .int (i : Nat)] b S = .ok (.loc S.length) (S ++ [Z]) := by
  have hbel : ∀ L : List Int, belowAll 0 (L.map D.int) = true := fun L => by
    induction L with
    | nil => simp
    | cons x L ih => simp [ih]
  have hba : below 0 (.arr (ns.map D.int)) = true := by simp only [below]; exact hbel ns
  have p1 : powD (.int 10) (.int 18) 0 [] = .ok (.int 1000000000000000000) [] := by rfl
  have key : ∀ N : Int, ∃ Z, SrcZ Z ∧ pureOut S (ret1 (exes (lev T k) 0 (b__law_source.drop 2) [some (.arr (ns.map D.int)), some (.int (i : Nat)), some (.int N), none] [])) = .ok (.loc S.length) (S ++ [Z]) := fun N => by
    have q1 : mulD (.int N) (.int 16807) 0 [] = .ok (.int (N * 16807)) [] := mul_i (.inr (by decide))
    have q2 : mulD (.int 60919) (.int (i : Nat)) 0 [] = .ok (.int (60919 * (i : Int))) [] := mul_i (.inl (by decide))
    generalize hx : (N * 16807 + 60919 * (i : Int) + 31) % 2147481173 = x
    have x0 : 0 ≤ x := by rw [← hx]; exact Int.emod_nonneg _ (by omega)
    have x1 : x < 2147481173 := by rw [← hx]; exact Int.emod_lt_of_pos _ (by omega)
    have q3 : modD (.int (N * 16807 + 60919 * (i : Int) + 31)) (.int 2147481173) 0 [] = .ok (.int x) [] := by rw [bin_mod_i (by omega), hx]
    have q4 : mulD (.int x) (.int x) 0 [] = .ok (.int (x * x)) [] := mul_i (.inl (within_of (by omega) (by omega)))
    generalize hy : x * x % 2147481151 = y
    have y0 : 0 ≤ y := by rw [← hy]; exact Int.emod_nonneg _ (by omega)
    have y1 : y < 2147481151 := by rw [← hy]; exact Int.emod_lt_of_pos _ (by omega)
    have q5 : modD (.int (x * x)) (.int 2147481151) 0 [] = .ok (.int y) [] := by rw [bin_mod_i (by omega), hy]
    have q6 : mulD (.int 2) (.int (i : Nat)) 0 [] = .ok (.int (2 * (i : Int))) [] := mul_i (.inl (by decide))
    refine ⟨.lst [.int (if 1000000000000000000 ≤ N then N else 0), .int (y + 2 * (i : Int) + 5)], ⟨_, _, rfl, by split <;> omega, by omega, by omega⟩, ?_⟩
    by_cases h : 1000000000000000000 ≤ N
    · simp [-bin_mod_i, b__law_source, q1, q2, q3, q4, q5, q6, p1, h]
    · simp [-bin_mod_i, b__law_source, q1, q2, q3, q4, q5, q6, p1, h]
  have hrun : runFn (lev T k) f__law_source [.arr (ns.map D.int), .int (i : Nat)] b S = pureOut S (ret1 (exes (lev T k) 0 b__law_source [some (.arr (ns.map D.int)), some (.int (i : Nat)), none, none] [])) := by
    rw [run_pure rfl rfl (by simp [hba])]
    rfl
  by_cases h : i < ns.length
  · obtain ⟨Z, hZ, e⟩ := key (ns[i])
    refine ⟨Z, hZ, ?_⟩
    rw [hrun, ← e]
    have hat : L2.atI (ns.map D.int) ((i : Nat) : Int) = some (.int ns[i]) := by
      rw [atI_nat, List.getElem?_map, List.getElem?_eq_getElem h]
      rfl
    have hit : itemsOf (.arr (ns.map D.int)) [] = some (ns.map D.int) := rfl
    have hix : alt2 ixD gixD (.arr (ns.map D.int)) (.int (i : Nat)) 0 [] = .ok (.int ns[i]) [] := by rw [ix_of hit, hat]; rfl
    have hln : lenD [.arr (ns.map D.int)] 0 [] = .ok (.int (ns.length : Nat)) [] := by
      show Out.ok (D.int ((ns.map D.int).length : Nat)) [] = _
      rw [List.length_map]
    have h2 : exes (lev T k) 0 (b__law_source.take 2) [some (.arr (ns.map D.int)), some (.int (i : Nat)), none, none] [] = .ok (.next [some (.arr (ns.map D.int)), some (.int (i : Nat)), some (.int ns[i]), none]) [] := by
      simp [b__law_source, hln, hix, h]
    rw [show b__law_source = b__law_source.take 2 ++ b__law_source.drop 2 from rfl, exes_then _ _ _ h2]
    rfl
  · obtain ⟨Z, hZ, e⟩ := key 0
    refine ⟨Z, hZ, ?_⟩
    rw [hrun, ← e]
    have hln : lenD [.arr (ns.map D.int)] 0 [] = .ok (.int (ns.length : Nat)) [] := by
      show Out.ok (D.int ((ns.map D.int).length : Nat)) [] = _
      rw [List.length_map]
    have h2 : exes (lev T k) 0 (b__law_source.take 2) [some (.arr (ns.map D.int)), some (.int (i : Nat)), none, none] [] = .ok (.next [some (.arr (ns.map D.int)), some (.int (i : Nat)), some (.int 0), none]) [] := by
      simp [b__law_source, hln, h]
    rw [show b__law_source = b__law_source.take 2 ++ b__law_source.drop 2 from rfl, exes_then _ _ _ h2]
    rfl
end
end Lw
set_option Elab.async false
set_option linter.all false
set_option maxRecDepth 100000
set_option maxHeartbeats 4000000
/-! M30: the law's loops. -/
namespace Lw
open PySem PySem.Spec PyProof.Rows Dq
section
variable {G g : Gm} {b n k : Nat} {S S' U : Sto}
theorem forL_inv {tg : Tg} {body : List Dq.St} {src : Src} {N : Nat} (I : Nat → Env' → Sto → Prop)
    (hc : ∀ i ρ S, i < N → I i ρ S → ∃ x ρ2 ρ3 S3, cur src S i = some (some x) ∧ asgT tg x ρ S = some ρ2 ∧ exes g b body ρ2 S = .ok (.next ρ3) S3 ∧ I (i + 1) ρ3 S3)
    (he : ∀ ρ S, I N ρ S → cur src S N = some none) :
    ∀ (fu i : Nat) (ρ : Env') (S : Sto), i + fu = N → I i ρ S → ∃ ρ' S', forL g b tg body src fu i ρ S = .ok (.next ρ') S' ∧ I N ρ' S'
  | 0, i, ρ, S, h, hi => by
    have : i = N := by omega
    subst this
    refine ⟨ρ, S, ?_, hi⟩
    rw [forL_0, he ρ S hi]
    rfl
  | fu + 1, i, ρ, S, h, hi => by
    obtain ⟨x, ρ2, ρ3, S3, h1, h2, h3, h4⟩ := hc i ρ S (by omega) hi
    rw [forL_s, h1, forA_s, h2, forB_s, h3, forC_n]
    exact forL_inv I hc he fu (i + 1) ρ3 S3 (by omega) h4
/-! ### equality of what lies behind an event -/
@[simp] theorem eqv_nn : PyData.eqv .none .none = true := rfl
theorem eq_self_sd (m : Bool) (s : Sd) {x : Str} (hx : PyData.strOk x = true) : eqD m (.tup [dSd s, .str x]) (.tup [dSd s, .str x]) n S = .ok (.bl (m ^^ true)) S := by
  obtain ⟨⟨who, l, e, hn⟩, u, ⟨l1, n1, w1⟩, ⟨l2, n2, w2⟩⟩ := s
  rcases who with _ | _ | _ <;> cases w1 <;> cases w2 <;> simp [dSd, dHo, dCl, hx]
theorem so_asked2 (r : Ru) (s : Sd) (c : Bool) (y : Way) : PyData.strOk (askedM r s c y).2 = true := by
  unfold askedM
  split
  · simp
  · split <;> simp
theorem so_arrived (r : Ru) (s : Sd) (c : Bool) (y : Way) : PyData.strOk (arrivedM r s c y).2 = true := by
  have := so_asked2 r s c y
  unfold arrivedM
  cases y.k
  · exact this
  · exact this
  · dsimp only
    by_cases h : s.ho.who = some c
    · rw [if_pos h]; simp
    · rw [if_neg h]; simp
  · dsimp only
    generalize (if r.asked = true then r.lease - y.since else r.lease) = z
    by_cases h : z ≤ (s.cl c).left
    · rw [if_pos h]; simp
    · rw [if_neg h]; simp
theorem so_happened (r : Ru) (s : Sd) (e : Ev) : PyData.strOk (happenedM r s e).2 = true := by
  cases e with
  | tick => simp [happenedM]
  | fall => simp [happenedM]
  | op o c =>
    cases o with
    | arrive =>
      simp only [happenedM]
      cases (s.cl c).way with
      | none => simp
      | some y => exact so_arrived r s c y
    | use => simp only [happenedM]; split <;> simp
    | _ => simp [happenedM]
theorem so_step (r : Ru) (s : Sd) (e : Ev) : PyData.strOk (stepM r s e).2 = true := so_happened r s e
/-! ### the parts of a turn -/
end
end Lw
set_option Elab.async false
set_option linter.all false
set_option maxRecDepth 100000
set_option maxHeartbeats 4000000
/-! M36: loops; equality. -/
namespace Lw
open PySem PySem.Spec PyProof.Rows Dq
section
variable {G g : Gm} {b n k : Nat} {S S' U : Sto}
theorem srcF_rng {m : Nat} (h : m ≤ 24) : srcF .rng (.ok [.int (m : Int)] S) = .ok (.rng 0 m) S := by
  have h : m = 0 ∨ m = 1 ∨ m = 2 ∨ m = 3 ∨ m = 4 ∨ m = 5 ∨ m = 6 ∨ m = 7 ∨ m = 8 ∨ m = 9 ∨ m = 10 ∨ m = 11 ∨ m = 12 ∨ m = 13 ∨ m = 14 ∨ m = 15 ∨ m = 16 ∨ m = 17 ∨ m = 18 ∨ m = 19 ∨ m = 20 ∨ m = 21 ∨ m = 22 ∨ m = 23 ∨ m = 24 := by omega
  rcases h with rfl | rfl | rfl | rfl | rfl | rfl | rfl | rfl | rfl | rfl | rfl | rfl | rfl | rfl | rfl | rfl | rfl | rfl | rfl | rfl | rfl | rfl | rfl | rfl | rfl <;> rfl
theorem cnt_rng {lo : Int} {m : Nat} : cnt (.rng lo m) S = m := rfl
theorem cur_rng {lo : Int} {m i : Nat} (h : i < m) : cur (.rng lo m) S i = some (some (.int (lo + (i : Nat)))) := if_pos (by rw [Nat.blt_eq]; exact h)
theorem cur_rng_e {lo : Int} {m : Nat} : cur (.rng lo m) S m = some none := if_neg (by rw [Nat.blt_eq]; omega)
/-- a loop over a cell whose turns change nothing but the name -/
theorem for_same {v l : Nat} {ds : List D} {body : List Dq.St} (P : Env' → Prop) (hl : S[l]? = some (.lst ds)) (hb : ∀ x ∈ ds, ∀ ρ, P ρ → exes g b body (ρ.set v (some x)) S = .ok (.next (ρ.set v (some x))) S ∧ P (ρ.set v (some x))) (ρ : Env') (hP : P ρ) :
    ∃ ρ', forL g b (.name v) body (.seq (.loc l)) ds.length 0 ρ S = .ok (.next ρ') S ∧ P ρ' := by
  obtain ⟨ρ', S', e, rfl, h⟩ := forL_inv (g := g) (b := b) (tg := .name v) (body := body) (src := .seq (.loc l)) (N := ds.length) (fun _ ρ S' => S' = S ∧ P ρ)
    (fun i ρ S' hi ⟨h1, h2⟩ => by
      subst h1
      obtain ⟨e, hp⟩ := hb ds[i] (List.getElem_mem hi) ρ h2
      refine ⟨ds[i], _, _, _, ?_, rfl, e, rfl, hp⟩
      rw [cur_loc, hl, itsL_s, curL_s, List.getElem?_eq_getElem hi])
    (fun ρ S' ⟨h1, _⟩ => by
      subst h1
      rw [cur_loc, hl, itsL_s, curL_s, List.getElem?_eq_none (Nat.le_refl _)]) ds.length 0 ρ S (by omega) ⟨rfl, hP⟩
  exact ⟨ρ', e, h⟩
@[simp] theorem sl_wo (w : Wo) {lo hi : Option Int} : slD (dWo w) lo hi n S = .ok (.tup (cutD [.int w.delay, .bl w.lossy, .bl w.falls] lo hi)) S := rfl
@[simp] theorem sl_ru (r : Ru) {lo hi : Option Int} : slD (dRu r) lo hi n S = .ok (.tup (cutD [.int r.keep, .int r.lease, .str (wAsked r.asked), .str (wYes r.again), .str (wNum r.numb), .int r.rest] lo hi)) S := rfl
@[simp] theorem cut_f {a b c : D} : cutD [a, b, c] none (some 2) = [a, b] := rfl
@[simp] theorem cut_g {a b c d e f : D} : cutD [a, b, c, d, e, f] none (some 5) = [a, b, c, d, e] := rfl
theorem C_first (k : Nat) : (lev T k).C "FIRST" = some (dSd firstM) := by cases k <;> kernel_rfl
theorem p_lfirst : runFn (lev T k) f__law_first [] b S = .ok (dSd firstM) S := by
  rw [run_pure rfl rfl (by simp)]
  simp [f__law_first, b__law_first, Dq.envOf]
  exact po_d (d := dSd firstM) (by simp)
theorem eq_sd (m : Bool) (s : Sd) : eqD m (dSd s) (dSd s) n S = .ok (.bl (m ^^ true)) S := by
  obtain ⟨⟨who, l, e, hn⟩, u, ⟨l1, n1, w1⟩, ⟨l2, n2, w2⟩⟩ := s
  rcases who with _ | _ | _ <;> cases w1 <;> cases w2 <;> simp [dSd, dHo, dCl]
end
end Lw
set_option Elab.async false
set_option linter.all false
set_option maxRecDepth 100000
set_option maxHeartbeats 4000000
/-! W1: stands as keys. -/
namespace Lw
open PySem PySem.Spec PyProof.Rows Dq
instance : DecidableEq Way := fun a b => decidable_of_iff (a.k = b.k ∧ a.age = b.age ∧ a.since = b.since ∧ a.num = b.num) (by cases a; cases b; simp)
instance : DecidableEq Cl := fun a b => decidable_of_iff (a.left = b.left ∧ a.num = b.num ∧ a.way = b.way) (by cases a; cases b; simp)
instance : DecidableEq Ho := fun a b => decidable_of_iff (a.who = b.who ∧ a.left = b.left ∧ a.rest = b.rest ∧ a.num = b.num) (by cases a; cases b; simp)
instance : DecidableEq Sd := fun a b => decidable_of_iff (a.ho = b.ho ∧ a.used = b.used ∧ a.one = b.one ∧ a.two = b.two) (by cases a; cases b; simp)
section
variable {g : Gm} {b n k : Nat} {S S' U : Sto}
/-- a stand as a key -/
def kWay : Option Way → NestedKey
  | none => .none
  | some y => .tup [.text y.k.w, .num y.age, .num y.since, .num y.num]
def kWho : Option Bool → NestedKey
  | none => .none
  | some c => .num (if c = true then 1 else 0)
def kCl (c : Cl) : NestedKey := .tup [.num c.left, .num c.num, kWay c.way]
def kHo (h : Ho) : NestedKey := .tup [kWho h.who, .num h.left, .num h.rest, .num h.num]
def kSd (s : Sd) : NestedKey := .tup [kHo s.ho, .num s.used, kCl s.one, kCl s.two]
theorem nk_way (y : Option Way) : nkD (dWay y) = some (kWay y) := by
  cases y <;> simp [dWay, kWay, nkD, nkDs]
theorem nk_who (w : Option Bool) : nkD (dWho w) = some (kWho w) := by
  rcases w with _ | _ | _ <;> rfl
theorem nk_cl (c : Cl) : nkD (dCl c) = some (kCl c) := by
  simp [dCl, kCl, nkD, nkDs, nk_way]
theorem nk_ho (h : Ho) : nkD (dHo h) = some (kHo h) := by
  simp [dHo, kHo, nkD, nkDs, nk_who]
theorem dp_way (y : Option Way) : NestedKey.depth (kWay y) ≤ 1 := by
  cases y <;> simp [kWay, NestedKey.depth, NestedKey.depthAll]
theorem dp_who (w : Option Bool) : NestedKey.depth (kWho w) ≤ 1 := by
  rcases w with _ | _ | _ <;> simp [kWho, NestedKey.depth]
theorem nk_sd (s : Sd) : nkT (dSd s) = some (kSd s) := by
  have h1 : nkDs [dHo s.ho, .int s.used, dCl s.one, dCl s.two] = some [kHo s.ho, .num s.used, kCl s.one, kCl s.two] := by
    simp [nkD, nkDs, nk_ho, nk_cl]
  have h2 : Nat.ble (NestedKey.depthAll [kHo s.ho, .num s.used, kCl s.one, kCl s.two]) 7 = true := by
    apply Nat.ble_eq_true_of_le
    have a := dp_way s.one.way
    have b := dp_way s.two.way
    have c := dp_who s.ho.who
    simp [kHo, kCl, NestedKey.depth, NestedKey.depthAll]
    omega
  unfold nkT dSd
  dsimp only
  rw [h1]
  dsimp only
  rw [if_pos h2]
  rfl
theorem kw_inj {a b : Kw} (h : a.w = b.w) : a = b := by cases a <;> cases b <;> simp at h <;> rfl
theorem kWay_inj {a b : Option Way} (h : kWay a = kWay b) : a = b := by
  cases a with
  | none => cases b <;> simp [kWay] at h <;> rfl
  | some a =>
    cases b with
    | none => simp [kWay] at h
    | some b =>
      obtain ⟨k1, a1, s1, n1⟩ := a
      obtain ⟨k2, a2, s2, n2⟩ := b
      simp [kWay] at h
      obtain ⟨h1, h2, h3, h4⟩ := h
      rw [kw_inj h1, h2, h3, h4]
theorem kWho_inj {a b : Option Bool} (h : kWho a = kWho b) : a = b := by
  rcases a with _ | _ | _ <;> rcases b with _ | _ | _ <;> simp [kWho] at h <;> rfl
theorem kCl_inj {a b : Cl} (h : kCl a = kCl b) : a = b := by
  obtain ⟨l1, n1, w1⟩ := a
  obtain ⟨l2, n2, w2⟩ := b
  simp [kCl] at h
  obtain ⟨h1, h2, h3⟩ := h
  rw [h1, h2, kWay_inj h3]
theorem kHo_inj {a b : Ho} (h : kHo a = kHo b) : a = b := by
  obtain ⟨w1, l1, r1, n1⟩ := a
  obtain ⟨w2, l2, r2, n2⟩ := b
  simp [kHo] at h
  obtain ⟨h1, h2, h3, h4⟩ := h
  rw [kWho_inj h1, h2, h3, h4]
theorem kSd_inj {a b : Sd} (h : kSd a = kSd b) : a = b := by
  obtain ⟨h1, u1, c1, d1⟩ := a
  obtain ⟨h2, u2, c2, d2⟩ := b
  simp [kSd] at h
  obtain ⟨e1, e2, e3, e4⟩ := h
  rw [kHo_inj e1, e2, kCl_inj e3, kCl_inj e4]
/-! ### what was found -/
abbrev Fd := List (Sd × List Ev)
def dRun (L : List Ev) : D := .tup (L.map dEv)
def encF (F : Fd) : List (D × D) := F.map fun p => (dSd p.1, dRun p.2)
def keysF (F : Fd) : List Sd := F.map (·.1)
@[simp] theorem encF_len (F : Fd) : (encF F).length = F.length := by simp [encF]
@[simp] theorem keysF_len (F : Fd) : (keysF F).length = F.length := by simp [keysF]
theorem get_enc (s : Sd) : ∀ F : Fd, getN (kSd s) (encF F) = (F.find? fun p => decide (p.1 = s)).map fun p => dRun p.2
  | [] => rfl
  | p :: F => by
    have ih := get_enc s F
    unfold getN encF at ih ⊢
    rw [List.map_cons, List.find?_cons, List.find?_cons]
    dsimp only
    rw [nk_sd]
    by_cases h : p.1 = s
    · rw [h]; simp
    · have h2 : ¬ (some (kSd p.1) = some (kSd s)) := fun e => h (kSd_inj (Option.some.inj e))
      rw [decide_eq_false h, decide_eq_false h2]
      exact ih
theorem get_none {s : Sd} {F : Fd} (h : s ∉ keysF F) : getN (kSd s) (encF F) = none := by
  rw [get_enc, List.find?_eq_none.mpr]
  · rfl
  · intro p hp
    have : p.1 ∈ keysF F := List.mem_map_of_mem hp
    simp only [decide_eq_true_eq]
    intro e
    exact h (e ▸ this)
theorem get_some {s : Sd} {F : Fd} (h : s ∈ keysF F) : (getN (kSd s) (encF F)).isSome = true := by
  rw [get_enc]
  obtain ⟨p, hp, e⟩ := List.mem_map.mp h
  rw [Option.isSome_map]
  exact List.find?_isSome.mpr ⟨p, hp, by simp [e]⟩
theorem get_at {s : Sd} {L : List Ev} {F : Fd} (nd : (keysF F).Nodup) (h : (s, L) ∈ F) : getN (kSd s) (encF F) = some (dRun L) := by
  rw [get_enc]
  have e : (F.find? fun p => decide (p.1 = s)) = some (s, L) := by
    induction F with
    | nil => cases h
    | cons p F ih =>
      have nd' := List.nodup_cons.mp (show ((p.1) :: keysF F).Nodup from nd)
      rw [List.find?_cons]
      by_cases hp : p.1 = s
      · rw [decide_eq_true hp]
        rcases List.mem_cons.mp h with z | z
        · rw [z]
        · exact absurd (List.mem_map_of_mem (f := fun q : Sd × List Ev => q.1) z) (fun z' => nd'.1 (by rw [hp]; exact z'))
      · rw [decide_eq_false hp]
        rcases List.mem_cons.mp h with z | z
        · exact absurd (by rw [← z]) hp
        · exact ih nd'.2 z
  rw [e]
  rfl
theorem put_new {s : Sd} {L : List Ev} {F : Fd} (h : s ∉ keysF F) : putN (encF F) (dSd s) (kSd s) (dRun L) = encF (F ++ [(s, L)]) := by
  unfold putN
  rw [get_none h, if_neg (by simp)]
  simp [encF]
@[simp] theorem bel_run {b : Nat} (L : List Ev) : below b (dRun L) = true := by
  have h : ∀ L : List Ev, belowAll b (L.map dEv) = true := fun L => by
    induction L with
    | nil => simp
    | cons e L ih => simp [ih]
  simp [dRun, h]
theorem bel_enc (F : Fd) : belowC b (.nd (encF F)) = true := by
  show ((encF F).all fun p => below b p.1 && below b p.2) = true
  rw [List.all_eq_true]
  intro p hp
  obtain ⟨q, _, rfl⟩ := List.mem_map.mp hp
  simp
/-! ### the operations -/
theorem kk_sd (s : Sd) : keyOf' (dSd s) = none := rfl
theorem ix_nd {f : Nat} {F : Fd} {s : Sd} {d : D} (h : S[f]? = some (.nd (encF F))) (e : getN (kSd s) (encF F) = some d) : alt2 ixD gixD (.loc f) (dSd s) n S = .ok d S := by
  have h1 : ixD (.loc f) (dSd s) n S = .bad := rfl
  have h2 : gixK (.loc f) (dSd s) n S = .bad := rfl
  have h3 : nixD (.loc f) (dSd s) n S = .ok d S := by
    unfold nixD
    dsimp only
    rw [h, nk_sd]
    show (match getN (kSd s) (encF F) with | some d => Out.ok d S | none => .bad) = _
    rw [e]
  unfold alt2
  rw [h1]
  dsimp only
  unfold gixD alt2
  rw [h2, h3]
theorem ni_nd {f : Nat} {F : Fd} {s : Sd} (m : Bool) (h : S[f]? = some (.nd (encF F))) : alt2 (inD m) (dinD m) (dSd s) (.loc f) n S = .ok (.bl (m ^^ decide (s ∈ keysF F))) S := by
  have h1 : inD m (dSd s) (.loc f) n S = .bad := by
    have hp : py S dep (.loc f) = none := by
      show (match S[f]? with
        | some (.lst ds) => (match optMap (py S 15) ds with
          | some ps => some (PyData.list ps)
          | none => none)
        | _ => none) = _
      rw [h]
    unfold inD
    rw [hp]
    cases py S dep (dSd s) <;> rfl
  have h2 : dinK m (dSd s) (.loc f) n S = .bad := rfl
  have h3 : ninD m (dSd s) (.loc f) n S = .ok (.bl (m ^^ decide (s ∈ keysF F))) S := by
    unfold ninD
    dsimp only
    rw [h, nk_sd]
    show Out.ok (D.bl (m ^^ (getN (kSd s) (encF F)).isSome)) S = _
    by_cases e : s ∈ keysF F
    · rw [get_some e, decide_eq_true e]
    · rw [get_none e, decide_eq_false e]; rfl
  unfold alt2
  rw [h1]
  dsimp only
  unfold dinD alt2
  rw [h2, h3]
theorem set_nd {f : Nat} {F : Fd} {s : Sd} {L : List Ev} (h : S[f]? = some (.nd (encF F))) (hl : F.length < 16777216) (hs : s ∉ keysF F) : sub3 (.loc f) (dSd s) (dRun L) b S = some (S.set f (.nd (encF (F ++ [(s, L)])))) := by
  have h1 : setD (.loc f) (dSd s) (dRun L) b S = none := rfl
  have h2 : dsetK (.loc f) (dSd s) (dRun L) b S = none := rfl
  unfold sub3
  rw [h1]
  show dsetD (.loc f) (dSd s) (dRun L) b S = _
  unfold dsetD
  rw [h2]
  show nsetD (.loc f) (dSd s) (dRun L) b S = _
  unfold nsetD
  rw [nk_sd]
  dsimp only
  rw [h]
  dsimp only
  rw [if_pos (by rw [okw_v (by simp), Bool.true_and, Nat.blt_eq, encF_len]; exact hl), put_new hs]
theorem set_nd0 {f : Nat} {s : Sd} {L : List Ev} (h : S[f]? = some (.dic [])) : sub3 (.loc f) (dSd s) (dRun L) b S = some (S.set f (.nd (encF [(s, L)]))) := by
  have h1 : setD (.loc f) (dSd s) (dRun L) b S = none := rfl
  have h2 : dsetK (.loc f) (dSd s) (dRun L) b S = none := rfl
  unfold sub3
  rw [h1]
  show dsetD (.loc f) (dSd s) (dRun L) b S = _
  unfold dsetD
  rw [h2]
  show nsetD (.loc f) (dSd s) (dRun L) b S = _
  unfold nsetD
  rw [nk_sd]
  dsimp only
  rw [h]
  dsimp only
  rw [if_pos (okw_v (by simp))]
  rfl
end
end Lw
set_option Elab.async false
set_option linter.all false
set_option maxRecDepth 100000
set_option maxHeartbeats 4000000
/-! W2: what is true of all stands that come. -/
namespace Lw
open PySem PySem.Spec PyProof.Rows Dq
section
structure Tw (w : Wo) (r : Ru) (y : Way) : Prop where
  ar : (y.k = .ask ∨ y.k = .renew) → y.since = if y.age < r.lease then y.age else r.lease
  ys : y.k = .yes → y.since ≤ y.age + w.delay
def TS (w : Wo) (r : Ru) (s : Sd) : Prop := ∀ c y, (s.cl c).way = some y → Tw w r y
theorem cl_put (s : Sd) (c d : Bool) (v : Cl) : (s.put c v).cl d = if c = d then v else s.cl d := by
  cases c <;> cases d <;> rfl
theorem TS.put {w : Wo} {r : Ru} {s : Sd} (t : TS w r s) (c : Bool) {v : Cl} (h : ∀ y, v.way = some y → Tw w r y) : TS w r (s.put c v) := by
  intro d y e
  rw [cl_put] at e
  split at e
  · exact h y e
  · exact t d y e
theorem TS.ho {w : Wo} {r : Ru} {s : Sd} (t : TS w r s) (h : Ho) (u : Int) : TS w r ⟨h, u, s.one, s.two⟩ := by
  intro d y e
  cases d
  · exact t false y e
  · exact t true y e
theorem Tw.new {w : Wo} {r : Ru} {k : Kw} (hk : k ≠ .yes) (hl : 1 ≤ r.lease) : Tw w r ⟨k, 0, 0, 0⟩ :=
  ⟨fun _ => by
    show (0 : Int) = if (0 : Int) < r.lease then 0 else r.lease
    rw [if_pos (by omega)], fun e => absurd e hk⟩
theorem Tw.later {w : Wo} {r : Ru} {y : Way} (t : Tw w r y) : Tw w r (laterW r y) := by
  obtain ⟨k, a, s, n⟩ := y
  have h1 := t.ar
  have h2 := t.ys
  dsimp only at h1 h2
  refine ⟨fun e => ?_, fun e => ?_⟩
  · have e' : k = .ask ∨ k = .renew := e
    have h3 := h1 e'
    rcases e' with rfl | rfl <;> (show (if s + 1 < r.lease then s + 1 else r.lease) = if a + 1 < r.lease then a + 1 else r.lease) <;> split at h3 <;> split <;> split <;> omega
  · have e' : k = .yes := e
    subst e'
    have h3 := h2 rfl
    show (if s + 1 < r.lease then s + 1 else r.lease) ≤ a + 1 + w.delay
    split <;> omega
theorem TS.asked {w : Wo} {r : Ru} {s : Sd} (v : VS w r s) (t : TS w r s) (c : Bool) (y : Way) (hy : (s.cl c).way = some y) (hk : y.k = .ask ∨ y.k = .renew) : TS w r (askedM r s c y).1 := by
  have q := (v.cl c).w y hy
  have ty := (t c y hy).ar hk
  have a0 := q.a0
  have a1 := q.a1
  have hsd : y.since ≤ 0 + w.delay := by split at ty <;> omega
  have yes : ∀ N, Tw w r ⟨.yes, 0, y.since, N⟩ := fun N => ⟨fun e => (by cases e with | inl e => cases e | inr e => cases e), fun _ => hsd⟩
  unfold askedM
  split
  · exact (t.ho ⟨some c, r.keep, 0, s.ho.num + 1⟩ s.used).put c fun z e => by cases e; exact yes _
  · split
    · exact (t.ho ⟨some c, r.keep, 0, s.ho.num⟩ s.used).put c fun z e => by cases e; exact yes _
    · exact t.put c fun z e => nomatch e
theorem TS.happened {w : Wo} {r : Ru} {s : Sd} (v : VS w r s) (t : TS w r s) (e : Ev) (p : Pos w s e) : TS w r (happenedM r s e).1 := by
  have hl := v.vr.l0
  cases e with
  | tick =>
    intro d y e
    have hc : ∀ c : Cl, (∀ y, c.way = some y → Tw w r y) → ∀ y, (laterM r c).way = some y → Tw w r y := fun c h y e => by
      have e2 : (laterM r c).way = c.way.map (laterW r) := by unfold laterM; split <;> rfl
      rw [e2] at e
      cases ec : c.way with
      | none => rw [ec] at e; cases e
      | some z => rw [ec] at e; cases e; exact (h z ec).later
    cases d
    · exact hc s.one (t false) y e
    · exact hc s.two (t true) y e
  | fall => exact t.ho _ _
  | op o c =>
    cases o with
    | ask => exact t.put c fun z e => by cases e; exact Tw.new (by simp) hl
    | renew => exact t.put c fun z e => by cases e; exact Tw.new (by simp) hl
    | back => exact t.put c fun z e => by cases e; exact Tw.new (by simp) hl
    | use =>
      unfold happenedM
      dsimp only
      split
      · exact t
      · exact t.ho s.ho _
    | lose => exact t.put c fun z e => nomatch e
    | arrive =>
      cases h : (s.cl c).way with
      | none => exact absurd h p
      | some y =>
        have e1 : happenedM r s (.op .arrive c) = arrivedM r s c y := by simp only [happenedM, h]
        rw [e1]
        cases hk : y.k with
        | ask =>
          have e2 : arrivedM r s c y = askedM r s c y := by unfold arrivedM; rw [hk]
          rw [e2]; exact t.asked v c y h (.inl hk)
        | renew =>
          have e2 : arrivedM r s c y = askedM r s c y := by unfold arrivedM; rw [hk]
          rw [e2]; exact t.asked v c y h (.inr hk)
        | back =>
          unfold arrivedM
          rw [hk]
          dsimp only
          split
          · exact (t.ho _ _).put c fun z e => nomatch e
          · exact t.put c fun z e => nomatch e
        | yes =>
          unfold arrivedM
          rw [hk]
          dsimp only
          generalize (if r.asked = true then r.lease - y.since else r.lease) = x
          split
          · exact t.put c fun z e => nomatch e
          · exact t.put c fun z e => nomatch e
theorem TS.rank {w : Wo} {r : Ru} {s : Sd} (t : TS w r s) : TS w r (rankM s) := by
  intro d y e
  have h : ∀ (L : List Int) (c : Cl), (∀ y, c.way = some y → Tw w r y) → ∀ y, (rkCl L c).way = some y → Tw w r y := fun L c h y e => by
    cases ec : c.way with
    | none => rw [show (rkCl L c).way = c.way.map (rkWay L) from rfl, ec] at e; cases e
    | some z =>
      rw [show (rkCl L c).way = c.way.map (rkWay L) from rfl, ec] at e
      cases e
      exact ⟨(h z ec).ar, (h z ec).ys⟩
  cases d
  · exact h _ s.one (t false) y e
  · exact h _ s.two (t true) y e
/-- a stand that may come -/
structure VT (w : Wo) (r : Ru) (s : Sd) : Prop where
  vs : VS w r s
  rk : Rkd s
  ts : TS w r s
theorem VT.first {w : Wo} {r : Ru} (vr : VR r) (vp : VP w) : VT w r firstM := ⟨VS.first vr vp, Rkd.first, fun c y e => by cases c <;> cases e⟩
def nx (r : Ru) (s : Sd) (e : Ev) : Sd := (stepM r s e).1
theorem VT.step {w : Wo} {r : Ru} {s : Sd} (v : VT w r s) (e : Ev) (p : e ∈ evL w s) : VT w r (nx r s e) := by
  have hp := (mem_evL w s e).mp p
  have h1 := (v.vs.happened e hp).ranked
  exact ⟨h1.1, h1.2, (v.ts.happened v.vs e hp).rank⟩
end
end Lw
set_option Elab.async false
set_option linter.all false
set_option maxRecDepth 100000
set_option maxHeartbeats 4000000
/-! W3: the walk. -/
namespace Lw
open PySem PySem.Spec PyProof.Rows Dq
section
/-! ### the walk -/
def add1 (r : Ru) (s : Sd) (run : List Ev) (F : Fd) (e : Ev) : Fd := if nx r s e ∈ keysF F then F else F ++ [(nx r s e, run ++ [e])]
def proc (w : Wo) (r : Ru) (F : Fd) (p : Sd × List Ev) : Fd := (evL w p.1).foldl (add1 r p.1 p.2) F
def gen (w : Wo) (r : Ru) : Nat → Fd
  | 0 => [(firstM, [])]
  | i + 1 => match (gen w r i)[i]? with
    | some p => proc w r (gen w r i) p
    | none => gen w r i
structure Good (w : Wo) (r : Ru) (F : Fd) : Prop where
  nd : (keysF F).Nodup
  vt : ∀ s ∈ keysF F, VT w r s
  ln : ∀ (j : Nat) (p : Sd × List Ev), F[j]? = some p → p.2.length ≤ j
theorem keysF_app (F G : Fd) : keysF (F ++ G) = keysF F ++ keysF G := by simp [keysF]
theorem Good.first {w : Wo} {r : Ru} (vr : VR r) (vp : VP w) : Good w r [(firstM, [])] :=
  ⟨by simp [keysF], fun s h => by simp [keysF] at h; rw [h]; exact VT.first vr vp, fun j p e => by
    cases j with
    | zero => cases e; simp
    | succ j => cases e⟩
theorem Good.add1 {w : Wo} {r : Ru} {F : Fd} (g : Good w r F) {j : Nat} {s : Sd} {run : List Ev} (h : F[j]? = some (s, run)) {e : Ev} (p : e ∈ evL w s) : Good w r (add1 r s run F e) := by
  unfold Lw.add1
  split
  · exact g
  · rename_i hn
    have hs : s ∈ keysF F := List.mem_map_of_mem (f := fun q : Sd × List Ev => q.1) (List.mem_of_getElem? h)
    have hj := (List.getElem?_eq_some_iff.mp h).1
    refine ⟨?_, fun z hz => ?_, fun i q e => ?_⟩
    · rw [keysF_app]
      exact List.nodup_append.mpr ⟨g.nd, by simp [keysF], fun a ha b hb => by
        simp [keysF] at hb
        subst hb
        exact fun z => hn (z ▸ ha)⟩
    · rw [keysF_app] at hz
      rcases List.mem_append.mp hz with z1 | z1
      · exact g.vt z z1
      · simp [keysF] at z1
        rw [z1]
        exact (g.vt s hs).step e p
    · rcases getElem?_snoc e with e1 | ⟨e1, e2⟩
      · exact g.ln i q e1
      · rw [e2, e1]
        have := g.ln j _ h
        simp at this ⊢
        omega
theorem add1_pre (r : Ru) (s : Sd) (run : List Ev) (F : Fd) (e : Ev) : ∃ U, add1 r s run F e = F ++ U := by
  unfold add1
  split
  · exact ⟨[], by simp⟩
  · exact ⟨_, rfl⟩
theorem fold_pre (r : Ru) (s : Sd) (run : List Ev) : ∀ (L : List Ev) (F : Fd), ∃ U, L.foldl (add1 r s run) F = F ++ U
  | [], F => ⟨[], by simp⟩
  | e :: L, F => by
    obtain ⟨U, h⟩ := add1_pre r s run F e
    obtain ⟨V, h2⟩ := fold_pre r s run L (add1 r s run F e)
    exact ⟨U ++ V, by rw [List.foldl_cons, h2, h, List.append_assoc]⟩
theorem get_pre {α : Type} {F U : List α} {j : Nat} {p : α} (h : F[j]? = some p) : (F ++ U)[j]? = some p := by
  rw [List.getElem?_append_left (List.getElem?_eq_some_iff.mp h).1]; exact h
theorem Good.fold {w : Wo} {r : Ru} {j : Nat} {s : Sd} {run : List Ev} : ∀ (L : List Ev) {F : Fd}, Good w r F → F[j]? = some (s, run) → (∀ e ∈ L, e ∈ evL w s) → Good w r (L.foldl (Lw.add1 r s run) F)
  | [], F, g, _, _ => g
  | e :: L, F, g, h, hL => by
    rw [List.foldl_cons]
    refine Good.fold (j := j) L (g.add1 h (hL e List.mem_cons_self)) ?_ fun x hx => hL x (List.mem_cons_of_mem _ hx)
    obtain ⟨U, e1⟩ := add1_pre r s run F e
    rw [e1]
    exact get_pre h
theorem Good.proc {w : Wo} {r : Ru} {F : Fd} (g : Good w r F) {j : Nat} {p : Sd × List Ev} (h : F[j]? = some p) : Good w r (proc w r F p) := g.fold (evL w p.1) h fun _ z => z
theorem gen_good {w : Wo} {r : Ru} (vr : VR r) (vp : VP w) (i : Nat) : Good w r (gen w r i) := by
  induction i with
  | zero => exact Good.first vr vp
  | succ i ih =>
    rw [gen]
    split
    · rename_i p h; exact ih.proc h
    · exact ih
theorem gen_pre1 (w : Wo) (r : Ru) (i : Nat) : ∃ U, gen w r (i + 1) = gen w r i ++ U := by
  rw [gen]
  split
  · exact fold_pre _ _ _ _ _
  · exact ⟨[], by simp⟩
theorem gen_pre (w : Wo) (r : Ru) (i n : Nat) : ∃ U, gen w r (i + n) = gen w r i ++ U := by
  induction n with
  | zero => exact ⟨[], by simp⟩
  | succ n ih =>
    obtain ⟨U, h⟩ := ih
    obtain ⟨V, h2⟩ := gen_pre1 w r (i + n)
    exact ⟨U ++ V, by rw [← Nat.add_assoc, h2, h, List.append_assoc]⟩
/-- done: nothing is left to be walked -/
theorem gen_const {w : Wo} {r : Ru} {i : Nat} (h : (gen w r i).length ≤ i) (n : Nat) : gen w r (i + n) = gen w r i := by
  induction n with
  | zero => rfl
  | succ n ih =>
    rw [← Nat.add_assoc, gen, ih, List.getElem?_eq_none (by omega)]
theorem gen_one {w : Wo} {r : Ru} {i j : Nat} (hi : (gen w r i).length ≤ i) (hj : (gen w r j).length ≤ j) : gen w r i = gen w r j := by
  rcases Nat.le_total i j with h | h
  · obtain ⟨n, rfl⟩ := Nat.exists_eq_add_of_le h
    exact (gen_const hi n).symm
  · obtain ⟨n, rfl⟩ := Nat.exists_eq_add_of_le h
    exact gen_const hj n
theorem fold_has (r : Ru) (s : Sd) (run : List Ev) : ∀ (L : List Ev) (F : Fd) (e : Ev), e ∈ L → nx r s e ∈ keysF (L.foldl (add1 r s run) F)
  | [], F, e, h => nomatch h
  | f :: L, F, e, h => by
    rw [List.foldl_cons]
    rcases List.mem_cons.mp h with z | z
    · subst z
      obtain ⟨U, h2⟩ := fold_pre r s run L (add1 r s run F e)
      rw [h2, keysF_app]
      refine List.mem_append_left _ ?_
      unfold add1
      split
      · assumption
      · rw [keysF_app]; exact List.mem_append_right _ (by simp [keysF])
    · exact fold_has r s run L _ e z
theorem gen_s {w : Wo} {r : Ru} {i : Nat} {p : Sd × List Ev} (h : (gen w r i)[i]? = some p) : gen w r (i + 1) = proc w r (gen w r i) p := by
  rw [gen, h]
theorem gen_n {w : Wo} {r : Ru} {i : Nat} (h : (gen w r i)[i]? = none) : gen w r (i + 1) = gen w r i := by
  rw [gen, h]
theorem gen_has {w : Wo} {r : Ru} (i : Nat) : ∀ (j : Nat) (p : Sd × List Ev), j < i → (gen w r i)[j]? = some p → ∀ e ∈ evL w p.1, nx r p.1 e ∈ keysF (gen w r i) := by
  induction i with
  | zero => exact fun j p hj => absurd hj (by omega)
  | succ i ih =>
    intro j p hj h e he
    cases hg : (gen w r i)[i]? with
    | none =>
      have hlen : (gen w r i).length ≤ i := List.getElem?_eq_none_iff.mp hg
      rw [gen_n hg] at h ⊢
      refine ih j p ?_ h e he
      have := (List.getElem?_eq_some_iff.mp h).1
      omega
    | some q =>
      rw [gen_s hg] at h ⊢
      obtain ⟨U, hU⟩ := fold_pre r q.1 q.2 (evL w q.1) (gen w r i)
      have hU' : proc w r (gen w r i) q = gen w r i ++ U := hU
      have hi := (List.getElem?_eq_some_iff.mp hg).1
      have h' : (gen w r i)[j]? = some p := by
        rw [hU', List.getElem?_append_left (by omega)] at h; exact h
      by_cases hj2 : j < i
      · rw [hU', keysF_app]
        exact List.mem_append_left _ (ih j p hj2 h' e he)
      · have hji : j = i := by omega
        rw [hji, hg] at h'
        cases h'
        exact fold_has r p.1 p.2 (evL w p.1) _ e he
/-- whatever lasts holds of all that is found -/
theorem fold_ind {w : Wo} {r : Ru} (P : Sd → Prop) (hs : ∀ s e, VT w r s → P s → e ∈ evL w s → P (nx r s e)) (q : Sd) (run : List Ev) (vq : VT w r q) (pq : P q) : ∀ (L : List Ev) (F : Fd), (∀ e ∈ L, e ∈ evL w q) → (∀ s ∈ keysF F, P s) → ∀ s ∈ keysF (L.foldl (add1 r q run) F), P s
  | [], F, _, h => h
  | e :: L, F, hL, hF => by
    rw [List.foldl_cons]
    refine fold_ind P hs q run vq pq L _ (fun x hx => hL x (List.mem_cons_of_mem _ hx)) fun z hz => ?_
    unfold add1 at hz
    split at hz
    · exact hF z hz
    · rw [keysF_app] at hz
      rcases List.mem_append.mp hz with z1 | z1
      · exact hF z z1
      · simp [keysF] at z1
        rw [z1]
        exact hs q e vq pq (hL e List.mem_cons_self)
theorem gen_ind {w : Wo} {r : Ru} (vr : VR r) (vp : VP w) (P : Sd → Prop) (h0 : P firstM) (hs : ∀ s e, VT w r s → P s → e ∈ evL w s → P (nx r s e)) (i : Nat) : ∀ s ∈ keysF (gen w r i), P s := by
  induction i with
  | zero => intro s h; simp [gen, keysF] at h; rw [h]; exact h0
  | succ i ih =>
    rw [gen]
    split
    · rename_i p hp
      have hq : p.1 ∈ keysF (gen w r i) := List.mem_map_of_mem (f := fun q : Sd × List Ev => q.1) (List.mem_of_getElem? hp)
      exact fold_ind P hs p.1 p.2 ((gen_good vr vp i).vt _ hq) (ih _ hq) (evL w p.1) _ (fun _ z => z) ih
    · exact ih
end
end Lw
set_option Elab.async false
set_option linter.all false
set_option maxRecDepth 100000
set_option maxHeartbeats 4000000
/-! W4: the package's walk. -/
namespace Lw
open PySem PySem.Spec PyProof.Rows Dq
section
variable {g : Gm} {b n k : Nat} {S S' U : Sto}
def wyE : List Dq.St := [(.asg (.name 7) (.ix (.call "step" [(.var 1), (.var 5), (.var 6)]) (.int 0))), (.ite (.cmp .notIn (.var 7) (.var 2)) [(.asg (.sub (.var 2) (.var 7)) (.bin .add (.ix (.var 2) (.var 5)) (.tup [(.var 6)]))), (.expr (.mth .append (.var 4) [(.var 7)]))] [])]
theorem add_run {L : List Ev} {e : Ev} (h : L.length + 1 ≤ 16777216) : addD (dRun L) (.tup [dEv e]) n S = .ok (dRun (L ++ [e])) S := by
  unfold dRun
  rw [add_tt, if_pos (by
    apply Nat.ble_eq_true_of_le
    rw [List.length_map]
    exact h), List.map_append]
  rfl
/-- the cells behind a turn -/
def wSet (S : Sto) (f m a : Nat) (F : Fd) : Sto := (S.set f (.nd (encF F))).set m (.lst (((keysF F).drop a).map dSd))
theorem wSet_same {f m a : Nat} {F : Fd} (hf : S[f]? = some (.nd (encF F))) (hm : S[m]? = some (.lst (((keysF F).drop a).map dSd))) : wSet S f m a F = S := by
  unfold wSet
  rw [set_same hf, set_same hm]
theorem wSet_wSet {f m a : Nat} {F G : Fd} (h : f ≠ m) : wSet (wSet S f m a F) f m a G = wSet S f m a G := by
  unfold wSet
  rw [List.set_comm _ _ h, List.set_set, List.set_comm _ _ h, List.set_set, List.set_comm _ _ h]
theorem wSet_f {f m a : Nat} {F : Fd} {c : Cell} (h : f ≠ m) (hf : S[f]? = some c) : (wSet S f m a F)[f]? = some (.nd (encF F)) := by
  unfold wSet
  rw [get_set_ne h]
  exact get_set_eq hf
theorem wSet_m {f m a : Nat} {F : Fd} {c : Cell} (h : f ≠ m) (hm : S[m]? = some c) : (wSet S f m a F)[m]? = some (.lst (((keysF F).drop a).map dSd)) := by
  unfold wSet
  exact get_set_eq (c := c) (by rw [get_set_ne (Ne.symm h)]; exact hm)
theorem wSet_o {f m a q : Nat} {F : Fd} (h : q ≠ f) (h' : q ≠ m) : (wSet S f m a F)[q]? = S[q]? := by
  unfold wSet
  rw [get_set_ne h', get_set_ne h]
theorem wSet_len {f m a : Nat} {F : Fd} : (wSet S f m a F).length = S.length := by
  unfold wSet
  rw [List.length_set, List.length_set]
/-- how a turn ends, whoever tells the next stand -/
theorem set_turn {r : Ru} {w : Wo} {F : Fd} (gd : Good w r F) {j : Nat} {s : Sd} {run : List Ev} (hj : F[j]? = some (s, run)) {e : Ev} {f m a : Nat} (hf : S[f]? = some (.nd (encF F))) (hm : S[m]? = some (.lst (((keysF F).drop a).map dSd))) (hfm : f ≠ m) (ha : a ≤ F.length) (hl : F.length + 1 < 16777216) (hn : nx r s e ∉ keysF F) :
    sub3 (.loc f) (dSd (nx r s e)) (dRun (run ++ [e])) b S = some (S.set f (.nd (encF (add1 r s run F e)))) ∧
    appD (.loc m) [dSd (nx r s e)] b (S.set f (.nd (encF (add1 r s run F e)))) = .ok .non (wSet S f m a (add1 r s run F e)) ∧
    alt2 ixD gixD (.loc f) (dSd s) b S = .ok (dRun run) S ∧ run.length + 1 ≤ 16777216 ∧ (S.set f (.nd (encF (add1 r s run F e))))[m]? = some (.lst (((keysF F).drop a).map dSd)) := by
  have ea : add1 r s run F e = F ++ [(nx r s e, run ++ [e])] := by unfold add1; rw [if_neg hn]
  have hmem : (s, run) ∈ F := List.mem_of_getElem? hj
  have hln := gd.ln j _ hj
  have hjl := (List.getElem?_eq_some_iff.mp hj).1
  have hm' : (S.set f (.nd (encF (add1 r s run F e))))[m]? = some (.lst (((keysF F).drop a).map dSd)) := by rw [get_set_ne (Ne.symm hfm)]; exact hm
  refine ⟨?_, ?_, ix_nd hf (get_at gd.nd hmem), by dsimp only at hln; omega, hm'⟩
  · rw [set_nd hf (by omega) hn, ea]
  · rw [app_loc, hm', appL_s, okw_v (by simp), Bool.true_and, if_pos]
    · unfold wSet
      congr 2
      rw [ea, keysF_app, List.drop_append_of_le_length (by rw [keysF_len]; exact ha), List.map_append]
      rfl
    · rw [Nat.blt_eq, List.length_map, List.length_drop, keysF_len, lim_is]
      omega
theorem wy_turn {r : Ru} {w : Wo} {F : Fd} (gd : Good w r F) {j : Nat} {s : Sd} {run : List Ev} (hj : F[j]? = some (s, run)) {e : Ev} (he : e ∈ evL w s) {f m a : Nat} (hf : S[f]? = some (.nd (encF F))) (hm : S[m]? = some (.lst (((keysF F).drop a).map dSd))) (hfm : f ≠ m) (ha : a ≤ F.length) (hl : F.length + 1 < 16777216) (x0 x3 x7 : Option D) :
    exes (lev T (k + 5)) b wyE [x0, some (dRu r), some (.loc f), x3, some (.loc m), some (dSd s), some (dEv e), x7] S = .ok (.next [x0, some (dRu r), some (.loc f), x3, some (.loc m), some (dSd s), some (dEv e), some (dSd (nx r s e))]) (wSet S f m a (add1 r s run F e)) := by
  have hst : ∀ S, runFn (lev T (k + 4)) f_step [dRu r, dSd s, dEv e] b S = .ok (.tup [dSd (nx r s e), .str (stepM r s e).2]) S := fun S => p_step r s e fun c h => by
    subst h
    exact (mem_evL w s _).mp he
  have hni := ni_nd (n := b) (s := nx r s e) true hf
  by_cases hn : nx r s e ∈ keysF F
  · have ea : add1 r s run F e = F := by unfold add1; rw [if_pos hn]
    rw [ea, wSet_same hf hm]
    rw [decide_eq_true hn] at hni
    simp [wyE, hst, hni]
  · obtain ⟨h1, h2, h3, h4, h6⟩ := set_turn (b := b) gd hj hf hm hfm ha hl hn
    rw [decide_eq_false hn] at hni
    have h5 := add_run (n := b) (S := S) (L := run) (e := e) h4
    simp [-app_loc, wyE, hst, hni, h1, h2, h3, h5, h6]
/-- all events of a stand -/
theorem wy_events {r : Ru} {w : Wo} {j : Nat} {s : Sd} {run : List Ev} {f m a l : Nat} (hfm : f ≠ m) (hlf : l ≠ f) (hlm : l ≠ m) (x0 x3 : Option D) (hB : ∀ F : Fd, Good w r F → F.length + 1 < 16777216) :
    ∀ (L : List Ev) (i : Nat) (F : Fd) (S : Sto) (ds : List D) (x6 x7 : Option D), Good w r F → F[j]? = some (s, run) → (∀ e ∈ L, e ∈ evL w s) → ds.drop i = L.map dEv → S[l]? = some (.lst ds) → S[f]? = some (.nd (encF F)) → S[m]? = some (.lst (((keysF F).drop a).map dSd)) → a ≤ F.length →
      ∃ y6 y7, forL (lev T (k + 5)) b (.name 6) wyE (.seq (.loc l)) L.length i [x0, some (dRu r), some (.loc f), x3, some (.loc m), some (dSd s), x6, x7] S =
        .ok (.next [x0, some (dRu r), some (.loc f), x3, some (.loc m), some (dSd s), y6, y7]) (wSet S f m a (L.foldl (add1 r s run) F))
  | [], i, F, S, ds, x6, x7, gd, hj, hL, hd, hl, hf, hm, ha => by
    refine ⟨x6, x7, ?_⟩
    have : ds[i]? = none := List.getElem?_eq_none (List.drop_eq_nil_iff.mp hd)
    rw [List.length_nil, forL_0, cur_loc, hl, itsL_s, curL_s, this, List.foldl_nil, wSet_same hf hm]
    rfl
  | e :: L, i, F, S, ds, x6, x7, gd, hj, hL, hd, hl, hf, hm, ha => by
    have he := hL e List.mem_cons_self
    have hi : ds[i]? = some (dEv e) := by
      have h0 := congrArg (fun l : List D => l[0]?) hd
      simp only [List.getElem?_drop, Nat.add_zero] at h0
      rw [h0]; rfl
    have hd' : ds.drop (i + 1) = L.map dEv := by rw [← List.drop_drop, hd]; rfl
    have t := wy_turn (b := b) (k := k) gd hj he hf hm hfm ha (hB F gd) x0 x3 x7
    obtain ⟨V, hV⟩ := add1_pre r s run F e
    have gd' := gd.add1 hj he
    obtain ⟨y6, y7, h⟩ := wy_events hfm hlf hlm x0 x3 hB L (i + 1) (add1 r s run F e) (wSet S f m a (add1 r s run F e)) ds (some (dEv e)) (some (dSd (nx r s e))) gd' (by rw [hV]; exact get_pre hj) (fun x hx => hL x (List.mem_cons_of_mem _ hx)) hd' (by rw [wSet_o hlf hlm]; exact hl) (wSet_f hfm hf) (wSet_m hfm hm) (by rw [hV, List.length_append]; omega)
    refine ⟨y6, y7, ?_⟩
    rw [List.length_cons, forL_s, cur_loc, hl, itsL_s, curL_s, hi, forA_s]
    show forB _ _ _ _ _ _ _ _ (some [x0, some (dRu r), some (.loc f), x3, some (.loc m), some (dSd s), some (dEv e), x7]) = _
    rw [forB_s, t, forC_n, h, List.foldl_cons, wSet_wSet hfm]
def wyS : List Dq.St := [(.for_ (.name 6) .seq [(.call "events_at" [(.var 0), (.var 5)])] wyE)]
/-- a stand, walked -/
theorem wy_stand {r : Ru} {w : Wo} {F : Fd} (gd : Good w r F) {j : Nat} {p : Sd × List Ev} (hj : F[j]? = some p) {f m a : Nat} (hf : S[f]? = some (.nd (encF F))) (hm : S[m]? = some (.lst (((keysF F).drop a).map dSd))) (hfm : f ≠ m) (ha : a ≤ F.length) (hB : ∀ F : Fd, Good w r F → F.length + 1 < 16777216) (x3 x6 x7 : Option D) :
    ∃ y6 y7, exes (lev T (k + 5)) b wyS [some (dWo w), some (dRu r), some (.loc f), x3, some (.loc m), some (dSd p.1), x6, x7] S = .ok (.next [some (dWo w), some (dRu r), some (.loc f), x3, some (.loc m), some (dSd p.1), y6, y7]) (wSet (S ++ [.lst ((evL w p.1).map dEv)]) f m a (proc w r F p)) := by
  have hF : f < S.length := (List.getElem?_eq_some_iff.mp hf).1
  have hM : m < S.length := (List.getElem?_eq_some_iff.mp hm).1
  obtain ⟨y6, y7, h⟩ := wy_events (b := b) (k := k) (r := r) (w := w) (j := j) (s := p.1) (run := p.2) (l := S.length) hfm (by omega) (by omega) (some (dWo w)) x3 hB (evL w p.1) 0 F (S ++ [.lst ((evL w p.1).map dEv)]) ((evL w p.1).map dEv) x6 x7 gd hj (fun _ z => z) rfl (by simp) (get_app hf _) (get_app hm _) ha
  refine ⟨y6, y7, ?_⟩
  have h2 : ∀ S, runFn (lev T (k + 4)) f_events_at [dWo w, dSd p.1] b S = .ok (.loc S.length) (S ++ [.lst ((evL w p.1).map dEv)]) := fun S => p_events_at w p.1
  have hc : cnt (.seq (.loc S.length)) (S ++ [.lst ((evL w p.1).map dEv)]) = (evL w p.1).length := by simp
  simp [-forL_s, -cnt_loc, wyS, h2, hc, h]
  rfl
end
end Lw
set_option Elab.async false
set_option linter.all false
set_option maxRecDepth 100000
set_option maxHeartbeats 4000000
/-! W5: the package's walk, whole. -/
namespace Lw
open PySem PySem.Spec PyProof.Rows Dq
section
variable {g : Gm} {b n k : Nat} {S S' U : Sto}
def pWay : Option Way → PyData
  | none => .none
  | some y => .tuple [.str y.k.w, .int y.age, .int y.since, .int y.num]
def pWho : Option Bool → PyData
  | none => .none
  | some c => .int (if c = true then 1 else 0)
def pSd (s : Sd) : PyData := .tuple [.tuple [pWho s.ho.who, .int s.ho.left, .int s.ho.rest, .int s.ho.num], .int s.used, .tuple [.int s.one.left, .int s.one.num, pWay s.one.way], .tuple [.int s.two.left, .int s.two.num, pWay s.two.way]]
theorem py_way (y : Option Way) : py S (k + 2) (dWay y) = some (pWay y) := by
  cases y <;> simp [dWay, pWay]
theorem py_who (w : Option Bool) : py S (k + 1) (dWho w) = some (pWho w) := by
  rcases w with _ | _ | _ <;> rfl
theorem py_sd (s : Sd) : py S (k + 4) (dSd s) = some (pSd s) := by
  simp [dSd, dHo, dCl, pSd, py_way, py_who]
theorem pys_sd (L : List Sd) : optMap (py S (k + 4)) (L.map dSd) = some (L.map pSd) := by
  induction L with
  | nil => rfl
  | cons e L ih => simp only [List.map_cons, om_cons, py_sd, ih]
/-- line != [] -/
theorem ne_nil {l : Nat} {L : List Sd} (h : S[l]? = some (.lst (L.map dSd))) : eqD true (.loc l) (.loc S.length) n (S ++ [.lst []]) = .ok (.bl (!L.isEmpty)) (S ++ [.lst []]) := by
  rw [eq_loc, get_app h, app_get0, List.getElem?_cons_zero]
  unfold eqL
  dsimp only
  rw [show (15 : Nat) = 11 + 4 from rfl, pys_sd]
  cases L with
  | nil => rfl
  | cons s L =>
    show Out.ok (D.bl (true ^^ PyData.eqvAll (pSd s :: L.map pSd) [])) _ = _
    rw [eqvA_cn]
    rfl
def wyC : E := .cmp .ne (.var 3) (.lst [])
theorem wy_cond {l : Nat} {L : List Sd} (h : S[l]? = some (.lst (L.map dSd))) (x0 x1 x2 x4 x5 x6 x7 : Option D) :
    tst (den g b wyC [x0, x1, x2, some (.loc l), x4, x5, x6, x7] S) = .ok (!L.isEmpty) (S ++ [.lst []]) := by
  have h1 := ne_nil (n := b) h
  have h2 : den g b wyC [x0, x1, x2, some (.loc l), x4, x5, x6, x7] S = .ok (.bl (!L.isEmpty)) (S ++ [.lst []]) := by
    simp only [wyC, n_cmp, n_var]
    simp [-eq_loc, h1]
  rw [h2]
  rfl
theorem key_at {F : Fd} {j : Nat} {p : Sd × List Ev} (h : F[j]? = some p) : (keysF F)[j]? = some p.1 := by
  unfold keysF
  rw [List.getElem?_map, h]
  rfl
/-- a level -/
theorem wy_level {w : Wo} {r : Ru} (vr : VR r) (vp : VP w) (hB : ∀ F : Fd, Good w r F → F.length + 1 < 16777216) {a f l m : Nat} (hfm : f ≠ m) (hlf : l ≠ f) (hlm : l ≠ m) (ha : a ≤ (gen w r a).length)
    (hf : S[f]? = some (.nd (encF (gen w r a)))) (hl : S[l]? = some (.lst (((keysF (gen w r a)).drop a).map dSd))) (hm : S[m]? = some (.lst [])) (x5 x6 x7 : Option D) :
    ∃ y5 y6 y7 S', forL (lev T (k + 5)) b (.name 5) wyS (.seq (.loc l)) ((gen w r a).length - a) 0 [some (dWo w), some (dRu r), some (.loc f), some (.loc l), some (.loc m), x5, x6, x7] S =
        .ok (.next [some (dWo w), some (dRu r), some (.loc f), some (.loc l), some (.loc m), y5, y6, y7]) S' ∧
      S'[f]? = some (.nd (encF (gen w r (gen w r a).length))) ∧ S'[m]? = some (.lst (((keysF (gen w r (gen w r a).length)).drop (gen w r a).length).map dSd)) := by
  have hlen : (((keysF (gen w r a)).drop a).map dSd).length = (gen w r a).length - a := by simp
  obtain ⟨ρ', S', e, y5, y6, y7, rfl, h1, h2, h3⟩ := forL_inv (g := lev T (k + 5)) (b := b) (tg := .name 5) (body := wyS) (src := .seq (.loc l)) (N := (gen w r a).length - a)
    (fun i ρ S' => ∃ y5 y6 y7, ρ = [some (dWo w), some (dRu r), some (.loc f), some (.loc l), some (.loc m), y5, y6, y7] ∧ S'[l]? = some (.lst (((keysF (gen w r a)).drop a).map dSd)) ∧ S'[f]? = some (.nd (encF (gen w r (a + i)))) ∧ S'[m]? = some (.lst (((keysF (gen w r (a + i))).drop (gen w r a).length).map dSd)))
    (fun i ρ S' hi ⟨y5, y6, y7, h0, h1, h2, h3⟩ => by
      subst h0
      obtain ⟨V, hV⟩ := gen_pre w r a i
      have hj : a + i < (gen w r a).length := by omega
      have hp : (gen w r a)[a + i]? = some (gen w r a)[a + i] := List.getElem?_eq_getElem hj
      have hp' : (gen w r (a + i))[a + i]? = some (gen w r a)[a + i] := by rw [hV]; exact get_pre hp
      obtain ⟨y6', y7', t⟩ := wy_stand (b := b) (k := k) (gen_good vr vp (a + i)) hp' h2 h3 hfm (by rw [hV, List.length_append]; omega) hB (some (.loc l)) y6 y7
      have hd : (((keysF (gen w r a)).drop a).map dSd)[i]? = some (dSd (gen w r a)[a + i].1) := by
        rw [List.getElem?_map, List.getElem?_drop, key_at hp]
        rfl
      have hS := get_app (U := [.lst ((evL w (gen w r a)[a + i].1).map dEv)]) h2
      have hS3 := get_app (U := [.lst ((evL w (gen w r a)[a + i].1).map dEv)]) h3
      refine ⟨dSd (gen w r a)[a + i].1, _, _, _, ?_, rfl, t, _, _, _, rfl, ?_, ?_, ?_⟩
      · rw [cur_loc, h1, itsL_s, curL_s, hd]
      · rw [wSet_o hlf hlm]; exact get_app h1 _
      · rw [← Nat.add_assoc, gen_s hp']; exact wSet_f hfm hS
      · rw [← Nat.add_assoc, gen_s hp']; exact wSet_m hfm hS3)
    (fun ρ S' ⟨y5, y6, y7, h0, h1, h2, h3⟩ => by
      rw [cur_loc, h1, itsL_s, curL_s, List.getElem?_eq_none (by rw [hlen]; exact Nat.le_refl _)])
    ((gen w r a).length - a) 0 [some (dWo w), some (dRu r), some (.loc f), some (.loc l), some (.loc m), x5, x6, x7] S (by omega)
    ⟨x5, x6, x7, rfl, hl, hf, by
      rw [hm, Nat.add_zero, List.drop_eq_nil_of_le (by rw [keysF_len]; exact Nat.le_refl _)]; rfl⟩
  have ea : a + ((gen w r a).length - a) = (gen w r a).length := by omega
  rw [ea] at h2 h3
  exact ⟨y5, y6, y7, S', e, h2, h3⟩
def wyB : List Dq.St := [(.asg (.name 4) (.lst [])), (.for_ (.name 5) .seq [(.var 3)] wyS), (.asg (.name 3) (.var 4))]
theorem wy_body {w : Wo} {r : Ru} (vr : VR r) (vp : VP w) (hB : ∀ F : Fd, Good w r F → F.length + 1 < 16777216) {a f l : Nat} (hlf : l ≠ f) (ha : a ≤ (gen w r a).length)
    (hf : S[f]? = some (.nd (encF (gen w r a)))) (hl : S[l]? = some (.lst (((keysF (gen w r a)).drop a).map dSd))) (x4 x5 x6 x7 : Option D) :
    ∃ y5 y6 y7 S', exes (lev T (k + 5)) b wyB [some (dWo w), some (dRu r), some (.loc f), some (.loc l), x4, x5, x6, x7] S =
        .ok (.next [some (dWo w), some (dRu r), some (.loc f), some (.loc S.length), some (.loc S.length), y5, y6, y7]) S' ∧
      S'[f]? = some (.nd (encF (gen w r (gen w r a).length))) ∧ S'[S.length]? = some (.lst (((keysF (gen w r (gen w r a).length)).drop (gen w r a).length).map dSd)) := by
  have hF : f < S.length := (List.getElem?_eq_some_iff.mp hf).1
  have hL : l < S.length := (List.getElem?_eq_some_iff.mp hl).1
  obtain ⟨y5, y6, y7, S', e, h1, h2⟩ := wy_level (S := S ++ [.lst []]) (k := k) (b := b) vr vp hB (m := S.length) (a := a) (f := f) (l := l) (by omega) hlf (by omega) ha (get_app hf _) (get_app hl _) (by simp) x5 x6 x7
  refine ⟨y5, y6, y7, S', ?_, h1, h2⟩
  have hl2 := get_app (U := [Cell.lst []]) hl
  have hc : cnt (.seq (.loc l)) (S ++ [.lst []]) = (gen w r a).length - a := by rw [cnt_loc, hl2]; simp
  simp [-forL_s, -cnt_loc, wyB, hc, e, hl2]
/-- while -/
theorem wy_while {w : Wo} {r : Ru} (vr : VR r) (vp : VP w) (hB : ∀ F : Fd, Good w r F → F.length + 1 < 16777216) {f : Nat} : ∀ (d fu a l : Nat) (S : Sto) (x4 x5 x6 x7 : Option D), 16777216 ≤ a + d → d < fu → l ≠ f → a ≤ (gen w r a).length →
    S[f]? = some (.nd (encF (gen w r a))) → S[l]? = some (.lst (((keysF (gen w r a)).drop a).map dSd)) →
    ∃ A y3 y4 y5 y6 y7 S', whL (lev T (k + 5)) b wyC wyB fu [some (dWo w), some (dRu r), some (.loc f), some (.loc l), x4, x5, x6, x7] S = .ok (.next [some (dWo w), some (dRu r), some (.loc f), y3, y4, y5, y6, y7]) S' ∧ (gen w r A).length ≤ A ∧ S'[f]? = some (.nd (encF (gen w r A)))
  | d, 0, a, l, S, x4, x5, x6, x7, h1, h2, _, _, _, _ => absurd h2 (by omega)
  | d, fu + 1, a, l, S, x4, x5, x6, x7, h1, h2, hlf, ha, hf, hl => by
    have hb := hB _ (gen_good vr vp a)
    have hF : f < S.length := (List.getElem?_eq_some_iff.mp hf).1
    rw [whL_s, wy_cond hl]
    by_cases hc : (keysF (gen w r a)).drop a = []
    · refine ⟨a, some (.loc l), x4, x5, x6, x7, S ++ [.lst []], ?_, ?_, get_app hf _⟩
      · show (if (!((keysF (gen w r a)).drop a).isEmpty) = true then _ else _) = _
        rw [if_neg (by simp [hc])]
      · have := List.drop_eq_nil_iff.mp hc
        rw [keysF_len] at this
        exact this
    · have hgt : a < (gen w r a).length := by
        refine Nat.lt_of_not_le fun z => hc (List.drop_eq_nil_of_le ?_)
        rw [keysF_len]; exact z
      obtain ⟨y5, y6, y7, S1, e, g1, g2⟩ := wy_body (S := S ++ [.lst []]) (k := k) (b := b) vr vp hB hlf ha (get_app hf _) (get_app hl _) x4 x5 x6 x7
      obtain ⟨V, hV⟩ := gen_pre w r a ((gen w r a).length - a)
      rw [show a + ((gen w r a).length - a) = (gen w r a).length from by omega] at hV
      have hlen : (gen w r a).length ≤ (gen w r (gen w r a).length).length := by
        have := congrArg List.length hV
        rw [List.length_append] at this
        omega
      obtain ⟨A, z3, z4, z5, z6, z7, S2, e2, q1, q2⟩ := wy_while vr vp hB (d - 1) fu (gen w r a).length (S ++ [Cell.lst []]).length S1 (some (.loc (S ++ [Cell.lst []]).length)) y5 y6 y7 (by omega) (by omega) (by rw [List.length_append]; omega) hlen g1 g2
      refine ⟨A, z3, z4, z5, z6, z7, S2, ?_, q1, q2⟩
      show (if (!((keysF (gen w r a)).drop a).isEmpty) = true then whB _ _ _ _ _ _ else _) = _
      rw [if_pos (by simpa using hc), e]
      exact e2
theorem fuel_big : 16777216 < fuel := by decide
theorem p_ways {w : Wo} {r : Ru} (vr : VR r) (vp : VP w) (hB : ∀ F : Fd, Good w r F → F.length + 1 < 16777216) : ∃ A, (gen w r A).length ≤ A ∧ ∀ n S, runFn (lev T (k + 5)) f_ways [dWo w, dRu r] n S = .ok (.loc S.length) (S ++ [.nd (encF (gen w r A))]) := by
  have hC := C_first (k + 5)
  obtain ⟨A, y3, y4, y5, y6, y7, S', e, h1, h2⟩ := wy_while (k := k) (b := 0) vr vp hB (f := 0) 16777216 fuel 0 1 [.nd (encF [(firstM, [])]), .lst [dSd firstM]] none none none none (by omega) fuel_big (by omega) (by simp) rfl rfl
  refine ⟨A, h1, fun n S => ?_⟩
  rw [run_pure rfl rfl (by simp)]
  have hs : ∀ b S, S[0]? = some (Cell.dic []) → sub3 (.loc 0) (dSd firstM) (.tup []) b S = some (S.set 0 (.nd (encF [(firstM, [])]))) := fun b S h => set_nd0 (L := []) h
  have h0 : exes (lev T (k + 5)) 0 (b_ways.take 3) [some (dWo w), some (dRu r), none, none, none, none, none, none] [] = .ok (.next [some (dWo w), some (dRu r), some (.loc 0), some (.loc 1), none, none, none, none]) [.nd (encF [(firstM, [])]), .lst [dSd firstM]] := by
    simp [b_ways, hC, hs, dicL, mkKeys, mergeG]
  show pureOut S (ret1 (exes (lev T (k + 5)) 0 b_ways [some (dWo w), some (dRu r), none, none, none, none, none, none] [])) = _
  rw [show b_ways = b_ways.take 3 ++ [.while_ wyC wyB, .ret (.var 2)] from by kernel_rfl, exes_then _ _ _ h0, x_cons, s_while, e]
  simp [h2, poL, bel_enc]
end
end Lw
set_option Elab.async false
set_option linter.all false
set_option maxRecDepth 100000
set_option maxHeartbeats 4000000
/-! W6: the law's walk. -/
namespace Lw
open PySem PySem.Spec PyProof.Rows Dq
section
variable {g : Gm} {b n k : Nat} {S S' U : Sto}
def lyE : List Dq.St := [(.asg (.name 8) (.ix (.call "_law_next" [(.var 1), (.var 6), (.var 7)]) (.int 0))), (.ite (.cmp .notIn (.var 8) (.var 3)) [(.asg (.sub (.var 3) (.var 8)) (.bin .add (.ix (.var 3) (.var 6)) (.tup [(.var 7)]))), (.expr (.mth .append (.var 4) [(.var 8)]))] [])]
theorem ly_turn {r : Ru} {w : Wo} {F : Fd} (gd : Good w r F) {j : Nat} {s : Sd} {run : List Ev} (hj : F[j]? = some (s, run)) {e : Ev} (he : e ∈ evL w s) {f m : Nat} (hf : S[f]? = some (.nd (encF F))) (hm : S[m]? = some (.lst (((keysF F).drop 0).map dSd))) (hfm : f ≠ m) (hl : F.length + 1 < 16777216) (x0 x2 x5 x8 : Option D) :
    exes (lev T (k + 5)) b lyE [x0, some (dRu r), x2, some (.loc f), some (.loc m), x5, some (dSd s), some (dEv e), x8] S = .ok (.next [x0, some (dRu r), x2, some (.loc f), some (.loc m), x5, some (dSd s), some (dEv e), some (dSd (nx r s e))]) (wSet S f m 0 (add1 r s run F e)) := by
  have v : VS w r s := (gd.vt s (List.mem_map_of_mem (f := fun q : Sd × List Ev => q.1) (List.mem_of_getElem? hj))).vs
  have hst : ∀ S, runFn (lev T (k + 4)) f__law_next [dRu r, dSd s, dEv e] b S = .ok (.tup [dSd (nx r s e), .str (stepM r s e).2]) S := fun S => law_next v e ((mem_evL w s e).mp he)
  have hni := ni_nd (n := b) (s := nx r s e) true hf
  by_cases hn : nx r s e ∈ keysF F
  · have ea : add1 r s run F e = F := by unfold add1; rw [if_pos hn]
    rw [ea, wSet_same hf hm]
    rw [decide_eq_true hn] at hni
    simp [lyE, hst, hni]
  · obtain ⟨h1, h2, h3, h4, h6⟩ := set_turn (b := b) gd hj hf hm hfm (Nat.zero_le _) hl hn
    rw [decide_eq_false hn] at hni
    have h5 := add_run (n := b) (S := S) (L := run) (e := e) h4
    simp only [List.drop_zero] at h6
    simp [-app_loc, lyE, hst, hni, h1, h2, h3, h5, h6]
theorem ly_events {r : Ru} {w : Wo} {j : Nat} {s : Sd} {run : List Ev} {f m l : Nat} (hfm : f ≠ m) (hlf : l ≠ f) (hlm : l ≠ m) (x0 x2 x5 : Option D) (hB : ∀ F : Fd, Good w r F → F.length + 1 < 16777216) :
    ∀ (L : List Ev) (i : Nat) (F : Fd) (S : Sto) (ds : List D) (x7 x8 : Option D), Good w r F → F[j]? = some (s, run) → (∀ e ∈ L, e ∈ evL w s) → ds.drop i = L.map dEv → S[l]? = some (.lst ds) → S[f]? = some (.nd (encF F)) → S[m]? = some (.lst (((keysF F).drop 0).map dSd)) →
      ∃ y7 y8, forL (lev T (k + 5)) b (.name 7) lyE (.seq (.loc l)) L.length i [x0, some (dRu r), x2, some (.loc f), some (.loc m), x5, some (dSd s), x7, x8] S =
        .ok (.next [x0, some (dRu r), x2, some (.loc f), some (.loc m), x5, some (dSd s), y7, y8]) (wSet S f m 0 (L.foldl (add1 r s run) F))
  | [], i, F, S, ds, x7, x8, gd, hj, hL, hd, hl, hf, hm => by
    refine ⟨x7, x8, ?_⟩
    have : ds[i]? = none := List.getElem?_eq_none (List.drop_eq_nil_iff.mp hd)
    rw [List.length_nil, forL_0, cur_loc, hl, itsL_s, curL_s, this, List.foldl_nil, wSet_same hf hm]
    rfl
  | e :: L, i, F, S, ds, x7, x8, gd, hj, hL, hd, hl, hf, hm => by
    have he := hL e List.mem_cons_self
    have hi : ds[i]? = some (dEv e) := by
      have h0 := congrArg (fun l : List D => l[0]?) hd
      simp only [List.getElem?_drop, Nat.add_zero] at h0
      rw [h0]; rfl
    have hd' : ds.drop (i + 1) = L.map dEv := by rw [← List.drop_drop, hd]; rfl
    have t := ly_turn (b := b) (k := k) gd hj he hf hm hfm (hB F gd) x0 x2 x5 x8
    obtain ⟨V, hV⟩ := add1_pre r s run F e
    have gd' := gd.add1 hj he
    obtain ⟨y7, y8, h⟩ := ly_events hfm hlf hlm x0 x2 x5 hB L (i + 1) (add1 r s run F e) (wSet S f m 0 (add1 r s run F e)) ds (some (dEv e)) (some (dSd (nx r s e))) gd' (by rw [hV]; exact get_pre hj) (fun x hx => hL x (List.mem_cons_of_mem _ hx)) hd' (by rw [wSet_o hlf hlm]; exact hl) (wSet_f hfm hf) (wSet_m hfm hm)
    refine ⟨y7, y8, ?_⟩
    rw [List.length_cons, forL_s, cur_loc, hl, itsL_s, curL_s, hi, forA_s]
    show forB _ _ _ _ _ _ _ _ (some [x0, some (dRu r), x2, some (.loc f), some (.loc m), x5, some (dSd s), some (dEv e), x8]) = _
    rw [forB_s, t, forC_n, h, List.foldl_cons, wSet_wSet hfm]
def lyB : List Dq.St := [(.asg (.name 6) (.ix (.var 4) (.var 5))), (.asg (.name 5) (.bin .add (.var 5) (.int 1))), (.for_ (.name 7) .seq [(.call "_law_at" [(.var 0), (.var 6)])] lyE)]
theorem ly_body {w : Wo} {r : Ru} (vr : VR r) (vp : VP w) (hB : ∀ F : Fd, Good w r F → F.length + 1 < 16777216) {i f m : Nat} (hfm : f ≠ m) {p : Sd × List Ev} (hp : (gen w r i)[i]? = some p)
    (hf : S[f]? = some (.nd (encF (gen w r i)))) (hm : S[m]? = some (.lst (((keysF (gen w r i)).drop 0).map dSd))) (x2 x6 x7 x8 : Option D) :
    ∃ y6 y7 y8, exes (lev T (k + 5)) b lyB [some (dWo w), some (dRu r), x2, some (.loc f), some (.loc m), some (.int (i : Nat)), x6, x7, x8] S =
        .ok (.next [some (dWo w), some (dRu r), x2, some (.loc f), some (.loc m), some (.int ((i + 1 : Nat))), y6, y7, y8]) (wSet (S ++ [.lst ((evL w p.1).map dEv)]) f m 0 (gen w r (i + 1))) := by
  have hF : f < S.length := (List.getElem?_eq_some_iff.mp hf).1
  have hM : m < S.length := (List.getElem?_eq_some_iff.mp hm).1
  have gd := gen_good vr vp i
  have v : VS w r p.1 := (gd.vt p.1 (List.mem_map_of_mem (f := fun q : Sd × List Ev => q.1) (List.mem_of_getElem? hp))).vs
  obtain ⟨y7, y8, h⟩ := ly_events (b := b) (k := k) (r := r) (w := w) (j := i) (s := p.1) (run := p.2) (l := S.length) hfm (by omega) (by omega) (some (dWo w)) x2 (some (.int ((i : Int) + 1))) hB (evL w p.1) 0 (gen w r i) (S ++ [.lst ((evL w p.1).map dEv)]) ((evL w p.1).map dEv) x7 x8 gd hp (fun _ z => z) rfl (by simp) (get_app hf _) (get_app hm _)
  refine ⟨some (dSd p.1), y7, y8, ?_⟩
  have h2 : ∀ S, runFn (lev T (k + 4)) f__law_at [dWo w, dSd p.1] b S = .ok (.loc S.length) (S ++ [.lst ((evL w p.1).map dEv)]) := fun S => p_law_at v
  have hc : cnt (.seq (.loc S.length)) (S ++ [.lst ((evL w p.1).map dEv)]) = (evL w p.1).length := by simp
  have h3 : L2.atI (((keysF (gen w r i)).drop 0).map dSd) (i : Int) = some (dSd p.1) := by
    rw [atI_nat, List.getElem?_map, List.drop_zero, key_at hp]
    rfl
  rw [gen_s hp]
  simp only [List.drop_zero] at hm h3
  simp [-forL_s, -cnt_loc, lyB, h2, hc, h, hm, h3]
  rfl
def lyC : E := .cmp .lt (.var 5) (.blt .len [(.var 4)])
theorem ly_cond {m i : Nat} {L : List D} (h : S[m]? = some (.lst L)) (x0 x1 x2 x3 x6 x7 x8 : Option D) :
    tst (den g b lyC [x0, x1, x2, x3, some (.loc m), some (.int (i : Nat)), x6, x7, x8] S) = .ok (decide (i < L.length)) S := by
  have h2 : den g b lyC [x0, x1, x2, x3, some (.loc m), some (.int (i : Nat)), x6, x7, x8] S = .ok (.bl (decide (i < L.length))) S := by
    simp [lyC, h]
  rw [h2]
  rfl
theorem ly_while {w : Wo} {r : Ru} (vr : VR r) (vp : VP w) (hB : ∀ F : Fd, Good w r F → F.length + 1 < 16777216) {f m : Nat} (hfm : f ≠ m) (x2 : Option D) : ∀ (d fu i : Nat) (S : Sto) (x6 x7 x8 : Option D), 16777216 ≤ i + d → d < fu →
    S[f]? = some (.nd (encF (gen w r i))) → S[m]? = some (.lst (((keysF (gen w r i)).drop 0).map dSd)) →
    ∃ A y5 y6 y7 y8 S', whL (lev T (k + 5)) b lyC lyB fu [some (dWo w), some (dRu r), x2, some (.loc f), some (.loc m), some (.int (i : Nat)), x6, x7, x8] S = .ok (.next [some (dWo w), some (dRu r), x2, some (.loc f), some (.loc m), y5, y6, y7, y8]) S' ∧ (gen w r A).length ≤ A ∧ S'[f]? = some (.nd (encF (gen w r A)))
  | d, 0, i, S, x6, x7, x8, h1, h2, _, _ => absurd h2 (by omega)
  | d, fu + 1, i, S, x6, x7, x8, h1, h2, hf, hm => by
    have hb := hB _ (gen_good vr vp i)
    rw [whL_s, ly_cond hm]
    have hlen : (((keysF (gen w r i)).drop 0).map dSd).length = (gen w r i).length := by simp
    rw [hlen]
    by_cases hc : i < (gen w r i).length
    · have hp : (gen w r i)[i]? = some (gen w r i)[i] := List.getElem?_eq_getElem hc
      obtain ⟨y6, y7, y8, e⟩ := ly_body (S := S) (k := k) (b := b) vr vp hB hfm hp hf hm x2 x6 x7 x8
      have hf' := wSet_f (m := m) (a := 0) (F := gen w r (i + 1)) hfm (get_app (U := [.lst ((evL w (gen w r i)[i].1).map dEv)]) hf)
      have hm' := wSet_m (f := f) (a := 0) (F := gen w r (i + 1)) hfm (get_app (U := [.lst ((evL w (gen w r i)[i].1).map dEv)]) hm)
      obtain ⟨A, z5, z6, z7, z8, S2, e2, q1, q2⟩ := ly_while vr vp hB hfm x2 (d - 1) fu (i + 1) _ y6 y7 y8 (by omega) (by omega) hf' hm'
      refine ⟨A, z5, z6, z7, z8, S2, ?_, q1, q2⟩
      show (if decide (i < (gen w r i).length) = true then whB _ _ _ _ _ _ else _) = _
      rw [if_pos (by simpa using hc), e]
      exact e2
    · refine ⟨i, some (.int (i : Nat)), x6, x7, x8, S, ?_, by omega, hf⟩
      show (if decide (i < (gen w r i).length) = true then _ else _) = _
      rw [if_neg (by simpa using hc)]
theorem p_law_ways {w : Wo} {r : Ru} (vr : VR r) (vp : VP w) (hB : ∀ F : Fd, Good w r F → F.length + 1 < 16777216) : ∃ A, (gen w r A).length ≤ A ∧ ∀ n S, runFn (lev T (k + 5)) f__law_ways [dWo w, dRu r] n S = .ok (.loc S.length) (S ++ [.nd (encF (gen w r A))]) := by
  have hL : ∀ b S, runFn (lev T (k + 4)) f__law_first [] b S = .ok (dSd firstM) S := fun b S => p_lfirst
  obtain ⟨A, y5, y6, y7, y8, S', e, h1, h2⟩ := ly_while (k := k) (b := 0) vr vp hB (f := 0) (m := 1) (by omega) (some (dSd firstM)) 16777216 fuel 0 [.nd (encF [(firstM, [])]), .lst [dSd firstM]] none none none (by omega) fuel_big rfl rfl
  refine ⟨A, h1, fun n S => ?_⟩
  rw [run_pure rfl rfl (by simp)]
  have hd : ∀ S : Sto, S[0]? = some (Cell.dic []) → dicL 0 [dSd firstM, .tup []] S = .ok (.loc 0) (S.set 0 (.nd (encF [(firstM, [])]))) := fun S h => by
    unfold dicL
    rw [h]
    have : mkKeys [dSd firstM, .tup []] = none := rfl
    rw [this]
    have h3 : mkN [dSd firstM, .tup []] = some (dSd firstM, .tup []) := by
      unfold mkN
      dsimp only
      rw [nk_sd]
      rfl
    dsimp only
    rw [h3]
    rfl
  have h0 : exes (lev T (k + 5)) 0 (b__law_ways.take 2) [some (dWo w), some (dRu r), none, none, none, none, none, none, none] [] = .ok (.next [some (dWo w), some (dRu r), some (dSd firstM), some (.loc 0), some (.loc 1), some (.int 0), none, none, none]) [.nd (encF [(firstM, [])]), .lst [dSd firstM]] := by
    simp [b__law_ways, hL, hd]
  show pureOut S (ret1 (exes (lev T (k + 5)) 0 b__law_ways [some (dWo w), some (dRu r), none, none, none, none, none, none, none] [])) = _
  rw [show b__law_ways = b__law_ways.take 2 ++ [.while_ lyC lyB, .ret (.var 3)] from by kernel_rfl, exes_then _ _ _ h0, x_cons, s_while]
  have e' : whL (lev T (k + 5)) 0 lyC lyB fuel [some (dWo w), some (dRu r), some (dSd firstM), some (.loc 0), some (.loc 1), some (.int 0), none, none, none] [.nd (encF [(firstM, [])]), .lst [dSd firstM]] = _ := e
  rw [e']
  simp [h2, poL, bel_enc]
end
end Lw
set_option Elab.async false
set_option linter.all false
set_option maxRecDepth 100000
set_option maxHeartbeats 4000000
/-! W7: harms. -/
namespace Lw
open PySem PySem.Spec PyProof.Rows Dq
section
variable {g : Gm} {b n k : Nat} {S S' U : Sto}
inductive Ha where
  | alone | elder | two
deriving DecidableEq
def Ha.w : Ha → Str
  | .alone => "alone" | .elder => "elder" | .two => "two"
@[simp] theorem ha_0 : Ha.alone.w = "alone" := rfl
@[simp] theorem ha_1 : Ha.elder.w = "elder" := rfl
@[simp] theorem ha_2 : Ha.two.w = "two" := rfl
def aloneM (s : Sd) : Bool := (decide (0 < s.one.left) && !decide (s.ho.who = some false)) || (decide (0 < s.two.left) && !decide (s.ho.who = some true))
def twoM (s : Sd) : Bool := decide (0 < s.one.left) && decide (0 < s.two.left)
def elderM (s : Sd) (x : Str) : Ev → Bool
  | .op .use c => decide (x = "used") && decide ((s.cl c).num < s.used)
  | _ => false
def comesM (h : Ha) (s : Sd) (e : Ev) (s' : Sd) (x : Str) : Bool := match h with
  | .alone => aloneM s'
  | .elder => elderM s x e
  | .two => twoM s'
@[simp] theorem blt_any {ds : List D} : bltF .any ds n S = anyD false ds n S := rfl
def anyL (S : Sto) : Option Cell → Out D
  | some (.lst ds) => (match allBl ds with
      | some bs => .ok (.bl (bs.any id)) S
      | none => .bad)
  | _ => .bad
@[simp] theorem any_loc {m : Nat} : anyD false [.loc m] n S = anyL S S[m]? := by
  unfold anyD
  dsimp only
  rw [lstOf_loc]
  unfold anyL
  cases S[m]? with
  | none => rfl
  | some c => cases c <;> rfl
@[simp] theorem anyL_2 {p q : Bool} : anyL S (some (.lst [.bl p, .bl q])) = .ok (.bl (p || q)) S := by
  cases p <;> cases q <;> rfl
theorem p_is_alone (s : Sd) : runFn (lev T k) f_is_alone [dSd s] n S = .ok (.bl (aloneM s)) S := by
  rw [run_pure rfl rfl (by simp)]
  have hC := C_clients k
  unfold aloneM
  by_cases h1 : 0 < s.one.left <;> by_cases h2 : 0 < s.two.left <;> by_cases h3 : s.ho.who = some false <;> by_cases h4 : s.ho.who = some true <;> simp [f_is_alone, b_is_alone, Dq.envOf, hC, h1, h2, h3, h4]
theorem p_comes (h : Ha) (s : Sd) (e : Ev) (s' : Sd) {x : Str} (hx : PyData.strOk x = true) : runFn (lev T (k + 1)) f_comes [.str h.w, dSd s, dEv e, dSd s', .str x] n S = .ok (.bl (comesM h s e s' x)) S := by
  rw [run_pure rfl rfl (by simp)]
  have hA : ∀ n S, runFn (lev T k) f_is_alone [dSd s'] n S = .ok (.bl (aloneM s')) S := fun n S => p_is_alone s'
  cases h with
  | alone => simp [f_comes, b_comes, Dq.envOf, hA, comesM]
  | two =>
    unfold comesM twoM
    by_cases h1 : 0 < s'.one.left <;> by_cases h2 : 0 < s'.two.left <;> simp [f_comes, b_comes, Dq.envOf, h1, h2]
  | elder =>
    unfold comesM
    cases e with
    | tick => simp [f_comes, b_comes, Dq.envOf, dEv, elderM]
    | fall => simp [f_comes, b_comes, Dq.envOf, dEv, elderM]
    | op o c =>
      cases o with
      | use =>
        by_cases hu : x = "used"
        · subst hu
          cases c with
          | false => by_cases h1 : s.one.num < s.used <;> simp [f_comes, b_comes, Dq.envOf, dEv, elderM, Sd.cl, h1]
          | true => by_cases h1 : s.two.num < s.used <;> simp [f_comes, b_comes, Dq.envOf, dEv, elderM, Sd.cl, h1]
        · cases c <;> simp [f_comes, b_comes, Dq.envOf, dEv, elderM, hu, hx]
      | _ => cases c <;> simp [f_comes, b_comes, Dq.envOf, dEv, elderM]
end
end Lw
set_option Elab.async false
set_option linter.all false
set_option maxRecDepth 100000
set_option maxHeartbeats 4000000
/-! W8: what harms come: the dicts. -/
namespace Lw
open PySem PySem.Spec PyProof.Rows Dq
section
variable {g : Gm} {b n k : Nat} {S S' U : Sto}
abbrev Hf := List (Ha × List Ev)
def keyH (h : Ha) : L2.Key := .inr h.w
def encH (H : Hf) : List (L2.Key × D) := H.map fun p => (keyH p.1, dRun p.2)
def keysH (H : Hf) : List Ha := H.map (·.1)
theorem ha_inj {a c : Ha} (h : a.w = c.w) : a = c := by cases a <;> cases c <;> simp at h <;> rfl
theorem keyH_inj {a c : Ha} (h : keyH a = keyH c) : a = c := ha_inj (Sum.inr.inj h)
theorem getH (h : Ha) : ∀ H : Hf, getK (keyH h) (encH H) = (H.find? fun p => decide (p.1 = h)).map fun p => dRun p.2
  | [] => rfl
  | p :: H => by
    have ih := getH h H
    show (if keyH p.1 = keyH h then some (dRun p.2) else getK (keyH h) (encH H)) = _
    rw [List.find?_cons]
    by_cases e : p.1 = h
    · rw [e]; simp
    · have e2 : ¬ keyH p.1 = keyH h := fun z => e (keyH_inj z)
      rw [decide_eq_false e, if_neg e2]
      exact ih
theorem getH_is (h : Ha) (H : Hf) : (getK (keyH h) (encH H)).isSome = decide (h ∈ keysH H) := by
  rw [getH, Option.isSome_map]
  by_cases e : h ∈ keysH H
  · rw [decide_eq_true e]
    obtain ⟨p, hp, z⟩ := List.mem_map.mp e
    exact List.find?_isSome.mpr ⟨p, hp, by simp [z]⟩
  · rw [decide_eq_false e, List.find?_eq_none.mpr]
    · rfl
    · intro p hp
      simp only [decide_eq_true_eq]
      intro z
      exact e (z ▸ List.mem_map_of_mem hp)
theorem putH {h : Ha} {H : Hf} {L : List Ev} (e : h ∉ keysH H) : putG (encH H) (keyH h) (dRun L) = encH (H ++ [(h, L)]) := by
  have e2 : ((encH H).any fun kv => decide (kv.1 = keyH h)) = false := by
    rw [List.any_eq_false]
    intro p hp
    obtain ⟨q, hq, rfl⟩ := List.mem_map.mp hp
    simp only [decide_eq_true_eq]
    intro z
    exact e ((keyH_inj z) ▸ List.mem_map_of_mem hq)
  unfold putG
  rw [e2]
  simp [encH]
theorem ni_dic {f : Nat} {H : Hf} {h : Ha} (m : Bool) (e : S[f]? = some (.dic (encH H))) : alt2 (inD m) (dinD m) (.str h.w) (.loc f) n S = .ok (.bl (m ^^ decide (h ∈ keysH H))) S := by
  have h1 : inD m (.str h.w) (.loc f) n S = .bad := by
    have hp : py S dep (.loc f) = none := by
      show (match S[f]? with
        | some (.lst ds) => (match optMap (py S 15) ds with
          | some ps => some (PyData.list ps)
          | none => none)
        | _ => none) = _
      rw [e]
    unfold inD
    rw [hp]
    cases py S dep (.str h.w) <;> rfl
  have h2 : dinK m (.str h.w) (.loc f) n S = .ok (.bl (m ^^ decide (h ∈ keysH H))) S := by
    unfold dinK
    dsimp only [keyOf']
    rw [e]
    show Out.ok (D.bl (m ^^ (getK (keyH h) (encH H)).isSome)) S = _
    rw [getH_is]
  unfold alt2
  rw [h1]
  dsimp only
  unfold dinD alt2
  rw [h2]
theorem set_dic {f : Nat} {H : Hf} {h : Ha} {L : List Ev} (e : S[f]? = some (.dic (encH H))) (hl : H.length < 16777216) (hh : h ∉ keysH H) : sub3 (.loc f) (.str h.w) (dRun L) b S = some (S.set f (.dic (encH (H ++ [(h, L)])))) := by
  have h1 : setD (.loc f) (.str h.w) (dRun L) b S = none := rfl
  have h2 : dsetK (.loc f) (.str h.w) (dRun L) b S = some (S.set f (.dic (encH (H ++ [(h, L)])))) := by
    unfold dsetK
    dsimp only [keyOf']
    rw [e]
    dsimp only
    rw [if_pos (by rw [okw_v (by simp), Bool.true_and, Nat.blt_eq]; simpa [encH] using hl)]
    show some (S.set f (.dic (putG (encH H) (keyH h) (dRun L)))) = _
    rw [putH hh]
  unfold sub3
  rw [h1]
  dsimp only
  unfold dsetD
  rw [h2]
theorem bel_encH (H : Hf) : belowC b (.dic (encH H)) = true := by
  show ((encH H).all fun p => below b p.2) = true
  rw [List.all_eq_true]
  intro p hp
  obtain ⟨q, _, rfl⟩ := List.mem_map.mp hp
  simp
/-- a harm, looked at -/
def hadd (c : Ha → Bool) (L : List Ev) (H : Hf) (h : Ha) : Hf := if h ∈ keysH H then H else if c h = true then H ++ [(h, L)] else H
def hEv (r : Ru) (s : Sd) (run : List Ev) (H : Hf) (e : Ev) : Hf := [Ha.alone, .elder, .two].foldl (hadd (fun h => comesM h s e (stepM r s e).1 (stepM r s e).2) (run ++ [e])) H
def hSd (w : Wo) (r : Ru) (H : Hf) (p : Sd × List Ev) : Hf := (evL w p.1).foldl (hEv r p.1 p.2) H
def hAll (w : Wo) (r : Ru) (F : Fd) : Hf := F.foldl (hSd w r) []
theorem keysH_app (H G : Hf) : keysH (H ++ G) = keysH H ++ keysH G := by simp [keysH]
theorem hadd_nd {c : Ha → Bool} {L : List Ev} {H : Hf} {h : Ha} (nd : (keysH H).Nodup) : (keysH (hadd c L H h)).Nodup := by
  unfold hadd
  split
  · exact nd
  · split
    · rw [keysH_app]
      exact List.nodup_append.mpr ⟨nd, by simp [keysH], fun a ha b hb => by
        simp [keysH] at hb
        subst hb
        intro z
        subst z
        exact absurd ha (by assumption)⟩
    · exact nd
theorem hEv_nd {r : Ru} {s : Sd} {run : List Ev} {H : Hf} {e : Ev} (nd : (keysH H).Nodup) : (keysH (hEv r s run H e)).Nodup := by
  unfold hEv
  simp only [List.foldl]
  exact hadd_nd (hadd_nd (hadd_nd nd))
theorem ha_le {H : Hf} (nd : (keysH H).Nodup) : H.length ≤ 3 := by
  have h : (keysH H).length ≤ [Ha.alone, Ha.elder, Ha.two].length := List.Nodup.length_le_of_subset nd fun a _ => by cases a <;> simp
  simpa [keysH] using h
/-! ### the package's -/
def hmI : List Dq.St := [(.ite (.and (.cmp .notIn (.var 6) (.var 2)) (.call "comes" [(.var 6), (.var 3), (.var 5), (.var 7), (.var 8)])) [(.asg (.sub (.var 2) (.var 6)) (.bin .add (.var 4) (.tup [(.var 5)])))] [])]
theorem hm_one {s s' : Sd} {e : Ev} {x : Str} {run : List Ev} {H : Hf} {h : Ha} {f : Nat} (hx : PyData.strOk x = true) (nd : (keysH H).Nodup) (hr : run.length + 1 ≤ 16777216) (hf : S[f]? = some (.dic (encH H))) (x0 x1 : Option D) :
    exes (lev T (k + 2)) b hmI [x0, x1, some (.loc f), some (dSd s), some (dRun run), some (dEv e), some (.str h.w), some (dSd s'), some (.str x)] S =
      .ok (.next [x0, x1, some (.loc f), some (dSd s), some (dRun run), some (dEv e), some (.str h.w), some (dSd s'), some (.str x)]) (S.set f (.dic (encH (hadd (fun h => comesM h s e s' x) (run ++ [e]) H h)))) := by
  have hc : ∀ n S, runFn (lev T (k + 1)) f_comes [.str h.w, dSd s, dEv e, dSd s', .str x] n S = .ok (.bl (comesM h s e s' x)) S := fun n S => p_comes h s e s' hx
  have hni := ni_dic (n := b) (h := h) true hf
  have ha := add_run (n := b) (S := S) (L := run) (e := e) hr
  unfold hadd
  dsimp only
  by_cases h1 : h ∈ keysH H
  · rw [if_pos h1, set_same hf]
    rw [decide_eq_true h1] at hni
    simp [hmI, hni]
  · rw [if_neg h1]
    rw [decide_eq_false h1] at hni
    by_cases hcm : comesM h s e s' x = true
    rotate_left
    · rw [if_neg hcm, set_same hf]
      rw [Bool.not_eq_true] at hcm
      simp [hmI, hni, hc, hcm]
    · rw [if_pos hcm]
      have hs := set_dic (b := b) (L := run ++ [e]) hf (by have := ha_le nd; omega) h1
      simp [hmI, hni, hc, hcm, ha, hs]
theorem C_harms (k : Nat) : (lev T k).C "HARMS" = some (.tup [.str "alone", .str "elder", .str "two"]) := by cases k <;> kernel_rfl
def hmE : List Dq.St := [(.asg (.tup [(.name 7), (.name 8)]) (.call "step" [(.var 1), (.var 3), (.var 5)])), (.for_ (.name 6) .seq [(.glo "HARMS")] hmI)]
theorem hm_event {w : Wo} {r : Ru} {s : Sd} {e : Ev} (he : e ∈ evL w s) {run : List Ev} {H : Hf} {f : Nat} (nd : (keysH H).Nodup) (hr : run.length + 1 ≤ 16777216) (hf : S[f]? = some (.dic (encH H))) (x0 x6 x7 x8 : Option D) :
    ∃ y6 y7 y8, exes (lev T (k + 5)) b hmE [x0, some (dRu r), some (.loc f), some (dSd s), some (dRun run), some (dEv e), x6, x7, x8] S =
      .ok (.next [x0, some (dRu r), some (.loc f), some (dSd s), some (dRun run), some (dEv e), y6, y7, y8]) (S.set f (.dic (encH (hEv r s run H e)))) := by
  have hst : ∀ S, runFn (lev T (k + 4)) f_step [dRu r, dSd s, dEv e] b S = .ok (.tup [dSd (stepM r s e).1, .str (stepM r s e).2]) S := fun S => p_step r s e fun c h => by
    subst h
    exact (mem_evL w s _).mp he
  have hx := so_step r s e
  have hC := C_harms (k + 5)
  refine ⟨some (.str "two"), some (dSd (stepM r s e).1), some (.str (stepM r s e).2), ?_⟩
  unfold hEv
  generalize (stepM r s e).1 = s' at *
  generalize (stepM r s e).2 = x at *
  have h1 := hm_one (k := k + 3) (b := b) (h := .alone) (s := s) (s' := s') (e := e) (run := run) hx nd hr hf x0 (some (dRu r))
  have nd1 := hadd_nd (c := fun h => comesM h s e s' x) (L := run ++ [e]) (h := .alone) nd
  have h2 := hm_one (k := k + 3) (b := b) (h := .elder) (s := s) (s' := s') (e := e) (run := run) hx nd1 hr (S := S.set f (.dic (encH (hadd (fun h => comesM h s e s' x) (run ++ [e]) H .alone)))) (get_set_eq hf) x0 (some (dRu r))
  have nd2 := hadd_nd (c := fun h => comesM h s e s' x) (L := run ++ [e]) (h := .elder) nd1
  have h3 := hm_one (k := k + 3) (b := b) (h := .two) (s := s) (s' := s') (e := e) (run := run) hx nd2 hr (S := S.set f (.dic (encH (hadd (fun h => comesM h s e s' x) (run ++ [e]) (hadd (fun h => comesM h s e s' x) (run ++ [e]) H .alone) .elder)))) (get_set_eq hf) x0 (some (dRu r))
  rw [List.set_set] at h2 h3
  simp only [ha_0, ha_1, ha_2] at h1 h2 h3
  simp [hmE, hst, hC, h1, h2, h3]
end
end Lw
set_option Elab.async false
set_option linter.all false
set_option maxRecDepth 100000
set_option maxHeartbeats 4000000
/-! W9: harmful. -/
namespace Lw
open PySem PySem.Spec PyProof.Rows Dq
section
variable {g : Gm} {b n k : Nat} {S S' U : Sto}
theorem fold_nd {r : Ru} {s : Sd} {run : List Ev} : ∀ (L : List Ev) (H : Hf), (keysH H).Nodup → (keysH (L.foldl (hEv r s run) H)).Nodup
  | [], H, h => h
  | e :: L, H, h => by rw [List.foldl_cons]; exact fold_nd L _ (hEv_nd h)
theorem hm_events {w : Wo} {r : Ru} {s : Sd} {run : List Ev} {f l : Nat} (hlf : l ≠ f) (hr : run.length + 1 ≤ 16777216) (x0 : Option D) :
    ∀ (L : List Ev) (i : Nat) (H : Hf) (S : Sto) (ds : List D) (x5 x6 x7 x8 : Option D), (keysH H).Nodup → (∀ e ∈ L, e ∈ evL w s) → ds.drop i = L.map dEv → S[l]? = some (.lst ds) → S[f]? = some (.dic (encH H)) →
      ∃ y5 y6 y7 y8, forL (lev T (k + 5)) b (.name 5) hmE (.seq (.loc l)) L.length i [x0, some (dRu r), some (.loc f), some (dSd s), some (dRun run), x5, x6, x7, x8] S =
        .ok (.next [x0, some (dRu r), some (.loc f), some (dSd s), some (dRun run), y5, y6, y7, y8]) (S.set f (.dic (encH (L.foldl (hEv r s run) H))))
  | [], i, H, S, ds, x5, x6, x7, x8, nd, hL, hd, hl, hf => by
    refine ⟨x5, x6, x7, x8, ?_⟩
    have : ds[i]? = none := List.getElem?_eq_none (List.drop_eq_nil_iff.mp hd)
    rw [List.length_nil, forL_0, cur_loc, hl, itsL_s, curL_s, this, List.foldl_nil, set_same hf]
    rfl
  | e :: L, i, H, S, ds, x5, x6, x7, x8, nd, hL, hd, hl, hf => by
    have he := hL e List.mem_cons_self
    have hi : ds[i]? = some (dEv e) := by
      have h0 := congrArg (fun l : List D => l[0]?) hd
      simp only [List.getElem?_drop, Nat.add_zero] at h0
      rw [h0]; rfl
    have hd' : ds.drop (i + 1) = L.map dEv := by rw [← List.drop_drop, hd]; rfl
    obtain ⟨z6, z7, z8, t⟩ := hm_event (b := b) (k := k) he nd hr hf x0 x6 x7 x8
    obtain ⟨y5, y6, y7, y8, h⟩ := hm_events hlf hr x0 L (i + 1) (hEv r s run H e) (S.set f (.dic (encH (hEv r s run H e)))) ds (some (dEv e)) z6 z7 z8 (hEv_nd nd) (fun x hx => hL x (List.mem_cons_of_mem _ hx)) hd' (by rw [get_set_ne hlf]; exact hl) (get_set_eq hf)
    refine ⟨y5, y6, y7, y8, ?_⟩
    rw [List.length_cons, forL_s, cur_loc, hl, itsL_s, curL_s, hi, forA_s]
    show forB _ _ _ _ _ _ _ _ (some [x0, some (dRu r), some (.loc f), some (dSd s), some (dRun run), some (dEv e), x6, x7, x8]) = _
    rw [forB_s, t, forC_n, h, List.foldl_cons, List.set_set]
def hmS : List Dq.St := [(.for_ (.name 5) .seq [(.call "events_at" [(.var 0), (.var 3)])] hmE)]
theorem hm_stand {w : Wo} {r : Ru} {p : Sd × List Ev} {H : Hf} {f : Nat} (nd : (keysH H).Nodup) (hr : p.2.length + 1 ≤ 16777216) (hf : S[f]? = some (.dic (encH H))) (x5 x6 x7 x8 : Option D) :
    ∃ y5 y6 y7 y8, exes (lev T (k + 5)) b hmS [some (dWo w), some (dRu r), some (.loc f), some (dSd p.1), some (dRun p.2), x5, x6, x7, x8] S =
      .ok (.next [some (dWo w), some (dRu r), some (.loc f), some (dSd p.1), some (dRun p.2), y5, y6, y7, y8]) ((S ++ [Cell.lst ((evL w p.1).map dEv)]).set f (.dic (encH (hSd w r H p)))) := by
  have hF : f < S.length := (List.getElem?_eq_some_iff.mp hf).1
  obtain ⟨y5, y6, y7, y8, h⟩ := hm_events (b := b) (k := k) (w := w) (r := r) (s := p.1) (run := p.2) (f := f) (l := S.length) (by omega) hr (some (dWo w)) (evL w p.1) 0 H (S ++ [Cell.lst ((evL w p.1).map dEv)]) ((evL w p.1).map dEv) x5 x6 x7 x8 nd (fun _ z => z) rfl (by simp) (get_app hf _)
  refine ⟨y5, y6, y7, y8, ?_⟩
  have h2 : ∀ S, runFn (lev T (k + 4)) f_events_at [dWo w, dSd p.1] b S = .ok (.loc S.length) (S ++ [.lst ((evL w p.1).map dEv)]) := fun S => p_events_at w p.1
  have hc : cnt (.seq (.loc S.length)) (S ++ [.lst ((evL w p.1).map dEv)]) = (evL w p.1).length := by simp
  simp [-forL_s, -cnt_loc, hmS, h2, hc, h]
  rfl
theorem hm_items {w : Wo} {r : Ru} {f m : Nat} {c : Cell} (hmf : m ≠ f) : ∀ (G : Fd) (H : Hf) (S : Sto) (x3 x4 x5 x6 x7 x8 : Option D), (keysH H).Nodup → (∀ p ∈ G, p.2.length + 1 ≤ 16777216) → S[f]? = some (.dic (encH H)) → S[m]? = some c →
    ∃ y3 y4 y5 y6 y7 y8 S', forN (itmT (lev T (k + 5)) b (.tup [.name 3, .name 4]) hmS) (encF G) [some (dWo w), some (dRu r), some (.loc f), x3, x4, x5, x6, x7, x8] S = .ok (.next [some (dWo w), some (dRu r), some (.loc f), y3, y4, y5, y6, y7, y8]) S' ∧
      S'[f]? = some (.dic (encH (G.foldl (hSd w r) H))) ∧ S'[m]? = some c
  | [], H, S, x3, x4, x5, x6, x7, x8, nd, hG, hf, hm => ⟨x3, x4, x5, x6, x7, x8, S, rfl, hf, hm⟩
  | p :: G, H, S, x3, x4, x5, x6, x7, x8, nd, hG, hf, hm => by
    have hM : m < S.length := (List.getElem?_eq_some_iff.mp hm).1
    obtain ⟨z5, z6, z7, z8, t⟩ := hm_stand (b := b) (k := k) (w := w) (r := r) (p := p) nd (hG p List.mem_cons_self) hf x5 x6 x7 x8
    obtain ⟨y3, y4, y5, y6, y7, y8, S', e, h1, h2⟩ := hm_items hmf G (hSd w r H p) ((S ++ [Cell.lst ((evL w p.1).map dEv)]).set f (.dic (encH (hSd w r H p)))) (some (dSd p.1)) (some (dRun p.2)) z5 z6 z7 z8 (fold_nd _ _ nd) (fun q hq => hG q (List.mem_cons_of_mem _ hq)) (get_set_eq (get_app hf _)) (by rw [get_set_ne hmf]; exact get_app hm _)
    refine ⟨y3, y4, y5, y6, y7, y8, S', ?_, h1, h2⟩
    have e0 : encF (p :: G) = (dSd p.1, dRun p.2) :: encF G := rfl
    rw [e0, forN]
    have e1 : itmT (lev T (k + 5)) b (.tup [.name 3, .name 4]) hmS (.tup [dSd p.1, dRun p.2]) [some (dWo w), some (dRu r), some (.loc f), x3, x4, x5, x6, x7, x8] S = exes (lev T (k + 5)) b hmS [some (dWo w), some (dRu r), some (.loc f), some (dSd p.1), some (dRun p.2), x5, x6, x7, x8] S := rfl
    rw [e1, t]
    exact e
/-- what harms come -/
theorem p_harmful {w : Wo} {r : Ru} {F : Fd} (hF : ∀ p ∈ F, p.2.length + 1 ≤ 16777216) (hW : ∀ n S, runFn (lev T (k + 4)) f_ways [dWo w, dRu r] n S = .ok (.loc S.length) (S ++ [.nd (encF F)])) :
    runFn (lev T (k + 5)) f_harmful [dWo w, dRu r] n S = .ok (.loc S.length) (S ++ [.dic (encH (hAll w r F))]) := by
  obtain ⟨y3, y4, y5, y6, y7, y8, S', e, h1, h2⟩ := hm_items (k := k) (b := 0) (w := w) (r := r) (f := 0) (m := 1) (c := .fz (encF F)) (by omega) F [] [.dic [], .fz (encF F)] none none none none none none List.nodup_nil hF rfl rfl
  rw [run_pure rfl rfl (by simp)]
  have h0 : exes (lev T (k + 5)) 0 (b_harmful.take 1) [some (dWo w), some (dRu r), none, none, none, none, none, none, none] [] = .ok (.next [some (dWo w), some (dRu r), some (.loc 0), none, none, none, none, none, none]) [.dic []] := by
    simp [b_harmful, dicL, mkKeys, mergeG]
  show pureOut S (ret1 (exes (lev T (k + 5)) 0 b_harmful [some (dWo w), some (dRu r), none, none, none, none, none, none, none] [])) = _
  rw [show b_harmful = b_harmful.take 1 ++ [.forD (.tup [.name 3, .name 4]) (.call "ways" [.var 0, .var 1]) hmS, .ret (.var 2)] from by kernel_rfl, exes_then _ _ _ h0, x_cons, s_forD]
  have hc : den (lev T (k + 5)) 0 (.call "ways" [.var 0, .var 1]) [some (dWo w), some (dRu r), some (.loc 0), none, none, none, none, none, none] [.dic []] = .ok (.loc 1) [.dic [], .nd (encF F)] := by
    simp [hW]
  rw [hc]
  have hi : itmK (lev T (k + 5)) 0 (.tup [.name 3, .name 4]) hmS [some (dWo w), some (dRu r), some (.loc 0), none, none, none, none, none, none] (.ok (.loc 1) [.dic [], .nd (encF F)]) = .ok (.next [some (dWo w), some (dRu r), some (.loc 0), y3, y4, y5, y6, y7, y8]) (S'.set 1 (.nd (encF F))) := by
    show unlk 1 (forN (itmT (lev T (k + 5)) 0 (.tup [.name 3, .name 4]) hmS) (encF F) [some (dWo w), some (dRu r), some (.loc 0), none, none, none, none, none, none] [.dic [], .fz (encF F)]) = _
    rw [e]
    unfold unlk
    dsimp only
    rw [h2]
  rw [hi]
  have h3 : (S'.set 1 (.nd (encF F)))[0]? = some (.dic (encH (hAll w r F))) := by rw [get_set_ne (by omega)]; exact h1
  simp [h3, poL, bel_encH]
/-! ### the law's -/
def badL (s : Sd) (e : Ev) (s' : Sd) (x : Str) : List Ha := [Ha.alone, .elder, .two].filter fun h => comesM h s e s' x
def lbE : E := (.and (.cmp .eq (.ix (.var 1) (.int 0)) (.str "use")) (.and (.cmp .eq (.var 3) (.str "used")) (.cmp .lt (.ix (.ix (.var 0) (.bin .add (.int 2) (.ix (.var 1) (.int 1)))) (.int 1)) (.ix (.var 0) (.int 1)))))
theorem lb_cond (s : Sd) (e : Ev) {x : Str} (hx : PyData.strOk x = true) (a2 a4 a5 : Option D) : den (lev T k) b lbE [some (dSd s), some (dEv e), a2, some (.str x), a4, a5] S = .ok (.bl (elderM s x e)) S := by
  unfold lbE
  cases e with
  | tick => simp [dEv, elderM]
  | fall => simp [dEv, elderM]
  | op o c =>
    cases o with
    | use =>
      by_cases hu : x = "used"
      · subst hu
        cases c with
        | false => by_cases h : s.one.num < s.used <;> simp [dEv, elderM, Sd.cl, h]
        | true => by_cases h : s.two.num < s.used <;> simp [dEv, elderM, Sd.cl, h]
      · cases c <;> simp [dEv, elderM, hu, hx]
    | _ => cases c <;> simp [dEv, elderM]
theorem eqL_nn : eqL true S (some (.lst [])) (some (.lst [])) = .ok (.bl false) S := eqL_ints (L := []) (L' := [])
theorem eqL_in {i : Int} : eqL true S (some (.lst [.int i])) (some (.lst [])) = .ok (.bl true) S := eqL_ints (L := [i]) (L' := [])
theorem eqL_iin {i j : Int} : eqL true S (some (.lst [.int i, .int j])) (some (.lst [])) = .ok (.bl true) S := eqL_ints (L := [i, j]) (L' := [])
theorem lb_1 (s' : Sd) (x0 x1 x3 : Option D) : ∃ S1, exes (lev T k) 0 (b__law_bad.take 2) [x0, x1, some (dSd s'), x3, none, none] [] = .ok (.next [x0, x1, some (dSd s'), x3, some (.loc 0), none]) S1 ∧ S1[0]? = some (.lst (if aloneM s' = true then [.str "alone"] else [])) := by
  unfold aloneM
  by_cases h1 : 0 < s'.one.left <;> by_cases h2 : 0 < s'.two.left <;> by_cases h3 : s'.ho.who = some false <;> by_cases h4 : s'.ho.who = some true <;>
    simp [b__law_bad, h1, h2, h3, h4, eqL_nn, eqL_in, eqL_iin]
theorem lb_2 (s : Sd) (e : Ev) {x : Str} (hx : PyData.strOk x = true) (a2 a5 : Option D) {L : List D} (h : S[0]? = some (.lst L)) (hl : L.length ≤ 2) :
    ∃ S1, exes (lev T k) 0 [.ite lbE [(.expr (.mth .append (.var 4) [(.str "elder")]))] []] [some (dSd s), some (dEv e), a2, some (.str x), some (.loc 0), a5] S = .ok (.next [some (dSd s), some (dEv e), a2, some (.str x), some (.loc 0), a5]) S1 ∧ S1[0]? = some (.lst (L ++ if elderM s x e = true then [.str "elder"] else [])) := by
  have hc := fun S => lb_cond (k := k) (b := 0) (S := S) s e hx a2 (some (.loc 0)) a5
  have hl' : L.length < 16777216 := by omega
  have hs : (S.set 0 (.lst (L ++ [D.str "elder"])))[0]? = some (.lst (L ++ [D.str "elder"])) := get_set_eq h
  cases hz : elderM s x e with
  | false => exact ⟨S, by simp [hc, hz], by simp [h]⟩
  | true => exact ⟨S.set 0 (.lst (L ++ [.str "elder"])), by simp [hc, hz, h, hl'], by simp [hs]⟩
theorem lb_3 (s' : Sd) (x0 x1 x3 x5 : Option D) {f : Nat} {L : List D} (h : S[f]? = some (.lst L)) (hl : L.length ≤ 2) (hb : belowAll 0 L = true) :
    pureOut U (ret1 (exes (lev T k) 0 (b__law_bad.drop 3) [x0, x1, some (dSd s'), x3, some (.loc f), x5] S)) = .ok (.loc U.length) (U ++ [.lst (L ++ if twoM s' = true then [.str "two"] else [])]) := by
  have n1 : L.length + 1 ≤ 16777216 := by omega
  have n0 : L.length ≤ 16777216 := by omega
  have h' := fun V => get_app h V
  have hbb : belowAll 0 (L ++ [D.str "two"]) = true := by
    have : ∀ L : List D, belowAll 0 L = true → belowAll 0 (L ++ [D.str "two"]) = true := fun L => by
      induction L with
      | nil => intro _; simp
      | cons d L ih => intro z; simp only [List.cons_append, bel_cons, Bool.and_eq_true] at z ⊢; exact ⟨z.1, ih z.2⟩
    exact this L hb
  unfold twoM
  by_cases h1 : 0 < s'.one.left <;> by_cases h2 : 0 < s'.two.left <;> simp [b__law_bad, h, h', h1, h2, n0, n1, hb, hbb]
theorem p_law_bad (s : Sd) (e : Ev) (s' : Sd) {x : Str} (hx : PyData.strOk x = true) : runFn (lev T k) f__law_bad [dSd s, dEv e, dSd s', .str x] n S = .ok (.loc S.length) (S ++ [.lst ((badL s e s' x).map fun h => D.str h.w)]) := by
  rw [run_pure rfl rfl (by simp)]
  obtain ⟨S1, e1, h1⟩ := lb_1 (k := k) s' (some (dSd s)) (some (dEv e)) (some (.str x))
  obtain ⟨S2, e2, h2⟩ := lb_2 (k := k) s e hx (some (dSd s')) none h1 (by split <;> simp)
  have h3 := lb_3 (k := k) (U := S) s' (some (dSd s)) (some (dEv e)) (some (.str x)) none h2 (by cases aloneM s' <;> cases elderM s x e <;> simp) (by cases aloneM s' <;> cases elderM s x e <;> simp)
  show pureOut S (ret1 (exes (lev T k) 0 b__law_bad [some (dSd s), some (dEv e), some (dSd s'), some (.str x), none, none] [])) = _
  rw [show b__law_bad = b__law_bad.take 2 ++ ([.ite lbE [(.expr (.mth .append (.var 4) [(.str "elder")]))] []] ++ b__law_bad.drop 3) from by kernel_rfl, exes_then _ _ _ e1, exes_then _ _ _ e2]
  rw [h3]
  unfold badL comesM
  cases aloneM s' <;> cases elderM s x e <;> cases twoM s' <;> rfl
end
end Lw
set_option Elab.async false
set_option linter.all false
set_option maxRecDepth 100000
set_option maxHeartbeats 4000000
/-! W10: the law's harms. -/
namespace Lw
open PySem PySem.Spec PyProof.Rows Dq
section
variable {g : Gm} {b n k : Nat} {S S' U : Sto}
def ladd (L : List Ev) (H : Hf) (h : Ha) : Hf := if h ∈ keysH H then H else H ++ [(h, L)]
theorem ladd_nd {L : List Ev} {H : Hf} {h : Ha} (nd : (keysH H).Nodup) : (keysH (ladd L H h)).Nodup := by
  unfold ladd
  split
  · exact nd
  · rw [keysH_app]
    exact List.nodup_append.mpr ⟨nd, by simp [keysH], fun a ha b hb => by
      simp [keysH] at hb
      subst hb
      intro z
      subst z
      exact absurd ha (by assumption)⟩
theorem ladd_filter (c : Ha → Bool) (L : List Ev) : ∀ (hs : List Ha) (H : Hf), (hs.filter c).foldl (ladd L) H = hs.foldl (hadd c L) H
  | [], H => rfl
  | h :: hs, H => by
    rw [List.filter_cons, List.foldl_cons]
    by_cases e : c h = true
    · rw [if_pos e, List.foldl_cons, ladd_filter c L hs]
      congr 1
      unfold ladd hadd
      rw [if_pos e]
    · rw [if_neg e, ladd_filter c L hs]
      congr 1
      unfold hadd
      rw [if_neg e]
      split <;> rfl
def lhI : List Dq.St := [(.ite (.cmp .notIn (.var 7) (.var 3)) [(.asg (.sub (.var 3) (.var 7)) (.bin .add (.var 5) (.tup [(.var 6)])))] [])]
theorem lh_one {e : Ev} {run : List Ev} {H : Hf} {h : Ha} {f : Nat} (nd : (keysH H).Nodup) (hr : run.length + 1 ≤ 16777216) (hf : S[f]? = some (.dic (encH H))) (x0 x1 x2 x4 x8 x9 : Option D) :
    exes g b lhI [x0, x1, x2, some (.loc f), x4, some (dRun run), some (dEv e), some (.str h.w), x8, x9] S =
      .ok (.next [x0, x1, x2, some (.loc f), x4, some (dRun run), some (dEv e), some (.str h.w), x8, x9]) (S.set f (.dic (encH (ladd (run ++ [e]) H h)))) := by
  have hni := ni_dic (n := b) (h := h) true hf
  have ha := add_run (n := b) (S := S) (L := run) (e := e) hr
  unfold ladd
  by_cases h1 : h ∈ keysH H
  · rw [if_pos h1, set_same hf]
    rw [decide_eq_true h1] at hni
    simp [lhI, hni]
  · rw [if_neg h1]
    rw [decide_eq_false h1] at hni
    have hs := set_dic (b := b) (L := run ++ [e]) hf (by have := ha_le nd; omega) h1
    simp [lhI, hni, ha, hs]
theorem lh_bad {e : Ev} {run : List Ev} {f l : Nat} (hlf : l ≠ f) (hr : run.length + 1 ≤ 16777216) (x0 x1 x2 x4 x8 x9 : Option D) :
    ∀ (L : List Ha) (i : Nat) (H : Hf) (S : Sto) (ds : List D) (x7 : Option D), (keysH H).Nodup → ds.drop i = (L.map fun h => D.str h.w) → S[l]? = some (.lst ds) → S[f]? = some (.dic (encH H)) →
      ∃ y7, forL g b (.name 7) lhI (.seq (.loc l)) L.length i [x0, x1, x2, some (.loc f), x4, some (dRun run), some (dEv e), x7, x8, x9] S =
        .ok (.next [x0, x1, x2, some (.loc f), x4, some (dRun run), some (dEv e), y7, x8, x9]) (S.set f (.dic (encH (L.foldl (ladd (run ++ [e])) H))))
  | [], i, H, S, ds, x7, nd, hd, hl, hf => by
    refine ⟨x7, ?_⟩
    have : ds[i]? = none := List.getElem?_eq_none (List.drop_eq_nil_iff.mp hd)
    rw [List.length_nil, forL_0, cur_loc, hl, itsL_s, curL_s, this, List.foldl_nil, set_same hf]
    rfl
  | h :: L, i, H, S, ds, x7, nd, hd, hl, hf => by
    have hi : ds[i]? = some (.str h.w) := by
      have h0 := congrArg (fun l : List D => l[0]?) hd
      simp only [List.getElem?_drop, Nat.add_zero] at h0
      rw [h0]; rfl
    have hd' : ds.drop (i + 1) = (L.map fun h => D.str h.w) := by rw [← List.drop_drop, hd]; rfl
    have t := lh_one (g := g) (b := b) (e := e) (h := h) nd hr hf x0 x1 x2 x4 x8 x9
    obtain ⟨y7, h2⟩ := lh_bad hlf hr x0 x1 x2 x4 x8 x9 L (i + 1) (ladd (run ++ [e]) H h) (S.set f (.dic (encH (ladd (run ++ [e]) H h)))) ds (some (.str h.w)) (ladd_nd nd) hd' (by rw [get_set_ne hlf]; exact hl) (get_set_eq hf)
    refine ⟨y7, ?_⟩
    rw [List.length_cons, forL_s, cur_loc, hl, itsL_s, curL_s, hi, forA_s]
    show forB _ _ _ _ _ _ _ _ (some [x0, x1, x2, some (.loc f), x4, some (dRun run), some (dEv e), some (.str h.w), x8, x9]) = _
    rw [forB_s, t, forC_n, h2, List.foldl_cons, List.set_set]
def lhE : List Dq.St := [(.asg (.tup [(.name 8), (.name 9)]) (.call "_law_next" [(.var 1), (.var 4), (.var 6)])), (.for_ (.name 7) .seq [(.call "_law_bad" [(.var 4), (.var 6), (.var 8), (.var 9)])] lhI)]
theorem lh_event {w : Wo} {r : Ru} {s : Sd} (v : VS w r s) {e : Ev} (he : e ∈ evL w s) {run : List Ev} {H : Hf} {f : Nat} (nd : (keysH H).Nodup) (hr : run.length + 1 ≤ 16777216) (hf : S[f]? = some (.dic (encH H))) (x0 x2 x7 x8 x9 : Option D) :
    ∃ y7 y8 y9, exes (lev T (k + 5)) b lhE [x0, some (dRu r), x2, some (.loc f), some (dSd s), some (dRun run), some (dEv e), x7, x8, x9] S =
      .ok (.next [x0, some (dRu r), x2, some (.loc f), some (dSd s), some (dRun run), some (dEv e), y7, y8, y9]) ((S ++ [Cell.lst ((badL s e (stepM r s e).1 (stepM r s e).2).map fun h => D.str h.w)]).set f (.dic (encH (hEv r s run H e)))) := by
  have hst : ∀ S, runFn (lev T (k + 4)) f__law_next [dRu r, dSd s, dEv e] b S = .ok (.tup [dSd (stepM r s e).1, .str (stepM r s e).2]) S := fun S => law_next v e ((mem_evL w s e).mp he)
  have hx := so_step r s e
  have hF : f < S.length := (List.getElem?_eq_some_iff.mp hf).1
  have eH : hEv r s run H e = (badL s e (stepM r s e).1 (stepM r s e).2).foldl (ladd (run ++ [e])) H := (ladd_filter _ _ _ _).symm
  rw [eH]
  generalize (stepM r s e).1 = s' at *
  generalize (stepM r s e).2 = x at *
  have hb : ∀ S, runFn (lev T (k + 4)) f__law_bad [dSd s, dEv e, dSd s', .str x] b S = .ok (.loc S.length) (S ++ [.lst ((badL s e s' x).map fun h => D.str h.w)]) := fun S => p_law_bad s e s' hx
  obtain ⟨y7, h⟩ := lh_bad (g := lev T (k + 5)) (b := b) (e := e) (run := run) (f := f) (l := S.length) (by omega) hr x0 (some (dRu r)) x2 (some (dSd s)) (some (dSd s')) (some (.str x)) (badL s e s' x) 0 H (S ++ [.lst ((badL s e s' x).map fun h => D.str h.w)]) ((badL s e s' x).map fun h => D.str h.w) x7 nd rfl (by simp) (get_app hf _)
  refine ⟨y7, some (dSd s'), some (.str x), ?_⟩
  have hc : cnt (.seq (.loc S.length)) (S ++ [.lst ((badL s e s' x).map fun h => D.str h.w)]) = (badL s e s' x).length := by simp
  simp [-forL_s, -cnt_loc, lhE, hst, hb, hc, h]
/-- cells that stay -/
def Ke (N m f : Nat) (S S' : Sto) : Prop := N ≤ S'.length ∧ ∀ q, q < N → q ≠ f → S'[q]? = S[q]?
theorem Ke.refl {N m f : Nat} (h : N ≤ S.length) : Ke N m f S S := ⟨h, fun _ _ _ => rfl⟩
theorem lh_events {w : Wo} {r : Ru} {s : Sd} (v : VS w r s) {run : List Ev} {f l : Nat} (hlf : l ≠ f) (hr : run.length + 1 ≤ 16777216) (x0 x2 : Option D) :
    ∀ (L : List Ev) (i : Nat) (H : Hf) (S : Sto) (ds : List D) (x6 x7 x8 x9 : Option D), (keysH H).Nodup → (∀ e ∈ L, e ∈ evL w s) → ds.drop i = L.map dEv → S[l]? = some (.lst ds) → S[f]? = some (.dic (encH H)) →
      ∃ y6 y7 y8 y9 S', forL (lev T (k + 5)) b (.name 6) lhE (.seq (.loc l)) L.length i [x0, some (dRu r), x2, some (.loc f), some (dSd s), some (dRun run), x6, x7, x8, x9] S =
        .ok (.next [x0, some (dRu r), x2, some (.loc f), some (dSd s), some (dRun run), y6, y7, y8, y9]) S' ∧ S'[f]? = some (.dic (encH (L.foldl (hEv r s run) H))) ∧ ∀ (q : Nat) (c : Cell), q ≠ f → S[q]? = some c → S'[q]? = some c
  | [], i, H, S, ds, x6, x7, x8, x9, nd, hL, hd, hl, hf => by
    refine ⟨x6, x7, x8, x9, S, ?_, hf, fun _ _ _ h => h⟩
    have : ds[i]? = none := List.getElem?_eq_none (List.drop_eq_nil_iff.mp hd)
    rw [List.length_nil, forL_0, cur_loc, hl, itsL_s, curL_s, this]
    rfl
  | e :: L, i, H, S, ds, x6, x7, x8, x9, nd, hL, hd, hl, hf => by
    have he := hL e List.mem_cons_self
    have hi : ds[i]? = some (dEv e) := by
      have h0 := congrArg (fun l : List D => l[0]?) hd
      simp only [List.getElem?_drop, Nat.add_zero] at h0
      rw [h0]; rfl
    have hd' : ds.drop (i + 1) = L.map dEv := by rw [← List.drop_drop, hd]; rfl
    obtain ⟨z7, z8, z9, t⟩ := lh_event (b := b) (k := k) v he nd hr hf x0 x2 x7 x8 x9
    have keep : ∀ (q : Nat) (c : Cell), q ≠ f → S[q]? = some c → ((S ++ [Cell.lst ((badL s e (stepM r s e).1 (stepM r s e).2).map fun h => D.str h.w)]).set f (.dic (encH (hEv r s run H e))))[q]? = some c := fun q c h1 h2 => by
      rw [get_set_ne h1]; exact get_app h2 _
    obtain ⟨y6, y7, y8, y9, S', h, h2, h3⟩ := lh_events v hlf hr x0 x2 L (i + 1) (hEv r s run H e) _ ds (some (dEv e)) z7 z8 z9 (hEv_nd nd) (fun x hx => hL x (List.mem_cons_of_mem _ hx)) hd' (keep _ _ hlf hl) (get_set_eq (get_app hf _))
    refine ⟨y6, y7, y8, y9, S', ?_, h2, fun q c h4 h5 => h3 q c h4 (keep q c h4 h5)⟩
    rw [List.length_cons, forL_s, cur_loc, hl, itsL_s, curL_s, hi, forA_s]
    show forB _ _ _ _ _ _ _ _ (some [x0, some (dRu r), x2, some (.loc f), some (dSd s), some (dRun run), some (dEv e), x7, x8, x9]) = _
    rw [forB_s, t, forC_n, h]
def lhS : List Dq.St := [(.for_ (.name 6) .seq [(.call "_law_at" [(.var 0), (.var 4)])] lhE)]
theorem lh_stand {w : Wo} {r : Ru} {p : Sd × List Ev} (v : VS w r p.1) {H : Hf} {f : Nat} (nd : (keysH H).Nodup) (hr : p.2.length + 1 ≤ 16777216) (hf : S[f]? = some (.dic (encH H))) (x2 x6 x7 x8 x9 : Option D) :
    ∃ y6 y7 y8 y9 S', exes (lev T (k + 5)) b lhS [some (dWo w), some (dRu r), x2, some (.loc f), some (dSd p.1), some (dRun p.2), x6, x7, x8, x9] S =
      .ok (.next [some (dWo w), some (dRu r), x2, some (.loc f), some (dSd p.1), some (dRun p.2), y6, y7, y8, y9]) S' ∧ S'[f]? = some (.dic (encH (hSd w r H p))) ∧ ∀ (q : Nat) (c : Cell), q ≠ f → S[q]? = some c → S'[q]? = some c := by
  have hF : f < S.length := (List.getElem?_eq_some_iff.mp hf).1
  obtain ⟨y6, y7, y8, y9, S', h, h1, h3⟩ := lh_events (b := b) (k := k) v (run := p.2) (f := f) (l := S.length) (by omega) hr (some (dWo w)) x2 (evL w p.1) 0 H (S ++ [Cell.lst ((evL w p.1).map dEv)]) ((evL w p.1).map dEv) x6 x7 x8 x9 nd (fun _ z => z) rfl (by simp) (get_app hf _)
  refine ⟨y6, y7, y8, y9, S', ?_, h1, fun q c h4 h5 => h3 q c h4 (get_app h5 _)⟩
  have h2 : ∀ S, runFn (lev T (k + 4)) f__law_at [dWo w, dSd p.1] b S = .ok (.loc S.length) (S ++ [.lst ((evL w p.1).map dEv)]) := fun S => p_law_at v
  have hc : cnt (.seq (.loc S.length)) (S ++ [.lst ((evL w p.1).map dEv)]) = (evL w p.1).length := by simp
  simp [-forL_s, -cnt_loc, lhS, h2, hc, h]
theorem lh_items {w : Wo} {r : Ru} {f : Nat} (x2 : Option D) : ∀ (G : Fd) (H : Hf) (S : Sto) (x4 x5 x6 x7 x8 x9 : Option D), (keysH H).Nodup → (∀ p ∈ G, p.2.length + 1 ≤ 16777216) → (∀ p ∈ G, VS w r p.1) → S[f]? = some (.dic (encH H)) →
    ∃ y4 y5 y6 y7 y8 y9 S', forN (itmT (lev T (k + 5)) b (.tup [.name 4, .name 5]) lhS) (encF G) [some (dWo w), some (dRu r), x2, some (.loc f), x4, x5, x6, x7, x8, x9] S = .ok (.next [some (dWo w), some (dRu r), x2, some (.loc f), y4, y5, y6, y7, y8, y9]) S' ∧
      S'[f]? = some (.dic (encH (G.foldl (hSd w r) H))) ∧ ∀ (q : Nat) (c : Cell), q ≠ f → S[q]? = some c → S'[q]? = some c
  | [], H, S, x4, x5, x6, x7, x8, x9, nd, hG, hv, hf => ⟨x4, x5, x6, x7, x8, x9, S, rfl, hf, fun _ _ _ h => h⟩
  | p :: G, H, S, x4, x5, x6, x7, x8, x9, nd, hG, hv, hf => by
    obtain ⟨z6, z7, z8, z9, S1, t, t1, t2⟩ := lh_stand (b := b) (k := k) (hv p List.mem_cons_self) nd (hG p List.mem_cons_self) hf x2 x6 x7 x8 x9
    obtain ⟨y4, y5, y6, y7, y8, y9, S', e, h1, h2⟩ := lh_items x2 G (hSd w r H p) S1 (some (dSd p.1)) (some (dRun p.2)) z6 z7 z8 z9 (fold_nd _ _ nd) (fun q hq => hG q (List.mem_cons_of_mem _ hq)) (fun q hq => hv q (List.mem_cons_of_mem _ hq)) t1
    refine ⟨y4, y5, y6, y7, y8, y9, S', ?_, h1, fun q c h4 h5 => h2 q c h4 (t2 q c h4 h5)⟩
    have e0 : encF (p :: G) = (dSd p.1, dRun p.2) :: encF G := rfl
    rw [e0, forN]
    have e1 : itmT (lev T (k + 5)) b (.tup [.name 4, .name 5]) lhS (.tup [dSd p.1, dRun p.2]) [some (dWo w), some (dRu r), x2, some (.loc f), x4, x5, x6, x7, x8, x9] S = exes (lev T (k + 5)) b lhS [some (dWo w), some (dRu r), x2, some (.loc f), some (dSd p.1), some (dRun p.2), x6, x7, x8, x9] S := rfl
    rw [e1, t]
    exact e
theorem p_law_harms {w : Wo} {r : Ru} {F : Fd} (hF : ∀ p ∈ F, p.2.length + 1 ≤ 16777216) (hV : ∀ p ∈ F, VS w r p.1) {m : Nat} (hm : S[m]? = some (.nd (encF F))) :
    runFn (lev T (k + 5)) f__law_harms [dWo w, dRu r, .loc m] n S = .ok (.loc S.length) (S ++ [.dic (encH (hAll w r F))]) := by
  have hM : m < S.length := (List.getElem?_eq_some_iff.mp hm).1
  obtain ⟨y4, y5, y6, y7, y8, y9, S', e, h1, h2⟩ := lh_items (k := k) (b := S.length) (w := w) (r := r) (f := S.length) (some (.loc m)) F [] ((S ++ [Cell.dic []]).set m (.fz (encF F))) none none none none none none List.nodup_nil hF hV (by rw [get_set_ne (by omega)]; simp; rfl)
  rw [run_seen rfl rfl (by simp)]
  have hm1 := get_app (U := [Cell.dic []]) hm
  have h0 : exes (lev T (k + 5)) S.length (b__law_harms.take 1) [some (dWo w), some (dRu r), some (.loc m), none, none, none, none, none, none, none] S = .ok (.next [some (dWo w), some (dRu r), some (.loc m), some (.loc S.length), none, none, none, none, none, none]) (S ++ [.dic []]) := by
    simp [b__law_harms, dicL, mkKeys, mergeG]
  show gcOut S.length (ret1 (exes (lev T (k + 5)) S.length b__law_harms [some (dWo w), some (dRu r), some (.loc m), none, none, none, none, none, none, none] S)) = _
  rw [show b__law_harms = b__law_harms.take 1 ++ [.forD (.tup [.name 4, .name 5]) (.var 2) lhS, .ret (.var 3)] from by kernel_rfl, exes_then _ _ _ h0, x_cons, s_forD]
  have hc : den (lev T (k + 5)) S.length (.var 2) [some (dWo w), some (dRu r), some (.loc m), some (.loc S.length), none, none, none, none, none, none] (S ++ [.dic []]) = .ok (.loc m) (S ++ [.dic []]) := by simp
  rw [hc]
  have h3 : S'[m]? = some (.fz (encF F)) := h2 m _ (by omega) (get_set_eq hm1)
  have hi : itmK (lev T (k + 5)) S.length (.tup [.name 4, .name 5]) lhS [some (dWo w), some (dRu r), some (.loc m), some (.loc S.length), none, none, none, none, none, none] (.ok (.loc m) (S ++ [.dic []])) = .ok (.next [some (dWo w), some (dRu r), some (.loc m), some (.loc S.length), y4, y5, y6, y7, y8, y9]) (S'.set m (.nd (encF F))) := by
    show forItems (itmT (lev T (k + 5)) S.length (.tup [.name 4, .name 5]) lhS) (.loc m) _ (S ++ [.dic []]) = _
    unfold forItems
    dsimp only
    rw [hm1]
    dsimp only
    rw [e]
    unfold unlk
    dsimp only
    rw [h3]
  rw [hi]
  have h4 : (S'.set m (.nd (encF F)))[S.length]? = some (.dic (encH (hAll w r F))) := by rw [get_set_ne (by omega)]; exact h1
  have hl : S.length < S'.length := (List.getElem?_eq_some_iff.mp h1).1
  have h5 : (S'.set m (.nd (encF F))).take S.length = S := by
    apply List.ext_getElem?
    intro q
    rw [List.getElem?_take]
    split
    · rename_i hq
      by_cases hqm : q = m
      · rw [hqm, hm]; exact get_set_eq h3
      · rw [get_set_ne hqm]
        have hq' : S[q]? = some S[q] := List.getElem?_eq_getElem hq
        rw [hq']
        exact h2 q _ (by omega) (by rw [get_set_ne hqm]; exact get_app hq' _)
    · rename_i hq; exact (List.getElem?_eq_none (by omega)).symm
  have hbl : below S.length (D.loc S.length) = false := by
    simp only [below]
    cases e : Nat.blt S.length S.length with
    | false => rfl
    | true => exact absurd (Nat.blt_eq.mp e) (by omega)
  have h6 : gcOut S.length (.ok (.loc S.length) (S'.set m (.nd (encF F)))) = .ok (.loc S.length) (S ++ [.dic (encH (hAll w r F))]) := by
    unfold gcOut
    dsimp only
    rw [hbl, h4]
    dsimp only
    rw [bel_encH, h5]
    rfl
  simp [h6]
end
end Lw
set_option Elab.async false
set_option linter.all false
set_option maxRecDepth 100000
set_option maxHeartbeats 4000000
/-! W11: how many stands there are at most. -/
namespace Lw
open PySem PySem.Spec PyProof.Rows Dq
section
def prod2 {α β : Type} (A : List α) (B : List β) : List (α × β) := A.flatMap fun a => B.map fun b => (a, b)
theorem len_prod {α β : Type} (B : List β) : ∀ A : List α, (prod2 A B).length = A.length * B.length
  | [] => by simp [prod2]
  | a :: A => by
    have ih := len_prod B A
    unfold prod2 at ih ⊢
    rw [List.flatMap_cons, List.length_append, List.length_map, ih, List.length_cons, Nat.succ_mul, Nat.add_comm]
theorem mem_prod {α β : Type} {A : List α} {B : List β} {a : α} {b : β} (h1 : a ∈ A) (h2 : b ∈ B) : (a, b) ∈ prod2 A B :=
  List.mem_flatMap.mpr ⟨a, h1, List.mem_map.mpr ⟨b, h2, rfl⟩⟩
/-! ### numbers -/
def cover (m a b c d e : Nat) : Bool := (List.range m).all fun i => Nat.beq (i + 1) m || (Nat.beq (i + 1) a || (Nat.beq (i + 1) b || (Nat.beq (i + 1) c || (Nat.beq (i + 1) d || Nat.beq (i + 1) e))))
def patM (m : Nat) : List (Nat × Nat × Nat × Nat × Nat × Nat) :=
  (List.range (m + 1)).flatMap fun a => (List.range (m + 1)).flatMap fun b => (List.range (m + 1)).flatMap fun c => (List.range (m + 1)).flatMap fun d => (List.range (m + 1)).filterMap fun e => if cover m a b c d e = true then some (m, a, b, c, d, e) else none
def patL : List (Nat × Nat × Nat × Nat × Nat × Nat) := (List.range 7).flatMap patM
theorem len_pat : patL.length = 2164 := by decide +kernel
theorem mem_pat {m a b c d e : Nat} (hm : m ≤ 6) (ha : a ≤ m) (hb : b ≤ m) (hc : c ≤ m) (hd : d ≤ m) (he : e ≤ m) (h : ∀ i, 1 ≤ i → i ≤ m → i = m ∨ i = a ∨ i = b ∨ i = c ∨ i = d ∨ i = e) : (m, a, b, c, d, e) ∈ patL := by
  have hcov : cover m a b c d e = true := by
    unfold cover
    rw [List.all_eq_true]
    intro i hi
    have := h (i + 1) (by omega) (by have := List.mem_range.mp hi; omega)
    have hb : ∀ x y : Nat, Nat.beq x y = true ↔ x = y := fun x y => ⟨Nat.eq_of_beq_eq_true, fun e => by rw [e]; exact Nat.beq_refl y⟩
    simp only [Bool.or_eq_true, hb]
    exact this
  unfold patL patM
  simp only [List.mem_flatMap, List.mem_range, List.mem_filterMap]
  exact ⟨m, by omega, a, by omega, b, by omega, c, by omega, d, by omega, e, by omega, by rw [if_pos hcov]⟩
/-! ### the rest -/
def hoL : List (Option Bool × Int × Int) := [(none, 0, 0), (none, 0, 1), (none, 0, 2), (none, 0, 3), (none, 0, 4), (some false, 1, 0), (some false, 2, 0), (some false, 3, 0), (some false, 4, 0), (some true, 1, 0), (some true, 2, 0), (some true, 3, 0), (some true, 4, 0)]
def wyL0 : List (Option (Kw × Int × Int)) := [none, some (.ask, 0, 0), some (.renew, 0, 0), some (.back, 0, 0), some (.yes, 0, 0)]
def wyL1 : List (Option (Kw × Int × Int)) := [none, some (.ask, 0, 0), some (.ask, 1, 1), some (.renew, 0, 0), some (.renew, 1, 1), some (.back, 0, 0), some (.back, 1, 0), some (.yes, 0, 0), some (.yes, 0, 1), some (.yes, 1, 1), some (.yes, 1, 2)]
def sh (y : Option Way) : Option (Kw × Int × Int) := y.map fun y => (y.k, y.age, y.since)
def yn (y : Option Way) : Nat := match y with
  | none => 0
  | some y => y.num.toNat
def ln (c : Cl) : Int := if 0 < c.left then c.left - 1 else 0
abbrev Code := (Option Bool × Int × Int) × (Int × Option (Kw × Int × Int)) × (Int × Option (Kw × Int × Int)) × (Nat × Nat × Nat × Nat × Nat × Nat)
def code (s : Sd) : Code := ((s.ho.who, s.ho.left, s.ho.rest), (ln s.one, sh s.one.way), (ln s.two, sh s.two.way), (s.ho.num.toNat, s.used.toNat, s.one.num.toNat, s.two.num.toNat, yn s.one.way, yn s.two.way))
theorem cl_same {w : Wo} {r : Ru} {M N : Int} {c d : Cl} (h1 : VC w r M c) (h2 : VC w r N d) (e1 : ln c = ln d) (e2 : sh c.way = sh d.way) (e3 : c.num.toNat = d.num.toNat) (e4 : yn c.way = yn d.way) : c = d := by
  obtain ⟨l1, n1, w1⟩ := c
  obtain ⟨l2, n2, w2⟩ := d
  have a1 := h1.l0
  have a2 := h2.l0
  have b1 := h1.n0
  have b2 := h2.n0
  have c1 := h1.ln
  have c2 := h2.ln
  have d1 := h1.w
  have d2 := h2.w
  unfold ln at e1
  dsimp only at *
  have en : n1 = n2 := by omega
  have el : l1 = l2 := by
    by_cases hz : 0 < n1
    · rw [if_pos (c1.mpr hz), if_pos (c2.mpr (en ▸ hz))] at e1; omega
    · have z1 : ¬ 0 < l1 := fun z => hz (c1.mp z)
      have z2 : ¬ 0 < l2 := fun z => hz (en ▸ c2.mp z)
      omega
  have ew : w1 = w2 := by
    cases w1 with
    | none => cases w2 with
      | none => rfl
      | some y => simp [sh] at e2
    | some x => cases w2 with
      | none => simp [sh] at e2
      | some y =>
        obtain ⟨k1, a, s, n⟩ := x
        obtain ⟨k2, a', s', n'⟩ := y
        simp [sh] at e2
        simp [yn] at e4
        have p := (d1 _ rfl).n0
        have q := (d2 _ rfl).n0
        dsimp only at p q
        obtain ⟨rfl, rfl, rfl⟩ := e2
        have : n = n' := by omega
        rw [this]
  rw [el, en, ew]
theorem code_inj {w : Wo} {r : Ru} {s t : Sd} (h1 : VT w r s) (h2 : VT w r t) (e : code s = code t) : s = t := by
  unfold code at e
  simp only [Prod.mk.injEq] at e
  obtain ⟨⟨e1, e2, e3⟩, ⟨e4, e5⟩, ⟨e6, e7⟩, e8, e9, e10, e11, e12, e13⟩ := e
  have c1 := cl_same h1.vs.one h2.vs.one e4 e5 e10 e12
  have c2 := cl_same h1.vs.two h2.vs.two e6 e7 e11 e13
  have a1 := h1.vs.h0
  have a2 := h2.vs.h0
  have b1 := h1.vs.u0
  have b2 := h2.vs.u0
  obtain ⟨⟨w1, l1, r1, n1⟩, u1, x1, y1⟩ := s
  obtain ⟨⟨w2, l2, r2, n2⟩, u2, x2, y2⟩ := t
  dsimp only at *
  have en : n1 = n2 := by omega
  have eu : u1 = u2 := by omega
  rw [e1, e2, e3, en, eu, c1, c2]
/-- few ticks -/
def Few (w : Wo) (r : Ru) : Prop := w.delay = 0 ∨ (w.delay = 1 ∧ r.lease ≤ 2)
theorem ho_in {w : Wo} {r : Ru} {s : Sd} (h : VS w r s) : (s.ho.who, s.ho.left, s.ho.rest) ∈ hoL := by
  have k1 := h.vr.k1
  have r1 := h.vr.r1
  obtain ⟨⟨wh, l, e, m⟩, u, x, y⟩ := s
  have hs := h.some_
  have hn := h.none_
  dsimp only at *
  cases wh with
  | none =>
    obtain ⟨z1, z2, z3⟩ := hn rfl
    have : e = 0 ∨ e = 1 ∨ e = 2 ∨ e = 3 ∨ e = 4 := by omega
    subst z1
    rcases this with rfl | rfl | rfl | rfl | rfl <;> decide
  | some c =>
    obtain ⟨z1, z2, z3, z4⟩ := hs c rfl
    have : l = 1 ∨ l = 2 ∨ l = 3 ∨ l = 4 := by omega
    subst z3
    rcases this with rfl | rfl | rfl | rfl <;> cases c <;> decide
theorem wy_in0 {w : Wo} {r : Ru} {M : Int} {c : Cl} (h : VC w r M c) (t : ∀ y, c.way = some y → Tw w r y) (hl : 1 ≤ r.lease) (hd : w.delay = 0) : sh c.way ∈ wyL0 := by
  cases e : c.way with
  | none => decide
  | some y =>
    have q := h.w y e
    have tw := t y e
    have a0 := q.a0
    have a1 := q.a1
    have s0 := q.s0
    have bk := q.bk
    have ar := tw.ar
    have ys := tw.ys
    obtain ⟨k, a, s, n⟩ := y
    dsimp only at *
    have ea : a = 0 := by omega
    subst ea
    cases k with
    | ask => have h2 := ar (.inl rfl); rw [if_pos (by omega)] at h2; subst h2; show some (Kw.ask, (0 : Int), (0 : Int)) ∈ wyL0; decide
    | renew => have h2 := ar (.inr rfl); rw [if_pos (by omega)] at h2; subst h2; show some (Kw.renew, (0 : Int), (0 : Int)) ∈ wyL0; decide
    | back => have h2 := bk rfl; subst h2; show some (Kw.back, (0 : Int), (0 : Int)) ∈ wyL0; decide
    | yes =>
      have h2 := ys rfl
      have : s = 0 := by omega
      subst this
      show some (Kw.yes, (0 : Int), (0 : Int)) ∈ wyL0
      decide
theorem wy_in1 {w : Wo} {r : Ru} {M : Int} {c : Cl} (h : VC w r M c) (t : ∀ y, c.way = some y → Tw w r y) (hl : 1 ≤ r.lease) (hl2 : r.lease ≤ 2) (hd : w.delay = 1) : sh c.way ∈ wyL1 := by
  cases e : c.way with
  | none => decide
  | some y =>
    have q := h.w y e
    have tw := t y e
    have a0 := q.a0
    have a1 := q.a1
    have s0 := q.s0
    have s1 := q.s1
    have bk := q.bk
    have nb := q.nb
    have ar := tw.ar
    have ys := tw.ys
    obtain ⟨k, a, s, n⟩ := y
    dsimp only at *
    have ea : a = 0 ∨ a = 1 := by omega
    cases k with
    | ask =>
      have h2 := ar (.inl rfl)
      rcases ea with rfl | rfl
      · have : s = 0 := by split at h2 <;> omega
        subst this; show some (Kw.ask, (0 : Int), (0 : Int)) ∈ wyL1; decide
      · have : s = 1 := by split at h2 <;> omega
        subst this; show some (Kw.ask, (1 : Int), (1 : Int)) ∈ wyL1; decide
    | renew =>
      have h2 := ar (.inr rfl)
      rcases ea with rfl | rfl
      · have : s = 0 := by split at h2 <;> omega
        subst this; show some (Kw.renew, (0 : Int), (0 : Int)) ∈ wyL1; decide
      · have : s = 1 := by split at h2 <;> omega
        subst this; show some (Kw.renew, (1 : Int), (1 : Int)) ∈ wyL1; decide
    | back =>
      have h2 := bk rfl
      subst h2
      rcases ea with rfl | rfl
      · show some (Kw.back, (0 : Int), (0 : Int)) ∈ wyL1; decide
      · show some (Kw.back, (1 : Int), (0 : Int)) ∈ wyL1; decide
    | yes =>
      have h2 := ys rfl
      have h3 := nb (by simp)
      rcases ea with rfl | rfl
      · have : s = 0 ∨ s = 1 := by omega
        rcases this with rfl | rfl
        · show some (Kw.yes, (0 : Int), (0 : Int)) ∈ wyL1; decide
        · show some (Kw.yes, (0 : Int), (1 : Int)) ∈ wyL1; decide
      · have : s = 1 ∨ s = 2 := by omega
        rcases this with rfl | rfl
        · show some (Kw.yes, (1 : Int), (1 : Int)) ∈ wyL1; decide
        · show some (Kw.yes, (1 : Int), (2 : Int)) ∈ wyL1; decide
theorem ln_in {w : Wo} {r : Ru} {M : Int} {c : Cl} (h : VC w r M c) (n : Int) (hn : r.lease ≤ n) (h1 : 1 ≤ n) : 0 ≤ ln c ∧ ln c < n := by
  have := h.l1
  unfold ln
  split <;> omega
theorem pat_in {w : Wo} {r : Ru} {s : Sd} (h : VT w r s) : (s.ho.num.toNat, s.used.toNat, s.one.num.toNat, s.two.num.toNat, yn s.one.way, yn s.two.way) ∈ patL := by
  obtain ⟨m, hm, e, hb, hc⟩ := h.rk
  have hy : ∀ y : Option Way, (∀ x ∈ wNums y, x ∈ numsM s) → yn y ≤ m := fun y hy => by
    cases y with
    | none => exact Nat.zero_le _
    | some y =>
      have := hb y.num (hy _ (by simp [wNums]))
      show y.num.toNat ≤ m
      omega
  have in1 : ∀ x ∈ wNums s.one.way, x ∈ numsM s := fun x hx => by unfold numsM; exact List.mem_append_right _ (List.mem_append_left _ hx)
  have in2 : ∀ x ∈ wNums s.two.way, x ∈ numsM s := fun x hx => by unfold numsM; exact List.mem_append_right _ (List.mem_append_right _ hx)
  have h1 := hb s.used (by simp [numsM])
  have h2 := hb s.one.num (by simp [numsM])
  have h3 := hb s.two.num (by simp [numsM])
  have em : s.ho.num.toNat = m := by omega
  rw [em]
  refine mem_pat hm (by omega) (by omega) (by omega) (hy _ in1) (hy _ in2) fun i i1 i2 => ?_
  have hi := hc (i : Int) (by omega) (by omega)
  unfold numsM at hi
  have hw : ∀ y : Option Way, (i : Int) ∈ wNums y → i = yn y := fun y hy => by
    cases y with
    | none => cases hy
    | some y =>
      have : (i : Int) = y.num := by simpa [wNums] using hy
      show i = y.num.toNat
      omega
  rcases List.mem_append.mp hi with z | z
  · simp only [List.mem_cons, List.not_mem_nil, or_false] at z
    omega
  · rcases List.mem_append.mp z with z | z
    · have := hw _ z; omega
    · have := hw _ z; omega
def lnL (n : Nat) : List Int := (List.range n).map fun i : Nat => (i : Int)
theorem mem_ln {n : Nat} {i : Int} (h0 : 0 ≤ i) (h1 : i < n) : i ∈ lnL n := List.mem_map.mpr ⟨i.toNat, List.mem_range.mpr (by omega), by omega⟩
theorem count_by {w : Wo} {r : Ru} {L : List Sd} (C : List Code) (hC : ∀ s, VT w r s → code s ∈ C) (nd : L.Nodup) (h : ∀ s ∈ L, VT w r s) : L.length ≤ C.length := by
  have h1 : (L.map code).Nodup := by
    unfold List.Nodup
    rw [List.pairwise_map]
    exact List.Pairwise.imp_of_mem (fun {a b} ha hb hab e => hab (code_inj (h a ha) (h b hb) e)) nd
  have h2 : (L.map code).length ≤ C.length := List.Nodup.length_le_of_subset h1 fun x hx => by
    obtain ⟨s, hs, rfl⟩ := List.mem_map.mp hx
    exact hC s (h s hs)
  simpa using h2
theorem count_few {w : Wo} {r : Ru} (fw : Few w r) {L : List Sd} (nd : L.Nodup) (h : ∀ s ∈ L, VT w r s) : L.length ≤ 13615888 := by
  rcases fw with hd | ⟨hd, hl⟩
  · have := count_by (w := w) (r := r) (prod2 hoL (prod2 (prod2 (lnL 4) wyL0) (prod2 (prod2 (lnL 4) wyL0) patL))) (fun s v => by
      have vs := v.vs
      have l0 := vs.vr.l0
      have l1 := vs.vr.l1
      have a := ln_in vs.one 4 l1 (by omega)
      have b := ln_in vs.two 4 l1 (by omega)
      exact mem_prod (ho_in vs) (mem_prod (mem_prod (mem_ln a.1 a.2) (wy_in0 vs.one (v.ts false) l0 hd)) (mem_prod (mem_prod (mem_ln b.1 b.2) (wy_in0 vs.two (v.ts true) l0 hd)) (pat_in v)))) nd h
    simp only [len_prod, len_pat] at this
    have e1 : hoL.length = 13 := rfl
    have e2 : (lnL 4).length = 4 := by simp [lnL]
    have e3 : wyL0.length = 5 := rfl
    rw [e1, e2, e3] at this
    omega
  · have := count_by (w := w) (r := r) (prod2 hoL (prod2 (prod2 (lnL 2) wyL1) (prod2 (prod2 (lnL 2) wyL1) patL))) (fun s v => by
      have vs := v.vs
      have l0 := vs.vr.l0
      have a := ln_in vs.one 2 hl (by omega)
      have b := ln_in vs.two 2 hl (by omega)
      exact mem_prod (ho_in vs) (mem_prod (mem_prod (mem_ln a.1 a.2) (wy_in1 vs.one (v.ts false) l0 hl hd)) (mem_prod (mem_prod (mem_ln b.1 b.2) (wy_in1 vs.two (v.ts true) l0 hl hd)) (pat_in v)))) nd h
    simp only [len_prod, len_pat] at this
    have e1 : hoL.length = 13 := rfl
    have e2 : (lnL 2).length = 2 := by simp [lnL]
    have e3 : wyL1.length = 11 := rfl
    rw [e1, e2, e3] at this
    omega
theorem good_few {w : Wo} {r : Ru} (fw : Few w r) (F : Fd) (g : Good w r F) : F.length + 1 < 16777216 := by
  have := count_few fw g.nd g.vt
  rw [keysF_len] at this
  omega
end
end Lw
set_option Elab.async false
set_option linter.all false
set_option maxRecDepth 100000
set_option maxHeartbeats 4000000
/-! W12: which harms come; the least keeping. -/
namespace Lw
open PySem PySem.Spec PyProof.Rows Dq
section
variable {g : Gm} {b n k : Nat} {S S' U : Sto}
theorem mem_hadd {c : Ha → Bool} {L : List Ev} {H : Hf} {h h' : Ha} : h' ∈ keysH (hadd c L H h) ↔ h' ∈ keysH H ∨ (h' = h ∧ c h = true) := by
  unfold hadd
  by_cases e : h ∈ keysH H
  · rw [if_pos e]
    exact ⟨.inl, fun z => z.elim id fun z => z.1 ▸ e⟩
  · rw [if_neg e]
    by_cases e2 : c h = true
    · rw [if_pos e2, keysH_app, List.mem_append]
      simp [keysH, e2]
    · rw [if_neg e2]
      simp [e2]
theorem mem_hEv {r : Ru} {s : Sd} {run : List Ev} {H : Hf} {e : Ev} {h : Ha} : h ∈ keysH (hEv r s run H e) ↔ h ∈ keysH H ∨ comesM h s e (stepM r s e).1 (stepM r s e).2 = true := by
  unfold hEv
  simp only [List.foldl, mem_hadd]
  cases h <;> simp
theorem mem_fold {r : Ru} {s : Sd} {run : List Ev} {h : Ha} : ∀ (L : List Ev) (H : Hf), h ∈ keysH (L.foldl (hEv r s run) H) ↔ h ∈ keysH H ∨ ∃ e ∈ L, comesM h s e (stepM r s e).1 (stepM r s e).2 = true
  | [], H => by simp
  | e :: L, H => by
    rw [List.foldl_cons, mem_fold L, mem_hEv]
    simp only [List.mem_cons]
    constructor
    · rintro ((z | z) | ⟨f, hf, z⟩)
      · exact .inl z
      · exact .inr ⟨e, .inl rfl, z⟩
      · exact .inr ⟨f, .inr hf, z⟩
    · rintro (z | ⟨f, hf | hf, z⟩)
      · exact .inl (.inl z)
      · subst hf; exact .inl (.inr z)
      · exact .inr ⟨f, hf, z⟩
theorem mem_hAll {w : Wo} {r : Ru} {h : Ha} (F : Fd) : h ∈ keysH (hAll w r F) ↔ ∃ s ∈ keysF F, ∃ e ∈ evL w s, comesM h s e (stepM r s e).1 (stepM r s e).2 = true := by
  have key : ∀ (F : Fd) (H : Hf), h ∈ keysH (F.foldl (hSd w r) H) ↔ h ∈ keysH H ∨ ∃ s ∈ keysF F, ∃ e ∈ evL w s, comesM h s e (stepM r s e).1 (stepM r s e).2 = true := by
    intro F
    induction F with
    | nil => intro H; simp [keysF]
    | cons p F ih =>
      intro H
      rw [List.foldl_cons, ih]
      show (h ∈ keysH ((evL w p.1).foldl (hEv r p.1 p.2) H) ∨ _) ↔ _
      rw [mem_fold]
      show _ ↔ _ ∨ ∃ s ∈ p.1 :: keysF F, _
      simp only [List.mem_cons]
      constructor
      · rintro ((z | z) | ⟨s, hs, z⟩)
        · exact .inl z
        · exact .inr ⟨p.1, .inl rfl, z⟩
        · exact .inr ⟨s, .inr hs, z⟩
      · rintro (z | ⟨s, hs | hs, z⟩)
        · exact .inl (.inl z)
        · subst hs; exact .inl (.inr z)
        · exact .inr ⟨s, hs, z⟩
  have h0 := key F []
  have h1 : h ∉ keysH [] := by simp [keysH]
  exact ⟨fun z => (h0.mp z).elim (fun q => absurd q h1) id, fun z => h0.mpr (.inr z)⟩
theorem fold_nd2 {w : Wo} {r : Ru} : ∀ (F : Fd) (H : Hf), (keysH H).Nodup → (keysH (F.foldl (hSd w r) H)).Nodup
  | [], H, h => h
  | p :: F, H, h => by rw [List.foldl_cons]; exact fold_nd2 F _ (fold_nd _ _ h)
/-- all that comes is found -/
def Fin (w : Wo) (r : Ru) (F : Fd) : Prop := ∃ A, (gen w r A).length ≤ A ∧ F = gen w r A
theorem Fin.one {w : Wo} {r : Ru} {F G : Fd} (h : Fin w r F) (h' : Fin w r G) : F = G := by
  obtain ⟨A, h1, rfl⟩ := h
  obtain ⟨B, h2, rfl⟩ := h'
  exact gen_one h1 h2
def Comes (w : Wo) (r : Ru) (h : Ha) : Prop := ∃ F, Fin w r F ∧ ∃ s ∈ keysF F, ∃ e ∈ evL w s, comesM h s e (stepM r s e).1 (stepM r s e).2 = true
theorem Fin.comes {w : Wo} {r : Ru} {F : Fd} (f : Fin w r F) {h : Ha} : h ∈ keysH (hAll w r F) ↔ Comes w r h := by
  rw [mem_hAll]
  constructor
  · exact fun z => ⟨F, f, z⟩
  · rintro ⟨G, fg, z⟩
    rw [f.one fg]; exact z
theorem Fin.good {w : Wo} {r : Ru} {F : Fd} (f : Fin w r F) (vr : VR r) (vp : VP w) : Good w r F := by
  obtain ⟨A, h1, rfl⟩ := f
  exact gen_good vr vp A
theorem Good.runs {w : Wo} {r : Ru} {F : Fd} (gd : Good w r F) (hB : F.length + 1 < 16777216) : ∀ p ∈ F, p.2.length + 1 ≤ 16777216 := fun p hp => by
  obtain ⟨j, hj⟩ := List.mem_iff_getElem?.mp hp
  have := gd.ln j p hj
  have := (List.getElem?_eq_some_iff.mp hj).1
  omega
/-- harmful: a dict of the harms that come -/
theorem p_harm {w : Wo} {r : Ru} (vr : VR r) (vp : VP w) (hB : ∀ F : Fd, Good w r F → F.length + 1 < 16777216) :
    ∃ H : Hf, (keysH H).Nodup ∧ (∀ h, h ∈ keysH H ↔ Comes w r h) ∧ ∀ n S, runFn (lev T (k + 6)) f_harmful [dWo w, dRu r] n S = .ok (.loc S.length) (S ++ [.dic (encH H)]) := by
  obtain ⟨A, h1, h2⟩ := p_ways (k := k) vr vp hB
  have f : Fin w r (gen w r A) := ⟨A, h1, rfl⟩
  have gd := f.good vr vp
  exact ⟨hAll w r (gen w r A), fold_nd2 _ _ List.nodup_nil, fun h => f.comes, fun n S => p_harmful (k := k + 1) (gd.runs (hB _ gd)) h2⟩
/-- the law's -/
theorem p_lharm {w : Wo} {r : Ru} (vr : VR r) (vp : VP w) (hB : ∀ F : Fd, Good w r F → F.length + 1 < 16777216) :
    ∃ F H, (keysH H).Nodup ∧ (∀ h, h ∈ keysH H ↔ Comes w r h) ∧ (∀ n S, runFn (lev T (k + 5)) f__law_ways [dWo w, dRu r] n S = .ok (.loc S.length) (S ++ [.nd (encF F)])) ∧
      ∀ n S m, S[m]? = some (.nd (encF F)) → runFn (lev T (k + 5)) f__law_harms [dWo w, dRu r, .loc m] n S = .ok (.loc S.length) (S ++ [.dic (encH H)]) := by
  obtain ⟨A, h1, h2⟩ := p_law_ways (k := k) vr vp hB
  have f : Fin w r (gen w r A) := ⟨A, h1, rfl⟩
  have gd := f.good vr vp
  exact ⟨gen w r A, hAll w r (gen w r A), fold_nd2 _ _ List.nodup_nil, fun h => f.comes, h2, fun n S m hm => p_law_harms (gd.runs (hB _ gd)) (fun p hp => (gd.vt p.1 (List.mem_map_of_mem hp)).vs) hm⟩
/-! ### the least keeping -/
def Ru.wk (r : Ru) (i : Int) : Ru := { r with keep := i }
noncomputable def t2 (w : Wo) (r : Ru) : Bool := @decide (Comes w r .two) (Classical.propDecidable _)
theorem t2_is {w : Wo} {r : Ru} {H : Hf} (h : ∀ h, h ∈ keysH H ↔ Comes w r h) : decide (Ha.two ∈ keysH H) = t2 w r := by
  unfold t2
  by_cases e : Comes w r .two
  · rw [decide_eq_true ((h _).mpr e), @decide_eq_true _ (Classical.propDecidable _) e]
  · rw [decide_eq_false (fun z => e ((h _).mp z)), @decide_eq_false _ (Classical.propDecidable _) e]
noncomputable def lkF (w : Wo) (r : Ru) : List Int → D
  | [] => .non
  | i :: L => if t2 w (r.wk i) = true then lkF w r L else .int i
noncomputable def lkM (w : Wo) (r : Ru) : D := lkF w r [1, 2, 3, 4]
theorem VR.wk {r : Ru} (v : VR r) {i : Int} (h1 : 1 ≤ i) (h4 : i ≤ 4) : VR (r.wk i) := ⟨h1, h4, v.l0, v.l1, v.r0, v.r1⟩
theorem dRu_wk (r : Ru) (i : Int) : dRu (r.wk i) = .tup [.int i, .int r.lease, .str (wAsked r.asked), .str (wYes r.again), .str (wNum r.numb), .int r.rest] := rfl
def lkB : List Dq.St := [(.ite (.cmp .notIn (.str "two") (.call "harmful" [(.var 0), (.bin .add (.tup [(.var 2)]) (.sl (.var 1) (some (.int 1)) none))])) [(.ret (.var 2))] [])]
theorem lk_turn {w : Wo} {r : Ru} (vr : VR r) (vp : VP w) {i : Int} (h1 : 1 ≤ i) (h4 : i ≤ 4) (hB : ∀ F : Fd, Good w (r.wk i) F → F.length + 1 < 16777216) :
    ∃ S1, exes (lev T (k + 7)) b lkB [some (dWo w), some (dRu r), some (.int i)] S = if t2 w (r.wk i) = true then .ok (.next [some (dWo w), some (dRu r), some (.int i)]) S1 else .ok (.ret (.int i)) S1 := by
  obtain ⟨H, nd, hH, hp⟩ := p_harm (k := k) (vr.wk h1 h4) vp hB
  have hni := fun S => ni_dic (n := b) (S := S ++ [.dic (encH H)]) (f := S.length) (H := H) (h := .two) true (by simp)
  rw [t2_is hH] at hni
  simp only [ha_2] at hni
  rw [dRu_wk] at hp
  refine ⟨S ++ [.dic (encH H)], ?_⟩
  have hc : cutD [D.int r.keep, .int r.lease, .str (wAsked r.asked), .str (wYes r.again), .str (wNum r.numb), .int r.rest] (some 1) none = [.int r.lease, .str (wAsked r.asked), .str (wYes r.again), .str (wNum r.numb), .int r.rest] := rfl
  by_cases ht : t2 w (r.wk i) = true
  · rw [if_pos ht]
    rw [ht] at hni
    simp [lkB, hc, hp, hni]
  · rw [if_neg ht]
    rw [Bool.not_eq_true] at ht
    rw [ht] at hni
    simp [lkB, hc, hp, hni]
theorem C_great (k : Nat) : (lev T k).C "GREATEST_KEEP" = some (.int 4) := by cases k <;> kernel_rfl
theorem srcF_14 : srcF .rng (.ok [.int 1, .int (4 + 1)] S) = .ok (.rng 1 4) S := by rfl
theorem p_least_keep {w : Wo} {r : Ru} (vr : VR r) (vp : VP w) (hB : ∀ i : Int, 1 ≤ i → i ≤ 4 → ∀ F : Fd, Good w (r.wk i) F → F.length + 1 < 16777216) : runFn (lev T (k + 7)) f_least_keep [dWo w, dRu r] n S = .ok (lkM w r) S := by
  rw [run_pure rfl rfl (by simp)]
  have hw : ∀ S, runFn (lev T (k + 6)) f_need_world [dWo w] 0 S = .ok .non S := fun S => p_need_world w vp
  have hr : ∀ S, runFn (lev T (k + 6)) f_need_rule [dRu r] 0 S = .ok .non S := fun S => p_need_rule r vr
  have hC := C_great (k + 7)
  have key : ∀ (L : List Int) (i : Nat) (S : Sto) (x2 : Option D), i + L.length = 4 → (∀ j (hj : j < L.length), L[j] = 1 + ((i + j : Nat) : Int)) →
      ∃ ρ' S', forL (lev T (k + 7)) 0 (.name 2) lkB (.rng 1 4) L.length i [some (dWo w), some (dRu r), x2] S = (match lkF w r L with
        | .non => .ok (.next ρ') S'
        | d => .ok (.ret d) S') := by
    intro L
    induction L with
    | nil =>
      intro i S x2 hi _
      refine ⟨[some (dWo w), some (dRu r), x2], S, ?_⟩
      have : i = 4 := by simpa using hi
      subst this
      rw [List.length_nil, forL_0, cur_rng_e]
      rfl
    | cons j L ih =>
      intro i S x2 hi hL
      have hi4 : i < 4 := by simp at hi; omega
      have hj : j = 1 + (i : Int) := by
        have := hL 0 (by simp)
        simpa using this
      obtain ⟨S1, t⟩ := lk_turn (k := k) (b := 0) (S := S) vr vp (i := j) (by omega) (by omega) (hB j (by omega) (by omega))
      rw [List.length_cons, forL_s, cur_rng hi4, forA_s, ← hj]
      show ∃ ρ' S', forB _ _ _ _ _ _ _ _ (some [some (dWo w), some (dRu r), some (.int j)]) = _
      rw [forB_s, t]
      unfold lkF
      by_cases ht : t2 w (r.wk j) = true
      · rw [if_pos ht, if_pos ht, forC_n]
        exact ih (i + 1) S1 (some (.int j)) (by simp at hi; omega) fun q hq => by
          have := hL (q + 1) (by simpa using hq)
          simp at this
          rw [this]
          omega
      · rw [if_neg ht, if_neg ht]
        exact ⟨[], S1, rfl⟩
  obtain ⟨ρ', S', e⟩ := key [1, 2, 3, 4] 0 [] none rfl (fun j hj => by
    have : j = 0 ∨ j = 1 ∨ j = 2 ∨ j = 3 := by simp at hj; omega
    rcases this with rfl | rfl | rfl | rfl <;> rfl)
  have e' : forL (lev T (k + 7)) 0 (.name 2) lkB (.rng 1 4) 4 0 [some (dWo w), some (dRu r), none] [] = (match lkM w r with
        | .non => .ok (.next ρ') S'
        | d => .ok (.ret d) S') := e
  have hv : lkM w r = .non ∨ ∃ i, lkM w r = .int i := by
    have : ∀ L, lkF w r L = .non ∨ ∃ i, lkF w r L = .int i := fun L => by
      induction L with
      | nil => exact .inl rfl
      | cons j L ih =>
        unfold lkF
        split
        · exact ih
        · exact .inr ⟨j, rfl⟩
    exact this _
  have hf : exes (lev T (k + 7)) 0 b_least_keep [some (dWo w), some (dRu r), none] [] = sqK (lev T (k + 7)) 0 [.ret .non] (forL (lev T (k + 7)) 0 (.name 2) lkB (.rng 1 4) 4 0 [some (dWo w), some (dRu r), none] []) := by
    rw [show b_least_keep = [(.expr (.call "need_world" [(.var 0)])), (.expr (.call "need_rule" [(.var 1)]))] ++ [.for_ (.name 2) .rng [(.int 1), (.bin .add (.glo "GREATEST_KEEP") (.int 1))] lkB, .ret .non] from by kernel_rfl]
    rw [exes_then (ρ' := [some (dWo w), some (dRu r), none]) (S1 := []) _ _ _ (by simp [hw, hr])]
    rw [x_cons, s_for]
    have hd : denL (lev T (k + 7)) 0 [(.int 1), (.bin .add (.glo "GREATEST_KEEP") (.int 1))] [some (dWo w), some (dRu r), none] [] = .ok [.int 1, .int (4 + 1)] [] := by
      simp [hC]
    rw [hd, srcF_14, forZ_ok, cnt_rng]
  show pureOut S (ret1 (exes (lev T (k + 7)) 0 b_least_keep [some (dWo w), some (dRu r), none] [])) = _
  rw [hf, e']
  rcases hv with h | ⟨i, h⟩
  · rw [h]; simp
  · rw [h]; simp
end
end Lw
set_option Elab.async false
set_option linter.all false
set_option maxRecDepth 100000
set_option maxHeartbeats 4000000
/-! W13: rules that are safe. -/
namespace Lw
open PySem PySem.Spec PyProof.Rows Dq
section
/-- for how long the house still guards a client -/
def cov (h : Ho) (c : Bool) : Int := if h.who = some c then h.left else if h.who = none then h.rest else 0
def yv (r : Ru) (y : Way) : Int := if r.asked = true then r.lease - y.since else r.keep - y.age
structure JC (r : Ru) (v : Int) (c : Cl) : Prop where
  l : c.left ≤ v
  y : ∀ y, c.way = some y → y.k = .yes → yv r y ≤ v
  b : ∀ y, c.way = some y → y.k = .back → c.left = 0
def claim (r : Ru) (c : Cl) : Prop := 0 < c.left ∨ ∃ y, c.way = some y ∧ y.k = .yes ∧ 0 < yv r y
structure Safe (w : Wo) (r : Ru) : Prop where
  a : r.asked = true → r.lease ≤ r.keep ∧ (w.falls = true → r.lease ≤ r.rest)
  b : r.asked = false → r.lease + w.delay ≤ r.keep ∧ w.falls = false
structure JS (w : Wo) (r : Ru) (s : Sd) : Prop where
  one : JC r (cov s.ho false) s.one
  two : JC r (cov s.ho true) s.two
  n2 : ¬ (claim r s.one ∧ claim r s.two)
  f : w.falls = false → s.ho.who = none → s.ho.rest = 0
theorem JC.pos {r : Ru} {v : Int} {c : Cl} (j : JC r v c) (h : claim r c) : 0 < v := by
  rcases h with h | ⟨y, e, k, h⟩
  · have := j.l; omega
  · have := j.y y e k; omega
theorem JC.cl {w : Wo} {r : Ru} {s : Sd} (j : JS w r s) (c : Bool) : JC r (cov s.ho c) (s.cl c) := by cases c; exact j.one; exact j.two
/-- a client put, the house as it is -/
theorem JS.put {w : Wo} {r : Ru} {s : Sd} (j : JS w r s) (c : Bool) {x : Cl} (h : JC r (cov s.ho c) x) (hc : claim r x → claim r (s.cl c)) : JS w r (s.put c x) := by
  cases c with
  | false => exact ⟨h, j.two, fun z => j.n2 ⟨hc z.1, z.2⟩, j.f⟩
  | true => exact ⟨j.one, h, fun z => j.n2 ⟨z.1, hc z.2⟩, j.f⟩
/-- the house's own: the other has no claim -/
theorem JS.house {w : Wo} {r : Ru} {s : Sd} (c : Bool) (H : Ho) {x : Cl} (h : JC r (cov H c) x) (ho : JC r (cov H (!c)) (s.cl (!c))) (h0 : cov H (!c) ≤ 0) (hf : w.falls = false → H.who = none → H.rest = 0) : JS w r ((Sd.mk H s.used s.one s.two).put c x) := by
  cases c with
  | false => exact ⟨h, ho, fun z => by have := ho.pos z.2; simp at h0 this; omega, hf⟩
  | true => exact ⟨ho, h, fun z => by have := ho.pos z.1; simp at h0 this; omega, hf⟩
theorem JC.zero {r : Ru} {v u : Int} {c : Cl} (j : JC r v c) (h : v ≤ u) : JC r u c := ⟨Int.le_trans j.l h, fun y e k => Int.le_trans (j.y y e k) h, j.b⟩
theorem JC.none {r : Ru} {v : Int} {c : Cl} (j : JC r v c) : JC r v ⟨c.left, c.num, none⟩ := ⟨j.l, fun y e => (nomatch e), fun y e => (nomatch e)⟩
theorem claim.none {r : Ru} {c : Cl} (h : claim r ⟨c.left, c.num, none⟩) : claim r c := by
  rcases h with h | ⟨y, e, _⟩
  · exact .inl h
  · cases e
theorem JC.new {r : Ru} {v l m : Int} {k : Kw} (h : l ≤ v) (hy : k ≠ .yes) (hb : k = .back → l = 0) : JC r v ⟨l, m, some ⟨k, 0, 0, 0⟩⟩ :=
  ⟨h, fun y e z => (by cases e; exact absurd z hy), fun y e z => (by cases e; exact hb z)⟩
theorem claim.new {r : Ru} {l m : Int} {k : Kw} (hy : k ≠ .yes) (h : claim r ⟨l, m, some ⟨k, 0, 0, 0⟩⟩) : 0 < l := by
  rcases h with z | ⟨y, e, z, _⟩
  · exact z
  · cases e; exact absurd z hy
theorem cov_nn {w : Wo} {r : Ru} {s : Sd} (v : VS w r s) (c : Bool) : 0 ≤ cov s.ho c := by
  unfold cov
  split
  · rename_i h; have := (v.some_ c h).1; omega
  · split
    · rename_i h; have := (v.none_ h).2.1; omega
    · omega
theorem JS.asked {w : Wo} {r : Ru} {s : Sd} (sf : Safe w r) (v : VS w r s) (j : JS w r s) (c : Bool) (y : Way) (hy : (s.cl c).way = some y) (hk : y.k = .ask ∨ y.k = .renew) : JS w r (askedM r s c y).1 := by
  have jc := JC.cl j c
  have jo := JC.cl j (!c)
  have vc := v.cl c
  have q := vc.w y hy
  have hll : r.lease ≤ r.keep := by
    cases ha : r.asked with
    | true => exact (sf.a ha).1
    | false => have := (sf.b ha).1; have := v.vp.d0; omega
  have hnew : ∀ N M : Int, JC r (cov ⟨some c, r.keep, 0, N⟩ c) ⟨(s.cl c).left, (s.cl c).num, some ⟨.yes, 0, y.since, M⟩⟩ := fun N M => by
    have e : cov ⟨some c, r.keep, 0, N⟩ c = r.keep := by unfold cov; rw [if_pos rfl]
    rw [e]
    refine ⟨by have := vc.l1; show (s.cl c).left ≤ r.keep; omega, fun z e _ => ?_, fun z e k => (by cases e; cases k)⟩
    cases e
    unfold yv
    have := q.s0
    split
    · show r.lease - y.since ≤ r.keep; omega
    · show r.keep - 0 ≤ r.keep; omega
  have hcov : ∀ N : Int, cov ⟨some c, r.keep, 0, N⟩ (!c) = 0 := fun N => by
    unfold cov
    rw [if_neg (by cases c <;> simp), if_neg (by simp)]
  have hold : s.ho.who = none ∧ s.ho.rest = 0 ∨ s.ho.who = some c → cov s.ho (!c) = 0 := fun h => by
    unfold cov
    rcases h with ⟨h1, h2⟩ | h
    · rw [h1, if_neg (by simp), if_pos rfl, h2]
    · rw [h, if_neg (by cases c <;> simp), if_neg (by simp)]
  unfold askedM
  split
  · rename_i h
    refine JS.house c ⟨some c, r.keep, 0, s.ho.num + 1⟩ (hnew _ _) ?_ (by rw [hcov]; exact Int.le_refl _) (fun _ e => (nomatch e))
    rw [hcov, ← hold (.inl ⟨h.1, h.2.1⟩)]
    exact jo
  · split
    · rename_i h
      refine JS.house c ⟨some c, r.keep, 0, s.ho.num⟩ (hnew _ _) ?_ (by rw [hcov]; exact Int.le_refl _) (fun _ e => (nomatch e))
      rw [hcov, ← hold (.inr h)]
      exact jo
    · exact j.put c jc.none claim.none
theorem JS.arrived {w : Wo} {r : Ru} {s : Sd} (sf : Safe w r) (v : VS w r s) (j : JS w r s) (c : Bool) (y : Way) (hy : (s.cl c).way = some y) : JS w r (arrivedM r s c y).1 := by
  have jc := JC.cl j c
  have jo := JC.cl j (!c)
  have vc := v.cl c
  have q := vc.w y hy
  cases hk : y.k with
  | ask =>
    have e2 : arrivedM r s c y = askedM r s c y := by unfold arrivedM; rw [hk]
    rw [e2]; exact j.asked sf v c y hy (.inl hk)
  | renew =>
    have e2 : arrivedM r s c y = askedM r s c y := by unfold arrivedM; rw [hk]
    rw [e2]; exact j.asked sf v c y hy (.inr hk)
  | back =>
    unfold arrivedM
    rw [hk]
    dsimp only
    split
    · rename_i h
      have hr := (v.some_ c h).2.2.1
      have hc0 : ∀ d, cov ⟨none, 0, s.ho.rest, s.ho.num⟩ d = 0 := fun d => by unfold cov; rw [if_neg (by simp), if_pos rfl, hr]
      have ho0 : cov s.ho (!c) = 0 := by unfold cov; rw [h, if_neg (by cases c <;> simp), if_neg (by simp)]
      refine JS.house c ⟨none, 0, s.ho.rest, s.ho.num⟩ ?_ ?_ (by rw [hc0]; exact Int.le_refl _) (fun _ _ => hr)
      · rw [hc0]
        exact ⟨by have := jc.b y hy hk; show (s.cl c).left ≤ 0; omega, fun z e => (nomatch e), fun z e => (nomatch e)⟩
      · rw [hc0, ← ho0]; exact jo
    · exact j.put c jc.none claim.none
  | yes =>
    unfold arrivedM
    rw [hk]
    dsimp only
    have hn : (if r.asked = true then r.lease - y.since else r.lease) ≤ yv r y := by
      unfold yv
      cases ha : r.asked with
      | true => simp
      | false => have := (sf.b ha).1; have := q.a1; simp; omega
    have hyv := jc.y y hy hk
    generalize (if r.asked = true then r.lease - y.since else r.lease) = z at hn
    split
    · exact j.put c jc.none claim.none
    · rename_i h
      have := vc.l0
      exact j.put c ⟨by show z ≤ _; omega, fun u e => (nomatch e), fun u e => (nomatch e)⟩ fun _ => .inr ⟨y, hy, hk, by omega⟩
theorem cov_tick {w : Wo} {r : Ru} {s : Sd} (v : VS w r s) (c : Bool) : cov (tickedM r s).ho c = if 0 < cov s.ho c - 1 then cov s.ho c - 1 else 0 := by
  obtain ⟨⟨wh, l, e, m⟩, u, x, y⟩ := s
  have hs := v.some_
  have hn := v.none_
  dsimp only at hs hn
  unfold tickedM cov
  dsimp only
  cases wh with
  | none =>
    obtain ⟨a, b, d⟩ := hn rfl
    subst a
    simp
  | some d =>
    obtain ⟨a, b, f, h⟩ := hs d rfl
    by_cases hl : 1 < l
    · rw [if_pos hl]
      by_cases hd : d = c
      · subst hd; simp; omega
      · simp [hd]
    · rw [if_neg hl]
      have : l = 1 := by omega
      subst this f
      by_cases hd : d = c
      · subst hd; simp
      · simp [hd]
theorem JC.later {r : Ru} {v : Int} {c : Cl} (j : JC r v c) (hv : 0 ≤ v) : JC r (if 0 < v - 1 then v - 1 else 0) (laterM r c) := by
  obtain ⟨l, m, y⟩ := c
  have h1 := j.l
  have h2 := j.y
  have h3 := j.b
  dsimp only at *
  have ew : (laterM r ⟨l, m, y⟩).way = y.map (laterW r) := by unfold laterM; split <;> rfl
  have el : (laterM r ⟨l, m, y⟩).left = if 1 < l then l - 1 else 0 := by unfold laterM; split <;> rfl
  refine ⟨?_, fun z e k => ?_, fun z e k => ?_⟩
  · rw [el]; split <;> split <;> omega
  · rw [ew] at e
    cases y with
    | none => cases e
    | some y =>
      cases e
      obtain ⟨kw, a, s, n⟩ := y
      have k' : kw = .yes := k
      subst k'
      have := h2 _ rfl rfl
      unfold yv at this ⊢
      cases ha : r.asked with
      | true =>
        rw [ha] at this
        simp only [if_true] at this ⊢
        show r.lease - (if s + 1 < r.lease then s + 1 else r.lease) ≤ _
        split <;> split <;> omega
      | false =>
        rw [ha] at this
        simp only [Bool.false_eq_true, if_false] at this ⊢
        show r.keep - (a + 1) ≤ _
        split <;> omega
  · rw [ew] at e
    cases y with
    | none => cases e
    | some y =>
      cases e
      have := h3 y rfl k
      rw [el]; split <;> omega
theorem claim.later {r : Ru} {c : Cl} (h : claim r (laterM r c)) : claim r c := by
  obtain ⟨l, m, y⟩ := c
  have ew : (laterM r ⟨l, m, y⟩).way = y.map (laterW r) := by unfold laterM; split <;> rfl
  have el : (laterM r ⟨l, m, y⟩).left = if 1 < l then l - 1 else 0 := by unfold laterM; split <;> rfl
  rcases h with h | ⟨z, e, k, h⟩
  · rw [el] at h
    refine .inl ?_
    show 0 < l
    split at h <;> omega
  · rw [ew] at e
    cases y with
    | none => cases e
    | some y =>
      cases e
      obtain ⟨kw, a, s, n⟩ := y
      have k' : kw = .yes := k
      subst k'
      refine .inr ⟨_, rfl, rfl, ?_⟩
      unfold yv at h ⊢
      cases ha : r.asked with
      | true =>
        rw [ha] at h
        simp only [if_true] at h ⊢
        have h' : 0 < r.lease - (if s + 1 < r.lease then s + 1 else r.lease) := h
        split at h' <;> omega
      | false =>
        rw [ha] at h
        simp only [Bool.false_eq_true, if_false] at h ⊢
        have h' : 0 < r.keep - (a + 1) := h
        omega
theorem JS.happened {w : Wo} {r : Ru} {s : Sd} (sf : Safe w r) (v : VS w r s) (j : JS w r s) (e : Ev) (p : Pos w s e) : JS w r (happenedM r s e).1 := by
  cases e with
  | tick =>
    have h1 := j.one.later (cov_nn v false)
    have h2 := j.two.later (cov_nn v true)
    refine ⟨?_, ?_, fun z => j.n2 ⟨z.1.later, z.2.later⟩, fun hf hw => ?_⟩
    · show JC r (cov (tickedM r s).ho false) (laterM r s.one)
      rw [cov_tick v]; exact h1
    · show JC r (cov (tickedM r s).ho true) (laterM r s.two)
      rw [cov_tick v]; exact h2
    · show (tickedM r s).ho.rest = 0
      have hs := v.some_
      unfold tickedM
      dsimp only
      split
      · rfl
      · show (if 0 < s.ho.rest - 1 then s.ho.rest - 1 else 0) = 0
        cases ew : s.ho.who with
        | none => have := j.f hf ew; split <;> omega
        | some d => have := (hs d ew).2.2.1; split <;> omega
  | fall =>
    have hf : w.falls = true := p
    have ha : r.asked = true := by
      cases ha : r.asked with
      | true => rfl
      | false => have := (sf.b ha).2; rw [hf] at this; cases this
    have hl := (sf.a ha).2 hf
    have hc : ∀ d, cov ⟨none, 0, r.rest, s.ho.num⟩ d = r.rest := fun d => by unfold cov; rw [if_neg (by simp), if_pos rfl]
    have key : ∀ c u, VC w r s.ho.num c → JC r u c → JC r r.rest c := fun c u vc jc => ⟨by have := vc.l1; omega, fun y e k => by
      have := (vc.w y e).s0
      unfold yv
      rw [if_pos ha]
      omega, jc.b⟩
    refine ⟨?_, ?_, j.n2, fun h => by rw [hf] at h; cases h⟩
    · show JC r (cov ⟨none, 0, r.rest, s.ho.num⟩ false) s.one
      rw [hc]; exact key _ _ v.one j.one
    · show JC r (cov ⟨none, 0, r.rest, s.ho.num⟩ true) s.two
      rw [hc]; exact key _ _ v.two j.two
  | op o c =>
    have jc := JC.cl j c
    have c0 := cov_nn v c
    cases o with
    | ask => exact j.put c (JC.new jc.l (by simp) (fun z => (nomatch z))) fun z => .inl (claim.new (by simp) z)
    | renew => exact j.put c (JC.new jc.l (by simp) (fun z => (nomatch z))) fun z => .inl (claim.new (by simp) z)
    | back => exact j.put c (JC.new c0 (by simp) (fun _ => rfl)) fun z => absurd (claim.new (by simp) z) (by simp)
    | use =>
      unfold happenedM
      dsimp only
      split
      · exact j
      · exact ⟨j.one, j.two, j.n2, j.f⟩
    | lose => exact j.put c jc.none claim.none
    | arrive =>
      cases h : (s.cl c).way with
      | none => exact absurd h p
      | some y =>
        have e1 : happenedM r s (.op .arrive c) = arrivedM r s c y := by simp only [happenedM, h]
        rw [e1]
        exact j.arrived sf v c y h
theorem JC.rank {r : Ru} {v : Int} {c : Cl} {L : List Int} (j : JC r v c) : JC r v (rkCl L c) := by
  refine ⟨j.l, fun z e k => ?_, fun z e k => ?_⟩
  · cases ec : c.way with
    | none => rw [show (rkCl L c).way = c.way.map (rkWay L) from rfl, ec] at e; cases e
    | some y =>
      rw [show (rkCl L c).way = c.way.map (rkWay L) from rfl, ec] at e
      cases e
      exact j.y y ec k
  · cases ec : c.way with
    | none => rw [show (rkCl L c).way = c.way.map (rkWay L) from rfl, ec] at e; cases e
    | some y =>
      rw [show (rkCl L c).way = c.way.map (rkWay L) from rfl, ec] at e
      cases e
      exact j.b y ec k
theorem claim.rank {r : Ru} {c : Cl} {L : List Int} (h : claim r (rkCl L c)) : claim r c := by
  rcases h with h | ⟨z, e, k, h⟩
  · exact .inl h
  · cases ec : c.way with
    | none => rw [show (rkCl L c).way = c.way.map (rkWay L) from rfl, ec] at e; cases e
    | some y =>
      rw [show (rkCl L c).way = c.way.map (rkWay L) from rfl, ec] at e
      cases e
      exact .inr ⟨y, ec, k, h⟩
theorem JS.rank {w : Wo} {r : Ru} {s : Sd} (j : JS w r s) : JS w r (rankM s) :=
  ⟨j.one.rank, j.two.rank, fun z => j.n2 ⟨z.1.rank, z.2.rank⟩, j.f⟩
theorem JS.step {w : Wo} {r : Ru} {s : Sd} (sf : Safe w r) (v : VT w r s) (j : JS w r s) (e : Ev) (p : e ∈ evL w s) : JS w r (nx r s e) :=
  (j.happened sf v.vs e ((mem_evL w s e).mp p)).rank
theorem JS.first {w : Wo} {r : Ru} : JS w r firstM := by
  have h : JC r 0 ⟨0, 0, none⟩ := ⟨by simp, fun _ e => (nomatch e), fun _ e => (nomatch e)⟩
  refine ⟨h, h, fun z => ?_, fun _ _ => rfl⟩
  rcases z.1 with z | ⟨y, e, _⟩
  · simp [firstM] at z
  · cases e
/-- no two -/
theorem safe_two {w : Wo} {r : Ru} (vr : VR r) (vp : VP w) (sf : Safe w r) : ¬ Comes w r .two := by
  rintro ⟨F, ⟨A, hA, rfl⟩, s, hs, e, he, h⟩
  have hv := (gen_good vr vp A).vt s hs
  have hj := gen_ind vr vp (JS w r) JS.first (fun s e v j p => j.step sf v e p) A s hs
  have hj2 := hj.step sf hv e he
  unfold comesM twoM at h
  rw [Bool.and_eq_true, decide_eq_true_eq, decide_eq_true_eq] at h
  exact hj2.n2 ⟨.inl h.1, .inl h.2⟩
/-! ### what comes -/
def reachB (w : Wo) (r : Ru) (h : Ha) : Sd → List Ev → Bool
  | _, [] => false
  | s, [e] => decide (e ∈ evL w s) && comesM h s e (stepM r s e).1 (stepM r s e).2
  | s, e :: L => decide (e ∈ evL w s) && reachB w r h (stepM r s e).1 L
theorem Fin.next {w : Wo} {r : Ru} {F : Fd} (f : Fin w r F) {s : Sd} (hs : s ∈ keysF F) {e : Ev} (he : e ∈ evL w s) : nx r s e ∈ keysF F := by
  obtain ⟨A, hA, rfl⟩ := f
  obtain ⟨p, hp, rfl⟩ := List.mem_map.mp hs
  obtain ⟨j, hj⟩ := List.mem_iff_getElem?.mp hp
  have := (List.getElem?_eq_some_iff.mp hj).1
  exact gen_has A j p (by omega) hj e he
theorem Fin.first {w : Wo} {r : Ru} {F : Fd} (f : Fin w r F) : firstM ∈ keysF F := by
  obtain ⟨A, hA, rfl⟩ := f
  obtain ⟨U, hU⟩ := gen_pre w r 0 A
  rw [Nat.zero_add] at hU
  rw [hU, keysF_app]
  exact List.mem_append_left _ (by simp [gen, keysF])
theorem Fin.reach {w : Wo} {r : Ru} {h : Ha} {F : Fd} (f : Fin w r F) : ∀ (L : List Ev) (s : Sd), s ∈ keysF F → reachB w r h s L = true → Comes w r h
  | [], s, hs, e => by simp [reachB] at e
  | [e], s, hs, z => by
    unfold reachB at z
    rw [Bool.and_eq_true, decide_eq_true_eq] at z
    exact ⟨F, f, s, hs, e, z.1, z.2⟩
  | e :: e' :: L, s, hs, z => by
    unfold reachB at z
    rw [Bool.and_eq_true, decide_eq_true_eq] at z
    exact f.reach (e' :: L) _ (f.next hs z.1) z.2
theorem fin_is {w : Wo} {r : Ru} (vr : VR r) (vp : VP w) (hB : ∀ F : Fd, Good w r F → F.length + 1 < 16777216) : ∃ F, Fin w r F := by
  obtain ⟨N, hN⟩ : ∃ N : Nat, N = 16777216 := ⟨_, rfl⟩
  have := hB _ (gen_good vr vp N)
  exact ⟨_, N, by omega, rfl⟩
theorem comes_by {w : Wo} {r : Ru} {h : Ha} (vr : VR r) (vp : VP w) (hB : ∀ F : Fd, Good w r F → F.length + 1 < 16777216) (L : List Ev) (e : reachB w r h firstM L = true) : Comes w r h := by
  obtain ⟨F, f⟩ := fin_is vr vp hB
  exact f.reach L firstM f.first e
end
end Lw
set_option Elab.async false
set_option linter.all false
set_option maxRecDepth 100000
set_option maxHeartbeats 4000000
/-! A1: the outcomes; values of least_keep. -/
namespace Lw
open PySem PySem.Spec PyProof.Rows Dq
section
variable {g : Gm} {b n k : Nat} {S S' U : Sto}
theorem few_wk {w : Wo} {r : Ru} (f : Few w r) (i : Int) : Few w (r.wk i) := f
theorem lk_few {w : Wo} {r : Ru} (vr : VR r) (vp : VP w) (f : Few w r) : runFn (lev T (k + 7)) f_least_keep [dWo w, dRu r] n S = .ok (lkM w r) S :=
  p_least_keep vr vp fun i _ _ F g => good_few (few_wk f i) F g
theorem lkF_d (w : Wo) (r : Ru) : ∀ L : List Int, lkF w r L = .non ∨ ∃ i, lkF w r L = .int i
  | [] => .inl rfl
  | j :: L => by
    unfold lkF
    split
    · exact lkF_d w r L
    · exact .inr ⟨j, rfl⟩
theorem eq_lk (m : Bool) (w : Wo) (r : Ru) : eqD m (lkM w r) (lkM w r) n S = .ok (.bl (m ^^ true)) S := by
  rcases lkF_d w r [1, 2, 3, 4] with h | ⟨i, h⟩
  · rw [show lkM w r = .non from h]; rfl
  · rw [show lkM w r = .int i from h, eq_ii, decide_eq_true rfl]
def hsO : List (Str × D) := [("InvalidWorld", .str "world!"), ("InvalidRule", .str "rule!")]
theorem pk_w (k : Nat) : pick (lev T k).X "InvalidWorld" hsO = some (some (.str "world!")) := by cases k <;> kernel_rfl
theorem pk_r (k : Nat) : pick (lev T k).X "InvalidRule" hsO = some (some (.str "rule!")) := by cases k <;> kernel_rfl
theorem bel_lk (w : Wo) (r : Ru) : below b (lkM w r) = true := by
  rcases lkF_d w r [1, 2, 3, 4] with h | ⟨i, h⟩
  · rw [show lkM w r = .non from h]; rfl
  · rw [show lkM w r = .int i from h]; rfl
theorem out_ok {w : Wo} {r : Ru} (vr : VR r) (vp : VP w) (f : Few w r) : runFn (lev T (k + 8)) f__law_outcome [dWo w, dRu r] n S = .ok (lkM w r) S := by
  have h : ∀ S, runFn (lev T (k + 7)) f_least_keep [dWo w, dRu r] 0 S = .ok (lkM w r) S := fun S => lk_few vr vp f
  rw [run_pure rfl rfl (by simp)]
  simp [f__law_outcome, b__law_outcome, Dq.envOf, h]
  exact po_d (bel_lk w r)
theorem out_world {d : Int} {l : Bool} : runFn (lev T (k + 8)) f__law_outcome [.tup [.int d, .bl l], .int 0] n S = .ok (.str "world!") S := by
  have h0 : runFn (lev T (k + 4)) f_is_wide [.tup [.int d, .bl l], .int 3] 0 [] = .ok (.bl false) [] := by rw [p_wide (by simp)]; rfl
  have h1 : runFn (lev T (k + 5)) f_is_right_world [.tup [.int d, .bl l]] 0 [] = .ok (.bl false) [] := by
    rw [run_pure rfl rfl (by simp)]
    simp [f_is_right_world, b_is_right_world, Dq.envOf, h0]
  have h2 : runFn (lev T (k + 6)) f_need_world [.tup [.int d, .bl l]] 0 [] = .exc ⟨"InvalidWorld"⟩ [] := by
    rw [run_pure rfl rfl (by simp)]
    simp [f_need_world, b_need_world, Dq.envOf, h1]
  have h3 : runFn (lev T (k + 7)) f_least_keep [.tup [.int d, .bl l], .int 0] 0 [] = .exc ⟨"InvalidWorld"⟩ [] := by
    rw [run_pure rfl rfl (by simp)]
    simp [f_least_keep, b_least_keep, Dq.envOf, h2]
  have hp := pk_w (k + 8)
  unfold hsO at hp
  rw [run_pure rfl rfl (by simp)]
  simp [f__law_outcome, b__law_outcome, Dq.envOf, h3, hp]
@[simp] theorem isi_loc {t : Ty} {m : Nat} {ds : List D} (h : S[m]? = some (.lst ds)) : isiD t (.loc m) S = .ok (.bl (isK .lst t)) S := by
  unfold isiD kdOf
  dsimp only
  rw [h]
theorem out_rule {w : Wo} (vp : VP w) {m : Nat} {ds : List D} (h : S[m]? = some (.lst ds)) : runFn (lev T (k + 8)) f__law_outcome [dWo w, .loc m] n S = .ok (.str "rule!") S := by
  have h0 : ∀ b, runFn (lev T (k + 4)) f_is_wide [.loc m, .int 6] b S = .ok (.bl false) S := fun b => by
    rw [run_seen rfl rfl (by simp)]
    simp [f_is_wide, b_is_wide, Dq.envOf, isi_loc h]
  have h1 : ∀ b, runFn (lev T (k + 5)) f_is_right_rule [.loc m] b S = .ok (.bl false) S := fun b => by
    rw [run_seen rfl rfl (by simp)]
    simp [f_is_right_rule, b_is_right_rule, Dq.envOf, h0]
  have h2 : ∀ b, runFn (lev T (k + 6)) f_need_rule [.loc m] b S = .exc ⟨"InvalidRule"⟩ S := fun b => by
    rw [run_seen rfl rfl (by simp)]
    simp [f_need_rule, b_need_rule, Dq.envOf, h1]
  have hw : ∀ b, runFn (lev T (k + 6)) f_need_world [dWo w] b S = .ok .non S := fun b => p_need_world w vp
  have h3 : ∀ b, runFn (lev T (k + 7)) f_least_keep [dWo w, .loc m] b S = .exc ⟨"InvalidRule"⟩ S := fun b => by
    rw [run_seen rfl rfl (by simp)]
    simp [f_least_keep, b_least_keep, Dq.envOf, h2, hw]
  have hp := pk_r (k + 8)
  unfold hsO at hp
  rw [run_seen rfl rfl (by simp)]
  simp [f__law_outcome, b__law_outcome, Dq.envOf, h3, hp]
/-! ### values -/
theorem t2_t {w : Wo} {r : Ru} (h : Comes w r .two) : t2 w r = true := by
  unfold t2
  exact @decide_eq_true _ (Classical.propDecidable _) h
theorem t2_f {w : Wo} {r : Ru} (h : ¬ Comes w r .two) : t2 w r = false := by
  unfold t2
  exact @decide_eq_false _ (Classical.propDecidable _) h
theorem t2_by {w : Wo} {r : Ru} (vr : VR r) (vp : VP w) (f : Few w r) (L : List Ev) (e : reachB w r .two firstM L = true) : t2 w r = true := t2_t (comes_by vr vp (good_few f) L e)
theorem t2_no {w : Wo} {r : Ru} (vr : VR r) (vp : VP w) (sf : Safe w r) : t2 w r = false := t2_f (safe_two vr vp sf)
def wS : Wo := ⟨1, false, false⟩
def wQ : Wo := ⟨0, false, false⟩
def wF : Wo := ⟨0, false, true⟩
theorem vS : VP wS := ⟨by decide, by decide⟩
theorem vQ : VP wQ := ⟨by decide, by decide⟩
theorem vF : VP wF := ⟨by decide, by decide⟩
def rA : Ru := ⟨1, 2, true, false, false, 0⟩
def rB : Ru := ⟨1, 2, false, false, false, 0⟩
def rC : Ru := ⟨1, 4, true, false, false, 0⟩
def rD (p : Int) : Ru := ⟨1, 1, true, false, false, p⟩
theorem vrA : VR rA := ⟨by decide, by decide, by decide, by decide, by decide, by decide⟩
theorem vrB : VR rB := ⟨by decide, by decide, by decide, by decide, by decide, by decide⟩
theorem vrC : VR rC := ⟨by decide, by decide, by decide, by decide, by decide, by decide⟩
theorem vrD0 : VR (rD 0) := ⟨by decide, by decide, by decide, by decide, by decide, by decide⟩
theorem vrD1 : VR (rD 1) := ⟨by decide, by decide, by decide, by decide, by decide, by decide⟩
theorem fS {r : Ru} (h : r.lease ≤ 2) : Few wS r := .inr ⟨rfl, h⟩
theorem fQ {r : Ru} : Few wQ r := .inl rfl
theorem fF {r : Ru} : Few wF r := .inl rfl
theorem lk_A : lkM wS rA = .int 2 := by
  have h1 : t2 wS (rA.wk 1) = true := t2_by (vrA.wk (by decide) (by decide)) vS (fS (by decide)) [.op .ask false, .op .arrive false, .op .arrive false, .op .ask true, .tick, .op .arrive true, .op .arrive true] (by decide +kernel)
  have h2 : t2 wS (rA.wk 2) = false := t2_no (vrA.wk (by decide) (by decide)) vS ⟨fun _ => ⟨by decide, fun h => (nomatch h)⟩, fun h => (nomatch h)⟩
  unfold lkM lkF lkF
  rw [if_pos h1, if_neg (by rw [h2]; simp)]
theorem lk_B : lkM wS rB = .int 3 := by
  have h1 : t2 wS (rB.wk 1) = true := t2_by (vrB.wk (by decide) (by decide)) vS (fS (by decide)) [.op .ask false, .op .arrive false, .op .arrive false, .op .ask true, .tick, .op .arrive true, .op .arrive true] (by decide +kernel)
  have h2 : t2 wS (rB.wk 2) = true := t2_by (vrB.wk (by decide) (by decide)) vS (fS (by decide)) [.op .ask false, .op .arrive false, .tick, .op .arrive false, .op .ask true, .tick, .op .arrive true, .op .arrive true] (by decide +kernel)
  have h3 : t2 wS (rB.wk 3) = false := t2_no (vrB.wk (by decide) (by decide)) vS ⟨fun h => (nomatch h), fun _ => ⟨by decide, rfl⟩⟩
  unfold lkM lkF lkF lkF
  rw [if_pos h1, if_pos h2, if_neg (by rw [h3]; simp)]
theorem lk_C : lkM wQ rC = .int 4 := by
  have h1 : t2 wQ (rC.wk 1) = true := t2_by (vrC.wk (by decide) (by decide)) vQ fQ [.op .ask false, .op .arrive false, .op .arrive false, .tick, .op .ask true, .op .arrive true, .op .arrive true] (by decide +kernel)
  have h2 : t2 wQ (rC.wk 2) = true := t2_by (vrC.wk (by decide) (by decide)) vQ fQ [.op .ask false, .op .arrive false, .op .arrive false, .tick, .tick, .op .ask true, .op .arrive true, .op .arrive true] (by decide +kernel)
  have h3 : t2 wQ (rC.wk 3) = true := t2_by (vrC.wk (by decide) (by decide)) vQ fQ [.op .ask false, .op .arrive false, .op .arrive false, .tick, .tick, .tick, .op .ask true, .op .arrive true, .op .arrive true] (by decide +kernel)
  have h4 : t2 wQ (rC.wk 4) = false := t2_no (vrC.wk (by decide) (by decide)) vQ ⟨fun _ => ⟨by decide, fun h => (nomatch h)⟩, fun h => (nomatch h)⟩
  unfold lkM lkF lkF lkF lkF
  rw [if_pos h1, if_pos h2, if_pos h3, if_neg (by rw [h4]; simp)]
theorem lk_D0 : lkM wF (rD 0) = .non := by
  have L : List Ev := [.op .ask false, .op .arrive false, .op .arrive false, .op .ask true, .fall, .op .arrive true, .op .arrive true]
  have h1 : t2 wF ((rD 0).wk 1) = true := t2_by (vrD0.wk (by decide) (by decide)) vF fF [.op .ask false, .op .arrive false, .op .arrive false, .op .ask true, .fall, .op .arrive true, .op .arrive true] (by decide +kernel)
  have h2 : t2 wF ((rD 0).wk 2) = true := t2_by (vrD0.wk (by decide) (by decide)) vF fF [.op .ask false, .op .arrive false, .op .arrive false, .op .ask true, .fall, .op .arrive true, .op .arrive true] (by decide +kernel)
  have h3 : t2 wF ((rD 0).wk 3) = true := t2_by (vrD0.wk (by decide) (by decide)) vF fF [.op .ask false, .op .arrive false, .op .arrive false, .op .ask true, .fall, .op .arrive true, .op .arrive true] (by decide +kernel)
  have h4 : t2 wF ((rD 0).wk 4) = true := t2_by (vrD0.wk (by decide) (by decide)) vF fF [.op .ask false, .op .arrive false, .op .arrive false, .op .ask true, .fall, .op .arrive true, .op .arrive true] (by decide +kernel)
  unfold lkM lkF lkF lkF lkF lkF
  rw [if_pos h1, if_pos h2, if_pos h3, if_pos h4]
theorem lk_D1 : lkM wF (rD 1) = .int 1 := by
  have h1 : t2 wF ((rD 1).wk 1) = false := t2_no (vrD1.wk (by decide) (by decide)) vF ⟨fun _ => ⟨by decide, fun _ => by decide⟩, fun h => (nomatch h)⟩
  unfold lkM lkF
  rw [if_neg (by rw [h1]; simp)]
end
end Lw
set_option Elab.async false
set_option linter.all false
set_option maxRecDepth 100000
set_option maxHeartbeats 4000000
/-! A2: the law. -/
namespace Lw
open PySem PySem.Spec PyProof.Rows Dq
section
variable {g : Gm} {b n k : Nat} {S S' U : Sto}
def kDraw : List Dq.St := [(.asg (.name 3) (.call "_law_source" [(.var 0), (.var 1)])), (.asg (.tup [(.name 8), (.name 9)]) (.tup [(.tup [(.int 0), (.bl false), (.cmp .eq (.call "_law_pick" [(.var 3), (.int 2)]) (.int 0))]), (.call "_law_terms" [(.var 3), (.int 2)])])), (.ite (.not (.ix (.var 8) (.int 2))) [(.asg (.name 8) (.tup [(.call "_law_pick" [(.var 3), (.int 2)]), (.ix (.var 8) (.int 1)), (.bl false)]))] [])]
theorem t_draw (ns : List Int) (hn : ns.length ≤ 63) (x2 x3 x4 x5 x6 x7 x8 x9 x10 x11 x12 x13 : Option D) :
    ∃ w r y3 S', VP w ∧ VR r ∧ Few w r ∧ exes (lev T 12) 0 kDraw [some (.arr (ns.map D.int)), some (.int 0), x2, x3, x4, x5, x6, x7, x8, x9, x10, x11, x12, x13] S =
      .ok (.next [some (.arr (ns.map D.int)), some (.int 0), x2, y3, x4, x5, x6, x7, some (dWo w), some (dRu r), x10, x11, x12, x13]) S' := by
  obtain ⟨Z, hZ, e0⟩ := p_source (k := 11) (b := 0) (S := S) ns 0 (by omega) hn
  obtain ⟨j, Z1, j0, j1, hZ1, e1⟩ := p_pick (g := lev T 11) (b := 0) (S := S ++ [Z]) (s := S.length) (m := 2) (by omega) (by omega) hZ (by simp)
  have hS1 : ((S ++ [Z]).set S.length Z1) = S ++ [Z1] := by simp
  rw [hS1] at e1
  obtain ⟨r, Z2, vr, ⟨k1, k2, k3⟩, hZ2, e2⟩ := p_terms (k := 9) (b := 0) (m := 2) (by omega) (by omega) (S := S ++ [Z1]) (s := S.length) hZ1 (by simp)
  have hS2 : ((S ++ [Z1]).set S.length Z2) = S ++ [Z2] := by simp
  rw [hS2] at e2
  obtain ⟨i, Z3, i0, i1, hZ3, e3⟩ := p_pick (g := lev T 11) (b := 0) (S := S ++ [Z2]) (s := S.length) (m := 2) (by omega) (by omega) hZ2 (by simp)
  have hS3 : ((S ++ [Z2]).set S.length Z3) = S ++ [Z3] := by simp
  rw [hS3] at e3
  simp only [show (9 + 2 : Nat) = 11 from rfl, Int.ofNat_zero, Int.natCast_zero] at e0 e2
  by_cases hj : j = 0
  · refine ⟨⟨0, false, true⟩, r, some (.loc S.length), S ++ [Z2], ⟨by decide, by decide⟩, vr, .inl rfl, ?_⟩
    subst hj
    simp [kDraw, e0, e1, e2]
    rfl
  · refine ⟨⟨i, false, false⟩, r, some (.loc S.length), S ++ [Z3], ⟨i0, by show i ≤ 2; omega⟩, vr, ?_, ?_⟩
    · have : i = 0 ∨ i = 1 := by omega
      rcases this with rfl | rfl
      · exact .inl rfl
      · exact .inr ⟨rfl, k2⟩
    · simp [kDraw, e0, e1, e2, e3, hj]
      rfl
def kDue : List Dq.St := [(.asg (.name 10) (.bin .add (.tup [(.var 5)]) (.sl (.var 9) (some (.int 1)) none))), (.asg (.name 11) (.call "_law_harms" [(.var 8), (.var 10), (.call "_law_ways" [(.var 8), (.var 10)])])), (.asg (.name 4) (.ite (.cmp .isIn (.str "two") (.var 11)) (.var 4) (.var 5)))]
noncomputable def dueF (w : Wo) (r : Ru) (d : D) (i : Int) : D := if t2 w (r.wk i) = true then d else .int i
theorem t_due {w : Wo} {r : Ru} (vr : VR r) (vp : VP w) (f : Few w r) {i : Int} (h1 : 1 ≤ i) (h4 : i ≤ 4) (d : D) (x0 x1 x2 x3 x6 x7 x10 x11 x12 x13 : Option D) :
    ∃ y10 y11 S', exes (lev T 12) 0 kDue [x0, x1, x2, x3, some d, some (.int i), x6, x7, some (dWo w), some (dRu r), x10, x11, x12, x13] S =
      .ok (.next [x0, x1, x2, x3, some (dueF w r d i), some (.int i), x6, x7, some (dWo w), some (dRu r), y10, y11, x12, x13]) S' := by
  obtain ⟨F, H, nd, hH, hw, hh⟩ := p_lharm (k := 6) (vr.wk h1 h4) vp (good_few (few_wk f i))
  simp only [show (6 + 5 : Nat) = 11 from rfl] at hw hh
  have hh' := fun S => hh 0 (S ++ [.nd (encF F)]) S.length (by simp)
  have hni := fun S : Sto => ni_dic (n := 0) (S := S ++ [.nd (encF F), .dic (encH H)]) (f := S.length + 1) (H := H) (h := .two) false (by simp)
  rw [t2_is hH] at hni
  simp only [ha_2] at hni
  rw [dRu_wk] at hw hh'
  have hc : cutD [D.int r.keep, .int r.lease, .str (wAsked r.asked), .str (wYes r.again), .str (wNum r.numb), .int r.rest] (some 1) none = [.int r.lease, .str (wAsked r.asked), .str (wYes r.again), .str (wNum r.numb), .int r.rest] := rfl
  refine ⟨some (.tup [.int i, .int r.lease, .str (wAsked r.asked), .str (wYes r.again), .str (wNum r.numb), .int r.rest]), some (.loc (S.length + 1)), S ++ [.nd (encF F), .dic (encH H)], ?_⟩
  unfold dueF
  by_cases ht : t2 w (r.wk i) = true
  · rw [if_pos ht]
    rw [ht] at hni
    simp [kDue, hc, hw, hh', hni]
  · rw [if_neg ht]
    rw [Bool.not_eq_true] at ht
    rw [ht] at hni
    simp [kDue, hc, hw, hh', hni]
theorem due_is (w : Wo) (r : Ru) : dueF w r (dueF w r (dueF w r (dueF w r .non 4) 3) 2) 1 = lkM w r := by
  simp only [dueF, lkM, lkF]
theorem t_dues {w : Wo} {r : Ru} (vr : VR r) (vp : VP w) (f : Few w r) (x0 x1 x2 x3 x4 x5 x6 x7 x10 x11 x12 x13 : Option D) :
    ∃ y5 y10 y11 S', exes (lev T 12) 0 [(.asg (.name 4) .non), (.for_ (.name 5) .seq [(.tup [(.int 4), (.int 3), (.int 2), (.int 1)])] kDue)] [x0, x1, x2, x3, x4, x5, x6, x7, some (dWo w), some (dRu r), x10, x11, x12, x13] S =
      .ok (.next [x0, x1, x2, x3, some (lkM w r), y5, x6, x7, some (dWo w), some (dRu r), y10, y11, x12, x13]) S' := by
  obtain ⟨a10, a11, S1, e1⟩ := t_due (S := S) vr vp f (i := 4) (by omega) (by omega) .non x0 x1 x2 x3 x6 x7 x10 x11 x12 x13
  obtain ⟨b10, b11, S2, e2⟩ := t_due (S := S1) vr vp f (i := 3) (by omega) (by omega) (dueF w r .non 4) x0 x1 x2 x3 x6 x7 a10 a11 x12 x13
  obtain ⟨c10, c11, S3, e3⟩ := t_due (S := S2) vr vp f (i := 2) (by omega) (by omega) (dueF w r (dueF w r .non 4) 3) x0 x1 x2 x3 x6 x7 b10 b11 x12 x13
  obtain ⟨d10, d11, S4, e4⟩ := t_due (S := S3) vr vp f (i := 1) (by omega) (by omega) (dueF w r (dueF w r (dueF w r .non 4) 3) 2) x0 x1 x2 x3 x6 x7 c10 c11 x12 x13
  rw [due_is] at e4
  exact ⟨some (.int 1), d10, d11, S4, by simp [e1, e2, e3, e4]⟩
def kCmp : List Dq.St := [(.ite (.cmp .ne (.call "_law_outcome" [(.var 8), (.var 9)]) (.var 4)) [(.ret (.bl false))] []), (.ite (.or (.cmp .ne (.call "_law_outcome" [(.sl (.var 8) none (some (.int 2))), (.int 0)]) (.str "world!")) (.cmp .ne (.call "_law_outcome" [(.var 8), (.blt .list [(.var 9)])]) (.str "rule!"))) [(.ret (.bl false))] [])]
@[simp] theorem list_tup {ds : List D} : altL listD dlistD [.tup ds] n S = .ok (.loc S.length) (S ++ [.lst ds]) := rfl
@[simp] theorem list_ru (r : Ru) : altL listD dlistD [dRu r] n S = .ok (.loc S.length) (S ++ [.lst [.int r.keep, .int r.lease, .str (wAsked r.asked), .str (wYes r.again), .str (wNum r.numb), .int r.rest]]) := rfl
theorem t_cmp {w : Wo} {r : Ru} (vr : VR r) (vp : VP w) (f : Few w r) (x0 x1 x2 x3 x5 x6 x7 x10 x11 x12 x13 : Option D) :
    ∃ S', exes (lev T 12) 0 kCmp [x0, x1, x2, x3, some (lkM w r), x5, x6, x7, some (dWo w), some (dRu r), x10, x11, x12, x13] S = .ok (.next [x0, x1, x2, x3, some (lkM w r), x5, x6, x7, some (dWo w), some (dRu r), x10, x11, x12, x13]) S' := by
  have h1 : ∀ S, runFn (lev T 11) f__law_outcome [dWo w, dRu r] 0 S = .ok (lkM w r) S := fun S => out_ok (k := 3) vr vp f
  have h2 : ∀ S, runFn (lev T 11) f__law_outcome [.tup [.int w.delay, .bl w.lossy], .int 0] 0 S = .ok (.str "world!") S := fun S => out_world (k := 3)
  have h3 : ∀ (S : Sto) ds, runFn (lev T 11) f__law_outcome [dWo w, .loc S.length] 0 (S ++ [.lst ds]) = .ok (.str "rule!") (S ++ [.lst ds]) := fun S ds => out_rule (k := 3) vp (by simp; rfl)
  have h4 : ∀ S : Sto, eqD true (lkM w r) (lkM w r) 0 S = .ok (.bl false) S := fun S => eq_lk true w r
  exact ⟨S ++ [.lst [.int r.keep, .int r.lease, .str (wAsked r.asked), .str (wYes r.again), .str (wNum r.numb), .int r.rest]], by simp [kCmp, h1, h2, h3, h4]⟩
def elA : E := .call "least_keep" [(.var 6), (.tup [(.int 1), (.int 2), (.var 12), (.str "no"), (.str "no"), (.int 0)])]
def elC : E := .call "least_keep" [(.tup [(.int 0), (.bl false), (.bl false)]), (.tup [(.int 1), (.int 4), (.str "asked"), (.str "no"), (.str "no"), (.int 0)])]
def elD : E := .call "least_keep" [(.var 7), (.tup [(.int 1), (.int 1), (.str "asked"), (.str "no"), (.str "no"), (.var 13)])]
def kFin : List Dq.St := [(.asg (.tup [(.name 6), (.name 7)]) (.tup [(.tup [(.int 1), (.bl false), (.bl false)]), (.tup [(.int 0), (.bl false), (.bl true)])])), (.asg (.name 2) (.lc [("_law_origin", 12)] (.name 12) .seq [(.tup [(.str "asked"), (.str "came")])] none elA)), (.ite (.or (.cmp .ne (.var 2) (.lst [(.int 2), (.int 3)])) (.cmp .ne elC (.int 4))) [(.ret (.bl false))] []), (.ret (.cmp .eq (.lc [("_law_pause", 13)] (.name 13) .seq [(.tup [(.int 0), (.int 1)])] none elD) (.lst [.non, (.int 1)])))]
theorem eqL_23 : eqL true S (some (.lst [.int 2, .int 3])) (some (.lst [.int 2, .int 3])) = .ok (.bl false) S := by
  rw [show ([D.int 2, D.int 3] : List D) = [(2 : Int), 3].map D.int from rfl, eqL_ints]
  rfl
theorem eqL_n1 : eqL false S (some (.lst [.non, .int 1])) (some (.lst [.non, .int 1])) = .ok (.bl true) S := by
  unfold eqL
  dsimp only
  rw [show (15 : Nat) = 14 + 1 from rfl]
  simp
  rfl
theorem kA : runFn (lev T 11) f_least_keep [.tup [.int 1, .bl false, .bl false], .tup [.int 1, .int 2, .str "asked", .str "no", .str "no", .int 0]] n S = .ok (.int 2) S := by
  have h := lk_few (k := 4) (n := n) (S := S) vrA vS (fS (by decide))
  rw [lk_A] at h
  exact h
theorem kB : runFn (lev T 11) f_least_keep [.tup [.int 1, .bl false, .bl false], .tup [.int 1, .int 2, .str "came", .str "no", .str "no", .int 0]] n S = .ok (.int 3) S := by
  have h := lk_few (k := 4) (n := n) (S := S) vrB vS (fS (by decide))
  rw [lk_B] at h
  exact h
theorem kC : runFn (lev T 11) f_least_keep [.tup [.int 0, .bl false, .bl false], .tup [.int 1, .int 4, .str "asked", .str "no", .str "no", .int 0]] n S = .ok (.int 4) S := by
  have h := lk_few (k := 4) (n := n) (S := S) vrC vQ fQ
  rw [lk_C] at h
  exact h
theorem kD0 : runFn (lev T 11) f_least_keep [.tup [.int 0, .bl false, .bl true], .tup [.int 1, .int 1, .str "asked", .str "no", .str "no", .int 0]] n S = .ok .non S := by
  have h := lk_few (k := 4) (n := n) (S := S) vrD0 vF fF
  rw [lk_D0] at h
  exact h
theorem kD1 : runFn (lev T 11) f_least_keep [.tup [.int 0, .bl false, .bl true], .tup [.int 1, .int 1, .str "asked", .str "no", .str "no", .int 1]] n S = .ok (.int 1) S := by
  have h := lk_few (k := 4) (n := n) (S := S) vrD1 vF fF
  rw [lk_D1] at h
  exact h
theorem den_call {f : Str} {es : List E} {Fu : Fun'} {ρ : Env'} {ds : List D} {S1 : Sto} (hF : g.F f = some Fu) (h : denL g b es ρ S = .ok ds S1) : den g b (.call f es) ρ S = Fu ds b S1 := by
  simp only [den, hF, h]
  rfl
theorem den_A0 (x0 x1 x2 x3 x4 x5 x7 x8 x9 x10 x11 x13 : Option D) : den (lev T 12) b elA [x0, x1, x2, x3, x4, x5, some (.tup [.int 1, .bl false, .bl false]), x7, x8, x9, x10, x11, some (.str "asked"), x13] S = .ok (.int 2) S :=
  (den_call (F_least_keep 11) (by simp)).trans kA
theorem den_A1 (x0 x1 x2 x3 x4 x5 x7 x8 x9 x10 x11 x13 : Option D) : den (lev T 12) b elA [x0, x1, x2, x3, x4, x5, some (.tup [.int 1, .bl false, .bl false]), x7, x8, x9, x10, x11, some (.str "came"), x13] S = .ok (.int 3) S :=
  (den_call (F_least_keep 11) (by simp)).trans kB
theorem den_C {ρ : Env'} : den (lev T 12) b elC ρ S = .ok (.int 4) S :=
  (den_call (F_least_keep 11) (by simp)).trans kC
theorem den_D0 (x0 x1 x2 x3 x4 x5 x6 x8 x9 x10 x11 x12 : Option D) : den (lev T 12) b elD [x0, x1, x2, x3, x4, x5, x6, some (.tup [.int 0, .bl false, .bl true]), x8, x9, x10, x11, x12, some (.int 0)] S = .ok .non S :=
  (den_call (F_least_keep 11) (by simp)).trans kD0
theorem den_D1 (x0 x1 x2 x3 x4 x5 x6 x8 x9 x10 x11 x12 : Option D) : den (lev T 12) b elD [x0, x1, x2, x3, x4, x5, x6, some (.tup [.int 0, .bl false, .bl true]), x8, x9, x10, x11, x12, some (.int 1)] S = .ok (.int 1) S :=
  (den_call (F_least_keep 11) (by simp)).trans kD1
theorem asg_name {i : Nat} {e : E} {ρ : Env'} {d : D} {S1 : Sto} (h : den g b e ρ S = .ok d S1) : exes g b [.asg (.name i) e] ρ S = .ok (.next (ρ.set i (some d))) S1 := by
  simp only [exes, exe, h, Out.bind, asgG]
theorem lc_A (x0 x1 x2 x3 x4 x5 x7 x8 x9 x10 x11 x12 x13 : Option D) :
    den (lev T 12) 0 (.lc [("_law_origin", 12)] (.name 12) .seq [(.tup [(.str "asked"), (.str "came")])] none elA) [x0, x1, x2, x3, x4, x5, some (.tup [.int 1, .bl false, .bl false]), x7, x8, x9, x10, x11, x12, x13] S = .ok (.loc S.length) (S ++ [.lst [.int 2, .int 3]]) := by
  simp [den_A0, den_A1]
theorem lc_D (x0 x1 x2 x3 x4 x5 x6 x8 x9 x10 x11 x12 x13 : Option D) :
    den (lev T 12) 0 (.lc [("_law_pause", 13)] (.name 13) .seq [(.tup [(.int 0), (.int 1)])] none elD) [x0, x1, x2, x3, x4, x5, x6, some (.tup [.int 0, .bl false, .bl true]), x8, x9, x10, x11, x12, x13] S = .ok (.loc S.length) (S ++ [.lst [.non, .int 1]]) := by
  simp [den_D0, den_D1]
theorem t_fin1 (x0 x1 x2 x3 x4 x5 x6 x7 x8 x9 x10 x11 x12 x13 : Option D) :
    exes (lev T 12) 0 (kFin.take 1) [x0, x1, x2, x3, x4, x5, x6, x7, x8, x9, x10, x11, x12, x13] S = .ok (.next [x0, x1, x2, x3, x4, x5, some (.tup [.int 1, .bl false, .bl false]), some (.tup [.int 0, .bl false, .bl true]), x8, x9, x10, x11, x12, x13]) S := by
  simp [kFin]
def cdF : E := .or (.cmp .ne (.var 2) (.lst [(.int 2), (.int 3)])) (.cmp .ne elC (.int 4))
theorem t_fin2 (x0 x1 x3 x4 x5 x6 x7 x8 x9 x10 x11 x12 x13 : Option D) {m : Nat} (h : S[m]? = some (.lst [.int 2, .int 3])) :
    den (lev T 12) 0 cdF [x0, x1, some (.loc m), x3, x4, x5, x6, x7, x8, x9, x10, x11, x12, x13] S = .ok (.bl false) (S ++ [.lst [.int 2, .int 3]]) := by
  have h' := get_app h
  simp [cdF, den_C, h', eqL_23]
theorem ite_no {c : E} {p : List Dq.St} {ρ : Env'} {S1 : Sto} (h : den g b c ρ S = .ok (.bl false) S1) : exes g b [.ite c p []] ρ S = .ok (.next ρ) S1 := by
  simp only [exes, exe, h, tst, Out.bind, truD]
  rfl
def rtF : E := .cmp .eq (.lc [("_law_pause", 13)] (.name 13) .seq [(.tup [(.int 0), (.int 1)])] none elD) (.lst [.non, (.int 1)])
theorem t_fin3 (x0 x1 x2 x3 x4 x5 x6 x8 x9 x10 x11 x12 x13 : Option D) :
    den (lev T 12) 0 rtF [x0, x1, x2, x3, x4, x5, x6, some (.tup [.int 0, .bl false, .bl true]), x8, x9, x10, x11, x12, x13] S = .ok (.bl true) (S ++ [.lst [.non, .int 1], .lst [.non, .int 1]]) := by
  simp [-n_lc, rtF, lc_D, eqL_n1]
theorem ret_ok {e : E} {ρ : Env'} {d : D} {S1 : Sto} (h : den g b e ρ S = .ok d S1) : exes g b [.ret e] ρ S = .ok (.ret d) S1 := by
  simp only [exes, exe, h, Out.bind]
theorem t_fin (x0 x1 x2 x3 x4 x5 x6 x7 x8 x9 x10 x11 x12 x13 : Option D) :
    ∃ S', exes (lev T 12) 0 kFin [x0, x1, x2, x3, x4, x5, x6, x7, x8, x9, x10, x11, x12, x13] S = .ok (.ret (.bl true)) S' := by
  have h1 := t_fin1 (S := S) x0 x1 x2 x3 x4 x5 x6 x7 x8 x9 x10 x11 x12 x13
  have h2 := asg_name (i := 2) (lc_A (S := S) x0 x1 x2 x3 x4 x5 (some (.tup [.int 0, .bl false, .bl true])) x8 x9 x10 x11 x12 x13)
  have h3 := ite_no (p := [(.ret (.bl false))]) (t_fin2 (S := S ++ [.lst [.int 2, .int 3]]) x0 x1 x3 x4 x5 (some (.tup [.int 1, .bl false, .bl false])) (some (.tup [.int 0, .bl false, .bl true])) x8 x9 x10 x11 x12 x13 (m := S.length) (by simp))
  have h4 := ret_ok (t_fin3 (S := S ++ [.lst [.int 2, .int 3]] ++ [.lst [.int 2, .int 3]]) x0 x1 (some (.loc S.length)) x3 x4 x5 (some (.tup [.int 1, .bl false, .bl false])) x8 x9 x10 x11 x12 x13)
  rw [show kFin = kFin.take 1 ++ ([.asg (.name 2) (.lc [("_law_origin", 12)] (.name 12) .seq [(.tup [(.str "asked"), (.str "came")])] none elA)] ++ ([.ite cdF [(.ret (.bl false))] []] ++ [.ret rtF])) from by kernel_rfl, exes_then _ _ _ h1, exes_then _ _ _ h2]
  exact ⟨_, (exes_then _ _ _ h3).trans h4⟩
theorem b_law_is : b_law = [.for_ (.name 1) .rng [(.int 1)] (kDraw ++ ([(.asg (.name 4) .non), (.for_ (.name 5) .seq [(.tup [(.int 4), (.int 3), (.int 2), (.int 1)])] kDue)] ++ kCmp))] ++ kFin := by kernel_rfl
theorem t_loop (ns : List Int) (hn : ns.length ≤ 63) :
    ∃ y2 y3 y4 y5 y6 y7 y8 y9 y10 y11 y12 y13 S', exes (lev T 12) 0 [.for_ (.name 1) .rng [(.int 1)] (kDraw ++ ([(.asg (.name 4) .non), (.for_ (.name 5) .seq [(.tup [(.int 4), (.int 3), (.int 2), (.int 1)])] kDue)] ++ kCmp))] [some (.arr (ns.map D.int)), none, none, none, none, none, none, none, none, none, none, none, none, none] [] =
      .ok (.next [some (.arr (ns.map D.int)), some (.int 0), y2, y3, y4, y5, y6, y7, y8, y9, y10, y11, y12, y13]) S' := by
  obtain ⟨w, r, y3, S1, vp, vr, f, e1⟩ := t_draw (S := []) ns hn none none none none none none none none none none none none
  obtain ⟨y5, y10, y11, S2, e2⟩ := t_dues (S := S1) vr vp f (some (.arr (ns.map D.int))) (some (.int 0)) none y3 none none none none none none none none
  obtain ⟨S3, e3⟩ := t_cmp (S := S2) vr vp f (some (.arr (ns.map D.int))) (some (.int 0)) none y3 y5 none none y10 y11 none none
  refine ⟨none, y3, some (lkM w r), y5, none, none, some (dWo w), some (dRu r), y10, y11, none, none, S3, ?_⟩
  have e4 := exes_then _ _ _ e1 (B := [(.asg (.name 4) .non), (.for_ (.name 5) .seq [(.tup [(.int 4), (.int 3), (.int 2), (.int 1)])] kDue)] ++ kCmp)
  rw [exes_then _ _ _ e2, e3] at e4
  have hd : denL (lev T 12) 0 [(.int 1)] [some (.arr (ns.map D.int)), none, none, none, none, none, none, none, none, none, none, none, none, none] [] = .ok [.int ((1 : Nat) : Int)] [] := by simp
  rw [x_cons, s_for, hd, srcF_rng (by omega), forZ_ok, cnt_rng, forL_s, cur_rng (by omega), forA_s]
  show sqK _ _ _ (forB _ _ _ _ _ _ _ _ (some [some (.arr (ns.map D.int)), some (.int (0 + ((0 : Nat) : Int))), none, none, none, none, none, none, none, none, none, none, none, none])) = _
  rw [show (0 : Int) + ((0 : Nat) : Int) = 0 from rfl, forB_s, e4, forC_n, forL_0, cur_rng_e]
  rfl
theorem law_pure (ns : List Int) (hn : ns.length ≤ 63) : ∃ S, runFn (lev T 12) f_law [.arr (ns.map D.int)] 0 [] = .ok (.bl true) S := by
  obtain ⟨y2, y3, y4, y5, y6, y7, y8, y9, y10, y11, y12, y13, S1, e1⟩ := t_loop ns hn
  obtain ⟨S2, e2⟩ := t_fin (S := S1) (some (.arr (ns.map D.int))) (some (.int 0)) y2 y3 y4 y5 y6 y7 y8 y9 y10 y11 y12 y13
  refine ⟨S2.take 0, ?_⟩
  rw [run_cut rfl rfl]
  show gcOut 0 (ret1 (exes (lev T 12) 0 b_law [some (.arr (ns.map D.int)), none, none, none, none, none, none, none, none, none, none, none, none, none] [])) = _
  rw [b_law_is, exes_then _ _ _ e1, e2]
  rfl
end
end Lw
set_option Elab.async false
set_option linter.all false
set_option maxRecDepth 100000
set_option maxHeartbeats 0

open PySem PySem.W PySem.Calls PyProof.Rows
theorem law_end (pure : ∀ ns : List Int, ns.length ≤ 63 → ∃ S, Dq.runFn (Dq.lev Lw.T 12) Lw.f_law [.arr (ns.map Dq.D.int)] 0 [] = .ok (.bl true) S) : PySem.Challenge.rw_believedheld_k23_the_least_keeping.Holds := by
  w_on; o_law
  refine HandSHeadRun.head_any (r := OpenLaw.row PySem.Challenge.rw_believedheld_k23_the_least_keeping) (q := view (OpenLaw.row PySem.Challenge.rw_believedheld_k23_the_least_keeping).prog [52]) (H := Lw.hk) (ob := Lw.ob) (M := 4000) (loose := Lw.names) (d := HandSHeadRun.topDef (OpenLaw.row PySem.Challenge.rw_believedheld_k23_the_least_keeping).prog 52) (kwd := []) Lw.ob_eq
    (by kernel_rfl) (fun s => by kernel_rfl) Lw.run (by kernel_rfl) (by kernel_rfl) (by kernel_rfl) (by rfl) (by first | assumption | decide +kernel) (by decide +kernel) ⟨rfl, rfl, rfl, rfl, rfl, by decide +kernel⟩ ?hw ?hc
  case hw => w_witness2
  case hc =>
    refine Dq.walk_x (l := PySem.Challenge.rw_believedheld_k23_the_least_keeping) (n := 63) (k := 13) (x := "_law_script") rfl (by decide) (by kernel_rfl) ⟨rfl, by decide, by decide⟩ ?F
    intro w mg fa h Y G hmg0
    obtain ⟨K, KX, c⟩ := Y
    have hmg : mg ("law" : PySem.Str) = some (.ref fa) := by
      have e : (HandSHeadRun.topDef (OpenLaw.row PySem.Challenge.rw_believedheld_k23_the_least_keeping).prog 52).name = ("law" : PySem.Str) := by kernel_rfl
      rw [← e]
      exact hmg0
    obtain ⟨fd, hb, hF⟩ := Lw.facts (P := (PySem.Challenge.rw_believedheld_k23_the_least_keeping).prog) (w := w) KX G hmg c 12
    exact ⟨K, fd, _, KX, hb, fun H a ns hl hO hS => Dq.law_sp pure H a ns hl hO hS, hF⟩
theorem PySem.Challenge.cw_believedheld_k23_the_least_keeping_holds : PySem.Challenge.rw_believedheld_k23_the_least_keeping.Holds := law_end Lw.law_pure
